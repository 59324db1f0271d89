import Derived.Test.YtfffbbadpgefmaaGreatDoorU4
set_option linter.all false
namespace Go.GP
open Gt
set_option maxRecDepth 100000
theorem AL {m:Int} (h:gy m=true):m=0∨m=1∨m=2∨m=3∨m=4∨m=5:=by
 unfold gy at h
 cases h0:ile 0 m <;> rw[h0]at h
 ·cases h
 ·simp only[o6]at h;rw[jv]at h0 h;omega
theorem Bd {n d mode:Int} (h1:-9000000000000000000≤n / d) (h2:n / d≤9000000000000000000) (hd:0<d) (hd2:d≤9000000000000000000) (hm:gy mode=true):U6 (n / d) (n % d) d mode=some (rnd n d mode):=by
 have hdm:=Int.ediv_mul_add_emod n d
 have f0:=Int.emod_nonneg n (show d≠0 by omega)
 have f1:=Int.emod_lt_of_pos n hd
 have hid:O0 d=d:=by unfold O0;rw[if_neg (by omega)]
 have hneg:D6 (dB (ilt n 0) (ilt d 0))=ilt n 0:=by rw[E9 (show(0:Int)≤d by omega)];cases ilt n 0 <;> rfl
 unfold rnd
 rw[hid,hneg]
 have R0:∀F R:Int,U6 F R d 0=l7 (ieq R 0) (some F) (some F):=fun F R=>rfl
 have R1:∀F R:Int,U6 F R d 1=l7 (ieq R 0) (some F) (some (x8 .i64 F 1)):=fun F R=>rfl
 have R2:∀F R:Int,U6 F R d 2=l7 (ieq R 0) (some F) (l9 (l7 (ilt F 0) (some true) (some false)) fun x=>l7 x (some (x8 .i64 F 1)) (some F)):=fun F R=>rfl
 have R3:∀F R:Int,U6 F R d 3=l7 (ieq R 0) (some F) (l9 (some (ile 0 F)) fun x=>l7 x (some (x8 .i64 F 1)) (some F)):=fun F R=>rfl
 have R4:∀F R:Int,U6 F R d 4=l7 (ieq R 0) (some F) (l7 (ieq R (G8 .i64 d R)) (l7 (ile 0 F) (some (x8 .i64 F 1)) (some F)) (l7 (ilt (G8 .i64 d R) R) (some (x8 .i64 F 1)) (some F))):=fun F R=>rfl
 have R5:∀F R:Int,U6 F R d 5=l7 (ieq R 0) (some F) (l7 (ieq R (G8 .i64 d R)) (l7 (D6 (ieq (X5 F 2) 0)) (some (x8 .i64 F 1)) (some F)) (l7 (ilt (G8 .i64 d R) R) (some (x8 .i64 F 1)) (some F))):=fun F R=>rfl
 have u0:∀q r:Int,∀b,upS q r d b 0=l7 (ieq r 0) false b:=fun q r b=>rfl
 have u1:∀q r:Int,∀b,upS q r d b 1=l7 (ieq r 0) false (D6 b):=fun q r b=>rfl
 have u2:∀q r:Int,∀b,upS q r d b 2=l7 (ieq r 0) false false:=fun q r b=>rfl
 have u3:∀q r:Int,∀b,upS q r d b 3=l7 (ieq r 0) false true:=fun q r b=>rfl
 have u4:∀q r:Int,∀b,upS q r d b 4=l7 (ieq r 0) false (ile (d -r) r):=fun q r b=>rfl
 have u5:∀q r:Int,∀b,upS q r d b 5=l7 (ieq r 0) false (l7 (ilt (d -r) r) true (l7 (ieq r (d -r)) (ieq (X5 q 2) 1) false)):=fun q r b=>rfl
 by_cases h0:0≤n
 ·have e0:=Int.ediv_nonneg h0 (show 0≤d by omega)
  have e1:=Int.ediv_le_self d h0
  rw[show O0 n=n by unfold O0;rw[if_neg (by omega)],E9 h0]
  have hi:x8 .i64 (n / d) 1=n / d+1:=N7 (by unfold I64;omega)
  have hs:G8 .i64 d (n % d)=d -n % d:=J4 (by unfold I64;omega)
  have hir:X5 (n / d) 2=(n / d) % 2:=qW e0
  generalize n / d=F at*
  generalize n % d=R at*
  rcases AL hm with rfl | rfl | rfl | rfl | rfl | rfl
  ·rw[R0,u0];cases ieq R 0 <;> rfl
  ·rw[R1,u1,hi];cases ieq R 0 <;> rfl
  ·rw[R2,u2,hi,E9 e0];cases ieq R 0 <;> rfl
  ·rw[R3,u3,hi,H5 e0];cases ieq R 0 <;> rfl
  ·rw[R4,u4,hi,hs,H5 e0]
   cases ieq R 0
   case true=>rfl
   by_cases ht:R=d -R
   ·rw[F5 ht,H5 (show d -R≤R by omega)];rfl
   ·rw[E5 ht]
    by_cases hl:d -R<R
    ·rw[F7 hl,H5 (show d -R≤R by omega)];rfl
    ·rw[E9 (show R≤d -R by omega),H7 (show R<d -R by omega)];rfl
  ·rw[R5,u5,hi,hs,hir]
   cases ieq R 0
   case true=>rfl
   by_cases ht:R=d -R
   ·rw[F5 ht,E9 (show R≤d -R by omega)]
    by_cases hp:F % 2=0
    ·rw[F5 hp,E5 (show F % 2≠1 by omega)];rfl
    ·rw[E5 hp,F5 (show F % 2=1 by omega)];rfl
   ·rw[E5 ht]
    by_cases hl:d -R<R
    ·rw[F7 hl];rfl
    ·rw[E9 (show R≤d -R by omega)];rfl
 ·obtain⟨m,hmm⟩:∃m,m=-n:=⟨_,rfl⟩
  have e0:=Int.ediv_nonneg (show 0≤m by omega) (show 0≤d by omega)
  have e1:=Int.ediv_le_self d (show 0≤m by omega)
  have e2:=Int.emod_nonneg m (show d≠0 by omega)
  have e3:=Int.emod_lt_of_pos m hd
  have hdm2:=Int.ediv_mul_add_emod m d
  rw[show O0 n=m by unfold O0;rw[if_pos (by omega)];omega,F7 (by omega)]
  by_cases hz:m % d=0
  ·have hne:n=0+(-(m / d))*d:=by rw[Int.neg_mul];omega
   have q1:n / d=-(m / d):=by rw[hne,Int.add_mul_ediv_right _ _ (by omega)];simp
   have q2:n % d=0:=by rw[hne,Int.add_mul_emod_self_right];simp
   rw[q1,q2,hz]
   rcases AL hm with rfl | rfl | rfl | rfl | rfl | rfl <;> rfl
  ·have hne:n=(d -m % d)+(-(m / d) -1)*d:=by rw[Int.sub_mul,Int.neg_mul,Int.one_mul];omega
   have q1:n / d=-(m / d) -1:=by
    rw[hne,Int.add_mul_ediv_right _ _ (by omega),Int.ediv_eq_zero_of_lt (by omega) (by omega)];omega
   have q2:n % d=d -m % d:=by
    rw[hne,Int.add_mul_emod_self_right,Int.emod_eq_of_lt (by omega) (by omega)]
   rw[q1]at h1 h2
   rw[q1,q2]
   generalize m / d=q at*
   generalize m % d=r at*
   have hi:x8 .i64 (-q -1) 1=-q:=by rw[N7 (by unfold I64;omega)];omega
   have hs:G8 .i64 d (d -r)=r:=by rw[J4 (by unfold I64;omega)];omega
   have hF:∀k:Int,Go.GP.q1 q false=q∧Go.GP.q1 q true=q+1:=fun k=>⟨rfl,rfl⟩
   have sg1:sg (Go.GP.q1 q true) true=-q -1:=by show -(q+1)=-q -1;omega
   have sg0:sg (Go.GP.q1 q false) true=-q:=rfl
   have hr0:ieq (d -r) 0=false:=E5 (by omega)
   have hr1:ieq r 0=false:=E5 hz
   rcases AL hm with rfl | rfl | rfl | rfl | rfl | rfl
   ·rw[R0,u0,hr0,hr1,o5,o5,sg1]
   ·rw[R1,u1,hi,hr0,hr1,o5,o5,o9,sg0]
   ·rw[R2,u2,hi,hr0,hr1,o5,o5,sg0,F7 (by omega)];rfl
   ·rw[R3,u3,hi,hr0,hr1,o5,o5,sg1,H7 (by omega)];rfl
   ·rw[R4,u4,hi,hs,hr0,hr1,o5,o5,H7 (show -q -1<0 by omega)]
    by_cases ht:d -r=r
    ·rw[F5 ht,H5 (show d -r≤r by omega),sg1];rfl
    ·rw[E5 ht]
     by_cases hl:r<d -r
     ·rw[F7 hl,H7 hl,sg0];rfl
     ·rw[E9 (show d -r≤r by omega),H5 (show d -r≤r by omega),sg1];rfl
   ·rw[R5,u5,hi,hs,hr0,hr1,o5,o5]
    by_cases ht:d -r=r
    ·rw[F5 ht,E9 (show r≤d -r by omega),F5 ht.symm]
     have hodd:X5 (-q -1) 2=-((q+1) % 2):=by
      unfold X5
      rw[show -q -1=-(q+1) by omega,Int.neg_tmod,Int.tmod_eq_emod_of_nonneg (by omega)]
     have hir:X5 q 2=q % 2:=qW e0
     rw[hodd,hir]
     simp only[o6,o5]
     by_cases hp:q % 2=1
     ·rw[F5 (show -((q+1) % 2)=0 by omega),F5 hp,sg1];rfl
     ·rw[E5 (show -((q+1) % 2)≠0 by omega),E5 hp,sg0];rfl
    ·rw[E5 ht,E5 (show r≠d -r by omega)]
     by_cases hl:r<d -r
     ·rw[F7 hl,E9 (show r≤d -r by omega)]
      simp only[o6,o5];rw[sg0]
     ·rw[E9 (show d -r≤r by omega),F7 (show d -r<r by omega)]
      simp only[o6,o5];rw[sg1]
def a2T (a b mode:Int):Int×Int:=l7 (gy mode) (l7 (dF a 1000000000) (0,3) (l7 (dF b 1000000000) (0,3) (l7 (dF (rnd (a*b) 1000000 mode) 1000000000) (0,3) (rnd (a*b) 1000000 mode,0)))) (0,1)
theorem a2m {a b A B:Int} (h1:-A≤a∧a≤A) (h2:-B≤b∧b≤B):-(A*B)≤a*b∧a*b≤A*B:=by
 have hA:0≤A:=by omega
 have hB:0≤B:=by omega
 have k1:a*b≤A*B∧-(A*B)≤a*b:=by
  rcases Hl a 0 with ha | ha
  ·have e:a*b=-((-a)*b):=by rw[Int.neg_mul];omega
   rcases Hl b 0 with hb | hb
   ·have e2:a*b=(-a)*(-b):=by rw[Int.neg_mul_neg]
    have:=Int.mul_le_mul (show -a≤A by omega) (show -b≤B by omega) (by omega) hA
    have:=Int.mul_nonneg (show 0≤-a by omega) (show 0≤-b by omega)
    have:=Int.mul_nonneg hA hB
    omega
   ·have:=Int.mul_le_mul (show -a≤A by omega) h2.2 hb hA
    have:=Int.mul_nonneg (show 0≤-a by omega) hb
    have:=Int.mul_nonneg hA hB
    omega
  ·rcases Hl b 0 with hb | hb
   ·have e:a*b=-(a*(-b)):=by rw[Int.mul_neg];omega
    have:=Int.mul_le_mul h1.2 (show -b≤B by omega) (by omega) hA
    have:=Int.mul_nonneg ha (show 0≤-b by omega)
    have:=Int.mul_nonneg hA hB
    omega
   ·have:=Int.mul_le_mul h1.2 h2.2 hb hA
    have:=Int.mul_nonneg ha hb
    have:=Int.mul_nonneg hA hB
    omega
 exact⟨k1.2,k1.1⟩
theorem b1b (a b mode:Int):FN a b mode=some (a2T a b mode):=by
 unfold FN a2T
 rw[NS,o7]
 cases hm:gy mode
 ·rfl
 simp only[o9,o5,o6]
 rw[rf a (by omega) (by omega),o7]
 cases h1:dF a 1000000000
 case true=>rfl
 simp only[o5]
 rw[rf b (by omega) (by omega),o7]
 cases h2:dF b 1000000000
 case true=>rfl
 simp only[o5]
 have pb:=a2m (iO h1) (iO h2)
 rw[eG (by unfold I64;omega),Ap,o7]
 unfold Zr
 rw[hm,E5 (show(1000000:Int)≠0 by decide),Gx (by omega),Gx (by omega)]
 simp only[o6,o5,F5 (rfl:(0:Int)=0),o9]
 rw[rf _ (by omega) (by omega),o7]
 cases dF (rnd (a*b) 1000000 mode) 1000000000 <;> rfl
theorem XU {m:Int} {A B:Option (PUnit⊕(Int×Int))} :l7 (ilt m 0) A (l7 (ilt 5 m) A B)=l7 (gy m) B A:=by
 unfold gy
 rw[iQ m 0,iQ 5 m]
 cases ile 0 m <;> cases ile m 5 <;> rfl
theorem a7o (a b mode:Int):CU a b mode=some (a2T a b mode):=by
 unfold CU a2T
 have hmode:∀A B:Option (Int×Int),l7 (ilt mode 0) A (l7 (ilt 5 mode) A B)=l7 (gy mode) B A:=fun A B=>by
  unfold gy
  rw[iQ mode 0,iQ 5 mode]
  cases ile 0 mode <;> cases ile mode 5 <;> rfl
 rw[hmode]
 cases hm:gy mode
 ·rfl
 simp only[o6]
 rw[oV a (by omega) (by omega),o7]
 cases h1:dF a 1000000000
 case true=>rfl
 simp only[o5]
 rw[oV b (by omega) (by omega),o7]
 cases h2:dF b 1000000000
 case true=>rfl
 simp only[o5]
 have pb:=a2m (iO h1) (iO h2)
 rw[eG (by unfold I64;omega),Xu (by omega) (by omega) (by omega) (by omega),o7]
 simp only
 rw[Bd (by omega) (by omega) (by omega) (by omega) hm,o7,oV _ (by omega) (by omega),o7]
 cases dF (rnd (a*b) 1000000 mode) 1000000000 <;> rfl
theorem a0q {n d:Int} (mode:Int) (hd:0<d):n / d≤rnd n d mode∧rnd n d mode≤n / d+1:=by
 have hid:O0 d=d:=by unfold O0;rw[if_neg (by omega)]
 have hneg:D6 (dB (ilt n 0) (ilt d 0))=ilt n 0:=by rw[E9 (show(0:Int)≤d by omega)];cases ilt n 0 <;> rfl
 unfold rnd
 rw[hid,hneg]
 by_cases h0:0≤n
 ·rw[show O0 n=n by unfold O0;rw[if_neg (by omega)],E9 h0]
  exact QO _ _
 ·obtain⟨m,hmm⟩:∃m,m=-n:=⟨_,rfl⟩
  have e2:=Int.emod_nonneg m (show d≠0 by omega)
  have e3:=Int.emod_lt_of_pos m hd
  have hdm2:=Int.ediv_mul_add_emod m d
  rw[show O0 n=m by unfold O0;rw[if_pos (by omega)];omega,F7 (by omega)]
  have hq:=QO (m / d) (upS (m / d) (m % d) d true mode)
  by_cases hz:m % d=0
  ·have hne:n=0+(-(m / d))*d:=by rw[Int.neg_mul];omega
   have q1:n / d=-(m / d):=by rw[hne,Int.add_mul_ediv_right _ _ (by omega)];simp
   have hu:upS (m / d) (m % d) d true mode=false:=by unfold upS;rw[F5 hz];rfl
   rw[q1,hu]
   show -(m / d)≤-(m / d)∧-(m / d)≤-(m / d)+1
   omega
  ·have hne:n=(d -m % d)+(-(m / d) -1)*d:=by rw[Int.sub_mul,Int.neg_mul,Int.one_mul];omega
   have q1:n / d=-(m / d) -1:=by
    rw[hne,Int.add_mul_ediv_right _ _ (by omega),Int.ediv_eq_zero_of_lt (by omega) (by omega)];omega
   rw[q1]
   show -(m / d) -1≤-(Go.GP.q1 _ _)∧-(Go.GP.q1 _ _)≤_
   omega
theorem b1c (n d mode:Int) (hd:d<0):rnd n d mode=rnd (-n) (-d) mode:=by
 have e1:O0 (-n)=O0 n:=by unfold O0;split <;> split <;> omega
 have e2:O0 (-d)=O0 d:=by unfold O0;rw[if_neg (by omega),if_pos hd]
 unfold rnd
 rw[e1,e2,F7 hd,E9 (show 0≤-d by omega)]
 by_cases h0:n=0
 ·subst h0
  have hz:O0 0=0:=rfl
  rw[hz,Int.zero_ediv,Int.zero_emod]
  have hu:∀b,upS 0 0 (O0 d) b mode=false:=fun b=>rfl
  rw[hu,hu];rfl
 ·by_cases h1:n<0
  ·rw[F7 h1,E9 (show 0≤-n by omega)];rfl
  ·rw[E9 (by omega),F7 (show -n<0 by omega)];rfl
def b0R (num den mode:Int):Int×Int:=l7 (gy mode) (l7 (ieq den 0) (0,12) (l7 (dF num 1000000000000000) (0,3) (l7 (dF den 1000000000000000) (0,3) (l7 (dF (rnd (num*1000000) den mode) 1000000000) (0,3) (rnd (num*1000000) den mode,0))))) (0,1)
theorem JC {n:Int} (h:-9000000000000000000≤n) (h2:n≤9000000000000000000):wrap .u64 (fO n (G8 .i64 0 n))=O0 n:=by
 rw[J4 (by unfold I64;omega)]
 unfold fO O0
 by_cases h0:n<0
 ·rw[if_pos (by omega),if_pos h0,show(0:Int) -n=-n by omega]
  exact xY (by omega) (by omega)
 ·rw[if_neg h0]
  by_cases hz:n=0
  ·subst hz;rfl
  ·rw[if_neg (by omega)];exact xY (by omega) (by omega)
theorem Vm (num den mode:Int):oZ num den mode=some (b0R num den mode):=by
 unfold oZ b0R
 rw[NS,o7]
 cases hm:gy mode
 ·rfl
 simp only[o9,o5,o6]
 cases hd:ieq den 0
 case true=>rfl
 rw[ww]at hd
 simp only[o5]
 rw[rf num (by omega) (by omega),o7]
 cases h1:dF num 1000000000000000
 case true=>rfl
 simp only[o5]
 rw[rf den (by omega) (by omega),o7]
 cases h2:dF den 1000000000000000
 case true=>rfl
 simp only[o5]
 have b1:=iO h1;have b2:=iO h2
 have a1:=dV num;have a2:=qg b1;have d1:=Fg hd;have d2:=qg b2
 rw[JC (by omega) (by omega),JC (by omega) (by omega),JM a1 (by omega) (by omega) (by omega),o7]
 have hN:O0 (num*1000000)=O0 num*1000000:=by unfold O0;split <;> split <;> omega
 have hsgn:ilt (num*1000000) 0=ilt num 0:=by
  by_cases h:num<0
  ·rw[F7 h,F7 (by omega)]
  ·rw[E9 (by omega),E9 (by omega)]
 have hA:0≤O0 num*1000000:=by omega
 have hrn:rnd (num*1000000) den mode=sg (q1 (O0 num*1000000 / O0 den) (upS (O0 num*1000000 / O0 den) (O0 num*1000000 % O0 den) (O0 den) (D6 (dB (ilt num 0) (ilt den 0))) mode)) (D6 (dB (ilt num 0) (ilt den 0))):=by
  unfold rnd;rw[hN,hsgn]
 rw[hrn]
 have hA2:O0 num*1000000<18446744073709551616*1000:=by omega
 generalize O0 num*1000000=A at*
 generalize O0 den=b at*
 generalize D6 (dB (ilt num 0) (ilt den 0))=neg at*
 have hre:A / 18446744073709551616*18446744073709551616+A % 18446744073709551616=A:=by omega
 have q:=QO (A / b) (upS (A / b) (A % b) b neg mode)
 have e0:=Int.ediv_nonneg hA (show 0≤b by omega)
 have e2:=Int.emod_nonneg A (show b≠0 by omega)
 have e3:=Int.emod_lt_of_pos A d1
 rw[a5N (by omega) _ (by omega)]
 by_cases hh:b≤A / 18446744073709551616
 ·have hge:18446744073709551616≤A / b:=Int.le_ediv_of_mul_le d1 (by omega)
  rw[H5 hh,F7 (show(1000000000:Int)<q1 (A / b) (upS (A / b) (A % b) b neg mode) by omega)];rfl
 ·rw[H7 (by omega),o5,PP (by omega) (by omega) (by omega) (by omega) (by omega),o7,hre]
  simp only
  by_cases hM:1000000000<A / b
  ·rw[F7 hM,F7 (show(1000000000:Int)<q1 (A / b) (upS (A / b) (A % b) b neg mode) by omega)];rfl
  ·have w1:wrap .i64 (A / b)=A / b:=fA (by unfold I64;omega)
   have w2:x8 .i64 (A / b) 1=A / b+1:=N7 (by unfold I64;omega)
   have w3:G8 .i64 0 (A / b+1)=-(A / b+1):=by rw[J4 (by unfold I64;omega)];omega
   have w4:G8 .i64 0 (A / b)=-(A / b):=by rw[J4 (by unfold I64;omega)];omega
   rw[E9 (by omega),o5,Yy _ _ e2 e3 (by omega),o7,w1,w2,w3,w4]
   unfold Go.GP.q1 sg
   cases upS (A / b) (A % b) b neg mode
   ·simp only[o5]
    cases ilt 1000000000 (A / b) <;> cases neg <;> rfl
   ·simp only[o6]
    cases ilt 1000000000 (A / b+1) <;> cases neg <;> rfl
theorem QX {n d mode:Int} (h1:-1000000000000000≤n) (h2:n≤1000000000000000) (hd:0<d) (hd2:d≤1000000000000000) (hm:gy mode=true):
  (l9 (pz n d) fun(x:Int×Int)=>l9 (bU x.1 1001) fun(x_1:Bool)=>l7 x_1 (some ((0:Int),(3:Int))) (l9 (iI .i64 (N9 .i64 x.2 1000) d) fun(x_2:Int)=>l9 (kQ (N9 .i64 x.2 1000) d) fun(x_3:Int)=>
   l9 (iI .i64 (N9 .i64 x_3 1000) d) fun(x_4:Int)=>l9 (kQ (N9 .i64 x_3 1000) d) fun(x_5:Int)=>l9 (U6 (x8 .i64 (x8 .i64 (N9 .i64 x.1 1000000) (N9 .i64 x_2 1000)) x_4) x_5 d mode) fun(x:Int)=>
    l9 (bU x 1000000000) fun(x_6:Bool)=>l7 x_6 (some (0,3)) (some (x,0))))=some (l7 (dF (rnd (n*1000000) d mode) 1000000000) (0,3) (rnd (n*1000000) d mode,0)):=by
 have hdm:=Int.ediv_mul_add_emod n d
 have r0:=Int.emod_nonneg n (show d≠0 by omega)
 have r1:=Int.emod_lt_of_pos n hd
 have hrb:=a0q (n:=n*1000000) mode hd
 rw[Xu (by omega) (by omega) hd (by omega),o7]
 simp only
 rw[oV _ (by omega) (by omega),o7]
 have hN:n*1000000=n % d*1000000+(n / d*1000000)*d:=by rw[Int.mul_right_comm];omega
 have hF:n*1000000 / d=n % d*1000000 / d+n / d*1000000:=by rw[hN,Int.add_mul_ediv_right _ _ (by omega)]
 have hR:n*1000000 % d=n % d*1000000 % d:=by rw[hN,Int.add_mul_emod_self_right]
 have s0:0≤n % d*1000000 / d:=Int.ediv_nonneg (by omega) (by omega)
 have s1:n % d*1000000 / d<1000000:=Int.ediv_lt_of_lt_mul hd (by omega)
 cases hb:dF (n / d) 1001
 case true=>
  have hbb:=Zj hb
  have:dF (rnd (n*1000000) d mode) 1000000000=true:=Jl.2 (by omega)
  rw[this];rfl
 have bb:=iO hb
 simp only[o5]
 generalize n % d=r at*
 generalize n / d=q at*
 have t1:N9 .i64 r 1000=r*1000:=eG (by unfold I64;omega)
 have e1:=Int.ediv_mul_add_emod (r*1000) d
 have e2:=Int.emod_nonneg (r*1000) (show d≠0 by omega)
 have e3:=Int.emod_lt_of_pos (r*1000) hd
 have e4:=Int.ediv_nonneg (show 0≤r*1000 by omega) (show 0≤d by omega)
 have e5:r*1000 / d<1000:=Int.ediv_lt_of_lt_mul hd (by omega)
 rw[t1,nJ (by omega) (by omega) hd,o7,tN (by omega) hd,o7]
 generalize hr1:r*1000 % d=r1 at*
 generalize ha:r*1000 / d=a at*
 have t2:N9 .i64 r1 1000=r1*1000:=eG (by unfold I64;omega)
 have f1:=Int.ediv_mul_add_emod (r1*1000) d
 have f2:=Int.emod_nonneg (r1*1000) (show d≠0 by omega)
 have f3:=Int.emod_lt_of_pos (r1*1000) hd
 have f4:=Int.ediv_nonneg (show 0≤r1*1000 by omega) (show 0≤d by omega)
 have f5:r1*1000 / d<1000:=Int.ediv_lt_of_lt_mul hd (by omega)
 rw[t2,nJ (by omega) (by omega) hd,o7,tN (by omega) hd,o7]
 have hr6:r*1000000=r1*1000+(a*1000)*d:=by rw[Int.mul_right_comm];omega
 have hF2:r*1000000 / d=r1*1000 / d+a*1000:=by rw[hr6,Int.add_mul_ediv_right _ _ (by omega)]
 have hR2:r*1000000 % d=r1*1000 % d:=by rw[hr6,Int.add_mul_emod_self_right]
 rw[eG (show I64 (q*1000000) by unfold I64;omega),eG (show I64 (a*1000) by unfold I64;omega),N7 (show I64 (q*1000000+a*1000) by unfold I64;omega),N7 (show I64 (q*1000000+a*1000+r1*1000 / d) by unfold I64;omega)]
 rw[show q*1000000+a*1000+r1*1000 / d=n*1000000 / d by rw[hF,hF2];omega,show r1*1000 % d=n*1000000 % d by rw[hR,hR2]]
 rw[Bd (by rw[hF];omega) (by rw[hF];omega) hd (by omega) hm,o7,oV _ (by omega) (by omega),o7]
 cases dF (rnd (n*1000000) d mode) 1000000000 <;> rfl
theorem Ti (num den mode:Int):nz num den mode=some (b0R num den mode):=by
 unfold nz b0R
 rw[XU]
 cases hm:gy mode
 ·rfl
 simp only[o6,o7,C9]
 cases hd:ieq den 0
 case true=>rfl
 rw[ww]at hd
 simp only[o5]
 rw[oV num (by omega) (by omega),o7]
 cases h1:dF num 1000000000000000
 case true=>rfl
 simp only[o5]
 rw[oV den (by omega) (by omega),o7]
 cases h2:dF den 1000000000000000
 case true=>rfl
 simp only[o5]
 have b1:=iO h1;have b2:=iO h2
 by_cases hn:den<0
 ·rw[F7 hn,o6,J4 (show I64 (0 -num) by unfold I64;omega),J4 (show I64 (0 -den) by unfold I64;omega),show(0:Int) -num=-num by omega,show(0:Int) -den=-den by omega,b1c _ _ _ hn,show -(num*1000000)=-num*1000000 by rw[Int.neg_mul]]
  exact QX (by omega) (by omega) (by omega) (by omega) hm
 ·rw[E9 (by omega),o5]
  exact QX (by omega) (by omega) (by omega) (by omega) hm
def xu (len n:Int):Int×Int×Bool:=l7 (ilt 1000000000000000 (len*O0 n / 1000000)) (0,0,false) (l7 (ilt n 0) (-(len*O0 n / 1000000),-(len*O0 n % 1000000),true) (len*O0 n / 1000000,len*O0 n % 1000000,true))
theorem b0z {len n:Int} (h1:1≤len) (h2:len≤1000000000000000) (hn:I64 n):mW len n=some (xu len n):=by
 unfold I64 at hn
 have key:∀m:Int,m=O0 n→(l9 (kV (wrap .u64 len) m) fun(x:Int×Int)=>l7 (ile 1000000 x.1) (some ((0:Int),(0:Int),false)) (l9 (fC x.1 x.2 1000000) fun(x:Int×Int)=>l7 (ilt 1000000000000000 x.1) (some (0,0,false))
   (l7 (ilt n 0) (some (G8 .i64 0 (wrap .i64 x.1),G8 .i64 0 (wrap .i64 x.2),true)) (some (wrap .i64 x.1,wrap .i64 x.2,true)))))=some (xu len n):=by
  intro m hm
  have m0:=dV n
  have m1:m≤9223372036854775808:=by rw[hm];unfold O0;split <;> omega
  rw[←hm]at m0
  rw[show wrap .u64 len=len from xY (by omega) (by omega),JM (by omega) (by omega) m0 (by omega),o7]
  unfold xu
  rw[←hm]
  have hA:0≤len*m:=Int.mul_nonneg (by omega) m0
  generalize len*m=A at*
  have hre:A / 18446744073709551616*18446744073709551616+A % 18446744073709551616=A:=by omega
  simp only
  by_cases hh:1000000≤A / 18446744073709551616
  ·rw[H5 hh,F7 (show(1000000000000000:Int)<A / 1000000 by omega)];rfl
  ·rw[H7 (by omega),o5,PP (by omega) (by omega) (by omega) (by omega) (by omega),o7,hre]
   simp only
   by_cases hM:1000000000000000<A / 1000000
   ·rw[F7 hM];rfl
   ·rw[E9 (by omega),o5,o5,show wrap .i64 (A / 1000000)=A / 1000000 from fA (by unfold I64;omega),show wrap .i64 (A % 1000000)=A % 1000000 from fA (by unfold I64;omega),J4 (by unfold I64;omega),J4 (by unfold I64;omega),
     show(0:Int) -A / 1000000=-(A / 1000000) by omega,show(0:Int) -A % 1000000=-(A % 1000000) by omega]
    cases ilt n 0 <;> rfl
 unfold mW
 by_cases h0:n<0
 ·have hk:=key (G8 .u64 0 (wrap .u64 n)) (by
   show IntKind.wrap .u64 (0 -IntKind.wrap .u64 n)=_
   unfold O0;rw[if_pos h0,rM,rM];omega)
  rw[F7 h0]at hk ⊢
  exact hk
 ·have hk:=key (wrap .u64 n) (by
   show IntKind.wrap .u64 n=_
   unfold O0;rw[if_neg h0,rM];omega)
  rw[E9 (by omega)]at hk ⊢
  exact hk
theorem a7l {len n:Int} (h1:1≤len) (h2:len≤1000000000000000) (hn:I64 n):mJ len n=some (xu len n):=by
 unfold I64 at hn
 have hm:(l7 (ilt n 0) (some (x8 .u64 (wrap .u64 (G8 .i64 0 (x8 .i64 n 1))) 1)) (some (wrap .u64 n)))=some (O0 n):=by
  by_cases h0:n<0
  ·rw[F7 h0,o6,N7 (by unfold I64;omega),J4 (by unfold I64;omega),show wrap .u64 (0 -(n+1))=-n -1 from(xY (by omega) (by omega)).trans (by omega),show x8 .u64 (-n -1) 1=-n from(xY (by omega) (by omega)).trans (by omega)]
   unfold O0;rw[if_pos h0]
  ·rw[E9 (by omega),o5,show wrap .u64 n=n from xY (by omega) (by omega)]
   unfold O0;rw[if_neg h0]
 have m0:=dV n
 have m1:O0 n≤9223372036854775808:=by unfold O0;split <;> omega
 unfold mJ xu
 rw[hm,o7]
 generalize O0 n=m at*
 have c1:X4 .u64 m 1000000=m / 1000000:=by unfold X4;rw[cO m0,xY (by omega) (by omega)]
 have c2:X5 m 1000000=m % 1000000:=qW m0
 have c3:wrap .i64 (m / 1000000)=m / 1000000:=fA (by unfold I64;omega)
 have c4:wrap .i64 (m % 1000000)=m % 1000000:=fA (by unfold I64;omega)
 have c5:X4 .i64 len 1000000=len / 1000000:=by rw[uK (by rw[cO (by omega)];unfold I64;omega),cO (by omega)]
 have c6:X5 len 1000000=len % 1000000:=qW (by omega)
 rw[c1,c2,c3,c4,c5,c6]
 have hmd:m=m / 1000000*1000000+m % 1000000:=by omega
 have b0:0≤m % 1000000:=by omega
 have b1:m % 1000000<1000000:=by omega
 have a0:0≤m / 1000000:=by omega
 have a1:m / 1000000≤9223372036855:=by omega
 have hA:len*m=(len*(m / 1000000)+len / 1000000*(m % 1000000))*1000000+len % 1000000*(m % 1000000):=by
  have e1:len*m=len*(m / 1000000)*1000000+len*(m % 1000000):=by
   calc len*m=len*(m / 1000000*1000000+m % 1000000):=by rw[←hmd]
    _=_:=by rw[Int.mul_add,Int.mul_assoc]
  have e2:len*(m % 1000000)=len / 1000000*(m % 1000000)*1000000+len % 1000000*(m % 1000000):=by
   calc len*(m % 1000000)=(len / 1000000*1000000+len % 1000000)*(m % 1000000):=by rw[show len / 1000000*1000000+len % 1000000=len by omega]
    _=_:=by rw[Int.add_mul,Int.mul_right_comm]
  rw[e1,e2];omega
 have l0:0≤len % 1000000*(m % 1000000):=Int.mul_nonneg (by omega) b0
 have l1:len % 1000000*(m % 1000000)≤1000000*1000000:=Int.mul_le_mul (by omega) (by omega) b0 (by omega)
 have p0:0≤len / 1000000*(m % 1000000):=Int.mul_nonneg (by omega) b0
 have p1:len / 1000000*(m % 1000000)≤1000000000*1000000:=Int.mul_le_mul (by omega) (by omega) b0 (by omega)
 have k0:0≤len*(m / 1000000):=Int.mul_nonneg (by omega) a0
 have c7:N9 .i64 (len % 1000000) (m % 1000000)=len % 1000000*(m % 1000000):=eG (by unfold I64;omega)
 have c8:N9 .i64 (len / 1000000) (m % 1000000)=len / 1000000*(m % 1000000):=eG (by unfold I64;omega)
 rw[c7,c8]
 have hdiv:len*m / 1000000=len*(m / 1000000)+len / 1000000*(m % 1000000)+len % 1000000*(m % 1000000) / 1000000:=by rw[hA];omega
 have hmod:len*m % 1000000=len % 1000000*(m % 1000000) % 1000000:=by rw[hA];omega
 rw[hdiv,hmod]
 have c9:X4 .i64 (len % 1000000*(m % 1000000)) 1000000=len % 1000000*(m % 1000000) / 1000000:=by rw[uK (by rw[cO l0];unfold I64;omega),cO l0]
 have c10:X5 (len % 1000000*(m % 1000000)) 1000000=len % 1000000*(m % 1000000) % 1000000:=qW l0
 rw[c9,c10]
 have tail:len*(m / 1000000)≤1000000000000000→l7 (ilt 1000000000000000 (x8 .i64 (x8 .i64 (N9 .i64 len (m / 1000000)) (len / 1000000*(m % 1000000))) (len % 1000000*(m % 1000000) / 1000000))) (some ((0:Int),(0:Int),false))
   (l7 (ilt n 0) (some (G8 .i64 0 (x8 .i64 (x8 .i64 (N9 .i64 len (m / 1000000)) (len / 1000000*(m % 1000000))) (len % 1000000*(m % 1000000) / 1000000)),G8 .i64 0 (len % 1000000*(m % 1000000) % 1000000),true)) (some (x8 .i64 (x8 .i64 (N9 .i64 len (m / 1000000)) (len / 1000000*(m % 1000000))) (len % 1000000*(m % 1000000) / 1000000),len % 1000000*(m % 1000000) % 1000000,true)))=
   some (l7 (ilt 1000000000000000 (len*(m / 1000000)+len / 1000000*(m % 1000000)+len % 1000000*(m % 1000000) / 1000000)) (0,0,false) (l7 (ilt n 0) (-(len*(m / 1000000)+len / 1000000*(m % 1000000)+len % 1000000*(m % 1000000) / 1000000),-(len % 1000000*(m % 1000000) % 1000000),true) (len*(m / 1000000)+len / 1000000*(m % 1000000)+len % 1000000*(m % 1000000) / 1000000,len % 1000000*(m % 1000000) % 1000000,true))):=by
  intro hle
  rw[eG (show I64 (len*(m / 1000000)) by unfold I64;omega)]
  generalize len*(m / 1000000)=K at*
  generalize len / 1000000*(m % 1000000)=P at*
  generalize len % 1000000*(m % 1000000)=L at*
  rw[N7 (show I64 (K+P) by unfold I64;omega),N7 (show I64 (K+P+L / 1000000) by unfold I64;omega),J4 (show I64 (0 -(K+P+L / 1000000)) by unfold I64;omega),J4 (show I64 (0 -L % 1000000) by unfold I64;omega),show(0:Int) -(K+P+L / 1000000)=-(K+P+L / 1000000) by omega,show(0:Int) -L % 1000000=-(L % 1000000) by omega]
  cases ilt 1000000000000000 (K+P+L / 1000000) <;> cases ilt n 0 <;> rfl
 by_cases ha:0<m / 1000000
 ·rw[F7 ha,o6,nJ (by omega) (by omega) ha,o7]
  have hMx:=Int.ediv_mul_add_emod 1000000000000000 (m / 1000000)
  have hMr:=Int.emod_lt_of_pos 1000000000000000 ha
  have hMr0:=Int.emod_nonneg 1000000000000000 (show m / 1000000≠0 by omega)
  by_cases hc:1000000000000000 / (m / 1000000)<len
  ·have:=Int.mul_le_mul_of_nonneg_right (show 1000000000000000 / (m / 1000000)+1≤len by omega) a0
   rw[Int.add_mul,Int.one_mul]at this
   rw[F7 hc,F7 (show(1000000000000000:Int)<len*(m / 1000000)+len / 1000000*(m % 1000000)+len % 1000000*(m % 1000000) / 1000000 by omega)];rfl
  ·have:=Int.mul_le_mul_of_nonneg_right (show len≤1000000000000000 / (m / 1000000) by omega) a0
   rw[E9 (by omega),o5]
   exact tail (by omega)
 ·have:m / 1000000=0:=by omega
  rw[E9 (by omega),o5]
  exact tail (by rw[this];simp)
theorem Rn {F R j:Int} {mode:Int} (hm:gy mode=true) (h1:-4000000000000000000≤F) (h2:F≤4000000000000000000) (h3:-2000000000000000000≤j) (h4:j≤2000000000000000000) (hR:0≤R) (hR2:R<1000000) (hs:0≤F↔0≤F+2*j):
  U6 (F+2*j) R 1000000 mode=(U6 F R 1000000 mode).map fun v=>v+2*j:=by
 have R0:∀F R:Int,U6 F R 1000000 0=l7 (ieq R 0) (some F) (some F):=fun F R=>rfl
 have R1:∀F R:Int,U6 F R 1000000 1=l7 (ieq R 0) (some F) (some (x8 .i64 F 1)):=fun F R=>rfl
 have R2:∀F R:Int,U6 F R 1000000 2=l7 (ieq R 0) (some F) (l9 (l7 (ilt F 0) (some true) (some false)) fun x=>l7 x (some (x8 .i64 F 1)) (some F)):=fun F R=>rfl
 have R3:∀F R:Int,U6 F R 1000000 3=l7 (ieq R 0) (some F) (l9 (some (ile 0 F)) fun x=>l7 x (some (x8 .i64 F 1)) (some F)):=fun F R=>rfl
 have R4:∀F R:Int,U6 F R 1000000 4=l7 (ieq R 0) (some F) (l7 (ieq R (G8 .i64 1000000 R)) (l7 (ile 0 F) (some (x8 .i64 F 1)) (some F)) (l7 (ilt (G8 .i64 1000000 R) R) (some (x8 .i64 F 1)) (some F))):=fun F R=>rfl
 have R5:∀F R:Int,U6 F R 1000000 5=l7 (ieq R 0) (some F) (l7 (ieq R (G8 .i64 1000000 R)) (l7 (D6 (ieq (X5 F 2) 0)) (some (x8 .i64 F 1)) (some F)) (l7 (ilt (G8 .i64 1000000 R) R) (some (x8 .i64 F 1)) (some F))):=fun F R=>rfl
 have hi:x8 .i64 F 1=F+1:=N7 (by unfold I64;omega)
 have hi2:x8 .i64 (F+2*j) 1=F+1+2*j:=by rw[N7 (by unfold I64;omega)];omega
 have hlt:ilt (F+2*j) 0=ilt F 0:=by
  by_cases h:0≤F
  ·rw[E9 h,E9 (hs.1 h)]
  ·rw[F7 (by omega),F7 (by have:=fun h' =>h (hs.2 h');omega)]
 have hle:ile 0 (F+2*j)=ile 0 F:=by rw[wW,wW,hlt]
 have hpar:ieq (X5 (F+2*j) 2) 0=ieq (X5 F 2) 0:=by
  unfold X5 ieq
  congr 1
  have e1:∀x:Int,x.tmod 2=0↔x % 2=0:=fun x=>by
   rw[←Int.dvd_iff_tmod_eq_zero,Int.dvd_iff_emod_eq_zero]
  simp only[e1]
  congr 1;omega
 rcases AL hm with rfl | rfl | rfl | rfl | rfl | rfl
 ·rw[R0,R0];cases ieq R 0 <;> rfl
 ·rw[R1,R1,hi,hi2];cases ieq R 0 <;> rfl
 ·rw[R2,R2,hi,hi2,hlt];cases ieq R 0 <;> cases ilt F 0 <;> rfl
 ·rw[R3,R3,hi,hi2,hle];cases ieq R 0 <;> cases ile 0 F <;> rfl
 ·rw[R4,R4,hi,hi2,hle];cases ieq R 0 <;> cases ieq R (G8 .i64 1000000 R) <;> cases ile 0 F <;> cases ilt (G8 .i64 1000000 R) R <;> rfl
 ·rw[R5,R5,hi,hi2,hpar];cases ieq R 0 <;> cases ieq R (G8 .i64 1000000 R) <;> cases ieq (X5 F 2) 0 <;> cases ilt (G8 .i64 1000000 R) R <;> rfl
theorem a4Y {n j mode:Int} (hm:gy mode=true) (h1:-4000000000000000000≤n) (h2:n≤4000000000000000000) (h3:-2000000000000000≤j) (h4:j≤2000000000000000) (hs:0≤n↔0≤n+2*j*1000000):rnd (n+2*j*1000000) 1000000 mode=rnd n 1000000 mode+2*j:=by
 have a1:=Bd (n:=n) (d:=1000000) (mode:=mode) (by omega) (by omega) (by omega) (by omega) hm
 have a2:=Bd (n:=n+2*j*1000000) (d:=1000000) (mode:=mode) (by omega) (by omega) (by omega) (by omega) hm
 rw[show(n+2*j*1000000) / 1000000=n / 1000000+2*j by omega,show(n+2*j*1000000) % 1000000=n % 1000000 by omega,
  Rn hm (by omega) (by omega) (by omega) (by omega) (by omega) (by omega) (by omega),a1]at a2
 exact(Option.some.inj a2).symm
def TA (W L mode:Int):Int×Int:=l7 (dF (rnd (W*1000000+L) 1000000 mode) 1000000000000000) (0,3) (rnd (W*1000000+L) 1000000 mode,0)
theorem RS {V p L j mode:Int} (hm:gy mode=true) (hV:-2000000000000000≤V) (hV2:V≤2000000000000000) (hp:-3≤p) (hp2:p≤3) (hL:-1000000<L) (hL2:L<1000000) (hj:V -p=2*j) (hs:0≤p*1000000+L↔0≤V*1000000+L):
  (l9 (bC (x8 .i64 (N9 .i64 p 1000000) L) 1000000 mode) fun(x:Int×Int)=>l7 (D6 (ieq x.2 0)) (some ((0:Int),x.2)) (l7 (ilt (x8 .i64 (G8 .i64 V p) x.1) (-1000000000000000)) (some (0,3)) (l7 (ilt 1000000000000000 (x8 .i64 (G8 .i64 V p) x.1)) (some (0,3)) (some (x8 .i64 (G8 .i64 V p) x.1,0)))))=
  some (TA V L mode):=by
 rw[eG (show I64 (p*1000000) by unfold I64;omega),N7 (show I64 (p*1000000+L) by unfold I64;omega),J4 (show I64 (V -p) by unfold I64;omega),Ap,o7]
 unfold Zr
 rw[hm,E5 (show(1000000:Int)≠0 by decide),Gx (by omega),Gx (by omega)]
 have hb:=a0q (n:=p*1000000+L) (d:=1000000) mode (by omega)
 have hsh:=a4Y (n:=p*1000000+L) (j:=j) hm (by omega) (by omega) (by omega) (by omega) (by rw[show p*1000000+L+2*j*1000000=V*1000000+L by omega];exact hs)
 rw[show p*1000000+L+2*j*1000000=V*1000000+L by omega]at hsh
 simp only[o6,o5,F5 (rfl:(0:Int)=0),o9]
 unfold TA dF
 rw[hsh,hj,N7 (show I64 (2*j+rnd (p*1000000+L) 1000000 mode) by unfold I64;omega),show rnd (p*1000000+L) 1000000 mode+2*j=2*j+rnd (p*1000000+L) 1000000 mode by omega]
 cases ilt (2*j+rnd (p*1000000+L) 1000000 mode) (-1000000000000000) <;> cases ilt 1000000000000000 (2*j+rnd (p*1000000+L) 1000000 mode) <;> rfl
theorem a3B {n d:Int} (hd:0<d):(0≤n→0≤n.tmod d∧n.tmod d<d)∧(n≤0→-d<n.tmod d∧n.tmod d≤0):=by
 refine⟨fun h=>?_,fun h=>?_⟩
 ·rw[Int.tmod_eq_emod_of_nonneg h]
  exact⟨Int.emod_nonneg n (by omega),Int.emod_lt_of_pos n hd⟩
 ·obtain⟨m,hm⟩:∃m,n=-m:=⟨-n,by omega⟩
  subst hm
  rw[Int.neg_tmod,Int.tmod_eq_emod_of_nonneg (by omega)]
  have:=Int.emod_nonneg m (show d≠0 by omega)
  have:=Int.emod_lt_of_pos m hd
  omega
theorem Yx {W L mode:Int} (hm:gy mode=true) (hW:-1000000000000000000≤W) (hW2:W≤1000000000000000000) (hL:-1000000000≤L) (hL2:L≤1000000000):vP W L mode=some (TA W L mode):=by
 unfold vP
 have hd:=Int.tdiv_mul_add_tmod L 1000000
 have htm:=a3B (n:=L) (d:=1000000) (by omega)
 have t1:X4 .i64 L 1000000=L.tdiv 1000000:=uK (by unfold I64;omega)
 have t2:X5 L 1000000=L.tmod 1000000:=rfl
 have hr1:-1000000<L.tmod 1000000:=by omega
 have hr2:L.tmod 1000000<1000000:=by omega
 rw[t1,t2,N7 (show I64 (W+L.tdiv 1000000) by unfold I64;omega)]
 have hT:W*1000000+L=(W+L.tdiv 1000000)*1000000+L.tmod 1000000:=by omega
 have hsum:TA W L mode=TA (W+L.tdiv 1000000) (L.tmod 1000000) mode:=by unfold TA;rw[hT]
 rw[hsum]
 have hVb:-2000000000000000000≤W+L.tdiv 1000000∧W+L.tdiv 1000000≤2000000000000000000:=by omega
 generalize W+L.tdiv 1000000=V at*
 generalize L.tmod 1000000=M at*
 have hb:=a0q (n:=V*1000000+M) (d:=1000000) mode (by omega)
 by_cases c1:V< -2000000000000000
 ·rw[F7 c1,o6]
  unfold TA
  rw[Jl.2 (by omega)];rfl
 by_cases c2:2000000000000000<V
 ·rw[E9 (by omega),o5,F7 c2,o6]
  unfold TA
  rw[Jl.2 (by omega)];rfl
 rw[E9 (by omega),o5,E9 (by omega),o5]
 have t3:X5 V 2=V.tmod 2:=rfl
 rw[t3]
 have hv2:=Int.tdiv_mul_add_tmod V 2
 have htv:=a3B (n:=V) (d:=2) (by omega)
 by_cases c3:1<V
 ·rw[F7 c3,o6,N7 (show I64 (V.tmod 2+2) by unfold I64;omega)]
  exact RS (j:=V.tdiv 2 -1) hm (by omega) (by omega) (by omega) (by omega) hr1 hr2 (by omega) (by omega)
 rw[E9 (by omega),o5]
 by_cases c4:V< -1
 ·rw[F7 c4,o6,J4 (show I64 (V.tmod 2 -2) by unfold I64;omega)]
  exact RS (j:=V.tdiv 2+1) hm (by omega) (by omega) (by omega) (by omega) hr1 hr2 (by omega) (by omega)
 rw[E9 (by omega),o5]
 exact RS (j:=V.tdiv 2) hm (by omega) (by omega) (by omega) (by omega) hr1 hr2 (by omega) (by omega)
theorem Tj {W L mode:Int} (hm:gy mode=true) (hW:-1000000000000000000≤W) (hW2:W≤1000000000000000000) (hL:-1000000000≤L) (hL2:L≤1000000000):xg W L mode=some (rnd (W*1000000+L) 1000000 mode):=by
 unfold xg
 obtain⟨e,k1,k2⟩:=Z9 (f:=fun(x:Int×Int)=>l7 (ilt x.2 0) (some (.inl (G8 .i64 x.1 1,x8 .i64 x.2 1000000))) (some (.inr x)))
  (s:=(W,L)) (fun x=>x.1*1000000+x.2=W*1000000+L∧-1000000000≤x.2∧x.2≤1000000000∧-2000000000000000000≤x.1∧x.1≤2000000000000000000) (fun x=>x.1*1000000+x.2=W*1000000+L∧0≤x.2∧x.2≤1000000000∧-2000000000000000000≤x.1∧x.1≤2000000000000000000) (fun x=>(1000000000 -x.2).toNat) ⟨by rfl,hL,hL2,by omega,by omega⟩ (by omega) (by
  rintro⟨a,b⟩ ⟨h1,h2,h3,h4,h5⟩
  simp only at h1 h2 h3 h4 h5 ⊢
  by_cases hb:b<0
  ·left
   rw[F7 hb,o6,J4 (show I64 (a -1) by unfold I64;omega),N7 (show I64 (b+1000000) by unfold I64;omega)]
   exact⟨_,rfl,⟨by simp only;omega,by simp only;omega,by simp only;omega,by simp only;omega,by simp only;omega⟩,by simp only;omega⟩
  ·right
   rw[E9 (by omega)]
   exact⟨(a,b),rfl,h1,by omega,h3,h4,h5⟩)
 refine(dH k1 _).trans ?_
 obtain⟨a,b⟩:=e
 simp only at k2
 obtain⟨e,l1,l2⟩:=Z9 (f:=fun(x:Int×Int)=>l7 (ile 1000000 x.2) (some (.inl (x8 .i64 x.1 1,G8 .i64 x.2 1000000))) (some (.inr x)))
  (s:=(a,b)) (fun x=>x.1*1000000+x.2=W*1000000+L∧0≤x.2∧x.2≤1000000000∧-2000000000000000000≤x.1∧x.1≤2000000000000000000) (fun x=>x.1=(W*1000000+L) / 1000000∧x.2=(W*1000000+L) % 1000000) (fun x=>x.2.toNat) k2 (by simp only;omega) (by
  rintro⟨a,b⟩ ⟨h1,h2,h3,h4,h5⟩
  simp only at h1 h2 h3 h4 h5 ⊢
  by_cases hb:1000000≤b
  ·left
   rw[H5 hb,o6,N7 (show I64 (a+1) by unfold I64;omega),J4 (show I64 (b -1000000) by unfold I64;omega)]
   exact⟨_,rfl,⟨by simp only;omega,by simp only;omega,by simp only;omega,by simp only;omega,by simp only;omega⟩,by simp only;omega⟩
  ·right
   rw[H7 (by omega)]
   exact⟨(a,b),rfl,by simp only;omega,by simp only;omega⟩)
 refine(dH l1 _).trans ?_
 obtain⟨F,R⟩:=e
 simp only at l2 ⊢
 obtain⟨rfl,rfl⟩:=l2
 generalize hT:W*1000000+L=T at*
 have hid:O0 1000000=1000000:=rfl
 have hneg:D6 (dB (ilt T 0) (ilt 1000000 0))=ilt T 0:=by rw[E9 (show(0:Int)≤1000000 by omega)];cases ilt T 0 <;> rfl
 by_cases h0:0≤T
 ·rw[H5 (show 0≤T / 1000000 by omega),o6,xB _ _ (by omega) (by omega) (by omega) (by omega) (by omega),o7]
  unfold rnd
  rw[hid,hneg,E9 h0,show O0 T=T by unfold O0;rw[if_neg (by omega)]]
 ·rw[H7 (show T / 1000000<0 by omega),o5]
  unfold rnd
  rw[hid,hneg,F7 (by omega),show O0 T=-T by unfold O0;rw[if_pos (by omega)]]
  by_cases hz:T % 1000000=0
  ·rw[F5 hz,o6]
   have hu:upS (-T / 1000000) (-T % 1000000) 1000000 true mode=false:=by unfold upS;rw[F5 (show -T % 1000000=0 by omega)];rfl
   rw[hu]
   show some (T / 1000000)=some (-(-T / 1000000))
   congr 1;omega
  ·rw[E5 hz,o5,J4 (show I64 (0 -T / 1000000) by unfold I64;omega),J4 (show I64 (0 -T / 1000000 -1) by unfold I64;omega),J4 (show I64 (1000000 -T % 1000000) by unfold I64;omega),xB _ _ (by omega) (by omega) (by omega) (by omega) (by omega),o7]
   rw[show 0 -T / 1000000 -1=-T / 1000000 by omega,show 1000000 -T % 1000000=-T % 1000000 by omega]
def a1x (r:uw):Prop:=I64 r.2.1∧I64 r.2.2.1∧I64 r.2.2.2
def ku (t:V8):Prop:=t.2.2.2.length≤200∧∀r∈t.2.2.2,a1x r
theorem Vj {len n:Int} (h:(xu len n).2.2=true) (hl:0≤len):-1000000000000000≤(xu len n).1∧(xu len n).1≤1000000000000000∧-1000000≤(xu len n).2.1∧(xu len n).2.1≤1000000:=by
 have hA:0≤len*O0 n:=Int.mul_nonneg hl (dV n)
 unfold xu at*
 generalize len*O0 n=A at*
 cases h1:ilt 1000000000000000 (A / 1000000) <;> rw[h1]at h
 ·rw[aV]at h1
  cases ilt n 0
  ·simp only[o5];omega
  ·simp only[o5,o6];omega
 ·cases h
def brG (date c:Int) (b:Int×Int) (r:uw):(Int×Int)⊕(Int×Int):=l7 (Jq r.1 date) (l7 (ile (jf r.2.2.1 c) (fO r.2.1 0)) (.inl b)
 (l7 (xu (jf r.2.2.1 c -fO r.2.1 0) r.2.2.2).2.2 (.inl (b.1+(xu (jf r.2.2.1 c -fO r.2.1 0) r.2.2.2).1,b.2+(xu (jf r.2.2.1 c -fO r.2.1 0) r.2.2.2).2.1)) (.inr (0,3)))) (.inl b)
def b0x (t:V8) (date c mode:Int):Int×Int:=l7 (gy mode) (l7 (aH (ieq t.2.1.1 3) (ieq t.2.1.2 0)) (l7 (aH (ieq t.2.2.1.1 4) (ieq t.2.2.1.2 0)) (l7 (dF c 1000000000000000) (0,3)
 (match U0 (brG date c) t.2.2.2 (0,0)with | .inl b=>TA b.1 b.2 mode | .inr r=>r)) (0,8)) (0,8)) (0,1)
def OX (i:Nat) (b:Int×Int):Prop:=-(1000000000000000*(i:Int))≤b.1∧b.1≤1000000000000000*(i:Int)∧-(1000000*(i:Int))≤b.2∧b.2≤1000000*(i:Int)
theorem Po {r:uw} {c:Int} (hr:a1x r) (hc:-1000000000000000≤c) (hc2:c≤1000000000000000) (h:ile (jf r.2.2.1 c) (fO r.2.1 0)=false):G8 .i64 (jf r.2.2.1 c) (fO r.2.1 0)=jf r.2.2.1 c -fO r.2.1 0∧1≤jf r.2.2.1 c -fO r.2.1 0∧jf r.2.2.1 c -fO r.2.1 0≤1000000000000000:=by
 obtain⟨h1,h2,h3⟩:=hr
 obtain⟨lo,hlo⟩:∃lo:Int,r.2.1=lo:=⟨_,rfl⟩
 obtain⟨hi,hhi⟩:∃hi:Int,r.2.2.1=hi:=⟨_,rfl⟩
 rw[hlo]at h h1 ⊢;rw[hhi]at h h2 ⊢
 rw[BF]at h
 have a1:0≤fO lo 0:=by unfold fO;split <;> omega
 have a2:jf hi c≤c:=by unfold jf;split <;> omega
 refine⟨J4 (by unfold I64;omega),by omega,by omega⟩
theorem a5R {date c:Int} {r:uw} {b:Int×Int} {i:Nat} (hr:a1x r) (hc:-1000000000000000≤c) (hc2:c≤1000000000000000) (hi:i≤200) (hb:OX i b):∀b',brG date c b r= .inl b' →OX (i+1) b' :=by
 intro b' h
 unfold OX at*
 unfold brG at h
 cases h1:Jq r.1 date <;> rw[h1]at h
 ·cases h;omega
 simp only[o6]at h
 cases h2:ile (jf r.2.2.1 c) (fO r.2.1 0) <;> rw[h2]at h
 ·obtain⟨_,g1,g2⟩:=Po hr hc hc2 h2
  simp only[o5]at h
  cases h3:(xu (jf r.2.2.1 c -fO r.2.1 0) r.2.2.2).2.2 <;> rw[h3]at h
  ·cases h
  ·have hbd:=Vj h3 (by omega)
   cases h
   simp only
   omega
 ·cases h;omega
theorem Xb {t:V8} (date c mode:Int) (ht:ku t):vM t date c mode=some (b0x t date c mode):=by
 unfold vM b0x
 rw[XU]
 cases hm:gy mode
 ·rfl
 simp only[o6,o7,C9]
 cases aH (ieq t.2.1.1 3) (ieq t.2.1.2 0)
 ·rfl
 cases aH (ieq t.2.2.1.1 4) (ieq t.2.2.1.2 0)
 ·rfl
 simp only[o9,o5,o6,o7,C9]
 have hbey:∀A B:Option (PUnit⊕(Int×Int)),l7 (ilt c (-1000000000000000)) A (l7 (ilt 1000000000000000 c) A B)=l7 (dF c 1000000000000000) A B:=fun A B=>by
  unfold dF;cases ilt c (-1000000000000000) <;> cases ilt 1000000000000000 c <;> rfl
 rw[hbey]
 cases hb:dF c 1000000000000000
 case true=>rfl
 have bb:=iO hb
 simp only[o5,o7,C9]
 refine eP t.2.2.2 (brG date c) (fun b i=>(b.1,b.2,i)) (fun b=>b) OX ((0,0):Int×Int) (by have:=ht.1;omega) (by unfold OX;simp) (fun i r b hr hi hI=>?_) (fun b hI=>?_) (fun hI=>?_)
 ·have hro:=ht.2 r (bZ hr)
  have hlt:=(O6.1 hr).1
  have h200:=ht.1
  refine⟨?_,a5R hro bb.1 bb.2 (by omega) hI⟩
  simp only[G6 hr,o6,D8,hr,o7,Ai]
  rw[O5 (by omega)]
  unfold brG
  cases Jq r.1 date
  ·rfl
  simp only[o9,o5,o6]
  cases h2:ile (jf r.2.2.1 c) (fO r.2.1 0)
  case true=>rfl
  obtain⟨g0,g1,g2⟩:=Po hro bb.1 bb.2 h2
  rw[g0,b0z g1 g2 hro.2.2]
  simp only[o5,o7]
  cases h3:(xu (jf r.2.2.1 c -fO r.2.1 0) r.2.2.2).2.2
  ·rfl
  ·have hbd:=Vj h3 (by omega)
   unfold OX at hI
   rw[N7 (by unfold I64;omega),N7 (by unfold I64;omega)];rfl
 ·simp only[G5];rfl
 ·cases hf:U0 (brG date c) t.2.2.2 (0,0)with
  | inr r=>rfl
  | inl b=>
   have:=hI b hf
   unfold OX at this
   have h200:=ht.1
   simp only[C9]
   rw[Yx hm (by omega) (by omega) (by omega) (by omega)];rfl
theorem VL {t:V8} (date c mode:Int) (ht:ku t):uZ t date c mode=some (b0x t date c mode):=by
 unfold uZ b0x
 rw[JX,o7]
 cases hm:gy mode
 ·rfl
 simp only[o9,o5,o6]
 cases aH (ieq t.2.1.1 3) (ieq t.2.1.2 0)
 ·rfl
 cases aH (ieq t.2.2.1.1 4) (ieq t.2.2.1.2 0)
 ·rfl
 simp only[o9,o5,o6,o7,C9]
 rw[kK c (by omega) (by omega),o7]
 cases hb:dF c 1000000000000000
 case true=>rfl
 have bb:=iO hb
 simp only[o5]
 refine eP t.2.2.2 (brG date c) (fun b i=>(b.1,b.2,i)) (fun b=>b) OX ((0,0):Int×Int) (by have:=ht.1;omega) (by unfold OX;simp) (fun i r b hr hi hI=>?_) (fun b hI=>?_) (fun hI=>?_)
 ·have hro:=ht.2 r (bZ hr)
  have hlt:=(O6.1 hr).1
  have h200:=ht.1
  refine⟨?_,a5R hro bb.1 bb.2 (by omega) hI⟩
  simp only[G6 hr,o6,D8,hr,o7,DX]
  rw[O5 (by omega)]
  unfold brG
  cases h2:ile (jf r.2.2.1 c) (fO r.2.1 0)
  case true=>cases Jq r.1 date <;> rfl
  simp only[o5]
  cases Jq r.1 date
  ·rfl
  obtain⟨g0,g1,g2⟩:=Po hro bb.1 bb.2 h2
  rw[g0,a7l g1 g2 hro.2.2]
  simp only[o9,o5,o6,o7]
  cases h3:(xu (jf r.2.2.1 c -fO r.2.1 0) r.2.2.2).2.2
  ·rfl
  ·have hbd:=Vj h3 (by omega)
   unfold OX at hI
   rw[N7 (by unfold I64;omega),N7 (by unfold I64;omega)];rfl
 ·simp only[G5];rfl
 ·cases hf:U0 (brG date c) t.2.2.2 (0,0)with
  | inr r=>rfl
  | inl b=>
   have:=hI b hf
   unfold OX at this
   have h200:=ht.1
   simp only[C9]
   rw[Tj hm (by omega) (by omega) (by omega) (by omega),o7,kK _ (by omega) (by omega),o7]
   unfold TA
   cases dF (rnd (b.1*1000000+b.2) 1000000 mode) 1000000000000000 <;> rfl
def b0H (r:uw) (date key:Int):Bool:=l7 (Jq r.1 date) (l7 (ile r.2.1 key) (ilt key r.2.2.1) false) false
def Nw (rows:List uw) (date key:Int) (i:Nat):Option (Int×Bool):=match rows[i]? with | some r=>l7 (b0H r date key) (some ((i:Int),true)) none | none=>none
def Qs (rows:List uw) (date key:Int):Int×Bool:=match P9 rows.length (Nw rows date key)with | some x=>x | none=>(0,false)
theorem a4l {t:V8} (date key:Int) (ht:t.2.2.2.length≤1000000):yS t date key=some (Qs t.2.2.2 date key):=by
 unfold yS mX Qs
 rw[X7]
 refine J3 (jG (p:=Nw t.2.2.2 date key) t.2.2.2.length ht PUnit.unit (fun i hi=>?_) ?_) ?_
 rotate_left 2
 ·cases P9 t.2.2.2.length (Nw t.2.2.2 date key) <;> rfl
 ·have e:=Y8 hi
  simp only[G6 e,o6,D8,e,o7,zW,Ai,Nw,b0H]
  cases Jq t.2.2.2[i].1 date
  ·rfl
  cases ile t.2.2.2[i].2.1 key
  ·rfl
  cases ilt key t.2.2.2[i].2.2.1 <;> rfl
 ·simp only[G5];rfl
theorem a0k {t:V8} (date key:Int) (ht:t.2.2.2.length≤1000000):yJ t date key=some (Qs t.2.2.2 date key):=by
 unfold yJ Qs
 refine J3 (jG (p:=Nw t.2.2.2 date key) t.2.2.2.length ht PUnit.unit (fun i hi=>?_) ?_) ?_
 rotate_left 2
 ·cases P9 t.2.2.2.length (Nw t.2.2.2 date key) <;> rfl
 ·have e:=Y8 hi
  simp only[G6 e,o6,D8,e,o7,BI,DX,Nw,b0H]
  cases Jq t.2.2.2[i].1 date
  ·rfl
  cases ile t.2.2.2[i].2.1 key
  ·rfl
  cases ilt key t.2.2.2[i].2.2.1 <;> rfl
 ·simp only[G5];rfl
theorem a6v {rows:List uw} {date key i:Int} (h:Qs rows date key=(i,true)):0≤i∧i<o8 rows:=by
 unfold Qs at h
 split at h
 ·rename_i x hx
  subst h
  obtain⟨k,hk,hp⟩:=aW hx
  unfold Nw at hp
  split at hp
  ·rename_i r hr
   cases hmb:b0H r date key <;> rw[hmb]at hp
   ·cases hp
   ·cases hp;simp only[o8];omega
  ·cases hp
 ·cases h
abbrev V3:Type:=Int×Int×Int
def zq (k:Int):Int×Int:=l7 (ieq k 1) (0,1) (l7 (ieq k 2) (-1000000000000,1000000000000) (l7 (ieq k 3) (-1000000000000000,1000000000000000) (l7 (ieq k 4) (-1000000000,1000000000) (l7 (ieq k 5) (0,109572) (l7 (ieq k 6) (0,15) (0,-1))))))
theorem a1H (k:Int):qp k=some (zq k):=by
 unfold qp zq
 cases ieq k 1 <;> cases ieq k 2 <;> cases ieq k 3 <;> cases ieq k 4 <;> cases ieq k 5 <;> cases ieq k 6 <;> rfl
def plB (v:V3):Bool:=l7 (ile (zq v.1).1 v.2.2) (l7 (ile v.2.2 (zq v.1).2) (l7 (ieq v.1 6) (l7 (ile 0 v.2.1) (ilt v.2.1 8) false) (ieq v.2.1 0)) false) false
theorem D5 (v:V3):Z4 v=some (plB v):=by
 unfold Z4 plB
 rw[a1H,o7,iQ,iQ]
 cases ile (zq v.1).1 v.2.2
 ·rfl
 cases ile v.2.2 (zq v.1).2
 ·rfl
 cases ieq v.1 6
 ·rfl
 cases ile 0 v.2.1 <;> rfl
theorem D7 (v:V3):au v=some (plB v):=by
 obtain⟨k,e,n⟩:=v
 unfold au plB
 simp only
 by_cases h6:k=6
 ·subst h6
  rw[show zq 6=(0,15)from rfl,F5 (rfl:(6:Int)=6)]
  simp only[o9,o5,o7,C9,E5 (show(6:Int)≠1 by decide),E5 (show(6:Int)≠2 by decide),E5 (show(6:Int)≠3 by decide),E5 (show(6:Int)≠4 by decide),E5 (show(6:Int)≠5 by decide),o6]
  rw[show ilt n 16=ile n 15 by unfold ilt ile;congr 1;simp;omega]
  cases ile 0 e <;> cases ilt e 8 <;> cases ile 0 n <;> cases ile n 15 <;> rfl
 rw[E5 h6]
 simp only[D9,o6,o5]
 by_cases he:e=0
 case neg=>
  rw[E5 he]
  simp only[D9,o6,o7,H8]
  cases ile (zq k).1 n <;> cases ile n (zq k).2 <;> rfl
 rw[F5 he]
 simp only[o9,o5,o7,C9]
 by_cases h1:k=1
 ·subst h1
  rw[show zq 1=(0,1)from rfl]
  simp only[F5 (rfl:(1:Int)=1),o6]
  by_cases n0:n=0
  ·subst n0;rfl
  by_cases n1:n=1
  ·subst n1;rfl
  rw[E5 n0,E5 n1]
  by_cases g:0≤n
  ·rw[H5 g,H7 (by omega)];rfl
  ·rw[H7 (by omega)];rfl
 rw[E5 h1,o5]
 by_cases h2:k=2
 ·subst h2
  rw[show zq 2=(-1000000000000,1000000000000)from rfl,F5 (rfl:(2:Int)=2)]
  simp only[o6]
  cases ile (-1000000000000) n <;> cases ile n 1000000000000 <;> rfl
 rw[E5 h2,o5]
 by_cases h3:k=3
 ·subst h3
  rw[show zq 3=(-1000000000000000,1000000000000000)from rfl,F5 (rfl:(3:Int)=3)]
  simp only[o6]
  cases ile (-1000000000000000) n <;> cases ile n 1000000000000000 <;> rfl
 rw[E5 h3,o5]
 by_cases h4:k=4
 ·subst h4
  rw[show zq 4=(-1000000000,1000000000)from rfl,F5 (rfl:(4:Int)=4)]
  simp only[o6]
  cases ile (-1000000000) n <;> cases ile n 1000000000 <;> rfl
 rw[E5 h4,o5]
 by_cases h5:k=5
 ·subst h5
  rw[show zq 5=(0,109572)from rfl,F5 (rfl:(5:Int)=5)]
  simp only[o6]
  cases ile 0 n <;> cases ile n 109572 <;> rfl
 rw[E5 h5,o5,show zq k=(0,-1) by unfold zq;rw[E5 h1,E5 h2,E5 h3,E5 h4,E5 h5,E5 h6];rfl]
 simp only[o5]
 by_cases g:0≤n
 ·rw[H5 g,H7 (show(-1:Int)<n by omega)];rfl
 ·rw[H7 (show n<0 by omega)];rfl
def PV (v:V3):Prop:=(∃n,v=(1,0,n)∧(n=0∨n=1))∨(∃n,v=(2,0,n)∧-1000000000000≤n∧n≤1000000000000)∨(∃n,v=(3,0,n)∧-1000000000000000≤n∧n≤1000000000000000)∨(∃n,v=(4,0,n)∧-1000000000≤n∧n≤1000000000)∨(∃n,v=(5,0,n)∧0≤n∧n≤109572)∨(∃e n,v=(6,e,n)∧0≤n∧n≤15)
theorem a0g {v:V3} (h:plB v=true):PV v:=by
 obtain⟨k,e,n⟩:=v
 unfold plB at h
 simp only at h
 cases h1:ile (zq k).1 n <;> rw[h1]at h
 ·cases h
 cases h2:ile n (zq k).2 <;> rw[h2]at h
 ·cases h
 simp only[o6]at h
 rw[jv]at h1 h2
 unfold PV
 by_cases k6:k=6
 ·subst k6
  rw[show zq 6=(0,15)from rfl]at h1 h2
  exact .inr (.inr (.inr (.inr (.inr ⟨e,n,rfl,h1,h2⟩))))
 rw[E5 k6,o5,P6]at h
 subst h
 by_cases k1:k=1
 ·subst k1
  rw[show zq 1=(0,1)from rfl]at h1 h2
  exact .inl ⟨n,rfl,by simp only at h1 h2;omega⟩
 by_cases k2:k=2
 ·subst k2;exact .inr (.inl ⟨n,rfl,h1,h2⟩)
 by_cases k3:k=3
 ·subst k3;exact .inr (.inr (.inl ⟨n,rfl,h1,h2⟩))
 by_cases k4:k=4
 ·subst k4;exact .inr (.inr (.inr (.inl ⟨n,rfl,h1,h2⟩)))
 by_cases k5:k=5
 ·subst k5;exact .inr (.inr (.inr (.inr (.inl ⟨n,rfl,h1,h2⟩))))
 ·rw[show zq k=(0,-1) by unfold zq;rw[E5 k1,E5 k2,E5 k3,E5 k4,E5 k5,E5 k6];rfl]at h1 h2
  simp only at h1 h2;omega
def zZ (v:V3):V3×Int:=l7 (plB v) (v,0) ((0,0,0),3)
def Sv (v:V3) (c:Int):V3×Int:=l7 (ieq c 0) (zZ v) ((0,0,0),c)
theorem J6 (k n:Int):U7 k n=some (zZ (k,0,n)):=by
 unfold U7 zZ
 rw[D5,o7]
 cases plB (k,0,n) <;> rfl
theorem J7 (k n c:Int):jk k n c=some (Sv (k,0,n) c):=by
 unfold jk Sv
 cases ieq c 0
 ·rfl
 simp only[o9,o5,o6]
 rw[J6];rfl
def d5J (b:Bool):V3×Int:=((1,0,l7 b 1 0),0)
theorem H6 (b:Bool):iY b=some (d5J b):=by cases b <;> rfl
theorem I7 (b:Bool):je b=some (1,0,l7 b 1 0):=by cases b <;> rfl
theorem I5 (b:Bool):zZ (1,0,l7 b 1 0)=d5J b:=by cases b <;> rfl
def a3Z (c:Option (V3×Int)):Option (V3×Int):=l9 c fun(x:V3×Int)=>l7 (D6 (ieq x.2 0)) (some ((0,0,0),x.2)) (l9 (au x.1) fun(x_1:Bool)=>l7 (D6 x_1) (some ((0,0,0),3)) (some (x.1,0)))
theorem G7 (v:V3) (c:Int):a3Z (some (v,c))=some (Sv v c):=by
 unfold a3Z Sv zZ
 simp only[o7]
 cases ieq c 0
 ·rfl
 simp only[o9,o5,o6]
 rw[D7,o7]
 cases plB v <;> rfl
theorem L9 (v:V3):Sv v 0=zZ v:=rfl
def EP (n:Int×Int) (args:List V3) (env:P5):Option (V3×Int):=l9 (O7 n args env) fun(x:Bool)=>l7 (D6 x) (some ((0,0,0),8)) (a3Z (O8 n args env))
def RP (a0:Int×Int) (a1:List V3) (a2:P5):Option (V3×Int):=
 l7 (ieq (o8 a1) 0) (l7 (ile 36 a0.1) (l7 (ile a0.1 39) (l9 (iW a0 a2) fun(x:V3×Int)=>some x) (l9 (aA a0 a2) fun(x:V3×Int)=>some x)) (l9 (aA a0 a2) fun(x:V3×Int)=>some x))
  (l7 (ieq (o8 a1) 1) (l9 (lat a1 0) fun(x:V3)=>l9 (fV a0 x a2) fun(x:V3×Int)=>some x)
  (l7 (ieq (o8 a1) 2) (l9 (lat a1 0) fun(x:V3)=>l9 (lat a1 1) fun(x_1:V3)=>l9 (aK a0 x x_1) fun(x:V3×Int)=>some x)
  (l9 (lat a1 0) fun(x:V3)=>l9 (lat a1 1) fun(x_1:V3)=>l9 (lat a1 2) fun(x_2:V3)=>l7 (D6 (ieq x.1 1)) (some ((0,0,0),8)) (l7 (D6 (ieq x_1.1 x_2.1)) (some ((0,0,0),8)) (l7 (D6 (ieq x_1.2.1 x_2.2.1)) (some ((0,0,0),8)) (l7 (ieq x.2.2 1) (some (x_1,0)) (some (x_2,0))))))))
def aZ (n:Int×Int) (args:List V3) (env:P5):Prop:=∃r:V3×Int,RP n args env=some r∧EP n args env=some r
theorem ll0:o8 ([]:List V3)=0:=rfl
theorem ll1 (a:V3):o8 [a]=1:=rfl
theorem ll2 (a b:V3):o8 [a,b]=2:=rfl
theorem ll3 (a b c:V3):o8 [a,b,c]=3:=rfl
theorem la0 (a:V3) (l:List V3):lat (a::l) 0=some a:=rfl
theorem la1 (a b:V3) (l:List V3):lat (a::b::l) 1=some b:=rfl
theorem la2 (a b c:V3) (l:List V3):lat (a::b::c::l) 2=some c:=rfl
theorem Ji (k N:Int) (env:P5) (hk:k=1∨k=2∨k=3∨k=4∨k=5):aZ (k,N) [] env:=by
 rcases hk with rfl | rfl | rfl | rfl | rfl <;>
 ·unfold aZ RP aA EP O7 O8
  simp (disch:=decide) only[F5,E5,H5,H7,F7,E9,o6,o5,o7,C9,H8,o9,D9,ll0,ll1,ll2,ll3,la0,la1,la2,J6,J7,D5,D7,G7,L9,H6,I7,I5]
  exact⟨_,rfl,rfl⟩
theorem c8M (N:Int) (env:P5):aZ (6,N) [] env:=by
 unfold aZ RP aA EP O7 O8
 simp (disch:=decide) only[F5,E5,H5,H7,F7,E9,o6,o5,o7,C9,H8,o9,D9,ll0,ll1,ll2,ll3,la0,la1,la2,J6,J7,D5,D7,G7,L9,H6,I7,I5]
 unfold zZ
 cases plB (6,X4 IntKind.i64 N 16,X5 N 16) <;> exact⟨_,rfl,rfl⟩
theorem c8P (N:Int) (env:P5):aZ (9,N) [] env:=by
 unfold aZ RP aA EP O7 O8
 simp (disch:=decide) only[F5,E5,H5,H7,F7,E9,o6,o5,o7,C9,H8,o9,D9,ll0,ll1,ll2,ll3,la0,la1,la2,J6,J7,D5,D7,G7,L9,H6,I7,I5]
 exact⟨_,rfl,rfl⟩
theorem c0l (N:Int) (env:P5):aZ (35,N) [] env:=by
 unfold aZ RP aA EP O7 O8
 simp (disch:=decide) only[F5,E5,H5,H7,F7,E9,o6,o5,o7,C9,H8,o9,D9,ll0,ll1,ll2,ll3,la0,la1,la2,J6,J7,D5,D7,G7,L9,H6,I7,I5]
 exact⟨_,rfl,rfl⟩
theorem c8N (N:Int) (env:P5) (h:bn (7,N) env=some true):aZ (7,N) [] env:=by
 unfold bn at h
 simp (disch:=decide) only[F5,E5,o6,o5]at h
 by_cases g:0≤N
 case neg=>rw[H7 (by omega)]at h;cases h
 rw[H5 g,o6]at h
 have h2:=dZ.1 (Option.some.inj h)
 obtain⟨x,hx,hm⟩:=ed g h2
 unfold aZ RP aA EP O7 O8
 simp (disch:=decide) only[F5,E5,H5,H7,F7,E9,o6,o5,o7,C9,H8,o9,D9,ll0,ll1,ll2,ll3,la0,la1,la2,J6,J7,D5,D7,G7,L9,H6,I7,I5]
 rw[hx]
 simp (disch:=decide) only[F5,E5,H5,H7,F7,E9,o6,o5,o7,C9,H8,o9,D9,ll0,ll1,ll2,ll3,la0,la1,la2,J6,J7,D5,D7,G7,L9,H6,I7,I5]
 unfold zZ
 cases plB x <;> exact⟨_,rfl,rfl⟩
theorem c8O (N:Int) (env:P5) (h:bn (8,N) env=some true):aZ (8,N) [] env:=by
 unfold bn at h
 simp (disch:=decide) only[F5,E5,o6,o5]at h
 by_cases g:0≤N
 case neg=>rw[H7 (by omega)]at h;cases h
 rw[H5 g,o6]at h
 by_cases h2:N<o8 env.2.2.1
 case neg=>rw[E9 (by omega)]at h;cases h
 obtain⟨x,hx,hm⟩:=ed g h2
 unfold aZ RP aA EP O7 O8
 simp (disch:=decide) only[F5,E5,H5,H7,F7,E9,o6,o5,o7,C9,H8,o9,D9,ll0,ll1,ll2,ll3,la0,la1,la2,J6,J7,D5,D7,G7,L9,H6,I7,I5]
 rw[hx]
 simp (disch:=decide) only[F5,E5,H5,H7,F7,E9,o6,o5,o7,C9,H8,o9,D9,ll0,ll1,ll2,ll3,la0,la1,la2,J6,J7,D5,D7,G7,L9,H6,I7,I5]
 unfold zZ
 cases plB x <;> exact⟨_,rfl,rfl⟩
def IB (k:Int) (t:Int×Int):Bool:=l7 (ieq t.2 0) (l7 (ieq k 36) (l7 (ieq t.1 2) true (ieq t.1 3)) (l7 (ieq k 39) (l7 (ile 2 t.1) (ile t.1 5) false) (ieq t.1 1))) false
theorem VK (k:Int) (t:Int×Int):xh k t=some (IB k t):=by
 unfold xh IB
 cases ieq t.2 0 <;> cases ieq k 36 <;> cases ieq k 39 <;> cases ieq t.1 2 <;> cases ile 2 t.1 <;> rfl
theorem wI (t:Int):kD t=some (l7 (ile 2 t) (ile t 4) false):=by
 unfold kD
 by_cases h2:t=2
 ·subst h2;rfl
 by_cases h3:t=3
 ·subst h3;rfl
 by_cases h4:t=4
 ·subst h4;rfl
 rw[E5 h2,E5 h3,E5 h4]
 by_cases g:2≤t
 ·rw[H5 g,H7 (by omega)];rfl
 ·rw[H7 (by omega)];rfl
theorem zI (t:Int):vC t=some (l7 (ile 2 t) (ile t 4) false):=wI t
theorem SN (k:Int) (t:Int×Int):lW k t=some (IB k t):=by
 unfold lW IB
 cases ieq t.2 0
 ·rfl
 cases ieq k 36
 ·cases ieq k 39
  ·rfl
  ·rw[wI]
   simp only[o9,o5,o6,o7]
   by_cases g:2≤t.1
   ·rw[H5 g]
    simp only[o6]
    by_cases g4:t.1≤4
    ·rw[H5 g4,H5 (show t.1≤5 by omega)];rfl
    ·rw[H7 (by omega)]
     by_cases g5:t.1=5
     ·rw[F5 g5,H5 (by omega)];rfl
     ·rw[E5 g5,H7 (by omega)];rfl
   ·rw[H7 (by omega),E5 (by omega)];rfl
 ·cases ieq t.1 2 <;> rfl
def Lc (v:V3) (t:Int×Int):Bool:=l7 (plB v) (l7 (ieq v.1 t.1) (ieq v.2.1 t.2) false) false
theorem Qj (v:V3) (t:Int×Int):uH v t=some (Lc v t):=by
 unfold uH Lc;rw[D7,o7]
 cases plB v <;> cases ieq v.1 t.1 <;> rfl
theorem a7n (v:V3) (t:Int×Int):GX v t=some (Lc v t):=by
 unfold GX Lc;rw[D5,o7]
 cases plB v <;> cases ieq v.1 t.1 <;> rfl
def zY (k a b:Int) (first:Bool):Int:=l7 (ieq k 36) (x8 .i64 a b) (l7 (ieq k 37) (N9 .i64 a b) (l7 (ieq k 38) (l7 (ilt a b) b a) (l7 first b (l7 (ilt a b) b a))))
theorem a7m (k a b:Int) (f:Bool):Ec k a b f=some (zY k a b f):=by
 unfold Ec zY
 cases ieq k 36 <;> cases ieq k 37 <;> cases ieq k 38 <;> cases f <;> cases ilt a b <;> rfl
def Vy (m:List V3) (N:Int) (t:Int×Int):V3⊕Int:=
 match lat m N with
 | none=> .inr 6
 | some x=>l7 (ieq x.1 0) (.inr 6) (l7 (Lc x t) (.inl x) (.inr 8))
def Aa (k N:Int) (t:Int×Int) (b:Int×Bool) (m:List V3):(Int×Bool)⊕(V3×Int):=
 match Vy m N t with
 | .inr c=> .inr ((0,0,0),c)
 | .inl x=>l7 (plB (t.1,0,zY k b.1 x.2.2 b.2)) (.inl (zY k b.1 x.2.2 b.2,false)) (.inr ((0,0,0),3))
def XO (k N:Int) (t:Int×Int) (ms:List (List V3)):V3×Int:=
 l7 (IB k t) (match U0 (Aa k N t) ms (l7 (ieq k 37) 1 0,true)with
  | .inr c=>c
  | .inl a=>l7 (ieq k 39) (l7 (ieq (o8 ms) 0) ((0,0,0),6) (zZ (t.1,0,a.1))) (zZ (t.1,0,a.1))) ((0,0,0),8)
theorem FM (k N:Int) (env:P5) (t:Int×Int) (ht:lat env.2.2.2.2.1 N=some t) (h0:0≤N) (hl:env.2.2.2.1.length≤1000000):iW (k,N) env=some (XO k N t env.2.2.2.1):=by
 unfold iW XO
 simp only[ht,o7,VK]
 cases IB k t
 ·rfl
 simp only[o9,o5,o6]
 rw[show l7 (ieq k 37) (some (1:Int)) (some 0)=some (l7 (ieq k 37) 1 0) by cases ieq k 37 <;> rfl,o7]
 apply eP env.2.2.2.1 (Aa k N t) (fun b i=>(((0,0,0),b.1,i):V3×Int×Int)) (fun b=>(((0,0,0),b.1):V3×Int)) (fun i b=>b.2=decide (i=0)) (l7 (ieq k 37) 1 0,true) hl rfl
 ·intro i m b hi hi' hb
  have hm:=D8 env.2.2.2.1 i
  rw[hi]at hm
  have hlt:(i:Int)<o8 env.2.2.2.1:=by
   have:=O6.1 hi;obtain⟨h,_⟩:=this;unfold o8;omega
  simp only[F7 hlt,o6,hm,o7]
  refine⟨?_,?_⟩
  ·unfold Aa Vy
   by_cases g:o8 m≤N
   ·rw[H5 g,jg (.inr (E9 g))];rfl
   ·rw[H7 (by omega)]
    obtain⟨x,hx,_⟩:=ed h0 (show N<o8 m by omega)
    simp only[o5,hx,o7]
    cases ieq x.1 0
    case true=>rfl
    simp only[o5,o7,C9,a7n]
    cases Lc x t
    ·rfl
    simp only[o9,o5,o6,a7m,o7,J6]
    have hz:ieq (i:Int) 0=b.2:=by rw[hb];unfold ieq;congr 1;simp
    rw[hz]
    unfold zZ
    cases plB (t.1,0,zY k b.1 x.2.2 b.2)
    ·rfl
    ·rw[O5 (by omega)];rfl
  ·intro b' hb'
   unfold Aa at hb'
   cases hf:Vy m N t with
   | inr c=>rw[hf]at hb';cases hb'
   | inl x=>
    rw[hf]at hb'
    simp only at hb'
    cases hp:plB (t.1,0,zY k b.1 x.2.2 b.2) <;> rw[hp]at hb' <;> cases hb'
    simp
 ·intro b hb
  rw[E9 (show o8 env.2.2.2.1≤(env.2.2.2.1.length:Int)from Int.le_refl _)]
  rfl
 ·intro _
  cases U0 (Aa k N t) env.2.2.2.1 (l7 (ieq k 37) 1 0,true)with
  | inr c=>rfl
  | inl a=>
   simp only[C9,J6,o7]
   cases ieq k 39 <;> cases ieq (o8 env.2.2.2.1) 0 <;> rfl
theorem ZH {x:V3} {t:Int×Int} (h:Lc x t=true):plB x=true∧x.1=t.1∧x.2.1=t.2:=by
 unfold Lc at h
 cases h1:plB x <;> rw[h1]at h
 ·cases h
 cases h2:ieq x.1 t.1 <;> rw[h2]at h
 ·cases h
 simp only[o6]at h
 exact⟨rfl,P6.1 h2,P6.1 h⟩
theorem GN {k:Int} (hk:k=1) {n:Int} (h:plB (k,0,n)=true):n=0∨n=1:=by
 subst hk
 rcases a0g h with⟨m,h,g⟩ | ⟨m,h,g⟩ | ⟨m,h,g⟩ | ⟨m,h,g⟩ | ⟨m,h,g⟩ | ⟨e',m,h,g⟩ <;> cases h
 exact g
theorem Lt {k:Int} {t:Int×Int} (h:IB k t=true):t.2=0:=by
 unfold IB at h
 cases g:ieq t.2 0 <;> rw[g]at h
 ·cases h
 exact P6.1 g
theorem a1Y {t:Int×Int} (h:IB 37 t=true):t.1=1:=by
 have:=Lt h
 unfold IB at h
 rw[F5 this]at h
 exact P6.1 h
theorem a4C (k N:Int) (t:Int×Int) (hk:k=36∨k=37∨k=38∨k=39) (ha:IB k t=true) (b:Int×Bool) (x:V3) (hx:Lc x t=true) (i:Nat) (hi:i≤1000000) (hb:b.2=decide (i=0)) (hp:k=36∨b.2=true∧k=39∨plB (t.1,0,b.1)=true) (v:V3) (hv:v=(0,0,0)):
  (l7 (ieq k 36) (l9 (au (t.1,t.2,x8 .i64 b.1 x.2.2)) fun(q:Bool)=>l7 (D6 q) (some (Out.rt (((0,0,0),3):V3×Int))) (some (Out.nx ((v,(t.1,t.2,x8 .i64 b.1 x.2.2),x8 .i64 (i:Int) 1):V3×V3×Int))))
   (l7 (ieq k 37) (some (Out.nx (v,(t.1,t.2,jf b.1 x.2.2),x8 .i64 (i:Int) 1)))
    (l7 (ieq k 38) (some (Out.nx (v,(t.1,t.2,fO b.1 x.2.2),x8 .i64 (i:Int) 1)))
     (l7 (ieq k 39) (l7 (ieq (i:Int) 0) (some (Out.nx (v,x,x8 .i64 (i:Int) 1))) (l7 (ilt b.1 x.2.2) (some (Out.nx (v,x,x8 .i64 (i:Int) 1))) (some (Out.nx (v,(t.1,t.2,b.1),x8 .i64 (i:Int) 1)))))
      (some (Out.nx (v,(t.1,t.2,b.1),x8 .i64 (i:Int) 1)))))):Option (Out (V3×V3×Int) (V3×V3) (V3×Int)))=
  some (match(l7 (plB (t.1,0,zY k b.1 x.2.2 b.2)) (.inl (zY k b.1 x.2.2 b.2,false)) (.inr ((0,0,0),3)):(Int×Bool)⊕(V3×Int))with | .inl b' => .nx ((0,0,0),(t.1,t.2,b'.1),((i+1:Nat):Int)) | .inr r=> .rt r)∧
  (k≠36→plB (t.1,0,zY k b.1 x.2.2 b.2)=true):=by
 subst hv
 have hz:=Lt ha
 obtain⟨hx1,hx2,hx3⟩:=ZH hx
 have hxe:x=(t.1,t.2,x.2.2):=by rw[←hx2,←hx3]
 have hxp:plB (t.1,0,x.2.2)=true:=by rw[←hz,←hxe];exact hx1
 obtain⟨acc,fi⟩:=b
 simp only at hb hp ⊢
 rw[O5 (by omega)]
 rcases hk with rfl | rfl | rfl | rfl
 ·refine⟨?_,fun h=>absurd rfl h⟩
  simp (disch:=decide) only[F5,o6,D7,o7]
  rw[hz,show zY 36 acc x.2.2 fi=x8 .i64 acc x.2.2 from rfl]
  cases plB (t.1,0,x8 .i64 acc x.2.2) <;> rfl
 ·have ht1:=a1Y ha
  have hp' :plB (t.1,0,acc)=true:=by
   rcases hp with h | h | h
   ·exact absurd h (by decide)
   ·exact absurd h.2 (by decide)
   ·exact h
  have e1:=GN ht1 hp'
  have e2:=GN ht1 hxp
  have e3:zY 37 acc x.2.2 fi=jf acc x.2.2∧plB (t.1,0,zY 37 acc x.2.2 fi)=true:=by
   rw[ht1]
   generalize x.2.2=q at e2 ⊢
   rcases e1 with rfl | rfl <;> rcases e2 with rfl | rfl <;> exact⟨rfl,rfl⟩
  refine⟨?_,fun _=>e3.2⟩
  simp (disch:=decide) only[F5,E5,o6,o5]
  rw[e3.2,e3.1,o6]
 ·have ht1:t.1=1:=by
   unfold IB at ha
   rw[F5 hz]at ha
   exact P6.1 ha
  have hp' :plB (t.1,0,acc)=true:=by
   rcases hp with h | h | h
   ·exact absurd h (by decide)
   ·exact absurd h.2 (by decide)
   ·exact h
  have e1:=GN ht1 hp'
  have e2:=GN ht1 hxp
  have e3:zY 38 acc x.2.2 fi=fO acc x.2.2∧plB (t.1,0,zY 38 acc x.2.2 fi)=true:=by
   rw[ht1]
   generalize x.2.2=q at e2 ⊢
   rcases e1 with rfl | rfl <;> rcases e2 with rfl | rfl <;> exact⟨rfl,rfl⟩
  refine⟨?_,fun _=>e3.2⟩
  simp (disch:=decide) only[F5,E5,o6,o5]
  rw[e3.2,e3.1,o6]
 ·have hf:zY 39 acc x.2.2 fi=l7 fi x.2.2 (l7 (ilt acc x.2.2) x.2.2 acc):=rfl
  simp (disch:=decide) only[F5,E5,o6,o5]
  rw[hf]
  have hz' :ieq (i:Int) 0=fi:=by rw[hb];unfold ieq;congr 1;simp
  rw[hz']
  cases fi
  case true=>
   simp only[o6,hxp]
   exact⟨by rw[←hxe],fun _=>trivial⟩
  case false=>
   have hp' :plB (t.1,0,acc)=true:=by
    rcases hp with h | h | h
    ·exact absurd h (by decide)
    ·exact absurd h.1 (by simp)
    ·exact h
   simp only[o5]
   cases ilt acc x.2.2
   ·simp only[o5,hp',o6];exact⟨trivial,fun _=>trivial⟩
   ·simp only[o6,hxp];exact⟨by rw[←hxe],fun _=>trivial⟩
theorem a4a {γ:Type} (c:Option γ) (K:γ→Option (V3×Int)):a3Z (l9 c K)=l9 c fun o=>a3Z (K o):=by cases c <;> rfl
theorem gY {α β ρ:Type} (G:β→α→β⊕ρ) (P:ρ→Prop) (hG:∀b a r,G b a= .inr r→P r):∀(l:List α) (b:β) (r:ρ),U0 G l b= .inr r→P r
 | [],b,r,h=>by cases h
 | a::l,b,r,h=>by
  unfold U0 at h
  cases hg:G b a with
  | inr r' =>rw[hg]at h;simp only at h;cases h;exact hG _ _ _ hg
  | inl b' =>rw[hg]at h;exact gY G P hG l b' r h
theorem a6x (k N:Int) (t:Int×Int) (b:Int×Bool) (m:List V3) (r:V3×Int) (h:Aa k N t b m= .inr r):r=((0,0,0),6)∨r=((0,0,0),8)∨r=((0,0,0),3):=by
 unfold Aa at h
 cases hf:Vy m N t with
 | inr c=>
  rw[hf]at h;simp only at h;cases h
  unfold Vy at hf
  cases hm:lat m N with
  | none=>rw[hm]at hf;cases hf;exact .inl rfl
  | some x=>
   rw[hm]at hf;simp only at hf
   cases h1:ieq x.1 0 <;> rw[h1]at hf
   ·cases h2:Lc x t <;> rw[h2]at hf <;> cases hf
    exact .inr (.inl rfl)
   ·cases hf;exact .inl rfl
 | inl x=>
  rw[hf]at h;simp only at h
  cases h1:plB (t.1,0,zY k b.1 x.2.2 b.2) <;> rw[h1]at h <;> cases h
  exact .inr (.inr rfl)
theorem OH (k N:Int) (env:P5) (hk:k=36∨k=37∨k=38∨k=39) (he:bn (k,N) env=some true) (hl:env.2.2.2.1.length≤1000000):aZ (k,N) [] env:=by
 have hN:0≤N∧N<o8 env.2.2.2.2.1:=by
  unfold bn at he
  rcases hk with rfl | rfl | rfl | rfl <;>
  ·simp (disch:=decide) only[F5,E5,o6,o5,o7]at he
   by_cases g:0≤N
   case neg=>rw[H7 (by omega)]at he;cases he
   rw[H5 g,o6]at he
   exact⟨g,dZ.1 (Option.some.inj he)⟩
 obtain⟨t,ht,_⟩:=ed hN.1 hN.2
 refine⟨XO k N t env.2.2.2.1,?_,?_⟩
 ·unfold RP
  rw[ll0,show ile 36 k=true from H5 (by omega),show ile k 39=true from H5 (by omega),FM k N env t ht hN.1 hl]
  rfl
 have hA:O7 (k,N) [] env=some (IB k t):=by
  unfold O7
  rcases hk with rfl | rfl | rfl | rfl <;>
  ·simp (disch:=decide) only[F5,E5,o6,o5,o7,ht,SN,H8]
 have hC:O8 (k,N) [] env=kY (k,N) env:=by
  unfold O8
  rcases hk with rfl | rfl | rfl | rfl <;>
  ·simp (disch:=decide) only[F5,E5,o6,o5,o7]
   generalize kY _ env=o
   cases o <;> rfl
 unfold EP
 rw[hA,o7,hC]
 unfold XO
 cases ha:IB k t
 ·rfl
 simp only[o9,o5,o6]
 have hz:=Lt ha
 unfold kY
 simp only[ht,o7]
 rw[show l7 (ieq k 37) (some (t.1,t.2,(1:Int))) (some (t.1,t.2,0))=some (t.1,t.2,l7 (ieq k 37) 1 0) by cases ieq k 37 <;> rfl,o7]
 have hinit:k=36∨(true=true∧k=39)∨plB (t.1,0,l7 (ieq k 37) 1 0)=true:=by
  rcases hk with rfl | rfl | rfl | rfl
  ·exact .inl rfl
  ·right;right;rw[a1Y ha];rfl
  ·right;right
   have ht1:t.1=1:=by
    unfold IB at ha
    rw[F5 hz]at ha
    exact P6.1 ha
   rw[ht1];rfl
  ·exact .inr (.inl ⟨rfl,rfl⟩)
 by_cases hz0:k=39∧o8 env.2.2.2.1=0
 ·rw[F5 hz0.1,F5 hz0.2]
  have:env.2.2.2.1=[]:=by have:=hz0.2;unfold o8 at this;exact List.length_eq_zero_iff.1 (by omega)
  rw[this];rfl
 rw[show(l7 (ieq k 39) (l7 (ieq (o8 env.2.2.2.1) 0) (some (Sum.inr (((0,0,0),6):V3×Int))) (some (Sum.inl ((0,0,0):V3)))) (some (Sum.inl (0,0,0))))=some (.inl (0,0,0)) by
  by_cases h1:k=39
  ·rw[F5 h1,E5 (fun h=>hz0 ⟨h1,h⟩)];rfl
  ·rw[E5 h1];rfl]
 simp only[o7,C9]
 have hend:(match U0 (Aa k N t) env.2.2.2.1 (l7 (ieq k 37) 1 0,true)with
  | .inr c=>c
  | .inl a=>l7 (ieq k 39) (l7 (ieq (o8 env.2.2.2.1) 0) ((0,0,0),6) (zZ (t.1,0,a.1))) (zZ (t.1,0,a.1)))=(match U0 (Aa k N t) env.2.2.2.1 (l7 (ieq k 37) 1 0,true)with
  | .inr c=>c
  | .inl a=>zZ (t.1,0,a.1)):=by
  cases U0 (Aa k N t) env.2.2.2.1 (l7 (ieq k 37) 1 0,true)with
  | inr c=>rfl
  | inl a=>
   by_cases h1:k=39
   ·rw[F5 h1,E5 (fun h=>hz0 ⟨h1,h⟩)];rfl
   ·rw[E5 h1];rfl
 refine Eq.trans ?_ (congrArg some hend.symm)
 rw[a4a]
 apply eP env.2.2.2.1 (Aa k N t) (fun b i=>(((0,0,0),(t.1,t.2,b.1),i):V3×V3×Int)) (fun b=>(((0,0,0),(t.1,t.2,b.1)):V3×V3)) (fun i b=>b.2=decide (i=0)∧(k=36∨(b.2=true∧k=39)∨plB (t.1,0,b.1)=true)) (l7 (ieq k 37) 1 0,true) hl ⟨rfl,hinit⟩
 ·intro i m b hi hi' hb
  have hm:=D8 env.2.2.2.1 i
  rw[hi]at hm
  have hlt:(i:Int)<o8 env.2.2.2.1:=by
   have:=O6.1 hi;obtain⟨h,_⟩:=this;unfold o8;omega
  simp only[F7 hlt,o6,hm,o7]
  by_cases g:o8 m≤N
  ·have e:Aa k N t b m= .inr ((0,0,0),6):=by unfold Aa Vy;rw[jg (.inr (E9 g))]
   rw[e]
   refine⟨?_,fun _ h=>by cases h⟩
   rw[H5 g];rfl
  rw[H7 (by omega)]
  obtain⟨x,hx,_⟩:=ed hN.1 (show N<o8 m by omega)
  simp only[o5,hx,o7]
  cases h0:ieq x.1 0
  case true=>
   have e:Aa k N t b m= .inr ((0,0,0),6):=by unfold Aa Vy;rw[hx];simp only[h0];rfl
   rw[e]
   exact⟨rfl,fun _ h=>by cases h⟩
  simp only[o5,o7,C9,Qj]
  cases hh:Lc x t
  ·have e:Aa k N t b m= .inr ((0,0,0),8):=by unfold Aa Vy;rw[hx];simp only[h0,hh];rfl
   rw[e]
   exact⟨rfl,fun _ h=>by cases h⟩
  have e:Aa k N t b m=l7 (plB (t.1,0,zY k b.1 x.2.2 b.2)) (.inl (zY k b.1 x.2.2 b.2,false)) (.inr ((0,0,0),3)):=by unfold Aa Vy;rw[hx];simp only[h0,hh,o6,o5]
  obtain⟨s1,s2⟩:=a4C k N t hk ha b x hh i hi' hb.1 hb.2 (0,0,0) rfl
  refine⟨?_,?_⟩
  ·rw[e,o9,o5]
   refine Eq.trans (Eq.trans ?_ s1) ?_
   ·rfl
   ·cases plB (t.1,0,zY k b.1 x.2.2 b.2) <;> rfl
  ·intro b' hb'
   rw[e]at hb'
   cases hp:plB (t.1,0,zY k b.1 x.2.2 b.2) <;> rw[hp]at hb' <;> cases hb'
   exact⟨by simp,.inr (.inr hp)⟩
 ·intro b hb
  rw[E9 (show o8 env.2.2.2.1≤(env.2.2.2.1.length:Int)from Int.le_refl _)]
  rfl
 ·intro hf
  cases hq:U0 (Aa k N t) env.2.2.2.1 (l7 (ieq k 37) 1 0,true)with
  | inr c=>
   rcases gY (Aa k N t) (fun r=>r=((0,0,0),6)∨r=((0,0,0),8)∨r=((0,0,0),3)) (a6x k N t) _ _ _ hq with rfl | rfl | rfl <;> rfl
  | inl a=>
   simp only[C9,G7,L9,hz]
theorem a2k {k e n:Int} (hk:k=5) (h:plB (k,e,n)=true):0≤n∧n≤109572:=by
 subst hk
 rcases a0g h with⟨m,h,g⟩ | ⟨m,h,g⟩ | ⟨m,h,g⟩ | ⟨m,h,g⟩ | ⟨m,h,g⟩ | ⟨e',m,h,g⟩ <;> cases h
 exact g
theorem b9X (N:Int) (x:V3) (env:P5):aZ (10,N) [x] env:=by
 unfold aZ RP EP fV O7 O8 zy jS
 simp (disch:=decide) only[F5,E5,H5,H7,F7,E9,o6,o5,o7,C9,H8,o9,D9,ll0,ll1,ll2,ll3,la0,la1,la2,J6,J7,D5,D7,G7,L9,H6,I7,I5]
 simp only[zI,wI,o7]
 cases l7 (ile 2 x.1) (ile x.1 4) false
 ·exact⟨_,rfl,rfl⟩
 ·simp (disch:=decide) only[F5,E5,H5,H7,F7,E9,o6,o5,o7,C9,H8,o9,D9,ll0,ll1,ll2,ll3,la0,la1,la2,J6,J7,D5,D7,G7,L9,H6,I7,I5];exact⟨_,rfl,rfl⟩
theorem c0e (N:Int) (x:V3) (env:P5):aZ (25,N) [x] env:=by
 unfold aZ RP EP fV O7 O8 zy jS
 simp (disch:=decide) only[F5,E5,H5,H7,F7,E9,o6,o5,o7,C9,H8,o9,D9,ll0,ll1,ll2,ll3,la0,la1,la2,J6,J7,D5,D7,G7,L9,H6,I7,I5]
 cases ieq x.1 1
 ·exact⟨_,rfl,rfl⟩
 ·simp (disch:=decide) only[F5,E5,H5,H7,F7,E9,o6,o5,o7,C9,H8,o9,D9,ll0,ll1,ll2,ll3,la0,la1,la2,J6,J7,D5,D7,G7,L9,H6,I7,I5];exact⟨_,rfl,rfl⟩
theorem a1E (k N:Int) (x:V3) (env:P5) (hk:k=31∨k=32) (hx:plB x=true):aZ (k,N) [x] env:=by
 have hAB:∃q:Int×Int×Int,x.1=5→oJ x.2.2=some q∧ug x.2.2=some q:=⟨_,fun h=>⟨wU (a2k h hx).1 (a2k h hx).2,FO (a2k h hx).1 (a2k h hx).2⟩⟩
 obtain⟨q,hAB⟩:=hAB
 rcases hk with rfl | rfl
 all_goals
  unfold aZ RP EP fV O7 O8 zy jS
  simp (disch:=decide) only[F5,E5,H5,H7,F7,E9,o6,o5,o7,C9,H8,o9,D9,ll0,ll1,ll2,ll3,la0,la1,la2,J6,J7,D5,D7,G7,L9,H6,I7,I5]
  cases h5:ieq x.1 5
  ·simp only[D9,o6,o7,H8];exact⟨_,rfl,rfl⟩
  rw[(hAB (P6.1 h5)).1,(hAB (P6.1 h5)).2]
  simp (disch:=decide) only[F5,E5,H5,H7,F7,E9,o6,o5,o7,C9,H8,o9,D9,ll0,ll1,ll2,ll3,la0,la1,la2,J6,J7,D5,D7,G7,L9,H6,I7,I5]
  exact⟨_,rfl,rfl⟩
theorem c0j (N:Int) (x:V3) (env:P5) (hx:plB x=true) (he:bn (33,N) env=some true) (ht:∀t∈env.2.2.2.2.2,ku t):aZ (33,N) [x] env:=by
 unfold bn at he
 simp (disch:=decide) only[F5,E5,o6,o5,o7]at he
 by_cases g:0≤N
 case neg=>rw[H7 (by omega)]at he;cases he
 rw[H5 g,o6]at he
 obtain⟨t,hq,hm⟩:=ed g (dZ.1 (Option.some.inj he))
 have hr:=ht t hm
 unfold aZ RP EP fV O7 O8 Ed
 simp (disch:=decide) only[F5,E5,H5,H7,F7,E9,o6,o5,o7,C9,H8,o9,D9,ll0,ll1,ll2,ll3,la0,la1,la2,J6,J7,D5,D7,G7,L9,H6,I7,I5]
 simp only[hq,o7,Qj,Lc,hx,o6]
 by_cases h1:x.1=t.2.1.1
 case neg=>rw[E5 h1];exact⟨_,rfl,rfl⟩
 rw[F5 h1]
 by_cases h2:x.2.1=t.2.1.2
 case neg=>rw[E5 h2];exact⟨_,rfl,rfl⟩
 rw[F5 h2]
 by_cases h3:1≤t.2.2.1.1
 case neg=>rw[H7 (Int.not_le.1 h3),F7 (Int.not_le.1 h3)];exact⟨_,rfl,rfl⟩
 rw[H5 h3,E9 h3]
 by_cases h4:t.2.2.1.1≤6
 case neg=>rw[H7 (Int.not_le.1 h4),F7 (Int.not_le.1 h4)];exact⟨_,rfl,rfl⟩
 rw[H5 h4,E9 h4]
 simp (disch:=decide) only[F5,E5,H5,H7,F7,E9,o6,o5,o7,C9,H8,o9,D9,ll0,ll1,ll2,ll3,la0,la1,la2,J6,J7,D5,D7,G7,L9,H6,I7,I5]
 rw[a4l _ _ (by have:=hr.1;omega),a0k _ _ (by have:=hr.1;omega)]
 simp (disch:=decide) only[F5,E5,H5,H7,F7,E9,o6,o5,o7,C9,H8,o9,D9,ll0,ll1,ll2,ll3,la0,la1,la2,J6,J7,D5,D7,G7,L9,H6,I7,I5]
 cases hl:Qs t.2.2.2 env.1 x.2.2 with
 | mk i b=>
  cases b
  ·exact⟨_,rfl,rfl⟩
  ·obtain⟨l1,l2⟩:=a6v hl
   obtain⟨row,hrow,_⟩:=ed l1 l2
   simp (disch:=decide) only[F5,E5,H5,H7,F7,E9,o6,o5,o7,C9,H8,o9,D9,ll0,ll1,ll2,ll3,la0,la1,la2,J6,J7,D5,D7,G7,L9,H6,I7,I5]
   rw[hrow]
   simp (disch:=decide) only[F5,E5,H5,H7,F7,E9,o6,o5,o7,C9,H8,o9,D9,ll0,ll1,ll2,ll3,la0,la1,la2,J6,J7,D5,D7,G7,L9,H6,I7,I5]
   unfold zZ
   cases plB (t.2.2.1.1,t.2.2.1.2,row.2.2.2) <;> exact⟨_,rfl,rfl⟩
theorem c0k (N:Int) (x:V3) (env:P5) (h0:0≤N) (hI:N≤9223372036854775807) (he:bn (34,N) env=some true) (ht:∀t∈env.2.2.2.2.2,ku t):aZ (34,N) [x] env:=by
 unfold bn at he
 simp (disch:=decide) only[F5,E5,o6,o5,o7]at he
 have hq0:0≤X4 .i64 N 8:=by
  rw[show X4 .i64 N 8=N / 8 by
   unfold X4;rw[Int.tdiv_eq_ediv_of_nonneg h0];exact fA (by unfold I64;omega)]
  omega
 obtain⟨t,hq,hm⟩:=ed hq0 (dZ.1 (Option.some.inj he))
 have hr:=ht t hm
 unfold aZ RP EP fV O7 O8
 simp (disch:=decide) only[F5,E5,H5,H7,F7,E9,o6,o5,o7,C9,H8,o9,D9,ll0,ll1,ll2,ll3,la0,la1,la2,J6,J7,D5,D7,G7,L9,H6,I7,I5]
 simp only[hq,o7]
 cases ieq x.1 3
 ·exact⟨_,rfl,rfl⟩
 cases ieq t.2.1.1 3
 ·exact⟨_,rfl,rfl⟩
 cases ieq t.2.1.2 0
 ·exact⟨_,rfl,rfl⟩
 cases ieq t.2.2.1.1 4
 ·exact⟨_,rfl,rfl⟩
 cases ieq t.2.2.1.2 0
 ·exact⟨_,rfl,rfl⟩
 simp (disch:=decide) only[F5,E5,H5,H7,F7,E9,o6,o5,o7,C9,H8,o9,D9,ll0,ll1,ll2,ll3,la0,la1,la2,J6,J7,D5,D7,G7,L9,H6,I7,I5]
 rw[show aH true true=true from rfl]
 simp (disch:=decide) only[F5,E5,H5,H7,F7,E9,o6,o5,o7,C9,H8,o9,D9,ll0,ll1,ll2,ll3,la0,la1,la2,J6,J7,D5,D7,G7,L9,H6,I7,I5]
 rw[Xb _ _ _ hr,VL _ _ _ hr]
 simp (disch:=decide) only[F5,E5,H5,H7,F7,E9,o6,o5,o7,C9,H8,o9,D9,ll0,ll1,ll2,ll3,la0,la1,la2,J6,J7,D5,D7,G7,L9,H6,I7,I5]
 exact⟨_,rfl,rfl⟩
theorem OQ (x y:V3):kE x y=some (l7 (ieq x.1 y.1) (ieq x.2.1 y.2.1) false):=by
 unfold kE;cases ieq x.1 y.1 <;> rfl
theorem a1C (k N:Int) (x y:V3) (env:P5) (hk:k=11∨k=12):aZ (k,N) [x,y] env:=by
 rcases hk with rfl | rfl
 all_goals
  (unfold aZ RP EP O7 O8 di U1 aK;simp (disch:=decide) only[F5,E5,H5,H7,F7,E9,o6,o5,o7,C9,H8,o9,D9,ll0,ll1,ll2,ll3,la0,la1,la2,J6,J7,D5,D7,G7,L9,H6,I7,I5])
  unfold ji
  simp (disch:=decide) only[F5,E5,H5,H7,F7,E9,o6,o5,o7,C9,H8,o9,D9,ll0,ll1,ll2,ll3,la0,la1,la2,J6,J7,D5,D7,G7,L9,H6,I7,I5]
  simp only[OQ,wI,zI,o7]
  cases ieq x.1 y.1
  ·exact⟨_,rfl,rfl⟩
  cases ieq x.2.1 y.2.1
  ·exact⟨_,rfl,rfl⟩
  cases l7 (ile 2 x.1) (ile x.1 4) false
  ·exact⟨_,rfl,rfl⟩
  simp (disch:=decide) only[F5,E5,H5,H7,F7,E9,o6,o5,o7,C9,H8,o9,D9,ll0,ll1,ll2,ll3,la0,la1,la2,J6,J7,D5,D7,G7,L9,H6,I7,I5]
  exact⟨_,rfl,rfl⟩
theorem a5G (k N:Int) (x y:V3) (env:P5) (hk:k=19∨k=20):aZ (k,N) [x,y] env:=by
 rcases hk with rfl | rfl
 all_goals
  (unfold aZ RP EP O7 O8 di U1 aK;simp (disch:=decide) only[F5,E5,H5,H7,F7,E9,o6,o5,o7,C9,H8,o9,D9,ll0,ll1,ll2,ll3,la0,la1,la2,J6,J7,D5,D7,G7,L9,H6,I7,I5])
  unfold ji
  simp (disch:=decide) only[F5,E5,H5,H7,F7,E9,o6,o5,o7,C9,H8,o9,D9,ll0,ll1,ll2,ll3,la0,la1,la2,J6,J7,D5,D7,G7,L9,H6,I7,I5]
  simp only[OQ,wI,zI,o7]
  cases ieq x.1 y.1
  ·exact⟨_,rfl,rfl⟩
  cases ieq x.2.1 y.2.1
  ·exact⟨_,rfl,rfl⟩
  simp (disch:=decide) only[F5,E5,H5,H7,F7,E9,o6,o5,o7,C9,H8,o9,D9,ll0,ll1,ll2,ll3,la0,la1,la2,J6,J7,D5,D7,G7,L9,H6,I7,I5]
  exact⟨_,rfl,rfl⟩
theorem a1D (k N:Int) (x y:V3) (env:P5) (hk:k=21∨k=22):aZ (k,N) [x,y] env:=by
 rcases hk with rfl | rfl
 all_goals
  (unfold aZ RP EP O7 O8 di U1 aK;simp (disch:=decide) only[F5,E5,H5,H7,F7,E9,o6,o5,o7,C9,H8,o9,D9,ll0,ll1,ll2,ll3,la0,la1,la2,J6,J7,D5,D7,G7,L9,H6,I7,I5])
  unfold ji
  simp (disch:=decide) only[F5,E5,H5,H7,F7,E9,o6,o5,o7,C9,H8,o9,D9,ll0,ll1,ll2,ll3,la0,la1,la2,J6,J7,D5,D7,G7,L9,H6,I7,I5]
  simp only[OQ,wI,zI,o7]
  cases ieq x.1 y.1
  ·exact⟨_,rfl,rfl⟩
  cases ieq x.2.1 y.2.1
  ·exact⟨_,rfl,rfl⟩
  simp (disch:=decide) only[F5,E5,H5,H7,F7,E9,o6,o5,o7,C9,H8,o9,D9,ll0,ll1,ll2,ll3,la0,la1,la2,J6,J7,D5,D7,G7,L9,H6,I7,I5]
  cases l7 (ile 2 x.1) (ile x.1 4) false
  ·simp (disch:=decide) only[F5,E5,H5,H7,F7,E9,o6,o5,o7,C9,H8,o9,D9,ll0,ll1,ll2,ll3,la0,la1,la2,J6,J7,D5,D7,G7,L9,H6,I7,I5]
   cases ieq x.1 5
   ·exact⟨_,rfl,rfl⟩
   simp (disch:=decide) only[F5,E5,H5,H7,F7,E9,o6,o5,o7,C9,H8,o9,D9,ll0,ll1,ll2,ll3,la0,la1,la2,J6,J7,D5,D7,G7,L9,H6,I7,I5]
   exact⟨_,rfl,rfl⟩
  simp (disch:=decide) only[F5,E5,H5,H7,F7,E9,o6,o5,o7,C9,H8,o9,D9,ll0,ll1,ll2,ll3,la0,la1,la2,J6,J7,D5,D7,G7,L9,H6,I7,I5]
  exact⟨_,rfl,rfl⟩
theorem Pi (k N:Int) (x y:V3) (env:P5) (hk:k=17∨k=18) (hx:plB x=true) (hy:plB y=true):aZ (k,N) [x,y] env:=by
 have mx:zZ x=(x,0):=by unfold zZ;rw[hx];rfl
 have my:zZ y=(y,0):=by unfold zZ;rw[hy];rfl
 have hE:x.1=y.1→x.2.1=y.2.1→x.2.2=y.2.2→x=y:=fun h1 h2 h3=>by rw[show x=(x.1,x.2.1,x.2.2)from rfl,h1,h2,h3]
 have fin:x.1=y.1→x.2.1=y.2.1→∀b:Bool,(∃r:V3×Int,l7 (dB b (ilt x.2.2 y.2.2)) (some (x,0)) (some (y,0))=some r∧a3Z (l7 (dB b (ilt y.2.2 x.2.2)) (some (y,0)) (some (x,0)))=some r):=by
  intro h1 h2 b
  by_cases g:x.2.2<y.2.2
  ·rw[F7 g,E9 (Int.le_of_lt g)]
   cases b
   ·exact⟨(y,0),rfl,by rw[show l7 (dB false false) (some (y,(0:Int))) (some (x,0))=some (y,0)from rfl,G7,L9,my]⟩
   ·exact⟨(x,0),rfl,by rw[show l7 (dB true false) (some (y,(0:Int))) (some (x,0))=some (x,0)from rfl,G7,L9,mx]⟩
  by_cases g' :y.2.2<x.2.2
  ·rw[F7 g',E9 (Int.le_of_lt g')]
   cases b
   ·exact⟨(x,0),rfl,by rw[show l7 (dB false true) (some (y,(0:Int))) (some (x,0))=some (x,0)from rfl,G7,L9,mx]⟩
   ·exact⟨(y,0),rfl,by rw[show l7 (dB true true) (some (y,(0:Int))) (some (x,0))=some (y,0)from rfl,G7,L9,my]⟩
  have e:=hE h1 h2 (Int.le_antisymm (Int.not_lt.1 g') (Int.not_lt.1 g))
  refine⟨(x,0),?_,?_⟩
  ·rw[e];cases dB b (ilt y.2.2 y.2.2) <;> rfl
  ·rw[←e]
   rw[show l7 (dB b (ilt x.2.2 x.2.2)) (some (x,(0:Int))) (some (x,0))=some (x,0) by cases dB b (ilt x.2.2 x.2.2) <;> rfl,G7,L9,mx]
 have osum:∀(c:Bool),(l9 (l7 c (some (Sum.inr (y,(0:Int)):V3⊕(V3×Int))) (some (.inr (x,0)))) fun o=>L8 o (fun _=>l9 (gX x.2.2 y.2.2) fun(q:Int)=>some ((2,0,q),(0:Int))) fun r=>some r)=l7 c (some (y,0)) (some (x,0)):=fun c=>by cases c <;> rfl
 rcases hk with rfl | rfl
 all_goals
  (unfold aZ RP EP O7 O8 di U1 aK;simp (disch:=decide) only[F5,E5,H5,H7,F7,E9,o6,o5,o7,C9,H8,o9,D9,ll0,ll1,ll2,ll3,la0,la1,la2,J6,J7,D5,D7,G7,L9,H6,I7,I5])
  unfold ji
  simp (disch:=decide) only[F5,E5,H5,H7,F7,E9,o6,o5,o7,C9,H8,o9,D9,ll0,ll1,ll2,ll3,la0,la1,la2,J6,J7,D5,D7,G7,L9,H6,I7,I5]
  simp only[OQ,wI,zI,o7]
  cases g1:ieq x.1 y.1
  ·exact⟨_,rfl,rfl⟩
  cases g2:ieq x.2.1 y.2.1
  ·exact⟨_,rfl,rfl⟩
  simp (disch:=decide) only[F5,E5,H5,H7,F7,E9,o6,o5,o7,C9,H8,o9,D9,ll0,ll1,ll2,ll3,la0,la1,la2,J6,J7,D5,D7,G7,L9,H6,I7,I5]
  have F:=fin (P6.1 g1) (P6.1 g2)
  rw[osum]
  cases l7 (ile 2 x.1) (ile x.1 4) false
  ·simp (disch:=decide) only[F5,E5,H5,H7,F7,E9,o6,o5,o7,C9,H8,o9,D9,ll0,ll1,ll2,ll3,la0,la1,la2,J6,J7,D5,D7,G7,L9,H6,I7,I5]
   cases ieq x.1 5
   ·exact⟨_,rfl,rfl⟩
   simp (disch:=decide) only[F5,E5,H5,H7,F7,E9,o6,o5,o7,C9,H8,o9,D9,ll0,ll1,ll2,ll3,la0,la1,la2,J6,J7,D5,D7,G7,L9,H6,I7,I5]
   simp only[X7];first | exact F true | exact F false
  simp (disch:=decide) only[F5,E5,H5,H7,F7,E9,o6,o5,o7,C9,H8,o9,D9,ll0,ll1,ll2,ll3,la0,la1,la2,J6,J7,D5,D7,G7,L9,H6,I7,I5]
  simp only[X7];first | exact F true | exact F false
theorem c0f (N:Int) (x y:V3) (env:P5):aZ (27,N) [x,y] env:=by
 (unfold aZ RP EP O7 O8 di U1 aK;simp (disch:=decide) only[F5,E5,H5,H7,F7,E9,o6,o5,o7,C9,H8,o9,D9,ll0,ll1,ll2,ll3,la0,la1,la2,J6,J7,D5,D7,G7,L9,H6,I7,I5])
 unfold pI
 simp (disch:=decide) only[F5,E5,H5,H7,F7,E9,o6,o5,o7,C9,H8,o9,D9,ll0,ll1,ll2,ll3,la0,la1,la2,J6,J7,D5,D7,G7,L9,H6,I7,I5]
 cases g1:ieq x.1 5
 ·exact⟨_,rfl,rfl⟩
 cases ieq y.1 2
 ·exact⟨_,rfl,rfl⟩
 simp (disch:=decide) only[F5,E5,H5,H7,F7,E9,o6,o5,o7,C9,H8,o9,D9,ll0,ll1,ll2,ll3,la0,la1,la2,J6,J7,D5,D7,G7,L9,H6,I7,I5]
 rw[P6.1 g1]
 exact⟨_,rfl,rfl⟩
theorem c0g (N:Int) (x y:V3) (env:P5):aZ (28,N) [x,y] env:=by
 have hA:∃q,kW x.2.2 y.2.2=some q∧fE x.2.2 y.2.2=some q:=⟨_,Jh _ _,Ic _ _⟩
 obtain⟨q,h1,h2⟩:=hA
 (unfold aZ RP EP O7 O8 di U1 aK;simp (disch:=decide) only[F5,E5,H5,H7,F7,E9,o6,o5,o7,C9,H8,o9,D9,ll0,ll1,ll2,ll3,la0,la1,la2,J6,J7,D5,D7,G7,L9,H6,I7,I5])
 unfold pI
 simp (disch:=decide) only[F5,E5,H5,H7,F7,E9,o6,o5,o7,C9,H8,o9,D9,ll0,ll1,ll2,ll3,la0,la1,la2,J6,J7,D5,D7,G7,L9,H6,I7,I5]
 cases g1:ieq x.1 5
 ·exact⟨_,rfl,rfl⟩
 cases ieq y.1 2
 ·exact⟨_,rfl,rfl⟩
 simp (disch:=decide) only[F5,E5,H5,H7,F7,E9,o6,o5,o7,C9,H8,o9,D9,ll0,ll1,ll2,ll3,la0,la1,la2,J6,J7,D5,D7,G7,L9,H6,I7,I5]
 rw[h1,h2]
 simp (disch:=decide) only[F5,E5,H5,H7,F7,E9,o6,o5,o7,C9,H8,o9,D9,ll0,ll1,ll2,ll3,la0,la1,la2,J6,J7,D5,D7,G7,L9,H6,I7,I5]
 exact⟨_,rfl,rfl⟩
theorem c0h (N:Int) (x y:V3) (env:P5):aZ (29,N) [x,y] env:=by
 (unfold aZ RP EP O7 O8 di U1 aK;simp (disch:=decide) only[F5,E5,H5,H7,F7,E9,o6,o5,o7,C9,H8,o9,D9,ll0,ll1,ll2,ll3,la0,la1,la2,J6,J7,D5,D7,G7,L9,H6,I7,I5])
 unfold pI
 simp (disch:=decide) only[F5,E5,H5,H7,F7,E9,o6,o5,o7,C9,H8,o9,D9,ll0,ll1,ll2,ll3,la0,la1,la2,J6,J7,D5,D7,G7,L9,H6,I7,I5]
 cases g1:ieq x.1 5
 ·exact⟨_,rfl,rfl⟩
 cases ieq y.1 5
 ·exact⟨_,rfl,rfl⟩
 simp (disch:=decide) only[F5,E5,H5,H7,F7,E9,o6,o5,o7,C9,H8,o9,D9,ll0,ll1,ll2,ll3,la0,la1,la2,J6,J7,D5,D7,G7,L9,H6,I7,I5]
 exact⟨_,rfl,rfl⟩
theorem c0i (N:Int) (x y:V3) (env:P5):aZ (30,N) [x,y] env:=by
 have hA:∃q,gX x.2.2 y.2.2=some q∧jh x.2.2 y.2.2=some q:=⟨_,OD _ _,LU _ _⟩
 obtain⟨q,h1,h2⟩:=hA
 (unfold aZ RP EP O7 O8 di U1 aK;simp (disch:=decide) only[F5,E5,H5,H7,F7,E9,o6,o5,o7,C9,H8,o9,D9,ll0,ll1,ll2,ll3,la0,la1,la2,J6,J7,D5,D7,G7,L9,H6,I7,I5])
 unfold pI
 simp (disch:=decide) only[F5,E5,H5,H7,F7,E9,o6,o5,o7,C9,H8,o9,D9,ll0,ll1,ll2,ll3,la0,la1,la2,J6,J7,D5,D7,G7,L9,H6,I7,I5]
 cases g1:ieq x.1 5
 ·exact⟨_,rfl,rfl⟩
 cases ieq y.1 5
 ·exact⟨_,rfl,rfl⟩
 simp (disch:=decide) only[F5,E5,H5,H7,F7,E9,o6,o5,o7,C9,H8,o9,D9,ll0,ll1,ll2,ll3,la0,la1,la2,J6,J7,D5,D7,G7,L9,H6,I7,I5]
 rw[h1,h2]
 simp (disch:=decide) only[F5,E5,H5,H7,F7,E9,o6,o5,o7,C9,H8,o9,D9,ll0,ll1,ll2,ll3,la0,la1,la2,J6,J7,D5,D7,G7,L9,H6,I7,I5]
 exact⟨_,rfl,rfl⟩
theorem b9Z (N:Int) (x y:V3) (env:P5):aZ (14,N) [x,y] env:=by
 have hA:∃q,zK x.2.2 y.2.2 N=some q∧xE x.2.2 y.2.2 N=some q:=⟨_,a5H _ _ _,a4L _ _ _⟩
 have hB:∃q,FN x.2.2 y.2.2 N=some q∧CU x.2.2 y.2.2 N=some q:=⟨_,b1b _ _ _,a7o _ _ _⟩
 obtain⟨q,h1,h2⟩:=hA
 obtain⟨q',h3,h4⟩:=hB
 (unfold aZ RP EP O7 O8 di U1 aK;simp (disch:=decide) only[F5,E5,H5,H7,F7,E9,o6,o5,o7,C9,H8,o9,D9,ll0,ll1,ll2,ll3,la0,la1,la2,J6,J7,D5,D7,G7,L9,H6,I7,I5])
 unfold qw tK
 simp (disch:=decide) only[F5,E5,H5,H7,F7,E9,o6,o5,o7,C9,H8,o9,D9,ll0,ll1,ll2,ll3,la0,la1,la2,J6,J7,D5,D7,G7,L9,H6,I7,I5]
 rw[h1,h2,h3,h4]
 cases ieq y.1 4
 ·exact⟨_,rfl,rfl⟩
 by_cases g3:x.1=3
 ·rw[F5 g3]
  simp (disch:=decide) only[F5,E5,H5,H7,F7,E9,o6,o5,o7,C9,H8,o9,D9,ll0,ll1,ll2,ll3,la0,la1,la2,J6,J7,D5,D7,G7,L9,H6,I7,I5]
  exact⟨_,rfl,rfl⟩
 rw[E5 g3]
 simp (disch:=decide) only[F5,E5,H5,H7,F7,E9,o6,o5,o7,C9,H8,o9,D9,ll0,ll1,ll2,ll3,la0,la1,la2,J6,J7,D5,D7,G7,L9,H6,I7,I5]
 cases ieq x.1 4
 ·exact⟨_,rfl,rfl⟩
 simp (disch:=decide) only[F5,E5,H5,H7,F7,E9,o6,o5,o7,C9,H8,o9,D9,ll0,ll1,ll2,ll3,la0,la1,la2,J6,J7,D5,D7,G7,L9,H6,I7,I5]
 exact⟨_,rfl,rfl⟩
theorem c0d (N:Int) (x y:V3) (env:P5):aZ (16,N) [x,y] env:=by
 have hA:∃q,qZ x.2.2 y.2.2 N=some q∧rq x.2.2 y.2.2 N=some q:=⟨_,a0r _ _ _,Yo _ _ _⟩
 obtain⟨q,h1,h2⟩:=hA
 (unfold aZ RP EP O7 O8 di U1 aK;simp (disch:=decide) only[F5,E5,H5,H7,F7,E9,o6,o5,o7,C9,H8,o9,D9,ll0,ll1,ll2,ll3,la0,la1,la2,J6,J7,D5,D7,G7,L9,H6,I7,I5])
 unfold qw tK
 simp (disch:=decide) only[F5,E5,H5,H7,F7,E9,o6,o5,o7,C9,H8,o9,D9,ll0,ll1,ll2,ll3,la0,la1,la2,J6,J7,D5,D7,G7,L9,H6,I7,I5]
 rw[h1,h2]
 cases ieq x.1 3
 ·exact⟨_,rfl,rfl⟩
 cases ieq y.1 3
 ·exact⟨_,rfl,rfl⟩
 simp (disch:=decide) only[F5,E5,H5,H7,F7,E9,o6,o5,o7,C9,H8,o9,D9,ll0,ll1,ll2,ll3,la0,la1,la2,J6,J7,D5,D7,G7,L9,H6,I7,I5]
 exact⟨_,rfl,rfl⟩
theorem c0c (N:Int) (x y:V3) (env:P5):aZ (15,N) [x,y] env:=by
 have hA:∃q,bC x.2.2 y.2.2 N=some q∧pq x.2.2 y.2.2 N=some q:=⟨_,Ap _ _ _,VN _ _ _⟩
 have hB:∃q,oZ x.2.2 y.2.2 N=some q∧nz x.2.2 y.2.2 N=some q:=⟨_,Vm _ _ _,Ti _ _ _⟩
 obtain⟨q,h1,h2⟩:=hA
 obtain⟨q',h3,h4⟩:=hB
 (unfold aZ RP EP O7 O8 di U1 aK;simp (disch:=decide) only[F5,E5,H5,H7,F7,E9,o6,o5,o7,C9,H8,o9,D9,ll0,ll1,ll2,ll3,la0,la1,la2,J6,J7,D5,D7,G7,L9,H6,I7,I5])
 unfold qw tK
 simp (disch:=decide) only[F5,E5,H5,H7,F7,E9,o6,o5,o7,C9,H8,o9,D9,ll0,ll1,ll2,ll3,la0,la1,la2,J6,J7,D5,D7,G7,L9,H6,I7,I5]
 rw[h1,h2,h3,h4]
 by_cases g2:y.1=2
 ·rw[F5 g2,E5 (show y.1≠3 by rw[g2];decide)]
  simp (disch:=decide) only[F5,E5,H5,H7,F7,E9,o6,o5,o7,C9,H8,o9,D9,ll0,ll1,ll2,ll3,la0,la1,la2,J6,J7,D5,D7,G7,L9,H6,I7,I5]
  by_cases g3:x.1=3
  ·rw[F5 g3,E5 (show x.1≠2 by rw[g3];decide)]
   simp (disch:=decide) only[F5,E5,H5,H7,F7,E9,o6,o5,o7,C9,H8,o9,D9,ll0,ll1,ll2,ll3,la0,la1,la2,J6,J7,D5,D7,G7,L9,H6,I7,I5]
   exact⟨_,rfl,rfl⟩
  rw[E5 g3]
  cases ieq x.1 2
  ·exact⟨_,rfl,rfl⟩
  simp (disch:=decide) only[F5,E5,H5,H7,F7,E9,o6,o5,o7,C9,H8,o9,D9,ll0,ll1,ll2,ll3,la0,la1,la2,J6,J7,D5,D7,G7,L9,H6,I7,I5]
  exact⟨_,rfl,rfl⟩
 rw[E5 g2]
 simp (disch:=decide) only[F5,E5,H5,H7,F7,E9,o6,o5,o7,C9,H8,o9,D9,ll0,ll1,ll2,ll3,la0,la1,la2,J6,J7,D5,D7,G7,L9,H6,I7,I5]
 cases ieq x.1 3
 ·exact⟨_,rfl,rfl⟩
 simp (disch:=decide) only[F5,E5,H5,H7,F7,E9,o6,o5,o7,C9,H8,o9,D9,ll0,ll1,ll2,ll3,la0,la1,la2,J6,J7,D5,D7,G7,L9,H6,I7,I5]
 cases ieq y.1 3
 ·exact⟨_,rfl,rfl⟩
 simp (disch:=decide) only[F5,E5,H5,H7,F7,E9,o6,o5,o7,C9,H8,o9,D9,ll0,ll1,ll2,ll3,la0,la1,la2,J6,J7,D5,D7,G7,L9,H6,I7,I5]
 exact⟨_,rfl,rfl⟩
theorem tH (n:Int):(n<0∧O0 n=-n)∨(0≤n∧O0 n=n):=by
 unfold O0
 by_cases h:n<0
 ·left;exact⟨h,if_pos h⟩
 ·right;exact⟨by omega,if_neg h⟩
theorem a1z (a b:Int):(l7 (D6 (dB (ilt a 0) (ilt b 0))) (-(O0 a*O0 b)) (O0 a*O0 b))=a*b:=by
 rcases tH a with⟨h1,e1⟩ | ⟨h1,e1⟩ <;> rcases tH b with⟨h2,e2⟩ | ⟨h2,e2⟩ <;> rw[e1,e2]
 ·rw[F7 h1,F7 h2];show -a*-b=a*b;rw[Int.neg_mul_neg]
 ·rw[F7 h1,E9 h2];show -(-a*b)=a*b;rw[Int.neg_mul,Int.neg_neg]
 ·rw[E9 h1,F7 h2];show -(a*-b)=a*b;rw[Int.mul_neg,Int.neg_neg]
 ·rw[E9 h1,E9 h2];rfl
theorem a0h {a b:Int} (ha:-1000000000000000≤a∧a≤1000000000000000) (hb:-1000000000000≤b∧b≤1000000000000):qc a b=some (l7 (ilt 1000000000000000 (O0 a*O0 b)) (0,3) (a*b,0)):=by
 unfold qc
 rw[JC (by omega) (by omega),JC (by omega) (by omega)]
 have A0:0≤O0 a∧O0 a≤1000000000000000:=by rcases tH a with⟨h1,e1⟩ | ⟨h1,e1⟩ <;> omega
 have B0:0≤O0 b∧O0 b≤1000000000000:=by rcases tH b with⟨h1,e1⟩ | ⟨h1,e1⟩ <;> omega
 rw[JM A0.1 (by omega) B0.1 (by omega),o7]
 have hm:=a1z a b
 have hp:0≤O0 a*O0 b:=Int.mul_nonneg A0.1 B0.1
 generalize O0 a*O0 b=p at hm hp ⊢
 simp only
 by_cases g:p / 18446744073709551616=0
 case neg=>rw[E5 g,F7 (show(1000000000000000:Int)<p by omega)];rfl
 rw[F5 g,show p % 18446744073709551616=p by omega]
 by_cases g2:1000000000000000<p
 ·rw[F7 g2];rfl
 rw[E9 (by omega)]
 simp only[o9,o5]
 rw[show wrap .i64 p=p from fA (by unfold I64;omega),J4 (by unfold I64;omega),show(0:Int) -p=-p by omega]
 rw[←hm]
 cases D6 (dB (ilt a 0) (ilt b 0)) <;> rfl
theorem Eg {x y M:Int} (W:V3×Int) (hy:0≤y) (hM:0≤M) (hM2:M≤1000000000000000):l7 (D6 (ieq y 0)) (l9 (iI .i64 M y) fun(q:Int)=>l7 (ilt q x) (some ((0,0,0),3)) (some W)) (some W)=some (l7 (ilt M (x*y)) ((0,0,0),3) W):=by
 by_cases h:y=0
 ·subst h
  rw[F5 rfl,Int.mul_zero,E9 hM];rfl
 rw[E5 h]
 simp only[D9,o6]
 rw[nJ hM (by omega) (by omega),o7]
 have e:M / y<x↔M<x*y:=Int.ediv_lt_iff_lt_mul (by omega)
 by_cases g:M / y<x
 ·rw[F7 g,F7 (e.1 g)];rfl
 ·rw[E9 (Int.not_lt.1 g),E9 (Int.not_lt.1 fun h=>g (e.2 h))];rfl
theorem Yn {k a b M:Int} (hM:qp k=some (-M,M)) (hM0:0≤M) (hM2:M≤1000000000000000) (ha:-1000000000000000≤a∧a≤1000000000000000) (hb:-1000000000000≤b∧b≤1000000000000):nP k a b=some (l7 (ilt M (O0 a*O0 b)) ((0,0,0),3) (zZ (k,0,N9 .i64 a b))):=by
 unfold nP
 rw[hM,o7]
 simp only[J6,o7]
 have sa:G8 .i64 0 a=-a:=by rw[J4 (by unfold I64;omega)];omega
 have sb:G8 .i64 0 b=-b:=by rw[J4 (by unfold I64;omega)];omega
 rw[sa,sb]
 rcases tH a with⟨h1,e1⟩ | ⟨h1,e1⟩ <;> rcases tH b with⟨h2,e2⟩ | ⟨h2,e2⟩ <;> rw[e1,e2]
 ·rw[F7 h1,F7 h2]
  exact Eg _ (by omega) hM0 hM2
 ·rw[F7 h1,E9 h2]
  exact Eg _ (by omega) hM0 hM2
 ·rw[E9 h1,F7 h2]
  exact Eg _ (by omega) hM0 hM2
 ·rw[E9 h1,E9 h2]
  exact Eg _ (by omega) hM0 hM2
theorem QN {k a b M:Int} (hk:zq k=(-M,M)) (hM0:0≤M) (hM2:M≤1000000000000000) (ha:-1000000000000000≤a∧a≤1000000000000000) (hb:-1000000000000≤b∧b≤1000000000000):∃r:V3×Int,nP k a b=some r∧∃q:Int×Int,qc a b=some q∧Sv (k,0,q.1) q.2=r:=by
 refine⟨_,Yn (by rw[a1H,hk]) hM0 hM2 ha hb,_,a0h ha hb,?_⟩
 have hm:=a1z a b
 have hmd:O0 a*O0 b=O0 (a*b):=by
  rcases tH (a*b)with⟨h,e⟩ | ⟨h,e⟩ <;> (have hn:=Int.mul_nonneg (dV a) (dV b);cases hq:D6 (dB (ilt a 0) (ilt b 0)) <;> rw[hq]at hm <;> simp only[o6,o5]at hm <;> omega)
 rw[hmd]
 have habs:=tH (a*b)
 have hI:O0 (a*b)≤1000000000000000→N9 .i64 a b=a*b:=fun h=>eG (by unfold I64;omega)
 have hpl:M<O0 (a*b)→plB (k,0,a*b)=false:=by
  intro h
  unfold plB
  rw[hk]
  simp only
  by_cases g:-M≤a*b
  ·rw[H5 g,H7 (show M<a*b by omega)];rfl
  ·rw[H7 (by omega)];rfl
 generalize a*b=p at*
 by_cases g:1000000000000000<O0 p
 ·rw[F7 g,F7 (by omega)];rfl
 rw[E9 (by omega),hI (by omega)]
 simp only[o5,L9]
 by_cases g2:M<O0 p
 ·rw[F7 g2];unfold zZ;rw[hpl g2];rfl
 ·rw[E9 (by omega)];rfl
theorem a2l {k e n:Int} (h:plB (k,e,n)=true):(k=2→-1000000000000≤n∧n≤1000000000000)∧(k=3→-1000000000000000≤n∧n≤1000000000000000):=by
 rcases a0g h with⟨m,h,g⟩ | ⟨m,h,g⟩ | ⟨m,h,g⟩ | ⟨m,h,g⟩ | ⟨m,h,g⟩ | ⟨e',m,h,g⟩ <;> cases h <;> exact⟨fun h=>by first | exact g | exact absurd h (by decide),fun h=>by first | exact g | exact absurd h (by decide)⟩
theorem b9Y (N:Int) (x y:V3) (env:P5) (hx:plB x=true) (hy:plB y=true):aZ (13,N) [x,y] env:=by
 have hX:=a2l (k:=x.1) (e:=x.2.1) (n:=x.2.2) hx
 have hY:=a2l (k:=y.1) (e:=y.2.1) (n:=y.2.2) hy
 have key:y.1=2→x.1=2∨x.1=3→∃r:V3×Int,nP x.1 x.2.2 y.2.2=some r∧∃q:Int×Int,qc x.2.2 y.2.2=some q∧Sv (x.1,0,q.1) q.2=r:=by
  intro h2 h
  have hb:=hY.1 h2
  rcases h with h | h
  ·have ha:=hX.1 h
   exact QN (M:=1000000000000) (by rw[h];rfl) (by decide) (by decide) ⟨Int.le_trans (by decide) ha.1,Int.le_trans ha.2 (by decide)⟩ hb
  ·have ha:=hX.2 h
   exact QN (M:=1000000000000000) (by rw[h];rfl) (by decide) (by decide) ha hb
 (unfold aZ RP EP O7 O8 di U1 aK;simp (disch:=decide) only[F5,E5,H5,H7,F7,E9,o6,o5,o7,C9,H8,o9,D9,ll0,ll1,ll2,ll3,la0,la1,la2,J6,J7,D5,D7,G7,L9,H6,I7,I5])
 unfold qw tK
 simp (disch:=decide) only[F5,E5,H5,H7,F7,E9,o6,o5,o7,C9,H8,o9,D9,ll0,ll1,ll2,ll3,la0,la1,la2,J6,J7,D5,D7,G7,L9,H6,I7,I5]
 cases g2:ieq y.1 2
 ·exact⟨_,rfl,rfl⟩
 by_cases g3:x.1=3
 ·obtain⟨r,e1,q,e2,e3⟩:=key (P6.1 g2) (.inr g3)
  rw[F5 g3,E5 (show x.1≠2 by rw[g3];decide)]
  simp (disch:=decide) only[F5,E5,H5,H7,F7,E9,o6,o5,o7,C9,H8,o9,D9,ll0,ll1,ll2,ll3,la0,la1,la2,J6,J7,D5,D7,G7,L9,H6,I7,I5]
  rw[e1,e2]
  simp (disch:=decide) only[F5,E5,H5,H7,F7,E9,o6,o5,o7,C9,H8,o9,D9,ll0,ll1,ll2,ll3,la0,la1,la2,J6,J7,D5,D7,G7,L9,H6,I7,I5]
  exact⟨_,rfl,congrArg some e3⟩
 rw[E5 g3]
 cases g4:ieq x.1 2
 ·exact⟨_,rfl,rfl⟩
 obtain⟨r,e1,q,e2,e3⟩:=key (P6.1 g2) (.inl (P6.1 g4))
 simp (disch:=decide) only[F5,E5,H5,H7,F7,E9,o6,o5,o7,C9,H8,o9,D9,ll0,ll1,ll2,ll3,la0,la1,la2,J6,J7,D5,D7,G7,L9,H6,I7,I5]
 rw[e1,e2]
 simp (disch:=decide) only[F5,E5,H5,H7,F7,E9,o6,o5,o7,C9,H8,o9,D9,ll0,ll1,ll2,ll3,la0,la1,la2,J6,J7,D5,D7,G7,L9,H6,I7,I5]
 exact⟨_,rfl,congrArg some e3⟩
theorem a5t:∀i:Fin 40,dL ((i.1:Nat):Int)=kM ((i.1:Nat):Int):=by decide+kernel
theorem a5I:∀i:Fin 40,(arF ((i.1:Nat):Int)=0→i.1∈[1,2,3,4,5,6,7,8,9,35,36,37,38,39])∧(arF ((i.1:Nat):Int)=1→i.1∈[10,25,31,32,33,34])∧(arF ((i.1:Nat):Int)=2→i.1∈[11,12,13,14,15,16,17,18,19,20,21,22,23,24,27,28,29,30])∧(arF ((i.1:Nat):Int)=3→i.1=26):=by decide+kernel
theorem c8Q {k:Int} (h:k<1∨39<k):arF k=-1:=by
 unfold arF aU
 rw[E5 (show k≠10 by omega),E5 (show k≠25 by omega),E5 (show k≠31 by omega),E5 (show k≠32 by omega),E5 (show k≠33 by omega),E5 (show k≠34 by omega),E5 (show k≠26 by omega)]
 rcases h with h | h
 ·rw[H7 (show k<1 by omega),H7 (show k<35 by omega),H7 (show k<11 by omega)];rfl
 ·rw[H5 (show 1≤k by omega),H7 (show 9<k by omega),H5 (show 35≤k by omega),H7 (show 39<k by omega),H5 (show 11≤k by omega),H7 (show 30<k by omega)];rfl
theorem c0n {k:Int} (h:arF k≠-1):∃i:Fin 40,k=((i.1:Nat):Int):=by
 by_cases g:1≤k∧k≤39
 ·exact⟨⟨k.toNat,by omega⟩,by simp;omega⟩
 ·exact absurd (c8Q (by omega)) h
theorem a9P {k:Int} (h:arF k≠-1):dL k=kM k:=by
 obtain⟨i,rfl⟩:=c0n h
 exact a5t i
theorem Uw (k:Int):∃b,kM k=some b:=by
 unfold kM
 cases ile 1 k <;> cases ile k 8 <;> cases ile 36 k <;> cases ile k 39 <;> cases ieq k 14 <;> cases ieq k 15 <;> cases ieq k 16 <;> cases ieq k 33 <;> exact⟨_,rfl⟩
def a4e (k N:Int):Bool:=l7 (l7 (ieq k 14) true (l7 (ieq k 15) true (ieq k 16))) (l7 (ile 0 N) (ile N 5) false) (l7 (ieq k 34) (l7 (ile 0 N) (ile (X5 N 8) 5) false) (l7 (ieq k 6) (ile 0 N) true))
theorem Xv (k N:Int):(l9 (l7 (ieq k 14) (some (ieq k 14)) (l7 (ieq k 15) (some (ieq k 15)) (some (ieq k 16)))) fun(x:Bool)=>l7 x (l7 (ile 0 N) (some (ile N 5)) (some false)) (l7 (ieq k 34) (l7 (ile 0 N) (some (ile (X5 N 8) 5)) (some false)) (l7 (ieq k 6) (some (ile 0 N)) (some true))))=some (a4e k N):=by
 unfold a4e
 cases ieq k 14 <;> cases ieq k 15 <;> cases ieq k 16 <;> cases ile 0 N <;> cases ieq k 34 <;> cases ieq k 6 <;> rfl
def ZE (k N:Int):Bool:=l7 (ieq N 0) (a4e k N) (l7 ((kM k).getD false) (a4e k N) false)
theorem a4c {k N c:Int} (h:arF k=c):vz (k,N) c=some (ZE k N):=by
 unfold vz ZE
 rw[QW,o7,F5 h]
 simp only[o9,o5,Xv]
 obtain⟨b,hb⟩:=Uw k
 rw[hb]
 cases ieq N 0 <;> cases b <;> rfl
theorem Zb {k N:Int} (h:arF k≠-1):jE (k,N)=some (ZE k N):=by
 unfold jE ZE
 rw[Pj,o7,E9 (show 0≤arF k by have:=(BQ k).2.2;omega)]
 simp only[o5,Xv]
 rw[a9P h]
 obtain⟨b,hb⟩:=Uw k
 rw[hb]
 cases ieq N 0 <;> cases b <;> rfl
theorem a1q (k N:Int):∃b,jE (k,N)=some b:=by
 by_cases h:arF k=-1
 ·refine⟨false,?_⟩
  unfold jE
  rw[Pj,o7,h];rfl
 ·exact⟨_,Zb h⟩
theorem Xr (n:Int×Int) (env:P5):∃b,bn n env=some b:=by
 unfold bn
 by_cases h7:n.1=7
 ·rw[F5 h7,o6];cases ile 0 n.2 <;> exact⟨_,rfl⟩
 rw[E5 h7,o5]
 by_cases h8:n.1=8
 ·rw[F5 h8,o6]
  by_cases g:0≤n.2
  case neg=>rw[H7 (Int.not_le.1 g)];exact⟨_,rfl⟩
  by_cases g2:n.2<o8 env.2.2.1
  case neg=>rw[H5 g,E9 (Int.not_lt.1 g2)];exact⟨_,rfl⟩
  obtain⟨x,hx,_⟩:=ed g g2
  rw[H5 g,F7 g2,hx];exact⟨_,rfl⟩
 rw[E5 h8,o5]
 cases ieq n.1 33
 ·cases ieq n.1 34
  ·cases ieq n.1 36 <;> cases ieq n.1 37 <;> cases ieq n.1 38 <;> cases ieq n.1 39 <;> cases ile 0 n.2 <;> exact⟨_,rfl⟩
  ·exact⟨_,rfl⟩
 ·cases ile 0 n.2 <;> exact⟨_,rfl⟩
theorem a9W {α:Type} (l:List α) (p:α→Bool):l.all p= !l.any fun v=> !p v:=by
 induction l with
 | nil=>rfl
 | cons a l ih=>rw[List.all_cons,List.any_cons,Bool.not_or,Bool.not_not,ih]
theorem a5F (l:List V3) (hl:l.length≤1000000):nY l=some (l.all plB):=by
 unfold nY
 have e:=lS l (fun v=> !plB v) false PUnit.unit (f:=fun(x:Int)=>l7 (ilt x (o8 l)) (l9 (lat l x) fun(x_1:V3)=>l9 (au x_1) fun(x_2:Bool)=>l7 (D6 x_2) (some (Out.rt false)) (some (Out.nx (x8 IntKind.i64 x 1)))) (some (Out.ex PUnit.unit))) hl
  (fun i a hi=>by
   have hlt:(i:Int)<o8 l:=by
    have:=O6.1 hi;obtain⟨h,_⟩:=this;unfold o8;omega
   have hm:=D8 l i
   rw[hi]at hm
   simp only[F7 hlt,o6,hm,o7,D7]
   cases plB a <;> rfl) (by rw[E9 (show o8 l≤(l.length:Int)from Int.le_refl _)];rfl)
 rw[show J9 _ _=_ from e]
 rw[a9W l plB]
 cases l.any fun v=> !plB v <;> rfl
theorem a4K (l:List V3) (hl:l.length≤1000000) {γ:Type} {K:V3⊕(V3×Int)→Option γ} :(l9 (J9
      (fun(x:V3×Int)=>
       l7 (ilt x.2 (o8 l))
        (l9 (lat l x.2) fun(x_1:V3)=>
         l9 (Z4 x_1) fun(x_2:Bool)=>
          l7 (D6 x_2) (some (Out.rt (((0,0,0),8):V3×Int))) (some (Out.nx (x.1,x8 IntKind.i64 x.2 1))))
        (some (Out.ex x.1)))
      ((0,0,0),0)) K)=K (l7 (l.all plB) (.inl (0,0,0)) (.inr ((0,0,0),8))):=by
 have hf:∀(l:List V3) (u:V3),U0 (fun(_:V3) (v:V3)=>(l7 (plB v) (.inl ((0,0,0):V3)) (.inr (((0,0,0),8):V3×Int)):V3⊕(V3×Int))) l (0,0,0)=l7 (l.all plB) (.inl (0,0,0)) (.inr ((0,0,0),8)):=by
  intro l u
  induction l with
  | nil=>rfl
  | cons a l ih=>
   unfold U0
   rw[List.all_cons]
   cases plB a
   ·rfl
   ·exact ih
 apply eP l (fun(_:V3) (v:V3)=>(l7 (plB v) (.inl ((0,0,0):V3)) (.inr (((0,0,0),8):V3×Int)):V3⊕(V3×Int))) (fun b i=>((b,i):V3×Int)) (fun b=>b) (fun i b=>b=(0,0,0)) (0,0,0) hl rfl
 ·intro i a b hi hi' hb
  subst hb
  have hlt:(i:Int)<o8 l:=by
   have:=O6.1 hi;obtain⟨h,_⟩:=this;unfold o8;omega
  have hm:=D8 l i
  rw[hi]at hm
  simp only[F7 hlt,o6,hm,o7,D5]
  cases plB a
  ·exact⟨rfl,fun _ h=>by cases h⟩
  ·exact⟨by rw[O5 (by omega)];rfl,fun _ h=>by cases h;rfl⟩
 ·intro b hb
  simp only[E9 (show o8 l≤(l.length:Int)from Int.le_refl _),o5]
 ·intro _
  rw[hf l (0,0,0)]
  cases l.all plB <;> rfl
structure EvOk (env:P5):Prop where
 ms:env.2.2.2.1.length≤1000000
 tb:∀t∈env.2.2.2.2.2,ku t
theorem b9W (k N:Int) (args:List V3) (env:P5) (hE:EvOk env) (hN:-9223372036854775808≤N∧N≤9223372036854775807) (hk:k≠23∧k≠24∧k≠26) (ha:arF k=o8 args) (hf:ZE k N=true) (he:bn (k,N) env=some true) (hp:args.all plB=true):aZ (k,N) args env:=by
 have hne:arF k≠-1:=by rw[ha];unfold o8;omega
 have hN34:k=34→0≤N:=by
  rintro rfl
  unfold ZE at hf
  have:a4e 34 N=true:=by
   cases g:ieq N 0 <;> rw[g]at hf
   ·exact hf
   ·exact hf
  unfold a4e at this
  by_cases g:0≤N
  ·exact g
  ·rw[H7 (by omega)]at this;cases this
 obtain⟨i,hi⟩:=c0n hne
 obtain⟨a0,a1,a2,a3⟩:=a5I i
 rw[←hi,ha]at a0 a1 a2 a3
 match args,ha,hp with
 | [],ha,hp=>
  have:=a0 rfl
  simp only[List.mem_cons,List.not_mem_nil,or_false]at this
  rcases this with h | h | h | h | h | h | h | h | h | h | h | h | h | h <;> rw[h]at hi <;> subst hi
  ·exact Ji _ _ _ (by decide)
  ·exact Ji _ _ _ (by decide)
  ·exact Ji _ _ _ (by decide)
  ·exact Ji _ _ _ (by decide)
  ·exact Ji _ _ _ (by decide)
  ·exact c8M _ _
  ·exact c8N _ _ he
  ·exact c8O _ _ he
  ·exact c8P _ _
  ·exact c0l _ _
  ·exact OH _ _ _ (by decide) he hE.ms
  ·exact OH _ _ _ (by decide) he hE.ms
  ·exact OH _ _ _ (by decide) he hE.ms
  ·exact OH _ _ _ (by decide) he hE.ms
 | [x],ha,hp=>
  have hx:plB x=true:=by simpa using hp
  have:=a1 rfl
  simp only[List.mem_cons,List.not_mem_nil,or_false]at this
  rcases this with h | h | h | h | h | h <;> rw[h]at hi <;> subst hi
  ·exact b9X _ _ _
  ·exact c0e _ _ _
  ·exact a1E _ _ _ _ (by decide) hx
  ·exact a1E _ _ _ _ (by decide) hx
  ·exact c0j _ _ _ hx he hE.tb
  ·exact c0k _ _ _ (hN34 rfl) hN.2 he hE.tb
 | [x,y],ha,hp=>
  have hxy:plB x=true∧plB y=true:=by simpa using hp
  have:=a2 rfl
  simp only[List.mem_cons,List.not_mem_nil,or_false]at this
  rcases this with h | h | h | h | h | h | h | h | h | h | h | h | h | h | h | h | h | h <;> rw[h]at hi <;> subst hi
  ·exact a1C _ _ _ _ _ (by decide)
  ·exact a1C _ _ _ _ _ (by decide)
  ·exact b9Y _ _ _ _ hxy.1 hxy.2
  ·exact b9Z _ _ _ _
  ·exact c0c _ _ _ _
  ·exact c0d _ _ _ _
  ·exact Pi _ _ _ _ _ (by decide) hxy.1 hxy.2
  ·exact Pi _ _ _ _ _ (by decide) hxy.1 hxy.2
  ·exact a5G _ _ _ _ _ (by decide)
  ·exact a5G _ _ _ _ _ (by decide)
  ·exact a1D _ _ _ _ _ (by decide)
  ·exact a1D _ _ _ _ _ (by decide)
  ·exact absurd rfl hk.1
  ·exact absurd rfl hk.2.1
  ·exact c0f _ _ _ _
  ·exact c0g _ _ _ _
  ·exact c0h _ _ _ _
  ·exact c0i _ _ _ _
 | [x,y,z],ha,hp=>
  have h:=a3 rfl
  rw[h]at hi
  exact absurd hi hk.2.2
 | x::y::z::w::l,ha,hp=>
  have h1:=(BQ k).2.2
  have:o8 (x::y::z::w::l)=(l.length:Int)+4:=by unfold o8;simp <;> omega
  rw[this]at ha
  omega
theorem WU (k N:Int) (args:List V3) (env:P5) (hE:EvOk env) (hN:-9223372036854775808≤N∧N≤9223372036854775807) (hk:k≠23∧k≠24∧k≠26) (hl:args.length≤1000000):∃r:V3×Int,iV (k,N) args env=some r∧sU (k,N) args env=some r:=by
 by_cases ha:arF k=o8 args
 case neg=>
  refine⟨((0,0,0),2),?_,?_⟩
  ·unfold iV vz
   rw[QW,o7,E5 ha];rfl
  ·unfold sU
   obtain⟨b,hb⟩:=a1q k N
   rw[hb,o7]
   cases b
   ·rfl
   ·rw[Pj,o7,E5 (fun h=>ha h.symm)];rfl
 have hne:arF k≠-1:=by rw[ha];unfold o8;omega
 unfold iV sU
 rw[a4c ha,Zb hne,Pj]
 simp only[o7,F5 ha.symm]
 cases hf:ZE k N
 ·exact⟨_,rfl,rfl⟩
 simp only[o9,o5,o7,C9]
 obtain⟨b,hb⟩:=Xr (k,N) env
 rw[show uh (k,N) env=some b from hb,hb]
 cases b
 ·exact⟨_,rfl,rfl⟩
 simp only[o7,o9,o5]
 rw[a4K args hl,a5F args hl,o7]
 cases hp:args.all plB
 ·exact⟨_,rfl,rfl⟩
 exact b9W k N args env hE hN hk ha hf hb hp
def XT.node:XT→Int×Int
 | .l0 n=>n | .l1 n _=>n | .l2 n _ _=>n | .l3 n _ _ _=>n
def rtI (t:XT) (o:Nat):Nat:=o+t.size -1
def At (e:List (Int×Int)) (S:List Int) (t:XT) (o:Nat):Prop:=∃pre suf S1 S2,e=pre++t.post++suf∧S=S1++t.sts o++S2∧pre.length=o∧S1.length=o
theorem a5L {e:List (Int×Int)} {S:List Int} {n:Int×Int} {a:XT} {o:Nat} (h:At e S (.l1 n a) o):At e S a o:=by
 obtain⟨p,s,S1,S2,h1,h2,h3,h4⟩:=h
 exact⟨p,[n]++s,S1,[(o:Int)]++S2,by rw[h1];simp[XT.post],by rw[h2];simp[XT.sts],h3,h4⟩
theorem Ht {e:List (Int×Int)} {S:List Int} {n:Int×Int} {a b:XT} {o:Nat} (h:At e S (.l2 n a b) o):At e S a o∧At e S b (o+a.size):=by
 obtain⟨p,s,S1,S2,h1,h2,h3,h4⟩:=h
 exact⟨⟨p,b.post++[n]++s,S1,b.sts (o+a.size)++[(o:Int)]++S2,by rw[h1];simp[XT.post],by rw[h2];simp[XT.sts],h3,h4⟩,
  ⟨p++a.post,[n]++s,S1++a.sts o,[(o:Int)]++S2,by rw[h1];simp[XT.post],by rw[h2];simp[XT.sts],by simp[XT.post_len,h3],by simp[XT.sts_len,h4]⟩⟩
theorem Jk {e:List (Int×Int)} {S:List Int} {n:Int×Int} {a b c:XT} {o:Nat} (h:At e S (.l3 n a b c) o):At e S a o∧At e S b (o+a.size)∧At e S c (o+a.size+b.size):=by
 obtain⟨p,s,S1,S2,h1,h2,h3,h4⟩:=h
 exact⟨⟨p,b.post++c.post++[n]++s,S1,b.sts (o+a.size)++c.sts (o+a.size+b.size)++[(o:Int)]++S2,by rw[h1];simp[XT.post],by rw[h2];simp[XT.sts],h3,h4⟩,
  ⟨p++a.post,c.post++[n]++s,S1++a.sts o,c.sts (o+a.size+b.size)++[(o:Int)]++S2,by rw[h1];simp[XT.post],by rw[h2];simp[XT.sts],by simp[XT.post_len,h3],by simp[XT.sts_len,h4]⟩,
  ⟨p++a.post++b.post,[n]++s,S1++a.sts o++b.sts (o+a.size),[(o:Int)]++S2,by rw[h1];simp[XT.post],by rw[h2];simp[XT.sts],by simp[XT.post_len,h3];try omega,by simp[XT.sts_len,h4];try omega⟩⟩
theorem a4G (t:XT):∃p,t.post=p++[t.node]∧p.length+1=t.size:=by
 have hl:=t.post_len
 cases t with
 | l0 n=>exact⟨[],rfl,rfl⟩
 | l1 n a=>refine⟨a.post,rfl,?_⟩;simp only[XT.post,List.length_append,List.length_singleton]at hl;exact hl
 | l2 n a b=>refine⟨a.post++b.post,rfl,?_⟩;simp only[XT.post,List.length_append,List.length_singleton]at hl ⊢;exact hl
 | l3 n a b c=>refine⟨a.post++b.post++c.post,rfl,?_⟩;simp only[XT.post,List.length_append,List.length_singleton]at hl ⊢;exact hl
theorem a9D (t:XT) (o:Nat):∃p,t.sts o=p++[(o:Int)]∧p.length+1=t.size:=by
 have hl:=t.sts_len o
 cases t with
 | l0 n=>exact⟨[],rfl,rfl⟩
 | l1 n a=>refine⟨a.sts o,rfl,?_⟩;simp only[XT.sts,List.length_append,List.length_singleton]at hl;exact hl
 | l2 n a b=>refine⟨a.sts o++b.sts (o+a.size),rfl,?_⟩;simp only[XT.sts,List.length_append,List.length_singleton]at hl ⊢;exact hl
 | l3 n a b c=>refine⟨a.sts o++b.sts (o+a.size)++c.sts (o+a.size+b.size),rfl,?_⟩;simp only[XT.sts,List.length_append,List.length_singleton]at hl ⊢;exact hl
theorem jO {e:List (Int×Int)} {S:List Int} {t:XT} {o:Nat} (h:At e S t o):e[rtI t o]? =some t.node∧S[rtI t o]? =some (o:Int)∧rtI t o<e.length:=by
 obtain⟨p,s,S1,S2,h1,h2,h3,h4⟩:=h
 obtain⟨q,e1,e2⟩:=a4G t
 obtain⟨q',e1',e2'⟩:=a9D t o
 have hp:=t.size_pos
 have a1:e[rtI t o]? =some t.node:=by
  rw[h1,e1,List.append_assoc,List.append_assoc,←List.append_assoc p,List.getElem?_append_right (by simp[rtI];omega)]
  rw[show rtI t o -(p++q).length=0 by simp[rtI];omega];rfl
 refine⟨a1,?_,(O6.1 a1).1⟩
 rw[h2,e1',List.append_assoc,List.append_assoc,←List.append_assoc S1,List.getElem?_append_right (by simp[rtI];omega)]
 rw[show rtI t o -(S1++q').length=0 by simp[rtI];omega];rfl
def DT:XT→Nat→List Int
 | .l0 _,_=>[]
 | .l1 _ a,o=>[(rtI a o:Int)]
 | .l2 _ a b,o=>[(rtI a o:Int),(rtI b (o+a.size):Int)]
 | .l3 _ a b c,o=>[(rtI a o:Int),(rtI b (o+a.size):Int),(rtI c (o+a.size+b.size):Int)]
structure OStep (S:List Int) (f:List Int×Int×Int→Option ((List Int×Int×Int)⊕List Int)):Prop where
 step:∀(l:List Int) (c:Nat) (j:Nat) (x:Nat),j<l.length→l.length≤3→S[c]? =some ((x:Nat):Int)→x≤100→f (l,(c:Int),(j:Int))=some (.inl (l.set j (c:Int),(x:Int) -1,(j:Int) -1))
 stop:∀(l:List Int) (c:Int),f (l,c,-1)=some (.inr l)
theorem tY {σ ε:Type} {f:σ→Option (σ⊕ε)} {s s' :σ} {n:Nat} (h:f s=some (.inl s')):jy f (n+1) s=jy f n s' :=by rw[jy,h]
theorem yY {σ ε:Type} {f:σ→Option (σ⊕ε)} {s:σ} {e:ε} {n:Nat} (h:f s=some (.inr e)):jy f (n+1) s=some e:=by rw[jy,h]
theorem Ye {e:List (Int×Int)} {S:List Int} {t:XT} {o:Nat} {f:List Int×Int×Int→Option ((List Int×Int×Int)⊕List Int)} (hs:OStep S f) (h:At e S t o) (he:e.length≤48) (hw:t.wf):
  N8 f (List.replicate (arF t.node.1).toNat 0,(rtI t o:Int) -1,arF t.node.1 -1)=some (DT t o):=by
 obtain⟨k,hk⟩:∃k,bJ=k+1+1+1+1:=⟨bJ -4,by unfold bJ;omega⟩
 unfold N8
 rw[hk]
 have hr:=jO h
 cases t with
 | l0 n=>
  rw[show arF (XT.l0 n).node.1=0 from hw]
  exact yY (hs.stop _ _)
 | l1 n a=>
  rw[show arF (XT.l1 n a).node.1=1 from hw.1]
  have ha:=jO (a5L h)
  have p1:=a.size_pos
  rw[show((rtI (.l1 n a) o:Nat):Int) -1=((rtI a o:Nat):Int) by simp only[rtI,XT.size];omega]
  rw[show((1:Int) -1)=((0:Nat):Int)from rfl,tY (hs.step _ _ 0 o (by simp) (by simp) ha.2.1 (by unfold rtI at hr;omega))]
  rw[show(((0:Nat):Int) -1)=-1 from rfl,yY (hs.stop _ _)]
  rfl
 | l2 n a b=>
  rw[show arF (XT.l2 n a b).node.1=2 from hw.1]
  have ha:=jO (Ht h).1
  have hb:=jO (Ht h).2
  have p1:=a.size_pos
  have p2:=b.size_pos
  rw[show((rtI (.l2 n a b) o:Nat):Int) -1=((rtI b (o+a.size):Nat):Int) by simp only[rtI,XT.size];omega]
  rw[show((2:Int) -1)=((1:Nat):Int)from rfl,tY (hs.step _ _ 1 (o+a.size) (by simp) (by simp) hb.2.1 (by unfold rtI at hb;omega))]
  rw[show((o+a.size:Nat):Int) -1=((rtI a o:Nat):Int) by unfold rtI;omega,show(((1:Nat):Int) -1)=((0:Nat):Int)from rfl]
  rw[tY (hs.step _ _ 0 o (by simp) (by simp) ha.2.1 (by unfold rtI at hr;omega))]
  rw[show(((0:Nat):Int) -1)=-1 from rfl,yY (hs.stop _ _)]
  rfl
 | l3 n a b c=>
  rw[show arF (XT.l3 n a b c).node.1=3 from hw.1]
  have ha:=jO (Jk h).1
  have hb:=jO (Jk h).2.1
  have hc:=jO (Jk h).2.2
  have p1:=a.size_pos
  have p2:=b.size_pos
  have p3:=c.size_pos
  rw[show((rtI (.l3 n a b c) o:Nat):Int) -1=((rtI c (o+a.size+b.size):Nat):Int) by simp only[rtI,XT.size];omega]
  rw[show((3:Int) -1)=((2:Nat):Int)from rfl,tY (hs.step _ _ 2 (o+a.size+b.size) (by simp) (by simp) hc.2.1 (by unfold rtI at hc;omega))]
  rw[show((o+a.size+b.size:Nat):Int) -1=((rtI b (o+a.size):Nat):Int) by unfold rtI;omega,show(((2:Nat):Int) -1)=((1:Nat):Int)from rfl]
  rw[tY (hs.step _ _ 1 (o+a.size) (by simp) (by simp) hb.2.1 (by unfold rtI at hb;omega))]
  rw[show((o+a.size:Nat):Int) -1=((rtI a o:Nat):Int) by unfold rtI;omega,show(((1:Nat):Int) -1)=((0:Nat):Int)from rfl]
  rw[tY (hs.step _ _ 0 o (by simp) (by simp) ha.2.1 (by unfold rtI at hr;omega))]
  rw[show(((0:Nat):Int) -1)=-1 from rfl,yY (hs.stop _ _)]
  rfl
theorem b9O {t:XT} (h:t.wf):0≤arF t.node.1∧arF t.node.1≤3:=by
 cases t with
 | l0 n=>rw[show arF (XT.l0 n).node.1=0 from h];decide
 | l1 n a=>rw[show arF (XT.l1 n a).node.1=1 from h.1];decide
 | l2 n a b=>rw[show arF (XT.l2 n a b).node.1=2 from h.1];decide
 | l3 n a b c=>rw[show arF (XT.l3 n a b c).node.1=3 from h.1];decide
theorem yZ {α:Type} {k:Int} (h:0≤k) (h2:k≤1000000) (x:α):gU k x=some (List.replicate k.toNat x):=if_pos ⟨h,by omega⟩
theorem AO {e:List (Int×Int)} {S:List Int} {t:XT} {o:Nat} (env:P5) (h:At e S t o) (he:e.length≤48) (hw:t.wf):dR (e,S,env) (rtI t o:Int)=some (DT t o):=by
 have hr:=jO h
 have ha:=b9O hw
 unfold dR
 simp only[D8,hr.1,o7,Pj]
 rw[yZ ha.1 (by omega),o7,X7]
 rw[show G8 .i64 ((rtI t o:Nat):Int) 1=(rtI t o:Int) -1 from J4 (by unfold I64;omega)]
 rw[show G8 .i64 (o8 (List.replicate (arF t.node.1).toNat (0:Int))) 1=arF t.node.1 -1 by
  rw[show o8 (List.replicate (arF t.node.1).toNat (0:Int))=arF t.node.1 by unfold o8;rw[List.length_replicate];omega]
  exact J4 (by unfold I64;omega)]
 refine Ye ⟨fun l c j x hj hl hx hx2=>?_,fun l c=>?_⟩ h he hw
 ·have hjl:l[j]? =some l[j]:=Y8 hj
  simp only[H5 (show(0:Int)≤(j:Int) by omega),o6,D8,hjl,o7,hx,I9,toN,Int.toNat_natCast,S9]
  rw[J4 (by unfold I64;omega),J4 (by unfold I64;omega)]
 ·rfl
def uz (n:Int×Int) (args:List V3) (env:P5):V3×Int:=(iV n args env).getD ((0,0,0),0)
theorem yT {n:Int×Int} {env:P5} (args:List V3) (hE:EvOk env) (hI:I64 n.2) (hk:n.1≠23∧n.1≠24∧n.1≠26) (hl:args.length≤3):iV n args env=some (uz n args env)∧sU n args env=some (uz n args env):=by
 obtain⟨r,h1,h2⟩:=WU n.1 n.2 args env hE (by unfold I64 at hI;omega) hk (by omega)
 have e:uz n args env=r:=by unfold uz;rw[show iV n args env=some r from h1];rfl
 rw[e];exact⟨h1,h2⟩
def lzB (k:Int):Bool:=l7 (ieq k 23) true (l7 (ieq k 24) true (ieq k 26))
theorem b1S {k:Int} (h:lzB k=false):k≠23∧k≠24∧k≠26:=by
 refine⟨?_,?_,?_⟩ <;> (rintro rfl;revert h;decide)
def uA (r:V3×Int):V3×Int:=l7 (ieq r.2 0) (l7 (ieq r.1.1 1) (l7 (plB r.1) (r.1,0) ((0,0,0),8)) ((0,0,0),8)) ((0,0,0),r.2)
def Qp (n:Int×Int) (ra rb:V3×Int):V3×Int:=l7 (ieq n.2 0) (l7 (ieq (uA ra).2 0) (l7 (dB (ieq n.1 23) (ieq (uA ra).1.2.2 0)) ((uA ra).1,0) (uA rb)) ((0,0,0),(uA ra).2)) ((0,0,0),2)
def XG (n:Int×Int) (ra rb rc:V3×Int):V3×Int:=l7 (ieq n.2 0) (l7 (ieq (uA ra).2 0) (l7 (ieq (uA ra).1.2.2 1) rb rc) ((0,0,0),(uA ra).2)) ((0,0,0),2)
def evT (env:P5):XT→V3×Int
 | .l0 n=>uz n [] env
 | .l1 n a=>l7 (ieq (evT env a).2 0) (uz n [(evT env a).1] env) ((0,0,0),(evT env a).2)
 | .l2 n a b=>l7 (lzB n.1) (Qp n (evT env a) (evT env b)) (l7 (ieq (evT env a).2 0) (l7 (ieq (evT env b).2 0) (uz n [(evT env a).1,(evT env b).1] env) ((0,0,0),(evT env b).2)) ((0,0,0),(evT env a).2))
 | .l3 n a b c=>XG n (evT env a) (evT env b) (evT env c)
abbrev VSt:Type:=V3×List V3×Int
structure VStep (ops:List Int) (ev:Int→Option (V3×Int)) (pad:List V3→List V3) (f:VSt→Option (Out VSt (V3×List V3) (V3×Int))):Prop where
 step:∀(l:List V3) (c:Int) (r:V3×Int),ops[l.length]? =some c→ev c=some r→f ((0,0,0),pad l,(l.length:Int))=some (l7 (ieq r.2 0) (.nx ((0,0,0),pad (l++[r.1]),((l.length+1:Nat):Int))) (.rt ((0,0,0),r.2)))
 stop:∀(l:List V3),l.length=ops.length→f ((0,0,0),pad l,(l.length:Int))=some (.ex ((0,0,0),l))
section
variable {ev:Int→Option (V3×Int)} {pad:List V3→List V3} {f:VSt→Option (Out VSt (V3×List V3) (V3×Int))}
theorem v0 (h:VStep [] ev pad f):J9 f ((0,0,0),pad [],0)=some (.inl ((0,0,0),[])):=by
 obtain⟨k,hk⟩:∃k,bJ=k+1:=⟨bJ -1,by unfold bJ;omega⟩
 unfold J9
 rw[hk,iK,show f ((0,0,0),pad [],0)=some (.ex ((0,0,0),[]))from h.stop [] rfl]
theorem v1 {c:Int} {r:V3×Int} (h:VStep [c] ev pad f) (h1:ev c=some r):J9 f ((0,0,0),pad [],0)=some (l7 (ieq r.2 0) (.inl ((0,0,0),[r.1])) (.inr ((0,0,0),r.2))):=by
 obtain⟨k,hk⟩:∃k,bJ=k+1+1:=⟨bJ -2,by unfold bJ;omega⟩
 unfold J9
 rw[hk,iK,show f ((0,0,0),pad [],0)=_ from h.step [] c r rfl h1]
 cases ieq r.2 0
 ·rfl
 ·simp only[o6]
  rw[iK,show f ((0,0,0),pad ([]++[r.1]),(([].length+1:Nat):Int))=_ from h.stop [r.1] rfl]
theorem v2 {c d:Int} {r q:V3×Int} (h:VStep [c,d] ev pad f) (h1:ev c=some r) (h2:ev d=some q):J9 f ((0,0,0),pad [],0)=some (l7 (ieq r.2 0) (l7 (ieq q.2 0) (.inl ((0,0,0),[r.1,q.1])) (.inr ((0,0,0),q.2))) (.inr ((0,0,0),r.2))):=by
 obtain⟨k,hk⟩:∃k,bJ=k+1+1+1:=⟨bJ -3,by unfold bJ;omega⟩
 unfold J9
 rw[hk,iK,show f ((0,0,0),pad [],0)=_ from h.step [] c r rfl h1]
 cases ieq r.2 0
 ·rfl
 ·simp only[o6]
  rw[iK,show f ((0,0,0),pad ([]++[r.1]),(([].length+1:Nat):Int))=_ from h.step [r.1] d q rfl h2]
  cases ieq q.2 0
  ·rfl
  ·simp only[o6]
   rw[iK,show f ((0,0,0),pad ([r.1]++[q.1]),(([r.1].length+1:Nat):Int))=_ from h.stop [r.1,q.1] rfl]
end
theorem Va {k:Int} (h:arF k=0∨arF k=1):k≠23∧k≠24∧k≠26:=by
 refine⟨?_,?_,?_⟩ <;> (rintro rfl;revert h;decide)
theorem a5J {k:Int} (h:arF k=2):k≠26:=by rintro rfl;revert h;decide
theorem a5K {k:Int} (h:arF k=3):k=26:=by
 obtain⟨i,rfl⟩:=c0n (by rw[h];decide)
 rw[(a5I i).2.2.2 h];rfl
theorem d4O (n:Nat) (E:P7) (i:Int):(A7 (n+1)).1 E i=iP (A7 n).1 (A7 n).2.1 (A7 n).2.2 E i:=rfl
theorem d4P (n:Nat) (E:P7) (i:Int):(A7 (n+1)).2.1 E i=kC (A7 n).1 (A7 n).2.1 (A7 n).2.2 E i:=rfl
theorem b9A (n:Nat) (E:P7) (x:Int×Int) (l:List Int):(A7 (n+1)).2.2 E x l=fK (A7 n).1 (A7 n).2.1 (A7 n).2.2 E x l:=rfl
theorem Io {n:Nat} {E:P7} {i:Int} {r:V3×Int} (h:(A7 n).2.1 E i=some r):(A7 (n+1)).1 E i=some (uA r):=by
 rw[d4O]
 unfold iP uA
 rw[h,o7]
 cases ieq r.2 0
 ·rfl
 cases ieq r.1.1 1
 ·rfl
 simp only[o9,o5,o6]
 rw[D7,o7]
 cases plB r.1 <;> rfl
theorem a6o {n:Nat} {E:P7} {x:Int×Int} {i j:Int} {ra rb:V3×Int} (hx:x.1≠26) (h1:(A7 n).2.1 E i=some ra) (h2:(A7 n).2.1 E j=some rb):(A7 (n+2)).2.2 E x [i,j]=some (Qp x ra rb):=by
 rw[show n+2=(n+1)+1 from rfl,b9A]
 unfold fK Qp
 rw[show lat [i,j] 0=some i from rfl,show lat [i,j] 1=some j from rfl]
 simp only[o7]
 rw[Io h1,Io h2,E5 hx]
 cases ieq x.2 0
 ·rfl
 simp only[o7,o9,o5,o6]
 cases ieq (uA ra).2 0
 ·rfl
 simp only[o9,o5,o6]
 cases dB (ieq x.1 23) (ieq (uA ra).1.2.2 0) <;> rfl
theorem a6p {n:Nat} {E:P7} {x:Int×Int} {i j l:Int} {ra rb rc:V3×Int} (hx:x.1=26) (h1:(A7 n).2.1 E i=some ra) (h2:(A7 (n+1)).2.1 E j=some rb) (h3:(A7 (n+1)).2.1 E l=some rc):(A7 (n+2)).2.2 E x [i,j,l]=some (XG x ra rb rc):=by
 rw[show n+2=(n+1)+1 from rfl,b9A]
 unfold fK XG
 rw[show lat [i,j,l] 0=some i from rfl,show lat [i,j,l] 1=some j from rfl,show lat [i,j,l] 2=some l from rfl]
 simp only[o7]
 rw[Io h1,h2,h3,F5 hx]
 cases ieq x.2 0
 ·rfl
 simp only[o7,o9,o5,o6]
 cases ieq (uA ra).2 0
 ·rfl
 simp only[o9,o5,o6]
 cases ieq (uA ra).1.2.2 1 <;> rfl
def Td (m:Nat) (l:List V3):List V3:=l++List.replicate (m -l.length) (0,0,0)
theorem a7a {m:Nat} {l:List V3} (h:l.length<m):(Td m l)[l.length]? =some (0,0,0):=by
 unfold Td
 rw[List.getElem?_append_right (Nat.le_refl _),Nat.sub_self,List.getElem?_replicate,if_pos (by omega)]
theorem a7b {m:Nat} {l:List V3} (v:V3) (h:l.length<m):(Td m l).set l.length v=Td m (l++[v]):=by
 unfold Td
 obtain⟨k,hk⟩:∃k,m -l.length=k+1:=⟨m -l.length -1,by omega⟩
 rw[List.set_append_right _ _ (Nat.le_refl _),Nat.sub_self,hk,List.replicate_succ,List.set_cons_zero]
 rw[show m -(l++[v]).length=k by simp;omega]
 simp
theorem a4E {m:Nat} {l:List V3} (h:l.length=m):Td m l=l:=by unfold Td;rw[h,Nat.sub_self];simp
def a2g (ev:Int→Option (V3×Int)) (ops:List Int) (x:VSt):Option (Out VSt (V3×List V3) (V3×Int)):=
 l7 (ilt x.2.2 (o8 ops))
  (l9 (lat ops x.2.2) fun(x_4:Int)=>
   l9 (I9 ops (toN x.2.2)) fun(x_5:Int)=>
    l9 (ev x_5) fun(x_6:V3×Int)=>
     l7 (D6 (ieq x_6.2 0)) (some (Out.rt ((0,0,0),x_6.2)))
      (l9 (lat x.2.1 x.2.2) fun(x_7:V3)=>
       l9 (I9 x.2.1 (toN x.2.2)) fun(x_8:V3)=>
        some (Out.nx (x.1,S9 x.2.1 (toN x.2.2) x_6.1,x8 IntKind.i64 x.2.2 1))))
  (some (Out.ex (x.1,x.2.1)))
theorem II (ev:Int→Option (V3×Int)) (ops:List Int) (ho:ops.length≤3):VStep ops ev (Td ops.length) (a2g ev ops):=by
 refine⟨fun l c r h1 h2=>?_,fun l h=>?_⟩
 ·have hl:=(O6.1 h1).1
  unfold a2g
  simp only[G6 h1,o6,D8,h1,o7,I9,toN,Int.toNat_natCast,h2,a7a hl,S9,a7b _ hl]
  cases ieq r.2 0
  ·rfl
  ·simp only[o9,o5,o6]
   rw[O5 (by omega)]
 ·unfold a2g
  rw[a4E h,h,G5];rfl
theorem OJ (n:Nat) (E:P7) (i:Int) (x:Int×Int) (ops:List Int) (h1:lat E.1 i=some x) (h2:dR E i=some ops) (ho:ops.length≤3):
  (A7 (n+1)).2.1 E i=l7 (lzB x.1) ((A7 n).2.2 E x ops)
   (l9 (J9 (a2g ((A7 n).2.1 E) ops) ((0,0,0),Td ops.length [],0)) fun(o:V3×List V3⊕V3×Int)=>L8 o (fun(y:V3×List V3)=>sU x y.2 E.2.2) fun(r:V3×Int)=>some r):=by
 rw[d4P]
 unfold kC lzB
 simp only[h1,h2,o7,X7]
 rw[show o8 ops=(ops.length:Int)from rfl]
 have hp:gU (ops.length:Int) (((0,0,0):Int×Int×Int))=some (Td ops.length []):=by
  rw[yZ (by omega) (by omega)];rfl
 cases g1:ieq x.1 23
 ·cases g2:ieq x.1 24
  ·cases g3:ieq x.1 26
   ·simp only[o5,o7,C9]
    rw[show gU (ops.length:Int) _=_ from hp,o7]
    rfl
   ·simp only[o5,o6]
    generalize (A7 n).2.2 E x ops=q
    cases q <;> rfl
  ·simp only[o5,o6]
   generalize (A7 n).2.2 E x ops=q
   cases q <;> rfl
 ·simp only[o6]
  generalize (A7 n).2.2 E x ops=q
  cases q <;> rfl
theorem JS (t:XT) (o:Nat):(DT t o).length≤3:=by cases t <;> simp[DT]
theorem Xo {e:List (Int×Int)} {S:List Int} {env:P5} (hE:EvOk env) (he:e.length≤48) (hI:∀n∈e,I64 n.2):∀(t:XT) (o k:Nat),At e S t o→t.wf→3*t.size≤k→(A7 k).2.1 (e,S,env) (rtI t o:Int)=some (evT env t):=by
 intro t
 induction t with
 | l0 n=>
  intro o k h hw hk
  have hr:=jO h
  obtain⟨k,rfl⟩:∃m,k=m+3:=⟨k -3,by simp only[XT.size]at hk;omega⟩
  have hz:=Va (.inl (show arF n.1=0 from hw))
  rw[show k+3=(k+2)+1 from rfl,OJ _ _ _ n (DT (.l0 n) o) (by rw[D8];exact hr.1) (AO env h he hw) (JS _ _)]
  rw[show lzB n.1=false by unfold lzB;rw[E5 hz.1,E5 hz.2.1,E5 hz.2.2];rfl,o5]
  rw[show DT (.l0 n) o=[]from rfl,v0 (II _ _ (by simp)),o7,C9]
  exact(yT [] hE (hI n (bZ hr.1)) hz (by simp)).2
 | l1 n a iha=>
  intro o k h hw hk
  have hr:=jO h
  simp only[XT.size]at hk
  obtain⟨k,rfl⟩:∃m,k=m+3:=⟨k -3,by omega⟩
  have hz:=Va (.inr (show arF n.1=1 from hw.1))
  rw[show k+3=(k+2)+1 from rfl,OJ _ _ _ n (DT (.l1 n a) o) (by rw[D8];exact hr.1) (AO env h he hw) (JS _ _)]
  rw[show lzB n.1=false by unfold lzB;rw[E5 hz.1,E5 hz.2.1,E5 hz.2.2];rfl,o5]
  rw[show DT (.l1 n a) o=[(rtI a o:Int)]from rfl,v1 (II _ _ (by simp)) (iha o (k+2) (a5L h) hw.2 (by omega)),o7]
  rw[show evT env (.l1 n a)=l7 (ieq (evT env a).2 0) (uz n [(evT env a).1] env) ((0,0,0),(evT env a).2)from rfl]
  cases ieq (evT env a).2 0
  ·rfl
  exact(yT [(evT env a).1] hE (hI n (bZ hr.1)) hz (by simp)).2
 | l2 n a b iha ihb=>
  intro o k h hw hk
  have hr:=jO h
  simp only[XT.size]at hk
  obtain⟨k,rfl⟩:∃m,k=m+3:=⟨k -3,by omega⟩
  have hz:=a5J (show arF n.1=2 from hw.1)
  rw[show k+3=(k+2)+1 from rfl,OJ _ _ _ n (DT (.l2 n a b) o) (by rw[D8];exact hr.1) (AO env h he hw) (JS _ _)]
  rw[show DT (.l2 n a b) o=[(rtI a o:Int),(rtI b (o+a.size):Int)]from rfl]
  rw[show evT env (.l2 n a b)=l7 (lzB n.1) (Qp n (evT env a) (evT env b)) (l7 (ieq (evT env a).2 0) (l7 (ieq (evT env b).2 0) (uz n [(evT env a).1,(evT env b).1] env) ((0,0,0),(evT env b).2)) ((0,0,0),(evT env a).2))from rfl]
  cases hl:lzB n.1
  ·have hz:=b1S hl
   simp only[o5]
   rw[v2 (II _ _ (by simp)) (iha o (k+2) (Ht h).1 hw.2.1 (by omega)) (ihb (o+a.size) (k+2) (Ht h).2 hw.2.2 (by omega)),o7]
   cases ieq (evT env a).2 0
   ·rfl
   cases ieq (evT env b).2 0
   ·rfl
   exact(yT [(evT env a).1,(evT env b).1] hE (hI n (bZ hr.1)) hz (by simp)).2
  ·simp only[o6]
   exact a6o hz (iha o k (Ht h).1 hw.2.1 (by omega)) (ihb (o+a.size) k (Ht h).2 hw.2.2 (by omega))
 | l3 n a b c iha ihb ihc=>
  intro o k h hw hk
  have hr:=jO h
  simp only[XT.size]at hk
  obtain⟨k,rfl⟩:∃m,k=m+3:=⟨k -3,by omega⟩
  have hz:=a5K (show arF n.1=3 from hw.1)
  rw[show k+3=(k+2)+1 from rfl,OJ _ _ _ n (DT (.l3 n a b c) o) (by rw[D8];exact hr.1) (AO env h he hw) (JS _ _)]
  rw[show lzB n.1=true by rw[hz];decide,o6]
  exact a6p hz (iha o k (Jk h).1 hw.2.1 (by omega)) (ihb (o+a.size) (k+1) (Jk h).2.1 hw.2.2.1 (by omega)) (ihc (o+a.size+b.size) (k+1) (Jk h).2.2 hw.2.2.2 (by omega))
theorem ES (r:V3×Int):(ieq r.2 0=false∧(uA r)=((0,0,0),r.2))∨(ieq r.2 0=true∧ieq r.1.1 1=false∧uA r=((0,0,0),8))∨(ieq r.2 0=true∧ieq r.1.1 1=true∧plB r.1=false∧uA r=((0,0,0),8))∨(ieq r.2 0=true∧ieq r.1.1 1=true∧plB r.1=true∧uA r=(r.1,0)):=by
 unfold uA
 cases ieq r.2 0
 ·exact .inl ⟨rfl,rfl⟩
 cases ieq r.1.1 1
 ·exact .inr (.inl ⟨rfl,rfl,rfl⟩)
 cases plB r.1
 ·exact .inr (.inr (.inl ⟨rfl,rfl,rfl,rfl⟩))
 ·exact .inr (.inr (.inr ⟨rfl,rfl,rfl,rfl⟩))
def qM (e:List (Int×Int)) (env:P5):V3×Int:=match eY e with
 | .inl x=>((0,0,0),x.2)
 | .inr t=>evT env t
theorem WZ {e:List (Int×Int)} {t:XT} (h:eY e= .inr t):At e (t.sts 0) t 0∧e.length≤48∧e.length=t.size∧G8 .i64 (o8 e) 1=(rtI t 0:Int):=by
 obtain⟨hp,h48⟩:=xN h
 have hsz:e.length=t.size:=by rw[hp,XT.post_len]
 have hpos:=t.size_pos
 refine⟨⟨[],[],[],[],by simp[←hp],by simp,rfl,rfl⟩,h48,hsz,?_⟩
 rw[J4 (by unfold I64 o8;omega)]
 unfold o8 rtI;omega
theorem Vl {e:List (Int×Int)} {env:P5} (hE:EvOk env) (hI:∀n∈e,I64 n.2):wo e env=some (qM e env):=by
 unfold wo EY qM
 rw[KC]
 unfold ou
 cases h:eY e with
 | inl x=>simp only[o7,E5 (xM h)];rfl
 | inr t=>
  obtain⟨h1,h2,h3,h4⟩:=WZ h
  simp only[o7,F5 (rfl:(0:Int)=0),o9,o5,X7]
  rw[h4,show qN (e,t.sts 0,env) ((rtI t 0:Nat):Int)=some (evT env t)from Xo hE h2 hI t 0 bJ h1 (GY h) (by unfold bJ;omega)] <;> rfl
abbrev E4:Type:=Int×Int×Int×Int
def DJ (s:A8) (env:P5) (m d:Int) (ap:List Bool) (i:Int):List Bool⊕(Int×E4):=
 match lat s.2.2.2.2 i with
 | none=> .inl ap
 | some r=>l7 (ieq (o8 r.2.2.2.2.2.1) 0) (.inl (ap++[true])) (l7 (ieq (qM r.2.2.2.2.2.1 env).2 0) (.inl (ap++[ieq (qM r.2.2.2.2.2.1 env).1.2.2 1])) (.inr (0,(qM r.2.2.2.2.2.1 env).2,m,d,i)))
def P8 (s:A8) (env:P5) (m d:Int):Int×E4:=
 match U0 (DJ s env m d) (W9 s d env.1).1 []with
 | .inr e=>e
 | .inl ap=>l7 (ilt (Ad (W9 s d env.1).2.1 (W9 s d env.1).2.2 ap) 0) (Ad (W9 s d env.1).2.1 (W9 s d env.1).2.2 ap,0,0,0,0) (((W9 s d env.1).1.getD (Ad (W9 s d env.1).2.1 (W9 s d env.1).2.2 ap).toNat 0),0,0,0,0)
theorem RX {s:A8} {d t i:Int} (h:i∈(W9 s d t).1):∃r,lat s.2.2.2.2 i=some r∧r∈s.2.2.2.2:=by
 have h:i∈castL (aN s d t):=h
 obtain⟨k,hk,rfl⟩:=List.mem_map.1 h
 have:=(CX hk).1
 exact ed (by omega) (by unfold o8;omega)
theorem Gn (s:A8) (d t:Int):(W9 s d t).1.length≤s.2.2.2.2.length∧(W9 s d t).2.1.length=(W9 s d t).1.length:=by
 refine⟨?_,?_⟩
 ·show(castL (aN s d t)).length≤_
  rw[yU];exact uX _ _
 ·show((aN s d t).map _).length=(castL (aN s d t)).length
  rw[yU,List.length_map]
theorem a5U {oc pr:Int→Int} {l:List Int} {n:Int} (hn:0≤n) (h:∀x∈l,oc x<n):chF oc pr l<n:=by
 unfold chF
 cases hb:Ah oc pr l with
 | nil=>show(-1:Int)<n;omega
 | cons b r=>
  cases r with
  | nil=>exact h b (BR (oc:=oc) (pr:=pr) (by rw[hb];simp))
  | cons c r=>show(-2:Int)<n;omega
theorem a6L (par prio:List Int) (ap:List Bool):∀(k:Nat) (i:Int),i<par.length→ocF par prio ap k i<par.length
 | 0,i,h=>by show(-1:Int)<_;omega
 | k+1,i,h=>by
  unfold ocF
  have hb:chF (ocF par prio ap k) (prF prio) (castL (sW par i))<(par.length:Int):=a5U (by omega) fun x hx=>by
   unfold castL at hx
   obtain⟨j,hj,rfl⟩:=List.mem_map.1 hx
   have:=(Vt hj).1
   exact a6L par prio ap k _ (by omega)
  cases ieq (chF (ocF par prio ap k) (prF prio) (castL (sW par i))) (-1)
  ·exact hb
  ·cases apF ap i
   ·show(-1:Int)<_;omega
   ·exact h
theorem Wq (par prio:List Int) (ap:List Bool):Ad par prio ap<par.length:=by
 unfold Ad
 cases ieq (Bi par prio) 0
 ·show(-1:Int)<_;omega
 cases ieq (o8 ap) (o8 par)
 ·show(-1:Int)<_;omega
 show chS par prio ap (-1)<_
 unfold chS
 refine a5U (by omega) fun x hx=>?_
 unfold castL at hx
 obtain⟨j,hj,rfl⟩:=List.mem_map.1 hx
 have:=(Vt hj).1
 unfold OC
 exact a6L par prio ap _ _ (by omega)
def VG (m:Nat) (l:List Bool):List Bool:=l++List.replicate (m -l.length) false
theorem a6Y {m:Nat} {l:List Bool} (h:l.length<m):(VG m l)[l.length]? =some false:=by
 unfold VG
 rw[List.getElem?_append_right (Nat.le_refl _),Nat.sub_self,List.getElem?_replicate,if_pos (by omega)]
theorem a6Z {m:Nat} {l:List Bool} (v:Bool) (h:l.length<m):(VG m l).set l.length v=VG m (l++[v]):=by
 unfold VG
 obtain⟨k,hk⟩:∃k,m -l.length=k+1:=⟨m -l.length -1,by omega⟩
 rw[List.set_append_right _ _ (Nat.le_refl _),Nat.sub_self,hk,List.replicate_succ,List.set_cons_zero]
 rw[show m -(l++[v]).length=k by simp;omega]
 simp
theorem a4D {m:Nat} {l:List Bool} (h:l.length=m):VG m l=l:=by unfold VG;rw[h,Nat.sub_self];simp
theorem PH (s:A8) (env:P5) (m d:Int) (ap:List Bool):
  l7 (ilt (Ad (W9 s d env.1).2.1 (W9 s d env.1).2.2 ap) 0) (some ((Ad (W9 s d env.1).2.1 (W9 s d env.1).2.2 ap,0,0,0,0):Int×E4))
   (l9 (lat (W9 s d env.1).1 (Ad (W9 s d env.1).2.1 (W9 s d env.1).2.2 ap)) fun(x_3:Int)=>l9 (I9 (W9 s d env.1).1 (toN (Ad (W9 s d env.1).2.1 (W9 s d env.1).2.2 ap))) fun(x:Int)=>some (x,0,0,0,0))=
  some (l7 (ilt (Ad (W9 s d env.1).2.1 (W9 s d env.1).2.2 ap) 0) (Ad (W9 s d env.1).2.1 (W9 s d env.1).2.2 ap,0,0,0,0) (((W9 s d env.1).1.getD (Ad (W9 s d env.1).2.1 (W9 s d env.1).2.2 ap).toNat 0),0,0,0,0)):=by
 have hb:=Wq (W9 s d env.1).2.1 (W9 s d env.1).2.2 ap
 have hl:=(Gn s d env.1).2
 generalize Ad (W9 s d env.1).2.1 (W9 s d env.1).2.2 ap=q at*
 generalize (W9 s d env.1).1=L at*
 by_cases g:q<0
 ·rw[F7 g];rfl
 rw[E9 (Int.not_lt.1 g)]
 obtain⟨i,rfl⟩:∃i:Nat,q=(i:Int):=⟨q.toNat,by omega⟩
 have hi:i<L.length:=by omega
 have e:=Y8 hi
 simp only[o5,D8,e,o7,I9,toN,Int.toNat_natCast,qh,Option.getD_some]
theorem NZ {s:A8} {env:P5} (hs:SmS s) (hE:EvOk env) (m d:Int):ng s env m d=some (P8 s env m d):=by
 have hnr:=hs.nr
 have hlen:=(Gn s d env.1).1
 unfold ng
 rw[a5q (by omega),o7]
 rw[show gU (o8 (W9 s d env.1).1) false=some (VG (W9 s d env.1).1.length []) by rw[show o8 (W9 s d env.1).1=((W9 s d env.1).1.length:Int)from rfl,yZ (by omega) (by omega)];rfl,o7]
 unfold P8
 apply eP (W9 s d env.1).1 (DJ s env m d) (fun b i=>(((0,0,0,0),VG (W9 s d env.1).1.length b,i):E4×List Bool×Int)) (fun b=>(((0,0,0,0),b):E4×List Bool)) (fun i b=>b.length=i) [] (by omega) rfl
 ·intro i a b hi hi' hb
  obtain⟨r,hr,hm⟩:=RX (bZ hi)
  have hlt:=(O6.1 hi).1
  have hI:=(hs.ro r hm).1.2.2
  subst hb
  simp only[G6 hi,o6,D8,hi,o7,I9,toN,Int.toNat_natCast,hr,a6Y hlt,S9,a6Z _ hlt]
  unfold DJ
  rw[hr]
  simp only
  cases ieq (o8 r.2.2.2.2.2.1) 0
  ·simp only[o5]
   rw[Vl hE hI.1,o7]
   cases ieq (qM r.2.2.2.2.2.1 env).2 0
   ·exact⟨rfl,fun _ h=>by cases h⟩
   ·simp only[o9,o5,o6]
    rw[O5 (by omega)]
    exact⟨rfl,fun _ h=>by cases h;simp⟩
  ·simp only[o6]
   rw[O5 (by omega)]
   exact⟨rfl,fun _ h=>by cases h;simp⟩
 ·intro b hb
  rw[G5,a4D hb];rfl
 ·intro _
  cases U0 (DJ s env m d) (W9 s d env.1).1 []with
  | inr e=>rfl
  | inl ap=>
   simp only[C9,a5i,o7]
   exact PH s env m d ap
theorem a5V {oc pr:Int→Int} {l:List Int} (h:∀x∈l,-2≤oc x):-2≤chF oc pr l:=by
 unfold chF
 cases hb:Ah oc pr l with
 | nil=>show -2≤(-1:Int);omega
 | cons b r=>
  cases r with
  | nil=>exact h b (BR (oc:=oc) (pr:=pr) (by rw[hb];simp))
  | cons c r=>show -2≤(-2:Int);omega
theorem a6M (par prio:List Int) (ap:List Bool):∀(k:Nat) (i:Int),0≤i→-2≤ocF par prio ap k i
 | 0,i,h=>by show -2≤(-1:Int);omega
 | k+1,i,h=>by
  unfold ocF
  have hb:-2≤chF (ocF par prio ap k) (prF prio) (castL (sW par i)):=a5V fun x hx=>by
   unfold castL at hx
   obtain⟨j,hj,rfl⟩:=List.mem_map.1 hx
   exact a6M par prio ap k _ (by omega)
  cases ieq (chF (ocF par prio ap k) (prF prio) (castL (sW par i))) (-1)
  ·exact hb
  ·cases apF ap i
   ·show -2≤(-1:Int);omega
   ·show -2≤i;omega
theorem a3u (par prio:List Int) (ap:List Bool):-2≤Ad par prio ap:=by
 unfold Ad
 cases ieq (Bi par prio) 0
 ·show -2≤(-1:Int);omega
 cases ieq (o8 ap) (o8 par)
 ·show -2≤(-1:Int);omega
 show -2≤chS par prio ap (-1)
 unfold chS
 refine a5V fun x hx=>?_
 unfold castL at hx
 obtain⟨j,hj,rfl⟩:=List.mem_map.1 hx
 unfold OC
 exact a6M par prio ap _ _ (by omega)
theorem Qi {s:A8} {env:P5} {m d:Int} (b:List Bool) (i:Int) (r:Int×E4) (h:DJ s env m d b i= .inr r):r.2.1≠0:=by
 unfold DJ at h
 cases hl:lat s.2.2.2.2 i with
 | none=>rw[hl]at h;cases h
 | some q=>
  rw[hl]at h
  simp only at h
  cases h1:ieq (o8 q.2.2.2.2.2.1) 0 <;> rw[h1]at h
  ·cases h2:ieq (qM q.2.2.2.2.2.1 env).2 0 <;> rw[h2]at h <;> cases h
   simp only
   intro h3
   rw[F5 h3]at h2;cases h2
  ·cases h
theorem MW {s:A8} {env:P5} {m d:Int} (h0:(P8 s env m d).2.1=0) (h1:(P8 s env m d).1≠-1) (h2:(P8 s env m d).1≠-2):∃r,lat s.2.2.2.2 (P8 s env m d).1=some r∧r∈s.2.2.2.2:=by
 unfold P8 at*
 cases hf:U0 (DJ s env m d) (W9 s d env.1).1 []with
 | inr e=>
  rw[hf]at h0
  exact absurd h0 (gY (DJ s env m d) (fun r=>r.2.1≠0) Qi _ _ _ hf)
 | inl ap=>
  rw[hf]at h0 h1 h2
  simp only at*
  have hb:=Wq (W9 s d env.1).2.1 (W9 s d env.1).2.2 ap
  have hlo:=a3u (W9 s d env.1).2.1 (W9 s d env.1).2.2 ap
  have hl:=(Gn s d env.1).2
  generalize Ad (W9 s d env.1).2.1 (W9 s d env.1).2.2 ap=q at*
  by_cases g:q<0
  ·rw[F7 g]at h1 h2
   simp only[o6]at h1 h2
   omega
  rw[E9 (Int.not_lt.1 g)]
  have hi:q.toNat<(W9 s d env.1).1.length:=by omega
  simp only[o5,qh,Y8 hi,Option.getD_some]
  exact RX (List.getElem_mem hi)
def Bq (s:A8) (env:P5) (m d:Int):(V3×Int)⊕E4:=
 l7 (ieq (P8 s env m d).2.1 0) (l7 (ieq (P8 s env m d).1 (-1)) (.inr (10,m,d,-1)) (l7 (ieq (P8 s env m d).1 (-2)) (.inr (11,m,d,-1))
  (match lat s.2.2.2.2 (P8 s env m d).1 with
  | none=> .inr (1,0,0,0)
  | some r=>l7 (ieq (qM r.2.2.2.2.2.2.1 env).2 0) (.inl ((qM r.2.2.2.2.2.2.1 env).1,(P8 s env m d).1)) (.inr ((qM r.2.2.2.2.2.2.1 env).2,m,d,(P8 s env m d).1))))) (.inr (P8 s env m d).2)
theorem Xe {s:A8} {env:P5} {m d:Int} {e:E4} (h:Bq s env m d= .inr e):e.1≠0:=by
 unfold Bq at h
 cases h0:ieq (P8 s env m d).2.1 0 <;> rw[h0]at h
 ·cases h
  intro h3;rw[F5 h3]at h0;cases h0
 cases h1:ieq (P8 s env m d).1 (-1) <;> rw[h1]at h
 case true=>cases h;show(10:Int)≠0;decide
 cases h2:ieq (P8 s env m d).1 (-2) <;> rw[h2]at h
 case true=>cases h;show(11:Int)≠0;decide
 simp only[o6,o5]at h
 cases hl:lat s.2.2.2.2 (P8 s env m d).1 with
 | none=>rw[hl]at h;cases h;show(1:Int)≠0;decide
 | some r=>
  rw[hl]at h
  simp only at h
  cases h4:ieq (qM r.2.2.2.2.2.2.1 env).2 0 <;> rw[h4]at h <;> cases h
  simp only
  intro h3;rw[F5 h3]at h4;cases h4
theorem UE {s:A8} :∀(k:Nat) (O:List Int),(∀d∈O,0≤d∧d<nD s)→match JU s k O with | .inl O' =>(∀d∈O',0≤d∧d<nD s)∧O'.length≤O.length+k | .inr x=>x.1=[]
 | 0,O,h=>⟨h,by omega⟩
 | k+1,O,h=>by
  unfold JU
  by_cases hc:O.length<s.2.2.2.1.length
  ·rw[if_pos hc]
   cases hn:ED s O with
   | none=>rfl
   | some d=>
    have hd:=(QE hn).1
    have:=UE k (O++[(d:Int)]) (fun x hx=>by
     rcases List.mem_append.1 hx with hx | hx
     ·exact h x hx
     ·rw[List.mem_singleton]at hx;subst hx;unfold nD o8;omega)
    simp only
    cases ho:JU s k (O++[(d:Int)])with
    | inl O' =>rw[ho]at this;exact⟨this.1,by have:=this.2;simp at this;omega⟩
    | inr x=>rw[ho]at this;exact this
  ·rw[if_neg hc];exact⟨h,by omega⟩
theorem FD (s:A8):(∀d∈(kJ s).1,0≤d∧d<nD s)∧(kJ s).1.length≤100:=by
 have:=UE (s:=s) 100 [] (by simp)
 unfold kJ
 cases ho:JU s 100 []with
 | inl O=>rw[ho]at this;exact⟨this.1,by have:=this.2;simp at this;exact this⟩
 | inr x=>rw[ho]at this;simp only at this ⊢;rw[this];simp
abbrev DB:Type:=List V3×List Int
def qU (env:P5) (ds:List V3):P5:=(env.1,env.2.1,ds,env.2.2.2)
theorem rQ {env:P5} (h:EvOk env) (ds:List V3):EvOk (qU env ds):=⟨h.ms,h.tb⟩
def scG (s:A8) (env:P5) (m:Int) (need:List Bool) (b:DB) (d:Int):DB⊕(E4×List V3):=
 l7 ((lat need d).getD false) (match Bq s (qU env b.1) m d with
  | .inl v=> .inl (b.1.set d.toNat v.1,b.2.set d.toNat v.2)
  | .inr e=> .inr (e,b.1)) (.inl b)
def scS (s:A8) (env:P5) (m:Int) (need:List Bool):DB⊕(E4×List V3):=U0 (scG s env m need) (kJ s).1 (List.replicate s.2.2.2.1.length (0,0,0),List.replicate s.2.2.2.1.length 0)
theorem b1x {s:A8} {env:P5} {m:Int} {need:List Bool} (b:DB) (d:Int) (r:E4×List V3) (h:scG s env m need b d= .inr r):r.1.1≠0:=by
 unfold scG at h
 cases hb:(lat need d).getD false <;> rw[hb]at h
 ·cases h
 simp only[o6]at h
 cases hd:Bq s (qU env b.1) m d with
 | inl v=>rw[hd]at h;cases h
 | inr e=>rw[hd]at h;cases h;exact Xe hd
theorem xn {s:A8} {env:P5} {m:Int} {need:List Bool} {r:E4×List V3} (h:scS s env m need= .inr r):r.1.1≠0:=gY (scG s env m need) (fun r=>r.1.1≠0) b1x _ _ _ h
def Lp {β ρ ρ' :Type} (h:ρ→ρ'):β⊕ρ→β⊕ρ' | .inl b=> .inl b | .inr r=> .inr (h r)
theorem Ce {α β ρ ρ' :Type} (G:β→α→β⊕ρ) (G' :β→α→β⊕ρ') (h:ρ→ρ') (hG:∀b a,G' b a=Lp h (G b a)):∀(l:List α) (b:β),U0 G' l b=Lp h (U0 G l b)
 | [],b=>rfl
 | a::l,b=>by
  unfold U0
  rw[hG b a]
  cases G b a with
  | inl b' =>exact Ce G G' h hG l b'
  | inr r=>rfl
theorem pM {α:Type} (s:A8) (hs:SmS s) (x:α):gU (o8 s.2.2.2.1) x=some (List.replicate s.2.2.2.1.length x):=by
 have:=hs.nd
 rw[show o8 s.2.2.2.1=(s.2.2.2.1.length:Int)from rfl,yZ (by omega) (by omega)];rfl
def scP (env:P5):E4×List V3→List Int×E4×P5:=fun r=>([],r.1,qU env r.2)
theorem Jv {s:A8} {env:P5} {need:List Bool} (hs:SmS s) (hE:EvOk env) (m:Int) (hn:need.length=s.2.2.2.1.length):bu s env m need=some (match scS s env m need with | .inl b=>(b.2,(0,0,0,0),qU env b.1) | .inr r=>([],r.1,qU env r.2)):=by
 obtain⟨o1,o2⟩:=FD s
 unfold bu
 rw[pM s hs,o7,pM s hs,o7,a6W hs,o7]
 have hfold:=Ce (scG s env m need) (fun b d=>Lp (scP env) (scG s env m need b d)) (scP env) (fun _ _=>rfl) (kJ s).1 (List.replicate s.2.2.2.1.length (0,0,0),List.replicate s.2.2.2.1.length 0)
 unfold scS
 apply eP (kJ s).1 (fun b d=>Lp (scP env) (scG s env m need b d)) (fun b i=>((qU env b.1,(0,0,0,0),b.2,i):P5×E4×List Int×Int)) (fun b=>((qU env b.1,(0,0,0,0),b.2):P5×E4×List Int)) (fun i b=>b.1.length=s.2.2.2.1.length∧b.2.length=s.2.2.2.1.length) (List.replicate s.2.2.2.1.length (0,0,0),List.replicate s.2.2.2.1.length 0) (by omega) ⟨by simp,by simp⟩
 ·intro i d b hi hi' hb
  have hr:=o1 d (bZ hi)
  have hnd:nD s=(s.2.2.2.1.length:Int):=rfl
  obtain⟨k,rfl⟩:∃k:Nat,d=(k:Int):=⟨d.toNat,by omega⟩
  have hk:k<s.2.2.2.1.length:=by omega
  have e1:=Y8 (show k<need.length by omega)
  have e2:=Y8 (show k<b.1.length by omega)
  have e3:=Y8 (show k<b.2.length by omega)
  unfold scG
  simp only[G6 hi,o6,D8,hi,o7,I9,toN,Int.toNat_natCast,e1,Option.getD_some]
  cases need[k]
  ·simp only[D9,o6,o5]
   rw[O5 (by omega)]
   exact⟨rfl,fun _ h=>by cases h;exact hb⟩
  simp only[o9,o6,o5]
  rw[NZ hs (rQ hE b.1),o7]
  unfold Bq
  cases h0:ieq (P8 s (qU env b.1) m (k:Int)).2.1 0
  ·exact⟨rfl,fun _ h=>by cases h⟩
  cases h1:ieq (P8 s (qU env b.1) m (k:Int)).1 (-1)
  case true=>exact⟨rfl,fun _ h=>by cases h⟩
  cases h2:ieq (P8 s (qU env b.1) m (k:Int)).1 (-2)
  case true=>exact⟨rfl,fun _ h=>by cases h⟩
  obtain⟨r,hr,hm⟩:=MW (P6.1 h0) (fun h=>by rw[F5 h]at h1;cases h1) (fun h=>by rw[F5 h]at h2;cases h2)
  simp only[o9,o5,o6,hr,o7]
  rw[Vl (rQ hE b.1) (hs.ro r hm).1.2.2.2,o7]
  cases h3:ieq (qM r.2.2.2.2.2.2.1 (qU env b.1)).2 0
  ·exact⟨rfl,fun _ h=>by cases h⟩
  ·simp only[o9,o5,o6]
   refine⟨?_,fun _ h=>by cases h;exact⟨by simp[hb.1],by simp[hb.2]⟩⟩
   rw[O5 (by omega)]
   have e2' :(qU env b.1).2.2.1[k]? =some (b.1[k]'(by omega)):=e2
   simp only[e2',e3,o7]
   rfl
 ·intro b hb
  rw[G5];rfl
 ·intro _
  rw[hfold]
  cases U0 (scG s env m need) (kJ s).1 (List.replicate s.2.2.2.1.length (0,0,0),List.replicate s.2.2.2.1.length 0) <;> rfl
def pV (l:L6) (k:Int) (c:U8) (ex:Bool) (d:Int):E4:=
 l7 (ieq (aP l).1 0) (match lat l.2.2 k with
  | none=>(6,-1,-1,-1)
  | some s=>l7 (l7 ex (l7 (ilt d 0) true (ile (o8 s.2.2.2.1) d)) false) (6,-1,-1,-1) (l7 (ieq (BV l k c).2.2 0) (0,0,0,0) ((BV l k c).2.2,(BV l k c).1,-1,-1))) (1,-1,-1,-1)
theorem XF (l:List A8) (k:Int):(ilt k 0=true∧lat l k=none)∨(ilt k 0=false∧ile (o8 l) k=true∧lat l k=none)∨(ilt k 0=false∧ile (o8 l) k=false∧∃s,lat l k=some s∧s∈l):=by
 by_cases h:k<0
 ·exact .inl ⟨F7 h,jg (.inl (H7 h))⟩
 by_cases h2:o8 l≤k
 ·exact .inr (.inl ⟨E9 (by omega),H5 h2,jg (.inr (E9 h2))⟩)
 ·exact .inr (.inr ⟨E9 (by omega),H7 (by omega),ed (by omega) (by omega)⟩)
theorem Vb {l:L6} (hL:SmL l) (k:Int) {c:U8} (hc:SmC c) (ex:Bool) (d:Int):dC l k c ex d=some (pV l k c ex d):=by
 unfold dC pV
 rw[YZ hL,o7,b0y l k hc]
 cases ieq (aP l).1 0
 ·rfl
 simp only[o9,o5,o6]
 rcases XF l.2.2 k with⟨h1,h2⟩ | ⟨h1,h2,h3⟩ | ⟨h1,h2,s,h3,_⟩
 ·rw[h1,h2];rfl
 ·rw[h1,h2,h3];rfl
 ·rw[h1,h2,h3]
  simp only[o5,o7]
  cases ex
  ·simp only[o5,o7,C9]
   cases ieq (BV l k c).2.2 0 <;> rfl
  ·simp only[o6]
   cases ilt d 0
   ·cases ile (o8 s.2.2.2.1) d
    ·simp only[o5,o7,C9]
     cases ieq (BV l k c).2.2 0 <;> rfl
    ·rfl
   ·rfl
def rY:A8:=([],0,[],[],[])
def G9 (l:L6) (s:A8):A8:=l7 (ile 0 s.2.1) ((lat l.2.2 s.2.1).getD rY) rY
def X8 (n:Nat):List Bool:=List.replicate n false
def ah (n:Nat):List Bool:=List.replicate n true
theorem pW {l:L6} {k:Int} {c:U8} {ex:Bool} {d:Int} (h:(pV l k c ex d).1=0):(aP l).1=0∧∃s,lat l.2.2 k=some s:=by
 unfold pV at h
 cases h0:ieq (aP l).1 0 <;> rw[h0]at h
 ·exact absurd (show(1:Int)=0 from h) (by decide)
 refine⟨P6.1 h0,?_⟩
 cases h1:lat l.2.2 k with
 | none=>rw[h1]at h;exact absurd (show(6:Int)=0 from h) (by decide)
 | some s=>exact⟨s,rfl⟩
theorem a9Q {l:L6} (h:(aP l).1=0) {i:Nat} {s:A8} (hs:l.2.2[i]? =some s):(xX l i s).1=0:=by
 unfold aP at h
 cases h1:ieq (Iu l).1 0 <;> rw[h1]at h
 ·simp only[o5]at h;rw[F5 h]at h1;cases h1
 cases h2:ieq (Ep l).1 0 <;> rw[h2]at h
 ·simp only[o6,o5]at h;rw[F5 h]at h2;cases h2
 simp only[o6]at h
 unfold Ky at h
 cases h3:ilt 4 (o8 l.2.2) <;> rw[h3]at h
 case true=>exact absurd (show(4:Int)=0 from h) (by decide)
 simp only[o5]at h
 have hi:=(O6.1 hs).1
 cases hf:P9 l.2.2.length (BK l)with
 | some r=>
  rw[hf]at h
  simp only at h
  obtain⟨j,hj,hp⟩:=aW hf
  unfold BK at hp
  cases hq:l.2.2[j]? with
  | none=>rw[hq]at hp;cases hp
  | some q=>
   rw[hq]at hp
   simp only at hp
   unfold KZ at hp
   exact absurd h (by
    cases he:ieq (xX l j q).1 0 <;> rw[he]at hp <;> cases hp
    simp only
    intro h4;rw[F5 h4]at he;cases he)
 | none=>
  have hn:=uI hf i hi
  unfold BK at hn
  rw[hs]at hn
  simp only at hn
  unfold KZ at hn
  cases he:ieq (xX l i s).1 0 <;> rw[he]at hn
  ·cases hn
  exact P6.1 he
theorem MP {l:L6} (h:(aP l).1=0) {i:Nat} {s:A8} (hs:l.2.2[i]? =some s):xR l i s.2.1=false∧(LK l s).1=0:=by
 have he:=a9Q h hs
 unfold xX at he
 cases g1:yz s.1 <;> rw[g1]at he
 ·exact absurd (show(2:Int)=0 from he) (by decide)
 cases g2:yg l 3 i s.1 <;> rw[g2]at he
 case true=>exact absurd (show(7:Int)=0 from he) (by decide)
 cases g3:xR l i s.2.1 <;> rw[g3]at he
 case true=>exact absurd (show(6:Int)=0 from he) (by decide)
 cases g4:ilt 12 (o8 s.2.2.1) <;> rw[g4]at he
 case true=>exact absurd (show(4:Int)=0 from he) (by decide)
 cases g5:ilt 12 (o8 s.2.2.2.1) <;> rw[g5]at he
 case true=>exact absurd (show(4:Int)=0 from he) (by decide)
 exact⟨rfl,he⟩
theorem UT {l:L6} (h:(aP l).1=0) {i:Nat} {s:A8} (hs:l.2.2[i]? =some s):xR l i s.2.1=false:=(MP h hs).1
theorem uu {l:L6} (h:(aP l).1=0) {k:Int} {s:A8} (hs:lat l.2.2 k=some s):(ile 0 s.2.1=false∧ilt s.2.1 0=true∧G9 l s=rY)∨(ile 0 s.2.1=true∧ilt s.2.1 0=false∧ile (o8 l.2.2) s.2.1=false∧lat l.2.2 s.2.1=some (G9 l s)∧G9 l s∈l.2.2):=by
 obtain⟨k0,k1,k2,k3⟩:=V5 hs
 have hm:=UT h k3
 unfold xR at hm
 by_cases g:0≤s.2.1
 ·right
  rw[E5 (show s.2.1≠-1 by intro e;rw[e]at g;exact absurd g (by decide)),E9 g]at hm
  simp only[o5]at hm
  cases g2:ile ((k.toNat:Nat):Int) s.2.1 <;> rw[g2]at hm
  case true=>cases hm
  rw[BF]at g2
  have hlt:s.2.1<o8 l.2.2:=by
   have:((k.toNat:Nat):Int)=k:=Int.toNat_of_nonneg k0
   rw[this]at g2
   exact Int.lt_trans g2 k1
  obtain⟨q,hq,hqm⟩:=ed g hlt
  have e:G9 l s=q:=by unfold G9;rw[H5 g,hq];rfl
  rw[e]
  exact⟨H5 g,E9 g,H7 hlt,hq,hqm⟩
 ·left
  have g' :=Int.not_le.1 g
  refine⟨H7 g',F7 g',?_⟩
  unfold G9;rw[H7 g'];rfl
theorem a1j (i j:Nat):(ah i++X8 (j+1)).set i true=ah (i+1)++X8 j:=by
 unfold ah X8
 rw[List.set_append_right _ _ (by simp),List.length_replicate,Nat.sub_self,List.replicate_succ,List.set_cons_zero,List.replicate_succ',List.append_assoc]
 rfl
theorem a1i (i j:Nat):(ah i++X8 (j+1))[i]? =some false:=by
 unfold ah X8
 rw[List.getElem?_append_right (by simp),List.length_replicate,Nat.sub_self];rfl
theorem TK {σ ε:Type} {f:σ→Option (σ⊕ε)} {mk:List Bool→Int→σ} {fin:List Bool→ε} {n:Nat}
  (hs:∀(i j:Nat),i+j+1=n→f (mk (ah i++X8 (j+1)) (i:Int))=some (.inl (mk (ah (i+1)++X8 j) ((i+1:Nat):Int))))
  (he:f (mk (ah n) (n:Int))=some (.inr (fin (ah n)))):∀(j i k:Nat),i+j=n→jy f (k+1+j) (mk (ah i++X8 j) (i:Int))=some (fin (ah n))
 | 0,i,k,h=>by
  have:i=n:=by omega
  subst this
  rw[show ah i++X8 0=ah i by unfold X8;simp]
  exact yY he
 | j+1,i,k,h=>by
  rw[show k+1+(j+1)=(k+1+j)+1 by omega,tY (hs i j (by omega))]
  exact TK hs he j (i+1) k (by omega)
theorem Pg {σ ε:Type} {f:σ→Option (σ⊕ε)} {mk:List Bool→Int→σ} {fin:List Bool→ε} {n:Nat} (hn:n≤1000000)
  (hs:∀(i j:Nat),i+j+1=n→f (mk (ah i++X8 (j+1)) (i:Int))=some (.inl (mk (ah (i+1)++X8 j) ((i+1:Nat):Int))))
  (he:f (mk (ah n) (n:Int))=some (.inr (fin (ah n)))):N8 f (mk (X8 n) 0)=some (fin (ah n)):=by
 unfold N8
 rw[show bJ=(bJ -n -1)+1+n by unfold bJ;omega]
 exact TK hs he n 0 _ (by omega)
theorem WT {σ ε α β:Type} {f:σ→Option (σ⊕ε)} {mk:List β→Int→σ} {fin:List β→ε} {l:List α} {g:α→β}
  (hs:∀(i:Nat) (a:α) (b:List β),l[i]? =some a→b.length=i→f (mk b (i:Int))=some (.inl (mk (b++[g a]) ((i+1:Nat):Int))))
  (he:∀b,f (mk b (l.length:Int))=some (.inr (fin b))):∀(l2 l1:List α) (k:Nat),l=l1++l2→jy f (k+1+l2.length) (mk (l1.map g) (l1.length:Int))=some (fin (l.map g))
 | [],l1,k,h=>by
  have:l=l1:=by simpa using h
  subst this
  exact yY (he _)
 | a::l2,l1,k,h=>by
  rw[show k+1+(a::l2).length=(k+1+l2.length)+1 by simp;omega,tY (hs l1.length a (l1.map g) (by rw[h];simp) (by simp))]
  have:=WT hs he l2 (l1++[a]) k (by rw[h];simp)
  simpa using this
theorem OG {σ ε α β:Type} {f:σ→Option (σ⊕ε)} (mk:List β→Int→σ) (fin:List β→ε) (l:List α) (g:α→β) (hn:l.length≤1000000)
  (hs:∀(i:Nat) (a:α) (b:List β),l[i]? =some a→b.length=i→f (mk b (i:Int))=some (.inl (mk (b++[g a]) ((i+1:Nat):Int))))
  (he:∀b,f (mk b (l.length:Int))=some (.inr (fin b))):N8 f (mk [] 0)=some (fin (l.map g)):=by
 unfold N8
 rw[show bJ=(bJ -l.length -1)+1+l.length by unfold bJ;omega]
 exact WT hs he l [] _ rfl
theorem Fv {l:L6} (hL:SmL l) (h:(aP l).1=0) {k:Int} {s:A8} (hs:lat l.2.2 k=some s):jI l k=some (s,G9 l s,X8 s.2.2.2.1.length,X8 (G9 l s).2.2.2.1.length):=by
 have hm:=(V5 hs).2.2.1
 have hnd:=(hL.sc s hm).nd
 unfold jI
 rw[hs,o7,show gU (o8 s.2.2.2.1) false=some (X8 s.2.2.2.1.length)from pM s (hL.sc s hm) false,o7]
 rcases uu h hs with⟨g1,g2,g3⟩ | ⟨g1,g2,g3,g4,g5⟩
 ·rw[g1,g3];rfl
 ·rw[g1,g4]
  simp only[o6,o7]
  rw[show gU (o8 (G9 l s).2.2.2.1) false=some (X8 (G9 l s).2.2.2.1.length)from pM _ (hL.sc _ g5) false,o7]
theorem ZW:SmS rY:=⟨by simp[rY],by simp[rY],by simp[rY],by simp[rY],⟨by simp[rY],by simp[rY]⟩,by simp[rY]⟩
def JI (l:L6) (c:U8) (v:List V3):P5:=(c.1,v,[],[],[],l.2.1)
def mG (l:L6) (c:U8) (ms:A8) (need:List Bool) (b:List DB) (a:List V3×Nat):List DB⊕E4:=
 match scS ms (JI l c a.1) (a.2:Int) need with
 | .inl x=> .inl (b++[x])
 | .inr e=> .inr e.1
def mS (l:L6) (c:U8) (ms:A8) (need:List Bool):List DB⊕E4:=U0 (mG l c ms need) c.2.2.zipIdx []
theorem Lm {l:L6} {c:U8} {ms:A8} {need:List Bool} (b:List DB) (a:List V3×Nat) (r:E4) (h:mG l c ms need b a= .inr r):r.1≠0:=by
 unfold mG at h
 cases hs:scS ms (JI l c a.1) (a.2:Int) need with
 | inl x=>rw[hs]at h;cases h
 | inr e=>rw[hs]at h;cases h;exact xn hs
theorem a3G {l:List (List V3)} {i:Nat} {a:List V3×Nat} (h:l.zipIdx[i]? =some a):l[i]? =some a.1∧a.2=i:=by
 rw[List.getElem?_zipIdx]at h
 cases hl:l[i]? with
 | none=>rw[hl]at h;cases h
 | some v=>rw[hl]at h;cases h;exact⟨rfl,by simp⟩
theorem JJ {l:L6} (hT:∀t∈l.2.1,ku t) (c:U8) (v:List V3):EvOk (JI l c v):=⟨by simp[JI],hT⟩
def ig (l:L6) (s:A8) (c:U8) (b:List DB):P5:=(c.1,c.2.1,[],b.map (·.1),(G9 l s).2.2.2.1.map (·.2),l.2.1)
def YA (l:L6) (s:A8) (c:U8):dY×E4:=
 match mS l c (G9 l s) (ah (G9 l s).2.2.2.1.length)with
 | .inr e=>(([],[],[]),e)
 | .inl b=>match scS s (ig l s c b) (-1) (ah s.2.2.2.1.length)with
  | .inl x=>((x.1,x.2,b),0,0,0,0)
  | .inr r=>(([],[],[]),r.1)
theorem xy {l:L6} (hL:SmL l) (h:(aP l).1=0) {k:Int} {s:A8} (hs:lat l.2.2 k=some s):SmS (G9 l s):=by
 rcases uu h hs with⟨_,_,g3⟩ | ⟨_,_,_,_,g5⟩
 ·rw[g3];exact ZW
 ·exact hL.sc _ g5
theorem Fp {l:L6} {c:U8} {ms:A8} {need:List Bool} {b:List DB} (h:mS l c ms need= .inl b):b.length=c.2.2.length:=by
 have key:∀(L:List (List V3×Nat)) (b0 b:List DB),U0 (mG l c ms need) L b0= .inl b→b.length=b0.length+L.length:=by
  intro L
  induction L with
  | nil=>intro b0 b h;cases h;simp
  | cons a L ih=>
   intro b0 b h
   unfold U0 at h
   cases hg:mG l c ms need b0 a with
   | inr e=>rw[hg]at h;cases h
   | inl b1=>
    rw[hg]at h
    have:=ih b1 b h
    have h1:b1.length=b0.length+1:=by
     unfold mG at hg
     cases hs:scS ms (JI l c a.1) (a.2:Int) need with
     | inr e=>rw[hs]at hg;cases hg
     | inl x=>rw[hs]at hg;cases hg;simp
    simp only[List.length_cons];omega
 have:=key _ _ _ h
 simpa using this
theorem ny {l:L6} (hT:∀t∈l.2.1,ku t) (s:A8) (c:U8) {b:List DB} (hb:b.length≤1000):EvOk (ig l s c b):=⟨by simp[ig];omega,hT⟩
abbrev ZT:Type:=Int×List V3×PUnit×List (List V3)×List (Int×Int)×List V8
def EI (l:L6) (s:A8) (c:U8) (nS nM:List Bool):DB×List DB⊕E4:=
 match mS l c (G9 l s) nM with
 | .inr e=> .inr e
 | .inl b=>match scS s (ig l s c b) (-1) nS with
  | .inl x=> .inl (x,b)
  | .inr r=> .inr r.1
theorem DD {l:L6} {k:Int} {s:A8} {c:U8} {nS nM:List Bool} (hS:SmS s) (hM:SmS (G9 l s)) (hC:SmC c) (hT:∀t∈l.2.1,ku t) (h1:nS.length=s.2.2.2.1.length) (h2:nM.length=(G9 l s).2.2.2.1.length):
  jH l k c (s,G9 l s,nS,nM)=some (match EI l s c nS nM with
   | .inl x=>((x.1.1,x.1.2,x.2),qU (ig l s c x.2) x.1.1,(0,0,0,0),(s,G9 l s,nS,nM))
   | .inr e=>(([],[],[]),(0,[],[],[],[],[]),e,(s,G9 l s,nS,nM))):=by
 have hnd:=hM.nd
 have hnm:=hC.nm
 unfold jH
 rw[show(N8 _ _)=some (((c.1,c.2.1,PUnit.unit,PUnit.unit,(G9 l s).2.2.2.1.map (fun f=>f.2),l.2.1)):Int×List V3×PUnit×PUnit×List (Int×Int)×List V8)from ?_,o7]
 rotate_left
 ·refine OG (fun L i=>(((c.1,c.2.1,PUnit.unit,PUnit.unit,L,l.2.1),i):(Int×List V3×PUnit×PUnit×List (Int×Int)×List V8)×Int)) (fun L=>((c.1,c.2.1,PUnit.unit,PUnit.unit,L,l.2.1):Int×List V3×PUnit×PUnit×List (Int×Int)×List V8)) (G9 l s).2.2.2.1 (fun f=>f.2) (by omega) (fun i a L hi hL=>?_) (fun L=>?_)
  ·have:=(O6.1 hi).1
   simp only[G6 hi,o6,D8,hi,o7]
   rw[ay _ (by omega),o7,O5 (by omega)]
  ·rw[G5];rfl
 have hfold:=Ce (mG l c (G9 l s) nM) (fun b a=>Lp (fun e=>((([],[],[]),(0,[],[],[],[],[]),e,(s,G9 l s,nS,nM)):dY×P5×E4×I4)) (mG l c (G9 l s) nM b a)) (fun e=>((([],[],[]),(0,[],[],[],[],[]),e,(s,G9 l s,nS,nM)):dY×P5×E4×I4)) (fun _ _=>rfl) c.2.2.zipIdx []
 have hzl:c.2.2.zipIdx.length=c.2.2.length:=by simp
 unfold EI mS
 apply eP c.2.2.zipIdx (fun b a=>Lp (fun e=>((([],[],[]),(0,[],[],[],[],[]),e,(s,G9 l s,nS,nM)):dY×P5×E4×I4)) (mG l c (G9 l s) nM b a))
  (fun b i=>((([],[],[]),(0,[],[],[],[],[]),(0,0,0,0),(c.1,c.2.1,PUnit.unit,b.map (·.1),(G9 l s).2.2.2.1.map (fun f=>f.2),l.2.1),([],[],b),i):dY×P5×E4×ZT×dY×Int))
  (fun b=>((([],[],[]),(0,[],[],[],[],[]),(0,0,0,0),(c.1,c.2.1,PUnit.unit,b.map (·.1),(G9 l s).2.2.2.1.map (fun f=>f.2),l.2.1),([],[],b)):dY×P5×E4×ZT×dY))
  (fun i b=>b.length=i) [] (by omega) rfl
 ·intro i a b hi hi' hb
  obtain⟨z1,z2⟩:=a3G hi
  have hil:=(O6.1 z1).1
  unfold mG
  simp only[G6 z1,o6,D8,z1,o7]
  rw[show bu (G9 l s) (c.1,a.1,[],[],[],l.2.1) (i:Int) nM=_ from Jv hM (JJ hT c a.1) (i:Int) h2,o7,z2]
  unfold JI
  cases hq:scS (G9 l s) (c.1,a.1,[],[],[],l.2.1) (i:Int) nM with
  | inr e=>
   simp only[E5 (xn hq)]
   exact⟨rfl,fun _ h=>by cases h⟩
  | inl x=>
   simp only[F5 (rfl:(0:Int)=0),o9,o5]
   rw[ay _ (by simp;omega),o7,ay _ (by omega),o7,O5 (by omega)]
   exact⟨by simp[Lp,qU],fun _ h=>by cases h;simp[hb]⟩
 ·intro b hb
  rw[hzl,G5];rfl
 ·intro _
  rw[hfold]
  cases hq:U0 (mG l c (G9 l s) nM) c.2.2.zipIdx []with
  | inr e=>rfl
  | inl b=>
   have hbl:b.length=c.2.2.length:=Fp (ms:=G9 l s) (need:=nM) hq
   have hsc:=Jv (need:=nS) hS (ny hT s c (b:=b) (by omega)) (-1) h1
   unfold ig at hsc
   simp only[Lp,C9]
   rw[show bu s (c.1,c.2.1,[],b.map (·.1),(G9 l s).2.2.2.1.map (fun f=>f.2),l.2.1) (-1) nS=_ from hsc,o7]
   unfold ig
   cases hr:scS s (c.1,c.2.1,[],b.map (·.1),(G9 l s).2.2.2.1.map (fun f=>f.2),l.2.1) (-1) nS with
   | inr e=>simp only[E5 (xn hr)];rfl
   | inl x=>rfl
theorem a0u {l:L6} {k:Int} {c:U8} (hL:SmL l) (hC:SmC c) (hT:∀t∈l.2.1,ku t):lX l k c=some (if(pV l k c false 0).1=0 then(match lat l.2.2 k with | some s=>YA l s c | none=>(([],[],[]),0,0,0,0))else(([],[],[]),pV l k c false 0)):=by
 unfold lX
 rw[Vb hL k hC,o7]
 by_cases hA:(pV l k c false 0).1=0
 case neg=>rw[if_neg hA,E5 hA];rfl
 rw[if_pos hA,F5 hA]
 obtain⟨h,s,hs⟩:=pW hA
 have hM:=xy hL h hs
 have hS:=hL.sc s (V5 hs).2.2.1
 have hn1:=hS.nd
 have hn2:=hM.nd
 rw[hs]
 simp only[o9,o5]
 rw[Fv hL h hs,o7]
 rw[show(N8 _ _)=some ((s,G9 l s,ah s.2.2.2.1.length,X8 (G9 l s).2.2.2.1.length):I4)from ?_,o7]
 rotate_left
 ·refine Pg (n:=s.2.2.2.1.length) (mk:=fun L i=>(((s,G9 l s,L,X8 (G9 l s).2.2.2.1.length),i):I4×Int)) (fin:=fun L=>((s,G9 l s,L,X8 (G9 l s).2.2.2.1.length):I4)) (by omega) (fun i j hij=>?_) ?_
  ·simp only[show o8 (X8 s.2.2.2.1.length)=(s.2.2.2.1.length:Int) by unfold o8 X8;simp,F7 (show(i:Int)<(s.2.2.2.1.length:Int) by omega),o6,D8,a1i,o7,I9,toN,Int.toNat_natCast,S9,a1j]
   rw[O5 (by omega)]
  ·simp only[show o8 (X8 s.2.2.2.1.length)=(s.2.2.2.1.length:Int) by unfold o8 X8;simp,E9 (Int.le_refl (s.2.2.2.1.length:Int)),o5]
 rw[show(N8 _ _)=some ((s,G9 l s,ah s.2.2.2.1.length,ah (G9 l s).2.2.2.1.length):I4)from ?_,o7]
 rotate_left
 ·refine Pg (n:=(G9 l s).2.2.2.1.length) (mk:=fun L i=>(((s,G9 l s,ah s.2.2.2.1.length,L),i):I4×Int)) (fin:=fun L=>((s,G9 l s,ah s.2.2.2.1.length,L):I4)) (by omega) (fun i j hij=>?_) ?_
  ·simp only[show o8 (X8 (G9 l s).2.2.2.1.length)=((G9 l s).2.2.2.1.length:Int) by unfold o8 X8;simp,F7 (show(i:Int)<((G9 l s).2.2.2.1.length:Int) by omega),o6,D8,a1i,o7,I9,toN,Int.toNat_natCast,S9,a1j]
   rw[O5 (by omega)]
  ·simp only[show o8 (X8 (G9 l s).2.2.2.1.length)=((G9 l s).2.2.2.1.length:Int) by unfold o8 X8;simp,E9 (Int.le_refl ((G9 l s).2.2.2.1.length:Int)),o5]
 rw[DD hS hM hC hT (by simp[ah]) (by simp[ah]),o7]
 unfold EI YA
 cases mS l c (G9 l s) (ah (G9 l s).2.2.2.1.length)with
 | inr e=>rfl
 | inl b=>
  simp only
  cases scS s (ig l s c b) (-1) (ah s.2.2.2.1.length) <;> rfl
theorem bQ {α:Type} {n:Nat} {l:List α} (h:ilt (n:Int) (o8 l)=false):l.length≤n:=by
 rw[aV]at h;unfold o8 at h;omega
def Qq (r:X0):Bool:=l7 (ilt 80 (o8 r.1)) true (l7 (ilt 80 (o8 r.2.2.2.2.2.2.2)) true (l7 (ilt 50 (o8 r.2.2.2.2.2.1)) true (ilt 50 (o8 r.2.2.2.2.2.2.1))))
def smS (s:A8):Bool:=l7 (ilt 80 (o8 s.1)) false (l7 (ilt 14 (o8 s.2.2.1)) false (l7 (ilt 14 (o8 s.2.2.2.1)) false (l7 (ilt 60 (o8 s.2.2.2.2)) false
 (l7 (s.2.2.1.any fun f=>ilt 80 (o8 f.1)) false (l7 (s.2.2.2.1.any fun f=>ilt 80 (o8 f.1)) false (D6 (s.2.2.2.2.any Qq)))))))
theorem PZ {fs:List bi} (h:fs.length≤1000000):J9 (fun(x:Int)=>l7 (ilt x (o8 fs)) (l9 (lat fs x) fun(x_1:bi)=>l7 (ilt 80 (o8 x_1.1)) (some (Out.rt false)) (some (Out.nx (x8 IntKind.i64 x 1)))) (some (Out.ex PUnit.unit))) 0=some (bif fs.any (fun f=>ilt 80 (o8 f.1))then .inr false else .inl PUnit.unit):=by
 refine lS fs (fun f=>ilt 80 (o8 f.1)) false PUnit.unit h (fun i a ha=>?_) ?_
 ·simp only[G6 ha,o6,D8,ha,o7]
  cases ilt 80 (o8 a.1) <;> rfl
 ·rw[G5];rfl
theorem Tv (s:A8):sN s=some (smS s):=by
 unfold sN smS
 cases h1:ilt 80 (o8 s.1)
 case true=>rfl
 cases h2:ilt 14 (o8 s.2.2.1)
 case true=>rfl
 cases h3:ilt 14 (o8 s.2.2.2.1)
 case true=>rfl
 cases h4:ilt 60 (o8 s.2.2.2.2)
 case true=>rfl
 have l2:=bQ (n:=14) h2
 have l3:=bQ (n:=14) h3
 have l4:=bQ (n:=60) h4
 simp only[o5,o7,C9]
 rw[PZ (by omega),PZ (by omega),o7]
 cases s.2.2.1.any fun f=>ilt 80 (o8 f.1)
 case true=>rfl
 simp only[cond_false,C9,o5,o7]
 cases s.2.2.2.1.any fun f=>ilt 80 (o8 f.1)
 case true=>rfl
 simp only[cond_false,C9,o5]
 refine J3 (lS s.2.2.2.2 Qq false PUnit.unit (by omega) (fun i a ha=>?_) ?_) ?_
 rotate_left 2
 ·cases s.2.2.2.2.any Qq <;> rfl
 ·simp only[G6 ha,o6,D8,ha,o7]
  unfold Qq
  cases ilt 80 (o8 a.1) <;> cases ilt 80 (o8 a.2.2.2.2.2.2.2) <;> cases ilt 50 (o8 a.2.2.2.2.2.1) <;> cases ilt 50 (o8 a.2.2.2.2.2.2.1) <;> rfl
 ·rw[G5];rfl
def ScI (s:A8):Prop:=∀r∈s.2.2.2.2,(∀n∈r.2.2.2.2.2.1,I64 n.2)∧∀n∈r.2.2.2.2.2.2.1,I64 n.2
theorem Oo {a b:Bool} (h:l7 a false b=true):a=false∧b=true:=by cases a <;> cases b <;> first | exact⟨rfl,rfl⟩ | cases h
theorem TM {α:Type} {l:List α} {p:α→Bool} (h:l.any p=false):∀a∈l,p a=false:=by
 intro a ha
 rw[List.any_eq_false]at h
 have:=h a ha
 cases hp:p a
 ·rfl
 ·exact absurd hp this
theorem c2b {s:A8} (h:smS s=true) (hI:ScI s):SmS s:=by
 unfold smS at h
 obtain⟨h1,h⟩:=Oo h
 obtain⟨h2,h⟩:=Oo h
 obtain⟨h3,h⟩:=Oo h
 obtain⟨h4,h⟩:=Oo h
 obtain⟨h5,h⟩:=Oo h
 obtain⟨h6,h⟩:=Oo h
 have h7:s.2.2.2.2.any Qq=false:=by cases hq:s.2.2.2.2.any Qq <;> rw[hq]at h <;> first | rfl | cases h
 refine⟨by have:=bQ (n:=80) h1;omega,bQ (n:=14) h2,bQ (n:=14) h3,bQ (n:=60) h4,⟨fun f hf=>?_,fun f hf=>?_⟩,fun r hr=>?_⟩
 ·have:=bQ (n:=80) (TM h5 f hf);omega
 ·have:=bQ (n:=80) (TM h6 f hf);omega
 ·have hl:=TM h7 r hr
  unfold Qq at hl
  cases g1:ilt 80 (o8 r.1) <;> rw[g1]at hl
  case true=>cases hl
  cases g2:ilt 80 (o8 r.2.2.2.2.2.2.2) <;> rw[g2]at hl
  case true=>cases hl
  cases g3:ilt 50 (o8 r.2.2.2.2.2.1) <;> rw[g3]at hl
  case true=>cases hl
  have k1:=bQ (n:=80) g1
  have k2:=bQ (n:=80) g2
  exact⟨⟨by omega,by omega,(hI r hr).1,(hI r hr).2⟩,bQ (n:=50) g3,bQ (n:=50) hl⟩
def smC (c:U8):Bool:=l7 (ilt 14 (o8 c.2.1)) false (l7 (ilt 10 (o8 c.2.2)) false (D6 (c.2.2.any fun v=>ilt 14 (o8 v))))
theorem Wv (c:U8):vJ c=some (smC c):=by
 unfold vJ smC
 cases h1:ilt 14 (o8 c.2.1)
 case true=>rfl
 cases h2:ilt 10 (o8 c.2.2)
 case true=>rfl
 have l2:=bQ (n:=10) h2
 simp only[o5]
 refine J3 (lS c.2.2 (fun v=>ilt 14 (o8 v)) false PUnit.unit (by omega) (fun i a ha=>?_) ?_) ?_
 rotate_left 2
 ·cases c.2.2.any fun v=>ilt 14 (o8 v) <;> rfl
 ·simp only[G6 ha,o6,D8,ha,o7]
  cases ilt 14 (o8 a) <;> rfl
 ·rw[G5];rfl
theorem IZ {c:U8} (h:smC c=true):SmC c:=by
 unfold smC at h
 obtain⟨h1,h⟩:=Oo h
 obtain⟨h2,h⟩:=Oo h
 have h3:(c.2.2.any fun v=>ilt 14 (o8 v))=false:=by cases hq:c.2.2.any fun v=>ilt 14 (o8 v) <;> rw[hq]at h <;> first | rfl | cases h
 exact⟨by have:=bQ (n:=14) h1;omega,by have:=bQ (n:=10) h2;omega,fun v hv=>by have:=bQ (n:=14) (TM h3 v hv);omega⟩
theorem a6C {α:Type} {l:List α} {f:Int→Option (Out Int PUnit Bool)} (hl:l.length≤1000000) (hin:∀(i:Nat) (a:α),l[i]? =some a→f (i:Int)=some (.nx (x8 .i64 (i:Int) 1))) (hend:f (l.length:Int)=some (.ex PUnit.unit)):(l9 (J9 f 0) fun(o:PUnit⊕Bool)=>L8 o (fun _=>some true) fun r=>some r)=some true:=by
 have:=lS l (fun _=>false) false PUnit.unit hl (fun i a ha=>by rw[hin i a ha];rfl) hend
 rw[this,show l.any (fun _=>false)=false by simp];rfl
theorem Oj {a:List V3} (h:a.length≤1000000):xJ a a=some true:=by
 unfold xJ
 rw[F5 rfl]
 refine a6C h (fun i x hx=>?_) ?_
 ·simp only[G6 hx,o6,D8,hx,o7,F5 (rfl:x.1=x.1),F5 (rfl:x.2.1=x.2.1),F5 (rfl:x.2.2=x.2.2)];rfl
 ·rw[G5];rfl
def a5w (b:DB):Prop:=b.1.length≤1000000∧b.2.length≤1000000
def a5B (r:dY):Prop:=r.1.length≤1000000∧r.2.1.length≤1000000∧r.2.2.length≤1000000∧∀b∈r.2.2,a5w b
theorem GG {α β ρ:Type} (G:β→α→β⊕ρ) (Inv:β→Prop) (hG:∀b a b',Inv b→G b a= .inl b' →Inv b'):∀(l:List α) (b b' :β),Inv b→U0 G l b= .inl b' →Inv b'
 | [],b,b',hi,h=>by cases h;exact hi
 | a::l,b,b',hi,h=>by
  unfold U0 at h
  cases hg:G b a with
  | inr r=>rw[hg]at h;cases h
  | inl b1=>rw[hg]at h;exact GG G Inv hG l b1 b' (hG b a b1 hi hg) h
theorem Be {s:A8} {env:P5} {m:Int} {need:List Bool} {b:DB} (h:scS s env m need= .inl b):b.1.length=s.2.2.2.1.length∧b.2.length=s.2.2.2.1.length:=by
 refine GG (scG s env m need) (fun b=>b.1.length=s.2.2.2.1.length∧b.2.length=s.2.2.2.1.length) (fun b a b' hi h=>?_) _ _ _ ⟨by simp,by simp⟩ h
 unfold scG at h
 cases hb:(lat need a).getD false <;> rw[hb]at h
 ·cases h;exact hi
 simp only[o6]at h
 cases hd:Bq s (qU env b.1) m a with
 | inr e=>rw[hd]at h;cases h
 | inl v=>rw[hd]at h;cases h;exact⟨by simp[hi.1],by simp[hi.2]⟩
theorem c9a {l:L6} {c:U8} {ms:A8} {need:List Bool} {b:List DB} (hM:ms.2.2.2.1.length≤14) (h:mS l c ms need= .inl b):∀x∈b,a5w x:=by
 refine GG (mG l c ms need) (fun b=>∀x∈b,a5w x) (fun b a b' hi h=>?_) _ _ _ (by simp) h
 unfold mG at h
 cases hs:scS ms (JI l c a.1) (a.2:Int) need with
 | inr e=>rw[hs]at h;cases h
 | inl x=>
  rw[hs]at h;cases h
  intro y hy
  rcases List.mem_append.1 hy with hy | hy
  ·exact hi y hy
  ·rw[List.mem_singleton]at hy;subst hy
   have:=Be hs
   exact⟨by omega,by omega⟩
theorem ZV:a5B ([],[],[]):=⟨by simp,by simp,by simp,by simp⟩
theorem a7D {l:L6} {s:A8} {c:U8} (hS:SmS s) (hM:SmS (G9 l s)) (hC:SmC c):a5B (YA l s c).1:=by
 unfold YA
 cases hq:mS l c (G9 l s) (ah (G9 l s).2.2.2.1.length)with
 | inr e=>exact ZV
 | inl b=>
  simp only
  cases hr:scS s (ig l s c b) (-1) (ah s.2.2.2.1.length)with
  | inr e=>exact ZV
  | inl x=>
   have h1:=Be hr
   have h2:=Fp hq
   have h3:=hS.nd
   have h4:=hC.nm
   refine⟨?_,?_,?_,c9a hM.nd hq⟩
   ·show x.1.length≤_;omega
   ·show x.2.length≤_;omega
   ·show b.length≤_;omega
def XK (e:bK):Bool:=l7 (ilt 80 (o8 e.1)) true (l7 (ilt 20 (o8 e.2)) true (e.2.any fun m=>ilt 80 (o8 m)))
def tG (b:Int) (t:V8):Int⊕Bool:=l7 (ilt 80 (o8 t.1)) (.inr false) (l7 (ilt 150 (x8 .i64 b (o8 t.2.2.2))) (.inr false) (.inl (x8 .i64 b (o8 t.2.2.2))))
def sG (b:Int) (s:A8):Int⊕Bool:=l7 (ilt 60 (x8 .i64 b (o8 s.2.2.2.2))) (.inr false) (l7 (smS s) (.inl (x8 .i64 b (o8 s.2.2.2.2))) (.inr false))
def smL (l:L6):Bool:=l7 (ilt 9 (o8 l.1)) false (l7 (ilt 9 (o8 l.2.1)) false (l7 (ilt 5 (o8 l.2.2)) false (l7 (l.1.any XK) false
 (match U0 tG l.2.1 0 with | .inr _=>false | .inl _=>match U0 sG l.2.2 0 with | .inr _=>false | .inl _=>true))))
theorem c4M:∀(b:Int) (t:V8) (r:Bool),tG b t= .inr r→r=false:=by
 intro b t r h
 unfold tG at h
 cases g0:ilt 80 (o8 t.1) <;> cases g:ilt 150 (x8 .i64 b (o8 t.2.2.2)) <;> simp only[g0,g,o6,o5]at h <;> cases h <;> rfl
theorem c1Y:∀(b:Int) (s:A8) (r:Bool),sG b s= .inr r→r=false:=by
 intro b s r h
 unfold sG at h
 cases g:ilt 60 (x8 .i64 b (o8 s.2.2.2.2)) <;> cases g2:smS s <;> simp only[g,g2,o6,o5]at h <;> cases h <;> rfl
theorem YG (l:L6):xm l=some (smL l):=by
 unfold xm smL
 cases h1:ilt 9 (o8 l.1)
 case true=>rfl
 cases h2:ilt 9 (o8 l.2.1)
 case true=>rfl
 cases h3:ilt 5 (o8 l.2.2)
 case true=>rfl
 have l1:=bQ (n:=9) h1
 have l2:=bQ (n:=9) h2
 have l3:=bQ (n:=5) h3
 simp only[o5,o7,C9]
 refine J3 (lS l.1 XK false PUnit.unit (by omega) (fun i a ha=>?_) ?_) ?_
 ·simp only[G6 ha,o6,D8,ha,o7]
  unfold XK
  cases ilt 80 (o8 a.1)
  case true=>rfl
  cases h5:ilt 20 (o8 a.2)
  case true=>rfl
  have l5:=bQ (n:=20) h5
  simp only[o5]
  refine J3 (lS a.2 (fun m=>ilt 80 (o8 m)) false PUnit.unit (by omega) (fun j m hm=>?_) ?_) ?_
  ·simp only[G6 hm,o6,D8,hm,o7]
   cases ilt 80 (o8 m) <;> rfl
  ·rw[G5];rfl
  ·cases a.2.any fun m=>ilt 80 (o8 m) <;> rfl
 ·rw[G5];rfl
 cases l.1.any XK
 case true=>rfl
 simp only[cond_false,C9,o5]
 apply eP l.2.1 tG (fun b i=>((b,i):Int×Int)) (fun _=>PUnit.unit) (fun _ _=>True) 0 (by omega) trivial
 ·intro i t b hi hi' _
  refine⟨?_,fun _ _=>trivial⟩
  simp only[G6 hi,o6,D8,hi,o7]
  unfold tG
  rw[O5 (by omega)]
  cases ilt 80 (o8 t.1) <;> cases ilt 150 (x8 .i64 b (o8 t.2.2.2)) <;> rfl
 ·intro b _
  rw[G5];rfl
 ·intro _
  cases ht:U0 tG l.2.1 0 with
  | inr r=>rw[gY tG (fun r=>r=false) c4M _ _ _ ht];rfl
  | inl b=>
   simp only[C9]
   apply eP l.2.2 sG (fun b i=>((b,i):Int×Int)) (fun _=>PUnit.unit) (fun _ _=>True) 0 (by omega) trivial
   ·intro i s b hi hi' _
    refine⟨?_,fun _ _=>trivial⟩
    simp only[G6 hi,o6,D8,hi,o7,Tv]
    unfold sG
    rw[O5 (by omega)]
    cases ilt 60 (x8 .i64 b (o8 s.2.2.2.2)) <;> cases smS s <;> rfl
   ·intro b _
    rw[G5];rfl
   ·intro _
    cases hs:U0 sG l.2.2 0 with
    | inr r=>rw[gY sG (fun r=>r=false) c1Y _ _ _ hs];rfl
    | inl b=>rfl
theorem Gi (l:L6) (c:U8):lL l c=some (l7 (smL l) (smC c) false):=by
 unfold lL
 rw[YG,o7,Wv]
 cases smL l <;> rfl
structure WfL (l:L6):Prop where
 rl:∀t∈l.2.1,t.2.2.2.length≤4611686018427387904
 ri:∀t∈l.2.1,∀r∈t.2.2.2,a1x r
 sl:∀s∈l.2.2,s.2.2.2.2.length≤4611686018427387904
 si:∀s∈l.2.2,ScI s
theorem a9F:∀(L:List V8) (b b' :Int),0≤b→b≤150→(∀t∈L,t.2.2.2.length≤4611686018427387904)→U0 tG L b= .inl b' →∀t∈L,t.1.length≤80∧t.2.2.2.length≤150
 | [],_,_,_,_,_,_=>by simp
 | t::L,b,b',h0,h1,hw,h=>by
  have hwt:=hw t (by simp)
  have ha:x8 .i64 b (o8 t.2.2.2)=b+o8 t.2.2.2:=N7 (by unfold I64 o8;omega)
  unfold U0 tG at h
  rw[ha]at h
  cases g0:ilt 80 (o8 t.1) <;> rw[g0]at h
  case true=>cases h
  cases g1:ilt 150 (b+o8 t.2.2.2) <;> rw[g1]at h
  case true=>cases h
  rw[aV]at g1
  intro x hx
  rcases List.mem_cons.1 hx with rfl | hx
  ·exact⟨bQ (n:=80) g0,by unfold o8 at g1;omega⟩
  ·exact a9F L (b+o8 t.2.2.2) b' (by unfold o8;omega) g1 (fun q hq=>hw q (by simp[hq])) h x hx
theorem a8d:∀(L:List A8) (b b' :Int),0≤b→b≤60→(∀s∈L,s.2.2.2.2.length≤4611686018427387904)→U0 sG L b= .inl b' →∀s∈L,smS s=true
 | [],_,_,_,_,_,_=>by simp
 | s::L,b,b',h0,h1,hw,h=>by
  have hwt:=hw s (by simp)
  have ha:x8 .i64 b (o8 s.2.2.2.2)=b+o8 s.2.2.2.2:=N7 (by unfold I64 o8;omega)
  unfold U0 sG at h
  rw[ha]at h
  cases g1:ilt 60 (b+o8 s.2.2.2.2) <;> rw[g1]at h
  case true=>cases h
  cases g2:smS s <;> rw[g2]at h
  case false=>cases h
  rw[aV]at g1
  intro x hx
  rcases List.mem_cons.1 hx with rfl | hx
  ·exact g2
  ·exact a8d L (b+o8 s.2.2.2.2) b' (by unfold o8;omega) g1 (fun q hq=>hw q (by simp[hq])) h x hx
theorem RF {l:L6} (h:smL l=true) (hW:WfL l):SmL l∧∀t∈l.2.1,ku t:=by
 unfold smL at h
 obtain⟨h1,h⟩:=Oo h
 obtain⟨h2,h⟩:=Oo h
 obtain⟨h3,h⟩:=Oo h
 obtain⟨h4,h⟩:=Oo h
 have l1:=bQ (n:=9) h1
 have l2:=bQ (n:=9) h2
 have l3:=bQ (n:=5) h3
 cases ht:U0 tG l.2.1 0 with
 | inr r=>rw[ht]at h;cases h
 | inl b=>
  rw[ht]at h
  simp only at h
  cases hs:U0 sG l.2.2 0 with
  | inr r=>rw[hs]at h;cases h
  | inl b' =>
   have T:=a9F l.2.1 0 b (by omega) (by omega) hW.rl ht
   have S:=a8d l.2.2 0 b' (by omega) (by omega) hW.sl hs
   refine⟨⟨⟨by omega,by omega,by omega⟩,fun e he=>?_,fun t ht=>by have:=(T t ht).1;omega,fun s hs=>c2b (S s hs) (hW.si s hs)⟩,fun t ht=>⟨by have:=(T t ht).2;omega,hW.ri t ht⟩⟩
   have hl:=TM h4 e he
   unfold XK at hl
   cases g1:ilt 80 (o8 e.1) <;> rw[g1]at hl
   case true=>cases hl
   cases g2:ilt 20 (o8 e.2) <;> rw[g2]at hl
   case true=>cases hl
   have k1:=bQ (n:=80) g1
   exact⟨by omega,fun m hm=>by have:=bQ (n:=80) (TM hl m hm);omega⟩
theorem ER:bz=some true:=by decide+kernel
theorem Yp:reachBytes≤4611686018427387904:=by decide
theorem Zc {l:L6} (h:wf y27 l):WfL l:=by
 refine⟨fun t ht=>?_,fun t ht r hr=>?_,fun s hs=>?_,fun s hs r hr=>⟨fun n hn=>?_,fun n hn=>?_⟩⟩
 ·have:=(h.2.1.2 t ht).2.2.2.1;exact Nat.le_trans this Yp
 ·have:=(h.2.1.2 t ht).2.2.2.2 r hr
  exact⟨Su this.2.1,Su this.2.2.1,Su this.2.2.2⟩
 ·have:=(h.2.2.2 s hs).2.2.2.2.1;exact Nat.le_trans this Yp
 ·have:=(h.2.2.2 s hs).2.2.2.2.2 r hr
  exact Su (this.2.2.2.2.2.1.2 n hn).2
 ·have:=(h.2.2.2 s hs).2.2.2.2.2 r hr
  exact Su (this.2.2.2.2.2.2.1.2 n hn).2
theorem b5H {k N:Int} {sg:I8} (hk:az k=some true) (h:(MB (k,N) [] sg).2=0):((RR (k,N) [] sg).getD ((0,0),0)).2=0:=by
 unfold MB at h
 rw[b9Q]at h
 revert h
 cases D6 (ieq N 0)
 ·exact id
 ·rw[show az (k,N).1=some true from hk];exact id
theorem b0X {N:Int} {sg:I8} (h:(MB (8,N) [] sg).2=0):0≤N∧N<o8 sg.2.2.2.1:=by
 have h:=b5H rfl h
 have hf:lN (8,N) sg=l7 (ile 0 N) (some (ilt N (o8 sg.2.2.2.1))) (some false):=rfl
 unfold RR at h
 rw[hf,show jW (8,N) sg=some true from rfl]at h
 cases h1:ile 0 N <;> rw[h1]at h
 ·exact absurd (show(6:Int)=0 from h) (by decide)
 cases h2:ilt N (o8 sg.2.2.2.1) <;> rw[h2]at h
 ·exact absurd (show(6:Int)=0 from h) (by decide)
 exact⟨jv.1 h1,dZ.1 h2⟩
theorem b0Y {k N:Int} {sg:I8} (hk:k=36∨k=37∨k=38∨k=39) (h:(MB (k,N) [] sg).2=0):0≤N∧N<o8 sg.2.2.2.2.1∧sg.2.2.2.2.2=true:=by
 have h:=b5H (by rcases hk with rfl | rfl | rfl | rfl <;> rfl) h
 have hr:RR (k,N) [] sg=l9 (l7 sg.2.2.2.2.2 (l7 (ile 0 N) (some (ilt N (o8 sg.2.2.2.2.1))) (some false)) (some false)) fun(x:Bool)=>l7 (D6 x) (some ((0,0),6))
   (l9 (eU (k,N) sg) fun(x:F6×Bool)=>l7 (D6 x.2) (some ((0,0),8)) (some (x.1,0))):=by rcases hk with rfl | rfl | rfl | rfl <;> rfl
 rw[hr]at h
 cases h0:sg.2.2.2.2.2 <;> rw[h0]at h
 ·exact absurd (show(6:Int)=0 from h) (by decide)
 cases h1:ile 0 N <;> rw[h1]at h
 ·exact absurd (show(6:Int)=0 from h) (by decide)
 cases h2:ilt N (o8 sg.2.2.2.2.1) <;> rw[h2]at h
 ·exact absurd (show(6:Int)=0 from h) (by decide)
 exact⟨jv.1 h1,dZ.1 h2,rfl⟩
def OY (sg:I8) (n:Int×Int):Prop:=(ieq n.1 8=true→0≤n.2∧n.2<o8 sg.2.2.2.1)∧(isM n.1=true→0≤n.2∧n.2<o8 sg.2.2.2.2.1∧sg.2.2.2.2.2=true)
theorem Uo {k:Int} (h:isM k=true):k=36∨k=37∨k=38∨k=39:=by
 unfold isM at h
 cases h1:ile 36 k <;> rw[h1]at h
 ·cases h
 have h2:=jv.1 h1
 have h3:=jv.1 (show ile k 39=true from h)
 omega
theorem a6I {sg:I8} {n:Int×Int} {i:Nat} {t:Int×Int} (h:zG sg n [] i= .inr t):OY sg n:=by
 unfold zG at h
 split at h
 ·rename_i h0
  obtain⟨k,N⟩:=n
  refine⟨fun hk=>?_,fun hk=>b0Y (Uo hk) h0⟩
  have hk:k=8:=P6.1 hk
  subst hk;exact b0X h0
 ·cases h
theorem QG {sg:I8} {n:Int×Int} (h:arF n.1≠0):OY sg n:=by
 refine⟨fun hk=>absurd ?_ h,fun hk=>absurd ?_ h⟩
 ·rw[P6.1 hk];rfl
 ·rcases Uo hk with e | e | e | e <;> rw[e] <;> rfl
theorem Es {sg:I8} :∀(t:XT) (o:Nat) {r:Int×Int},t.wf→dX sg t o= .inr r→∀n∈t.post,OY sg n
 | .l0 n,o,r,hw,h,x,hx=>by
  unfold XT.post at hx
  rw[List.mem_singleton.1 hx]
  unfold dX at h;exact a6I h
 | .l1 n a,o,r,hw,h,x,hx=>by
  unfold XT.wf at hw
  unfold XT.post at hx
  unfold dX at h
  cases ha:dX sg a o with
  | inl e=>rw[ha]at h;cases h
  | inr ta=>
   rcases List.mem_append.1 hx with hx | hx
   ·exact Es a o hw.2 ha x hx
   ·rw[List.mem_singleton.1 hx];exact QG (by rw[hw.1];decide)
 | .l2 n a b,o,r,hw,h,x,hx=>by
  unfold XT.wf at hw
  unfold XT.post at hx
  unfold dX at h
  cases ha:dX sg a o with
  | inl e=>rw[ha]at h;cases h
  | inr ta=>
   rw[ha]at h
   simp only at h
   cases hb:dX sg b (o+a.size)with
   | inl e=>rw[hb]at h;cases h
   | inr tb=>
    rcases List.mem_append.1 hx with hx | hx
    ·rcases List.mem_append.1 hx with hx | hx
     ·exact Es a o hw.2.1 ha x hx
     ·exact Es b _ hw.2.2 hb x hx
    ·rw[List.mem_singleton.1 hx];exact QG (by rw[hw.1];decide)
 | .l3 n a b c,o,r,hw,h,x,hx=>by
  unfold XT.wf at hw
  unfold XT.post at hx
  unfold dX at h
  cases ha:dX sg a o with
  | inl e=>rw[ha]at h;cases h
  | inr ta=>
   rw[ha]at h
   simp only at h
   cases hb:dX sg b (o+a.size)with
   | inl e=>rw[hb]at h;cases h
   | inr tb=>
    rw[hb]at h
    simp only at h
    cases hc:dX sg c (o+a.size+b.size)with
    | inl e=>rw[hc]at h;cases h
    | inr tc=>
     rcases List.mem_append.1 hx with hx | hx
     ·rcases List.mem_append.1 hx with hx | hx
      ·rcases List.mem_append.1 hx with hx | hx
       ·exact Es a o hw.2.1 ha x hx
       ·exact Es b _ hw.2.2.1 hb x hx
      ·exact Es c _ hw.2.2.2 hc x hx
     ·rw[List.mem_singleton.1 hx];exact QG (by rw[hw.1];decide)
theorem DR {sg:I8} {n:Int×Int} {ops:List (Int×Int)} {i:Nat} {x:Int×Int} (h:zG sg n ops i= .inl x):x.2≠0:=by
 unfold zG at h
 split at h
 ·cases h
 ·rename_i h0;cases h;exact h0
theorem wR {sg:I8} :∀(t:XT) (o:Nat) {x:Int×Int},dX sg t o= .inl x→x.2≠0
 | .l0 n,o,x,h=>DR h
 | .l1 n a,o,x,h=>by
  unfold dX at h
  cases ha:dX sg a o with
  | inl e=>rw[ha]at h;cases h;exact wR a o ha
  | inr ta=>rw[ha]at h;exact DR h
 | .l2 n a b,o,x,h=>by
  unfold dX at h
  cases ha:dX sg a o with
  | inl e=>rw[ha]at h;cases h;exact wR a o ha
  | inr ta=>
   rw[ha]at h
   simp only at h
   cases hb:dX sg b (o+a.size)with
   | inl e=>rw[hb]at h;cases h;exact wR b _ hb
   | inr tb=>rw[hb]at h;exact DR h
 | .l3 n a b c,o,x,h=>by
  unfold dX at h
  cases ha:dX sg a o with
  | inl e=>rw[ha]at h;cases h;exact wR a o ha
  | inr ta=>
   rw[ha]at h
   simp only at h
   cases hb:dX sg b (o+a.size)with
   | inl e=>rw[hb]at h;cases h;exact wR b _ hb
   | inr tb=>
    rw[hb]at h
    simp only at h
    cases hc:dX sg c (o+a.size+b.size)with
    | inl e=>rw[hc]at h;cases h;exact wR c _ hc
    | inr tc=>rw[hc]at h;exact DR h
theorem UR {e:List (Int×Int)} {sg:I8} (h:(fZ e sg).2.2=0):∀n∈e,OY sg n:=by
 unfold fZ at h
 cases hs:eY e with
 | inl x=>rw[hs]at h;exact absurd h (xM hs)
 | inr t=>
  rw[hs]at h
  simp only at h
  cases ht:dX sg t 0 with
  | inl x=>
   rw[ht]at h
   exact absurd h (wR t 0 ht)
  | inr r=>
   intro n hn
   rw[(xN hs).1]at hn
   exact Es t 0 (GY hs) ht n hn
theorem UV {e:List (Int×Int)} {sg:I8} {t:Int×Int} (h:zX e sg t=0):fZ e sg=(t,(fZ e sg).2.1,0):=by
 unfold zX at h
 cases h1:ieq (fZ e sg).2.2 0 <;> rw[h1]at h
 ·simp only[o5]at h;rw[F5 h]at h1;cases h1
 cases h2:ieq (fZ e sg).1.1 t.1 <;> rw[h2]at h
 ·exact absurd (show(8:Int)=0 from h) (by decide)
 cases h3:ieq (fZ e sg).1.2 t.2 <;> rw[h3]at h
 ·exact absurd (show(8:Int)=0 from h) (by decide)
 rw[P6]at h1 h2 h3
 exact Prod.ext (Prod.ext h2 h3) (Prod.ext rfl h1)
theorem a1p {l:L6} (h:(aP l).1=0) {i:Nat} {s:A8} (hs:l.2.2[i]? =some s) {k:Nat} {r:X0} (hr:s.2.2.2.2[k]? =some r):FY s (BL l s) k r=0:=by
 have hp:=(MP h hs).2
 unfold LK at hp
 cases h1:yu l s with
 | some q=>rw[h1]at hp;exact absurd hp (Fb h1)
 | none=>
  rw[h1]at hp
  simp only at hp
  cases h2:P9 s.2.2.2.2.length (CW l s)with
  | some q=>
   rw[h2]at hp
   obtain⟨j,hj,hq⟩:=aW h2
   unfold CW at hq
   cases h3:s.2.2.2.2[j]? with
   | none=>rw[h3]at hq;cases hq
   | some q2=>rw[h3]at hq;exact absurd hp (Cb hq)
  | none=>
   have hn:=uI h2 k (O6.1 hr).1
   unfold CW at hn
   rw[hr]at hn
   simp only at hn
   unfold Oz at hn
   cases he:ieq (FY s (BL l s) k r) 0 <;> rw[he]at hn
   ·cases hn
   ·exact P6.1 he
theorem a0s {s:A8} {sg:I8} {k:Nat} {r:X0} (h:FY s sg k r=0):∃d,lat s.2.2.2.1 r.2.1=some d∧PY r sg d.2=0:=by
 unfold FY at h
 cases g1:yz r.1 <;> rw[g1]at h
 ·exact absurd (show(2:Int)=0 from h) (by decide)
 cases g2:(s.2.2.2.2.take k).any fun x=>seq x.1 r.1 <;> rw[g2]at h
 case true=>exact absurd (show(7:Int)=0 from h) (by decide)
 cases g3:lat s.2.2.2.1 r.2.1 with
 | none=>rw[g3]at h;exact absurd (show(6:Int)=0 from h) (by decide)
 | some d=>
  rw[g3]at h
  refine⟨d,rfl,?_⟩
  simp only[o6,o5]at h
  revert h
  generalize l7 (ieq r.2.2.1 (-1)) false (l7 (ilt r.2.2.1 0) true (l7 (ile k r.2.2.1) true (match lat s.2.2.2.2 r.2.2.1 with | some q=>D6 (ieq q.2.1 r.2.1) | none=>true)))=b1
  generalize ilt r.2.2.2.1 0=b2
  generalize ilt 9 r.2.2.2.1=b3
  generalize Bv r.2.2.2.2.1=b4
  generalize ieq r.2.2.2.2.1.1 r.2.2.2.2.1.2=b5
  generalize ile 8 (Oq (s.2.2.2.2.take k) r.2.1)=b6
  generalize YV r.2.2.2.2.2.2.2=b7
  intro h
  cases b1
  case true=>exact absurd (show(9:Int)=0 from h) (by decide)
  cases b2
  case true=>exact absurd (show(3:Int)=0 from h) (by decide)
  cases b3
  case true=>exact absurd (show(3:Int)=0 from h) (by decide)
  cases b4
  case false=>exact absurd (show(3:Int)=0 from h) (by decide)
  cases b5
  case true=>exact absurd (show(3:Int)=0 from h) (by decide)
  cases b6
  case true=>exact absurd (show(4:Int)=0 from h) (by decide)
  cases b7
  case false=>exact absurd (show(2:Int)=0 from h) (by decide)
  exact h
theorem Oi {l:L6} (h:(aP l).1=0) {i:Nat} {s:A8} (hs:l.2.2[i]? =some s) {r:X0} (hr:r∈s.2.2.2.2):
  (r.2.2.2.2.2.1=[]∨zX r.2.2.2.2.2.1 (BL l s) (1,0)=0)∧∃d,lat s.2.2.2.1 r.2.1=some d∧zX r.2.2.2.2.2.2.1 (BL l s) d.2=0:=by
 obtain⟨k,hk,e⟩:=List.getElem_of_mem hr
 obtain⟨d,h1,h2⟩:=a0s (a1p h hs (r:=r) (k:=k) (by rw[Y8 hk,e]))
 unfold PY at h2
 cases h3:ilt 0 (o8 r.2.2.2.2.2.1) <;> rw[h3]at h2
 ·refine⟨.inl ?_,d,h1,h2⟩
  rw[aV]at h3
  exact List.length_eq_zero_iff.1 (by simp only[o8]at h3;omega)
 ·simp only[o6]at h2
  cases h4:ieq (zX r.2.2.2.2.2.1 (BL l s) (1,0)) 0 <;> rw[h4]at h2
  ·simp only[o5]at h2;rw[F5 h2]at h4;cases h4
  ·exact⟨.inr (P6.1 h4),d,h1,h2⟩
theorem a8i (l:L6) (s:A8):(BL l s).2.2.2.1=s.2.2.2.1.map (·.2):=by unfold BL;split <;> rfl
theorem b1A {l:L6} {s:A8} (h:(BL l s).2.2.2.2.2=true):(BL l s).2.2.2.2.1=(G9 l s).2.2.2.1.map (·.2):=by
 unfold BL at h ⊢
 unfold G9 lat
 by_cases g:0≤s.2.1
 ·rw[if_pos g]at h ⊢
  rw[H5 g]
  cases hq:l.2.2[s.2.1.toNat]? with
  | none=>rw[hq]at h;cases h
  | some q=>rfl
 ·rw[if_neg g]at h;cases h
theorem zh {l:L6} (h:(aP l).1=0) {i:Nat} {s:A8} (hs:l.2.2[i]? =some s) {r:X0} (hr:r∈s.2.2.2.2) {e:List (Int×Int)} (he:e=r.2.2.2.2.2.1∨e=r.2.2.2.2.2.2.1):
  (∀x∈(Y4 e).2.1,0≤x∧x<nD s)∧∀x∈(Y4 e).2.2,0≤x∧x<nD (G9 l s):=by
 obtain⟨h1,d,h2,h3⟩:=Oi h hs hr
 have hn:∀n∈e,OY (BL l s) n:=by
  rcases he with rfl | rfl
  ·rcases h1 with h1 | h1
   ·rw[h1];simp
   ·exact UR (by rw[UV h1])
  ·exact UR (by rw[UV h3])
 constructor
 ·intro x hx
  have hx:=(qY x _).1 (show x∈Em (JP (fun o=>ieq o 8) e)from hx)
  obtain⟨n,hn1,rfl⟩:=List.mem_map.1 hx
  obtain⟨hn2,hn3⟩:=List.mem_filter.1 hn1
  have:=(hn n hn2).1 hn3
  rw[a8i]at this
  simpa[o8,nD]using this
 ·intro x hx
  have hx:=(qY x _).1 (show x∈Em (JP isM e)from hx)
  obtain⟨n,hn1,rfl⟩:=List.mem_map.1 hx
  obtain⟨hn2,hn3⟩:=List.mem_filter.1 hn1
  have:=(hn n hn2).2 hn3
  rw[b1A this.2.2]at this
  refine⟨this.1,?_⟩
  have h2:=this.2.1
  simpa[o8,nD]using h2
abbrev BB:Type:=List Bool×List Bool
def BOk (s m:A8) (b:BB):Prop:=b.1.length=s.2.2.2.1.length∧b.2.length=m.2.2.2.1.length
theorem MV (s:A8) (env:P5) (m d:Int):((P8 s env m d).2.1=0∧P8 s env m d=((P8 s env m d).1,0,0,0,0))∨((P8 s env m d).2.1≠0∧P8 s env m d=(0,(P8 s env m d).2)):=by
 unfold P8
 cases hf:U0 (DJ s env m d) (W9 s d env.1).1 []with
 | inr e=>
  right
  have:=gY (DJ s env m d) (fun r=>r.1=0∧r.2.1≠0) (fun b i r h=>?_) _ _ _ hf
  ·exact⟨this.2,Prod.ext this.1 rfl⟩
  ·refine⟨?_,Qi b i r h⟩
   unfold DJ at h
   split at h
   ·cases h
   ·rename_i q _
    cases h1:ieq (o8 q.2.2.2.2.2.1) 0 <;> rw[h1]at h
    case true=>cases h
    cases h2:ieq (qM q.2.2.2.2.2.1 env).2 0 <;> rw[h2]at h <;> cases h
    rfl
 | inl ap=>
  left
  simp only
  cases ilt (Ad (W9 s d env.1).2.1 (W9 s d env.1).2.2 ap) 0 <;> exact⟨rfl,rfl⟩
structure Sim (P Q:Int→Prop) (a b:P5):Prop where
 e1:a.1=b.1
 e2:a.2.1=b.2.1
 e3:a.2.2.2.2=b.2.2.2.2
 dl:a.2.2.1.length=b.2.2.1.length
 d:∀x,P x→lat a.2.2.1 x=lat b.2.2.1 x
 ml:a.2.2.2.1.length=b.2.2.2.1.length
 m:∀x,Q x→a.2.2.2.1.map (fun v=>lat v x)=b.2.2.2.1.map (fun v=>lat v x)
def WO (P Q:Int→Prop) (n:Int×Int):Prop:=(n.1=8→P n.2)∧(isM n.1=true→Q n.2)
theorem DL {α β:Type} {a:List α} {b:List β} (h:a.length=b.length):o8 a=o8 b:=congrArg (fun(n:Nat)=>(n:Int)) h
theorem a4d {P Q:Int→Prop} {n:Int×Int} {a b:P5} (h:Sim P Q a b) (hn:WO P Q n):uh n a=uh n b:=by
 obtain⟨d,i,D,M,T,B⟩:=a
 obtain⟨d',i',D',M',T',B'⟩:=b
 obtain⟨e1,e2,e3,dl,hd,ml,hm⟩:=h
 cases e1;cases e2;cases e3
 have hD:=DL dl
 unfold uh
 simp only at hD hd ⊢
 rw[hD]
 cases hk:ieq n.1 8
 ·rfl
 ·rw[hd _ (hn.1 (P6.1 hk))]
theorem XI {P Q:Int→Prop} {n:Int×Int} {a b:P5} (h:Sim P Q a b) (hn:WO P Q n):aA n a=aA n b:=by
 obtain⟨d,i,D,M,T,B⟩:=a
 obtain⟨d',i',D',M',T',B'⟩:=b
 obtain⟨e1,e2,e3,dl,hd,ml,hm⟩:=h
 cases e1;cases e2;cases e3
 have hM:=DL ml
 unfold aA
 simp only at hM hd ⊢
 rw[hM]
 cases hk:ieq n.1 8
 ·rfl
 ·rw[hd _ (hn.1 (P6.1 hk))]
theorem Qd {α γ β ρ:Type} (f:α→γ) (g:β→γ→β⊕ρ):∀(l:List α) (b:β),U0 (fun b a=>g b (f a)) l b=U0 g (l.map f) b
 | [],b=>rfl
 | a::l,b=>by
  rw[List.map_cons]
  unfold U0
  cases g b (f a)with
  | inl b' =>exact Qd f g l b'
  | inr r=>rfl
def c9d (k:Int) (t:Int×Int) (b:Int×Bool) (o:Option V3):(Int×Bool)⊕(V3×Int):=
 match(match o with | none=>(.inr 6:V3⊕Int) | some x=>l7 (ieq x.1 0) (.inr 6) (l7 (Lc x t) (.inl x) (.inr 8)))with
 | .inr c=> .inr ((0,0,0),c)
 | .inl x=>l7 (plB (t.1,0,zY k b.1 x.2.2 b.2)) (.inl (zY k b.1 x.2.2 b.2,false)) (.inr ((0,0,0),3))
theorem a1Z (k N:Int) (t:Int×Int) (ms:List (List V3)) (b:Int×Bool):U0 (Aa k N t) ms b=U0 (c9d k t) (ms.map fun v=>lat v N) b:=Qd (fun v=>lat v N) (c9d k t) ms b
theorem XQ {P Q:Int→Prop} {n:Int×Int} {a b:P5} (h:Sim P Q a b) (hn:Q n.2) (ha:EvOk a) (hb:EvOk b):iW n a=iW n b:=by
 obtain⟨k,N⟩:=n
 have h3:a.2.2.2.2.1=b.2.2.2.2.1:=by rw[h.e3]
 cases hl:lat a.2.2.2.2.1 N with
 | none=>
  have hl2:lat b.2.2.2.2.1 N=none:=by rw[←h3];exact hl
  unfold iW
  simp only
  rw[hl,hl2];rfl
 | some t=>
  have hl2:lat b.2.2.2.2.1 N=some t:=by rw[←h3];exact hl
  have h0:=(V5 hl).1
  rw[FM k N a t hl h0 ha.ms,FM k N b t hl2 h0 hb.ms]
  unfold XO
  rw[a1Z,a1Z,h.m N hn,DL h.ml]
theorem a0H {P Q:Int→Prop} {a b:P5} (h:Sim P Q a b) (n:Int×Int) (x:V3):fV n x a=fV n x b:=by
 obtain⟨d,i,D,M,T,B⟩:=a
 obtain⟨d',i',D',M',T',B'⟩:=b
 obtain⟨e1,e2,e3,dl,hd,ml,hm⟩:=h
 cases e1;cases e2;cases e3
 rfl
theorem KO {P Q:Int→Prop} {n:Int×Int} {a b:P5} (h:Sim P Q a b) (hn:WO P Q n) (ha:EvOk a) (hb:EvOk b) (args:List V3):uz n args a=uz n args b:=by
 unfold uz iV
 simp only[a4d h hn,XI h hn,a0H h]
 cases h1:ile 36 n.1
 ·rfl
 cases h2:ile n.1 39
 ·rfl
 rw[XQ h (hn.2 (by unfold isM;rw[h1];exact h2)) ha hb]
theorem Dz {P Q:Int→Prop} {a b:P5} (h:Sim P Q a b) (ha:EvOk a) (hb:EvOk b):∀(t:XT),(∀n∈t.post,WO P Q n)→evT a t=evT b t
 | .l0 n,hn=>KO h (hn n (by simp[XT.post])) ha hb []
 | .l1 n x,hn=>by
  unfold evT
  rw[Dz h ha hb x (fun m hm=>hn m (by simp[XT.post,hm])),KO h (hn n (by simp[XT.post])) ha hb]
 | .l2 n x y,hn=>by
  unfold evT
  rw[Dz h ha hb x (fun m hm=>hn m (by simp[XT.post,hm])),Dz h ha hb y (fun m hm=>hn m (by simp[XT.post,hm])),KO h (hn n (by simp[XT.post])) ha hb]
 | .l3 n x y z,hn=>by
  unfold evT
  rw[Dz h ha hb x (fun m hm=>hn m (by simp[XT.post,hm])),Dz h ha hb y (fun m hm=>hn m (by simp[XT.post,hm])),Dz h ha hb z (fun m hm=>hn m (by simp[XT.post,hm]))]
theorem a4S {P Q:Int→Prop} {e:List (Int×Int)} (h1:∀x∈(Y4 e).2.1,P x) (h2:∀x∈(Y4 e).2.2,Q x):∀n∈e,WO P Q n:=fun n hn=>by
 refine⟨fun hk=>h1 _ ?_,fun hk=>h2 _ ?_⟩
 ·exact(qY _ _).2 (List.mem_map.2 ⟨n,List.mem_filter.2 ⟨hn,by simp[hk,ieq]⟩,rfl⟩)
 ·exact(qY _ _).2 (List.mem_map.2 ⟨n,List.mem_filter.2 ⟨hn,hk⟩,rfl⟩)
theorem Ua {P Q:Int→Prop} {a b:P5} (h:Sim P Q a b) (ha:EvOk a) (hb:EvOk b) {e:List (Int×Int)} (h1:∀x∈(Y4 e).2.1,P x) (h2:∀x∈(Y4 e).2.2,Q x):qM e a=qM e b:=by
 unfold qM
 cases hs:eY e with
 | inl x=>rfl
 | inr t=>
  simp only
  exact Dz h ha hb t (fun n hn=>a4S h1 h2 n (by rw[(xN hs).1];exact hn))
def SA (s:A8) (P Q:Int→Prop) (d:Int):Prop:=∀r∈s.2.2.2.2,r.2.1=d→∀e,e=r.2.2.2.2.2.1∨e=r.2.2.2.2.2.2.1→(∀x∈(Y4 e).2.1,P x)∧∀x∈(Y4 e).2.2,Q x
theorem MM {s:A8} {d t i:Int} (h:i∈(W9 s d t).1):∃r,lat s.2.2.2.2 i=some r∧r∈s.2.2.2.2∧r.2.1=d:=by
 have h:i∈castL (aN s d t):=h
 obtain⟨k,hk,rfl⟩:=List.mem_map.1 h
 obtain⟨h1,h2⟩:=CX hk
 obtain⟨r,hr,hm⟩:=ed (l:=s.2.2.2.2) (i:=(k:Int)) (by omega) (by unfold o8;omega)
 refine⟨r,hr,hm,?_⟩
 unfold onR at h2
 rw[D8]at hr
 rw[hr]at h2
 simp only at h2
 cases h3:ieq r.2.1 d <;> rw[h3]at h2
 ·cases h2
 ·exact P6.1 h3
theorem Nh {α β ρ:Type} {G H:β→α→β⊕ρ} :∀(l:List α) (b:β),(∀a∈l,∀b,G b a=H b a)→U0 G l b=U0 H l b
 | [],b,h=>rfl
 | a::l,b,h=>by
  unfold U0
  rw[h a (by simp)]
  cases H b a with
  | inl b' =>exact Nh l b' (fun x hx=>h x (by simp[hx]))
  | inr r=>rfl
theorem MX {s:A8} {P Q:Int→Prop} {a b:P5} (h:Sim P Q a b) (ha:EvOk a) (hb:EvOk b) {d:Int} (hr:∀i∈(W9 s d b.1).1,∀r,lat s.2.2.2.2 i=some r→(∀x∈(Y4 r.2.2.2.2.2.1).2.1,P x)∧∀x∈(Y4 r.2.2.2.2.2.1).2.2,Q x) (m:Int):P8 s a m d=P8 s b m d:=by
 unfold P8
 rw[h.e1,Nh (G:=DJ s a m d) (H:=DJ s b m d) (W9 s d b.1).1 [] (fun i hi ap=>?_)]
 obtain⟨r,h1,h2,h3⟩:=MM hi
 obtain⟨p1,p2⟩:=hr i hi r h1
 unfold DJ
 rw[h1]
 simp only
 rw[Ua h ha hb p1 p2]
theorem Zl {s:A8} {P Q:Int→Prop} {a b:P5} (h:Sim P Q a b) (ha:EvOk a) (hb:EvOk b) {d:Int} (hr:SA s P Q d) (m:Int):P8 s a m d=P8 s b m d:=
 MX h ha hb (fun i hi r hl=>by
  obtain⟨q,h1,h2,h3⟩:=MM hi
  rw[h1]at hl;cases hl
  exact hr r h2 h3 _ (.inl rfl)) m
theorem TU {s:A8} {env:P5} {m d:Int} (h0:(P8 s env m d).2.1=0) (h1:(P8 s env m d).1≠-1) (h2:(P8 s env m d).1≠-2):(P8 s env m d).1∈(W9 s d env.1).1:=by
 unfold P8 at h0 h1 h2 ⊢
 cases hf:U0 (DJ s env m d) (W9 s d env.1).1 []with
 | inr e=>rw[hf]at h0;exact absurd h0 (gY (DJ s env m d) (fun r=>r.2.1≠0) (fun b i r h=>Qi b i r h) _ _ _ hf)
 | inl ap=>
  rw[hf]at h1 h2
  simp only at h1 h2 ⊢
  have hb:=Wq (W9 s d env.1).2.1 (W9 s d env.1).2.2 ap
  have hlo:=a3u (W9 s d env.1).2.1 (W9 s d env.1).2.2 ap
  have hl:=(Gn s d env.1).2
  generalize Ad (W9 s d env.1).2.1 (W9 s d env.1).2.2 ap=q at h1 h2 hb hlo ⊢
  by_cases g:q<0
  ·rw[F7 g]at h1 h2
   simp only[o6]at h1 h2
   omega
  rw[E9 (Int.not_lt.1 g)]
  have hi:q.toNat<(W9 s d env.1).1.length:=by omega
  simp only[o5,qh,Y8 hi,Option.getD_some]
  exact List.getElem_mem hi
theorem Xg {s:A8} {P Q:Int→Prop} {a b:P5} (h:Sim P Q a b) (ha:EvOk a) (hb:EvOk b) {d:Int} (hr:SA s P Q d) (m:Int):Bq s a m d=Bq s b m d:=by
 unfold Bq
 rw[Zl h ha hb hr m]
 cases h0:ieq (P8 s b m d).2.1 0
 ·simp only[o5]
 cases h1:ieq (P8 s b m d).1 (-1)
 case true=>simp only[o6]
 cases h2:ieq (P8 s b m d).1 (-2)
 case true=>simp only[o6,o5]
 have hin:=TU (P6.1 h0) (fun e=>by rw[F5 e]at h1;cases h1) (fun e=>by rw[F5 e]at h2;cases h2)
 obtain⟨r,r1,r2,r3⟩:=MM hin
 obtain⟨p1,p2⟩:=hr r r2 r3 _ (.inr rfl)
 rw[r1]
 simp only
 rw[Ua h ha hb p1 p2]
def a3I (s:A8) (O:List Int):Prop:=O.Nodup∧(∀d∈O,0≤d∧d<nD s)∧∀(pre:List Int) (d:Int) (suf:List Int),O=pre++d::suf→∀x∈H9 s d,x∈pre
theorem a1d {O pre suf:List Int} {d e:Int} (h:O++[e]=pre++d::suf):(suf=[]∧pre=O∧d=e)∨∃suf',suf=suf' ++[e]∧O=pre++d::suf' :=by
 rcases List.eq_nil_or_concat suf with rfl | ⟨suf',z,rfl⟩
 ·have h:O++[e]=pre++[d]:=h
  obtain⟨h1,h2⟩:=List.append_inj' h rfl
  cases h2;exact .inl ⟨rfl,h1.symm,rfl⟩
 ·rw[List.concat_eq_append,←List.cons_append,←List.append_assoc]at h
  obtain⟨h1,h2⟩:=List.append_inj' h rfl
  cases h2;exact .inr ⟨suf',by simp,h1⟩
theorem a5p {s:A8} {O:List Int} {d:Nat} (h:a3I s O) (hd:d<s.2.2.2.1.length) (ho:okN s O d=true):a3I s (O++[(d:Int)]):=by
 obtain⟨h1,h2⟩:=ZZ.1 ho
 refine⟨?_,fun x hx=>?_,fun pre e suf he x hx=>?_⟩
 ·exact List.nodup_append.2 ⟨h.1,by simp,fun a ha b hb hab=>by simp at hb;subst hb;exact h1 (hab▸ha)⟩
 ·rcases List.mem_append.1 hx with hx | hx
  ·exact h.2.1 x hx
  ·simp at hx;subst hx;unfold nD o8;omega
 ·rcases a1d he with⟨_,rfl,rfl⟩ | ⟨suf',_,e2⟩
  ·cases hq:iD pre x
   ·have:x∈JF s pre (d:Int):=List.mem_filter.2 ⟨hx,by simp[hq]⟩
    rw[h2]at this;cases this
   ·exact oP.1 hq
  ·exact h.2.2 pre e suf' e2 x hx
theorem a9N {s:A8} {d x:Int} (hx:x∈H9 s d) (hn:x∉U3 s x):(U3 s x).length<(U3 s d).length:=by
 obtain⟨a1,a2,a3,a4⟩:=qK s d
 obtain⟨b1,b2,b3,b4⟩:=qK s x
 have hxd:=a2 x hx
 rcases KD b1 a1 (fun y hy=>b4 (fun z=>z∈U3 s d) (a3 x hxd) (fun z hz=>a3 z hz) y hy)with h | h
 ·rw[←h]at hxd;exact absurd hxd hn
 ·exact h
theorem a7q {s:A8} (hac:∀d,0≤d→d<nD s→d∉U3 s d) (O:List Int):∀(n:Nat) (d:Int),0≤d→d<nD s→d∉O→(U3 s d).length≤n→∃e,0≤e∧e<nD s∧e∉O∧∀x∈H9 s e,x∈O:=by
 intro n
 induction n with
 | zero=>
  intro d h0 h1 h2 hl
  refine⟨d,h0,h1,h2,fun x hx=>?_⟩
  have:=(qK s d).2.1 x hx
  rw[List.length_eq_zero_iff.1 (Nat.le_zero.1 hl)]at this;cases this
 | succ n ih=>
  intro d h0 h1 h2 hl
  by_cases hq:∀x∈H9 s d,x∈O
  ·exact⟨d,h0,h1,h2,hq⟩
  ·obtain⟨x,hx⟩:=Classical.not_forall.1 hq
   obtain⟨hx,hxO⟩:=Classical.not_imp.1 hx
   obtain⟨q0,q1⟩:=nH hx
   have:=a9N hx (hac x q0 q1)
   exact ih x q0 q1 hxO (by omega)
theorem c1f {s:A8} {O:List Int} (hl:O.length<s.2.2.2.1.length):∃d:Int,0≤d∧d<nD s∧d∉O:=by
 refine Classical.byContradiction fun hq=>?_
 have h1:∀x∈castL (List.range s.2.2.2.1.length),x∈Em O:=fun x hx=>by
  obtain⟨j,hj,rfl⟩:=List.mem_map.1 hx
  have:=List.mem_range.1 hj
  exact(qY _ _).2 (Classical.byContradiction fun hn=>hq ⟨(j:Int),by omega,by unfold nD o8;omega,hn⟩)
 have h2:=AB O
 have h3:(castL (List.range s.2.2.2.1.length)).length=s.2.2.2.1.length:=by rw[yU,List.length_range]
 rcases KD (Px List.pairwise_lt_range) (Wu O) h1 with h | h
 ·rw[←h]at h2;omega
 ·omega
theorem UD {s:A8} (hac:∀d,0≤d→d<nD s→d∉U3 s d):∀(k:Nat) (O:List Int),a3I s O→O.length≤s.2.2.2.1.length→s.2.2.2.1.length -O.length≤k→∃O',JU s k O= .inl O' ∧a3I s O' ∧O'.length=s.2.2.2.1.length
 | 0,O,h,hl,hk=>⟨O,rfl,h,by omega⟩
 | k+1,O,h,hl,hk=>by
  unfold JU
  by_cases hq:O.length<s.2.2.2.1.length
  ·rw[if_pos hq]
   cases hn:ED s O with
   | none=>
    obtain⟨d,d0,d1,d2⟩:=c1f hq
    obtain⟨e,e0,e1,e2,e3⟩:=a7q hac O _ d d0 d1 d2 (Nat.le_refl _)
    have hlt:e.toNat<s.2.2.2.1.length:=by unfold nD o8 at e1;omega
    have:=uI hn e.toNat hlt
    have hok:okN s O e.toNat=true:=ZZ.2 (by
     rw[Int.toNat_of_nonneg e0]
     refine⟨e2,List.filter_eq_nil_iff.2 fun x hx=>by simp[oP.2 (e3 x hx)]⟩)
    unfold NF at this
    rw[hok]at this;cases this
   | some d=>
    obtain⟨n1,n2⟩:=QE hn
    exact UD hac k (O++[(d:Int)]) (a5p h n1 n2) (by simp;omega) (by simp;omega)
  ·rw[if_neg hq];exact⟨O,rfl,h,by omega⟩
theorem IK {s:A8} (hs:SmS s) (hac:∀d,0≤d→d<nD s→d∉U3 s d):a3I s (kJ s).1∧∀d,0≤d→d<nD s→d∈(kJ s).1:=by
 have hnd:=hs.nd
 obtain⟨O,h1,h2,h3⟩:=UD hac 100 [] ⟨by simp,by simp,fun pre d suf h=>by simp at h⟩ (by simp) (by simp;omega)
 have e:(kJ s).1=O:=by unfold kJ;rw[h1]
 rw[e]
 refine⟨h2,fun d d0 d1=>?_⟩
 refine Classical.byContradiction fun hn=>?_
 have:=LG (l:=d::O) (n:=s.2.2.2.1.length) (List.nodup_cons.2 ⟨hn,h2.1⟩) (fun x hx=>by
  rcases List.mem_cons.1 hx with rfl | hx
  ·exact⟨d0,d1⟩
  ·exact h2.2.1 x hx)
 simp at this;omega
theorem Jc {l:L6} (h:(aP l).1=0) {i:Nat} {s:A8} (hs:l.2.2[i]? =some s):∀d,0≤d→d<nD s→d∉U3 s d:=by
 intro d d0 d1 hd
 have hp:=(MP h hs).2
 unfold LK at hp
 cases h1:yu l s with
 | some q=>rw[h1]at hp;exact absurd hp (Fb h1)
 | none=>
  rw[h1]at hp
  simp only at hp
  cases h2:P9 s.2.2.2.2.length (CW l s)with
  | some q=>
   rw[h2]at hp
   obtain⟨j,hj,hq⟩:=aW h2
   unfold CW at hq
   cases h3:s.2.2.2.2[j]? with
   | none=>rw[h3]at hq;cases hq
   | some q2=>rw[h3]at hq;exact absurd hp (Cb hq)
  | none=>
   rw[h2]at hp
   simp only at hp
   have key:Ou s d.toNat=some (9,((200+d.toNat:Nat):Int)):=by
    unfold Ou
    rw[show((U3 s d.toNat).any fun x=>ieq (d.toNat:Int) x)=true from ?_];rfl
    rw[Int.toNat_of_nonneg d0]
    exact List.any_eq_true.2 ⟨d,hd,F5 rfl⟩
   cases h3:P9 s.2.2.2.1.length (Ou s)with
   | none=>
    have:=uI h3 d.toNat (by unfold nD o8 at d1;omega)
    rw[key]at this;cases this
   | some q=>
    rw[h3]at hp
    obtain⟨j,hj,hq⟩:=aW h3
    unfold Ou at hq
    cases h4:(U3 s (j:Int)).any fun x=>ieq (j:Int) x <;> rw[h4]at hq
    ·cases hq
    ·cases hq;exact absurd (show(9:Int)=0 from hp) (by decide)
theorem Ue {α β ρ:Type} (G:β→α→β⊕ρ):∀(l m:List α) (b:β),U0 G (l++m) b=match U0 G l b with | .inl b' =>U0 G m b' | .inr r=> .inr r
 | [],m,b=>rfl
 | a::l,m,b=>by
  rw[List.cons_append]
  simp only[U0]
  cases G b a with
  | inl b' =>exact Ue G l m b'
  | inr r=>rfl
theorem lY {α:Type} {l:List α} {d x:Int} (v:α) (h0:0≤d) (h:x≠d):lat (l.set d.toNat v) x=lat l x:=by
 unfold lat
 split
 ·rw[List.getElem?_set_ne (by omega)]
 ·rfl
theorem zC {α:Type} {l:List α} {d:Int} (v:α) (h0:0≤d) (h:d<o8 l):lat (l.set d.toNat v) d=some v:=by
 unfold lat
 rw[if_pos h0,List.getElem?_set_self (by unfold o8 at h;omega)]
theorem Rx {s:A8} {env:P5} {m:Int} {need:List Bool} {x:Int} :∀(L:List Int) {B X:DB},(∀d∈L,0≤d)→x∉L→U0 (scG s env m need) L B= .inl X→lat X.1 x=lat B.1 x∧lat X.2 x=lat B.2 x
 | [],B,X,_,_,h=>by cases h;exact⟨rfl,rfl⟩
 | d::L,B,X,hL,hx,h=>by
  unfold U0 at h
  cases hg:scG s env m need B d with
  | inr e=>rw[hg]at h;cases h
  | inl B' =>
   rw[hg]at h
   obtain⟨k1,k2⟩:=Rx L (fun y hy=>hL y (by simp[hy])) (fun hm:x∈L=>hx (List.mem_cons_of_mem _ hm)) h
   have hd:x≠d:=fun e=>hx (by simp[e])
   unfold scG at hg
   cases h1:(lat need d).getD false <;> rw[h1]at hg
   ·cases hg;exact⟨k1,k2⟩
   simp only[o6]at hg
   cases h2:Bq s (qU env B.1) m d with
   | inr e=>rw[h2]at hg;cases hg
   | inl v=>
    rw[h2]at hg;cases hg
    rw[k1,k2,lY _ (hL d (by simp)) hd,lY _ (hL d (by simp)) hd];exact⟨rfl,rfl⟩
theorem b1y {s:A8} {env:P5} {m:Int} {need:List Bool} {n:Nat} (L:List Int) {B X:DB} (hB:B.1.length=n∧B.2.length=n) (h:U0 (scG s env m need) L B= .inl X):X.1.length=n∧X.2.length=n:=by
 refine GG (scG s env m need) (fun x=>x.1.length=n∧x.2.length=n) (fun b d b' hb hg=>?_) _ _ _ hB h
 unfold scG at hg
 cases h1:(lat need d).getD false <;> rw[h1]at hg
 ·cases hg;exact hb
 simp only[o6]at hg
 cases hd:Bq s (qU env b.1) m d with
 | inr e=>rw[hd]at hg;cases hg
 | inl v=>rw[hd]at hg;cases hg;simp[hb]
theorem Du {l:L6} (h:(aP l).1=0) {i:Nat} {s:A8} (hs:l.2.2[i]? =some s) (d:Int):SA s (fun x=>x∈H9 s d) (fun x=>0≤x∧x<nD (G9 l s)) d:=by
 intro r hr hd e he
 obtain⟨p1,p2⟩:=zh h hs hr he
 refine⟨fun x hx=>?_,p2⟩
 obtain⟨q,hq,_⟩:=(Oi h hs hr).2
 obtain⟨q0,q1,_⟩:=V5 hq
 have hin:inD (nD s) d=true:=by
  rw[←hd];unfold inD;rw[H5 q0];exact F7 q1
 unfold H9
 rw[hin]
 refine(qY _ _).2 (a6z.2 ⟨r,hr,hd,?_⟩)
 obtain⟨x0,x1⟩:=p1 x hx
 have hxi:inD (nD s) x=true:=by unfold inD;rw[H5 x0];exact F7 x1
 unfold xC
 rcases he with rfl | rfl
 ·exact List.mem_append.2 (.inl (List.mem_filter.2 ⟨hx,hxi⟩))
 ·exact List.mem_append.2 (.inr (List.mem_filter.2 ⟨hx,hxi⟩))
theorem ZC {s:A8} {env:P5} {m:Int} {need:List Bool} {X:DB} {Q:Int→Prop} (hE:EvOk env) (ht:a3I s (kJ s).1) (hX:scS s env m need= .inl X) {d:Int} (hd:d∈(kJ s).1) (hn:(lat need d).getD false=true) (hr:SA s (fun x=>x∈H9 s d) Q d):
  ∃v r,lat X.1 d=some v∧lat X.2 d=some r∧Bq s (qU env X.1) m d= .inl (v,r):=by
 obtain⟨pre,suf,he⟩:=List.append_of_mem hd
 have hlen:=Be hX
 unfold scS at hX
 rw[he,Ue]at hX
 cases hB:U0 (scG s env m need) pre (List.replicate s.2.2.2.1.length (0,0,0),List.replicate s.2.2.2.1.length 0)with
 | inr r=>rw[hB]at hX;cases hX
 | inl B=>
  rw[hB]at hX
  simp only at hX
  have hBl:=b1y (n:=s.2.2.2.1.length) pre (by simp) hB
  unfold U0 at hX
  cases hg:scG s env m need B d with
  | inr r=>rw[hg]at hX;cases hX
  | inl B' =>
   rw[hg]at hX
   simp only at hX
   obtain⟨d0,d1⟩:=ht.2.1 d hd
   have hnd:=ht.1
   rw[he]at hnd
   obtain⟨n1,n2,n3⟩:=List.nodup_append.1 hnd
   obtain⟨n4,n5⟩:=List.nodup_cons.1 n2
   have hpos:∀y∈suf,0≤y:=fun y hy=>(ht.2.1 y (by rw[he];simp[hy])).1
   unfold scG at hg
   rw[hn]at hg
   simp only[o6]at hg
   cases hv:Bq s (qU env B.1) m d with
   | inr e=>rw[hv]at hg;cases hg
   | inl v=>
    rw[hv]at hg
    cases hg
    obtain⟨k1,k2⟩:=Rx (x:=d) suf hpos n4 hX
    rw[zC _ d0 (by unfold nD at d1;unfold o8 at d1 ⊢;omega)]at k1 k2
    refine⟨v.1,v.2,k1,k2,?_⟩
    rw[←hv]
    refine Xg (a:=qU env X.1) (b:=qU env B.1) (P:=fun x=>x∈H9 s d) (Q:=Q) ⟨rfl,rfl,rfl,by show X.1.length=B.1.length;omega,fun x hx=>?_,rfl,fun _ _=>rfl⟩ (rQ hE _) (rQ hE _) hr m
    have hxp:=ht.2.2 pre d suf he x hx
    have hxs:x∉suf:=fun hy=>n3 x hxp x (by simp[hy]) rfl
    have hxd:x≠d:=fun hy=>n3 x hxp d (by simp) hy
    have:=(Rx (x:=x) suf hpos hxs hX).1
    rw[lY _ d0 hxd]at this
    exact this
structure SimE (Q:Int→Prop) (a b:P5):Prop where
 e1:a.1=b.1
 e2:a.2.1=b.2.1
 e3:a.2.2.2.2=b.2.2.2.2
 ml:a.2.2.2.1.length=b.2.2.2.1.length
 m:∀x,Q x→a.2.2.2.1.map (fun v=>lat v x)=b.2.2.2.1.map (fun v=>lat v x)
theorem SimE.at {P Q:Int→Prop} {a b:P5} (h:SimE Q a b) {D D' :List V3} (hl:D.length=D'.length) (hd:∀x,P x→lat D x=lat D' x):Sim P Q (qU a D) (qU b D'):=⟨h.e1,h.e2,h.e3,hl,hd,h.ml,h.m⟩
abbrev ND (w:List Bool) (x:Int):Prop:=(lat w x).getD false=true
structure DInv (n:Nat) (need:List Bool) (B B' :DB):Prop where
 l1:B.1.length=n∧B.2.length=n
 l2:B'.1.length=n∧B'.2.length=n
 eq:∀x,ND need x→lat B.1 x=lat B'.1 x∧lat B.2 x=lat B'.2 x
structure MInv (need:List Bool) (b b' :List DB):Prop where
 l:b.length=b'.length
 eq:∀x,ND need x→b.map (fun v=>lat v.1 x)=b'.map (fun v=>lat v.1 x)
def Dj (s:A8) (w:List Bool):Prop:=∀d,mk w d=true→∀x∈H9 s d,mk w x=true
structure NI (l:L6) (s:A8) (B:BB):Prop where
 ok:BOk s (G9 l s) B
 c1:Dj s B.1
 c2:Dj (G9 l s) B.2
 hr:∀e,mk B.1 e=true→SA s (fun x=>x∈H9 s e) (fun x=>mk B.2 x=true) e
structure Grows (B C:BB):Prop where
 g1:∀x,mk B.1 x=true→mk C.1 x=true
 g2:∀x,mk B.2 x=true→mk C.2 x=true
theorem Grows.refl (B:BB):Grows B B:=⟨fun _ h=>h,fun _ h=>h⟩
theorem Grows.trans {A B C:BB} (h:Grows A B) (k:Grows B C):Grows A C:=⟨fun x hx=>k.g1 x (h.g1 x hx),fun x hx=>k.g2 x (h.g2 x hx)⟩
theorem Xf {s:A8} {env:P5} {m d:Int} {v:V3} {r:Int} (h:Bq s env m d= .inl (v,r)):P8 s env m d=(r,0,0,0,0)∧r∈(W9 s d env.1).1∧∃q,lat s.2.2.2.2 r=some q∧qM q.2.2.2.2.2.2.1 env=(v,0):=by
 unfold Bq at h
 cases h0:ieq (P8 s env m d).2.1 0 <;> rw[h0]at h
 ·cases h
 cases h1:ieq (P8 s env m d).1 (-1) <;> rw[h1]at h
 case true=>cases h
 cases h2:ieq (P8 s env m d).1 (-2) <;> rw[h2]at h
 case true=>cases h
 simp only[o6,o5]at h
 cases hl:lat s.2.2.2.2 (P8 s env m d).1 with
 | none=>rw[hl]at h;cases h
 | some q=>
  rw[hl]at h
  simp only at h
  cases h4:ieq (qM q.2.2.2.2.2.2.1 env).2 0 <;> rw[h4]at h
  ·cases h
  cases h
  have hin:=TU (P6.1 h0) (fun e=>by rw[F5 e]at h1;cases h1) (fun e=>by rw[F5 e]at h2;cases h2)
  refine⟨?_,hin,q,hl,Prod.ext rfl (P6.1 h4)⟩
  rcases MV s env m d with⟨g1,g2⟩ | ⟨g1,g2⟩
  ·exact g2
  ·exact absurd (P6.1 h0) g1
theorem RY {n:Nat} {d:Int} (d0:0≤d) (d1:d<(n:Int)):(lat (ah n) d).getD false=true:=by
 unfold lat ah
 rw[if_pos d0,List.getElem?_replicate,if_pos (by omega)];rfl
def PVV (en:List bK) (t:Int×Int) (v:V3):Prop:=v.1=t.1∧v.2.1=t.2∧plB v=true∧(v.1=6→inB v.2.2 (bnd t en)=true)
def MKq (en:List bK) (t:Int×Int) (o:Option (V3×Int)):Prop:=∀v,o=some (v,0)→PVV en t v
section
variable {en:List bK} {t:Int×Int}
theorem e1z {z:V3} {c:Int} (h:c≠0):MKq en t (some (z,c)):=fun v e=>by cases e;exact absurd rfl h
theorem e1K {k n:Int} (hk:k≠6):MKq en (k,0) (some (zZ (k,0,n))):=fun v e=>by
 unfold zZ at e
 cases h:plB (k,0,n) <;> rw[h]at e
 ·cases e
 ·cases e;exact⟨rfl,rfl,h,fun q=>absurd q hk⟩
theorem e1V {k n:Int} (hk:k≠6):MKq en (k,0) (U7 k n):=by rw[J6];exact e1K hk
theorem e2O {k n c:Int} (hk:k≠6):MKq en (k,0) (jk k n c):=by
 rw[J7]
 unfold Sv
 cases h:ieq c 0
 ·exact e1z (fun q=>by rw[F5 q]at h;cases h)
 ·exact e1K hk
theorem e2g {k n c:Int} (hk:k≠6):MKq en (k,0) (some (Sv (k,0,n) c)):=by rw[←J7];exact e2O hk
theorem e2m (b:Bool):MKq en (1,0) (some (d5J b)):=by rw[←I5];exact e1K (by decide)
theorem e1U {α:Type} {o:Option α} {f:α→Option (V3×Int)} (h:∀x,o=some x→MKq en t (f x)):MKq en t (l9 o f):=by
 cases o with
 | none=>intro v e;cases e
 | some x=>exact h x rfl
theorem e2k {o:Option (V3×Int)} (h:MKq en t o):MKq en t (l9 o fun x=>some x):=by rw[X7];exact h
theorem e3r {v:V3} (h:PVV en t v):MKq en t (some (v,0)):=fun w e=>by cases e;exact h
theorem e2l {b:Bool} {x y:Option (V3×Int)} (h1:b=true→MKq en t x) (h2:b=false→MKq en t y):MKq en t (l7 b x y):=by
 cases b
 ·exact h2 rfl
 ·exact h1 rfl
theorem e2f {a b c:Int} (hk:a≠6):MKq en (a,0) (nP a b c):=by
 unfold nP
 repeat' first
  | exact e1z (by decide)
  | exact e1V hk
  | exact e2k (e1V hk)
  | (apply e1U;intro x hx)
  | (apply e2l <;> intro hx)
end
theorem e2D {k N:Int} {args:List V3} {env:P5} {v:V3} (hE:EvOk env) (hN:I64 N) (hk:k≠23∧k≠24∧k≠26) (ha:arF k=o8 args) (hl:args.length≤3) (h:uz (k,N) args env=(v,0)):RP (k,N) args env=some (v,0)∧args.all plB=true∧uh (k,N) env=some true:=by
 unfold uz iV at h
 rw[a4c ha]at h
 simp only[o7]at h
 cases hf:ZE k N <;> rw[hf]at h
 ·exact absurd (congrArg Prod.snd h) (by show(2:Int)≠0;decide)
 simp only[o9,o5]at h
 obtain⟨b,hb⟩:=Xr (k,N) env
 rw[show uh (k,N) env=some b from hb]at h ⊢
 cases b
 ·exact absurd (congrArg Prod.snd h) (by show(6:Int)≠0;decide)
 simp only[o7,o9,o5]at h
 rw[a4K args (by omega)]at h
 cases hp:args.all plB <;> rw[hp]at h
 ·exact absurd (congrArg Prod.snd h) (by show(8:Int)≠0;decide)
 obtain⟨r,hr,_⟩:=b9W k N args env hE (by unfold I64 at hN;omega) hk ha hf hb hp
 have h:(RP (k,N) args env).getD ((0,0,0),0)=(v,0):=h
 rw[hr]at h
 exact⟨by rw[hr];exact congrArg some h,rfl,rfl⟩
theorem e2R {k N:Int} {ops:List (Int×Int)} {sg:I8} {ty:Int×Int} (hk:az k=some false) (h:MB (k,N) ops sg=(ty,0)):N=0∧(RR (k,0) ops sg).getD ((0,0),0)=(ty,0):=by
 unfold MB at h
 rw[b9Q]at h
 cases hz:ieq N 0
 ·rw[show D6 (ieq (k,N).2 0)=true by rw[show(k,N).2=N from rfl,hz];rfl,show az (k,N).1=some false from hk]at h
  exact absurd (congrArg Prod.snd h) (by show(2:Int)≠0;decide)
 ·rw[P6]at hz;subst hz;exact⟨rfl,h⟩
theorem e2z {en:List bK} {t:Int×Int} {v:V3} (h:PVV en t v):v=(t.1,t.2,v.2.2):=Prod.ext h.1 (Prod.ext h.2.1 rfl)
theorem lp2 (a b:Int×Int):o8 [a,b]=2:=rfl
theorem lq0 (a:Int×Int) (l:List (Int×Int)):lat (a::l) 0=some a:=rfl
theorem lq1 (a b:Int×Int) (l:List (Int×Int)):lat (a::b::l) 1=some b:=rfl
theorem e3O (b:Bool):aH true b=b:=rfl
theorem e3I {k N:Int} {sg:I8} {env:P5} {a b ty:Int×Int} {x y v:V3} (hk:k=11∨k=12∨k=13∨k=17∨k=18∨k=19∨k=20∨k=21∨k=22∨k=27∨k=28∨k=29∨k=30) (ha:VT a) (hb:VT b) (hx:PVV sg.1 a x) (hy:PVV sg.1 b y) (ht:MB (k,N) [a,b] sg=(ty,0)) (h:RP (k,N) [x,y] env=some (v,0)):PVV sg.1 ty v:=by
 have hm:az k=some false:=by rcases hk with rfl | rfl | rfl | rfl | rfl | rfl | rfl | rfl | rfl | rfl | rfl | rfl | rfl <;> rfl
 obtain⟨hN,ht2⟩:=e2R hm ht
 clear ht
 subst hN
 have hx' :=e2z hx
 have hy' :=e2z hy
 generalize x.2.2=n at hx'
 generalize y.2.2=m at hy'
 have h:aK (k,0) x y=some (v,0):=by
  have e:RP (k,0) [x,y] env=l9 (aK (k,0) x y) fun x=>some x:=rfl
  rw[e,X7]at h;exact h
 subst hx' hy'
 rcases hk with rfl | rfl | rfl | rfl | rfl | rfl | rfl | rfl | rfl | rfl | rfl | rfl | rfl <;> rcases ha with rfl | rfl | rfl | rfl | rfl | ⟨e,rfl⟩ <;> rcases hb with rfl | rfl | rfl | rfl | rfl | ⟨f,rfl⟩ <;>
  first
  | exact absurd (congrArg Prod.snd ht2) (by show(8:Int)≠0;decide)
  | (
    have e:=congrArg Prod.fst ht2
    subst e
    first
    | refine(?_:MKq sg.1 (1,0) _) v h
    | refine(?_:MKq sg.1 (2,0) _) v h
    | refine(?_:MKq sg.1 (3,0) _) v h
    | refine(?_:MKq sg.1 (4,0) _) v h
    | refine(?_:MKq sg.1 (5,0) _) v h
    unfold aK ji qw pI vC
    simp (disch:=decide) only[F5,E5,H5,H7,F7,E9,o6,o5,o7,C9,H8,o9,D9,ll0,ll1,ll2,ll3,la0,la1,la2,J6,J7,D5,D7,G7,L9,H6,I7,I5]
    repeat' first
     | exact e1K (by decide)
     | exact e2g (by decide)
     | exact e2m _
     | exact e3r hx
     | exact e3r hy
     | exact e1z (by decide)
     | exact e2k (e2f (by decide))
     | exact e2f (by decide)
     | refine e2k ?_
     | rw[Bc]
     | (apply e1U;intro z hz)
     | (apply e2l <;> intro hz)
     | simp (disch:=decide) only[F5,E5,H5,H7,F7,E9,o6,o5,o7,C9,H8,o9,D9,ll0,ll1,ll2,ll3,la0,la1,la2,J6,J7,D5,D7,G7,L9,H6,I7,I5])
  | (
    cases hq:ieq e f <;> unfold RR qm jW lN qo kL bD at ht2 <;>
    simp (disch:=decide) only[F5,E5,o6,o5,o7,C9,H8,o9,D9,lp2,lq0,lq1,e3O,hq,Option.getD_some]at ht2 <;>
    first
    | exact absurd (congrArg Prod.snd ht2) (by show(8:Int)≠0;decide)
    | (
      have e:=congrArg Prod.fst ht2
      subst e
      refine(?_:MKq sg.1 (1,0) _) v h
      unfold aK ji
      simp (disch:=decide) only[F5,E5,H5,H7,F7,E9,o6,o5,o7,C9,H8,o9,D9,ll0,ll1,ll2,ll3,la0,la1,la2,J6,J7,D5,D7,G7,L9,H6,I7,I5]
      simp only[hq,o6,o5,o9,o7,C9,H8]
      exact e2m _))
def PVW (en:List bK) (t:Int×Int) (v:V3):Prop:=v.1=t.1∧v.2.1=t.2∧(v.1=6→inB v.2.2 (bnd t en)=true)
theorem PVW.pl {en:List bK} {t:Int×Int} {v:V3} (h:PVW en t v) (hp:plB v=true):PVV en t v:=⟨h.1,h.2.1,hp,h.2.2⟩
structure TOk (sg:I8) (env:P5):Prop where
 inp:∀i t v,lat sg.2.2.1 i=some t→lat env.2.1 i=some v→PVW sg.1 t v
 dfs:∀i t v,lat sg.2.2.2.1 i=some t→lat env.2.2.1 i=some v→v.1≠0→PVW sg.1 t v
 mty:∀i t u,lat sg.2.2.2.2.1 i=some t→lat env.2.2.2.2.1 i=some u→u=t
 tbs:env.2.2.2.2.2=sg.2.1
 row:∀t∈sg.2.1,∀r∈t.2.2.2,inB r.2.2.2 (bnd t.2.2.1 sg.1)=true
theorem e2G {k N:Int} {ops:List (Int×Int)} {sg:I8} {ty:Int×Int} (hN:I64 N) (hv:∀t∈ops,VT t) (hl:o8 ops=arF k) (h:MB (k,N) ops sg=(ty,0)):RR (k,N) ops sg=some (ty,0)∧VT ty:=by
 obtain⟨r,h1,h2,h3⟩:=VA sg (k,N) hN ops hv hl
 have e:r=(ty,0):=by unfold MB at h;rw[h1]at h;exact h
 subst e
 refine⟨?_,h3 rfl⟩
 rw[b9Q]at h1
 cases hz:D6 (ieq (k,N).2 0) <;> rw[hz]at h1
 ·exact h1
 ·cases hm:az (k,N).1 with
  | none=>rw[hm]at h1;cases h1
  | some b=>
   rw[hm]at h1
   cases b
   ·cases h1
   ·exact h1
theorem e2p {k N:Int} {ops:List (Int×Int)} {sg:I8} {ty:Int×Int} (h:RR (k,N) ops sg=some (ty,0)):lN (k,N) sg=some true∧(ops=[]→eU (k,N) sg=some (ty,true))∧∀a,ops=[a]→mF (k,N) a sg=some (ty,true):=by
 unfold RR at h
 cases h1:jW (k,N) sg with
 | none=>rw[h1]at h;cases h
 | some b=>
  rw[h1]at h
  cases b
  ·cases h
  cases h2:lN (k,N) sg with
  | none=>rw[h2]at h;cases h
  | some b=>
   rw[h2]at h
   cases b
   ·cases h
   refine⟨rfl,fun e=>?_,fun a e=>?_⟩
   ·subst e
    cases h3:eU (k,N) sg with
    | none=>rw[h3]at h;cases h
    | some x=>
     rw[h3]at h
     obtain⟨x,b⟩:=x
     cases b <;> cases h;rfl
   ·subst e
    simp (disch:=decide) only[o7,o9,o5,o6,show o8 [a]=1 from rfl,F5,E5,lq0]at h
    cases h3:mF (k,N) a sg with
    | none=>rw[h3]at h;cases h
    | some x=>
     rw[h3]at h
     obtain⟨x,b⟩:=x
     cases b <;> cases h;rfl
theorem e2M {α:Type} {l:List α} {i:Int} {b:Bool} (h:(l7 (ile 0 i) (some (ilt i (o8 l))) (some false))=some true):∃x,lat l i=some x∧0≤i:=by
 cases h1:ile 0 i <;> rw[h1]at h
 ·cases h
 ·obtain⟨x,hx,_⟩:=ed (l:=l) (jv.1 h1) (dZ.1 (Option.some.inj h))
  exact⟨x,hx,jv.1 h1⟩
theorem e4h {k:Int} {t:Int×Int} (hk:k=36∨k=37∨k=38∨k=39) (h:IB k t=true):t.2=0∧t.1≠6:=by
 unfold IB at h
 cases h1:ieq t.2 0 <;> rw[h1]at h
 ·cases h
 refine⟨P6.1 h1,fun e=>?_⟩
 rw[e]at h
 rcases hk with rfl | rfl | rfl | rfl <;> exact absurd h (by decide)
theorem e3J {k N:Int} {sg:I8} {env:P5} {ty:Int×Int} (hk:k=36∨k=37∨k=38∨k=39) (hE:EvOk env) (hS:TOk sg env) (hf:uh (k,N) env=some true) (hg:lN (k,N) sg=some true) (hl:eU (k,N) sg=some (ty,true)):MKq sg.1 ty (iW (k,N) env):=by
 have hf:(l7 (ile 0 N) (some (ilt N (o8 env.2.2.2.2.1))) (some false))=some true:=by rcases hk with rfl | rfl | rfl | rfl <;> exact hf
 obtain⟨u,hu,h0⟩:=e2M (b:=true) hf
 have hg2:(l7 sg.2.2.2.2.2 (l7 (ile 0 N) (some (ilt N (o8 sg.2.2.2.2.1))) (some false)) (some false))=some true:=by rcases hk with rfl | rfl | rfl | rfl <;> exact hg
 cases hb:sg.2.2.2.2.2 <;> rw[hb]at hg2
 ·cases hg2
 obtain⟨t,ht,_⟩:=e2M (b:=true) hg2
 have e:=hS.mty N t u ht hu
 subst e
 rw[FM k N env u hu h0 hE.ms]
 have hty:ty=u:=by
  unfold eU at hl
  rcases hk with rfl | rfl | rfl | rfl <;>
   (simp (disch:=decide) only[F5,E5,o6,o5,o7,ht,bI,kL,qo]at hl
    revert hl
    cases vty u sg.1 <;> intro hl <;> first | exact(congrArg Prod.fst (Option.some.inj hl)).symm | (revert hl;cases ieq u.1 2 <;> cases ieq u.1 3 <;> cases ieq u.1 4 <;> intro hl <;> exact(congrArg Prod.fst (Option.some.inj hl)).symm))
 subst hty
 unfold XO
 cases hm:IB k ty
 ·exact e1z (by decide)
 obtain⟨m1,m2⟩:=e4h hk hm
 have hty2:ty=(ty.1,0):=Prod.ext rfl m1
 simp only[o6]
 rw[hty2]
 simp only
 cases hq:U0 (Aa k N (ty.1,0)) env.2.2.2.1 (l7 (ieq k 37) 1 0,true)with
 | inr c=>
  refine fun v e=>absurd (congrArg Prod.snd (Option.some.inj e)) (gY (Aa k N (ty.1,0)) (fun(r:V3×Int)=>r.2≠0) (fun b m r h=>?_) _ _ _ hq)
  unfold Aa at h
  cases h1:Vy m N (ty.1,0)with
  | inr c=>
   rw[h1]at h
   cases h
   unfold Vy at h1
   cases h2:lat m N with
   | none=>rw[h2]at h1;cases h1;show(6:Int)≠0;decide
   | some x=>
    rw[h2]at h1
    simp only at h1
    cases h3:ieq x.1 0 <;> rw[h3]at h1
    ·cases h4:Lc x (ty.1,0) <;> rw[h4]at h1 <;> cases h1
     show(8:Int)≠0;decide
    ·cases h1;show(6:Int)≠0;decide
  | inl x=>
   rw[h1]at h
   simp only at h
   cases h2:plB ((ty.1,0).1,0,zY k b.1 x.2.2 b.2) <;> rw[h2]at h <;> cases h
   show(3:Int)≠0;decide
 | inl a=>
  simp only
  cases ieq k 39
  ·exact e1K m2
  ·cases ieq (o8 env.2.2.2.1) 0
   ·exact e1K m2
   ·exact e1z (by decide)
theorem e1R {k c:Int} (hc:0≤c) (h:arF k=c):1≤k∧k≤39:=by
 refine Classical.byContradiction fun hn=>?_
 have:arF k=-1:=by unfold arF;rw[a2O hn];rfl
 omega
theorem e3j {q:Int} {en:List bK} {x:bK} (hv:vty (6,q) en=true) (hx:lat en q=some x):bnd (6,q) en=(0,G8 .i64 (o8 x.2) 1):=by
 unfold bnd fU
 rw[bI,o7,hv]
 simp (disch:=decide) only[E5,o9,o5,hx,o7,Option.getD_some]
theorem e3q {k N:Int} {sg:I8} {ty:Int×Int} (hk:k=1∨k=2∨k=3∨k=4∨k=5) (h:eU (k,N) sg=some (ty,true)):ty=(k,0):=by
 have e:eU (k,N) sg=some ((k,0),vty (k,0) sg.1):=by
  unfold eU
  simp only[bI]
  rcases hk with rfl | rfl | rfl | rfl | rfl <;> rfl
 rw[e]at h
 exact(congrArg Prod.fst (Option.some.inj h)).symm
theorem e3o {α:Type} (l:List α) (h:l.length≤4611686018427387904):G8 .i64 (o8 l) 1=o8 l -1:=J4 (by unfold I64 o8;omega)
theorem e3d {k N:Int} {sg:I8} {env:P5} {ty:Int×Int} {v:V3} (hE:EvOk env) (hN:I64 N) (hS:TOk sg env) (hL:∀e∈sg.1,e.2.length≤1000000) (ha:arF k=0) (ht:MB (k,N) [] sg=(ty,0)) (h:uz (k,N) [] env=(v,0)):PVV sg.1 ty v:=by
 obtain⟨hRR,hvt⟩:=e2G hN (by simp) (by rw[ha];rfl) ht
 obtain⟨hg,hl,_⟩:=e2p hRR
 have hl:=hl rfl
 have hr:=e1R (by decide) ha
 have hk3:k≠23∧k≠24∧k≠26:=by refine⟨?_,?_,?_⟩ <;> (rintro rfl;exact absurd ha (by decide))
 obtain⟨hP,_,hf⟩:=e2D hE hN hk3 (by rw[ha];rfl) (by simp) h
 have hc:k=1∨k=2∨k=3∨k=4∨k=5∨k=6∨k=7∨k=8∨k=9∨k=35∨k=36∨k=37∨k=38∨k=39:=by
  refine Classical.byContradiction fun hn=>?_
  have:k=10∨k=11∨k=12∨k=13∨k=14∨k=15∨k=16∨k=17∨k=18∨k=19∨k=20∨k=21∨k=22∨k=23∨k=24∨k=25∨k=26∨k=27∨k=28∨k=29∨k=30∨k=31∨k=32∨k=33∨k=34:=by omega
  rcases this with rfl | rfl | rfl | rfl | rfl | rfl | rfl | rfl | rfl | rfl | rfl | rfl | rfl | rfl | rfl | rfl | rfl | rfl | rfl | rfl | rfl | rfl | rfl | rfl | rfl <;> exact absurd ha (by decide)
 have hlit:k≤35→aA (k,N) env=some (v,0):=fun hk=>by
  have e:RP (k,N) [] env=l9 (aA (k,N) env) fun x=>some x:=by
   unfold RP
   rw[H7 (show(k,N).1<36 by show k<36;omega)];rfl
  rw[e,X7]at hP;exact hP
 by_cases hm:36≤k
 ·have hk:k=36∨k=37∨k=38∨k=39:=by omega
  have e:RP (k,N) [] env=l9 (iW (k,N) env) fun x=>some x:=by rcases hk with rfl | rfl | rfl | rfl <;> rfl
  rw[e,X7]at hP
  exact e3J hk hE hS hf hg hl v hP
 have hP:=hlit (by omega)
 by_cases h5:k≤5
 ·have hk:k=1∨k=2∨k=3∨k=4∨k=5:=by omega
  rw[e3q hk hl]
  refine(?_:MKq sg.1 (k,0) _) v hP
  have e:aA (k,N) env=l9 (U7 k N) fun x=>some x:=by rcases hk with rfl | rfl | rfl | rfl | rfl <;> rfl
  rw[e,X7]
  exact e1V (by omega)
 have hc:k=6∨k=7∨k=8∨k=9∨k=35:=by omega
 rcases hc with rfl | rfl | rfl | rfl | rfl
 ·have e1:eU (6,N) sg=some ((6,X4 .i64 N 16),vty (6,X4 .i64 N 16) sg.1):=by
   unfold eU
   simp only[bI];rfl
  rw[e1]at hl
  have hv:=congrArg Prod.snd (Option.some.inj hl)
  have hty:=(congrArg Prod.fst (Option.some.inj hl)).symm
  simp only at hv hty
  subst hty
  have hg:l7 (ilt (X4 .i64 N 16) (o8 sg.1)) (l9 (lat sg.1 (X4 .i64 N 16)) fun(x:bK)=>some (ilt (X5 N 16) (o8 x.2))) (some false)=some true:=hg
  cases g1:ilt (X4 .i64 N 16) (o8 sg.1) <;> rw[g1]at hg
  ·cases hg
  cases g2:lat sg.1 (X4 .i64 N 16)with
  | none=>rw[g2]at hg;cases hg
  | some x=>
   rw[g2]at hg
   have hlt:=dZ.1 (Option.some.inj hg)
   unfold aA at hP
   simp (disch:=decide) only[F5,E5,o6,o5,D5,o7]at hP
   cases g3:plB (6,X4 .i64 N 16,X5 N 16) <;> rw[g3]at hP
   ·cases hP
   ·cases hP
    refine⟨rfl,rfl,g3,fun _=>?_⟩
    have hx:=hL x (V5 g2).2.2.1
    rw[e3j hv g2,e3o x.2 (by omega)]
    have g4:=a0g g3
    have g5:0≤X5 N 16:=by
     unfold plB at g3
     cases g6:ile (zq 6).1 (X5 N 16)
     ·rw[show(6,X4 .i64 N 16,X5 N 16).1=(6:Int)from rfl,show(6,X4 .i64 N 16,X5 N 16).2.2=X5 N 16 from rfl,g6]at g3;cases g3
     ·exact jv.1 g6
    unfold inB
    rw[H5 g5,o6]
    exact H5 (show X5 N 16≤o8 x.2 -1 by omega)
 ·have e1:eU (7,N) sg=l9 (lat sg.2.2.1 N) fun x=>some (x,vty x sg.1):=by
   unfold eU
   simp only[bI]
   cases lat sg.2.2.1 N <;> rfl
  rw[e1]at hl
  cases g1:lat sg.2.2.1 N with
  | none=>rw[g1]at hl;cases hl
  | some x=>
   rw[g1]at hl
   have hty:=(congrArg Prod.fst (Option.some.inj hl))
   simp only at hty
   subst hty
   unfold aA at hP
   simp (disch:=decide) only[F5,E5,o6,o5]at hP
   cases g2:lat env.2.1 N with
   | none=>rw[g2]at hP;cases hP
   | some w=>
    rw[g2]at hP
    simp only[o7,D5]at hP
    cases g3:plB w <;> rw[g3]at hP
    ·cases hP
    ·cases hP;exact(hS.inp N _ _ g1 g2).pl g3
 ·have e1:eU (8,N) sg=l9 (lat sg.2.2.2.1 N) fun x=>some (x,vty x sg.1):=by
   unfold eU
   simp only[bI]
   cases lat sg.2.2.2.1 N <;> rfl
  rw[e1]at hl
  cases g1:lat sg.2.2.2.1 N with
  | none=>rw[g1]at hl;cases hl
  | some x=>
   rw[g1]at hl
   have hty:=(congrArg Prod.fst (Option.some.inj hl))
   simp only at hty
   subst hty
   unfold aA at hP
   simp (disch:=decide) only[F5,E5,o6,o5]at hP
   have hf:l7 (ile 0 N) (l7 (ilt N (o8 env.2.2.1)) (l9 (lat env.2.2.1 N) fun(x:V3)=>some (D6 (ieq x.1 0))) (some false)) (some false)=some true:=hf
   cases g2:lat env.2.2.1 N with
   | none=>rw[g2]at hP;cases hP
   | some w=>
    rw[g2]at hP hf
    simp only[o7,D5]at hP hf
    cases g3:plB w <;> rw[g3]at hP
    ·cases hP
    ·cases hP
     refine(hS.dfs N _ _ g1 g2 (fun e=>?_)).pl g3
     rw[F5 e]at hf
     cases g4:ile 0 N <;> rw[g4]at hf
     ·cases hf
     cases g5:ilt N (o8 env.2.2.1) <;> rw[g5]at hf <;> cases hf
 ·have e1:eU (9,N) sg=some ((5,0),vty (5,0) sg.1):=by
   unfold eU
   simp only[bI];rfl
  rw[e1]at hl
  have hty:=congrArg Prod.fst (Option.some.inj hl)
  simp only at hty
  subst hty
  refine(?_:MKq sg.1 (5,0) _) v hP
  have e:aA (9,N) env=l9 (U7 5 env.1) fun x=>some x:=rfl
  rw[e,X7];exact e1V (by decide)
 ·have e1:eU (35,N) sg=some ((2,0),vty (2,0) sg.1):=by
   unfold eU
   simp only[bI];rfl
  rw[e1]at hl
  have hty:=congrArg Prod.fst (Option.some.inj hl)
  simp only at hty
  subst hty
  refine(?_:MKq sg.1 (2,0) _) v hP
  have e:aA (35,N) env=l9 (U7 2 (o8 env.2.2.2.1)) fun x=>some x:=rfl
  rw[e,X7];exact e1V (by decide)
theorem e2N {en:List bK} {t:Int×Int} {α γ:Type} {o:Option γ} {g:γ→V3×Int} {f:α→Option (V3×Int)} (h:∀x,MKq en t (some (g x))):MKq en t (l9 (l9 o fun x=>some (Sum.inr (g x))) (fun q=>L8 q f fun r=>some r)):=by
 cases o with
 | none=>exact fun v e=>by cases e
 | some x=>exact h x
theorem e2c {k N:Int} {sg:I8} {env:P5} {a ty:Int×Int} {x v:V3} (hk:k=10∨k=25∨k=31∨k=32) (ha:VT a) (hx:PVV sg.1 a x) (ht:MB (k,N) [a] sg=(ty,0)) (h:RP (k,N) [x] env=some (v,0)):PVV sg.1 ty v:=by
 have hm:az k=some false:=by rcases hk with rfl | rfl | rfl | rfl <;> rfl
 obtain⟨hN,ht2⟩:=e2R hm ht
 clear ht
 subst hN
 have hx' :=e2z hx
 generalize x.2.2=n at hx'
 have h:fV (k,0) x env=some (v,0):=by
  have e:RP (k,0) [x] env=l9 (fV (k,0) x env) fun x=>some x:=rfl
  rw[e,X7]at h;exact h
 subst hx'
 rcases hk with rfl | rfl | rfl | rfl <;> rcases ha with rfl | rfl | rfl | rfl | rfl | ⟨e,rfl⟩ <;>
  first
  | exact absurd (congrArg Prod.snd ht2) (by show(8:Int)≠0;decide)
  | (
    have e:=congrArg Prod.fst ht2
    subst e
    first
    | refine(?_:MKq sg.1 (1,0) _) v h
    | refine(?_:MKq sg.1 (2,0) _) v h
    | refine(?_:MKq sg.1 (3,0) _) v h
    | refine(?_:MKq sg.1 (4,0) _) v h
    unfold fV vC
    simp (disch:=decide) only[F5,E5,H5,H7,F7,E9,o6,o5,o7,C9,H8,o9,D9,ll0,ll1,ll2,ll3,la0,la1,la2,J6,J7,D5,D7,G7,L9,H6,I7,I5]
    repeat' first
     | exact e1K (by decide)
     | exact e2m _
     | exact e1z (by decide)
     | refine e2k ?_
     | rw[Bc]
     | exact e2N fun _=>e1K (by decide)
     | simp (disch:=decide) only[F5,E5,H5,H7,F7,E9,o6,o5,o7,C9,H8,o9,D9,ll0,ll1,ll2,ll3,la0,la1,la2,J6,J7,D5,D7,G7,L9,H6,I7,I5])
theorem e3e {k N:Int} {sg:I8} {env:P5} {a b ty:Int×Int} {x y v:V3} (hk:k=14∨k=15∨k=16) (ha:VT a) (hb:VT b) (hx:PVV sg.1 a x) (hy:PVV sg.1 b y) (ht:RR (k,N) [a,b] sg=some (ty,0)) (h:RP (k,N) [x,y] env=some (v,0)):PVV sg.1 ty v:=by
 have hr:RR (k,N) [a,b] sg=l9 (l7 (ile 0 N) (some (ile N 5)) (some false)) fun x=>l7 (D6 x) (some ((0,0),3)) (l9 (qm k a b) fun x=>l7 (D6 x.2) (some ((0,0),8)) (some (x.1,0))):=by
  rcases hk with rfl | rfl | rfl <;> rfl
 rw[hr]at ht
 have ht2:((l9 (qm k a b) fun x=>l7 (D6 x.2) (some ((0,0),8)) (some (x.1,0))):Option ((Int×Int)×Int)).getD ((0,0),0)=(ty,0):=by
  cases h1:ile 0 N <;> rw[h1]at ht
  ·cases ht
  cases h2:ile N 5 <;> rw[h2]at ht
  ·cases ht
  simp only[o6,o7,o9,o5]at ht
  rw[ht];rfl
 clear ht hr
 have hx' :=e2z hx
 have hy' :=e2z hy
 generalize x.2.2=n at hx'
 generalize y.2.2=m at hy'
 have h:aK (k,N) x y=some (v,0):=by
  have e:RP (k,N) [x,y] env=l9 (aK (k,N) x y) fun x=>some x:=rfl
  rw[e,X7]at h;exact h
 subst hx' hy'
 rcases hk with rfl | rfl | rfl <;> rcases ha with rfl | rfl | rfl | rfl | rfl | ⟨e,rfl⟩ <;> rcases hb with rfl | rfl | rfl | rfl | rfl | ⟨f,rfl⟩ <;>
  first
  | exact absurd (congrArg Prod.snd ht2) (by show(8:Int)≠0;decide)
  | (
    have e:=congrArg Prod.fst ht2
    subst e
    first
    | refine(?_:MKq sg.1 (2,0) _) v h
    | refine(?_:MKq sg.1 (3,0) _) v h
    | refine(?_:MKq sg.1 (4,0) _) v h
    unfold aK qw
    simp (disch:=decide) only[F5,E5,H5,H7,F7,E9,o6,o5,o7,C9,H8,o9,D9,ll0,ll1,ll2,ll3,la0,la1,la2,J6,J7,D5,D7,G7,L9,H6,I7,I5]
    repeat' first
     | exact e1K (by decide)
     | exact e2g (by decide)
     | exact e1z (by decide)
     | refine e2k ?_
     | exact e2N fun _=>e2g (by decide)
     | rw[Bc]
     | (apply e1U;intro z hz)
     | (apply e2l <;> intro hz)
     | simp (disch:=decide) only[F5,E5,H5,H7,F7,E9,o6,o5,o7,C9,H8,o9,D9,ll0,ll1,ll2,ll3,la0,la1,la2,J6,J7,D5,D7,G7,L9,H6,I7,I5])
theorem e2A {N:Int} {sg:I8} {env:P5} {a ty:Int×Int} {x v:V3} (hE:EvOk env) (hS:TOk sg env) (ht:mF (33,N) a sg=some (ty,true)) (h:RP (33,N) [x] env=some (v,0)):PVV sg.1 ty v:=by
 have hs:mF (33,N) a sg=l9 (lat sg.2.1 N) fun(x:V8)=>l9 (X6 x.2.1 sg.1) fun(x_1:Bool)=>l7 x_1 (l9 (X6 x.2.2.1 sg.1) fun(x_2:Bool)=>l7 x_2 (some (x.2.2.1,aH (ieq a.1 x.2.1.1) (ieq a.2 x.2.1.2))) (some (x.2.2.1,false))) (some (x.2.2.1,false)):=rfl
 rw[hs]at ht
 cases h1:lat sg.2.1 N with
 | none=>rw[h1]at ht;cases ht
 | some tb=>
  rw[h1]at ht
  have htb:=(V5 h1).2.2.1
  have hty:tb.2.2.1=ty:=by
   simp only[o7,bI]at ht
   cases h2:vty tb.2.1 sg.1 <;> rw[h2]at ht
   ·exact congrArg Prod.fst (Option.some.inj ht)
   cases h3:vty tb.2.2.1 sg.1 <;> simp only[o6,o7,h3]at ht
   ·exact congrArg Prod.fst (Option.some.inj ht)
   ·exact congrArg Prod.fst (Option.some.inj ht)
  have hrow:=hE.tb tb (by rw[hS.tbs];exact htb)
  have e:RP (33,N) [x] env=l9 (fV (33,N) x env) fun x=>some x:=rfl
  rw[e,X7]at h
  unfold fV at h
  simp (disch:=decide) only[F5,E5,o6,o5,o7]at h
  rw[hS.tbs,h1]at h
  simp only[o7]at h
  rw[Bc]at h
  unfold Ed at h
  revert h
  cases D6 (ieq x.1 tb.2.1.1)
  case true=>intro h;cases h
  cases D6 (ieq x.2.1 tb.2.1.2)
  case true=>intro h;cases h
  cases ilt tb.2.2.1.1 1
  case true=>intro h;cases h
  cases ilt 6 tb.2.2.1.1
  case true=>intro h;cases h
  simp only[o5,o7,C9,a0k env.1 x.2.2 (show tb.2.2.2.length≤1000000 by have:=hrow.1;omega)]
  cases (Qs tb.2.2.2 env.1 x.2.2).2
  case false=>intro h;cases h
  simp only[o9,o5]
  cases h5:lat tb.2.2.2 (Qs tb.2.2.2 env.1 x.2.2).1 with
  | none=>intro h;cases h
  | some r=>
   simp only[o7,D5]
   cases h6:plB (tb.2.2.1.1,tb.2.2.1.2,r.2.2.2)
   ·intro h;cases h
   ·intro h
    cases h
    rw[←hty]
    exact⟨rfl,rfl,h6,fun _=>hS.row tb htb r (V5 h5).2.2.1⟩
theorem e2j {N:Int} {sg:I8} {env:P5} {a ty:Int×Int} {x v:V3} (ha:VT a) (ht:mF (34,N) a sg=some (ty,true)) (h:RP (34,N) [x] env=some (v,0)):PVV sg.1 ty v:=by
 have hty:ty=(3,0):=by
  unfold mF at ht
  simp (disch:=decide) only[F5,E5,o6,o5,o7]at ht
  cases h1:lat sg.2.1 (X4 .i64 N 8)with
  | none=>rw[h1]at ht;cases ht
  | some tb=>
   rw[h1]at ht
   simp only[o7]at ht
   cases h2:ieq a.1 3 <;> rw[h2]at ht
   ·cases ht
   have e3:=P6.1 h2
   have hty:a=ty:=by
    simp only[o6,bD,o7]at ht
    cases h3:aH (ieq tb.2.1.1 3) (ieq tb.2.1.2 0) <;> rw[h3]at ht
    ·exact congrArg Prod.fst (Option.some.inj ht)
    ·exact congrArg Prod.fst (Option.some.inj ht)
   rw[←hty]
   rcases ha with rfl | rfl | rfl | rfl | rfl | ⟨e,rfl⟩ <;> first | rfl | exact absurd e3 (by show ¬(_:Int)=3;decide) | exact absurd (show(6:Int)=3 from e3) (by decide)
 subst hty
 have e:RP (34,N) [x] env=l9 (fV (34,N) x env) fun x=>some x:=rfl
 rw[e,X7]at h
 refine(?_:MKq sg.1 (3,0) _) v h
 unfold fV
 simp (disch:=decide) only[F5,E5,o6,o5,o7,C9]
 apply e1U;intro tb hz
 cases D6 (ieq x.1 3)
 case true=>exact e1z (by decide)
 cases D6 (ieq tb.2.1.1 3)
 case true=>exact e1z (by decide)
 cases D6 (ieq tb.2.1.2 0)
 case true=>exact e1z (by decide)
 cases D6 (ieq tb.2.2.1.1 4)
 case true=>exact e1z (by decide)
 cases D6 (ieq tb.2.2.1.2 0)
 case true=>exact e1z (by decide)
 simp only[o5,o7,C9]
 apply e1U;intro z hz
 exact e2k (e2O (by decide))
end Go.GP
namespace Go.GP
open Gt
set_option maxRecDepth 100000
theorem e1B {sg:I8} {n:Int×Int} {ops:List (Int×Int)} {i:Nat} {t:Int×Int} (h:zG sg n ops i= .inr t):MB n ops sg=(t,0):=by
 unfold zG at h
 split at h
 ·rename_i h0;cases h;exact Prod.ext rfl h0
 ·cases h
theorem e2r {en:List bK} {r:V3×Int} {v:V3} (h:uA r=(v,0)):PVV en (1,0) v:=by
 rcases ES r with⟨h1,h2⟩ | ⟨_,_,h2⟩ | ⟨_,_,_,h2⟩ | ⟨h1,h2,h3,h4⟩
 ·rw[h2]at h;rw[F5 (congrArg Prod.snd h)]at h1;cases h1
 ·rw[h2]at h;exact absurd (congrArg Prod.snd h) (by show(8:Int)≠0;decide)
 ·rw[h2]at h;exact absurd (congrArg Prod.snd h) (by show(8:Int)≠0;decide)
 ·rw[h4]at h
  have e:=congrArg Prod.fst h
  simp only at e
  subst e
  have k1:=P6.1 h2
  refine⟨k1,?_,h3,fun q=>absurd (k1.symm.trans q) (by decide)⟩
  rcases a0g h3 with⟨n,e,_⟩ | ⟨n,e,_⟩ | ⟨n,e,_⟩ | ⟨n,e,_⟩ | ⟨n,e,_⟩ | e
  ·rw[e]
  ·rw[e]
  ·rw[e]
  ·rw[e]
  ·rw[e]
  ·obtain⟨m,n,e,_⟩:=e
   rw[e]at k1
   exact absurd k1 (by show ¬(6:Int)=1;decide)
theorem e4e {k:Int} (h:arF k=1):k=10∨k=25∨k=31∨k=32∨k=33∨k=34:=by
 have hr:=e1R (by decide) h
 refine Classical.byContradiction fun hn=>?_
 have:k=1∨k=2∨k=3∨k=4∨k=5∨k=6∨k=7∨k=8∨k=9∨k=11∨k=12∨k=13∨k=14∨k=15∨k=16∨k=17∨k=18∨k=19∨k=20∨k=21∨k=22∨k=23∨k=24∨k=26∨k=27∨k=28∨k=29∨k=30∨k=35∨k=36∨k=37∨k=38∨k=39:=by omega
 rcases this with rfl | rfl | rfl | rfl | rfl | rfl | rfl | rfl | rfl | rfl | rfl | rfl | rfl | rfl | rfl | rfl | rfl | rfl | rfl | rfl | rfl | rfl | rfl | rfl | rfl | rfl | rfl | rfl | rfl | rfl | rfl | rfl | rfl <;> exact absurd h (by decide)
theorem e4f {k:Int} (h:arF k=2):(k=23∨k=24)∨(k=14∨k=15∨k=16)∨(k=11∨k=12∨k=13∨k=17∨k=18∨k=19∨k=20∨k=21∨k=22∨k=27∨k=28∨k=29∨k=30):=by
 have hr:=e1R (by decide) h
 refine Classical.byContradiction fun hn=>?_
 have:k=1∨k=2∨k=3∨k=4∨k=5∨k=6∨k=7∨k=8∨k=9∨k=10∨k=25∨k=26∨k=31∨k=32∨k=33∨k=34∨k=35∨k=36∨k=37∨k=38∨k=39:=by omega
 rcases this with rfl | rfl | rfl | rfl | rfl | rfl | rfl | rfl | rfl | rfl | rfl | rfl | rfl | rfl | rfl | rfl | rfl | rfl | rfl | rfl | rfl <;> exact absurd h (by decide)
theorem e3h {k:Int} (h:arF k=3):k=26:=by
 have hr:=e1R (by decide) h
 refine Classical.byContradiction fun hn=>?_
 have:k=1∨k=2∨k=3∨k=4∨k=5∨k=6∨k=7∨k=8∨k=9∨k=10∨k=11∨k=12∨k=13∨k=14∨k=15∨k=16∨k=17∨k=18∨k=19∨k=20∨k=21∨k=22∨k=23∨k=24∨k=25∨k=27∨k=28∨k=29∨k=30∨k=31∨k=32∨k=33∨k=34∨k=35∨k=36∨k=37∨k=38∨k=39:=by omega
 rcases this with rfl | rfl | rfl | rfl | rfl | rfl | rfl | rfl | rfl | rfl | rfl | rfl | rfl | rfl | rfl | rfl | rfl | rfl | rfl | rfl | rfl | rfl | rfl | rfl | rfl | rfl | rfl | rfl | rfl | rfl | rfl | rfl | rfl | rfl | rfl | rfl | rfl | rfl <;> exact absurd h (by decide)
section
variable {sg:I8} {env:P5}
theorem e3K {k N:Int} {a ty:Int×Int} {x v:V3} (hE:EvOk env) (hN:I64 N) (hS:TOk sg env) (hk:arF k=1) (ha:VT a) (hx:PVV sg.1 a x) (ht:MB (k,N) [a] sg=(ty,0)) (h:uz (k,N) [x] env=(v,0)):PVV sg.1 ty v:=by
 have hk3:k≠23∧k≠24∧k≠26:=by refine⟨?_,?_,?_⟩ <;> (rintro rfl;exact absurd hk (by decide))
 obtain⟨hP,_,_⟩:=e2D hE hN hk3 (by rw[hk];rfl) (by simp) h
 have hs:=((e2p (e2G hN (fun t h=>by rw[List.mem_singleton.1 h];exact ha) (by rw[hk];rfl) ht).1).2.2 a rfl)
 rcases e4e hk with rfl | rfl | rfl | rfl | rfl | rfl
 ·exact e2c (by omega) ha hx ht hP
 ·exact e2c (by omega) ha hx ht hP
 ·exact e2c (by omega) ha hx ht hP
 ·exact e2c (by omega) ha hx ht hP
 ·exact e2A hE hS hs hP
 ·exact e2j ha hs hP
theorem e2J {k N:Int} {a b ty:Int×Int} (hk:k=23∨k=24) (ha:VT a) (hb:VT b) (ht:MB (k,N) [a,b] sg=(ty,0)):ty=(1,0):=by
 have hm:az k=some false:=by rcases hk with rfl | rfl <;> rfl
 obtain⟨hN,ht2⟩:=e2R hm ht
 clear ht
 subst hN
 rcases hk with rfl | rfl <;> rcases ha with rfl | rfl | rfl | rfl | rfl | ⟨e,rfl⟩ <;> rcases hb with rfl | rfl | rfl | rfl | rfl | ⟨f,rfl⟩ <;>
  first
  | exact absurd (congrArg Prod.snd ht2) (by show(8:Int)≠0;decide)
  | exact(congrArg Prod.fst ht2).symm
theorem e3U {N:Int} {a b c ty:Int×Int} (ht:MB (26,N) [a,b,c] sg=(ty,0)):ty=b∧b=c:=by
 obtain⟨hN,ht2⟩:=e2R rfl ht
 have hr:RR (26,0) [a,b,c] sg=l7 (ieq a.1 1) (l7 (D6 (aH (ieq b.1 c.1) (ieq b.2 c.2))) (some ((0,0),8)) (some (b,0))) (some ((0,0),8)):=rfl
 rw[hr]at ht2
 cases h1:ieq a.1 1 <;> rw[h1]at ht2
 ·exact absurd (congrArg Prod.snd ht2) (by show(8:Int)≠0;decide)
 cases h2:ieq b.1 c.1 <;> rw[h2]at ht2
 ·exact absurd (congrArg Prod.snd ht2) (by show(8:Int)≠0;decide)
 cases h3:ieq b.2 c.2 <;> rw[h3]at ht2
 ·exact absurd (congrArg Prod.snd ht2) (by show(8:Int)≠0;decide)
 exact⟨(congrArg Prod.fst ht2).symm,Prod.ext (P6.1 h2) (P6.1 h3)⟩
theorem e1S {c:Int} {x:V3×Int} {v:V3} (h:l7 (ieq c 0) x ((0,0,0),c)=(v,0)):c=0∧x=(v,0):=by
 cases h1:ieq c 0 <;> rw[h1]at h
 ·rw[F5 (show c=0 from congrArg Prod.snd h)]at h1;cases h1
 ·exact⟨P6.1 h1,h⟩
theorem e1y:∀(t:XT) (o:Nat) {ty:Int×Int},t.wf→(∀n∈t.post,I64 n.2)→dX sg t o= .inr ty→VT ty
 | .l0 n,o,ty,hw,hI,ht=>by
  have hw:arF n.1=0:=hw
  exact JO (hI n (by simp[XT.post])) (by simp) (by rw[hw];rfl) ht
 | .l1 n a,o,ty,hw,hI,ht=>by
  obtain⟨w1,w2⟩:arF n.1=1∧a.wf:=hw
  unfold dX at ht
  cases h1:dX sg a o with
  | inl e=>rw[h1]at ht;cases ht
  | inr ta=>
   rw[h1]at ht
   have va:=e1y a o w2 (fun m hm=>hI m (by simp[XT.post,hm])) h1
   exact JO (hI n (by simp[XT.post])) (fun t h=>by rw[List.mem_singleton.1 h];exact va) (by rw[w1];rfl) ht
 | .l2 n a b,o,ty,hw,hI,ht=>by
  obtain⟨w1,w2,w3⟩:arF n.1=2∧a.wf∧b.wf:=hw
  unfold dX at ht
  cases h1:dX sg a o with
  | inl e=>rw[h1]at ht;cases ht
  | inr ta=>
   rw[h1]at ht
   simp only at ht
   cases h2:dX sg b (o+a.size)with
   | inl e=>rw[h2]at ht;cases ht
   | inr tb=>
    rw[h2]at ht
    have va:=e1y a o w2 (fun m hm=>hI m (by simp[XT.post,hm])) h1
    have vb:=e1y b _ w3 (fun m hm=>hI m (by simp[XT.post,hm])) h2
    exact JO (hI n (by simp[XT.post])) (fun t h=>by
     rcases List.mem_cons.1 h with rfl | h
     ·exact va
     ·rw[List.mem_singleton.1 h];exact vb) (by rw[w1];rfl) ht
 | .l3 n a b c,o,ty,hw,hI,ht=>by
  obtain⟨w1,w2,w3,w4⟩:arF n.1=3∧a.wf∧b.wf∧c.wf:=hw
  unfold dX at ht
  cases h1:dX sg a o with
  | inl e=>rw[h1]at ht;cases ht
  | inr ta=>
   rw[h1]at ht
   simp only at ht
   cases h2:dX sg b (o+a.size)with
   | inl e=>rw[h2]at ht;cases ht
   | inr tb=>
    rw[h2]at ht
    simp only at ht
    cases h3:dX sg c (o+a.size+b.size)with
    | inl e=>rw[h3]at ht;cases ht
    | inr tc=>
     rw[h3]at ht
     have va:=e1y a o w2 (fun m hm=>hI m (by simp[XT.post,hm])) h1
     have vb:=e1y b _ w3 (fun m hm=>hI m (by simp[XT.post,hm])) h2
     have vc:=e1y c _ w4 (fun m hm=>hI m (by simp[XT.post,hm])) h3
     exact JO (hI n (by simp[XT.post])) (fun t h=>by
      rcases List.mem_cons.1 h with rfl | h
      ·exact va
      rcases List.mem_cons.1 h with rfl | h
      ·exact vb
      ·rw[List.mem_singleton.1 h];exact vc) (by rw[w1];rfl) ht
theorem e1I (hE:EvOk env) (hS:TOk sg env) (hL:∀e∈sg.1,e.2.length≤1000000):∀(t:XT) (o:Nat) {ty:Int×Int} {v:V3},t.wf→(∀n∈t.post,I64 n.2)→dX sg t o= .inr ty→evT env t=(v,0)→PVV sg.1 ty v∧VT ty
 | .l0 n,o,ty,v,hw,hI,ht,h=>by
  have hN:=hI n (by simp[XT.post])
  have hw:arF n.1=0:=hw
  have hv:VT ty:=JO hN (by simp) (by rw[hw];rfl) ht
  exact⟨e3d (k:=n.1) (N:=n.2) hE hN hS hL hw (e1B ht) h,hv⟩
 | .l1 n a,o,ty,v,hw,hI,ht,h=>by
  have hN:=hI n (by simp[XT.post])
  obtain⟨w1,w2⟩:arF n.1=1∧a.wf:=hw
  unfold dX at ht
  cases h1:dX sg a o with
  | inl e=>rw[h1]at ht;cases ht
  | inr ta=>
   rw[h1]at ht
   simp only at ht
   unfold evT at h
   obtain⟨c1,c2⟩:=e1S h
   obtain⟨p1,p2⟩:=e1I hE hS hL a o w2 (fun m hm=>hI m (by simp[XT.post,hm])) h1 (Prod.ext rfl c1)
   exact⟨e3K (k:=n.1) (N:=n.2) hE hN hS w1 p2 p1 (e1B ht) c2,JO hN (fun t h=>by rw[List.mem_singleton.1 h];exact p2) (by rw[w1];rfl) ht⟩
 | .l2 n a b,o,ty,v,hw,hI,ht,h=>by
  have hN:=hI n (by simp[XT.post])
  obtain⟨w1,w2,w3⟩:arF n.1=2∧a.wf∧b.wf:=hw
  unfold dX at ht
  cases h1:dX sg a o with
  | inl e=>rw[h1]at ht;cases ht
  | inr ta=>
   rw[h1]at ht
   simp only at ht
   cases h2:dX sg b (o+a.size)with
   | inl e=>rw[h2]at ht;cases ht
   | inr tb=>
    rw[h2]at ht
    simp only at ht
    have va:=e1y a o w2 (fun m hm=>hI m (by simp[XT.post,hm])) h1
    have vb:=e1y b _ w3 (fun m hm=>hI m (by simp[XT.post,hm])) h2
    have hv:VT ty:=JO hN (fun t h=>by rcases List.mem_cons.1 h with rfl | h;exact va;rw[List.mem_singleton.1 h];exact vb) (by rw[w1];rfl) ht
    refine⟨?_,hv⟩
    unfold evT at h
    have hk:=e4f w1
    cases hz:lzB n.1 <;> rw[hz]at h
    ·simp only[o5]at h
     obtain⟨c1,c2⟩:=e1S h
     obtain⟨c3,c4⟩:=e1S c2
     have p1:=(e1I hE hS hL a o w2 (fun m hm=>hI m (by simp[XT.post,hm])) h1 (Prod.ext rfl c1)).1
     have p2:=(e1I hE hS hL b _ w3 (fun m hm=>hI m (by simp[XT.post,hm])) h2 (Prod.ext rfl c3)).1
     have hk3:=b1S hz
     obtain⟨hP,_,_⟩:=e2D (k:=n.1) (N:=n.2) hE hN hk3 (by rw[w1];rfl) (by simp) c4
     rcases hk with hk | hk | hk
     ·rcases hk with hk | hk
      ·exact absurd hk hk3.1
      ·exact absurd hk hk3.2.1
     ·exact e3e hk va vb p1 p2 (e2G hN (fun t h=>by rcases List.mem_cons.1 h with rfl | h;exact va;rw[List.mem_singleton.1 h];exact vb) (by rw[w1];rfl) (e1B ht)).1 hP
     ·exact e3I hk va vb p1 p2 (e1B ht) hP
    ·have hk2:n.1=23∨n.1=24:=by
      rcases hk with hk | hk | hk
      ·exact hk
      ·rcases hk with hk | hk | hk <;> rw[hk]at hz <;> exact absurd hz (by decide)
      ·rcases hk with hk | hk | hk | hk | hk | hk | hk | hk | hk | hk | hk | hk | hk <;> rw[hk]at hz <;> exact absurd hz (by decide)
     rw[e2J (k:=n.1) (N:=n.2) hk2 va vb (e1B ht)]
     simp only[o6]at h
     unfold Qp at h
     cases g1:ieq n.2 0 <;> rw[g1]at h
     ·exact absurd (congrArg Prod.snd h) (by show(2:Int)≠0;decide)
     simp only[o6]at h
     obtain⟨c1,c2⟩:=e1S h
     cases g2:dB (ieq n.1 23) (ieq (uA (evT env a)).1.2.2 0) <;> rw[g2]at c2
     ·exact e2r c2
     ·have c3:(uA (evT env a)).1=v:=congrArg Prod.fst (show((uA (evT env a)).1,(0:Int))=(v,0)from c2)
      exact e2r (Prod.ext c3 c1)
 | .l3 n a b c,o,ty,v,hw,hI,ht,h=>by
  have hN:=hI n (by simp[XT.post])
  obtain⟨w1,w2,w3,w4⟩:arF n.1=3∧a.wf∧b.wf∧c.wf:=hw
  unfold dX at ht
  cases h1:dX sg a o with
  | inl e=>rw[h1]at ht;cases ht
  | inr ta=>
   rw[h1]at ht
   simp only at ht
   cases h2:dX sg b (o+a.size)with
   | inl e=>rw[h2]at ht;cases ht
   | inr tb=>
    rw[h2]at ht
    simp only at ht
    cases h3:dX sg c (o+a.size+b.size)with
    | inl e=>rw[h3]at ht;cases ht
    | inr tc=>
     rw[h3]at ht
     simp only at ht
     have e26:=e3h w1
     have hres:=e1B ht
     rw[show n=(26,n.2)from Prod.ext e26 rfl]at hres
     obtain⟨rfl,rfl⟩:=e3U hres
     unfold evT XG at h
     cases g1:ieq n.2 0 <;> rw[g1]at h
     ·exact absurd (congrArg Prod.snd h) (by show(2:Int)≠0;decide)
     simp only[o6]at h
     obtain⟨c1,c2⟩:=e1S h
     cases g2:ieq (uA (evT env a)).1.2.2 1 <;> rw[g2]at c2
     ·exact e1I hE hS hL c _ w4 (fun m hm=>hI m (by simp[XT.post,hm])) h3 c2
     ·exact e1I hE hS hL b _ w3 (fun m hm=>hI m (by simp[XT.post,hm])) h2 c2
theorem e2F (hE:EvOk env) (hS:TOk sg env) (hL:∀e∈sg.1,e.2.length≤1000000) {e:List (Int×Int)} (hI:∀n∈e,I64 n.2) {t:Int×Int} {v:V3} (ht:zX e sg t=0) (h:qM e env=(v,0)):PVV sg.1 t v:=by
 have hw:=UV ht
 unfold fZ at hw
 unfold qM at h
 cases hs:eY e with
 | inl x=>rw[hs]at hw;exact absurd (congrArg (fun q=>q.2.2) hw) (xM hs)
 | inr q=>
  rw[hs]at hw h
  simp only at hw h
  cases hy:dX sg q 0 with
  | inl x=>rw[hy]at hw;exact absurd (congrArg (fun q=>q.2.2) hw) (wR q 0 hy)
  | inr ty=>
   rw[hy]at hw
   have e1:ty=t:=congrArg Prod.fst hw
   subst e1
   exact(e1I hE hS hL q 0 (GY hs) (fun n hn=>hI n (by rw[(xN hs).1];exact hn)) hy h).1
end
end Go.GP
namespace Go.GP
open Gt
set_option maxRecDepth 100000
theorem e1x {ρ:Type} {n:Nat} {p:Nat→Option ρ} (h:∀r,P9 n p≠some r):∀i,i<n→p i=none:=by
 cases hf:P9 n p with
 | some r=>exact absurd hf (h r)
 | none=>exact uI hf
theorem e1X {k i:Int} {r:Int×Int} (h:KZ k i r=none):r.1=0:=by
 unfold KZ at h
 cases he:ieq r.1 0 <;> rw[he]at h
 ·cases h
 ·exact P6.1 he
theorem e2i {l:L6} (h:(aP l).1=0):∀e∈l.1,e.2.length≤16:=by
 intro e he
 unfold aP at h
 cases h1:ieq (Iu l).1 0 <;> rw[h1]at h
 ·simp only[o5]at h;rw[F5 h]at h1;cases h1
 have h1:=P6.1 h1
 unfold Iu at h1
 cases h2:ilt 8 (o8 l.1) <;> rw[h2]at h1
 case true=>exact absurd (show(4:Int)=0 from h1) (by decide)
 simp only[o5]at h1
 obtain⟨i,hi,e1⟩:=List.getElem_of_mem he
 have hn:=e1x (n:=l.1.length) (p:=Nb l) (fun r hf=>by
  rw[hf]at h1
  obtain⟨j,_,hj⟩:=aW hf
  unfold Nb at hj
  split at hj
  ·exact TZ hj h1
  ·cases hj) i hi
 unfold Nb at hn
 rw[Y8 hi,e1]at hn
 have hz:=e1X hn
 unfold PU at hz
 cases g1:yz e.1 <;> rw[g1]at hz
 ·exact absurd (show(2:Int)=0 from hz) (by decide)
 cases g2:yg l 1 i e.1 <;> rw[g2]at hz
 case true=>exact absurd (show(7:Int)=0 from hz) (by decide)
 cases g3:ieq (o8 e.2) 0 <;> rw[g3]at hz
 case true=>exact absurd (show(5:Int)=0 from hz) (by decide)
 cases g4:ilt 16 (o8 e.2) <;> rw[g4]at hz
 case true=>exact absurd (show(4:Int)=0 from hz) (by decide)
 rw[aV]at g4;unfold o8 at g4;omega
theorem e3g {l:L6} (h:(aP l).1=0):∀t∈l.2.1,∀r∈t.2.2.2,inB r.2.2.2 (bnd t.2.2.1 l.1)=true:=by
 intro t ht r hr
 unfold aP at h
 cases h1:ieq (Iu l).1 0 <;> rw[h1]at h
 ·simp only[o5]at h;rw[F5 h]at h1;cases h1
 cases h2:ieq (Ep l).1 0 <;> rw[h2]at h
 ·simp only[o6,o5]at h;rw[F5 h]at h2;cases h2
 have h2:=P6.1 h2
 unfold Ep at h2
 cases h3:ilt 8 (o8 l.2.1) <;> rw[h3]at h2
 case true=>exact absurd (show(4:Int)=0 from h2) (by decide)
 simp only[o5]at h2
 obtain⟨i,hi,e1⟩:=List.getElem_of_mem ht
 have hn:=e1x (n:=l.2.1.length) (p:=Gl l) (fun r hf=>by
  rw[hf]at h2
  obtain⟨j,_,hj⟩:=aW hf
  unfold Gl at hj
  split at hj
  ·exact TZ hj h2
  ·cases hj) i hi
 unfold Gl at hn
 rw[Y8 hi,e1]at hn
 have hz:=e1X hn
 unfold RU at hz
 cases g1:yz t.1 <;> rw[g1]at hz
 ·exact absurd (show(2:Int)=0 from hz) (by decide)
 cases g2:yg l 2 i t.1 <;> rw[g2]at hz
 case true=>exact absurd (show(7:Int)=0 from hz) (by decide)
 cases g3:ieq (Hm t l.1).2 0 <;> rw[g3]at hz
 ·simp only[o6,o5]at hz;rw[F5 hz]at g3;cases g3
 have hz:=P6.1 g3
 unfold Hm at hz
 cases g4:ilt 64 (o8 t.2.2.2) <;> rw[g4]at hz
 case true=>exact absurd (show(4:Int)=0 from hz) (by decide)
 cases g5:vty t.2.1 l.1 <;> rw[g5]at hz
 ·exact absurd (show(8:Int)=0 from hz) (by decide)
 cases g6:vty t.2.2.1 l.1 <;> rw[g6]at hz
 ·exact absurd (show(8:Int)=0 from hz) (by decide)
 simp only[o6,o5]at hz
 obtain⟨j,hj,e2⟩:=List.getElem_of_mem hr
 have hn:=e1x (n:=t.2.2.2.length) (p:=Tq t l.1) (fun q hf=>by
  rw[show(List.range t.2.2.2.length).findSome? (Tq t l.1)=some q from hf]at hz
  obtain⟨j,_,hj⟩:=aW hf
  unfold Tq at hj
  split at hj
  ·rename_i x _
   cases k1:MQ x (bnd t.2.1 l.1) (bnd t.2.2.1 l.1) <;> rw[k1]at hj
   ·revert hj
    cases (t.2.2.2.take j).any fun y=>qR y x
    ·intro hj;cases hj
    ·intro hj;cases hj;exact absurd hz (by show ¬(11:Int)=0;decide)
   ·cases hj;exact absurd hz (by show ¬(3:Int)=0;decide)
  ·cases hj) j hj
 unfold Tq at hn
 rw[Y8 hj,e2]at hn
 simp only at hn
 cases k1:MQ r (bnd t.2.1 l.1) (bnd t.2.2.1 l.1) <;> rw[k1]at hn
 case true=>cases hn
 unfold MQ at k1
 cases d1:Bv r.1 <;> rw[d1]at k1
 ·cases k1
 cases d2:ieq r.1.1 r.1.2 <;> rw[d2]at k1
 case true=>cases k1
 cases d3:ile r.2.2.1 r.2.1 <;> rw[d3]at k1
 case true=>cases k1
 cases d4:inB r.2.1 (bnd t.2.1 l.1) <;> rw[d4]at k1
 ·cases k1
 cases d5:inB (G8 .i64 r.2.2.1 1) (bnd t.2.1 l.1) <;> rw[d5]at k1
 ·cases k1
 cases d6:inB r.2.2.2 (bnd t.2.2.1 l.1) <;> rw[d6]at k1
 ·cases k1
theorem e2B {l:L6} (h:(aP l).1=0) {i:Nat} {s:A8} (hs:l.2.2[i]? =some s) {j:Nat} {f:bi} (hf:s.2.2.2.1[j]? =some f):vty f.2 l.1=true:=by
 have hp:=(MP h hs).2
 unfold LK at hp
 cases h1:yu l s with
 | some q=>rw[h1]at hp;exact absurd hp (Fb h1)
 | none=>
  unfold yu at h1
  cases h2:P9 s.2.2.1.length (inP l s)with
  | some q=>rw[h2]at h1;cases h1
  | none=>
   rw[h2]at h1
   have hn:=uI h1 j (O6.1 hf).1
   unfold Xd at hn
   rw[hf]at hn
   simp only at hn
   unfold Oz at hn
   cases he:ieq (Fa l.1 f s.2.2.1 (s.2.2.2.1.take j)) 0 <;> rw[he]at hn
   ·cases hn
   have he:=P6.1 he
   unfold Fa at he
   cases g1:yz f.1 <;> rw[g1]at he
   ·exact absurd (show(2:Int)=0 from he) (by decide)
   cases g2:s.2.2.1.any fun x=>seq x.1 f.1 <;> rw[g2]at he
   case true=>exact absurd (show(7:Int)=0 from he) (by decide)
   cases g3:(s.2.2.2.1.take j).any fun x=>seq x.1 f.1 <;> rw[g3]at he
   case true=>exact absurd (show(7:Int)=0 from he) (by decide)
   cases g4:vty f.2 l.1 <;> rw[g4]at he
   ·exact absurd (show(8:Int)=0 from he) (by decide)
theorem e2E {l:L6} {k:Int} {s:A8} {c:U8} (h:(pV l k c false 0).1=0) (hs:lat l.2.2 k=some s):∀i t v,lat (s.2.2.1.map (·.2)) i=some t→lat c.2.1 i=some v→PVW l.1 t v:=by
 intro i t v ht hv
 unfold pV at h
 cases h0:ieq (aP l).1 0 <;> rw[h0]at h
 ·exact absurd (show(1:Int)=0 from h) (by decide)
 rw[hs]at h
 simp only[o6,o5]at h
 cases h1:ieq (BV l k c).2.2 0 <;> rw[h1]at h
 ·simp only[o5]at h;rw[F5 h]at h1;cases h1
 have h1:=P6.1 h1
 unfold BV at h1
 rw[hs]at h1
 simp only at h1
 cases g1:ilt c.1 0 <;> rw[g1]at h1
 case true=>exact absurd (show(3:Int)=0 from h1) (by decide)
 cases g2:ilt 109572 c.1 <;> rw[g2]at h1
 case true=>exact absurd (show(3:Int)=0 from h1) (by decide)
 cases g3:ieq (Dh l.1 s.2.2.1 c.2.1).2 0 <;> rw[g3]at h1
 ·simp only[o5]at h1;rw[F5 h1]at g3;cases g3
 have g3:=P6.1 g3
 unfold Dh at g3
 cases g4:ilt (o8 c.2.1) (o8 s.2.2.1) <;> rw[g4]at g3
 case true=>exact absurd (show(5:Int)=0 from g3) (by decide)
 cases g5:ilt (o8 s.2.2.1) (o8 c.2.1) <;> rw[g5]at g3
 case true=>exact absurd (show(4:Int)=0 from g3) (by decide)
 simp only[o5]at g3
 have hvl:=(V5 hv).2.2.2
 have htl:=(V5 ht).2.2.2
 rw[List.getElem?_map]at htl
 cases hf:s.2.2.1[i.toNat]? with
 | none=>rw[hf]at htl;cases htl
 | some f=>
  rw[hf]at htl
  have e:f.2=t:=Option.some.inj htl
  have hn:=e1x (n:=c.2.1.length) (p:=a1o l.1 s.2.2.1 c.2.1) (fun r hf=>by
   rw[hf]at g3
   obtain⟨j,_,hj⟩:=aW hf
   exact e3f hj g3) i.toNat (O6.1 hvl).1
  unfold a1o at hn
  rw[hvl,hf]at hn
  simp only at hn
  cases d1:ieq v.1 f.2.1 <;> rw[d1]at hn
  ·cases hn
  cases d2:ieq v.2.1 f.2.2 <;> rw[d2]at hn
  ·cases hn
  cases d3:inB v.2.2 (bnd f.2 l.1) <;> rw[d3]at hn
  ·cases hn
  rw[←e]
  exact⟨P6.1 d1,P6.1 d2,fun _=>d3⟩
theorem e2S (l:L6) (s:A8):(BL l s).1=l.1∧(BL l s).2.1=l.2.1∧(BL l s).2.2.1=s.2.2.1.map (·.2):=by unfold BL;split <;> exact⟨rfl,rfl,rfl⟩
theorem e3F {l:L6} {s:A8} {i:Int} {t:Int×Int} (h:lat (BL l s).2.2.2.2.1 i=some t):lat ((G9 l s).2.2.2.1.map (·.2)) i=some t:=by
 cases hq:(BL l s).2.2.2.2.2
 ·unfold BL at h hq
  split at h
  ·rename_i q e
   rw[e]at hq;cases hq
  ·unfold lat at h;split at h <;> cases h
 ·rw[←b1A hq];exact h
theorem e4l {v:V3} (h:plB v=true):inB v.2.2 (zq v.1)=true:=by
 unfold plB at h
 unfold inB
 cases h1:ile (zq v.1).1 v.2.2 <;> rw[h1]at h
 ·cases h
 cases h2:ile v.2.2 (zq v.1).2 <;> rw[h2]at h
 ·cases h
 ·rfl
theorem e3L {en:List bK} {t:Int×Int} {v:V3} (hv:vty t en=true) (h:PVV en t v):Za v en=some true:=by
 have e:(v.1,v.2.1)=t:=Prod.ext h.1 h.2.1
 unfold Za WJ
 rw[e,qL,o7,hv,o6,X7,KP,o7]
 have hb:inB v.2.2 (bnd t en)=true:=by
  have hp:=e4l h.2.2.1
  rw[h.1]at hp
  rcases Gp hv with rfl | rfl | rfl | rfl | rfl | ⟨q,rfl⟩
  ·exact hp
  ·exact hp
  ·exact hp
  ·exact hp
  ·exact hp
  ·exact h.2.2.2 h.1
 unfold inB at hb
 cases h1:ile (bnd t en).1 v.2.2 <;> rw[h1]at hb
 ·cases hb
 ·rw[show ile v.2.2 (bnd t en).2=true from hb];rfl
def e2o (l:L6) (s:A8) (ds:List V3):Prop:=∀i t v,lat (s.2.2.2.1.map (·.2)) i=some t→lat ds i=some v→v.1≠0→PVW l.1 t v
theorem e4r {l:L6} {k:Int} {s:A8} {c:U8} {b:List DB} {ds:List V3} (hA:(pV l k c false 0).1=0) (h:(aP l).1=0) (hs:lat l.2.2 k=some s) (hD:e2o l s ds):TOk (BL l s) (qU (ig l s c b) ds):=by
 obtain⟨g1,g2,g3⟩:=e2S l s
 refine⟨fun i t v ht hv=>?_,fun i t v ht hv h0=>?_,fun i t u ht hu=>?_,g2.symm,fun t ht r hr=>?_⟩
 ·rw[g3]at ht;rw[g1];exact e2E hA hs i t v ht hv
 ·rw[a8i]at ht;rw[g1];exact hD i t v ht hv h0
 ·have h1:=e3F ht
  have h2:lat ((G9 l s).2.2.2.1.map (·.2)) i=some u:=hu
  rw[h1]at h2;exact(Option.some.inj h2).symm
 ·rw[g2]at ht;rw[g1];exact e3g h t ht r hr
theorem e2v {l:L6} {k:Int} {s:A8} {c:U8} {b:List DB} {ds:List V3} {m d:Int} {v:V3} {r:Int} {t:Int×Int} (hL:SmL l) (hT:∀t∈l.2.1,ku t) (hb:b.length≤1000) (hA:(pV l k c false 0).1=0) (h:(aP l).1=0) (hs:lat l.2.2 k=some s) (hD:e2o l s ds) (hd:Bq s (qU (ig l s c b) ds) m d= .inl (v,r)) (ht:lat (s.2.2.2.1.map (·.2)) d=some t):PVV l.1 t v:=by
 obtain⟨_,d2,q,q1,q2⟩:=Xf hd
 obtain⟨q',e1,e2,e3⟩:=MM d2
 rw[q1]at e1;cases e1
 obtain⟨_,f,f1,f2⟩:=Oi h (V5 hs).2.2.2 e2
 rw[e3]at f1
 have ht2:f.2=t:=by
  unfold lat at ht f1
  split at ht
  ·rename_i h0
   rw[if_pos h0]at f1
   rw[List.getElem?_map,f1]at ht
   exact Option.some.inj ht
  ·cases ht
 have g1:=(e2S l s).1
 rw[←g1,←ht2]
 refine e2F (rQ (ny hT s c hb) ds) (e4r hA h hs hD) (fun e he=>by rw[g1]at he;have:=e2i h e he;omega) ?_ f2 q2
 have hS:=hL.sc s (V5 hs).2.2.1
 exact(hS.ro q e2).1.2.2.2
theorem e2W {l:L6} {k:Int} {s:A8} {c:U8} {b:List DB} {need:List Bool} {X:DB} (hL:SmL l) (hT:∀t∈l.2.1,ku t) (hb:b.length≤1000) (hA:(pV l k c false 0).1=0) (h:(aP l).1=0) (hs:lat l.2.2 k=some s) (hX:scS s (ig l s c b) (-1) need= .inl X):e2o l s X.1:=by
 have key:∀(L:List Int) (B:DB),(∀d∈L,0≤d)→e2o l s B.1→U0 (scG s (ig l s c b) (-1) need) L B= .inl X→e2o l s X.1:=by
  intro L
  induction L with
  | nil=>intro B _ hB h;cases h;exact hB
  | cons d L ih=>
   intro B hL0 hB hf
   unfold U0 at hf
   cases hg:scG s (ig l s c b) (-1) need B d with
   | inr e=>rw[hg]at hf;cases hf
   | inl B1=>
    rw[hg]at hf
    refine ih B1 (fun x hx=>hL0 x (by simp[hx])) ?_ hf
    unfold scG at hg
    cases h1:(lat need d).getD false <;> rw[h1]at hg
    ·cases hg;exact hB
    simp only[o6]at hg
    cases hv:Bq s (qU (ig l s c b) B.1) (-1) d with
    | inr e=>rw[hv]at hg;cases hg
    | inl v=>
     rw[hv]at hg
     cases hg
     intro i t w ht hw h0
     by_cases hi:i=d
     ·subst hi
      have hd0:=hL0 i (by simp)
      by_cases hlt:i<o8 B.1
      ·rw[zC _ hd0 hlt]at hw
       cases hw
       have p:=e2v (m:=-1) hL hT hb hA h hs hB (v:=v.1) (r:=v.2) hv ht
       exact⟨p.1,p.2.1,p.2.2.2⟩
      ·rw[jg (.inr (E9 (by simp only[o8,List.length_set]at hlt ⊢;omega)))]at hw;cases hw
     ·rw[lY _ (hL0 d (by simp)) hi]at hw
      exact hB i t w ht hw h0
 refine key (kJ s).1 _ (fun d hd=>((FD s).1 d hd).1) (fun i t v ht hv h0=>?_) hX
 have:=(V5 hv).2.2.2
 simp only[List.getElem?_replicate]at this
 split at this
 ·cases this;exact absurd rfl h0
 ·cases this
theorem e1P {l:L6} (hW:WfL l) (k:Int) (c:U8):gG l k c=some true:=by
 unfold gG
 rw[Gi,o7,ER]
 cases hl:smL l
 ·rfl
 cases hc:smC c
 ·rfl
 obtain⟨hL,hT⟩:=RF hl hW
 have hC:=IZ hc
 have hcm:=hC.nm
 rw[a0u hL hC hT]
 simp only[o6,o9,o5,o7]
 by_cases hA:(pV l k c false 0).1=0
 case neg=>rw[if_neg hA,E5 hA];rfl
 rw[if_pos hA]
 obtain⟨h,s,hs⟩:=pW hA
 obtain⟨s0,s1,sm,s2⟩:=V5 hs
 have hS:=hL.sc s sm
 have hnd:=hS.nd
 rw[hs]
 dsimp only
 unfold YA
 cases hq:mS l c (G9 l s) (ah (G9 l s).2.2.2.1.length)with
 | inr e=>simp only[E5 (gY _ (fun r=>r.1≠0) Lm _ _ _ hq)];rfl
 | inl b=>
  have hbl:=Fp hq
  have hb:b.length≤1000:=by omega
  have hEb:=ny hT s c (b:=b) hb
  simp only
  cases hr:scS s (ig l s c b) (-1) (ah s.2.2.2.1.length)with
  | inr e=>simp only[E5 (xn hr)];rfl
  | inl X=>
   obtain⟨x1,x2⟩:=Be hr
   simp only[F5 (rfl:(0:Int)=0),o9,o5]
   rw[E9 s0,H7 s1]
   simp only[o5,o7]
   rw[F5 (DL x1)]
   simp only[o9,o5,o7,C9]
   obtain⟨ot,oi⟩:=IK hS (Jc h s2)
   have hD:=e2W hL hT hb hA h hs hr
   refine J3 (o' :=some (.inl PUnit.unit)) ?_ rfl
   refine(lS X.1 (fun _=>false) false PUnit.unit (by omega) (fun i a ha=>?_) ?_).trans (by rw[show(X.1.any fun _=>false)=false by rw[List.any_eq_false];simp];rfl)
   ·have hi:=(O6.1 ha).1
    have hf:s.2.2.2.1[i]? =some s.2.2.2.1[i]:=Y8 (by omega)
    obtain⟨v,r,k1,k2,k3⟩:=ZC hEb ot hr (oi (i:Int) (by omega) (by unfold nD o8;omega)) (RY (by omega) (by omega)) (Du h s2 (i:Int))
    rw[D8,ha]at k1
    cases k1
    have ht:lat (s.2.2.2.1.map (·.2)) (i:Int)=some s.2.2.2.1[i].2:=by rw[D8,List.getElem?_map,hf];rfl
    have hp:=e2v hL hT hb hA h hs hD k3 ht
    have hvt:=e2B h s2 hf
    simp only[G6 ha,o6,D8,ha,hf,o7]
    rw[e3L hvt hp,o7,F5 hp.1,F5 hp.2.1]
    rfl
   ·rw[G5];rfl
theorem e1M:∀x,Di Gt.ps5 x→(Gt.s5.fn x:Option Bool)=some true:=fun x h=>e1P (Zc h.1) x.2.1 x.2.2
abbrev mi:Int×Int:=(0,109573)
def tOn (T:Int) (t:V8):V8:=(t.1,t.2.1,t.2.2.1,(t.2.2.2.filter fun r=>Jq r.1 T).map fun r=>(mi,r.2))
def onA (s:A8) (T:Int) (i:Nat):Bool:=match s.2.2.2.2[i]? with | some r=>Jq r.2.2.2.2.1 T | none=>false
def dG (s:A8) (T:Int):List Nat:=onL (onA s T) s.2.2.2.2.length
def rOn (s:A8) (T:Int) (i:Nat):X0:=match s.2.2.2.2[i]? with
 | some r=>(r.1,r.2.1,anc (onA s T) (CP s) i,r.2.2.2.1,mi,r.2.2.2.2.2.1,r.2.2.2.2.2.2.1,r.2.2.2.2.2.2.2)
 | none=>([],0,0,0,mi,[],[],[])
def sOn (T:Int) (s:A8):A8:=(s.1,s.2.1,s.2.2.1,s.2.2.2.1,(dG s T).map (rOn s T))
def lOn (T:Int) (l:L6):L6:=(l.1,l.2.1.map (tOn T),l.2.2.map (sOn T))
theorem e1H {α:Type} (l:List α) (h:l.length≤1000000):BO l=some l:=by unfold BO;rw[DK (by simp;omega)];rfl
theorem e2I (t:V8) (T:Int) (h:t.2.2.2.length≤1000000):Js t T=some (tOn T t):=by
 unfold Js
 refine J3 (o' :=some ((t.2.2.2.filter fun r=>Jq r.1 T).map fun r=>((mi,r.2):uw))) ?_ rfl
 have key:=(ax t.2.2.2 (fun(acc:List uw) r=>l7 (Jq r.1 T) (acc++[(mi,r.2)]) acc) (fun b i=>(b,i)) (fun b=>b) (fun i b=>b.length≤i) (b:=[]) (f:=fun(x:List uw×Int)=>l7 (ilt x.2 (o8 t.2.2.2)) (l9 (lat t.2.2.2 x.2) fun(x_1:uw)=>l9 (aI x_1.1 T) fun(x_2:Bool)=>l7 x_2 (l9 zu fun(x_3:F6)=>l9 (X9 x.1 [(x_3,x_1.2)]) fun(x_4:List uw)=>some (Sum.inl (x_4,x8 IntKind.i64 x.2 1))) (some (Sum.inl (x.1,x8 IntKind.i64 x.2 1)))) (some (Sum.inr x.1)))
  h (by simp) (fun i r b hr hi hb=>?_) (fun b hb=>?_)).1
 ·rw[key]
  have hf:∀(l:List uw) (b:List uw),l.foldl (fun(acc:List uw) r=>l7 (Jq r.1 T) (acc++[(mi,r.2)]) acc) b=b++(l.filter fun r=>Jq r.1 T).map fun r=>((mi,r.2):uw):=by
   intro l
   induction l with
   | nil=>intro b;simp
   | cons a l ih=>
    intro b
    rw[List.foldl_cons,ih,List.filter_cons]
    cases Jq a.1 T <;> simp
  rw[hf];rfl
 ·simp only[G6 hr,o6,D8,hr,o7,Ai]
  rw[O5 (by omega)]
  cases Jq r.1 T
  ·exact⟨rfl,by show b.length≤_;omega⟩
  ·simp only[o6]
   rw[show zu=some mi from rfl,o7,ay _ (by omega),o7]
   exact⟨rfl,by show(b++[_]).length≤_;simp;omega⟩
 ·simp only[G5];rfl
theorem e4j {s:A8} {i:Nat} {r:X0} (h:s.2.2.2.2[i]? =some r) (T:Int):Hf r T=some (onA s T i):=by
 unfold Hf onA
 rw[h,Ai];rfl
theorem e1Z {s:A8} {T:Int} {i:Nat} (h:i∈dG s T):i<s.2.2.2.2.length∧onA s T i=true:=VB _ h
theorem e2w (s:A8) (T:Int):(dG s T).length≤s.2.2.2.2.length:=uX _ _
theorem e2H {s:A8} (hS:SmS s) (T:Int):Jr s T=some (sOn T s):=by
 have hnr:=hS.nr
 have hni:=hS.ni
 have hnd:=hS.nd
 have hkl:=e2w s T
 unfold Jr
 refine J3 (o' :=some (castL (dG s T),(dG s T).map (anc (onA s T) (CP s)))) ?_ ?_
 ·unfold Dv
  rw[show gU (o8 s.2.2.2.2) (0:Int)=some (List.replicate s.2.2.2.2.length 0) by unfold gU;rw[if_pos (by simp[o8];omega)];simp[o8],o7,X7]
  refine a4U (by omega) (fun i r A B C hr=>?_) (fun A B C=>?_)
  ·simp only[G6 hr,o6,D8,hr,o7]
   rw[e4j hr];rfl
  ·simp only[G5];rfl
 rw[o7]
 refine J3 (o' :=some ((dG s T).map (rOn s T))) ?_ ?_
 ·refine OG (fun L i=>((L,i):List X0×Int)) (fun L=>L) (dG s T) (rOn s T) (by omega) (fun i a L hi hL=>?_) (fun L=>?_)
  ·have hlt:=(O6.1 hi).1
   obtain⟨a1,a2⟩:=e1Z (bZ hi)
   have hc:=a3R hi
   have ha:s.2.2.2.2[a]? =some s.2.2.2.2[a]:=Y8 a1
   have hp:((dG s T).map (anc (onA s T) (CP s)))[i]? =some (anc (onA s T) (CP s) a):=by rw[List.getElem?_map,hi];rfl
   obtain⟨_,r1,r2⟩:=hS.ro s.2.2.2.2[a] (List.getElem_mem a1)
   simp only[G6 hc,o6,D8,hc,hp,ha,o7]
   rw[show I9 (castL (dG s T)) (toN (i:Int))=some (a:Int)from hc,o7,D8,ha,o7,show I9 ((dG s T).map (anc (onA s T) (CP s))) (toN (i:Int))=_ from hp,o7,show zu=some mi from rfl,o7,e1H _ (by omega),o7,e1H _ (by omega),o7,ay _ (by omega),o7,O5 (by omega)]
   unfold rOn
   rw[ha]
  ·rw[show((dG s T).length:Int)=((castL (dG s T)).length:Int) by rw[yU],G5];rfl
 rw[o7,e1H _ (by omega),o7,e1H _ (by omega),o7];rfl
theorem e3p {l:L6} (hL:SmL l) (hT:∀t∈l.2.1,ku t) (hE:∀e∈l.1,e.2.length≤1000000) (T:Int):Ov l T=some (lOn T l):=by
 obtain⟨f1,f2,f3⟩:=hL.few
 unfold Ov
 refine J3 (o' :=some ((l.1,PUnit.unit,PUnit.unit):List bK×PUnit×PUnit)) ?_ ?_
 ·have:=OG (f:=fun(x:(List bK×PUnit×PUnit)×Int)=>l7 (ilt x.2 (o8 l.1)) (l9 (lat l.1 x.2) fun(x_1:bK)=>l9 (BO x_1.2) fun(x_2:List (List UInt8))=>l9 (X9 x.1.1 [(x_1.1,x_2)]) fun(x_3:List bK)=>some (Sum.inl ((x_3,PUnit.unit,PUnit.unit),x8 IntKind.i64 x.2 1))) (some (Sum.inr (x.1.1,PUnit.unit,PUnit.unit))))
   (fun L i=>(((L,PUnit.unit,PUnit.unit),i):(List bK×PUnit×PUnit)×Int)) (fun L=>((L,PUnit.unit,PUnit.unit):List bK×PUnit×PUnit)) l.1 (fun e=>((e.1,e.2):bK)) (by omega) (fun i a L hi hLl=>by
    have hlt:=(O6.1 hi).1
    simp only[G6 hi,o6,D8,hi,o7]
    rw[e1H _ (hE a (bZ hi)),o7,ay _ (by omega),o7,O5 (by omega)]) (fun L=>by rw[G5];rfl)
  rw[show(l.1.map fun e=>((e.1,e.2):bK))=l.1 from List.map_id _]at this
  exact this
 rw[o7]
 refine J3 (o' :=some ((l.1,l.2.1.map (tOn T),PUnit.unit):List bK×List V8×PUnit)) ?_ ?_
 ·refine OG (fun L i=>(((l.1,L,PUnit.unit),i):(List bK×List V8×PUnit)×Int)) (fun L=>((l.1,L,PUnit.unit):List bK×List V8×PUnit)) l.2.1 (tOn T) (by omega) (fun i a L hi hLl=>?_) (fun L=>?_)
  ·have hlt:=(O6.1 hi).1
   have hr:=(hT a (bZ hi)).1
   simp only[G6 hi,o6,D8,hi,o7]
   rw[e2I a T (by omega),o7,ay _ (by omega),o7,O5 (by omega)]
  ·rw[G5];rfl
 rw[o7,X7]
 refine OG (fun L i=>(((l.1,l.2.1.map (tOn T),L),i):L6×Int)) (fun L=>((l.1,l.2.1.map (tOn T),L):L6)) l.2.2 (sOn T) (by omega) (fun i a L hi hLl=>?_) (fun L=>?_)
 ·have hlt:=(O6.1 hi).1
  simp only[G6 hi,o6,D8,hi,o7]
  rw[e2H (hL.sc a (bZ hi)) T,o7,ay _ (by omega),o7,O5 (by omega)]
 ·rw[G5];rfl
theorem e2e {T:Int} (h0:0≤T) (h1:T≤109572):Jq mi T=true:=by
 unfold Jq
 rw[show Bv mi=true from rfl]
 simp only[o6]
 rw[H5 (show mi.1≤T from h0),F7 (show T<mi.2 by show T<109573;omega)];rfl
theorem e1N {t:V8} (h:ku t) (T:Int):ku (tOn T t):=by
 refine⟨?_,fun r hr=>?_⟩
 ·show((t.2.2.2.filter _).map _).length≤200
  rw[List.length_map]
  exact Nat.le_trans (List.length_filter_le _ _) h.1
 ·obtain⟨q,hq,rfl⟩:=List.mem_map.1 hr
  exact h.2 q (List.mem_filter.1 hq).1
theorem e4g (t:V8) {T:Int} (h0:0≤T) (h1:T≤109572) (c mode:Int):b0x (tOn T t) T c mode=b0x t T c mode:=by
 have key:∀(l:List uw) (b:Int×Int),U0 (brG T c) ((l.filter fun r=>Jq r.1 T).map fun r=>((mi,r.2):uw)) b=U0 (brG T c) l b:=by
  intro l
  induction l with
  | nil=>intro b;rfl
  | cons a l ih=>
   intro b
   rw[List.filter_cons]
   cases ha:Jq a.1 T
   ·rw[if_neg (by simp)]
    rw[ih b]
    have e:brG T c b a= .inl b:=by unfold brG;rw[ha];rfl
    simp only[U0,e]
   ·rw[if_pos rfl,List.map_cons]
    have e:brG T c b (mi,a.2)=brG T c b a:=by unfold brG;rw[ha,show Jq (mi,a.2).1 T=true from e2e h0 h1]
    simp only[U0,e]
    cases brG T c b a with
    | inl b' =>exact ih b'
    | inr r=>rfl
 unfold b0x
 rw[show(tOn T t).2.2.2=(t.2.2.2.filter fun r=>Jq r.1 T).map fun r=>((mi,r.2):uw)from rfl,key]
 rfl
theorem e2x (rows:List uw) (date key:Int):(((Qs rows date key).2=false∧rows.find? (fun r=>b0H r date key)=none)∨((Qs rows date key).2=true∧lat rows (Qs rows date key).1=rows.find? (fun r=>b0H r date key)∧(rows.find? (fun r=>b0H r date key)).isSome=true)):=by
 unfold Qs
 cases hf:P9 rows.length (Nw rows date key)with
 | none=>
  left
  refine⟨rfl,List.find?_eq_none.2 fun r hr=>?_⟩
  obtain⟨i,hi,e⟩:=List.getElem_of_mem hr
  have:=uI hf i hi
  unfold Nw at this
  rw[Y8 hi,e]at this
  simp only at this
  cases hm:b0H r date key <;> rw[hm]at this
  ·simp
  ·cases this
 | some x=>
  right
  have h1:∃l1 a l2,List.range rows.length=l1++a::l2∧Nw rows date key a=some x∧∀j∈l1,Nw rows date key j=none:=List.findSome?_eq_some_iff.1 hf
  obtain⟨l1,a,l2,e1,e2,e3⟩:=h1
  have hlen:l1.length=a:=by
   have:(List.range rows.length)[l1.length]? =some a:=by rw[e1];simp
   rw[List.getElem?_range (by have:=congrArg List.length e1;simp at this;omega)]at this
   exact Option.some.inj this
  have hl1:l1=List.range a:=by
   have h:=congrArg (List.take a) e1
   rw[List.take_range,List.take_append_of_le_length (by omega),List.take_of_length_le (by omega),Nat.min_eq_left (by have:=congrArg List.length e1;simp at this;omega)]at h
   exact h.symm
  unfold Nw at e2
  cases hr:rows[a]? with
  | none=>rw[hr]at e2;cases e2
  | some r=>
   rw[hr]at e2
   simp only at e2
   cases hm:b0H r date key <;> rw[hm]at e2
   ·cases e2
   cases e2
   have hfind:rows.find? (fun r=>b0H r date key)=some r:=by
    obtain⟨ha,e⟩:=O6.1 hr
    refine List.find?_eq_some_iff_getElem.2 ⟨hm,a,ha,e,fun j hj=>?_⟩
    have h4:=e3 j (by rw[hl1];exact List.mem_range.2 hj)
    unfold Nw at h4
    rw[Y8 (by omega)]at h4
    simp only at h4
    cases hq:b0H rows[j] date key <;> rw[hq]at h4
    ·rfl
    ·cases h4
   refine⟨rfl,?_,by rw[hfind];rfl⟩
   show lat rows ((a:Nat):Int)=_
   rw[D8,hr,hfind]
theorem e3R (rows:List uw) {T:Int} (h0:0≤T) (h1:T≤109572) (key:Int):((rows.filter fun r=>Jq r.1 T).map fun r=>((mi,r.2):uw)).find? (fun r=>b0H r T key)=(rows.find? fun r=>b0H r T key).map fun r=>((mi,r.2):uw):=by
 induction rows with
 | nil=>rfl
 | cons a l ih=>
  rw[List.filter_cons]
  cases ha:Jq a.1 T
  ·rw[if_neg (by simp),ih]
   have e:b0H a T key=false:=by unfold b0H;rw[ha];rfl
   rw[List.find?_cons,e]
  ·rw[if_pos rfl,List.map_cons,List.find?_cons,List.find?_cons]
   have e:b0H (mi,a.2) T key=b0H a T key:=by unfold b0H;rw[ha,show Jq (mi,a.2).1 T=true from e2e h0 h1]
   rw[e]
   cases b0H a T key
   ·exact ih
   ·rfl
theorem e2X {t:V8} (hr:ku t) {T:Int} (h0:0≤T) (h1:T≤109572) (x:V3):Ed (tOn T t) T x=Ed t T x:=by
 have hr2:=e1N hr T
 unfold Ed
 have e1:(tOn T t).2.1=t.2.1:=rfl
 have e2:(tOn T t).2.2.1=t.2.2.1:=rfl
 rw[e1,e2,a0k T x.2.2 (show t.2.2.2.length≤1000000 by have:=hr.1;omega),a0k T x.2.2 (show(tOn T t).2.2.2.length≤1000000 by have:=hr2.1;omega)]
 have ef:=e3R t.2.2.2 h0 h1 x.2.2
 have ef:(tOn T t).2.2.2.find? (fun r=>b0H r T x.2.2)=(t.2.2.2.find? fun r=>b0H r T x.2.2).map fun r=>((mi,r.2):uw):=ef
 rcases e2x t.2.2.2 T x.2.2 with⟨a1,a2⟩ | ⟨a1,a2,a3⟩ <;> rcases e2x (tOn T t).2.2.2 T x.2.2 with⟨b1,b2⟩ | ⟨b1,b2,b3⟩
 ·simp only[o7,a1,b1,D9,o6]
 ·rw[ef,a2]at b3;cases b3
 ·rw[ef]at b2
  obtain⟨r,hr⟩:=Option.isSome_iff_exists.1 a3
  rw[hr]at b2;cases b2
 ·obtain⟨r,hr⟩:=Option.isSome_iff_exists.1 a3
  simp only[o7,a1,b1,o9,o5,a2,b2,ef,hr,Option.map_some]
def e1F (env:P5):P5:=(env.1,env.2.1,env.2.2.1,env.2.2.2.1,env.2.2.2.2.1,env.2.2.2.2.2.map (tOn env.1))
theorem e3Q {env:P5} (h:EvOk env):EvOk (e1F env):=⟨h.ms,fun t ht=>by
 obtain⟨q,hq,rfl⟩:=List.mem_map.1 ht
 exact e1N (h.tb q hq) env.1⟩
theorem e1v {α β:Type} (f:α→β) (l:List α) (i:Int):lat (l.map f) i=(lat l i).map f:=by
 unfold lat
 split
 ·rw[List.getElem?_map]
 ·rfl
theorem e3a {env:P5} (hE:EvOk env) (h0:0≤env.1) (h1:env.1≤109572) (n:Int×Int) (x:V3):fV n x (e1F env)=fV n x env:=by
 obtain⟨T,i,D,M,TY,B⟩:=env
 have hB:=hE.tb
 simp only at h0 h1 hB
 unfold fV e1F
 simp only
 have e33:(l9 (lat (B.map (tOn T)) n.2) fun(x_1:V8)=>l9 (Ed x_1 T x) fun(x:V3×Int)=>some (Sum.inr x:V3⊕(V3×Int)))=l9 (lat B n.2) fun(x_1:V8)=>l9 (Ed x_1 T x) fun(x:V3×Int)=>some (Sum.inr x):=by
  rw[e1v]
  cases hl:lat B n.2 with
  | none=>rfl
  | some t=>simp only[Option.map_some,o7,e2X (hB t (V5 hl).2.2.1) h0 h1]
 rw[e33]
 have e34:∀(K:V3),(l9 (lat (B.map (tOn T)) (X4 .i64 n.2 8)) fun(x_1:V8)=>l9 (l7 (D6 (ieq x.1 3)) (some (Sum.inr ((0,0,0),8))) (l7 (D6 (ieq x_1.2.1.1 3)) (some (Sum.inr ((0,0,0),8))) (l7 (D6 (ieq x_1.2.1.2 0)) (some (Sum.inr ((0,0,0),8))) (l7 (D6 (ieq x_1.2.2.1.1 4)) (some (Sum.inr ((0,0,0),8))) (l7 (D6 (ieq x_1.2.2.1.2 0)) (some (Sum.inr ((0,0,0),8))) (some (Sum.inl K))))))) fun(o:V3⊕(V3×Int))=>L8 o (fun(x_2:V3)=>l9 (uZ x_1 T x.2.2 (X5 n.2 8)) fun(x:Int×Int)=>l9 (jk 3 x.1 x.2) fun(x:V3×Int)=>some x) fun(r:V3×Int)=>some r)
   =(l9 (lat B (X4 .i64 n.2 8)) fun(x_1:V8)=>l9 (l7 (D6 (ieq x.1 3)) (some (Sum.inr ((0,0,0),8))) (l7 (D6 (ieq x_1.2.1.1 3)) (some (Sum.inr ((0,0,0),8))) (l7 (D6 (ieq x_1.2.1.2 0)) (some (Sum.inr ((0,0,0),8))) (l7 (D6 (ieq x_1.2.2.1.1 4)) (some (Sum.inr ((0,0,0),8))) (l7 (D6 (ieq x_1.2.2.1.2 0)) (some (Sum.inr ((0,0,0),8))) (some (Sum.inl K))))))) fun(o:V3⊕(V3×Int))=>L8 o (fun(x_2:V3)=>l9 (uZ x_1 T x.2.2 (X5 n.2 8)) fun(x:Int×Int)=>l9 (jk 3 x.1 x.2) fun(x:V3×Int)=>some x) fun(r:V3×Int)=>some r):=fun K=>by
  rw[e1v]
  cases hl:lat B (X4 .i64 n.2 8)with
  | none=>rfl
  | some t=>
   have hr:=hB t (V5 hl).2.2.1
   simp only[Option.map_some,o7,VL T x.2.2 (X5 n.2 8) hr,VL T x.2.2 (X5 n.2 8) (e1N hr T),e4g t h0 h1]
   rfl
 simp only[e34]
theorem e2d {env:P5} (hE:EvOk env) (h0:0≤env.1) (h1:env.1≤109572) (n:Int×Int) (args:List V3):uz n args (e1F env)=uz n args env:=by
 unfold uz iV
 have ef:uh n (e1F env)=uh n env:=by
  unfold uh e1F
  simp only[o8,List.length_map]
 have el:aA n (e1F env)=aA n env:=rfl
 have em:iW n (e1F env)=iW n env:=rfl
 simp only[ef,el,em,e3a hE h0 h1]
theorem e1O {env:P5} (hE:EvOk env) (h0:0≤env.1) (h1:env.1≤109572):∀t:XT,evT (e1F env) t=evT env t
 | .l0 n=>e2d hE h0 h1 n []
 | .l1 n a=>by unfold evT;rw[e1O hE h0 h1 a,e2d hE h0 h1]
 | .l2 n a b=>by unfold evT;rw[e1O hE h0 h1 a,e1O hE h0 h1 b,e2d hE h0 h1]
 | .l3 n a b c=>by unfold evT;rw[e1O hE h0 h1 a,e1O hE h0 h1 b,e1O hE h0 h1 c]
theorem e1T {env:P5} (hE:EvOk env) (h0:0≤env.1) (h1:env.1≤109572) (e:List (Int×Int)):qM e (e1F env)=qM e env:=by
 unfold qM
 cases eY e with
 | inl x=>rfl
 | inr t=>exact e1O hE h0 h1 t
end Go.GP
namespace Go.GP
open Gt
set_option maxRecDepth 100000
theorem e1C (on:Nat→Bool) (i:Nat):Jp on (i+1)=Jp on i+(if on i=true then 1 else 0):=by
 unfold Jp
 rw[List.range_succ,List.filter_append,List.length_append]
 cases h:on i <;> simp[h]
theorem e2t (on:Nat→Bool) {i j:Nat} (h:i≤j):Jp on i≤Jp on j:=by
 induction j with
 | zero=>
   have:i=0:=by omega
   subst this;omega
 | succ j ih=>
  rw[e1C]
  by_cases e:i=j+1
  ·subst e;rw[e1C];omega
  ·have:=ih (by omega);omega
theorem e3k {on:Nat→Bool} {a i:Nat} (h:a<i) (ha:on a=true):Jp on a<Jp on i:=by
 have h1:=e1C on a
 rw[if_pos ha]at h1
 have h2:=e2t on (show a+1≤i from h)
 omega
section
variable {A R R' :Nat→Bool} {par par' :Nat→Int} {n:Nat} (hRA:∀i,i<n→R i=true→A i=true) (hR:∀i,i<n→A i=true→R' (Jp A i)=R i) (hp:∀i,i<n→A i=true→par' (Jp A i)=anc A par i)
include hRA hR
theorem e2K:∀i,i≤n→Jp R' (Jp A i)=Jp R i
 | 0,_=>by unfold Jp;simp
 | i+1,hi=>by
  have ih:=e2K i (by omega)
  rw[e1C A i,e1C R i]
  cases ha:A i
  ·have hr:R i=false:=by
    cases hr:R i
    ·rfl
    ·rw[hRA i (by omega) hr]at ha;cases ha
   rw[hr];simpa using ih
  ·rw[if_pos rfl,e1C,hR i (by omega) ha,ih]
theorem e2P:∀i,i≤n→onL R' (Jp A i)=(onL R i).map (Jp A)
 | 0,_=>by unfold Jp onL;simp
 | i+1,hi=>by
  have ih:=e2P i (by omega)
  rw[e1C A i,FC R i,List.map_append]
  cases ha:A i
  ·have hr:R i=false:=by
    cases hr:R i
    ·rfl
    ·rw[hRA i (by omega) hr]at ha;cases ha
   rw[hr];simpa using ih
  ·rw[if_pos rfl,FC,hR i (by omega) ha,ih]
   cases R i <;> simp
omit hR in
theorem e4i (par:Nat→Int):∀i,i<n→(yE A par i=-1∧yE R par i=-1)∨∃a,a≤i∧A a=true∧yE A par i=(Jp A a:Int)∧yE R par i=yE R par a:=by
 intro i
 induction i using Nat.strongRecOn with
 | ind i ih=>
  intro hi
  cases ha:A i
  ·have hr:R i=false:=by
    cases hr:R i
    ·rfl
    ·rw[hRA i hi hr]at ha;cases ha
   rw[a2e A par i,a2e R par i,ha,hr,if_neg (by simp),if_neg (by simp)]
   unfold anc
   by_cases hq:0≤par i∧par i<(i:Int)
   ·rw[if_pos hq,if_pos hq]
    rcases ih (par i).toNat (by omega) (by omega)with h | ⟨a,a1,a2,a3,a4⟩
    ·exact .inl h
    ·exact .inr ⟨a,by omega,a2,a3,a4⟩
   ·rw[if_neg hq,if_neg hq];exact .inl ⟨rfl,rfl⟩
  ·exact .inr ⟨i,Nat.le_refl i,ha,by rw[a2e,if_pos ha],rfl⟩
omit hR in
theorem e4s (par:Nat→Int) {i:Nat} (hi:i<n):(anc A par i=-1∧anc R par i=-1)∨∃a,a<i∧A a=true∧anc A par i=(Jp A a:Int)∧anc R par i=yE R par a:=by
 unfold anc
 by_cases hq:0≤par i∧par i<(i:Int)
 ·rw[if_pos hq,if_pos hq]
  rcases e4i hRA par (par i).toNat (by omega)with h | ⟨a,a1,a2,a3,a4⟩
  ·exact .inl h
  ·exact .inr ⟨a,by omega,a2,a3,a4⟩
 ·rw[if_neg hq,if_neg hq];exact .inl ⟨rfl,rfl⟩
include hp
theorem e3u:∀i,i<n→A i=true→yE R' par' (Jp A i)=yE R par i∧anc R' par' (Jp A i)=anc R par i:=by
 intro i
 induction i using Nat.strongRecOn with
 | ind i ih=>
  intro hi ha
  have hanc:anc R' par' (Jp A i)=anc R par i:=by
   rcases e4s hRA par hi with⟨h1,h2⟩ | ⟨a,a1,a2,a3,a4⟩
   ·rw[h2]
    unfold anc
    rw[hp i hi ha,h1,if_neg (by omega)]
   ·rw[a4]
    have hlt:=e3k a1 a2
    unfold anc
    rw[hp i hi ha,a3,if_pos (by omega),Int.toNat_natCast]
    exact(ih a a1 (by omega) a2).1
  refine⟨?_,hanc⟩
  rw[a2e R' par',a2e R par i,hR i hi ha,hanc,e2K hRA hR i (by omega)]
end
end Go.GP
namespace Go.GP
open Gt
set_option maxRecDepth 100000
abbrev kap (s:A8) (T:Int) (i:Nat):Nat:=Jp (onA s T) i
theorem e1Q {s:A8} {T d:Int} {i:Nat} (h:onR s d T i=true):onA s T i=true:=by
 unfold onR at h
 unfold onA
 cases hr:s.2.2.2.2[i]? with
 | none=>rw[hr]at h;cases h
 | some r=>
  rw[hr]at h
  simp only at h ⊢
  cases hd:ieq r.2.1 d <;> rw[hd]at h
  ·cases h
  ·exact h
theorem e1G {s:A8} {T:Int} {i:Nat} (hi:i<s.2.2.2.2.length) (ha:onA s T i=true):(sOn T s).2.2.2.2[kap s T i]? =some (rOn s T i):=by
 show((dG s T).map (rOn s T))[Jp (onA s T) i]? =_
 rw[List.getElem?_map,show(dG s T)[Jp (onA s T) i]? =some i from a2i _ hi ha];rfl
theorem e1A {s:A8} {T:Int} {i:Nat} {r:X0} (h:s.2.2.2.2[i]? =some r):rOn s T i=(r.1,r.2.1,anc (onA s T) (CP s) i,r.2.2.2.1,mi,r.2.2.2.2.2.1,r.2.2.2.2.2.2.1,r.2.2.2.2.2.2.2):=by unfold rOn;rw[h]
section
variable {s:A8} {T:Int} (h0:0≤T) (h1:T≤109572)
include h0 h1
theorem e3w (d:Int) {i:Nat} (hi:i<s.2.2.2.2.length) (ha:onA s T i=true):onR (sOn T s) d T (kap s T i)=onR s d T i:=by
 have hr:s.2.2.2.2[i]? =some s.2.2.2.2[i]:=Y8 hi
 have hc:Jq s.2.2.2.2[i].2.2.2.2.1 T=true:=by unfold onA at ha;rw[hr]at ha;exact ha
 unfold onR
 rw[e1G hi ha,e1A hr,hr]
 simp only
 rw[hc,show Jq mi T=true from e2e h0 h1]
omit h0 h1 in
theorem e4k {i:Nat} (hi:i<s.2.2.2.2.length) (ha:onA s T i=true):CP (sOn T s) (kap s T i)=anc (onA s T) (CP s) i:=by
 have hr:s.2.2.2.2[i]? =some s.2.2.2.2[i]:=Y8 hi
 unfold CP
 rw[e1G hi ha,e1A hr]
 rfl
theorem e3B (d:Int):aN (sOn T s) d T=(aN s d T).map (kap s T):=by
 have h:=e2P (A:=onA s T) (R:=onR s d T) (R' :=onR (sOn T s) d T) (n:=s.2.2.2.2.length) (fun i hi hr=>e1Q hr) (fun i hi ha=>e3w h0 h1 d hi ha) s.2.2.2.2.length (Nat.le_refl _)
 unfold aN
 rw[show(sOn T s).2.2.2.2.length=Jp (onA s T) s.2.2.2.2.length by show((dG s T).map _).length=_;rw[List.length_map];rfl]
 exact h
theorem e3T (d:Int):W9 (sOn T s) d T=(castL ((aN s d T).map (kap s T)),(W9 s d T).2.1,(W9 s d T).2.2):=by
 unfold W9
 rw[e3B h0 h1 d,List.map_map,List.map_map]
 have e1:(aN s d T).map (anc (onR (sOn T s) d T) (CP (sOn T s))∘kap s T)=(aN s d T).map (anc (onR s d T) (CP s)):=by
  apply List.map_congr_left
  intro i hi
  obtain⟨hi,hr⟩:=CX hi
  exact(e3u (A:=onA s T) (R:=onR s d T) (R' :=onR (sOn T s) d T) (par:=CP s) (par' :=CP (sOn T s)) (n:=s.2.2.2.2.length) (fun i hi hr=>e1Q hr) (fun i hi ha=>e3w h0 h1 d hi ha) (fun i hi ha=>e4k hi ha) i hi (e1Q hr)).2
 have e2:(aN s d T).map (QM (sOn T s)∘kap s T)=(aN s d T).map (QM s):=by
  apply List.map_congr_left
  intro i hi
  obtain⟨hi,hr⟩:=CX hi
  have hr2:s.2.2.2.2[i]? =some s.2.2.2.2[i]:=Y8 hi
  show QM (sOn T s) (kap s T i)=QM s i
  unfold QM
  rw[e1G hi (e1Q hr),e1A hr2,hr2]
 rw[e1,e2]
def e2q (s:A8) (T d:Int) (a b:P5):Prop:=∀i∈aN s d T,∀r,s.2.2.2.2[i]? =some r→qM r.2.2.2.2.2.1 b=qM r.2.2.2.2.2.1 a∧qM r.2.2.2.2.2.2.1 b=qM r.2.2.2.2.2.2.1 a
omit h0 h1 in
theorem e2L {a b:P5} {m d:Int} :∀(l:List Nat) (ap:List Bool),(∀i∈l,i∈aN s d T)→e2q s T d a b→
  (∃x,U0 (DJ s a m d) (castL l) ap= .inl x∧U0 (DJ (sOn T s) b m d) (castL (l.map (kap s T))) ap= .inl x)∨(∃e e' :Int×E4,U0 (DJ s a m d) (castL l) ap= .inr e∧U0 (DJ (sOn T s) b m d) (castL (l.map (kap s T))) ap= .inr e')
 | [],ap,_,_=> .inl ⟨ap,rfl,rfl⟩
 | i::l,ap,hl,hv=>by
  obtain⟨hi,hr⟩:=CX (hl i (by simp))
  have hr2:s.2.2.2.2[i]? =some s.2.2.2.2[i]:=Y8 hi
  have hg:=(hv i (hl i (by simp)) _ hr2).1
  have e1:lat s.2.2.2.2 (i:Int)=some s.2.2.2.2[i]:=by rw[D8];exact hr2
  have e2:lat (sOn T s).2.2.2.2 ((kap s T i:Nat):Int)=some (rOn s T i):=by rw[D8];exact e1G hi (e1Q hr)
  show(∃x,U0 (DJ s a m d) ((i:Int)::castL l) ap= .inl x∧U0 (DJ (sOn T s) b m d) (((kap s T i:Nat):Int)::castL (l.map (kap s T))) ap= .inl x)∨(∃e e' :Int×E4,U0 (DJ s a m d) ((i:Int)::castL l) ap= .inr e∧U0 (DJ (sOn T s) b m d) (((kap s T i:Nat):Int)::castL (l.map (kap s T))) ap= .inr e')
  have ih:=fun ap' =>e2L (a:=a) (b:=b) (m:=m) l ap' (fun j hj=>hl j (by simp[hj])) hv
  simp only[U0]
  unfold DJ
  rw[e1,e2,e1A hr2]
  simp only
  rw[hg]
  cases ieq (o8 s.2.2.2.2[i].2.2.2.2.2.1) 0
  ·cases ieq (qM s.2.2.2.2[i].2.2.2.2.2.1 a).2 0
   ·exact .inr ⟨_,_,rfl,rfl⟩
   ·exact ih _
  ·exact ih _
theorem e2V {a b:P5} {m d:Int} (ha:a.1=T) (hb:b.1=T) (hv:e2q s T d a b):
  (∃q:Int,P8 s a m d=(q,0,0,0,0)∧P8 (sOn T s) b m d=(q,0,0,0,0)∧q<0)∨(∃i∈aN s d T,P8 s a m d=((i:Int),0,0,0,0)∧P8 (sOn T s) b m d=(((kap s T i:Nat):Int),0,0,0,0))∨((P8 s a m d).2.1≠0∧(P8 (sOn T s) b m d).2.1≠0):=by
 have ht:=e3T (s:=s) h0 h1 d
 have hL:(W9 s d T).1=castL (aN s d T):=rfl
 rcases e2L (a:=a) (b:=b) (m:=m) (aN s d T) [] (fun _ h=>h) hv with⟨x,e1,e2⟩ | ⟨e,e',e1,e2⟩
 ·have c1:P8 s a m d=l7 (ilt (Ad (W9 s d T).2.1 (W9 s d T).2.2 x) 0) (Ad (W9 s d T).2.1 (W9 s d T).2.2 x,0,0,0,0) (((W9 s d T).1.getD (Ad (W9 s d T).2.1 (W9 s d T).2.2 x).toNat 0),0,0,0,0):=by
   unfold P8;rw[ha,hL,e1]
  have c2:P8 (sOn T s) b m d=l7 (ilt (Ad (W9 s d T).2.1 (W9 s d T).2.2 x) 0) (Ad (W9 s d T).2.1 (W9 s d T).2.2 x,0,0,0,0) (((castL ((aN s d T).map (kap s T))).getD (Ad (W9 s d T).2.1 (W9 s d T).2.2 x).toNat 0),0,0,0,0):=by
   unfold P8;rw[hb,ht,e2]
  have hbd:=Wq (W9 s d T).2.1 (W9 s d T).2.2 x
  have hl:=(Gn s d T).2
  rw[hL,yU]at hl
  rw[hl]at hbd
  rw[c1,c2,hL]
  generalize Ad (W9 s d T).2.1 (W9 s d T).2.2 x=q at hbd ⊢
  by_cases g:q<0
  ·rw[F7 g];exact .inl ⟨q,rfl,rfl,g⟩
  ·rw[E9 (Int.not_lt.1 g)]
   right;left
   have hq:q.toNat<(aN s d T).length:=by omega
   refine⟨(aN s d T)[q.toNat],List.getElem_mem hq,?_,?_⟩
   ·simp only[o5,castL,qh,List.getElem?_map,Y8 hq,Option.map_some,Option.getD_some]
   ·simp only[o5,castL,qh,List.getElem?_map,Y8 hq,Option.map_some,Option.getD_some]
 ·right;right
  constructor
  ·unfold P8;rw[ha,hL,e1];exact gY (DJ s a m d) (fun r=>r.2.1≠0) (fun b i r h=>Qi b i r h) _ _ _ e1
  ·unfold P8;rw[hb,ht,e2];exact gY (DJ (sOn T s) b m d) (fun r=>r.2.1≠0) (fun b i r h=>Qi b i r h) _ _ _ e2
theorem e3m {a b:P5} {m d:Int} (ha:a.1=T) (hb:b.1=T) (hv:e2q s T d a b):
  (∃v r r',Bq s a m d= .inl (v,r)∧Bq (sOn T s) b m d= .inl (v,r'))∨(∃e e',Bq s a m d= .inr e∧Bq (sOn T s) b m d= .inr e'):=by
 rcases e2V h0 h1 (m:=m) ha hb hv with⟨q,c1,c2,hq⟩ | ⟨i,hi,c1,c2⟩ | ⟨c1,c2⟩
 ·right
  unfold Bq
  rw[c1,c2]
  simp only
  rw[F5 rfl]
  simp only[o6]
  cases ieq q (-1)
  ·cases ieq q (-2)
   ·rw[jg (.inl (H7 hq)),jg (.inl (H7 hq))];exact⟨_,_,rfl,rfl⟩
   ·exact⟨_,_,rfl,rfl⟩
  ·exact⟨_,_,rfl,rfl⟩
 ·obtain⟨hl,hr⟩:=CX hi
  have hr2:s.2.2.2.2[i]? =some s.2.2.2.2[i]:=Y8 hl
  have hg:=(hv i hi _ hr2).2
  have e1:lat s.2.2.2.2 (i:Int)=some s.2.2.2.2[i]:=by rw[D8];exact hr2
  have e2:lat (sOn T s).2.2.2.2 ((kap s T i:Nat):Int)=some (rOn s T i):=by rw[D8];exact e1G hl (e1Q hr)
  unfold Bq
  rw[c1,c2]
  simp only
  rw[F5 (rfl:(0:Int)=0),E5 (show(i:Int)≠-1 by omega),E5 (show(i:Int)≠-2 by omega),E5 (show((kap s T i:Nat):Int)≠-1 by omega),E5 (show((kap s T i:Nat):Int)≠-2 by omega)]
  simp only[o6,o5]
  rw[e1,e2,e1A hr2]
  simp only
  rw[hg]
  cases ieq (qM s.2.2.2.2[i].2.2.2.2.2.2.1 a).2 0
  ·exact .inr ⟨_,_,rfl,rfl⟩
  ·exact .inl ⟨_,_,_,rfl,rfl⟩
 ·right
  unfold Bq
  rw[E5 c1,E5 c2]
  exact⟨_,_,rfl,rfl⟩
end
end Go.GP
namespace Go.GP
open Gt
set_option maxRecDepth 100000
theorem e3C {s:A8} {env:P5} {m:Int} {V:List V3} (ht:a3I s (kJ s).1) (hf:∀d,0≤d→d<nD s→d∈(kJ s).1) (hV:V.length=s.2.2.2.1.length)
  (h:∀d,0≤d→d<nD s→∀B:List V3,B.length=s.2.2.2.1.length→(∀x∈H9 s d,lat B x=lat V x)→∃v r,Bq s (qU env B) m d= .inl (v,r)∧lat V d=some v):
  ∃X,scS s env m (ah s.2.2.2.1.length)= .inl X∧X.1=V:=by
 have key:∀(suf pre:List Int) (B:DB),(kJ s).1=pre++suf→B.1.length=s.2.2.2.1.length→(∀x∈pre,lat B.1 x=lat V x)→∃X,U0 (scG s env m (ah s.2.2.2.1.length)) suf B= .inl X∧X.1.length=s.2.2.2.1.length∧∀x∈pre++suf,lat X.1 x=lat V x:=by
  intro suf
  induction suf with
  | nil=>intro pre B _ hl hB;exact⟨B,rfl,hl,by simpa using hB⟩
  | cons d suf ih=>
   intro pre B he hl hB
   have hd:d∈(kJ s).1:=by rw[he];simp
   obtain⟨d0,d1⟩:=ht.2.1 d hd
   obtain⟨v,r,h1,h2⟩:=h d d0 d1 B.1 hl (fun x hx=>hB x (ht.2.2 pre d suf he x hx))
   have hg:scG s env m (ah s.2.2.2.1.length) B d= .inl (B.1.set d.toNat v,B.2.set d.toNat r):=by
    unfold scG
    rw[RY d0 (by unfold nD o8 at d1;omega),h1];rfl
   obtain⟨X,x1,x2,x3⟩:=ih (pre++[d]) (B.1.set d.toNat v,B.2.set d.toNat r) (by rw[he];simp) (by simp[hl]) (fun x hx=>by
    by_cases hxd:x=d
    ·subst hxd
     show lat (B.1.set x.toNat v) x=_
     rw[zC _ d0 (by unfold nD at d1;unfold o8 at d1 ⊢;omega),h2]
    ·have hx:x∈pre:=by
      rcases List.mem_append.1 hx with hx | hx
      ·exact hx
      ·exact absurd (by simpa using hx) hxd
     show lat (B.1.set d.toNat v) x=_
     rw[lY _ d0 hxd];exact hB x hx)
   refine⟨X,?_,x2,fun x hx=>x3 x (by simpa using hx)⟩
   unfold U0;rw[hg];exact x1
 obtain⟨X,x1,x2,x3⟩:=key (kJ s).1 [] (List.replicate s.2.2.2.1.length (0,0,0),List.replicate s.2.2.2.1.length 0) rfl (by simp) (by simp)
 refine⟨X,x1,?_⟩
 apply List.ext_getElem?
 intro i
 by_cases hi:i<s.2.2.2.1.length
 ·have:=x3 (i:Int) (by simpa using hf (i:Int) (by omega) (by unfold nD o8;omega))
  rw[D8,D8]at this;exact this
 ·rw[List.getElem?_eq_none (by omega),List.getElem?_eq_none (by omega)]
structure OnOk (s:A8) (T:Int):Prop where
 h0:0≤T
 h1:T≤109572
 t1:a3I s (kJ s).1
 f1:∀d,0≤d→d<nD s→d∈(kJ s).1
 t2:a3I (sOn T s) (kJ (sOn T s)).1
 f2:∀d,0≤d→d<nD s→d∈(kJ (sOn T s)).1
 r1:∀d,SA s (fun x=>x∈H9 s d) (fun _=>True) d
 r2:∀d,SA (sOn T s) (fun x=>x∈H9 (sOn T s) d) (fun _=>True) d
theorem e3s (s:A8) (T:Int):(sOn T s).2.2.2.1=s.2.2.2.1:=rfl
theorem e2a {s:A8} {T d:Int} (hO:OnOk s T) {i:Nat} (hi:i∈aN s d T) {r:X0} (hr:s.2.2.2.2[i]? =some r) {e:List (Int×Int)} (he:e=r.2.2.2.2.2.1∨e=r.2.2.2.2.2.2.1):
  (∀x∈(Y4 e).2.1,x∈H9 s d)∧∀x∈(Y4 e).2.1,x∈H9 (sOn T s) d:=by
 obtain⟨hl,ho⟩:=CX hi
 have hd:r.2.1=d:=by
  unfold onR at ho
  rw[hr]at ho
  simp only at ho
  cases h3:ieq r.2.1 d <;> rw[h3]at ho
  ·cases ho
  ·exact P6.1 h3
 refine⟨(hO.r1 d r (bZ hr) hd e he).1,?_⟩
 have h2:=e1G hl (e1Q ho)
 rw[e1A hr]at h2
 exact(hO.r2 d _ (bZ h2) hd e he).1
theorem e3Z {s:A8} {env:P5} {m T:Int} (hO:OnOk s T) (hE:EvOk env) (hT:env.1=T):
  (∀X,scS s env m (ah s.2.2.2.1.length)= .inl X→∃X',scS (sOn T s) (e1F env) m (ah s.2.2.2.1.length)= .inl X' ∧X'.1=X.1)∧∀X',scS (sOn T s) (e1F env) m (ah s.2.2.2.1.length)= .inl X' →∃X,scS s env m (ah s.2.2.2.1.length)= .inl X∧X.1=X'.1:=by
 have hE' :=e3Q hE
 have heq:∀B,qU (e1F env) B=e1F (qU env B):=fun B=>rfl
 have h0:0≤env.1:=by rw[hT];exact hO.h0
 have h1:env.1≤109572:=by rw[hT];exact hO.h1
 constructor
 ·intro X hX
  obtain⟨x1,_⟩:=Be hX
  refine e3C (s:=sOn T s) hO.t2 hO.f2 x1 (fun d d0 d1 B hB hag=>?_)
  obtain⟨v,r,k1,k2,k3⟩:=ZC hE hO.t1 hX (hO.f1 d d0 d1) (RY d0 (by have:d<nD s:=d1;unfold nD o8 at this;omega)) (hO.r1 d)
  have hv:e2q s T d (qU env X.1) (qU (e1F env) B):=fun i hi q hq=>by
   have hs:Sim (fun x=>x∈H9 (sOn T s) d) (fun _=>True) (qU env B) (qU env X.1):=⟨rfl,rfl,rfl,by show B.length=X.1.length;rw[x1];exact hB,fun x hx=>hag x hx,rfl,fun _ _=>rfl⟩
   rw[heq B]
   rw[e1T (rQ hE B) h0 h1,e1T (rQ hE B) h0 h1]
   exact⟨Ua hs (rQ hE B) (rQ hE X.1) (e2a hO hi hq (.inl rfl)).2 (fun _ _=>trivial),Ua hs (rQ hE B) (rQ hE X.1) (e2a hO hi hq (.inr rfl)).2 (fun _ _=>trivial)⟩
  rcases e3m hO.h0 hO.h1 (m:=m) (show(qU env X.1).1=T from hT) (show(qU (e1F env) B).1=T from hT) hv with⟨w,a,b,e1,e2⟩ | ⟨a,b,e1,_⟩
  ·rw[k3]at e1
   cases e1
   exact⟨v,b,e2,k1⟩
  ·rw[k3]at e1;cases e1
 ·intro X' hX'
  obtain⟨x1,_⟩:=Be hX'
  refine e3C (s:=s) hO.t1 hO.f1 x1 (fun d d0 d1 B hB hag=>?_)
  obtain⟨v,r,k1,k2,k3⟩:=ZC hE' hO.t2 hX' (hO.f2 d d0 d1) (RY d0 (by unfold nD o8 at d1;omega)) (hO.r2 d)
  have hv:e2q s T d (qU env B) (qU (e1F env) X'.1):=fun i hi q hq=>by
   have hs:Sim (fun x=>x∈H9 s d) (fun _=>True) (qU env X'.1) (qU env B):=⟨rfl,rfl,rfl,by show X'.1.length=B.length;rw[hB];exact x1,fun x hx=>(hag x hx).symm,rfl,fun _ _=>rfl⟩
   rw[heq X'.1]
   rw[e1T (rQ hE X'.1) h0 h1,e1T (rQ hE X'.1) h0 h1]
   exact⟨Ua hs (rQ hE X'.1) (rQ hE B) (e2a hO hi hq (.inl rfl)).1 (fun _ _=>trivial),Ua hs (rQ hE X'.1) (rQ hE B) (e2a hO hi hq (.inr rfl)).1 (fun _ _=>trivial)⟩
  rcases e3m hO.h0 hO.h1 (m:=m) (show(qU env B).1=T from hT) (show(qU (e1F env) X'.1).1=T from hT) hv with⟨w,a,b,e1,e2⟩ | ⟨a,b,_,e2⟩
  ·rw[k3]at e2
   cases e2
   exact⟨v,a,e1,k1⟩
  ·rw[k3]at e2;cases e2
theorem e3X {l:L6} {c:U8} {ms:A8} (hO:OnOk ms c.1) (hT:∀t∈l.2.1,ku t):∀(L:List (List V3×Nat)) (b b' :List DB),b.map (·.1)=b'.map (·.1)→
  (∃X X',U0 (mG l c ms (ah ms.2.2.2.1.length)) L b= .inl X∧U0 (mG (lOn c.1 l) c (sOn c.1 ms) (ah ms.2.2.2.1.length)) L b' = .inl X' ∧X.map (·.1)=X'.map (·.1))∨(∃e e',U0 (mG l c ms (ah ms.2.2.2.1.length)) L b= .inr e∧U0 (mG (lOn c.1 l) c (sOn c.1 ms) (ah ms.2.2.2.1.length)) L b' = .inr e')
 | [],b,b',h=> .inl ⟨b,b',rfl,rfl,h⟩
 | a::L,b,b',h=>by
  have hs:=e3Z (env:=JI l c a.1) (m:=(a.2:Int)) hO (JJ hT c a.1) rfl
  have he:e1F (JI l c a.1)=JI (lOn c.1 l) c a.1:=rfl
  rw[he]at hs
  unfold U0 mG
  cases h1:scS ms (JI l c a.1) (a.2:Int) (ah ms.2.2.2.1.length)with
  | inl x=>
   obtain⟨x',e1,e2⟩:=hs.1 x h1
   rw[e1]
   exact e3X hO hT L (b++[x]) (b' ++[x']) (by simp[h,e2])
  | inr e=>
   cases h2:scS (sOn c.1 ms) (JI (lOn c.1 l) c a.1) (a.2:Int) (ah ms.2.2.2.1.length)with
   | inl x' =>
    obtain⟨x,e1,_⟩:=hs.2 x' h2
    rw[h1]at e1;cases e1
   | inr e' =>exact .inr ⟨_,_,rfl,rfl⟩
theorem e1D (T:Int):sOn T rY=rY:=rfl
theorem e2y (l:L6) (s:A8) (T:Int):G9 (lOn T l) (sOn T s)=sOn T (G9 l s):=by
 unfold G9
 show l7 (ile 0 s.2.1) ((lat (l.2.2.map (sOn T)) s.2.1).getD rY) rY=_
 rw[e1v]
 cases ile 0 s.2.1
 ·exact(e1D T).symm
 ·cases lat l.2.2 s.2.1 with
  | none=>exact(e1D T).symm
  | some q=>rfl
theorem e4n {l:L6} {s:A8} {c:U8} (hO:OnOk s c.1) (hM:OnOk (G9 l s) c.1) (hT:∀t∈l.2.1,ku t) (hc:c.2.2.length≤1000):
  ((YA l s c).2.1=0∧(YA (lOn c.1 l) (sOn c.1 s) c).2.1=0∧(YA l s c).1.1=(YA (lOn c.1 l) (sOn c.1 s) c).1.1∧(YA l s c).1.2.2.length=(YA (lOn c.1 l) (sOn c.1 s) c).1.2.2.length)∨((YA l s c).2.1≠0∧(YA (lOn c.1 l) (sOn c.1 s) c).2.1≠0∧(YA l s c).1=([],[],[])∧(YA (lOn c.1 l) (sOn c.1 s) c).1=([],[],[])):=by
 unfold YA
 rw[e2y,e3s,e3s]
 unfold mS
 rcases e3X (l:=l) (c:=c) hM hT c.2.2.zipIdx [] [] rfl with⟨b,b',e1,e2,e3⟩ | ⟨e,e',e1,e2⟩
 ·rw[e1,e2]
  simp only
  have hbl:b.length=c.2.2.length:=Fp (ms:=G9 l s) e1
  have hb:b.length=b'.length:=by have:=congrArg List.length e3;simpa using this
  have he:ig (lOn c.1 l) (sOn c.1 s) c b' =e1F (ig l s c b):=by
   unfold ig e1F
   rw[e2y,e3s,←e3];rfl
  have hs:=e3Z (env:=ig l s c b) (m:=-1) hO (ny hT s c (by omega)) rfl
  rw[he]
  cases h1:scS s (ig l s c b) (-1) (ah s.2.2.2.1.length)with
  | inl x=>
   obtain⟨x',q1,q2⟩:=hs.1 x h1
   rw[q1]
   exact .inl ⟨rfl,rfl,q2.symm,hb⟩
  | inr e=>
   cases h2:scS (sOn c.1 s) (e1F (ig l s c b)) (-1) (ah s.2.2.2.1.length)with
   | inl x' =>
    obtain⟨x,q1,_⟩:=hs.2 x' h2
    rw[h1]at q1;cases q1
   | inr e' =>exact .inr ⟨xn h1,xn h2,rfl,rfl⟩
 ·rw[e1,e2]
  exact .inr ⟨gY _ (fun r=>r.1≠0) Lm _ _ _ e1,gY _ (fun r=>r.1≠0) Lm _ _ _ e2,rfl,rfl⟩
end Go.GP
