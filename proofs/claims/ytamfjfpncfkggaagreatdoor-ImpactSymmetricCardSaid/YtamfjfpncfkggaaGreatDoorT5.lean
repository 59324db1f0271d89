import Derived.Test.YtamfjfpncfkggaaGreatDoorT4
set_option linter.all false
namespace Go.GP
open Gt
set_option maxRecDepth 100000
theorem vI {m:Int} (h:eH m=true):m=0∨m=1∨m=2∨m=3∨m=4∨m=5:=by
 unfold eH at h
 cases h0:ile 0 m <;> rw[h0]at h
 ·cases h
 ·simp only[o6]at h;rw[iG]at h0 h;omega
theorem vS {n d mode:Int} (h1:-9000000000000000000≤n / d) (h2:n / d≤9000000000000000000) (hd:0<d) (hd2:d≤9000000000000000000) (hm:eH mode=true):c4n (n / d) (n % d) d mode=some (rnd n d mode):=by
 have hdm:=Int.ediv_mul_add_emod n d
 have f0:=Int.emod_nonneg n (show d≠0 by omega)
 have f1:=Int.emod_lt_of_pos n hd
 have hid:J4 d=d:=by unfold J4;rw[if_neg (by omega)]
 have hneg:E5 (bI (ilt n 0) (ilt d 0))=ilt n 0:=by rw[D9 (show(0:Int)≤d by omega)];cases ilt n 0 <;> rfl
 unfold rnd
 rw[hid,hneg]
 have R0:∀F R:Int,c4n F R d 0=l7 (ieq R 0) (some F) (some F):=fun F R=>rfl
 have R1:∀F R:Int,c4n F R d 1=l7 (ieq R 0) (some F) (some (x9 .i64 F 1)):=fun F R=>rfl
 have R2:∀F R:Int,c4n F R d 2=l7 (ieq R 0) (some F) (o5 (l7 (ilt F 0) (some true) (some false)) fun x=>l7 x (some (x9 .i64 F 1)) (some F)):=fun F R=>rfl
 have R3:∀F R:Int,c4n F R d 3=l7 (ieq R 0) (some F) (o5 (some (ile 0 F)) fun x=>l7 x (some (x9 .i64 F 1)) (some F)):=fun F R=>rfl
 have R4:∀F R:Int,c4n F R d 4=l7 (ieq R 0) (some F) (l7 (ieq R (G8 .i64 d R)) (l7 (ile 0 F) (some (x9 .i64 F 1)) (some F)) (l7 (ilt (G8 .i64 d R) R) (some (x9 .i64 F 1)) (some F))):=fun F R=>rfl
 have R5:∀F R:Int,c4n F R d 5=l7 (ieq R 0) (some F) (l7 (ieq R (G8 .i64 d R)) (l7 (E5 (ieq (dH F 2) 0)) (some (x9 .i64 F 1)) (some F)) (l7 (ilt (G8 .i64 d R) R) (some (x9 .i64 F 1)) (some F))):=fun F R=>rfl
 have u0:∀q r:Int,∀b,upS q r d b 0=l7 (ieq r 0) false b:=fun q r b=>rfl
 have u1:∀q r:Int,∀b,upS q r d b 1=l7 (ieq r 0) false (E5 b):=fun q r b=>rfl
 have u2:∀q r:Int,∀b,upS q r d b 2=l7 (ieq r 0) false false:=fun q r b=>rfl
 have u3:∀q r:Int,∀b,upS q r d b 3=l7 (ieq r 0) false true:=fun q r b=>rfl
 have u4:∀q r:Int,∀b,upS q r d b 4=l7 (ieq r 0) false (ile (d -r) r):=fun q r b=>rfl
 have u5:∀q r:Int,∀b,upS q r d b 5=l7 (ieq r 0) false (l7 (ilt (d -r) r) true (l7 (ieq r (d -r)) (ieq (dH q 2) 1) false)):=fun q r b=>rfl
 by_cases h0:0≤n
 ·have e0:=Int.ediv_nonneg h0 (show 0≤d by omega)
  have e1:=Int.ediv_le_self d h0
  rw[show J4 n=n by unfold J4;rw[if_neg (by omega)],D9 h0]
  have hi:x9 .i64 (n / d) 1=n / d+1:=I9 (by unfold I64;omega)
  have hs:G8 .i64 d (n % d)=d -n % d:=H5 (by unfold I64;omega)
  have hir:dH (n / d) 2=(n / d) % 2:=ny e0
  generalize n / d=F at*
  generalize n % d=R at*
  rcases vI hm with rfl | rfl | rfl | rfl | rfl | rfl
  ·rw[R0,u0];cases ieq R 0 <;> rfl
  ·rw[R1,u1,hi];cases ieq R 0 <;> rfl
  ·rw[R2,u2,hi,D9 e0];cases ieq R 0 <;> rfl
  ·rw[R3,u3,hi,F7 e0];cases ieq R 0 <;> rfl
  ·rw[R4,u4,hi,hs,F7 e0]
   cases ieq R 0
   case true=>rfl
   by_cases ht:R=d -R
   ·rw[F5 ht,F7 (show d -R≤R by omega)];rfl
   ·rw[D8 ht]
    by_cases hl:d -R<R
    ·rw[E9 hl,F7 (show d -R≤R by omega)];rfl
    ·rw[D9 (show R≤d -R by omega),F8 (show R<d -R by omega)];rfl
  ·rw[R5,u5,hi,hs,hir]
   cases ieq R 0
   case true=>rfl
   by_cases ht:R=d -R
   ·rw[F5 ht,D9 (show R≤d -R by omega)]
    by_cases hp:F % 2=0
    ·rw[F5 hp,D8 (show F % 2≠1 by omega)];rfl
    ·rw[D8 hp,F5 (show F % 2=1 by omega)];rfl
   ·rw[D8 ht]
    by_cases hl:d -R<R
    ·rw[E9 hl];rfl
    ·rw[D9 (show R≤d -R by omega)];rfl
 ·obtain⟨m,hmm⟩:∃m,m=-n:=⟨_,rfl⟩
  have e0:=Int.ediv_nonneg (show 0≤m by omega) (show 0≤d by omega)
  have e1:=Int.ediv_le_self d (show 0≤m by omega)
  have e2:=Int.emod_nonneg m (show d≠0 by omega)
  have e3:=Int.emod_lt_of_pos m hd
  have hdm2:=Int.ediv_mul_add_emod m d
  rw[show J4 n=m by unfold J4;rw[if_pos (by omega)];omega,E9 (by omega)]
  by_cases hz:m % d=0
  ·have hne:n=0+(-(m / d))*d:=by rw[Int.neg_mul];omega
   have q1:n / d=-(m / d):=by rw[hne,Int.add_mul_ediv_right _ _ (by omega)];simp
   have q2:n % d=0:=by rw[hne,Int.add_mul_emod_self_right];simp
   rw[q1,q2,hz]
   rcases vI hm with rfl | rfl | rfl | rfl | rfl | rfl <;> rfl
  ·have hne:n=(d -m % d)+(-(m / d) -1)*d:=by rw[Int.sub_mul,Int.neg_mul,Int.one_mul];omega
   have q1:n / d=-(m / d) -1:=by
    rw[hne,Int.add_mul_ediv_right _ _ (by omega),Int.ediv_eq_zero_of_lt (by omega) (by omega)];omega
   have q2:n % d=d -m % d:=by
    rw[hne,Int.add_mul_emod_self_right,Int.emod_eq_of_lt (by omega) (by omega)]
   rw[q1]at h1 h2
   rw[q1,q2]
   generalize m / d=q at*
   generalize m % d=r at*
   have hi:x9 .i64 (-q -1) 1=-q:=by rw[I9 (by unfold I64;omega)];omega
   have hs:G8 .i64 d (d -r)=r:=by rw[H5 (by unfold I64;omega)];omega
   have hF:∀k:Int,Go.GP.q1 q false=q∧Go.GP.q1 q true=q+1:=fun k=>⟨rfl,rfl⟩
   have sg1:sg (Go.GP.q1 q true) true=-q -1:=by show -(q+1)=-q -1;omega
   have sg0:sg (Go.GP.q1 q false) true=-q:=rfl
   have hr0:ieq (d -r) 0=false:=D8 (by omega)
   have hr1:ieq r 0=false:=D8 hz
   rcases vI hm with rfl | rfl | rfl | rfl | rfl | rfl
   ·rw[R0,u0,hr0,hr1,l9,l9,sg1]
   ·rw[R1,u1,hi,hr0,hr1,l9,l9,o9,sg0]
   ·rw[R2,u2,hi,hr0,hr1,l9,l9,sg0,E9 (by omega)];rfl
   ·rw[R3,u3,hi,hr0,hr1,l9,l9,sg1,F8 (by omega)];rfl
   ·rw[R4,u4,hi,hs,hr0,hr1,l9,l9,F8 (show -q -1<0 by omega)]
    by_cases ht:d -r=r
    ·rw[F5 ht,F7 (show d -r≤r by omega),sg1];rfl
    ·rw[D8 ht]
     by_cases hl:r<d -r
     ·rw[E9 hl,F8 hl,sg0];rfl
     ·rw[D9 (show d -r≤r by omega),F7 (show d -r≤r by omega),sg1];rfl
   ·rw[R5,u5,hi,hs,hr0,hr1,l9,l9]
    by_cases ht:d -r=r
    ·rw[F5 ht,D9 (show r≤d -r by omega),F5 ht.symm]
     have hodd:dH (-q -1) 2=-((q+1) % 2):=by
      unfold dH
      rw[show -q -1=-(q+1) by omega,Int.neg_tmod,Int.tmod_eq_emod_of_nonneg (by omega)]
     have hir:dH q 2=q % 2:=ny e0
     rw[hodd,hir]
     simp only[o6,l9]
     by_cases hp:q % 2=1
     ·rw[F5 (show -((q+1) % 2)=0 by omega),F5 hp,sg1];rfl
     ·rw[D8 (show -((q+1) % 2)≠0 by omega),D8 hp,sg0];rfl
    ·rw[D8 ht,D8 (show r≠d -r by omega)]
     by_cases hl:r<d -r
     ·rw[E9 hl,D9 (show r≤d -r by omega)]
      simp only[o6,l9];rw[sg0]
     ·rw[D9 (show d -r≤r by omega),E9 (show d -r<r by omega)]
      simp only[o6,l9];rw[sg1]
def Yp (a b mode:Int):Int×Int:=l7 (eH mode) (l7 (bD a 1000000000) (0,3) (l7 (bD b 1000000000) (0,3) (l7 (bD (rnd (a*b) 1000000 mode) 1000000000) (0,3) (rnd (a*b) 1000000 mode,0)))) (0,1)
theorem XV {a b A B:Int} (h1:-A≤a∧a≤A) (h2:-B≤b∧b≤B):-(A*B)≤a*b∧a*b≤A*B:=by
 have hA:0≤A:=by omega
 have hB:0≤B:=by omega
 have k1:a*b≤A*B∧-(A*B)≤a*b:=by
  rcases BJ a 0 with ha | ha
  ·have e:a*b=-((-a)*b):=by rw[Int.neg_mul];omega
   rcases BJ b 0 with hb | hb
   ·have e2:a*b=(-a)*(-b):=by rw[Int.neg_mul_neg]
    have:=Int.mul_le_mul (show -a≤A by omega) (show -b≤B by omega) (by omega) hA
    have:=Int.mul_nonneg (show 0≤-a by omega) (show 0≤-b by omega)
    have:=Int.mul_nonneg hA hB
    omega
   ·have:=Int.mul_le_mul (show -a≤A by omega) h2.2 hb hA
    have:=Int.mul_nonneg (show 0≤-a by omega) hb
    have:=Int.mul_nonneg hA hB
    omega
  ·rcases BJ b 0 with hb | hb
   ·have e:a*b=-(a*(-b)):=by rw[Int.mul_neg];omega
    have:=Int.mul_le_mul h1.2 (show -b≤B by omega) (by omega) hA
    have:=Int.mul_nonneg ha (show 0≤-b by omega)
    have:=Int.mul_nonneg hA hB
    omega
   ·have:=Int.mul_le_mul h1.2 h2.2 hb hA
    have:=Int.mul_nonneg ha hb
    have:=Int.mul_nonneg hA hB
    omega
 exact⟨k1.2,k1.1⟩
theorem a6l (a b mode:Int):zW a b mode=some (Yp a b mode):=by
 unfold zW Yp
 rw[Ic,o7]
 cases hm:eH mode
 ·rfl
 simp only[o9,l9,o6]
 rw[nG a (by omega) (by omega),o7]
 cases h1:bD a 1000000000
 case true=>rfl
 simp only[l9]
 rw[nG b (by omega) (by omega),o7]
 cases h2:bD b 1000000000
 case true=>rfl
 simp only[l9]
 have pb:=XV (fP h1) (fP h2)
 rw[di (by unfold I64;omega),vC,o7]
 unfold UU
 rw[hm,D8 (show(1000000:Int)≠0 by decide),AZ (by omega),AZ (by omega)]
 simp only[o6,l9,F5 (rfl:(0:Int)=0),o9]
 rw[nG _ (by omega) (by omega),o7]
 cases bD (rnd (a*b) 1000000 mode) 1000000000 <;> rfl
theorem SY {m:Int} {A B:Option (PUnit⊕(Int×Int))} :l7 (ilt m 0) A (l7 (ilt 5 m) A B)=l7 (eH m) B A:=by
 unfold eH
 rw[iH m 0,iH 5 m]
 cases ile 0 m <;> cases ile m 5 <;> rfl
theorem a2V (a b mode:Int):c5v a b mode=some (Yp a b mode):=by
 unfold c5v Yp
 have hmode:∀A B:Option (Int×Int),l7 (ilt mode 0) A (l7 (ilt 5 mode) A B)=l7 (eH mode) B A:=fun A B=>by
  unfold eH
  rw[iH mode 0,iH 5 mode]
  cases ile 0 mode <;> cases ile mode 5 <;> rfl
 rw[hmode]
 cases hm:eH mode
 ·rfl
 simp only[o6]
 rw[lJ a (by omega) (by omega),o7]
 cases h1:bD a 1000000000
 case true=>rfl
 simp only[l9]
 rw[lJ b (by omega) (by omega),o7]
 cases h2:bD b 1000000000
 case true=>rfl
 simp only[l9]
 have pb:=XV (fP h1) (fP h2)
 rw[di (by unfold I64;omega),RU (by omega) (by omega) (by omega) (by omega),o7]
 simp only
 rw[vS (by omega) (by omega) (by omega) (by omega) hm,o7,lJ _ (by omega) (by omega),o7]
 cases bD (rnd (a*b) 1000000 mode) 1000000000 <;> rfl
theorem VS {n d:Int} (mode:Int) (hd:0<d):n / d≤rnd n d mode∧rnd n d mode≤n / d+1:=by
 have hid:J4 d=d:=by unfold J4;rw[if_neg (by omega)]
 have hneg:E5 (bI (ilt n 0) (ilt d 0))=ilt n 0:=by rw[D9 (show(0:Int)≤d by omega)];cases ilt n 0 <;> rfl
 unfold rnd
 rw[hid,hneg]
 by_cases h0:0≤n
 ·rw[show J4 n=n by unfold J4;rw[if_neg (by omega)],D9 h0]
  exact Lj _ _
 ·obtain⟨m,hmm⟩:∃m,m=-n:=⟨_,rfl⟩
  have e2:=Int.emod_nonneg m (show d≠0 by omega)
  have e3:=Int.emod_lt_of_pos m hd
  have hdm2:=Int.ediv_mul_add_emod m d
  rw[show J4 n=m by unfold J4;rw[if_pos (by omega)];omega,E9 (by omega)]
  have hq:=Lj (m / d) (upS (m / d) (m % d) d true mode)
  by_cases hz:m % d=0
  ·have hne:n=0+(-(m / d))*d:=by rw[Int.neg_mul];omega
   have q1:n / d=-(m / d):=by rw[hne,Int.add_mul_ediv_right _ _ (by omega)];simp
   have hu:upS (m / d) (m % d) d true mode=false:=by unfold upS;rw[F5 hz];rfl
   rw[q1,hu]
   show -(m / d)≤-(m / d)∧-(m / d)≤-(m / d)+1
   omega
  ·have hne:n=(d -m % d)+(-(m / d) -1)*d:=by rw[Int.sub_mul,Int.neg_mul,Int.one_mul];omega
   have q1:n / d=-(m / d) -1:=by
    rw[hne,Int.add_mul_ediv_right _ _ (by omega),Int.ediv_eq_zero_of_lt (by omega) (by omega)];omega
   rw[q1]
   show -(m / d) -1≤-(Go.GP.q1 _ _)∧-(Go.GP.q1 _ _)≤_
   omega
theorem a6m (n d mode:Int) (hd:d<0):rnd n d mode=rnd (-n) (-d) mode:=by
 have e1:J4 (-n)=J4 n:=by unfold J4;split <;> split <;> omega
 have e2:J4 (-d)=J4 d:=by unfold J4;rw[if_neg (by omega),if_pos hd]
 unfold rnd
 rw[e1,e2,E9 hd,D9 (show 0≤-d by omega)]
 by_cases h0:n=0
 ·subst h0
  have hz:J4 0=0:=rfl
  rw[hz,Int.zero_ediv,Int.zero_emod]
  have hu:∀b,upS 0 0 (J4 d) b mode=false:=fun b=>rfl
  rw[hu,hu];rfl
 ·by_cases h1:n<0
  ·rw[E9 h1,D9 (show 0≤-n by omega)];rfl
  ·rw[D9 (by omega),E9 (show -n<0 by omega)];rfl
def a6c (num den mode:Int):Int×Int:=l7 (eH mode) (l7 (ieq den 0) (0,12) (l7 (bD num 1000000000000000) (0,3) (l7 (bD den 1000000000000000) (0,3) (l7 (bD (rnd (num*1000000) den mode) 1000000000) (0,3) (rnd (num*1000000) den mode,0))))) (0,1)
theorem DZ {n:Int} (h:-9000000000000000000≤n) (h2:n≤9000000000000000000):wrap .u64 (gu n (G8 .i64 0 n))=J4 n:=by
 rw[H5 (by unfold I64;omega)]
 unfold gu J4
 by_cases h0:n<0
 ·rw[if_pos (by omega),if_pos h0,show(0:Int) -n=-n by omega]
  exact sS (by omega) (by omega)
 ·rw[if_neg h0]
  by_cases hz:n=0
  ·subst hz;rfl
  ·rw[if_neg (by omega)];exact sS (by omega) (by omega)
theorem PR (num den mode:Int):lK num den mode=some (a6c num den mode):=by
 unfold lK a6c
 rw[Ic,o7]
 cases hm:eH mode
 ·rfl
 simp only[o9,l9,o6]
 cases hd:ieq den 0
 case true=>rfl
 rw[pW]at hd
 simp only[l9]
 rw[nG num (by omega) (by omega),o7]
 cases h1:bD num 1000000000000000
 case true=>rfl
 simp only[l9]
 rw[nG den (by omega) (by omega),o7]
 cases h2:bD den 1000000000000000
 case true=>rfl
 simp only[l9]
 have b1:=fP h1;have b2:=fP h2
 have a1:=bY num;have a2:=mg b1;have d1:=zq hd;have d2:=mg b2
 rw[DZ (by omega) (by omega),DZ (by omega) (by omega),Em a1 (by omega) (by omega) (by omega),o7]
 have hN:J4 (num*1000000)=J4 num*1000000:=by unfold J4;split <;> split <;> omega
 have hsgn:ilt (num*1000000) 0=ilt num 0:=by
  by_cases h:num<0
  ·rw[E9 h,E9 (by omega)]
  ·rw[D9 (by omega),D9 (by omega)]
 have hA:0≤J4 num*1000000:=by omega
 have hrn:rnd (num*1000000) den mode=sg (q1 (J4 num*1000000 / J4 den) (upS (J4 num*1000000 / J4 den) (J4 num*1000000 % J4 den) (J4 den) (E5 (bI (ilt num 0) (ilt den 0))) mode)) (E5 (bI (ilt num 0) (ilt den 0))):=by
  unfold rnd;rw[hN,hsgn]
 rw[hrn]
 have hA2:J4 num*1000000<18446744073709551616*1000:=by omega
 generalize J4 num*1000000=A at*
 generalize J4 den=b at*
 generalize E5 (bI (ilt num 0) (ilt den 0))=neg at*
 have hre:A / 18446744073709551616*18446744073709551616+A % 18446744073709551616=A:=by omega
 have q:=Lj (A / b) (upS (A / b) (A % b) b neg mode)
 have e0:=Int.ediv_nonneg hA (show 0≤b by omega)
 have e2:=Int.emod_nonneg A (show b≠0 by omega)
 have e3:=Int.emod_lt_of_pos A d1
 rw[a0S (by omega) _ (by omega)]
 by_cases hh:b≤A / 18446744073709551616
 ·have hge:18446744073709551616≤A / b:=Int.le_ediv_of_mul_le d1 (by omega)
  rw[F7 hh,E9 (show(1000000000:Int)<q1 (A / b) (upS (A / b) (A % b) b neg mode) by omega)];rfl
 ·rw[F8 (by omega),l9,JH (by omega) (by omega) (by omega) (by omega) (by omega),o7,hre]
  simp only
  by_cases hM:1000000000<A / b
  ·rw[E9 hM,E9 (show(1000000000:Int)<q1 (A / b) (upS (A / b) (A % b) b neg mode) by omega)];rfl
  ·have w1:wrap .i64 (A / b)=A / b:=dB (by unfold I64;omega)
   have w2:x9 .i64 (A / b) 1=A / b+1:=I9 (by unfold I64;omega)
   have w3:G8 .i64 0 (A / b+1)=-(A / b+1):=by rw[H5 (by unfold I64;omega)];omega
   have w4:G8 .i64 0 (A / b)=-(A / b):=by rw[H5 (by unfold I64;omega)];omega
   rw[D9 (by omega),l9,TW _ _ e2 e3 (by omega),o7,w1,w2,w3,w4]
   unfold Go.GP.q1 sg
   cases upS (A / b) (A % b) b neg mode
   ·simp only[l9]
    cases ilt 1000000000 (A / b) <;> cases neg <;> rfl
   ·simp only[o6]
    cases ilt 1000000000 (A / b+1) <;> cases neg <;> rfl
theorem Ll {n d mode:Int} (h1:-1000000000000000≤n) (h2:n≤1000000000000000) (hd:0<d) (hd2:d≤1000000000000000) (hm:eH mode=true):
  (o5 (c4X n d) fun(x:Int×Int)=>o5 (c4w x.1 1001) fun(x_1:Bool)=>l7 x_1 (some ((0:Int),(3:Int))) (o5 (uA .i64 (U6 .i64 x.2 1000) d) fun(x_2:Int)=>o5 (zt (U6 .i64 x.2 1000) d) fun(x_3:Int)=>
   o5 (uA .i64 (U6 .i64 x_3 1000) d) fun(x_4:Int)=>o5 (zt (U6 .i64 x_3 1000) d) fun(x_5:Int)=>o5 (c4n (x9 .i64 (x9 .i64 (U6 .i64 x.1 1000000) (U6 .i64 x_2 1000)) x_4) x_5 d mode) fun(x:Int)=>
    o5 (c4w x 1000000000) fun(x_6:Bool)=>l7 x_6 (some (0,3)) (some (x,0))))=some (l7 (bD (rnd (n*1000000) d mode) 1000000000) (0,3) (rnd (n*1000000) d mode,0)):=by
 have hdm:=Int.ediv_mul_add_emod n d
 have r0:=Int.emod_nonneg n (show d≠0 by omega)
 have r1:=Int.emod_lt_of_pos n hd
 have hrb:=VS (n:=n*1000000) mode hd
 rw[RU (by omega) (by omega) hd (by omega),o7]
 simp only
 rw[lJ _ (by omega) (by omega),o7]
 have hN:n*1000000=n % d*1000000+(n / d*1000000)*d:=by rw[Int.mul_right_comm];omega
 have hF:n*1000000 / d=n % d*1000000 / d+n / d*1000000:=by rw[hN,Int.add_mul_ediv_right _ _ (by omega)]
 have hR:n*1000000 % d=n % d*1000000 % d:=by rw[hN,Int.add_mul_emod_self_right]
 have s0:0≤n % d*1000000 / d:=Int.ediv_nonneg (by omega) (by omega)
 have s1:n % d*1000000 / d<1000000:=Int.ediv_lt_of_lt_mul hd (by omega)
 cases hb:bD (n / d) 1001
 case true=>
  have hbb:=UK hb
  have:bD (rnd (n*1000000) d mode) 1000000000=true:=DI.2 (by omega)
  rw[this];rfl
 have bb:=fP hb
 simp only[l9]
 generalize n % d=r at*
 generalize n / d=q at*
 have t1:U6 .i64 r 1000=r*1000:=di (by unfold I64;omega)
 have e1:=Int.ediv_mul_add_emod (r*1000) d
 have e2:=Int.emod_nonneg (r*1000) (show d≠0 by omega)
 have e3:=Int.emod_lt_of_pos (r*1000) hd
 have e4:=Int.ediv_nonneg (show 0≤r*1000 by omega) (show 0≤d by omega)
 have e5:r*1000 / d<1000:=Int.ediv_lt_of_lt_mul hd (by omega)
 rw[t1,kG (by omega) (by omega) hd,o7,oQ (by omega) hd,o7]
 generalize hr1:r*1000 % d=r1 at*
 generalize ha:r*1000 / d=a at*
 have t2:U6 .i64 r1 1000=r1*1000:=di (by unfold I64;omega)
 have f1:=Int.ediv_mul_add_emod (r1*1000) d
 have f2:=Int.emod_nonneg (r1*1000) (show d≠0 by omega)
 have f3:=Int.emod_lt_of_pos (r1*1000) hd
 have f4:=Int.ediv_nonneg (show 0≤r1*1000 by omega) (show 0≤d by omega)
 have f5:r1*1000 / d<1000:=Int.ediv_lt_of_lt_mul hd (by omega)
 rw[t2,kG (by omega) (by omega) hd,o7,oQ (by omega) hd,o7]
 have hr6:r*1000000=r1*1000+(a*1000)*d:=by rw[Int.mul_right_comm];omega
 have hF2:r*1000000 / d=r1*1000 / d+a*1000:=by rw[hr6,Int.add_mul_ediv_right _ _ (by omega)]
 have hR2:r*1000000 % d=r1*1000 % d:=by rw[hr6,Int.add_mul_emod_self_right]
 rw[di (show I64 (q*1000000) by unfold I64;omega),di (show I64 (a*1000) by unfold I64;omega),I9 (show I64 (q*1000000+a*1000) by unfold I64;omega),I9 (show I64 (q*1000000+a*1000+r1*1000 / d) by unfold I64;omega)]
 rw[show q*1000000+a*1000+r1*1000 / d=n*1000000 / d by rw[hF,hF2];omega,show r1*1000 % d=n*1000000 % d by rw[hR,hR2]]
 rw[vS (by rw[hF];omega) (by rw[hF];omega) hd (by omega) hm,o7,lJ _ (by omega) (by omega),o7]
 cases bD (rnd (n*1000000) d mode) 1000000000 <;> rfl
theorem Nk (num den mode:Int):c4T num den mode=some (a6c num den mode):=by
 unfold c4T a6c
 rw[SY]
 cases hm:eH mode
 ·rfl
 simp only[o6,o7,D7]
 cases hd:ieq den 0
 case true=>rfl
 rw[pW]at hd
 simp only[l9]
 rw[lJ num (by omega) (by omega),o7]
 cases h1:bD num 1000000000000000
 case true=>rfl
 simp only[l9]
 rw[lJ den (by omega) (by omega),o7]
 cases h2:bD den 1000000000000000
 case true=>rfl
 simp only[l9]
 have b1:=fP h1;have b2:=fP h2
 by_cases hn:den<0
 ·rw[E9 hn,o6,H5 (show I64 (0 -num) by unfold I64;omega),H5 (show I64 (0 -den) by unfold I64;omega),show(0:Int) -num=-num by omega,show(0:Int) -den=-den by omega,a6m _ _ _ hn,show -(num*1000000)=-num*1000000 by rw[Int.neg_mul]]
  exact Ll (by omega) (by omega) (by omega) (by omega) hm
 ·rw[D9 (by omega),l9]
  exact Ll (by omega) (by omega) (by omega) (by omega) hm
def rY (len n:Int):Int×Int×Bool:=l7 (ilt 1000000000000000 (len*J4 n / 1000000)) (0,0,false) (l7 (ilt n 0) (-(len*J4 n / 1000000),-(len*J4 n % 1000000),true) (len*J4 n / 1000000,len*J4 n % 1000000,true))
theorem a5y {len n:Int} (h1:1≤len) (h2:len≤1000000000000000) (hn:I64 n):jX len n=some (rY len n):=by
 unfold I64 at hn
 have key:∀m:Int,m=J4 n→(o5 (jr (wrap .u64 len) m) fun(x:Int×Int)=>l7 (ile 1000000 x.1) (some ((0:Int),(0:Int),false)) (o5 (dF x.1 x.2 1000000) fun(x:Int×Int)=>l7 (ilt 1000000000000000 x.1) (some (0,0,false))
   (l7 (ilt n 0) (some (G8 .i64 0 (wrap .i64 x.1),G8 .i64 0 (wrap .i64 x.2),true)) (some (wrap .i64 x.1,wrap .i64 x.2,true)))))=some (rY len n):=by
  intro m hm
  have m0:=bY n
  have m1:m≤9223372036854775808:=by rw[hm];unfold J4;split <;> omega
  rw[←hm]at m0
  rw[show wrap .u64 len=len from sS (by omega) (by omega),Em (by omega) (by omega) m0 (by omega),o7]
  unfold rY
  rw[←hm]
  have hA:0≤len*m:=Int.mul_nonneg (by omega) m0
  generalize len*m=A at*
  have hre:A / 18446744073709551616*18446744073709551616+A % 18446744073709551616=A:=by omega
  simp only
  by_cases hh:1000000≤A / 18446744073709551616
  ·rw[F7 hh,E9 (show(1000000000000000:Int)<A / 1000000 by omega)];rfl
  ·rw[F8 (by omega),l9,JH (by omega) (by omega) (by omega) (by omega) (by omega),o7,hre]
   simp only
   by_cases hM:1000000000000000<A / 1000000
   ·rw[E9 hM];rfl
   ·rw[D9 (by omega),l9,l9,show wrap .i64 (A / 1000000)=A / 1000000 from dB (by unfold I64;omega),show wrap .i64 (A % 1000000)=A % 1000000 from dB (by unfold I64;omega),H5 (by unfold I64;omega),H5 (by unfold I64;omega),
     show(0:Int) -A / 1000000=-(A / 1000000) by omega,show(0:Int) -A % 1000000=-(A % 1000000) by omega]
    cases ilt n 0 <;> rfl
 unfold jX
 by_cases h0:n<0
 ·have hk:=key (G8 .u64 0 (wrap .u64 n)) (by
   show IntKind.wrap .u64 (0 -IntKind.wrap .u64 n)=_
   unfold J4;rw[if_pos h0,nO,nO];omega)
  rw[E9 h0]at hk ⊢
  exact hk
 ·have hk:=key (wrap .u64 n) (by
   show IntKind.wrap .u64 n=_
   unfold J4;rw[if_neg h0,nO];omega)
  rw[D9 (by omega)]at hk ⊢
  exact hk
theorem a2R {len n:Int} (h1:1≤len) (h2:len≤1000000000000000) (hn:I64 n):c4V len n=some (rY len n):=by
 unfold I64 at hn
 have hm:(l7 (ilt n 0) (some (x9 .u64 (wrap .u64 (G8 .i64 0 (x9 .i64 n 1))) 1)) (some (wrap .u64 n)))=some (J4 n):=by
  by_cases h0:n<0
  ·rw[E9 h0,o6,I9 (by unfold I64;omega),H5 (by unfold I64;omega),show wrap .u64 (0 -(n+1))=-n -1 from(sS (by omega) (by omega)).trans (by omega),show x9 .u64 (-n -1) 1=-n from(sS (by omega) (by omega)).trans (by omega)]
   unfold J4;rw[if_pos h0]
  ·rw[D9 (by omega),l9,show wrap .u64 n=n from sS (by omega) (by omega)]
   unfold J4;rw[if_neg h0]
 have m0:=bY n
 have m1:J4 n≤9223372036854775808:=by unfold J4;split <;> omega
 unfold c4V rY
 rw[hm,o7]
 generalize J4 n=m at*
 have c1:az .u64 m 1000000=m / 1000000:=by unfold az;rw[aU m0,sS (by omega) (by omega)]
 have c2:dH m 1000000=m % 1000000:=ny m0
 have c3:wrap .i64 (m / 1000000)=m / 1000000:=dB (by unfold I64;omega)
 have c4:wrap .i64 (m % 1000000)=m % 1000000:=dB (by unfold I64;omega)
 have c5:az .i64 len 1000000=len / 1000000:=by rw[pX (by rw[aU (by omega)];unfold I64;omega),aU (by omega)]
 have c6:dH len 1000000=len % 1000000:=ny (by omega)
 rw[c1,c2,c3,c4,c5,c6]
 have hmd:m=m / 1000000*1000000+m % 1000000:=by omega
 have b0:0≤m % 1000000:=by omega
 have b1:m % 1000000<1000000:=by omega
 have a0:0≤m / 1000000:=by omega
 have a1:m / 1000000≤9223372036855:=by omega
 have hA:len*m=(len*(m / 1000000)+len / 1000000*(m % 1000000))*1000000+len % 1000000*(m % 1000000):=by
  have e1:len*m=len*(m / 1000000)*1000000+len*(m % 1000000):=by
   calc len*m=len*(m / 1000000*1000000+m % 1000000):=by rw[←hmd]
    _=_:=by rw[Int.mul_add,Int.mul_assoc]
  have e2:len*(m % 1000000)=len / 1000000*(m % 1000000)*1000000+len % 1000000*(m % 1000000):=by
   calc len*(m % 1000000)=(len / 1000000*1000000+len % 1000000)*(m % 1000000):=by rw[show len / 1000000*1000000+len % 1000000=len by omega]
    _=_:=by rw[Int.add_mul,Int.mul_right_comm]
  rw[e1,e2];omega
 have l0:0≤len % 1000000*(m % 1000000):=Int.mul_nonneg (by omega) b0
 have l1:len % 1000000*(m % 1000000)≤1000000*1000000:=Int.mul_le_mul (by omega) (by omega) b0 (by omega)
 have p0:0≤len / 1000000*(m % 1000000):=Int.mul_nonneg (by omega) b0
 have p1:len / 1000000*(m % 1000000)≤1000000000*1000000:=Int.mul_le_mul (by omega) (by omega) b0 (by omega)
 have k0:0≤len*(m / 1000000):=Int.mul_nonneg (by omega) a0
 have c7:U6 .i64 (len % 1000000) (m % 1000000)=len % 1000000*(m % 1000000):=di (by unfold I64;omega)
 have c8:U6 .i64 (len / 1000000) (m % 1000000)=len / 1000000*(m % 1000000):=di (by unfold I64;omega)
 rw[c7,c8]
 have hdiv:len*m / 1000000=len*(m / 1000000)+len / 1000000*(m % 1000000)+len % 1000000*(m % 1000000) / 1000000:=by rw[hA];omega
 have hmod:len*m % 1000000=len % 1000000*(m % 1000000) % 1000000:=by rw[hA];omega
 rw[hdiv,hmod]
 have c9:az .i64 (len % 1000000*(m % 1000000)) 1000000=len % 1000000*(m % 1000000) / 1000000:=by rw[pX (by rw[aU l0];unfold I64;omega),aU l0]
 have c10:dH (len % 1000000*(m % 1000000)) 1000000=len % 1000000*(m % 1000000) % 1000000:=ny l0
 rw[c9,c10]
 have tail:len*(m / 1000000)≤1000000000000000→l7 (ilt 1000000000000000 (x9 .i64 (x9 .i64 (U6 .i64 len (m / 1000000)) (len / 1000000*(m % 1000000))) (len % 1000000*(m % 1000000) / 1000000))) (some ((0:Int),(0:Int),false))
   (l7 (ilt n 0) (some (G8 .i64 0 (x9 .i64 (x9 .i64 (U6 .i64 len (m / 1000000)) (len / 1000000*(m % 1000000))) (len % 1000000*(m % 1000000) / 1000000)),G8 .i64 0 (len % 1000000*(m % 1000000) % 1000000),true)) (some (x9 .i64 (x9 .i64 (U6 .i64 len (m / 1000000)) (len / 1000000*(m % 1000000))) (len % 1000000*(m % 1000000) / 1000000),len % 1000000*(m % 1000000) % 1000000,true)))=
   some (l7 (ilt 1000000000000000 (len*(m / 1000000)+len / 1000000*(m % 1000000)+len % 1000000*(m % 1000000) / 1000000)) (0,0,false) (l7 (ilt n 0) (-(len*(m / 1000000)+len / 1000000*(m % 1000000)+len % 1000000*(m % 1000000) / 1000000),-(len % 1000000*(m % 1000000) % 1000000),true) (len*(m / 1000000)+len / 1000000*(m % 1000000)+len % 1000000*(m % 1000000) / 1000000,len % 1000000*(m % 1000000) % 1000000,true))):=by
  intro hle
  rw[di (show I64 (len*(m / 1000000)) by unfold I64;omega)]
  generalize len*(m / 1000000)=K at*
  generalize len / 1000000*(m % 1000000)=P at*
  generalize len % 1000000*(m % 1000000)=L at*
  rw[I9 (show I64 (K+P) by unfold I64;omega),I9 (show I64 (K+P+L / 1000000) by unfold I64;omega),H5 (show I64 (0 -(K+P+L / 1000000)) by unfold I64;omega),H5 (show I64 (0 -L % 1000000) by unfold I64;omega),show(0:Int) -(K+P+L / 1000000)=-(K+P+L / 1000000) by omega,show(0:Int) -L % 1000000=-(L % 1000000) by omega]
  cases ilt 1000000000000000 (K+P+L / 1000000) <;> cases ilt n 0 <;> rfl
 by_cases ha:0<m / 1000000
 ·rw[E9 ha,o6,kG (by omega) (by omega) ha,o7]
  have hMx:=Int.ediv_mul_add_emod 1000000000000000 (m / 1000000)
  have hMr:=Int.emod_lt_of_pos 1000000000000000 ha
  have hMr0:=Int.emod_nonneg 1000000000000000 (show m / 1000000≠0 by omega)
  by_cases hc:1000000000000000 / (m / 1000000)<len
  ·have:=Int.mul_le_mul_of_nonneg_right (show 1000000000000000 / (m / 1000000)+1≤len by omega) a0
   rw[Int.add_mul,Int.one_mul]at this
   rw[E9 hc,E9 (show(1000000000000000:Int)<len*(m / 1000000)+len / 1000000*(m % 1000000)+len % 1000000*(m % 1000000) / 1000000 by omega)];rfl
  ·have:=Int.mul_le_mul_of_nonneg_right (show len≤1000000000000000 / (m / 1000000) by omega) a0
   rw[D9 (by omega),l9]
   exact tail (by omega)
 ·have:m / 1000000=0:=by omega
  rw[D9 (by omega),l9]
  exact tail (by rw[this];simp)
theorem LJ {F R j:Int} {mode:Int} (hm:eH mode=true) (h1:-4000000000000000000≤F) (h2:F≤4000000000000000000) (h3:-2000000000000000000≤j) (h4:j≤2000000000000000000) (hR:0≤R) (hR2:R<1000000) (hs:0≤F↔0≤F+2*j):
  c4n (F+2*j) R 1000000 mode=(c4n F R 1000000 mode).map fun v=>v+2*j:=by
 have R0:∀F R:Int,c4n F R 1000000 0=l7 (ieq R 0) (some F) (some F):=fun F R=>rfl
 have R1:∀F R:Int,c4n F R 1000000 1=l7 (ieq R 0) (some F) (some (x9 .i64 F 1)):=fun F R=>rfl
 have R2:∀F R:Int,c4n F R 1000000 2=l7 (ieq R 0) (some F) (o5 (l7 (ilt F 0) (some true) (some false)) fun x=>l7 x (some (x9 .i64 F 1)) (some F)):=fun F R=>rfl
 have R3:∀F R:Int,c4n F R 1000000 3=l7 (ieq R 0) (some F) (o5 (some (ile 0 F)) fun x=>l7 x (some (x9 .i64 F 1)) (some F)):=fun F R=>rfl
 have R4:∀F R:Int,c4n F R 1000000 4=l7 (ieq R 0) (some F) (l7 (ieq R (G8 .i64 1000000 R)) (l7 (ile 0 F) (some (x9 .i64 F 1)) (some F)) (l7 (ilt (G8 .i64 1000000 R) R) (some (x9 .i64 F 1)) (some F))):=fun F R=>rfl
 have R5:∀F R:Int,c4n F R 1000000 5=l7 (ieq R 0) (some F) (l7 (ieq R (G8 .i64 1000000 R)) (l7 (E5 (ieq (dH F 2) 0)) (some (x9 .i64 F 1)) (some F)) (l7 (ilt (G8 .i64 1000000 R) R) (some (x9 .i64 F 1)) (some F))):=fun F R=>rfl
 have hi:x9 .i64 F 1=F+1:=I9 (by unfold I64;omega)
 have hi2:x9 .i64 (F+2*j) 1=F+1+2*j:=by rw[I9 (by unfold I64;omega)];omega
 have hlt:ilt (F+2*j) 0=ilt F 0:=by
  by_cases h:0≤F
  ·rw[D9 h,D9 (hs.1 h)]
  ·rw[E9 (by omega),E9 (by have:=fun h' =>h (hs.2 h');omega)]
 have hle:ile 0 (F+2*j)=ile 0 F:=by rw[vH,vH,hlt]
 have hpar:ieq (dH (F+2*j) 2) 0=ieq (dH F 2) 0:=by
  unfold dH ieq
  congr 1
  have e1:∀x:Int,x.tmod 2=0↔x % 2=0:=fun x=>by
   rw[←Int.dvd_iff_tmod_eq_zero,Int.dvd_iff_emod_eq_zero]
  simp only[e1]
  congr 1;omega
 rcases vI hm with rfl | rfl | rfl | rfl | rfl | rfl
 ·rw[R0,R0];cases ieq R 0 <;> rfl
 ·rw[R1,R1,hi,hi2];cases ieq R 0 <;> rfl
 ·rw[R2,R2,hi,hi2,hlt];cases ieq R 0 <;> cases ilt F 0 <;> rfl
 ·rw[R3,R3,hi,hi2,hle];cases ieq R 0 <;> cases ile 0 F <;> rfl
 ·rw[R4,R4,hi,hi2,hle];cases ieq R 0 <;> cases ieq R (G8 .i64 1000000 R) <;> cases ile 0 F <;> cases ilt (G8 .i64 1000000 R) R <;> rfl
 ·rw[R5,R5,hi,hi2,hpar];cases ieq R 0 <;> cases ieq R (G8 .i64 1000000 R) <;> cases ieq (dH F 2) 0 <;> cases ilt (G8 .i64 1000000 R) R <;> rfl
theorem a0m {n j mode:Int} (hm:eH mode=true) (h1:-4000000000000000000≤n) (h2:n≤4000000000000000000) (h3:-2000000000000000≤j) (h4:j≤2000000000000000) (hs:0≤n↔0≤n+2*j*1000000):rnd (n+2*j*1000000) 1000000 mode=rnd n 1000000 mode+2*j:=by
 have a1:=vS (n:=n) (d:=1000000) (mode:=mode) (by omega) (by omega) (by omega) (by omega) hm
 have a2:=vS (n:=n+2*j*1000000) (d:=1000000) (mode:=mode) (by omega) (by omega) (by omega) (by omega) hm
 rw[show(n+2*j*1000000) / 1000000=n / 1000000+2*j by omega,show(n+2*j*1000000) % 1000000=n % 1000000 by omega,
  LJ hm (by omega) (by omega) (by omega) (by omega) (by omega) (by omega) (by omega),a1]at a2
 exact(Option.some.inj a2).symm
def Ny (W L mode:Int):Int×Int:=l7 (bD (rnd (W*1000000+L) 1000000 mode) 1000000000000000) (0,3) (rnd (W*1000000+L) 1000000 mode,0)
theorem Md {V p L j mode:Int} (hm:eH mode=true) (hV:-2000000000000000≤V) (hV2:V≤2000000000000000) (hp:-3≤p) (hp2:p≤3) (hL:-1000000<L) (hL2:L<1000000) (hj:V -p=2*j) (hs:0≤p*1000000+L↔0≤V*1000000+L):
  (o5 (aI (x9 .i64 (U6 .i64 p 1000000) L) 1000000 mode) fun(x:Int×Int)=>l7 (E5 (ieq x.2 0)) (some ((0:Int),x.2)) (l7 (ilt (x9 .i64 (G8 .i64 V p) x.1) (-1000000000000000)) (some (0,3)) (l7 (ilt 1000000000000000 (x9 .i64 (G8 .i64 V p) x.1)) (some (0,3)) (some (x9 .i64 (G8 .i64 V p) x.1,0)))))=
  some (Ny V L mode):=by
 rw[di (show I64 (p*1000000) by unfold I64;omega),I9 (show I64 (p*1000000+L) by unfold I64;omega),H5 (show I64 (V -p) by unfold I64;omega),vC,o7]
 unfold UU
 rw[hm,D8 (show(1000000:Int)≠0 by decide),AZ (by omega),AZ (by omega)]
 have hb:=VS (n:=p*1000000+L) (d:=1000000) mode (by omega)
 have hsh:=a0m (n:=p*1000000+L) (j:=j) hm (by omega) (by omega) (by omega) (by omega) (by rw[show p*1000000+L+2*j*1000000=V*1000000+L by omega];exact hs)
 rw[show p*1000000+L+2*j*1000000=V*1000000+L by omega]at hsh
 simp only[o6,l9,F5 (rfl:(0:Int)=0),o9]
 unfold Ny bD
 rw[hsh,hj,I9 (show I64 (2*j+rnd (p*1000000+L) 1000000 mode) by unfold I64;omega),show rnd (p*1000000+L) 1000000 mode+2*j=2*j+rnd (p*1000000+L) 1000000 mode by omega]
 cases ilt (2*j+rnd (p*1000000+L) 1000000 mode) (-1000000000000000) <;> cases ilt 1000000000000000 (2*j+rnd (p*1000000+L) 1000000 mode) <;> rfl
theorem YP {n d:Int} (hd:0<d):(0≤n→0≤n.tmod d∧n.tmod d<d)∧(n≤0→-d<n.tmod d∧n.tmod d≤0):=by
 refine⟨fun h=>?_,fun h=>?_⟩
 ·rw[Int.tmod_eq_emod_of_nonneg h]
  exact⟨Int.emod_nonneg n (by omega),Int.emod_lt_of_pos n hd⟩
 ·obtain⟨m,hm⟩:∃m,n=-m:=⟨-n,by omega⟩
  subst hm
  rw[Int.neg_tmod,Int.tmod_eq_emod_of_nonneg (by omega)]
  have:=Int.emod_nonneg m (show d≠0 by omega)
  have:=Int.emod_lt_of_pos m hd
  omega
theorem TV {W L mode:Int} (hm:eH mode=true) (hW:-1000000000000000000≤W) (hW2:W≤1000000000000000000) (hL:-1000000000≤L) (hL2:L≤1000000000):qC W L mode=some (Ny W L mode):=by
 unfold qC
 have hd:=Int.tdiv_mul_add_tmod L 1000000
 have htm:=YP (n:=L) (d:=1000000) (by omega)
 have t1:az .i64 L 1000000=L.tdiv 1000000:=pX (by unfold I64;omega)
 have t2:dH L 1000000=L.tmod 1000000:=rfl
 have hr1:-1000000<L.tmod 1000000:=by omega
 have hr2:L.tmod 1000000<1000000:=by omega
 rw[t1,t2,I9 (show I64 (W+L.tdiv 1000000) by unfold I64;omega)]
 have hT:W*1000000+L=(W+L.tdiv 1000000)*1000000+L.tmod 1000000:=by omega
 have hsum:Ny W L mode=Ny (W+L.tdiv 1000000) (L.tmod 1000000) mode:=by unfold Ny;rw[hT]
 rw[hsum]
 have hVb:-2000000000000000000≤W+L.tdiv 1000000∧W+L.tdiv 1000000≤2000000000000000000:=by omega
 generalize W+L.tdiv 1000000=V at*
 generalize L.tmod 1000000=M at*
 have hb:=VS (n:=V*1000000+M) (d:=1000000) mode (by omega)
 by_cases c1:V< -2000000000000000
 ·rw[E9 c1,o6]
  unfold Ny
  rw[DI.2 (by omega)];rfl
 by_cases c2:2000000000000000<V
 ·rw[D9 (by omega),l9,E9 c2,o6]
  unfold Ny
  rw[DI.2 (by omega)];rfl
 rw[D9 (by omega),l9,D9 (by omega),l9]
 have t3:dH V 2=V.tmod 2:=rfl
 rw[t3]
 have hv2:=Int.tdiv_mul_add_tmod V 2
 have htv:=YP (n:=V) (d:=2) (by omega)
 by_cases c3:1<V
 ·rw[E9 c3,o6,I9 (show I64 (V.tmod 2+2) by unfold I64;omega)]
  exact Md (j:=V.tdiv 2 -1) hm (by omega) (by omega) (by omega) (by omega) hr1 hr2 (by omega) (by omega)
 rw[D9 (by omega),l9]
 by_cases c4:V< -1
 ·rw[E9 c4,o6,H5 (show I64 (V.tmod 2 -2) by unfold I64;omega)]
  exact Md (j:=V.tdiv 2+1) hm (by omega) (by omega) (by omega) (by omega) hr1 hr2 (by omega) (by omega)
 rw[D9 (by omega),l9]
 exact Md (j:=V.tdiv 2) hm (by omega) (by omega) (by omega) (by omega) hr1 hr2 (by omega) (by omega)
theorem Np {W L mode:Int} (hm:eH mode=true) (hW:-1000000000000000000≤W) (hW2:W≤1000000000000000000) (hL:-1000000000≤L) (hL2:L≤1000000000):c5q W L mode=some (rnd (W*1000000+L) 1000000 mode):=by
 unfold c5q
 obtain⟨e,k1,k2⟩:=Z9 (f:=fun(x:Int×Int)=>l7 (ilt x.2 0) (some (.inl (G8 .i64 x.1 1,x9 .i64 x.2 1000000))) (some (.inr x)))
  (s:=(W,L)) (fun x=>x.1*1000000+x.2=W*1000000+L∧-1000000000≤x.2∧x.2≤1000000000∧-2000000000000000000≤x.1∧x.1≤2000000000000000000) (fun x=>x.1*1000000+x.2=W*1000000+L∧0≤x.2∧x.2≤1000000000∧-2000000000000000000≤x.1∧x.1≤2000000000000000000) (fun x=>(1000000000 -x.2).toNat) ⟨by rfl,hL,hL2,by omega,by omega⟩ (by omega) (by
  rintro⟨a,b⟩ ⟨h1,h2,h3,h4,h5⟩
  simp only at h1 h2 h3 h4 h5 ⊢
  by_cases hb:b<0
  ·left
   rw[E9 hb,o6,H5 (show I64 (a -1) by unfold I64;omega),I9 (show I64 (b+1000000) by unfold I64;omega)]
   exact⟨_,rfl,⟨by simp only;omega,by simp only;omega,by simp only;omega,by simp only;omega,by simp only;omega⟩,by simp only;omega⟩
  ·right
   rw[D9 (by omega)]
   exact⟨(a,b),rfl,h1,by omega,h3,h4,h5⟩)
 refine(iL k1 _).trans ?_
 obtain⟨a,b⟩:=e
 simp only at k2
 obtain⟨e,l1,l2⟩:=Z9 (f:=fun(x:Int×Int)=>l7 (ile 1000000 x.2) (some (.inl (x9 .i64 x.1 1,G8 .i64 x.2 1000000))) (some (.inr x)))
  (s:=(a,b)) (fun x=>x.1*1000000+x.2=W*1000000+L∧0≤x.2∧x.2≤1000000000∧-2000000000000000000≤x.1∧x.1≤2000000000000000000) (fun x=>x.1=(W*1000000+L) / 1000000∧x.2=(W*1000000+L) % 1000000) (fun x=>x.2.toNat) k2 (by simp only;omega) (by
  rintro⟨a,b⟩ ⟨h1,h2,h3,h4,h5⟩
  simp only at h1 h2 h3 h4 h5 ⊢
  by_cases hb:1000000≤b
  ·left
   rw[F7 hb,o6,I9 (show I64 (a+1) by unfold I64;omega),H5 (show I64 (b -1000000) by unfold I64;omega)]
   exact⟨_,rfl,⟨by simp only;omega,by simp only;omega,by simp only;omega,by simp only;omega,by simp only;omega⟩,by simp only;omega⟩
  ·right
   rw[F8 (by omega)]
   exact⟨(a,b),rfl,by simp only;omega,by simp only;omega⟩)
 refine(iL l1 _).trans ?_
 obtain⟨F,R⟩:=e
 simp only at l2 ⊢
 obtain⟨rfl,rfl⟩:=l2
 generalize hT:W*1000000+L=T at*
 have hid:J4 1000000=1000000:=rfl
 have hneg:E5 (bI (ilt T 0) (ilt 1000000 0))=ilt T 0:=by rw[D9 (show(0:Int)≤1000000 by omega)];cases ilt T 0 <;> rfl
 by_cases h0:0≤T
 ·rw[F7 (show 0≤T / 1000000 by omega),o6,sF _ _ (by omega) (by omega) (by omega) (by omega) (by omega),o7]
  unfold rnd
  rw[hid,hneg,D9 h0,show J4 T=T by unfold J4;rw[if_neg (by omega)]]
 ·rw[F8 (show T / 1000000<0 by omega),l9]
  unfold rnd
  rw[hid,hneg,E9 (by omega),show J4 T=-T by unfold J4;rw[if_pos (by omega)]]
  by_cases hz:T % 1000000=0
  ·rw[F5 hz,o6]
   have hu:upS (-T / 1000000) (-T % 1000000) 1000000 true mode=false:=by unfold upS;rw[F5 (show -T % 1000000=0 by omega)];rfl
   rw[hu]
   show some (T / 1000000)=some (-(-T / 1000000))
   congr 1;omega
  ·rw[D8 hz,l9,H5 (show I64 (0 -T / 1000000) by unfold I64;omega),H5 (show I64 (0 -T / 1000000 -1) by unfold I64;omega),H5 (show I64 (1000000 -T % 1000000) by unfold I64;omega),sF _ _ (by omega) (by omega) (by omega) (by omega) (by omega),o7]
   rw[show 0 -T / 1000000 -1=-T / 1000000 by omega,show 1000000 -T % 1000000=-T % 1000000 by omega]
def WX (r:rW):Prop:=I64 r.2.1∧I64 r.2.2.1∧I64 r.2.2.2
def pG (t:Y4):Prop:=t.2.2.2.length≤200∧∀r∈t.2.2.2,WX r
theorem PM {len n:Int} (h:(rY len n).2.2=true) (hl:0≤len):-1000000000000000≤(rY len n).1∧(rY len n).1≤1000000000000000∧-1000000≤(rY len n).2.1∧(rY len n).2.1≤1000000:=by
 have hA:0≤len*J4 n:=Int.mul_nonneg hl (bY n)
 unfold rY at*
 generalize len*J4 n=A at*
 cases h1:ilt 1000000000000000 (A / 1000000) <;> rw[h1]at h
 ·rw[bF]at h1
  cases ilt n 0
  ·simp only[l9];omega
  ·simp only[l9,o6];omega
 ·cases h
def brG (date c:Int) (b:Int×Int) (r:rW):(Int×Int)⊕(Int×Int):=l7 (Fz r.1 date) (l7 (ile (jM r.2.2.1 c) (gu r.2.1 0)) (.inl b)
 (l7 (rY (jM r.2.2.1 c -gu r.2.1 0) r.2.2.2).2.2 (.inl (b.1+(rY (jM r.2.2.1 c -gu r.2.1 0) r.2.2.2).1,b.2+(rY (jM r.2.2.1 c -gu r.2.1 0) r.2.2.2).2.1)) (.inr (0,3)))) (.inl b)
def a5u (t:Y4) (date c mode:Int):Int×Int:=l7 (eH mode) (l7 (U2 (ieq t.2.1.1 3) (ieq t.2.1.2 0)) (l7 (U2 (ieq t.2.2.1.1 4) (ieq t.2.2.1.2 0)) (l7 (bD c 1000000000000000) (0,3)
 (match ay (brG date c) t.2.2.2 (0,0)with | .inl b=>Ny b.1 b.2 mode | .inr r=>r)) (0,8)) (0,8)) (0,1)
def Jf (i:Nat) (b:Int×Int):Prop:=-(1000000000000000*(i:Int))≤b.1∧b.1≤1000000000000000*(i:Int)∧-(1000000*(i:Int))≤b.2∧b.2≤1000000*(i:Int)
theorem Jq {r:rW} {c:Int} (hr:WX r) (hc:-1000000000000000≤c) (hc2:c≤1000000000000000) (h:ile (jM r.2.2.1 c) (gu r.2.1 0)=false):G8 .i64 (jM r.2.2.1 c) (gu r.2.1 0)=jM r.2.2.1 c -gu r.2.1 0∧1≤jM r.2.2.1 c -gu r.2.1 0∧jM r.2.2.1 c -gu r.2.1 0≤1000000000000000:=by
 obtain⟨h1,h2,h3⟩:=hr
 obtain⟨lo,hlo⟩:∃lo:Int,r.2.1=lo:=⟨_,rfl⟩
 obtain⟨hi,hhi⟩:∃hi:Int,r.2.2.1=hi:=⟨_,rfl⟩
 rw[hlo]at h h1 ⊢;rw[hhi]at h h2 ⊢
 rw[xH]at h
 have a1:0≤gu lo 0:=by unfold gu;split <;> omega
 have a2:jM hi c≤c:=by unfold jM;split <;> omega
 refine⟨H5 (by unfold I64;omega),by omega,by omega⟩
theorem a0W {date c:Int} {r:rW} {b:Int×Int} {i:Nat} (hr:WX r) (hc:-1000000000000000≤c) (hc2:c≤1000000000000000) (hi:i≤200) (hb:Jf i b):∀b',brG date c b r= .inl b' →Jf (i+1) b' :=by
 intro b' h
 unfold Jf at*
 unfold brG at h
 cases h1:Fz r.1 date <;> rw[h1]at h
 ·cases h;omega
 simp only[o6]at h
 cases h2:ile (jM r.2.2.1 c) (gu r.2.1 0) <;> rw[h2]at h
 ·obtain⟨_,g1,g2⟩:=Jq hr hc hc2 h2
  simp only[l9]at h
  cases h3:(rY (jM r.2.2.1 c -gu r.2.1 0) r.2.2.2).2.2 <;> rw[h3]at h
  ·cases h
  ·have hbd:=PM h3 (by omega)
   cases h
   simp only
   omega
 ·cases h;omega
theorem Rj {t:Y4} (date c mode:Int) (ht:pG t):qx t date c mode=some (a5u t date c mode):=by
 unfold qx a5u
 rw[SY]
 cases hm:eH mode
 ·rfl
 simp only[o6,o7,D7]
 cases U2 (ieq t.2.1.1 3) (ieq t.2.1.2 0)
 ·rfl
 cases U2 (ieq t.2.2.1.1 4) (ieq t.2.2.1.2 0)
 ·rfl
 simp only[o9,l9,o6,o7,D7]
 have hbey:∀A B:Option (PUnit⊕(Int×Int)),l7 (ilt c (-1000000000000000)) A (l7 (ilt 1000000000000000 c) A B)=l7 (bD c 1000000000000000) A B:=fun A B=>by
  unfold bD;cases ilt c (-1000000000000000) <;> cases ilt 1000000000000000 c <;> rfl
 rw[hbey]
 cases hb:bD c 1000000000000000
 case true=>rfl
 have bb:=fP hb
 simp only[l9,o7,D7]
 refine fJ t.2.2.2 (brG date c) (fun b i=>(b.1,b.2,i)) (fun b=>b) Jf ((0,0):Int×Int) (by have:=ht.1;omega) (by unfold Jf;simp) (fun i r b hr hi hI=>?_) (fun b hI=>?_) (fun hI=>?_)
 ·have hro:=ht.2 r (fO hr)
  have hlt:=(O7.1 hr).1
  have h200:=ht.1
  refine⟨?_,a0W hro bb.1 bb.2 (by omega) hI⟩
  simp only[H9 hr,o6,F9,hr,o7,uZ]
  rw[V6 (by omega)]
  unfold brG
  cases Fz r.1 date
  ·rfl
  simp only[o9,l9,o6]
  cases h2:ile (jM r.2.2.1 c) (gu r.2.1 0)
  case true=>rfl
  obtain⟨g0,g1,g2⟩:=Jq hro bb.1 bb.2 h2
  rw[g0,a5y g1 g2 hro.2.2]
  simp only[l9,o7]
  cases h3:(rY (jM r.2.2.1 c -gu r.2.1 0) r.2.2.2).2.2
  ·rfl
  ·have hbd:=PM h3 (by omega)
   unfold Jf at hI
   rw[I9 (by unfold I64;omega),I9 (by unfold I64;omega)];rfl
 ·simp only[H8];rfl
 ·cases hf:ay (brG date c) t.2.2.2 (0,0)with
  | inr r=>rfl
  | inl b=>
   have:=hI b hf
   unfold Jf at this
   have h200:=ht.1
   simp only[D7]
   rw[TV hm (by omega) (by omega) (by omega) (by omega)];rfl
theorem Qo {t:Y4} (date c mode:Int) (ht:pG t):c5o t date c mode=some (a5u t date c mode):=by
 unfold c5o a5u
 rw[EE,o7]
 cases hm:eH mode
 ·rfl
 simp only[o9,l9,o6]
 cases U2 (ieq t.2.1.1 3) (ieq t.2.1.2 0)
 ·rfl
 cases U2 (ieq t.2.2.1.1 4) (ieq t.2.2.1.2 0)
 ·rfl
 simp only[o9,l9,o6,o7,D7]
 rw[jd c (by omega) (by omega),o7]
 cases hb:bD c 1000000000000000
 case true=>rfl
 have bb:=fP hb
 simp only[l9]
 refine fJ t.2.2.2 (brG date c) (fun b i=>(b.1,b.2,i)) (fun b=>b) Jf ((0,0):Int×Int) (by have:=ht.1;omega) (by unfold Jf;simp) (fun i r b hr hi hI=>?_) (fun b hI=>?_) (fun hI=>?_)
 ·have hro:=ht.2 r (fO hr)
  have hlt:=(O7.1 hr).1
  have h200:=ht.1
  refine⟨?_,a0W hro bb.1 bb.2 (by omega) hI⟩
  simp only[H9 hr,o6,F9,hr,o7,ED]
  rw[V6 (by omega)]
  unfold brG
  cases h2:ile (jM r.2.2.1 c) (gu r.2.1 0)
  case true=>cases Fz r.1 date <;> rfl
  simp only[l9]
  cases Fz r.1 date
  ·rfl
  obtain⟨g0,g1,g2⟩:=Jq hro bb.1 bb.2 h2
  rw[g0,a2R g1 g2 hro.2.2]
  simp only[o9,l9,o6,o7]
  cases h3:(rY (jM r.2.2.1 c -gu r.2.1 0) r.2.2.2).2.2
  ·rfl
  ·have hbd:=PM h3 (by omega)
   unfold Jf at hI
   rw[I9 (by unfold I64;omega),I9 (by unfold I64;omega)];rfl
 ·simp only[H8];rfl
 ·cases hf:ay (brG date c) t.2.2.2 (0,0)with
  | inr r=>rfl
  | inl b=>
   have:=hI b hf
   unfold Jf at this
   have h200:=ht.1
   simp only[D7]
   rw[Np hm (by omega) (by omega) (by omega) (by omega),o7,jd _ (by omega) (by omega),o7]
   unfold Ny
   cases bD (rnd (b.1*1000000+b.2) 1000000 mode) 1000000000000000 <;> rfl
def a5N (r:rW) (date key:Int):Bool:=l7 (Fz r.1 date) (l7 (ile r.2.1 key) (ilt key r.2.2.1) false) false
def Hl (rows:List rW) (date key:Int) (i:Nat):Option (Int×Bool):=match rows[i]? with | some r=>l7 (a5N r date key) (some ((i:Int),true)) none | none=>none
def KD (rows:List rW) (date key:Int):Int×Bool:=match U1 rows.length (Hl rows date key)with | some x=>x | none=>(0,false)
theorem Zz {t:Y4} (date key:Int) (ht:t.2.2.2.length≤1000000):tY t date key=some (KD t.2.2.2 date key):=by
 unfold tY jY KD
 rw[bH]
 refine Y9 (lZ (p:=Hl t.2.2.2 date key) t.2.2.2.length ht PUnit.unit (fun i hi=>?_) ?_) ?_
 rotate_left 2
 ·cases U1 t.2.2.2.length (Hl t.2.2.2 date key) <;> rfl
 ·have e:=aQ hi
  simp only[H9 e,o6,F9,e,o7,uN,uZ,Hl,a5N]
  cases Fz t.2.2.2[i].1 date
  ·rfl
  cases ile t.2.2.2[i].2.1 key
  ·rfl
  cases ilt key t.2.2.2[i].2.2.1 <;> rfl
 ·simp only[H8];rfl
theorem VP {t:Y4} (date key:Int) (ht:t.2.2.2.length≤1000000):c5u t date key=some (KD t.2.2.2 date key):=by
 unfold c5u KD
 refine Y9 (lZ (p:=Hl t.2.2.2 date key) t.2.2.2.length ht PUnit.unit (fun i hi=>?_) ?_) ?_
 rotate_left 2
 ·cases U1 t.2.2.2.length (Hl t.2.2.2 date key) <;> rfl
 ·have e:=aQ hi
  simp only[H9 e,o6,F9,e,o7,c5w,ED,Hl,a5N]
  cases Fz t.2.2.2[i].1 date
  ·rfl
  cases ile t.2.2.2[i].2.1 key
  ·rfl
  cases ilt key t.2.2.2[i].2.2.1 <;> rfl
 ·simp only[H8];rfl
theorem a1P {rows:List rW} {date key i:Int} (h:KD rows date key=(i,true)):0≤i∧i<o8 rows:=by
 unfold KD at h
 split at h
 ·rename_i x hx
  subst h
  obtain⟨k,hk,hp⟩:=dU hx
  unfold Hl at hp
  split at hp
  ·rename_i r hr
   cases hmb:a5N r date key <;> rw[hmb]at hp
   ·cases hp
   ·cases hp;simp only[o8];omega
  ·cases hp
 ·cases h
abbrev V3:Type:=Int×Int×Int
def ut (k:Int):Int×Int:=l7 (ieq k 1) (0,1) (l7 (ieq k 2) (-1000000000000,1000000000000) (l7 (ieq k 3) (-1000000000000000,1000000000000000) (l7 (ieq k 4) (-1000000000,1000000000) (l7 (ieq k 5) (0,109572) (l7 (ieq k 6) (0,15) (0,-1))))))
theorem Xi (k:Int):c5d k=some (ut k):=by
 unfold c5d ut
 cases ieq k 1 <;> cases ieq k 2 <;> cases ieq k 3 <;> cases ieq k 4 <;> cases ieq k 5 <;> cases ieq k 6 <;> rfl
def plB (v:V3):Bool:=l7 (ile (ut v.1).1 v.2.2) (l7 (ile v.2.2 (ut v.1).2) (l7 (ieq v.1 6) (l7 (ile 0 v.2.1) (ilt v.2.1 8) false) (ieq v.2.1 0)) false) false
theorem A7 (v:V3):c4t v=some (plB v):=by
 unfold c4t plB
 rw[Xi,o7,iH,iH]
 cases ile (ut v.1).1 v.2.2
 ·rfl
 cases ile v.2.2 (ut v.1).2
 ·rfl
 cases ieq v.1 6
 ·rfl
 cases ile 0 v.2.1 <;> rfl
theorem C9 (v:V3):Y5 v=some (plB v):=by
 obtain⟨k,e,n⟩:=v
 unfold Y5 plB
 simp only
 by_cases h6:k=6
 ·subst h6
  rw[show ut 6=(0,15)from rfl,F5 (rfl:(6:Int)=6)]
  simp only[o9,l9,o7,D7,D8 (show(6:Int)≠1 by decide),D8 (show(6:Int)≠2 by decide),D8 (show(6:Int)≠3 by decide),D8 (show(6:Int)≠4 by decide),D8 (show(6:Int)≠5 by decide),o6]
  rw[show ilt n 16=ile n 15 by unfold ilt ile;congr 1;simp;omega]
  cases ile 0 e <;> cases ilt e 8 <;> cases ile 0 n <;> cases ile n 15 <;> rfl
 rw[D8 h6]
 simp only[D6,o6,l9]
 by_cases he:e=0
 case neg=>
  rw[D8 he]
  simp only[D6,o6,o7,G5]
  cases ile (ut k).1 n <;> cases ile n (ut k).2 <;> rfl
 rw[F5 he]
 simp only[o9,l9,o7,D7]
 by_cases h1:k=1
 ·subst h1
  rw[show ut 1=(0,1)from rfl]
  simp only[F5 (rfl:(1:Int)=1),o6]
  by_cases n0:n=0
  ·subst n0;rfl
  by_cases n1:n=1
  ·subst n1;rfl
  rw[D8 n0,D8 n1]
  by_cases g:0≤n
  ·rw[F7 g,F8 (by omega)];rfl
  ·rw[F8 (by omega)];rfl
 rw[D8 h1,l9]
 by_cases h2:k=2
 ·subst h2
  rw[show ut 2=(-1000000000000,1000000000000)from rfl,F5 (rfl:(2:Int)=2)]
  simp only[o6]
  cases ile (-1000000000000) n <;> cases ile n 1000000000000 <;> rfl
 rw[D8 h2,l9]
 by_cases h3:k=3
 ·subst h3
  rw[show ut 3=(-1000000000000000,1000000000000000)from rfl,F5 (rfl:(3:Int)=3)]
  simp only[o6]
  cases ile (-1000000000000000) n <;> cases ile n 1000000000000000 <;> rfl
 rw[D8 h3,l9]
 by_cases h4:k=4
 ·subst h4
  rw[show ut 4=(-1000000000,1000000000)from rfl,F5 (rfl:(4:Int)=4)]
  simp only[o6]
  cases ile (-1000000000) n <;> cases ile n 1000000000 <;> rfl
 rw[D8 h4,l9]
 by_cases h5:k=5
 ·subst h5
  rw[show ut 5=(0,109572)from rfl,F5 (rfl:(5:Int)=5)]
  simp only[o6]
  cases ile 0 n <;> cases ile n 109572 <;> rfl
 rw[D8 h5,l9,show ut k=(0,-1) by unfold ut;rw[D8 h1,D8 h2,D8 h3,D8 h4,D8 h5,D8 h6];rfl]
 simp only[l9]
 by_cases g:0≤n
 ·rw[F7 g,F8 (show(-1:Int)<n by omega)];rfl
 ·rw[F8 (show n<0 by omega)];rfl
def PV (v:V3):Prop:=(∃n,v=(1,0,n)∧(n=0∨n=1))∨(∃n,v=(2,0,n)∧-1000000000000≤n∧n≤1000000000000)∨(∃n,v=(3,0,n)∧-1000000000000000≤n∧n≤1000000000000000)∨(∃n,v=(4,0,n)∧-1000000000≤n∧n≤1000000000)∨(∃n,v=(5,0,n)∧0≤n∧n≤109572)∨(∃e n,v=(6,e,n)∧0≤n∧n≤15)
theorem VL {v:V3} (h:plB v=true):PV v:=by
 obtain⟨k,e,n⟩:=v
 unfold plB at h
 simp only at h
 cases h1:ile (ut k).1 n <;> rw[h1]at h
 ·cases h
 cases h2:ile n (ut k).2 <;> rw[h2]at h
 ·cases h
 simp only[o6]at h
 rw[iG]at h1 h2
 unfold PV
 by_cases k6:k=6
 ·subst k6
  rw[show ut 6=(0,15)from rfl]at h1 h2
  exact .inr (.inr (.inr (.inr (.inr ⟨e,n,rfl,h1,h2⟩))))
 rw[D8 k6,l9,N7]at h
 subst h
 by_cases k1:k=1
 ·subst k1
  rw[show ut 1=(0,1)from rfl]at h1 h2
  exact .inl ⟨n,rfl,by simp only at h1 h2;omega⟩
 by_cases k2:k=2
 ·subst k2;exact .inr (.inl ⟨n,rfl,h1,h2⟩)
 by_cases k3:k=3
 ·subst k3;exact .inr (.inr (.inl ⟨n,rfl,h1,h2⟩))
 by_cases k4:k=4
 ·subst k4;exact .inr (.inr (.inr (.inl ⟨n,rfl,h1,h2⟩)))
 by_cases k5:k=5
 ·subst k5;exact .inr (.inr (.inr (.inr (.inl ⟨n,rfl,h1,h2⟩))))
 ·rw[show ut k=(0,-1) by unfold ut;rw[D8 k1,D8 k2,D8 k3,D8 k4,D8 k5,D8 k6];rfl]at h1 h2
  simp only at h1 h2;omega
def uP (v:V3):V3×Int:=l7 (plB v) (v,0) ((0,0,0),3)
def ML (v:V3) (c:Int):V3×Int:=l7 (ieq c 0) (uP v) ((0,0,0),c)
theorem G9 (k n:Int):c4o k n=some (uP (k,0,n)):=by
 unfold c4o uP
 rw[A7,o7]
 cases plB (k,0,n) <;> rfl
theorem H7 (k n c:Int):c4G k n c=some (ML (k,0,n) c):=by
 unfold c4G ML
 cases ieq c 0
 ·rfl
 simp only[o9,l9,o6]
 rw[G9];rfl
def c0K (b:Bool):V3×Int:=((1,0,l7 b 1 0),0)
theorem F6 (b:Bool):c4F b=some (c0K b):=by cases b <;> rfl
theorem G7 (b:Bool):gI b=some (1,0,l7 b 1 0):=by cases b <;> rfl
theorem G6 (b:Bool):uP (1,0,l7 b 1 0)=c0K b:=by cases b <;> rfl
def Zk (c:Option (V3×Int)):Option (V3×Int):=o5 c fun(x:V3×Int)=>l7 (E5 (ieq x.2 0)) (some ((0,0,0),x.2)) (o5 (Y5 x.1) fun(x_1:Bool)=>l7 (E5 x_1) (some ((0,0,0),3)) (some (x.1,0)))
theorem E8 (v:V3) (c:Int):Zk (some (v,c))=some (ML v c):=by
 unfold Zk ML uP
 simp only[o7]
 cases ieq c 0
 ·rfl
 simp only[o9,l9,o6]
 rw[C9,o7]
 cases plB v <;> rfl
theorem I7 (v:V3):ML v 0=uP v:=rfl
def EP (n:Int×Int) (args:List V3) (env:X9):Option (V3×Int):=o5 (J7 n args env) fun(x:Bool)=>l7 (E5 x) (some ((0,0,0),8)) (Zk (J8 n args env))
def RP (a0:Int×Int) (a1:List V3) (a2:X9):Option (V3×Int):=
 l7 (ieq (o8 a1) 0) (l7 (ile 36 a0.1) (l7 (ile a0.1 39) (o5 (c5g a0 a2) fun(x:V3×Int)=>some x) (o5 (c4y a0 a2) fun(x:V3×Int)=>some x)) (o5 (c4y a0 a2) fun(x:V3×Int)=>some x))
  (l7 (ieq (o8 a1) 1) (o5 (lat a1 0) fun(x:V3)=>o5 (c4K a0 x a2) fun(x:V3×Int)=>some x)
  (l7 (ieq (o8 a1) 2) (o5 (lat a1 0) fun(x:V3)=>o5 (lat a1 1) fun(x_1:V3)=>o5 (c4r a0 x x_1) fun(x:V3×Int)=>some x)
  (o5 (lat a1 0) fun(x:V3)=>o5 (lat a1 1) fun(x_1:V3)=>o5 (lat a1 2) fun(x_2:V3)=>l7 (E5 (ieq x.1 1)) (some ((0,0,0),8)) (l7 (E5 (ieq x_1.1 x_2.1)) (some ((0,0,0),8)) (l7 (E5 (ieq x_1.2.1 x_2.2.1)) (some ((0,0,0),8)) (l7 (ieq x.2.2 1) (some (x_1,0)) (some (x_2,0))))))))
def aB (n:Int×Int) (args:List V3) (env:X9):Prop:=∃r:V3×Int,RP n args env=some r∧EP n args env=some r
theorem ll0:o8 ([]:List V3)=0:=rfl
theorem ll1 (a:V3):o8 [a]=1:=rfl
theorem ll2 (a b:V3):o8 [a,b]=2:=rfl
theorem ll3 (a b c:V3):o8 [a,b,c]=3:=rfl
theorem la0 (a:V3) (l:List V3):lat (a::l) 0=some a:=rfl
theorem la1 (a b:V3) (l:List V3):lat (a::b::l) 1=some b:=rfl
theorem la2 (a b c:V3) (l:List V3):lat (a::b::c::l) 2=some c:=rfl
theorem DD (k N:Int) (env:X9) (hk:k=1∨k=2∨k=3∨k=4∨k=5):aB (k,N) [] env:=by
 rcases hk with rfl | rfl | rfl | rfl | rfl <;>
 ·unfold aB RP c4y EP J7 J8
  simp (disch:=decide) only[F5,D8,F7,F8,E9,D9,o6,l9,o7,D7,G5,o9,D6,ll0,ll1,ll2,ll3,la0,la1,la2,G9,H7,A7,C9,E8,I7,F6,G7,G6]
  exact⟨_,rfl,rfl⟩
theorem b4Z (N:Int) (env:X9):aB (6,N) [] env:=by
 unfold aB RP c4y EP J7 J8
 simp (disch:=decide) only[F5,D8,F7,F8,E9,D9,o6,l9,o7,D7,G5,o9,D6,ll0,ll1,ll2,ll3,la0,la1,la2,G9,H7,A7,C9,E8,I7,F6,G7,G6]
 unfold uP
 cases plB (6,az IntKind.i64 N 16,dH N 16) <;> exact⟨_,rfl,rfl⟩
theorem b5c (N:Int) (env:X9):aB (9,N) [] env:=by
 unfold aB RP c4y EP J7 J8
 simp (disch:=decide) only[F5,D8,F7,F8,E9,D9,o6,l9,o7,D7,G5,o9,D6,ll0,ll1,ll2,ll3,la0,la1,la2,G9,H7,A7,C9,E8,I7,F6,G7,G6]
 exact⟨_,rfl,rfl⟩
theorem b1i (N:Int) (env:X9):aB (35,N) [] env:=by
 unfold aB RP c4y EP J7 J8
 simp (disch:=decide) only[F5,D8,F7,F8,E9,D9,o6,l9,o7,D7,G5,o9,D6,ll0,ll1,ll2,ll3,la0,la1,la2,G9,H7,A7,C9,E8,I7,F6,G7,G6]
 exact⟨_,rfl,rfl⟩
theorem b5a (N:Int) (env:X9) (h:aG (7,N) env=some true):aB (7,N) [] env:=by
 unfold aG at h
 simp (disch:=decide) only[F5,D8,o6,l9]at h
 by_cases g:0≤N
 case neg=>rw[F8 (by omega)]at h;cases h
 rw[F7 g,o6]at h
 have h2:=cu.1 (Option.some.inj h)
 obtain⟨x,hx,hm⟩:=fU g h2
 unfold aB RP c4y EP J7 J8
 simp (disch:=decide) only[F5,D8,F7,F8,E9,D9,o6,l9,o7,D7,G5,o9,D6,ll0,ll1,ll2,ll3,la0,la1,la2,G9,H7,A7,C9,E8,I7,F6,G7,G6]
 rw[hx]
 simp (disch:=decide) only[F5,D8,F7,F8,E9,D9,o6,l9,o7,D7,G5,o9,D6,ll0,ll1,ll2,ll3,la0,la1,la2,G9,H7,A7,C9,E8,I7,F6,G7,G6]
 unfold uP
 cases plB x <;> exact⟨_,rfl,rfl⟩
theorem b5b (N:Int) (env:X9) (h:aG (8,N) env=some true):aB (8,N) [] env:=by
 unfold aG at h
 simp (disch:=decide) only[F5,D8,o6,l9]at h
 by_cases g:0≤N
 case neg=>rw[F8 (by omega)]at h;cases h
 rw[F7 g,o6]at h
 by_cases h2:N<o8 env.2.2.1
 case neg=>rw[D9 (by omega)]at h;cases h
 obtain⟨x,hx,hm⟩:=fU g h2
 unfold aB RP c4y EP J7 J8
 simp (disch:=decide) only[F5,D8,F7,F8,E9,D9,o6,l9,o7,D7,G5,o9,D6,ll0,ll1,ll2,ll3,la0,la1,la2,G9,H7,A7,C9,E8,I7,F6,G7,G6]
 rw[hx]
 simp (disch:=decide) only[F5,D8,F7,F8,E9,D9,o6,l9,o7,D7,G5,o9,D6,ll0,ll1,ll2,ll3,la0,la1,la2,G9,H7,A7,C9,E8,I7,F6,G7,G6]
 unfold uP
 cases plB x <;> exact⟨_,rfl,rfl⟩
def CY (k:Int) (t:Int×Int):Bool:=l7 (ieq t.2 0) (l7 (ieq k 36) (l7 (ieq t.1 2) true (ieq t.1 3)) (l7 (ieq k 39) (l7 (ile 2 t.1) (ile t.1 5) false) (ieq t.1 1))) false
theorem Qn (k:Int) (t:Int×Int):c5r k t=some (CY k t):=by
 unfold c5r CY
 cases ieq t.2 0 <;> cases ieq k 36 <;> cases ieq k 39 <;> cases ieq t.1 2 <;> cases ile 2 t.1 <;> rfl
theorem qY (t:Int):iY t=some (l7 (ile 2 t) (ile t 4) false):=by
 unfold iY
 by_cases h2:t=2
 ·subst h2;rfl
 by_cases h3:t=3
 ·subst h3;rfl
 by_cases h4:t=4
 ·subst h4;rfl
 rw[D8 h2,D8 h3,D8 h4]
 by_cases g:2≤t
 ·rw[F7 g,F8 (by omega)];rfl
 ·rw[F8 (by omega)];rfl
theorem uI (t:Int):c5k t=some (l7 (ile 2 t) (ile t 4) false):=qY t
theorem MZ (k:Int) (t:Int×Int):jS k t=some (CY k t):=by
 unfold jS CY
 cases ieq t.2 0
 ·rfl
 cases ieq k 36
 ·cases ieq k 39
  ·rfl
  ·rw[qY]
   simp only[o9,l9,o6,o7]
   by_cases g:2≤t.1
   ·rw[F7 g]
    simp only[o6]
    by_cases g4:t.1≤4
    ·rw[F7 g4,F7 (show t.1≤5 by omega)];rfl
    ·rw[F8 (by omega)]
     by_cases g5:t.1=5
     ·rw[F5 g5,F7 (by omega)];rfl
     ·rw[D8 g5,F8 (by omega)];rfl
   ·rw[F8 (by omega),D8 (by omega)];rfl
 ·cases ieq t.1 2 <;> rfl
def IG (v:V3) (t:Int×Int):Bool:=l7 (plB v) (l7 (ieq v.1 t.1) (ieq v.2.1 t.2) false) false
theorem JZ (v:V3) (t:Int×Int):pU v t=some (IG v t):=by
 unfold pU IG;rw[C9,o7]
 cases plB v <;> cases ieq v.1 t.1 <;> rfl
theorem a2U (v:V3) (t:Int×Int):c5z v t=some (IG v t):=by
 unfold c5z IG;rw[A7,o7]
 cases plB v <;> cases ieq v.1 t.1 <;> rfl
def wI (k a b:Int) (first:Bool):Int:=l7 (ieq k 36) (x9 .i64 a b) (l7 (ieq k 37) (U6 .i64 a b) (l7 (ieq k 38) (l7 (ilt a b) b a) (l7 first b (l7 (ilt a b) b a))))
theorem a2T (k a b:Int) (f:Bool):c5x k a b f=some (wI k a b f):=by
 unfold c5x wI
 cases ieq k 36 <;> cases ieq k 37 <;> cases ieq k 38 <;> cases f <;> cases ilt a b <;> rfl
def Qb (m:List V3) (N:Int) (t:Int×Int):V3⊕Int:=
 match lat m N with
 | none=> .inr 6
 | some x=>l7 (ieq x.1 0) (.inr 6) (l7 (IG x t) (.inl x) (.inr 8))
def ww (k N:Int) (t:Int×Int) (b:Int×Bool) (m:List V3):(Int×Bool)⊕(V3×Int):=
 match Qb m N t with
 | .inr c=> .inr ((0,0,0),c)
 | .inl x=>l7 (plB (t.1,0,wI k b.1 x.2.2 b.2)) (.inl (wI k b.1 x.2.2 b.2,false)) (.inr ((0,0,0),3))
def XH (k N:Int) (t:Int×Int) (ms:List (List V3)):V3×Int:=
 l7 (CY k t) (match ay (ww k N t) ms (l7 (ieq k 37) 1 0,true)with
  | .inr c=>c
  | .inl a=>l7 (ieq k 39) (l7 (ieq (o8 ms) 0) ((0,0,0),6) (uP (t.1,0,a.1))) (uP (t.1,0,a.1))) ((0,0,0),8)
theorem TG (k N:Int) (env:X9) (t:Int×Int) (ht:lat env.2.2.2.2.1 N=some t) (h0:0≤N) (hl:env.2.2.2.1.length≤1000000):c5g (k,N) env=some (XH k N t env.2.2.2.1):=by
 unfold c5g XH
 simp only[ht,o7,Qn]
 cases CY k t
 ·rfl
 simp only[o9,l9,o6]
 rw[show l7 (ieq k 37) (some (1:Int)) (some 0)=some (l7 (ieq k 37) 1 0) by cases ieq k 37 <;> rfl,o7]
 apply fJ env.2.2.2.1 (ww k N t) (fun b i=>(((0,0,0),b.1,i):V3×Int×Int)) (fun b=>(((0,0,0),b.1):V3×Int)) (fun i b=>b.2=decide (i=0)) (l7 (ieq k 37) 1 0,true) hl rfl
 ·intro i m b hi hi' hb
  have hm:=F9 env.2.2.2.1 i
  rw[hi]at hm
  have hlt:(i:Int)<o8 env.2.2.2.1:=by
   have:=O7.1 hi;obtain⟨h,_⟩:=this;unfold o8;omega
  simp only[E9 hlt,o6,hm,o7]
  refine⟨?_,?_⟩
  ·unfold ww Qb
   by_cases g:o8 m≤N
   ·rw[F7 g,iI (.inr (D9 g))];rfl
   ·rw[F8 (by omega)]
    obtain⟨x,hx,_⟩:=fU h0 (show N<o8 m by omega)
    simp only[l9,hx,o7]
    cases ieq x.1 0
    case true=>rfl
    simp only[l9,o7,D7,a2U]
    cases IG x t
    ·rfl
    simp only[o9,l9,o6,a2T,o7,G9]
    have hz:ieq (i:Int) 0=b.2:=by rw[hb];unfold ieq;congr 1;simp
    rw[hz]
    unfold uP
    cases plB (t.1,0,wI k b.1 x.2.2 b.2)
    ·rfl
    ·rw[V6 (by omega)];rfl
  ·intro b' hb'
   unfold ww at hb'
   cases hf:Qb m N t with
   | inr c=>rw[hf]at hb';cases hb'
   | inl x=>
    rw[hf]at hb'
    simp only at hb'
    cases hp:plB (t.1,0,wI k b.1 x.2.2 b.2) <;> rw[hp]at hb' <;> cases hb'
    simp
 ·intro b hb
  rw[D9 (show o8 env.2.2.2.1≤(env.2.2.2.1.length:Int)from Int.le_refl _)]
  rfl
 ·intro _
  cases ay (ww k N t) env.2.2.2.1 (l7 (ieq k 37) 1 0,true)with
  | inr c=>rfl
  | inl a=>
   simp only[D7,G9,o7]
   cases ieq k 39 <;> cases ieq (o8 env.2.2.2.1) 0 <;> rfl
theorem Vl {x:V3} {t:Int×Int} (h:IG x t=true):plB x=true∧x.1=t.1∧x.2.1=t.2:=by
 unfold IG at h
 cases h1:plB x <;> rw[h1]at h
 ·cases h
 cases h2:ieq x.1 t.1 <;> rw[h2]at h
 ·cases h
 simp only[o6]at h
 exact⟨rfl,N7.1 h2,N7.1 h⟩
theorem Bq {k:Int} (hk:k=1) {n:Int} (h:plB (k,0,n)=true):n=0∨n=1:=by
 subst hk
 rcases VL h with⟨m,h,g⟩ | ⟨m,h,g⟩ | ⟨m,h,g⟩ | ⟨m,h,g⟩ | ⟨m,h,g⟩ | ⟨e',m,h,g⟩ <;> cases h
 exact g
theorem FY {k:Int} {t:Int×Int} (h:CY k t=true):t.2=0:=by
 unfold CY at h
 cases g:ieq t.2 0 <;> rw[g]at h
 ·cases h
 exact N7.1 g
theorem XG {t:Int×Int} (h:CY 37 t=true):t.1=1:=by
 have:=FY h
 unfold CY at h
 rw[F5 this]at h
 exact N7.1 h
theorem ZY (k N:Int) (t:Int×Int) (hk:k=36∨k=37∨k=38∨k=39) (ha:CY k t=true) (b:Int×Bool) (x:V3) (hx:IG x t=true) (i:Nat) (hi:i≤1000000) (hb:b.2=decide (i=0)) (hp:k=36∨b.2=true∧k=39∨plB (t.1,0,b.1)=true) (v:V3) (hv:v=(0,0,0)):
  (l7 (ieq k 36) (o5 (Y5 (t.1,t.2,x9 .i64 b.1 x.2.2)) fun(q:Bool)=>l7 (E5 q) (some (Out.rt (((0,0,0),3):V3×Int))) (some (Out.nx ((v,(t.1,t.2,x9 .i64 b.1 x.2.2),x9 .i64 (i:Int) 1):V3×V3×Int))))
   (l7 (ieq k 37) (some (Out.nx (v,(t.1,t.2,jM b.1 x.2.2),x9 .i64 (i:Int) 1)))
    (l7 (ieq k 38) (some (Out.nx (v,(t.1,t.2,gu b.1 x.2.2),x9 .i64 (i:Int) 1)))
     (l7 (ieq k 39) (l7 (ieq (i:Int) 0) (some (Out.nx (v,x,x9 .i64 (i:Int) 1))) (l7 (ilt b.1 x.2.2) (some (Out.nx (v,x,x9 .i64 (i:Int) 1))) (some (Out.nx (v,(t.1,t.2,b.1),x9 .i64 (i:Int) 1)))))
      (some (Out.nx (v,(t.1,t.2,b.1),x9 .i64 (i:Int) 1)))))):Option (Out (V3×V3×Int) (V3×V3) (V3×Int)))=
  some (match(l7 (plB (t.1,0,wI k b.1 x.2.2 b.2)) (.inl (wI k b.1 x.2.2 b.2,false)) (.inr ((0,0,0),3)):(Int×Bool)⊕(V3×Int))with | .inl b' => .nx ((0,0,0),(t.1,t.2,b'.1),((i+1:Nat):Int)) | .inr r=> .rt r)∧
  (k≠36→plB (t.1,0,wI k b.1 x.2.2 b.2)=true):=by
 subst hv
 have hz:=FY ha
 obtain⟨hx1,hx2,hx3⟩:=Vl hx
 have hxe:x=(t.1,t.2,x.2.2):=by rw[←hx2,←hx3]
 have hxp:plB (t.1,0,x.2.2)=true:=by rw[←hz,←hxe];exact hx1
 obtain⟨acc,fi⟩:=b
 simp only at hb hp ⊢
 rw[V6 (by omega)]
 rcases hk with rfl | rfl | rfl | rfl
 ·refine⟨?_,fun h=>absurd rfl h⟩
  simp (disch:=decide) only[F5,o6,C9,o7]
  rw[hz,show wI 36 acc x.2.2 fi=x9 .i64 acc x.2.2 from rfl]
  cases plB (t.1,0,x9 .i64 acc x.2.2) <;> rfl
 ·have ht1:=XG ha
  have hp' :plB (t.1,0,acc)=true:=by
   rcases hp with h | h | h
   ·exact absurd h (by decide)
   ·exact absurd h.2 (by decide)
   ·exact h
  have e1:=Bq ht1 hp'
  have e2:=Bq ht1 hxp
  have e3:wI 37 acc x.2.2 fi=jM acc x.2.2∧plB (t.1,0,wI 37 acc x.2.2 fi)=true:=by
   rw[ht1]
   generalize x.2.2=q at e2 ⊢
   rcases e1 with rfl | rfl <;> rcases e2 with rfl | rfl <;> exact⟨rfl,rfl⟩
  refine⟨?_,fun _=>e3.2⟩
  simp (disch:=decide) only[F5,D8,o6,l9]
  rw[e3.2,e3.1,o6]
 ·have ht1:t.1=1:=by
   unfold CY at ha
   rw[F5 hz]at ha
   exact N7.1 ha
  have hp' :plB (t.1,0,acc)=true:=by
   rcases hp with h | h | h
   ·exact absurd h (by decide)
   ·exact absurd h.2 (by decide)
   ·exact h
  have e1:=Bq ht1 hp'
  have e2:=Bq ht1 hxp
  have e3:wI 38 acc x.2.2 fi=gu acc x.2.2∧plB (t.1,0,wI 38 acc x.2.2 fi)=true:=by
   rw[ht1]
   generalize x.2.2=q at e2 ⊢
   rcases e1 with rfl | rfl <;> rcases e2 with rfl | rfl <;> exact⟨rfl,rfl⟩
  refine⟨?_,fun _=>e3.2⟩
  simp (disch:=decide) only[F5,D8,o6,l9]
  rw[e3.2,e3.1,o6]
 ·have hf:wI 39 acc x.2.2 fi=l7 fi x.2.2 (l7 (ilt acc x.2.2) x.2.2 acc):=rfl
  simp (disch:=decide) only[F5,D8,o6,l9]
  rw[hf]
  have hz' :ieq (i:Int) 0=fi:=by rw[hb];unfold ieq;congr 1;simp
  rw[hz']
  cases fi
  case true=>
   simp only[o6,hxp]
   exact⟨by rw[←hxe],fun _=>trivial⟩
  case false=>
   have hp' :plB (t.1,0,acc)=true:=by
    rcases hp with h | h | h
    ·exact absurd h (by decide)
    ·exact absurd h.1 (by simp)
    ·exact h
   simp only[l9]
   cases ilt acc x.2.2
   ·simp only[l9,hp',o6];exact⟨trivial,fun _=>trivial⟩
   ·simp only[o6,hxp];exact⟨by rw[←hxe],fun _=>trivial⟩
theorem Zl {γ:Type} (c:Option γ) (K:γ→Option (V3×Int)):Zk (o5 c K)=o5 c fun o=>Zk (K o):=by cases c <;> rfl
theorem qP {α β ρ:Type} (G:β→α→β⊕ρ) (P:ρ→Prop) (hG:∀b a r,G b a= .inr r→P r):∀(l:List α) (b:β) (r:ρ),ay G l b= .inr r→P r
 | [],b,r,h=>by cases h
 | a::l,b,r,h=>by
  unfold ay at h
  cases hg:G b a with
  | inr r' =>rw[hg]at h;simp only at h;cases h;exact hG _ _ _ hg
  | inl b' =>rw[hg]at h;exact qP G P hG l b' r h
theorem a1S (k N:Int) (t:Int×Int) (b:Int×Bool) (m:List V3) (r:V3×Int) (h:ww k N t b m= .inr r):r=((0,0,0),6)∨r=((0,0,0),8)∨r=((0,0,0),3):=by
 unfold ww at h
 cases hf:Qb m N t with
 | inr c=>
  rw[hf]at h;simp only at h;cases h
  unfold Qb at hf
  cases hm:lat m N with
  | none=>rw[hm]at hf;cases hf;exact .inl rfl
  | some x=>
   rw[hm]at hf;simp only at hf
   cases h1:ieq x.1 0 <;> rw[h1]at hf
   ·cases h2:IG x t <;> rw[h2]at hf <;> cases hf
    exact .inr (.inl rfl)
   ·cases hf;exact .inl rfl
 | inl x=>
  rw[hf]at h;simp only at h
  cases h1:plB (t.1,0,wI k b.1 x.2.2 b.2) <;> rw[h1]at h <;> cases h
  exact .inr (.inr rfl)
theorem IQ (k N:Int) (env:X9) (hk:k=36∨k=37∨k=38∨k=39) (he:aG (k,N) env=some true) (hl:env.2.2.2.1.length≤1000000):aB (k,N) [] env:=by
 have hN:0≤N∧N<o8 env.2.2.2.2.1:=by
  unfold aG at he
  rcases hk with rfl | rfl | rfl | rfl <;>
  ·simp (disch:=decide) only[F5,D8,o6,l9,o7]at he
   by_cases g:0≤N
   case neg=>rw[F8 (by omega)]at he;cases he
   rw[F7 g,o6]at he
   exact⟨g,cu.1 (Option.some.inj he)⟩
 obtain⟨t,ht,_⟩:=fU hN.1 hN.2
 refine⟨XH k N t env.2.2.2.1,?_,?_⟩
 ·unfold RP
  rw[ll0,show ile 36 k=true from F7 (by omega),show ile k 39=true from F7 (by omega),TG k N env t ht hN.1 hl]
  rfl
 have hA:J7 (k,N) [] env=some (CY k t):=by
  unfold J7
  rcases hk with rfl | rfl | rfl | rfl <;>
  ·simp (disch:=decide) only[F5,D8,o6,l9,o7,ht,MZ,G5]
 have hC:J8 (k,N) [] env=jy (k,N) env:=by
  unfold J8
  rcases hk with rfl | rfl | rfl | rfl <;>
  ·simp (disch:=decide) only[F5,D8,o6,l9,o7]
   generalize jy _ env=o
   cases o <;> rfl
 unfold EP
 rw[hA,o7,hC]
 unfold XH
 cases ha:CY k t
 ·rfl
 simp only[o9,l9,o6]
 have hz:=FY ha
 unfold jy
 simp only[ht,o7]
 rw[show l7 (ieq k 37) (some (t.1,t.2,(1:Int))) (some (t.1,t.2,0))=some (t.1,t.2,l7 (ieq k 37) 1 0) by cases ieq k 37 <;> rfl,o7]
 have hinit:k=36∨(true=true∧k=39)∨plB (t.1,0,l7 (ieq k 37) 1 0)=true:=by
  rcases hk with rfl | rfl | rfl | rfl
  ·exact .inl rfl
  ·right;right;rw[XG ha];rfl
  ·right;right
   have ht1:t.1=1:=by
    unfold CY at ha
    rw[F5 hz]at ha
    exact N7.1 ha
   rw[ht1];rfl
  ·exact .inr (.inl ⟨rfl,rfl⟩)
 by_cases hz0:k=39∧o8 env.2.2.2.1=0
 ·rw[F5 hz0.1,F5 hz0.2]
  have:env.2.2.2.1=[]:=by have:=hz0.2;unfold o8 at this;exact List.length_eq_zero_iff.1 (by omega)
  rw[this];rfl
 rw[show(l7 (ieq k 39) (l7 (ieq (o8 env.2.2.2.1) 0) (some (Sum.inr (((0,0,0),6):V3×Int))) (some (Sum.inl ((0,0,0):V3)))) (some (Sum.inl (0,0,0))))=some (.inl (0,0,0)) by
  by_cases h1:k=39
  ·rw[F5 h1,D8 (fun h=>hz0 ⟨h1,h⟩)];rfl
  ·rw[D8 h1];rfl]
 simp only[o7,D7]
 have hend:(match ay (ww k N t) env.2.2.2.1 (l7 (ieq k 37) 1 0,true)with
  | .inr c=>c
  | .inl a=>l7 (ieq k 39) (l7 (ieq (o8 env.2.2.2.1) 0) ((0,0,0),6) (uP (t.1,0,a.1))) (uP (t.1,0,a.1)))=(match ay (ww k N t) env.2.2.2.1 (l7 (ieq k 37) 1 0,true)with
  | .inr c=>c
  | .inl a=>uP (t.1,0,a.1)):=by
  cases ay (ww k N t) env.2.2.2.1 (l7 (ieq k 37) 1 0,true)with
  | inr c=>rfl
  | inl a=>
   by_cases h1:k=39
   ·rw[F5 h1,D8 (fun h=>hz0 ⟨h1,h⟩)];rfl
   ·rw[D8 h1];rfl
 refine Eq.trans ?_ (congrArg some hend.symm)
 rw[Zl]
 apply fJ env.2.2.2.1 (ww k N t) (fun b i=>(((0,0,0),(t.1,t.2,b.1),i):V3×V3×Int)) (fun b=>(((0,0,0),(t.1,t.2,b.1)):V3×V3)) (fun i b=>b.2=decide (i=0)∧(k=36∨(b.2=true∧k=39)∨plB (t.1,0,b.1)=true)) (l7 (ieq k 37) 1 0,true) hl ⟨rfl,hinit⟩
 ·intro i m b hi hi' hb
  have hm:=F9 env.2.2.2.1 i
  rw[hi]at hm
  have hlt:(i:Int)<o8 env.2.2.2.1:=by
   have:=O7.1 hi;obtain⟨h,_⟩:=this;unfold o8;omega
  simp only[E9 hlt,o6,hm,o7]
  by_cases g:o8 m≤N
  ·have e:ww k N t b m= .inr ((0,0,0),6):=by unfold ww Qb;rw[iI (.inr (D9 g))]
   rw[e]
   refine⟨?_,fun _ h=>by cases h⟩
   rw[F7 g];rfl
  rw[F8 (by omega)]
  obtain⟨x,hx,_⟩:=fU hN.1 (show N<o8 m by omega)
  simp only[l9,hx,o7]
  cases h0:ieq x.1 0
  case true=>
   have e:ww k N t b m= .inr ((0,0,0),6):=by unfold ww Qb;rw[hx];simp only[h0];rfl
   rw[e]
   exact⟨rfl,fun _ h=>by cases h⟩
  simp only[l9,o7,D7,JZ]
  cases hh:IG x t
  ·have e:ww k N t b m= .inr ((0,0,0),8):=by unfold ww Qb;rw[hx];simp only[h0,hh];rfl
   rw[e]
   exact⟨rfl,fun _ h=>by cases h⟩
  have e:ww k N t b m=l7 (plB (t.1,0,wI k b.1 x.2.2 b.2)) (.inl (wI k b.1 x.2.2 b.2,false)) (.inr ((0,0,0),3)):=by unfold ww Qb;rw[hx];simp only[h0,hh,o6,l9]
  obtain⟨s1,s2⟩:=ZY k N t hk ha b x hh i hi' hb.1 hb.2 (0,0,0) rfl
  refine⟨?_,?_⟩
  ·rw[e,o9,l9]
   refine Eq.trans (Eq.trans ?_ s1) ?_
   ·rfl
   ·cases plB (t.1,0,wI k b.1 x.2.2 b.2) <;> rfl
  ·intro b' hb'
   rw[e]at hb'
   cases hp:plB (t.1,0,wI k b.1 x.2.2 b.2) <;> rw[hp]at hb' <;> cases hb'
   exact⟨by simp,.inr (.inr hp)⟩
 ·intro b hb
  rw[D9 (show o8 env.2.2.2.1≤(env.2.2.2.1.length:Int)from Int.le_refl _)]
  rfl
 ·intro hf
  cases hq:ay (ww k N t) env.2.2.2.1 (l7 (ieq k 37) 1 0,true)with
  | inr c=>
   rcases qP (ww k N t) (fun r=>r=((0,0,0),6)∨r=((0,0,0),8)∨r=((0,0,0),3)) (a1S k N t) _ _ _ hq with rfl | rfl | rfl <;> rfl
  | inl a=>
   simp only[D7,E8,I7,hz]
theorem XR {k e n:Int} (hk:k=5) (h:plB (k,e,n)=true):0≤n∧n≤109572:=by
 subst hk
 rcases VL h with⟨m,h,g⟩ | ⟨m,h,g⟩ | ⟨m,h,g⟩ | ⟨m,h,g⟩ | ⟨m,h,g⟩ | ⟨e',m,h,g⟩ <;> cases h
 exact g
theorem b0W (N:Int) (x:V3) (env:X9):aB (10,N) [x] env:=by
 unfold aB RP EP c4K J7 J8 uy iF
 simp (disch:=decide) only[F5,D8,F7,F8,E9,D9,o6,l9,o7,D7,G5,o9,D6,ll0,ll1,ll2,ll3,la0,la1,la2,G9,H7,A7,C9,E8,I7,F6,G7,G6]
 simp only[uI,qY,o7]
 cases l7 (ile 2 x.1) (ile x.1 4) false
 ·exact⟨_,rfl,rfl⟩
 ·simp (disch:=decide) only[F5,D8,F7,F8,E9,D9,o6,l9,o7,D7,G5,o9,D6,ll0,ll1,ll2,ll3,la0,la1,la2,G9,H7,A7,C9,E8,I7,F6,G7,G6];exact⟨_,rfl,rfl⟩
theorem b1b (N:Int) (x:V3) (env:X9):aB (25,N) [x] env:=by
 unfold aB RP EP c4K J7 J8 uy iF
 simp (disch:=decide) only[F5,D8,F7,F8,E9,D9,o6,l9,o7,D7,G5,o9,D6,ll0,ll1,ll2,ll3,la0,la1,la2,G9,H7,A7,C9,E8,I7,F6,G7,G6]
 cases ieq x.1 1
 ·exact⟨_,rfl,rfl⟩
 ·simp (disch:=decide) only[F5,D8,F7,F8,E9,D9,o6,l9,o7,D7,G5,o9,D6,ll0,ll1,ll2,ll3,la0,la1,la2,G9,H7,A7,C9,E8,I7,F6,G7,G6];exact⟨_,rfl,rfl⟩
theorem Xf (k N:Int) (x:V3) (env:X9) (hk:k=31∨k=32) (hx:plB x=true):aB (k,N) [x] env:=by
 have hAB:∃q:Int×Int×Int,x.1=5→lu x.2.2=some q∧c5h x.2.2=some q:=⟨_,fun h=>⟨rF (XR h hx).1 (XR h hx).2,zY (XR h hx).1 (XR h hx).2⟩⟩
 obtain⟨q,hAB⟩:=hAB
 rcases hk with rfl | rfl
 all_goals
  unfold aB RP EP c4K J7 J8 uy iF
  simp (disch:=decide) only[F5,D8,F7,F8,E9,D9,o6,l9,o7,D7,G5,o9,D6,ll0,ll1,ll2,ll3,la0,la1,la2,G9,H7,A7,C9,E8,I7,F6,G7,G6]
  cases h5:ieq x.1 5
  ·simp only[D6,o6,o7,G5];exact⟨_,rfl,rfl⟩
  rw[(hAB (N7.1 h5)).1,(hAB (N7.1 h5)).2]
  simp (disch:=decide) only[F5,D8,F7,F8,E9,D9,o6,l9,o7,D7,G5,o9,D6,ll0,ll1,ll2,ll3,la0,la1,la2,G9,H7,A7,C9,E8,I7,F6,G7,G6]
  exact⟨_,rfl,rfl⟩
theorem b1g (N:Int) (x:V3) (env:X9) (hx:plB x=true) (he:aG (33,N) env=some true) (ht:∀t∈env.2.2.2.2.2,pG t):aB (33,N) [x] env:=by
 unfold aG at he
 simp (disch:=decide) only[F5,D8,o6,l9,o7]at he
 by_cases g:0≤N
 case neg=>rw[F8 (by omega)]at he;cases he
 rw[F7 g,o6]at he
 obtain⟨t,hq,hm⟩:=fU g (cu.1 (Option.some.inj he))
 have hr:=ht t hm
 unfold aB RP EP c4K J7 J8 c5y
 simp (disch:=decide) only[F5,D8,F7,F8,E9,D9,o6,l9,o7,D7,G5,o9,D6,ll0,ll1,ll2,ll3,la0,la1,la2,G9,H7,A7,C9,E8,I7,F6,G7,G6]
 simp only[hq,o7,JZ,IG,hx,o6]
 by_cases h1:x.1=t.2.1.1
 case neg=>rw[D8 h1];exact⟨_,rfl,rfl⟩
 rw[F5 h1]
 by_cases h2:x.2.1=t.2.1.2
 case neg=>rw[D8 h2];exact⟨_,rfl,rfl⟩
 rw[F5 h2]
 by_cases h3:1≤t.2.2.1.1
 case neg=>rw[F8 (Int.not_le.1 h3),E9 (Int.not_le.1 h3)];exact⟨_,rfl,rfl⟩
 rw[F7 h3,D9 h3]
 by_cases h4:t.2.2.1.1≤6
 case neg=>rw[F8 (Int.not_le.1 h4),E9 (Int.not_le.1 h4)];exact⟨_,rfl,rfl⟩
 rw[F7 h4,D9 h4]
 simp (disch:=decide) only[F5,D8,F7,F8,E9,D9,o6,l9,o7,D7,G5,o9,D6,ll0,ll1,ll2,ll3,la0,la1,la2,G9,H7,A7,C9,E8,I7,F6,G7,G6]
 rw[Zz _ _ (by have:=hr.1;omega),VP _ _ (by have:=hr.1;omega)]
 simp (disch:=decide) only[F5,D8,F7,F8,E9,D9,o6,l9,o7,D7,G5,o9,D6,ll0,ll1,ll2,ll3,la0,la1,la2,G9,H7,A7,C9,E8,I7,F6,G7,G6]
 cases hl:KD t.2.2.2 env.1 x.2.2 with
 | mk i b=>
  cases b
  ·exact⟨_,rfl,rfl⟩
  ·obtain⟨l1,l2⟩:=a1P hl
   obtain⟨row,hrow,_⟩:=fU l1 l2
   simp (disch:=decide) only[F5,D8,F7,F8,E9,D9,o6,l9,o7,D7,G5,o9,D6,ll0,ll1,ll2,ll3,la0,la1,la2,G9,H7,A7,C9,E8,I7,F6,G7,G6]
   rw[hrow]
   simp (disch:=decide) only[F5,D8,F7,F8,E9,D9,o6,l9,o7,D7,G5,o9,D6,ll0,ll1,ll2,ll3,la0,la1,la2,G9,H7,A7,C9,E8,I7,F6,G7,G6]
   unfold uP
   cases plB (t.2.2.1.1,t.2.2.1.2,row.2.2.2) <;> exact⟨_,rfl,rfl⟩
theorem b1h (N:Int) (x:V3) (env:X9) (h0:0≤N) (hI:N≤9223372036854775807) (he:aG (34,N) env=some true) (ht:∀t∈env.2.2.2.2.2,pG t):aB (34,N) [x] env:=by
 unfold aG at he
 simp (disch:=decide) only[F5,D8,o6,l9,o7]at he
 have hq0:0≤az .i64 N 8:=by
  rw[show az .i64 N 8=N / 8 by
   unfold az;rw[Int.tdiv_eq_ediv_of_nonneg h0];exact dB (by unfold I64;omega)]
  omega
 obtain⟨t,hq,hm⟩:=fU hq0 (cu.1 (Option.some.inj he))
 have hr:=ht t hm
 unfold aB RP EP c4K J7 J8
 simp (disch:=decide) only[F5,D8,F7,F8,E9,D9,o6,l9,o7,D7,G5,o9,D6,ll0,ll1,ll2,ll3,la0,la1,la2,G9,H7,A7,C9,E8,I7,F6,G7,G6]
 simp only[hq,o7]
 cases ieq x.1 3
 ·exact⟨_,rfl,rfl⟩
 cases ieq t.2.1.1 3
 ·exact⟨_,rfl,rfl⟩
 cases ieq t.2.1.2 0
 ·exact⟨_,rfl,rfl⟩
 cases ieq t.2.2.1.1 4
 ·exact⟨_,rfl,rfl⟩
 cases ieq t.2.2.1.2 0
 ·exact⟨_,rfl,rfl⟩
 simp (disch:=decide) only[F5,D8,F7,F8,E9,D9,o6,l9,o7,D7,G5,o9,D6,ll0,ll1,ll2,ll3,la0,la1,la2,G9,H7,A7,C9,E8,I7,F6,G7,G6]
 rw[show U2 true true=true from rfl]
 simp (disch:=decide) only[F5,D8,F7,F8,E9,D9,o6,l9,o7,D7,G5,o9,D6,ll0,ll1,ll2,ll3,la0,la1,la2,G9,H7,A7,C9,E8,I7,F6,G7,G6]
 rw[Rj _ _ _ hr,Qo _ _ _ hr]
 simp (disch:=decide) only[F5,D8,F7,F8,E9,D9,o6,l9,o7,D7,G5,o9,D6,ll0,ll1,ll2,ll3,la0,la1,la2,G9,H7,A7,C9,E8,I7,F6,G7,G6]
 exact⟨_,rfl,rfl⟩
theorem Jb (x y:V3):iZ x y=some (l7 (ieq x.1 y.1) (ieq x.2.1 y.2.1) false):=by
 unfold iZ;cases ieq x.1 y.1 <;> rfl
theorem Xd (k N:Int) (x y:V3) (env:X9) (hk:k=11∨k=12):aB (k,N) [x,y] env:=by
 rcases hk with rfl | rfl
 all_goals
  (unfold aB RP EP J7 J8 bf O5 c4r;simp (disch:=decide) only[F5,D8,F7,F8,E9,D9,o6,l9,o7,D7,G5,o9,D6,ll0,ll1,ll2,ll3,la0,la1,la2,G9,H7,A7,C9,E8,I7,F6,G7,G6])
  unfold c4H
  simp (disch:=decide) only[F5,D8,F7,F8,E9,D9,o6,l9,o7,D7,G5,o9,D6,ll0,ll1,ll2,ll3,la0,la1,la2,G9,H7,A7,C9,E8,I7,F6,G7,G6]
  simp only[Jb,qY,uI,o7]
  cases ieq x.1 y.1
  ·exact⟨_,rfl,rfl⟩
  cases ieq x.2.1 y.2.1
  ·exact⟨_,rfl,rfl⟩
  cases l7 (ile 2 x.1) (ile x.1 4) false
  ·exact⟨_,rfl,rfl⟩
  simp (disch:=decide) only[F5,D8,F7,F8,E9,D9,o6,l9,o7,D7,G5,o9,D6,ll0,ll1,ll2,ll3,la0,la1,la2,G9,H7,A7,C9,E8,I7,F6,G7,G6]
  exact⟨_,rfl,rfl⟩
theorem a0K (k N:Int) (x y:V3) (env:X9) (hk:k=19∨k=20):aB (k,N) [x,y] env:=by
 rcases hk with rfl | rfl
 all_goals
  (unfold aB RP EP J7 J8 bf O5 c4r;simp (disch:=decide) only[F5,D8,F7,F8,E9,D9,o6,l9,o7,D7,G5,o9,D6,ll0,ll1,ll2,ll3,la0,la1,la2,G9,H7,A7,C9,E8,I7,F6,G7,G6])
  unfold c4H
  simp (disch:=decide) only[F5,D8,F7,F8,E9,D9,o6,l9,o7,D7,G5,o9,D6,ll0,ll1,ll2,ll3,la0,la1,la2,G9,H7,A7,C9,E8,I7,F6,G7,G6]
  simp only[Jb,qY,uI,o7]
  cases ieq x.1 y.1
  ·exact⟨_,rfl,rfl⟩
  cases ieq x.2.1 y.2.1
  ·exact⟨_,rfl,rfl⟩
  simp (disch:=decide) only[F5,D8,F7,F8,E9,D9,o6,l9,o7,D7,G5,o9,D6,ll0,ll1,ll2,ll3,la0,la1,la2,G9,H7,A7,C9,E8,I7,F6,G7,G6]
  exact⟨_,rfl,rfl⟩
theorem Xe (k N:Int) (x y:V3) (env:X9) (hk:k=21∨k=22):aB (k,N) [x,y] env:=by
 rcases hk with rfl | rfl
 all_goals
  (unfold aB RP EP J7 J8 bf O5 c4r;simp (disch:=decide) only[F5,D8,F7,F8,E9,D9,o6,l9,o7,D7,G5,o9,D6,ll0,ll1,ll2,ll3,la0,la1,la2,G9,H7,A7,C9,E8,I7,F6,G7,G6])
  unfold c4H
  simp (disch:=decide) only[F5,D8,F7,F8,E9,D9,o6,l9,o7,D7,G5,o9,D6,ll0,ll1,ll2,ll3,la0,la1,la2,G9,H7,A7,C9,E8,I7,F6,G7,G6]
  simp only[Jb,qY,uI,o7]
  cases ieq x.1 y.1
  ·exact⟨_,rfl,rfl⟩
  cases ieq x.2.1 y.2.1
  ·exact⟨_,rfl,rfl⟩
  simp (disch:=decide) only[F5,D8,F7,F8,E9,D9,o6,l9,o7,D7,G5,o9,D6,ll0,ll1,ll2,ll3,la0,la1,la2,G9,H7,A7,C9,E8,I7,F6,G7,G6]
  cases l7 (ile 2 x.1) (ile x.1 4) false
  ·simp (disch:=decide) only[F5,D8,F7,F8,E9,D9,o6,l9,o7,D7,G5,o9,D6,ll0,ll1,ll2,ll3,la0,la1,la2,G9,H7,A7,C9,E8,I7,F6,G7,G6]
   cases ieq x.1 5
   ·exact⟨_,rfl,rfl⟩
   simp (disch:=decide) only[F5,D8,F7,F8,E9,D9,o6,l9,o7,D7,G5,o9,D6,ll0,ll1,ll2,ll3,la0,la1,la2,G9,H7,A7,C9,E8,I7,F6,G7,G6]
   exact⟨_,rfl,rfl⟩
  simp (disch:=decide) only[F5,D8,F7,F8,E9,D9,o6,l9,o7,D7,G5,o9,D6,ll0,ll1,ll2,ll3,la0,la1,la2,G9,H7,A7,C9,E8,I7,F6,G7,G6]
  exact⟨_,rfl,rfl⟩
theorem Jl (k N:Int) (x y:V3) (env:X9) (hk:k=17∨k=18) (hx:plB x=true) (hy:plB y=true):aB (k,N) [x,y] env:=by
 have mx:uP x=(x,0):=by unfold uP;rw[hx];rfl
 have my:uP y=(y,0):=by unfold uP;rw[hy];rfl
 have hE:x.1=y.1→x.2.1=y.2.1→x.2.2=y.2.2→x=y:=fun h1 h2 h3=>by rw[show x=(x.1,x.2.1,x.2.2)from rfl,h1,h2,h3]
 have fin:x.1=y.1→x.2.1=y.2.1→∀b:Bool,(∃r:V3×Int,l7 (bI b (ilt x.2.2 y.2.2)) (some (x,0)) (some (y,0))=some r∧Zk (l7 (bI b (ilt y.2.2 x.2.2)) (some (y,0)) (some (x,0)))=some r):=by
  intro h1 h2 b
  by_cases g:x.2.2<y.2.2
  ·rw[E9 g,D9 (Int.le_of_lt g)]
   cases b
   ·exact⟨(y,0),rfl,by rw[show l7 (bI false false) (some (y,(0:Int))) (some (x,0))=some (y,0)from rfl,E8,I7,my]⟩
   ·exact⟨(x,0),rfl,by rw[show l7 (bI true false) (some (y,(0:Int))) (some (x,0))=some (x,0)from rfl,E8,I7,mx]⟩
  by_cases g' :y.2.2<x.2.2
  ·rw[E9 g',D9 (Int.le_of_lt g')]
   cases b
   ·exact⟨(x,0),rfl,by rw[show l7 (bI false true) (some (y,(0:Int))) (some (x,0))=some (x,0)from rfl,E8,I7,mx]⟩
   ·exact⟨(y,0),rfl,by rw[show l7 (bI true true) (some (y,(0:Int))) (some (x,0))=some (y,0)from rfl,E8,I7,my]⟩
  have e:=hE h1 h2 (Int.le_antisymm (Int.not_lt.1 g') (Int.not_lt.1 g))
  refine⟨(x,0),?_,?_⟩
  ·rw[e];cases bI b (ilt y.2.2 y.2.2) <;> rfl
  ·rw[←e]
   rw[show l7 (bI b (ilt x.2.2 x.2.2)) (some (x,(0:Int))) (some (x,0))=some (x,0) by cases bI b (ilt x.2.2 x.2.2) <;> rfl,E8,I7,mx]
 have osum:∀(c:Bool),(o5 (l7 c (some (Sum.inr (y,(0:Int)):V3⊕(V3×Int))) (some (.inr (x,0)))) fun o=>U7 o (fun _=>o5 (eY x.2.2 y.2.2) fun(q:Int)=>some ((2,0,q),(0:Int))) fun r=>some r)=l7 c (some (y,0)) (some (x,0)):=fun c=>by cases c <;> rfl
 rcases hk with rfl | rfl
 all_goals
  (unfold aB RP EP J7 J8 bf O5 c4r;simp (disch:=decide) only[F5,D8,F7,F8,E9,D9,o6,l9,o7,D7,G5,o9,D6,ll0,ll1,ll2,ll3,la0,la1,la2,G9,H7,A7,C9,E8,I7,F6,G7,G6])
  unfold c4H
  simp (disch:=decide) only[F5,D8,F7,F8,E9,D9,o6,l9,o7,D7,G5,o9,D6,ll0,ll1,ll2,ll3,la0,la1,la2,G9,H7,A7,C9,E8,I7,F6,G7,G6]
  simp only[Jb,qY,uI,o7]
  cases g1:ieq x.1 y.1
  ·exact⟨_,rfl,rfl⟩
  cases g2:ieq x.2.1 y.2.1
  ·exact⟨_,rfl,rfl⟩
  simp (disch:=decide) only[F5,D8,F7,F8,E9,D9,o6,l9,o7,D7,G5,o9,D6,ll0,ll1,ll2,ll3,la0,la1,la2,G9,H7,A7,C9,E8,I7,F6,G7,G6]
  have F:=fin (N7.1 g1) (N7.1 g2)
  rw[osum]
  cases l7 (ile 2 x.1) (ile x.1 4) false
  ·simp (disch:=decide) only[F5,D8,F7,F8,E9,D9,o6,l9,o7,D7,G5,o9,D6,ll0,ll1,ll2,ll3,la0,la1,la2,G9,H7,A7,C9,E8,I7,F6,G7,G6]
   cases ieq x.1 5
   ·exact⟨_,rfl,rfl⟩
   simp (disch:=decide) only[F5,D8,F7,F8,E9,D9,o6,l9,o7,D7,G5,o9,D6,ll0,ll1,ll2,ll3,la0,la1,la2,G9,H7,A7,C9,E8,I7,F6,G7,G6]
   simp only[bH];first | exact F true | exact F false
  simp (disch:=decide) only[F5,D8,F7,F8,E9,D9,o6,l9,o7,D7,G5,o9,D6,ll0,ll1,ll2,ll3,la0,la1,la2,G9,H7,A7,C9,E8,I7,F6,G7,G6]
  simp only[bH];first | exact F true | exact F false
theorem b1c (N:Int) (x y:V3) (env:X9):aB (27,N) [x,y] env:=by
 (unfold aB RP EP J7 J8 bf O5 c4r;simp (disch:=decide) only[F5,D8,F7,F8,E9,D9,o6,l9,o7,D7,G5,o9,D6,ll0,ll1,ll2,ll3,la0,la1,la2,G9,H7,A7,C9,E8,I7,F6,G7,G6])
 unfold c4Z
 simp (disch:=decide) only[F5,D8,F7,F8,E9,D9,o6,l9,o7,D7,G5,o9,D6,ll0,ll1,ll2,ll3,la0,la1,la2,G9,H7,A7,C9,E8,I7,F6,G7,G6]
 cases g1:ieq x.1 5
 ·exact⟨_,rfl,rfl⟩
 cases ieq y.1 2
 ·exact⟨_,rfl,rfl⟩
 simp (disch:=decide) only[F5,D8,F7,F8,E9,D9,o6,l9,o7,D7,G5,o9,D6,ll0,ll1,ll2,ll3,la0,la1,la2,G9,H7,A7,C9,E8,I7,F6,G7,G6]
 rw[N7.1 g1]
 exact⟨_,rfl,rfl⟩
theorem b1d (N:Int) (x y:V3) (env:X9):aB (28,N) [x,y] env:=by
 have hA:∃q,jv x.2.2 y.2.2=some q∧c4C x.2.2 y.2.2=some q:=⟨_,Dz _ _,Cc _ _⟩
 obtain⟨q,h1,h2⟩:=hA
 (unfold aB RP EP J7 J8 bf O5 c4r;simp (disch:=decide) only[F5,D8,F7,F8,E9,D9,o6,l9,o7,D7,G5,o9,D6,ll0,ll1,ll2,ll3,la0,la1,la2,G9,H7,A7,C9,E8,I7,F6,G7,G6])
 unfold c4Z
 simp (disch:=decide) only[F5,D8,F7,F8,E9,D9,o6,l9,o7,D7,G5,o9,D6,ll0,ll1,ll2,ll3,la0,la1,la2,G9,H7,A7,C9,E8,I7,F6,G7,G6]
 cases g1:ieq x.1 5
 ·exact⟨_,rfl,rfl⟩
 cases ieq y.1 2
 ·exact⟨_,rfl,rfl⟩
 simp (disch:=decide) only[F5,D8,F7,F8,E9,D9,o6,l9,o7,D7,G5,o9,D6,ll0,ll1,ll2,ll3,la0,la1,la2,G9,H7,A7,C9,E8,I7,F6,G7,G6]
 rw[h1,h2]
 simp (disch:=decide) only[F5,D8,F7,F8,E9,D9,o6,l9,o7,D7,G5,o9,D6,ll0,ll1,ll2,ll3,la0,la1,la2,G9,H7,A7,C9,E8,I7,F6,G7,G6]
 exact⟨_,rfl,rfl⟩
theorem b1e (N:Int) (x y:V3) (env:X9):aB (29,N) [x,y] env:=by
 (unfold aB RP EP J7 J8 bf O5 c4r;simp (disch:=decide) only[F5,D8,F7,F8,E9,D9,o6,l9,o7,D7,G5,o9,D6,ll0,ll1,ll2,ll3,la0,la1,la2,G9,H7,A7,C9,E8,I7,F6,G7,G6])
 unfold c4Z
 simp (disch:=decide) only[F5,D8,F7,F8,E9,D9,o6,l9,o7,D7,G5,o9,D6,ll0,ll1,ll2,ll3,la0,la1,la2,G9,H7,A7,C9,E8,I7,F6,G7,G6]
 cases g1:ieq x.1 5
 ·exact⟨_,rfl,rfl⟩
 cases ieq y.1 5
 ·exact⟨_,rfl,rfl⟩
 simp (disch:=decide) only[F5,D8,F7,F8,E9,D9,o6,l9,o7,D7,G5,o9,D6,ll0,ll1,ll2,ll3,la0,la1,la2,G9,H7,A7,C9,E8,I7,F6,G7,G6]
 exact⟨_,rfl,rfl⟩
theorem b1f (N:Int) (x y:V3) (env:X9):aB (30,N) [x,y] env:=by
 have hA:∃q,eY x.2.2 y.2.2=some q∧c4I x.2.2 y.2.2=some q:=⟨_,IP _ _,Gm _ _⟩
 obtain⟨q,h1,h2⟩:=hA
 (unfold aB RP EP J7 J8 bf O5 c4r;simp (disch:=decide) only[F5,D8,F7,F8,E9,D9,o6,l9,o7,D7,G5,o9,D6,ll0,ll1,ll2,ll3,la0,la1,la2,G9,H7,A7,C9,E8,I7,F6,G7,G6])
 unfold c4Z
 simp (disch:=decide) only[F5,D8,F7,F8,E9,D9,o6,l9,o7,D7,G5,o9,D6,ll0,ll1,ll2,ll3,la0,la1,la2,G9,H7,A7,C9,E8,I7,F6,G7,G6]
 cases g1:ieq x.1 5
 ·exact⟨_,rfl,rfl⟩
 cases ieq y.1 5
 ·exact⟨_,rfl,rfl⟩
 simp (disch:=decide) only[F5,D8,F7,F8,E9,D9,o6,l9,o7,D7,G5,o9,D6,ll0,ll1,ll2,ll3,la0,la1,la2,G9,H7,A7,C9,E8,I7,F6,G7,G6]
 rw[h1,h2]
 simp (disch:=decide) only[F5,D8,F7,F8,E9,D9,o6,l9,o7,D7,G5,o9,D6,ll0,ll1,ll2,ll3,la0,la1,la2,G9,H7,A7,C9,E8,I7,F6,G7,G6]
 exact⟨_,rfl,rfl⟩
theorem b0Y (N:Int) (x y:V3) (env:X9):aB (14,N) [x,y] env:=by
 have hA:∃q,uJ x.2.2 y.2.2 N=some q∧c5p x.2.2 y.2.2 N=some q:=⟨_,a0L _ _ _,a0i _ _ _⟩
 have hB:∃q,zW x.2.2 y.2.2 N=some q∧c5v x.2.2 y.2.2 N=some q:=⟨_,a6l _ _ _,a2V _ _ _⟩
 obtain⟨q,h1,h2⟩:=hA
 obtain⟨q',h3,h4⟩:=hB
 (unfold aB RP EP J7 J8 bf O5 c4r;simp (disch:=decide) only[F5,D8,F7,F8,E9,D9,o6,l9,o7,D7,G5,o9,D6,ll0,ll1,ll2,ll3,la0,la1,la2,G9,H7,A7,C9,E8,I7,F6,G7,G6])
 unfold c5e oP
 simp (disch:=decide) only[F5,D8,F7,F8,E9,D9,o6,l9,o7,D7,G5,o9,D6,ll0,ll1,ll2,ll3,la0,la1,la2,G9,H7,A7,C9,E8,I7,F6,G7,G6]
 rw[h1,h2,h3,h4]
 cases ieq y.1 4
 ·exact⟨_,rfl,rfl⟩
 by_cases g3:x.1=3
 ·rw[F5 g3]
  simp (disch:=decide) only[F5,D8,F7,F8,E9,D9,o6,l9,o7,D7,G5,o9,D6,ll0,ll1,ll2,ll3,la0,la1,la2,G9,H7,A7,C9,E8,I7,F6,G7,G6]
  exact⟨_,rfl,rfl⟩
 rw[D8 g3]
 simp (disch:=decide) only[F5,D8,F7,F8,E9,D9,o6,l9,o7,D7,G5,o9,D6,ll0,ll1,ll2,ll3,la0,la1,la2,G9,H7,A7,C9,E8,I7,F6,G7,G6]
 cases ieq x.1 4
 ·exact⟨_,rfl,rfl⟩
 simp (disch:=decide) only[F5,D8,F7,F8,E9,D9,o6,l9,o7,D7,G5,o9,D6,ll0,ll1,ll2,ll3,la0,la1,la2,G9,H7,A7,C9,E8,I7,F6,G7,G6]
 exact⟨_,rfl,rfl⟩
theorem b1a (N:Int) (x y:V3) (env:X9):aB (16,N) [x,y] env:=by
 have hA:∃q,nC x.2.2 y.2.2 N=some q∧c5f x.2.2 y.2.2 N=some q:=⟨_,VU _ _ _,TK _ _ _⟩
 obtain⟨q,h1,h2⟩:=hA
 (unfold aB RP EP J7 J8 bf O5 c4r;simp (disch:=decide) only[F5,D8,F7,F8,E9,D9,o6,l9,o7,D7,G5,o9,D6,ll0,ll1,ll2,ll3,la0,la1,la2,G9,H7,A7,C9,E8,I7,F6,G7,G6])
 unfold c5e oP
 simp (disch:=decide) only[F5,D8,F7,F8,E9,D9,o6,l9,o7,D7,G5,o9,D6,ll0,ll1,ll2,ll3,la0,la1,la2,G9,H7,A7,C9,E8,I7,F6,G7,G6]
 rw[h1,h2]
 cases ieq x.1 3
 ·exact⟨_,rfl,rfl⟩
 cases ieq y.1 3
 ·exact⟨_,rfl,rfl⟩
 simp (disch:=decide) only[F5,D8,F7,F8,E9,D9,o6,l9,o7,D7,G5,o9,D6,ll0,ll1,ll2,ll3,la0,la1,la2,G9,H7,A7,C9,E8,I7,F6,G7,G6]
 exact⟨_,rfl,rfl⟩
theorem b0Z (N:Int) (x y:V3) (env:X9):aB (15,N) [x,y] env:=by
 have hA:∃q,aI x.2.2 y.2.2 N=some q∧c5a x.2.2 y.2.2 N=some q:=⟨_,vC _ _ _,Qp _ _ _⟩
 have hB:∃q,lK x.2.2 y.2.2 N=some q∧c4T x.2.2 y.2.2 N=some q:=⟨_,PR _ _ _,Nk _ _ _⟩
 obtain⟨q,h1,h2⟩:=hA
 obtain⟨q',h3,h4⟩:=hB
 (unfold aB RP EP J7 J8 bf O5 c4r;simp (disch:=decide) only[F5,D8,F7,F8,E9,D9,o6,l9,o7,D7,G5,o9,D6,ll0,ll1,ll2,ll3,la0,la1,la2,G9,H7,A7,C9,E8,I7,F6,G7,G6])
 unfold c5e oP
 simp (disch:=decide) only[F5,D8,F7,F8,E9,D9,o6,l9,o7,D7,G5,o9,D6,ll0,ll1,ll2,ll3,la0,la1,la2,G9,H7,A7,C9,E8,I7,F6,G7,G6]
 rw[h1,h2,h3,h4]
 by_cases g2:y.1=2
 ·rw[F5 g2,D8 (show y.1≠3 by rw[g2];decide)]
  simp (disch:=decide) only[F5,D8,F7,F8,E9,D9,o6,l9,o7,D7,G5,o9,D6,ll0,ll1,ll2,ll3,la0,la1,la2,G9,H7,A7,C9,E8,I7,F6,G7,G6]
  by_cases g3:x.1=3
  ·rw[F5 g3,D8 (show x.1≠2 by rw[g3];decide)]
   simp (disch:=decide) only[F5,D8,F7,F8,E9,D9,o6,l9,o7,D7,G5,o9,D6,ll0,ll1,ll2,ll3,la0,la1,la2,G9,H7,A7,C9,E8,I7,F6,G7,G6]
   exact⟨_,rfl,rfl⟩
  rw[D8 g3]
  cases ieq x.1 2
  ·exact⟨_,rfl,rfl⟩
  simp (disch:=decide) only[F5,D8,F7,F8,E9,D9,o6,l9,o7,D7,G5,o9,D6,ll0,ll1,ll2,ll3,la0,la1,la2,G9,H7,A7,C9,E8,I7,F6,G7,G6]
  exact⟨_,rfl,rfl⟩
 rw[D8 g2]
 simp (disch:=decide) only[F5,D8,F7,F8,E9,D9,o6,l9,o7,D7,G5,o9,D6,ll0,ll1,ll2,ll3,la0,la1,la2,G9,H7,A7,C9,E8,I7,F6,G7,G6]
 cases ieq x.1 3
 ·exact⟨_,rfl,rfl⟩
 simp (disch:=decide) only[F5,D8,F7,F8,E9,D9,o6,l9,o7,D7,G5,o9,D6,ll0,ll1,ll2,ll3,la0,la1,la2,G9,H7,A7,C9,E8,I7,F6,G7,G6]
 cases ieq y.1 3
 ·exact⟨_,rfl,rfl⟩
 simp (disch:=decide) only[F5,D8,F7,F8,E9,D9,o6,l9,o7,D7,G5,o9,D6,ll0,ll1,ll2,ll3,la0,la1,la2,G9,H7,A7,C9,E8,I7,F6,G7,G6]
 exact⟨_,rfl,rfl⟩
theorem oO (n:Int):(n<0∧J4 n=-n)∨(0≤n∧J4 n=n):=by
 unfold J4
 by_cases h:n<0
 ·left;exact⟨h,if_pos h⟩
 ·right;exact⟨by omega,if_neg h⟩
theorem WZ (a b:Int):(l7 (E5 (bI (ilt a 0) (ilt b 0))) (-(J4 a*J4 b)) (J4 a*J4 b))=a*b:=by
 rcases oO a with⟨h1,e1⟩ | ⟨h1,e1⟩ <;> rcases oO b with⟨h2,e2⟩ | ⟨h2,e2⟩ <;> rw[e1,e2]
 ·rw[E9 h1,E9 h2];show -a*-b=a*b;rw[Int.neg_mul_neg]
 ·rw[E9 h1,D9 h2];show -(-a*b)=a*b;rw[Int.neg_mul,Int.neg_neg]
 ·rw[D9 h1,E9 h2];show -(a*-b)=a*b;rw[Int.mul_neg,Int.neg_neg]
 ·rw[D9 h1,D9 h2];rfl
theorem VN {a b:Int} (ha:-1000000000000000≤a∧a≤1000000000000000) (hb:-1000000000000≤b∧b≤1000000000000):lY a b=some (l7 (ilt 1000000000000000 (J4 a*J4 b)) (0,3) (a*b,0)):=by
 unfold lY
 rw[DZ (by omega) (by omega),DZ (by omega) (by omega)]
 have A0:0≤J4 a∧J4 a≤1000000000000000:=by rcases oO a with⟨h1,e1⟩ | ⟨h1,e1⟩ <;> omega
 have B0:0≤J4 b∧J4 b≤1000000000000:=by rcases oO b with⟨h1,e1⟩ | ⟨h1,e1⟩ <;> omega
 rw[Em A0.1 (by omega) B0.1 (by omega),o7]
 have hm:=WZ a b
 have hp:0≤J4 a*J4 b:=Int.mul_nonneg A0.1 B0.1
 generalize J4 a*J4 b=p at hm hp ⊢
 simp only
 by_cases g:p / 18446744073709551616=0
 case neg=>rw[D8 g,E9 (show(1000000000000000:Int)<p by omega)];rfl
 rw[F5 g,show p % 18446744073709551616=p by omega]
 by_cases g2:1000000000000000<p
 ·rw[E9 g2];rfl
 rw[D9 (by omega)]
 simp only[o9,l9]
 rw[show wrap .i64 p=p from dB (by unfold I64;omega),H5 (by unfold I64;omega),show(0:Int) -p=-p by omega]
 rw[←hm]
 cases E5 (bI (ilt a 0) (ilt b 0)) <;> rfl
theorem xU {x y M:Int} (W:V3×Int) (hy:0≤y) (hM:0≤M) (hM2:M≤1000000000000000):l7 (E5 (ieq y 0)) (o5 (uA .i64 M y) fun(q:Int)=>l7 (ilt q x) (some ((0,0,0),3)) (some W)) (some W)=some (l7 (ilt M (x*y)) ((0,0,0),3) W):=by
 by_cases h:y=0
 ·subst h
  rw[F5 rfl,Int.mul_zero,D9 hM];rfl
 rw[D8 h]
 simp only[D6,o6]
 rw[kG hM (by omega) (by omega),o7]
 have e:M / y<x↔M<x*y:=Int.ediv_lt_iff_lt_mul (by omega)
 by_cases g:M / y<x
 ·rw[E9 g,E9 (e.1 g)];rfl
 ·rw[D9 (Int.not_lt.1 g),D9 (Int.not_lt.1 fun h=>g (e.2 h))];rfl
theorem TJ {k a b M:Int} (hM:c5d k=some (-M,M)) (hM0:0≤M) (hM2:M≤1000000000000000) (ha:-1000000000000000≤a∧a≤1000000000000000) (hb:-1000000000000≤b∧b≤1000000000000):c4S k a b=some (l7 (ilt M (J4 a*J4 b)) ((0,0,0),3) (uP (k,0,U6 .i64 a b))):=by
 unfold c4S
 rw[hM,o7]
 simp only[G9,o7]
 have sa:G8 .i64 0 a=-a:=by rw[H5 (by unfold I64;omega)];omega
 have sb:G8 .i64 0 b=-b:=by rw[H5 (by unfold I64;omega)];omega
 rw[sa,sb]
 rcases oO a with⟨h1,e1⟩ | ⟨h1,e1⟩ <;> rcases oO b with⟨h2,e2⟩ | ⟨h2,e2⟩ <;> rw[e1,e2]
 ·rw[E9 h1,E9 h2]
  exact xU _ (by omega) hM0 hM2
 ·rw[E9 h1,D9 h2]
  exact xU _ (by omega) hM0 hM2
 ·rw[D9 h1,E9 h2]
  exact xU _ (by omega) hM0 hM2
 ·rw[D9 h1,D9 h2]
  exact xU _ (by omega) hM0 hM2
theorem Lh {k a b M:Int} (hk:ut k=(-M,M)) (hM0:0≤M) (hM2:M≤1000000000000000) (ha:-1000000000000000≤a∧a≤1000000000000000) (hb:-1000000000000≤b∧b≤1000000000000):∃r:V3×Int,c4S k a b=some r∧∃q:Int×Int,lY a b=some q∧ML (k,0,q.1) q.2=r:=by
 refine⟨_,TJ (by rw[Xi,hk]) hM0 hM2 ha hb,_,VN ha hb,?_⟩
 have hm:=WZ a b
 have hmd:J4 a*J4 b=J4 (a*b):=by
  rcases oO (a*b)with⟨h,e⟩ | ⟨h,e⟩ <;> (have hn:=Int.mul_nonneg (bY a) (bY b);cases hq:E5 (bI (ilt a 0) (ilt b 0)) <;> rw[hq]at hm <;> simp only[o6,l9]at hm <;> omega)
 rw[hmd]
 have habs:=oO (a*b)
 have hI:J4 (a*b)≤1000000000000000→U6 .i64 a b=a*b:=fun h=>di (by unfold I64;omega)
 have hpl:M<J4 (a*b)→plB (k,0,a*b)=false:=by
  intro h
  unfold plB
  rw[hk]
  simp only
  by_cases g:-M≤a*b
  ·rw[F7 g,F8 (show M<a*b by omega)];rfl
  ·rw[F8 (by omega)];rfl
 generalize a*b=p at*
 by_cases g:1000000000000000<J4 p
 ·rw[E9 g,E9 (by omega)];rfl
 rw[D9 (by omega),hI (by omega)]
 simp only[l9,I7]
 by_cases g2:M<J4 p
 ·rw[E9 g2];unfold uP;rw[hpl g2];rfl
 ·rw[D9 (by omega)];rfl
theorem XU {k e n:Int} (h:plB (k,e,n)=true):(k=2→-1000000000000≤n∧n≤1000000000000)∧(k=3→-1000000000000000≤n∧n≤1000000000000000):=by
 rcases VL h with⟨m,h,g⟩ | ⟨m,h,g⟩ | ⟨m,h,g⟩ | ⟨m,h,g⟩ | ⟨m,h,g⟩ | ⟨e',m,h,g⟩ <;> cases h <;> exact⟨fun h=>by first | exact g | exact absurd h (by decide),fun h=>by first | exact g | exact absurd h (by decide)⟩
theorem b0X (N:Int) (x y:V3) (env:X9) (hx:plB x=true) (hy:plB y=true):aB (13,N) [x,y] env:=by
 have hX:=XU (k:=x.1) (e:=x.2.1) (n:=x.2.2) hx
 have hY:=XU (k:=y.1) (e:=y.2.1) (n:=y.2.2) hy
 have key:y.1=2→x.1=2∨x.1=3→∃r:V3×Int,c4S x.1 x.2.2 y.2.2=some r∧∃q:Int×Int,lY x.2.2 y.2.2=some q∧ML (x.1,0,q.1) q.2=r:=by
  intro h2 h
  have hb:=hY.1 h2
  rcases h with h | h
  ·have ha:=hX.1 h
   exact Lh (M:=1000000000000) (by rw[h];rfl) (by decide) (by decide) ⟨Int.le_trans (by decide) ha.1,Int.le_trans ha.2 (by decide)⟩ hb
  ·have ha:=hX.2 h
   exact Lh (M:=1000000000000000) (by rw[h];rfl) (by decide) (by decide) ha hb
 (unfold aB RP EP J7 J8 bf O5 c4r;simp (disch:=decide) only[F5,D8,F7,F8,E9,D9,o6,l9,o7,D7,G5,o9,D6,ll0,ll1,ll2,ll3,la0,la1,la2,G9,H7,A7,C9,E8,I7,F6,G7,G6])
 unfold c5e oP
 simp (disch:=decide) only[F5,D8,F7,F8,E9,D9,o6,l9,o7,D7,G5,o9,D6,ll0,ll1,ll2,ll3,la0,la1,la2,G9,H7,A7,C9,E8,I7,F6,G7,G6]
 cases g2:ieq y.1 2
 ·exact⟨_,rfl,rfl⟩
 by_cases g3:x.1=3
 ·obtain⟨r,e1,q,e2,e3⟩:=key (N7.1 g2) (.inr g3)
  rw[F5 g3,D8 (show x.1≠2 by rw[g3];decide)]
  simp (disch:=decide) only[F5,D8,F7,F8,E9,D9,o6,l9,o7,D7,G5,o9,D6,ll0,ll1,ll2,ll3,la0,la1,la2,G9,H7,A7,C9,E8,I7,F6,G7,G6]
  rw[e1,e2]
  simp (disch:=decide) only[F5,D8,F7,F8,E9,D9,o6,l9,o7,D7,G5,o9,D6,ll0,ll1,ll2,ll3,la0,la1,la2,G9,H7,A7,C9,E8,I7,F6,G7,G6]
  exact⟨_,rfl,congrArg some e3⟩
 rw[D8 g3]
 cases g4:ieq x.1 2
 ·exact⟨_,rfl,rfl⟩
 obtain⟨r,e1,q,e2,e3⟩:=key (N7.1 g2) (.inl (N7.1 g4))
 simp (disch:=decide) only[F5,D8,F7,F8,E9,D9,o6,l9,o7,D7,G5,o9,D6,ll0,ll1,ll2,ll3,la0,la1,la2,G9,H7,A7,C9,E8,I7,F6,G7,G6]
 rw[e1,e2]
 simp (disch:=decide) only[F5,D8,F7,F8,E9,D9,o6,l9,o7,D7,G5,o9,D6,ll0,ll1,ll2,ll3,la0,la1,la2,G9,H7,A7,C9,E8,I7,F6,G7,G6]
 exact⟨_,rfl,congrArg some e3⟩
theorem a0w:∀i:Fin 40,bM ((i.1:Nat):Int)=c4N ((i.1:Nat):Int):=by decide+kernel
theorem a0M:∀i:Fin 40,(arF ((i.1:Nat):Int)=0→i.1∈[1,2,3,4,5,6,7,8,9,35,36,37,38,39])∧(arF ((i.1:Nat):Int)=1→i.1∈[10,25,31,32,33,34])∧(arF ((i.1:Nat):Int)=2→i.1∈[11,12,13,14,15,16,17,18,19,20,21,22,23,24,27,28,29,30])∧(arF ((i.1:Nat):Int)=3→i.1=26):=by decide+kernel
theorem b5d {k:Int} (h:k<1∨39<k):arF k=-1:=by
 unfold arF c4z
 rw[D8 (show k≠10 by omega),D8 (show k≠25 by omega),D8 (show k≠31 by omega),D8 (show k≠32 by omega),D8 (show k≠33 by omega),D8 (show k≠34 by omega),D8 (show k≠26 by omega)]
 rcases h with h | h
 ·rw[F8 (show k<1 by omega),F8 (show k<35 by omega),F8 (show k<11 by omega)];rfl
 ·rw[F7 (show 1≤k by omega),F8 (show 9<k by omega),F7 (show 35≤k by omega),F8 (show 39<k by omega),F7 (show 11≤k by omega),F8 (show 30<k by omega)];rfl
theorem b1j {k:Int} (h:arF k≠-1):∃i:Fin 40,k=((i.1:Nat):Int):=by
 by_cases g:1≤k∧k≤39
 ·exact⟨⟨k.toNat,by omega⟩,by simp;omega⟩
 ·exact absurd (b5d (by omega)) h
theorem a4S {k:Int} (h:arF k≠-1):bM k=c4N k:=by
 obtain⟨i,rfl⟩:=b1j h
 exact a0w i
theorem OD (k:Int):∃b,c4N k=some b:=by
 unfold c4N
 cases ile 1 k <;> cases ile k 8 <;> cases ile 36 k <;> cases ile k 39 <;> cases ieq k 14 <;> cases ieq k 15 <;> cases ieq k 16 <;> cases ieq k 33 <;> exact⟨_,rfl⟩
def Zo (k N:Int):Bool:=l7 (l7 (ieq k 14) true (l7 (ieq k 15) true (ieq k 16))) (l7 (ile 0 N) (ile N 5) false) (l7 (ieq k 34) (l7 (ile 0 N) (ile (dH N 8) 5) false) (l7 (ieq k 6) (ile 0 N) true))
theorem RV (k N:Int):(o5 (l7 (ieq k 14) (some (ieq k 14)) (l7 (ieq k 15) (some (ieq k 15)) (some (ieq k 16)))) fun(x:Bool)=>l7 x (l7 (ile 0 N) (some (ile N 5)) (some false)) (l7 (ieq k 34) (l7 (ile 0 N) (some (ile (dH N 8) 5)) (some false)) (l7 (ieq k 6) (some (ile 0 N)) (some true))))=some (Zo k N):=by
 unfold Zo
 cases ieq k 14 <;> cases ieq k 15 <;> cases ieq k 16 <;> cases ile 0 N <;> cases ieq k 34 <;> cases ieq k 6 <;> rfl
def Vg (k N:Int):Bool:=l7 (ieq N 0) (Zo k N) (l7 ((c4N k).getD false) (Zo k N) false)
theorem Zn {k N c:Int} (h:arF k=c):c5j (k,N) c=some (Vg k N):=by
 unfold c5j Vg
 rw[a2W,o7,F5 h]
 simp only[o9,l9,RV]
 obtain⟨b,hb⟩:=OD k
 rw[hb]
 cases ieq N 0 <;> cases b <;> rfl
theorem UE {k N:Int} (h:arF k≠-1):ik (k,N)=some (Vg k N):=by
 unfold ik Vg
 rw[Jm,o7,D9 (show 0≤arF k by have:=(yR k).2.2;omega)]
 simp only[l9,RV]
 rw[a4S h]
 obtain⟨b,hb⟩:=OD k
 rw[hb]
 cases ieq N 0 <;> cases b <;> rfl
theorem WQ (k N:Int):∃b,ik (k,N)=some b:=by
 by_cases h:arF k=-1
 ·refine⟨false,?_⟩
  unfold ik
  rw[Jm,o7,h];rfl
 ·exact⟨_,UE h⟩
theorem RJ (n:Int×Int) (env:X9):∃b,aG n env=some b:=by
 unfold aG
 by_cases h7:n.1=7
 ·rw[F5 h7,o6];cases ile 0 n.2 <;> exact⟨_,rfl⟩
 rw[D8 h7,l9]
 by_cases h8:n.1=8
 ·rw[F5 h8,o6]
  by_cases g:0≤n.2
  case neg=>rw[F8 (Int.not_le.1 g)];exact⟨_,rfl⟩
  by_cases g2:n.2<o8 env.2.2.1
  case neg=>rw[F7 g,D9 (Int.not_lt.1 g2)];exact⟨_,rfl⟩
  obtain⟨x,hx,_⟩:=fU g g2
  rw[F7 g,E9 g2,hx];exact⟨_,rfl⟩
 rw[D8 h8,l9]
 cases ieq n.1 33
 ·cases ieq n.1 34
  ·cases ieq n.1 36 <;> cases ieq n.1 37 <;> cases ieq n.1 38 <;> cases ieq n.1 39 <;> cases ile 0 n.2 <;> exact⟨_,rfl⟩
  ·exact⟨_,rfl⟩
 ·cases ile 0 n.2 <;> exact⟨_,rfl⟩
theorem a5c {α:Type} (l:List α) (p:α→Bool):l.all p= !l.any fun v=> !p v:=by
 induction l with
 | nil=>rfl
 | cons a l ih=>rw[List.all_cons,List.any_cons,Bool.not_or,Bool.not_not,ih]
theorem a0J (l:List V3) (hl:l.length≤1000000):kR l=some (l.all plB):=by
 unfold kR
 have e:=AX l (fun v=> !plB v) false PUnit.unit (f:=fun(x:Int)=>l7 (ilt x (o8 l)) (o5 (lat l x) fun(x_1:V3)=>o5 (Y5 x_1) fun(x_2:Bool)=>l7 (E5 x_2) (some (Out.rt false)) (some (Out.nx (x9 IntKind.i64 x 1)))) (some (Out.ex PUnit.unit))) hl
  (fun i a hi=>by
   have hlt:(i:Int)<o8 l:=by
    have:=O7.1 hi;obtain⟨h,_⟩:=this;unfold o8;omega
   have hm:=F9 l i
   rw[hi]at hm
   simp only[E9 hlt,o6,hm,o7,C9]
   cases plB a <;> rfl) (by rw[D9 (show o8 l≤(l.length:Int)from Int.le_refl _)];rfl)
 rw[show P5 _ _=_ from e]
 rw[a5c l plB]
 cases l.any fun v=> !plB v <;> rfl
theorem a0h (l:List V3) (hl:l.length≤1000000) {γ:Type} {K:V3⊕(V3×Int)→Option γ} :(o5 (P5
      (fun(x:V3×Int)=>
       l7 (ilt x.2 (o8 l))
        (o5 (lat l x.2) fun(x_1:V3)=>
         o5 (c4t x_1) fun(x_2:Bool)=>
          l7 (E5 x_2) (some (Out.rt (((0,0,0),8):V3×Int))) (some (Out.nx (x.1,x9 IntKind.i64 x.2 1))))
        (some (Out.ex x.1)))
      ((0,0,0),0)) K)=K (l7 (l.all plB) (.inl (0,0,0)) (.inr ((0,0,0),8))):=by
 have hf:∀(l:List V3) (u:V3),ay (fun(_:V3) (v:V3)=>(l7 (plB v) (.inl ((0,0,0):V3)) (.inr (((0,0,0),8):V3×Int)):V3⊕(V3×Int))) l (0,0,0)=l7 (l.all plB) (.inl (0,0,0)) (.inr ((0,0,0),8)):=by
  intro l u
  induction l with
  | nil=>rfl
  | cons a l ih=>
   unfold ay
   rw[List.all_cons]
   cases plB a
   ·rfl
   ·exact ih
 apply fJ l (fun(_:V3) (v:V3)=>(l7 (plB v) (.inl ((0,0,0):V3)) (.inr (((0,0,0),8):V3×Int)):V3⊕(V3×Int))) (fun b i=>((b,i):V3×Int)) (fun b=>b) (fun i b=>b=(0,0,0)) (0,0,0) hl rfl
 ·intro i a b hi hi' hb
  subst hb
  have hlt:(i:Int)<o8 l:=by
   have:=O7.1 hi;obtain⟨h,_⟩:=this;unfold o8;omega
  have hm:=F9 l i
  rw[hi]at hm
  simp only[E9 hlt,o6,hm,o7,A7]
  cases plB a
  ·exact⟨rfl,fun _ h=>by cases h⟩
  ·exact⟨by rw[V6 (by omega)];rfl,fun _ h=>by cases h;rfl⟩
 ·intro b hb
  simp only[D9 (show o8 l≤(l.length:Int)from Int.le_refl _),l9]
 ·intro _
  rw[hf l (0,0,0)]
  cases l.all plB <;> rfl
structure EvOk (env:X9):Prop where
 ms:env.2.2.2.1.length≤1000000
 tb:∀t∈env.2.2.2.2.2,pG t
theorem b0V (k N:Int) (args:List V3) (env:X9) (hE:EvOk env) (hN:-9223372036854775808≤N∧N≤9223372036854775807) (hk:k≠23∧k≠24∧k≠26) (ha:arF k=o8 args) (hf:Vg k N=true) (he:aG (k,N) env=some true) (hp:args.all plB=true):aB (k,N) args env:=by
 have hne:arF k≠-1:=by rw[ha];unfold o8;omega
 have hN34:k=34→0≤N:=by
  rintro rfl
  unfold Vg at hf
  have:Zo 34 N=true:=by
   cases g:ieq N 0 <;> rw[g]at hf
   ·exact hf
   ·exact hf
  unfold Zo at this
  by_cases g:0≤N
  ·exact g
  ·rw[F8 (by omega)]at this;cases this
 obtain⟨i,hi⟩:=b1j hne
 obtain⟨a0,a1,a2,a3⟩:=a0M i
 rw[←hi,ha]at a0 a1 a2 a3
 match args,ha,hp with
 | [],ha,hp=>
  have:=a0 rfl
  simp only[List.mem_cons,List.not_mem_nil,or_false]at this
  rcases this with h | h | h | h | h | h | h | h | h | h | h | h | h | h <;> rw[h]at hi <;> subst hi
  ·exact DD _ _ _ (by decide)
  ·exact DD _ _ _ (by decide)
  ·exact DD _ _ _ (by decide)
  ·exact DD _ _ _ (by decide)
  ·exact DD _ _ _ (by decide)
  ·exact b4Z _ _
  ·exact b5a _ _ he
  ·exact b5b _ _ he
  ·exact b5c _ _
  ·exact b1i _ _
  ·exact IQ _ _ _ (by decide) he hE.ms
  ·exact IQ _ _ _ (by decide) he hE.ms
  ·exact IQ _ _ _ (by decide) he hE.ms
  ·exact IQ _ _ _ (by decide) he hE.ms
 | [x],ha,hp=>
  have hx:plB x=true:=by simpa using hp
  have:=a1 rfl
  simp only[List.mem_cons,List.not_mem_nil,or_false]at this
  rcases this with h | h | h | h | h | h <;> rw[h]at hi <;> subst hi
  ·exact b0W _ _ _
  ·exact b1b _ _ _
  ·exact Xf _ _ _ _ (by decide) hx
  ·exact Xf _ _ _ _ (by decide) hx
  ·exact b1g _ _ _ hx he hE.tb
  ·exact b1h _ _ _ (hN34 rfl) hN.2 he hE.tb
 | [x,y],ha,hp=>
  have hxy:plB x=true∧plB y=true:=by simpa using hp
  have:=a2 rfl
  simp only[List.mem_cons,List.not_mem_nil,or_false]at this
  rcases this with h | h | h | h | h | h | h | h | h | h | h | h | h | h | h | h | h | h <;> rw[h]at hi <;> subst hi
  ·exact Xd _ _ _ _ _ (by decide)
  ·exact Xd _ _ _ _ _ (by decide)
  ·exact b0X _ _ _ _ hxy.1 hxy.2
  ·exact b0Y _ _ _ _
  ·exact b0Z _ _ _ _
  ·exact b1a _ _ _ _
  ·exact Jl _ _ _ _ _ (by decide) hxy.1 hxy.2
  ·exact Jl _ _ _ _ _ (by decide) hxy.1 hxy.2
  ·exact a0K _ _ _ _ _ (by decide)
  ·exact a0K _ _ _ _ _ (by decide)
  ·exact Xe _ _ _ _ _ (by decide)
  ·exact Xe _ _ _ _ _ (by decide)
  ·exact absurd rfl hk.1
  ·exact absurd rfl hk.2.1
  ·exact b1c _ _ _ _
  ·exact b1d _ _ _ _
  ·exact b1e _ _ _ _
  ·exact b1f _ _ _ _
 | [x,y,z],ha,hp=>
  have h:=a3 rfl
  rw[h]at hi
  exact absurd hi hk.2.2
 | x::y::z::w::l,ha,hp=>
  have h1:=(yR k).2.2
  have:o8 (x::y::z::w::l)=(l.length:Int)+4:=by unfold o8;simp <;> omega
  rw[this]at ha
  omega
theorem QY (k N:Int) (args:List V3) (env:X9) (hE:EvOk env) (hN:-9223372036854775808≤N∧N≤9223372036854775807) (hk:k≠23∧k≠24∧k≠26) (hl:args.length≤1000000):∃r:V3×Int,c4Y (k,N) args env=some r∧oK (k,N) args env=some r:=by
 by_cases ha:arF k=o8 args
 case neg=>
  refine⟨((0,0,0),2),?_,?_⟩
  ·unfold c4Y c5j
   rw[a2W,o7,D8 ha];rfl
  ·unfold oK
   obtain⟨b,hb⟩:=WQ k N
   rw[hb,o7]
   cases b
   ·rfl
   ·rw[Jm,o7,D8 (fun h=>ha h.symm)];rfl
 have hne:arF k≠-1:=by rw[ha];unfold o8;omega
 unfold c4Y oK
 rw[Zn ha,UE hne,Jm]
 simp only[o7,F5 ha.symm]
 cases hf:Vg k N
 ·exact⟨_,rfl,rfl⟩
 simp only[o9,l9,o7,D7]
 obtain⟨b,hb⟩:=RJ (k,N) env
 rw[show c5A (k,N) env=some b from hb,hb]
 cases b
 ·exact⟨_,rfl,rfl⟩
 simp only[o7,o9,l9]
 rw[a0h args hl,a0J args hl,o7]
 cases hp:args.all plB
 ·exact⟨_,rfl,rfl⟩
 exact b0V k N args env hE hN hk ha hf hb hp
def XT.node:XT→Int×Int
 | .l0 n=>n | .l1 n _=>n | .l2 n _ _=>n | .l3 n _ _ _=>n
def rtI (t:XT) (o:Nat):Nat:=o+t.size -1
def At (e:List (Int×Int)) (S:List Int) (t:XT) (o:Nat):Prop:=∃pre suf S1 S2,e=pre++t.post++suf∧S=S1++t.sts o++S2∧pre.length=o∧S1.length=o
theorem a7a {e:List (Int×Int)} {S:List Int} {n:Int×Int} {a:XT} {o:Nat} (h:At e S (.l1 n a) o):At e S a o:=by
 obtain⟨p,s,S1,S2,h1,h2,h3,h4⟩:=h
 exact⟨p,[n]++s,S1,[(o:Int)]++S2,by rw[h1];simp[XT.post],by rw[h2];simp[XT.sts],h3,h4⟩
theorem NL {e:List (Int×Int)} {S:List Int} {n:Int×Int} {a b:XT} {o:Nat} (h:At e S (.l2 n a b) o):At e S a o∧At e S b (o+a.size):=by
 obtain⟨p,s,S1,S2,h1,h2,h3,h4⟩:=h
 exact⟨⟨p,b.post++[n]++s,S1,b.sts (o+a.size)++[(o:Int)]++S2,by rw[h1];simp[XT.post],by rw[h2];simp[XT.sts],h3,h4⟩,
  ⟨p++a.post,[n]++s,S1++a.sts o,[(o:Int)]++S2,by rw[h1];simp[XT.post],by rw[h2];simp[XT.sts],by simp[XT.post_len,h3],by simp[XT.sts_len,h4]⟩⟩
theorem NM {e:List (Int×Int)} {S:List Int} {n:Int×Int} {a b c:XT} {o:Nat} (h:At e S (.l3 n a b c) o):At e S a o∧At e S b (o+a.size)∧At e S c (o+a.size+b.size):=by
 obtain⟨p,s,S1,S2,h1,h2,h3,h4⟩:=h
 exact⟨⟨p,b.post++c.post++[n]++s,S1,b.sts (o+a.size)++c.sts (o+a.size+b.size)++[(o:Int)]++S2,by rw[h1];simp[XT.post],by rw[h2];simp[XT.sts],h3,h4⟩,
  ⟨p++a.post,c.post++[n]++s,S1++a.sts o,c.sts (o+a.size+b.size)++[(o:Int)]++S2,by rw[h1];simp[XT.post],by rw[h2];simp[XT.sts],by simp[XT.post_len,h3],by simp[XT.sts_len,h4]⟩,
  ⟨p++a.post++b.post,[n]++s,S1++a.sts o++b.sts (o+a.size),[(o:Int)]++S2,by rw[h1];simp[XT.post],by rw[h2];simp[XT.sts],by simp[XT.post_len,h3];try omega,by simp[XT.sts_len,h4];try omega⟩⟩
theorem a0d (t:XT):∃p,t.post=p++[t.node]∧p.length+1=t.size:=by
 have hl:=t.post_len
 cases t with
 | l0 n=>exact⟨[],rfl,rfl⟩
 | l1 n a=>refine⟨a.post,rfl,?_⟩;simp only[XT.post,List.length_append,List.length_singleton]at hl;exact hl
 | l2 n a b=>refine⟨a.post++b.post,rfl,?_⟩;simp only[XT.post,List.length_append,List.length_singleton]at hl ⊢;exact hl
 | l3 n a b c=>refine⟨a.post++b.post++c.post,rfl,?_⟩;simp only[XT.post,List.length_append,List.length_singleton]at hl ⊢;exact hl
theorem a4F (t:XT) (o:Nat):∃p,t.sts o=p++[(o:Int)]∧p.length+1=t.size:=by
 have hl:=t.sts_len o
 cases t with
 | l0 n=>exact⟨[],rfl,rfl⟩
 | l1 n a=>refine⟨a.sts o,rfl,?_⟩;simp only[XT.sts,List.length_append,List.length_singleton]at hl;exact hl
 | l2 n a b=>refine⟨a.sts o++b.sts (o+a.size),rfl,?_⟩;simp only[XT.sts,List.length_append,List.length_singleton]at hl ⊢;exact hl
 | l3 n a b c=>refine⟨a.sts o++b.sts (o+a.size)++c.sts (o+a.size+b.size),rfl,?_⟩;simp only[XT.sts,List.length_append,List.length_singleton]at hl ⊢;exact hl
theorem nT {e:List (Int×Int)} {S:List Int} {t:XT} {o:Nat} (h:At e S t o):e[rtI t o]? =some t.node∧S[rtI t o]? =some (o:Int)∧rtI t o<e.length:=by
 obtain⟨p,s,S1,S2,h1,h2,h3,h4⟩:=h
 obtain⟨q,e1,e2⟩:=a0d t
 obtain⟨q',e1',e2'⟩:=a4F t o
 have hp:=t.size_pos
 have a1:e[rtI t o]? =some t.node:=by
  rw[h1,e1,List.append_assoc,List.append_assoc,←List.append_assoc p,List.getElem?_append_right (by simp[rtI];omega)]
  rw[show rtI t o -(p++q).length=0 by simp[rtI];omega];rfl
 refine⟨a1,?_,(O7.1 a1).1⟩
 rw[h2,e1',List.append_assoc,List.append_assoc,←List.append_assoc S1,List.getElem?_append_right (by simp[rtI];omega)]
 rw[show rtI t o -(S1++q').length=0 by simp[rtI];omega];rfl
def La:XT→Nat→List Int
 | .l0 _,_=>[]
 | .l1 _ a,o=>[(rtI a o:Int)]
 | .l2 _ a b,o=>[(rtI a o:Int),(rtI b (o+a.size):Int)]
 | .l3 _ a b c,o=>[(rtI a o:Int),(rtI b (o+a.size):Int),(rtI c (o+a.size+b.size):Int)]
structure OStep (S:List Int) (f:List Int×Int×Int→Option ((List Int×Int×Int)⊕List Int)):Prop where
 step:∀(l:List Int) (c:Nat) (j:Nat) (x:Nat),j<l.length→l.length≤3→S[c]? =some ((x:Nat):Int)→x≤100→f (l,(c:Int),(j:Int))=some (.inl (l.set j (c:Int),(x:Int) -1,(j:Int) -1))
 stop:∀(l:List Int) (c:Int),f (l,c,-1)=some (.inr l)
theorem qW {σ ε:Type} {f:σ→Option (σ⊕ε)} {s s' :σ} {n:Nat} (h:f s=some (.inl s')):jb f (n+1) s=jb f n s' :=by rw[jb,h]
theorem wO {σ ε:Type} {f:σ→Option (σ⊕ε)} {s:σ} {e:ε} {n:Nat} (h:f s=some (.inr e)):jb f (n+1) s=some e:=by rw[jb,h]
theorem a2q {e:List (Int×Int)} {S:List Int} {t:XT} {o:Nat} {f:List Int×Int×Int→Option ((List Int×Int×Int)⊕List Int)} (hs:OStep S f) (h:At e S t o) (he:e.length≤48) (hw:t.wf):
  U9 f (List.replicate (arF t.node.1).toNat 0,(rtI t o:Int) -1,arF t.node.1 -1)=some (La t o):=by
 obtain⟨k,hk⟩:∃k,dK=k+1+1+1+1:=⟨dK -4,by unfold dK;omega⟩
 unfold U9
 rw[hk]
 have hr:=nT h
 cases t with
 | l0 n=>
  rw[show arF (XT.l0 n).node.1=0 from hw]
  exact wO (hs.stop _ _)
 | l1 n a=>
  rw[show arF (XT.l1 n a).node.1=1 from hw.1]
  have ha:=nT (a7a h)
  have p1:=a.size_pos
  rw[show((rtI (.l1 n a) o:Nat):Int) -1=((rtI a o:Nat):Int) by simp only[rtI,XT.size];omega]
  rw[show((1:Int) -1)=((0:Nat):Int)from rfl,qW (hs.step _ _ 0 o (by simp) (by simp) ha.2.1 (by unfold rtI at hr;omega))]
  rw[show(((0:Nat):Int) -1)=-1 from rfl,wO (hs.stop _ _)]
  rfl
 | l2 n a b=>
  rw[show arF (XT.l2 n a b).node.1=2 from hw.1]
  have ha:=nT (NL h).1
  have hb:=nT (NL h).2
  have p1:=a.size_pos
  have p2:=b.size_pos
  rw[show((rtI (.l2 n a b) o:Nat):Int) -1=((rtI b (o+a.size):Nat):Int) by simp only[rtI,XT.size];omega]
  rw[show((2:Int) -1)=((1:Nat):Int)from rfl,qW (hs.step _ _ 1 (o+a.size) (by simp) (by simp) hb.2.1 (by unfold rtI at hb;omega))]
  rw[show((o+a.size:Nat):Int) -1=((rtI a o:Nat):Int) by unfold rtI;omega,show(((1:Nat):Int) -1)=((0:Nat):Int)from rfl]
  rw[qW (hs.step _ _ 0 o (by simp) (by simp) ha.2.1 (by unfold rtI at hr;omega))]
  rw[show(((0:Nat):Int) -1)=-1 from rfl,wO (hs.stop _ _)]
  rfl
 | l3 n a b c=>
  rw[show arF (XT.l3 n a b c).node.1=3 from hw.1]
  have ha:=nT (NM h).1
  have hb:=nT (NM h).2.1
  have hc:=nT (NM h).2.2
  have p1:=a.size_pos
  have p2:=b.size_pos
  have p3:=c.size_pos
  rw[show((rtI (.l3 n a b c) o:Nat):Int) -1=((rtI c (o+a.size+b.size):Nat):Int) by simp only[rtI,XT.size];omega]
  rw[show((3:Int) -1)=((2:Nat):Int)from rfl,qW (hs.step _ _ 2 (o+a.size+b.size) (by simp) (by simp) hc.2.1 (by unfold rtI at hc;omega))]
  rw[show((o+a.size+b.size:Nat):Int) -1=((rtI b (o+a.size):Nat):Int) by unfold rtI;omega,show(((2:Nat):Int) -1)=((1:Nat):Int)from rfl]
  rw[qW (hs.step _ _ 1 (o+a.size) (by simp) (by simp) hb.2.1 (by unfold rtI at hb;omega))]
  rw[show((o+a.size:Nat):Int) -1=((rtI a o:Nat):Int) by unfold rtI;omega,show(((1:Nat):Int) -1)=((0:Nat):Int)from rfl]
  rw[qW (hs.step _ _ 0 o (by simp) (by simp) ha.2.1 (by unfold rtI at hr;omega))]
  rw[show(((0:Nat):Int) -1)=-1 from rfl,wO (hs.stop _ _)]
  rfl
theorem c0O {t:XT} (h:t.wf):0≤arF t.node.1∧arF t.node.1≤3:=by
 cases t with
 | l0 n=>rw[show arF (XT.l0 n).node.1=0 from h];decide
 | l1 n a=>rw[show arF (XT.l1 n a).node.1=1 from h.1];decide
 | l2 n a b=>rw[show arF (XT.l2 n a b).node.1=2 from h.1];decide
 | l3 n a b c=>rw[show arF (XT.l3 n a b c).node.1=3 from h.1];decide
theorem Bj {α:Type} {k:Int} (h:0≤k) (h2:k≤1000000) (x:α):jg k x=some (List.replicate k.toNat x):=if_pos ⟨h,by omega⟩
theorem vK {e:List (Int×Int)} {S:List Int} {t:XT} {o:Nat} (env:X9) (h:At e S t o) (he:e.length≤48) (hw:t.wf):bV (e,S,env) (rtI t o:Int)=some (La t o):=by
 have hr:=nT h
 have ha:=c0O hw
 unfold bV
 simp only[F9,hr.1,o7,Jm]
 rw[Bj ha.1 (by omega),o7,bH]
 rw[show G8 .i64 ((rtI t o:Nat):Int) 1=(rtI t o:Int) -1 from H5 (by unfold I64;omega)]
 rw[show G8 .i64 (o8 (List.replicate (arF t.node.1).toNat (0:Int))) 1=arF t.node.1 -1 by
  rw[show o8 (List.replicate (arF t.node.1).toNat (0:Int))=arF t.node.1 by unfold o8;rw[List.length_replicate];omega]
  exact H5 (by unfold I64;omega)]
 refine a2q ⟨fun l c j x hj hl hx hx2=>?_,fun l c=>?_⟩ h he hw
 ·have hjl:l[j]? =some l[j]:=aQ hj
  simp only[F7 (show(0:Int)≤(j:Int) by omega),o6,F9,hjl,o7,hx,J9,toN,Int.toNat_natCast,P8]
  rw[H5 (by unfold I64;omega),H5 (by unfold I64;omega)]
 ·rfl
def wZ (n:Int×Int) (args:List V3) (env:X9):V3×Int:=(c4Y n args env).getD ((0,0,0),0)
theorem Fj {n:Int×Int} {env:X9} (args:List V3) (hE:EvOk env) (hI:I64 n.2) (hk:n.1≠23∧n.1≠24∧n.1≠26) (hl:args.length≤3):c4Y n args env=some (wZ n args env)∧oK n args env=some (wZ n args env):=by
 obtain⟨r,h1,h2⟩:=QY n.1 n.2 args env hE (by unfold I64 at hI;omega) hk (by omega)
 have e:wZ n args env=r:=by unfold wZ;rw[show c4Y n args env=some r from h1];rfl
 rw[e];exact⟨h1,h2⟩
def lzB (k:Int):Bool:=l7 (ieq k 23) true (l7 (ieq k 24) true (ieq k 26))
theorem b5A {k:Int} (h:lzB k=false):k≠23∧k≠24∧k≠26:=by
 refine⟨?_,?_,?_⟩ <;> (rintro rfl;revert h;decide)
def uV (r:V3×Int):V3×Int:=l7 (ieq r.2 0) (l7 (ieq r.1.1 1) (l7 (plB r.1) (r.1,0) ((0,0,0),8)) ((0,0,0),8)) ((0,0,0),r.2)
def Xy (n:Int×Int) (ra rb:V3×Int):V3×Int:=l7 (ieq n.2 0) (l7 (ieq (uV ra).2 0) (l7 (bI (ieq n.1 23) (ieq (uV ra).1.2.2 0)) ((uV ra).1,0) (uV rb)) ((0,0,0),(uV ra).2)) ((0,0,0),2)
def a1I (n:Int×Int) (ra rb rc:V3×Int):V3×Int:=l7 (ieq n.2 0) (l7 (ieq (uV ra).2 0) (l7 (ieq (uV ra).1.2.2 1) rb rc) ((0,0,0),(uV ra).2)) ((0,0,0),2)
def evT (env:X9):XT→V3×Int
 | .l0 n=>wZ n [] env
 | .l1 n a=>l7 (ieq (evT env a).2 0) (wZ n [(evT env a).1] env) ((0,0,0),(evT env a).2)
 | .l2 n a b=>l7 (lzB n.1) (Xy n (evT env a) (evT env b)) (l7 (ieq (evT env a).2 0) (l7 (ieq (evT env b).2 0) (wZ n [(evT env a).1,(evT env b).1] env) ((0,0,0),(evT env b).2)) ((0,0,0),(evT env a).2))
 | .l3 n a b c=>a1I n (evT env a) (evT env b) (evT env c)
abbrev VSt:Type:=V3×List V3×Int
structure VStep (ops:List Int) (ev:Int→Option (V3×Int)) (pad:List V3→List V3) (f:VSt→Option (Out VSt (V3×List V3) (V3×Int))):Prop where
 step:∀(l:List V3) (c:Int) (r:V3×Int),ops[l.length]? =some c→ev c=some r→f ((0,0,0),pad l,(l.length:Int))=some (l7 (ieq r.2 0) (.nx ((0,0,0),pad (l++[r.1]),((l.length+1:Nat):Int))) (.rt ((0,0,0),r.2)))
 stop:∀(l:List V3),l.length=ops.length→f ((0,0,0),pad l,(l.length:Int))=some (.ex ((0,0,0),l))
section
variable {ev:Int→Option (V3×Int)} {pad:List V3→List V3} {f:VSt→Option (Out VSt (V3×List V3) (V3×Int))}
theorem v0 (h:VStep [] ev pad f):P5 f ((0,0,0),pad [],0)=some (.inl ((0,0,0),[])):=by
 obtain⟨k,hk⟩:∃k,dK=k+1:=⟨dK -1,by unfold dK;omega⟩
 unfold P5
 rw[hk,gJ,show f ((0,0,0),pad [],0)=some (.ex ((0,0,0),[]))from h.stop [] rfl]
theorem v1 {c:Int} {r:V3×Int} (h:VStep [c] ev pad f) (h1:ev c=some r):P5 f ((0,0,0),pad [],0)=some (l7 (ieq r.2 0) (.inl ((0,0,0),[r.1])) (.inr ((0,0,0),r.2))):=by
 obtain⟨k,hk⟩:∃k,dK=k+1+1:=⟨dK -2,by unfold dK;omega⟩
 unfold P5
 rw[hk,gJ,show f ((0,0,0),pad [],0)=_ from h.step [] c r rfl h1]
 cases ieq r.2 0
 ·rfl
 ·simp only[o6]
  rw[gJ,show f ((0,0,0),pad ([]++[r.1]),(([].length+1:Nat):Int))=_ from h.stop [r.1] rfl]
theorem v2 {c d:Int} {r q:V3×Int} (h:VStep [c,d] ev pad f) (h1:ev c=some r) (h2:ev d=some q):P5 f ((0,0,0),pad [],0)=some (l7 (ieq r.2 0) (l7 (ieq q.2 0) (.inl ((0,0,0),[r.1,q.1])) (.inr ((0,0,0),q.2))) (.inr ((0,0,0),r.2))):=by
 obtain⟨k,hk⟩:∃k,dK=k+1+1+1:=⟨dK -3,by unfold dK;omega⟩
 unfold P5
 rw[hk,gJ,show f ((0,0,0),pad [],0)=_ from h.step [] c r rfl h1]
 cases ieq r.2 0
 ·rfl
 ·simp only[o6]
  rw[gJ,show f ((0,0,0),pad ([]++[r.1]),(([].length+1:Nat):Int))=_ from h.step [r.1] d q rfl h2]
  cases ieq q.2 0
  ·rfl
  ·simp only[o6]
   rw[gJ,show f ((0,0,0),pad ([r.1]++[q.1]),(([r.1].length+1:Nat):Int))=_ from h.stop [r.1,q.1] rfl]
end
theorem a0N {k:Int} (h:arF k=0∨arF k=1):k≠23∧k≠24∧k≠26:=by
 refine⟨?_,?_,?_⟩ <;> (rintro rfl;revert h;decide)
theorem b1k {k:Int} (h:arF k=2):k≠26:=by rintro rfl;revert h;decide
theorem b1l {k:Int} (h:arF k=3):k=26:=by
 obtain⟨i,rfl⟩:=b1j (by rw[h];decide)
 rw[(a0M i).2.2.2 h];rfl
theorem b9z (n:Nat) (E:L6) (i:Int):(x8 (n+1)).1 E i=fQ (x8 n).1 (x8 n).2.1 (x8 n).2.2 E i:=rfl
theorem b9A (n:Nat) (E:L6) (i:Int):(x8 (n+1)).2.1 E i=iW (x8 n).1 (x8 n).2.1 (x8 n).2.2 E i:=rfl
theorem b0p (n:Nat) (E:L6) (x:Int×Int) (l:List Int):(x8 (n+1)).2.2 E x l=dQ (x8 n).1 (x8 n).2.1 (x8 n).2.2 E x l:=rfl
theorem CJ {n:Nat} {E:L6} {i:Int} {r:V3×Int} (h:(x8 n).2.1 E i=some r):(x8 (n+1)).1 E i=some (uV r):=by
 rw[b9z]
 unfold fQ uV
 rw[h,o7]
 cases ieq r.2 0
 ·rfl
 cases ieq r.1.1 1
 ·rfl
 simp only[o9,l9,o6]
 rw[C9,o7]
 cases plB r.1 <;> rfl
theorem a1H {n:Nat} {E:L6} {x:Int×Int} {i j:Int} {ra rb:V3×Int} (hx:x.1≠26) (h1:(x8 n).2.1 E i=some ra) (h2:(x8 n).2.1 E j=some rb):(x8 (n+2)).2.2 E x [i,j]=some (Xy x ra rb):=by
 rw[show n+2=(n+1)+1 from rfl,b0p]
 unfold dQ Xy
 rw[show lat [i,j] 0=some i from rfl,show lat [i,j] 1=some j from rfl]
 simp only[o7]
 rw[CJ h1,CJ h2,D8 hx]
 cases ieq x.2 0
 ·rfl
 simp only[o7,o9,l9,o6]
 cases ieq (uV ra).2 0
 ·rfl
 simp only[o9,l9,o6]
 cases bI (ieq x.1 23) (ieq (uV ra).1.2.2 0) <;> rfl
theorem a1J {n:Nat} {E:L6} {x:Int×Int} {i j l:Int} {ra rb rc:V3×Int} (hx:x.1=26) (h1:(x8 n).2.1 E i=some ra) (h2:(x8 (n+1)).2.1 E j=some rb) (h3:(x8 (n+1)).2.1 E l=some rc):(x8 (n+2)).2.2 E x [i,j,l]=some (a1I x ra rb rc):=by
 rw[show n+2=(n+1)+1 from rfl,b0p]
 unfold dQ a1I
 rw[show lat [i,j,l] 0=some i from rfl,show lat [i,j,l] 1=some j from rfl,show lat [i,j,l] 2=some l from rfl]
 simp only[o7]
 rw[CJ h1,h2,h3,F5 hx]
 cases ieq x.2 0
 ·rfl
 simp only[o7,o9,l9,o6]
 cases ieq (uV ra).2 0
 ·rfl
 simp only[o9,l9,o6]
 cases ieq (uV ra).1.2.2 1 <;> rfl
def Nj (m:Nat) (l:List V3):List V3:=l++List.replicate (m -l.length) (0,0,0)
theorem a2v {m:Nat} {l:List V3} (h:l.length<m):(Nj m l)[l.length]? =some (0,0,0):=by
 unfold Nj
 rw[List.getElem?_append_right (Nat.le_refl _),Nat.sub_self,List.getElem?_replicate,if_pos (by omega)]
theorem a2w {m:Nat} {l:List V3} (v:V3) (h:l.length<m):(Nj m l).set l.length v=Nj m (l++[v]):=by
 unfold Nj
 obtain⟨k,hk⟩:∃k,m -l.length=k+1:=⟨m -l.length -1,by omega⟩
 rw[List.set_append_right _ _ (Nat.le_refl _),Nat.sub_self,hk,List.replicate_succ,List.set_cons_zero]
 rw[show m -(l++[v]).length=k by simp;omega]
 simp
theorem a0a {m:Nat} {l:List V3} (h:l.length=m):Nj m l=l:=by unfold Nj;rw[h,Nat.sub_self];simp
def XN (ev:Int→Option (V3×Int)) (ops:List Int) (x:VSt):Option (Out VSt (V3×List V3) (V3×Int)):=
 l7 (ilt x.2.2 (o8 ops))
  (o5 (lat ops x.2.2) fun(x_4:Int)=>
   o5 (J9 ops (toN x.2.2)) fun(x_5:Int)=>
    o5 (ev x_5) fun(x_6:V3×Int)=>
     l7 (E5 (ieq x_6.2 0)) (some (Out.rt ((0,0,0),x_6.2)))
      (o5 (lat x.2.1 x.2.2) fun(x_7:V3)=>
       o5 (J9 x.2.1 (toN x.2.2)) fun(x_8:V3)=>
        some (Out.nx (x.1,P8 x.2.1 (toN x.2.2) x_6.1,x9 IntKind.i64 x.2.2 1))))
  (some (Out.ex (x.1,x.2.1)))
theorem Di (ev:Int→Option (V3×Int)) (ops:List Int) (ho:ops.length≤3):VStep ops ev (Nj ops.length) (XN ev ops):=by
 refine⟨fun l c r h1 h2=>?_,fun l h=>?_⟩
 ·have hl:=(O7.1 h1).1
  unfold XN
  simp only[H9 h1,o6,F9,h1,o7,J9,toN,Int.toNat_natCast,h2,a2v hl,P8,a2w _ hl]
  cases ieq r.2 0
  ·rfl
  ·simp only[o9,l9,o6]
   rw[V6 (by omega)]
 ·unfold XN
  rw[a0a h,h,H8];rfl
theorem IW (n:Nat) (E:L6) (i:Int) (x:Int×Int) (ops:List Int) (h1:lat E.1 i=some x) (h2:bV E i=some ops) (ho:ops.length≤3):
  (x8 (n+1)).2.1 E i=l7 (lzB x.1) ((x8 n).2.2 E x ops)
   (o5 (P5 (XN ((x8 n).2.1 E) ops) ((0,0,0),Nj ops.length [],0)) fun(o:V3×List V3⊕V3×Int)=>U7 o (fun(y:V3×List V3)=>oK x y.2 E.2.2) fun(r:V3×Int)=>some r):=by
 rw[b9A]
 unfold iW lzB
 simp only[h1,h2,o7,bH]
 rw[show o8 ops=(ops.length:Int)from rfl]
 have hp:jg (ops.length:Int) (((0,0,0):Int×Int×Int))=some (Nj ops.length []):=by
  rw[Bj (by omega) (by omega)];rfl
 cases g1:ieq x.1 23
 ·cases g2:ieq x.1 24
  ·cases g3:ieq x.1 26
   ·simp only[l9,o7,D7]
    rw[show jg (ops.length:Int) _=_ from hp,o7]
    rfl
   ·simp only[l9,o6]
    generalize (x8 n).2.2 E x ops=q
    cases q <;> rfl
  ·simp only[l9,o6]
   generalize (x8 n).2.2 E x ops=q
   cases q <;> rfl
 ·simp only[o6]
  generalize (x8 n).2.2 E x ops=q
  cases q <;> rfl
theorem Ew (t:XT) (o:Nat):(La t o).length≤3:=by cases t <;> simp[La]
theorem RG {e:List (Int×Int)} {S:List Int} {env:X9} (hE:EvOk env) (he:e.length≤48) (hI:∀n∈e,I64 n.2):∀(t:XT) (o k:Nat),At e S t o→t.wf→3*t.size≤k→(x8 k).2.1 (e,S,env) (rtI t o:Int)=some (evT env t):=by
 intro t
 induction t with
 | l0 n=>
  intro o k h hw hk
  have hr:=nT h
  obtain⟨k,rfl⟩:∃m,k=m+3:=⟨k -3,by simp only[XT.size]at hk;omega⟩
  have hz:=a0N (.inl (show arF n.1=0 from hw))
  rw[show k+3=(k+2)+1 from rfl,IW _ _ _ n (La (.l0 n) o) (by rw[F9];exact hr.1) (vK env h he hw) (Ew _ _)]
  rw[show lzB n.1=false by unfold lzB;rw[D8 hz.1,D8 hz.2.1,D8 hz.2.2];rfl,l9]
  rw[show La (.l0 n) o=[]from rfl,v0 (Di _ _ (by simp)),o7,D7]
  exact(Fj [] hE (hI n (fO hr.1)) hz (by simp)).2
 | l1 n a iha=>
  intro o k h hw hk
  have hr:=nT h
  simp only[XT.size]at hk
  obtain⟨k,rfl⟩:∃m,k=m+3:=⟨k -3,by omega⟩
  have hz:=a0N (.inr (show arF n.1=1 from hw.1))
  rw[show k+3=(k+2)+1 from rfl,IW _ _ _ n (La (.l1 n a) o) (by rw[F9];exact hr.1) (vK env h he hw) (Ew _ _)]
  rw[show lzB n.1=false by unfold lzB;rw[D8 hz.1,D8 hz.2.1,D8 hz.2.2];rfl,l9]
  rw[show La (.l1 n a) o=[(rtI a o:Int)]from rfl,v1 (Di _ _ (by simp)) (iha o (k+2) (a7a h) hw.2 (by omega)),o7]
  rw[show evT env (.l1 n a)=l7 (ieq (evT env a).2 0) (wZ n [(evT env a).1] env) ((0,0,0),(evT env a).2)from rfl]
  cases ieq (evT env a).2 0
  ·rfl
  exact(Fj [(evT env a).1] hE (hI n (fO hr.1)) hz (by simp)).2
 | l2 n a b iha ihb=>
  intro o k h hw hk
  have hr:=nT h
  simp only[XT.size]at hk
  obtain⟨k,rfl⟩:∃m,k=m+3:=⟨k -3,by omega⟩
  have hz:=b1k (show arF n.1=2 from hw.1)
  rw[show k+3=(k+2)+1 from rfl,IW _ _ _ n (La (.l2 n a b) o) (by rw[F9];exact hr.1) (vK env h he hw) (Ew _ _)]
  rw[show La (.l2 n a b) o=[(rtI a o:Int),(rtI b (o+a.size):Int)]from rfl]
  rw[show evT env (.l2 n a b)=l7 (lzB n.1) (Xy n (evT env a) (evT env b)) (l7 (ieq (evT env a).2 0) (l7 (ieq (evT env b).2 0) (wZ n [(evT env a).1,(evT env b).1] env) ((0,0,0),(evT env b).2)) ((0,0,0),(evT env a).2))from rfl]
  cases hl:lzB n.1
  ·have hz:=b5A hl
   simp only[l9]
   rw[v2 (Di _ _ (by simp)) (iha o (k+2) (NL h).1 hw.2.1 (by omega)) (ihb (o+a.size) (k+2) (NL h).2 hw.2.2 (by omega)),o7]
   cases ieq (evT env a).2 0
   ·rfl
   cases ieq (evT env b).2 0
   ·rfl
   exact(Fj [(evT env a).1,(evT env b).1] hE (hI n (fO hr.1)) hz (by simp)).2
  ·simp only[o6]
   exact a1H hz (iha o k (NL h).1 hw.2.1 (by omega)) (ihb (o+a.size) k (NL h).2 hw.2.2 (by omega))
 | l3 n a b c iha ihb ihc=>
  intro o k h hw hk
  have hr:=nT h
  simp only[XT.size]at hk
  obtain⟨k,rfl⟩:∃m,k=m+3:=⟨k -3,by omega⟩
  have hz:=b1l (show arF n.1=3 from hw.1)
  rw[show k+3=(k+2)+1 from rfl,IW _ _ _ n (La (.l3 n a b c) o) (by rw[F9];exact hr.1) (vK env h he hw) (Ew _ _)]
  rw[show lzB n.1=true by rw[hz];decide,o6]
  exact a1J hz (iha o k (NM h).1 hw.2.1 (by omega)) (ihb (o+a.size) (k+1) (NM h).2.1 hw.2.2.1 (by omega)) (ihc (o+a.size+b.size) (k+1) (NM h).2.2 hw.2.2.2 (by omega))
def yz (e:List (Int×Int)) (env:X9):V3×Int:=match iP e with
 | .inl x=>((0,0,0),x.2)
 | .inr t=>evT env t
theorem a0P {e:List (Int×Int)} {t:XT} (h:iP e= .inr t):At e (t.sts 0) t 0∧e.length≤48∧e.length=t.size∧G8 .i64 (o8 e) 1=(rtI t 0:Int):=by
 obtain⟨hp,h48⟩:=Ar h
 have hsz:e.length=t.size:=by rw[hp,XT.post_len]
 have hpos:=t.size_pos
 refine⟨⟨[],[],[],[],by simp[←hp],by simp,rfl,rfl⟩,h48,hsz,?_⟩
 rw[H5 (by unfold I64 o8;omega)]
 unfold o8 rtI;omega
theorem Xp {e:List (Int×Int)} {env:X9} (hE:EvOk env) (hI:∀n∈e,I64 n.2):wG e env=some (yz e env):=by
 unfold wG zi yz
 rw[ET]
 unfold tX
 cases h:iP e with
 | inl x=>simp only[o7,D8 (Aq h)];rfl
 | inr t=>
  obtain⟨h1,h2,h3,h4⟩:=a0P h
  simp only[o7,F5 (rfl:(0:Int)=0),o9,l9,bH]
  rw[h4,show mV (e,t.sts 0,env) ((rtI t 0:Nat):Int)=some (evT env t)from RG hE h2 hI t 0 dK h1 (GM h) (by unfold dK;omega)] <;> rfl
abbrev E4:Type:=Int×Int×Int×Int
def RZ (s:A8) (env:X9) (m d:Int) (ap:List Bool) (i:Int):List Bool⊕(Int×E4):=
 match lat s.2.2.2.2 i with
 | none=> .inl ap
 | some r=>l7 (ieq (o8 r.2.2.2.2.2.1) 0) (.inl (ap++[true])) (l7 (ieq (yz r.2.2.2.2.2.1 env).2 0) (.inl (ap++[ieq (yz r.2.2.2.2.2.1 env).1.2.2 1])) (.inr (0,(yz r.2.2.2.2.2.1 env).2,m,d,i)))
def dP (s:A8) (env:X9) (m d:Int):Int×E4:=
 match ay (RZ s env m d) (af s d env.1).1 []with
 | .inr e=>e
 | .inl ap=>l7 (ilt (yL (af s d env.1).2.1 (af s d env.1).2.2 ap) 0) (yL (af s d env.1).2.1 (af s d env.1).2.2 ap,0,0,0,0) (((af s d env.1).1.getD (yL (af s d env.1).2.1 (af s d env.1).2.2 ap).toNat 0),0,0,0,0)
theorem UA {s:A8} {d t i:Int} (h:i∈(af s d t).1):∃r,lat s.2.2.2.2 i=some r∧r∈s.2.2.2.2:=by
 have h:i∈castL (mX s d t):=h
 obtain⟨k,hk,rfl⟩:=List.mem_map.1 h
 have:=(Ph hk).1
 exact fU (by omega) (by unfold o8;omega)
theorem MC (s:A8) (d t:Int):(af s d t).1.length≤s.2.2.2.2.length∧(af s d t).2.1.length=(af s d t).1.length:=by
 refine⟨?_,?_⟩
 ·show(castL (mX s d t)).length≤_
  rw[Bc];exact xO _ _
 ·show((mX s d t).map _).length=(castL (mX s d t)).length
  rw[Bc,List.length_map]
theorem a0Z {oc pr:Int→Int} {l:List Int} {n:Int} (hn:0≤n) (h:∀x∈l,oc x<n):chF oc pr l<n:=by
 unfold chF
 cases hb:yU oc pr l with
 | nil=>show(-1:Int)<n;omega
 | cons b r=>
  cases r with
  | nil=>exact h b (AY (oc:=oc) (pr:=pr) (by rw[hb];simp))
  | cons c r=>show(-2:Int)<n;omega
theorem a2e (par prio:List Int) (ap:List Bool):∀(k:Nat) (i:Int),i<par.length→ocF par prio ap k i<par.length
 | 0,i,h=>by show(-1:Int)<_;omega
 | k+1,i,h=>by
  unfold ocF
  have hb:chF (ocF par prio ap k) (prF prio) (castL (sN par i))<(par.length:Int):=a0Z (by omega) fun x hx=>by
   unfold castL at hx
   obtain⟨j,hj,rfl⟩:=List.mem_map.1 hx
   have:=(PX hj).1
   exact a2e par prio ap k _ (by omega)
  cases ieq (chF (ocF par prio ap k) (prF prio) (castL (sN par i))) (-1)
  ·exact hb
  ·cases apF ap i
   ·show(-1:Int)<_;omega
   ·exact h
theorem YH (par prio:List Int) (ap:List Bool):yL par prio ap<par.length:=by
 unfold yL
 cases ieq (AA par prio) 0
 ·show(-1:Int)<_;omega
 cases ieq (o8 ap) (o8 par)
 ·show(-1:Int)<_;omega
 show chS par prio ap (-1)<_
 unfold chS
 refine a0Z (by omega) fun x hx=>?_
 unfold castL at hx
 obtain⟨j,hj,rfl⟩:=List.mem_map.1 hx
 have:=(PX hj).1
 unfold OC
 exact a2e par prio ap _ _ (by omega)
def Qj (m:Nat) (l:List Bool):List Bool:=l++List.replicate (m -l.length) false
theorem a2t {m:Nat} {l:List Bool} (h:l.length<m):(Qj m l)[l.length]? =some false:=by
 unfold Qj
 rw[List.getElem?_append_right (Nat.le_refl _),Nat.sub_self,List.getElem?_replicate,if_pos (by omega)]
theorem a2u {m:Nat} {l:List Bool} (v:Bool) (h:l.length<m):(Qj m l).set l.length v=Qj m (l++[v]):=by
 unfold Qj
 obtain⟨k,hk⟩:∃k,m -l.length=k+1:=⟨m -l.length -1,by omega⟩
 rw[List.set_append_right _ _ (Nat.le_refl _),Nat.sub_self,hk,List.replicate_succ,List.set_cons_zero]
 rw[show m -(l++[v]).length=k by simp;omega]
 simp
theorem ZZ {m:Nat} {l:List Bool} (h:l.length=m):Qj m l=l:=by unfold Qj;rw[h,Nat.sub_self];simp
theorem UM (s:A8) (env:X9) (m d:Int) (ap:List Bool):
  l7 (ilt (yL (af s d env.1).2.1 (af s d env.1).2.2 ap) 0) (some ((yL (af s d env.1).2.1 (af s d env.1).2.2 ap,0,0,0,0):Int×E4))
   (o5 (lat (af s d env.1).1 (yL (af s d env.1).2.1 (af s d env.1).2.2 ap)) fun(x_3:Int)=>o5 (J9 (af s d env.1).1 (toN (yL (af s d env.1).2.1 (af s d env.1).2.2 ap))) fun(x:Int)=>some (x,0,0,0,0))=
  some (l7 (ilt (yL (af s d env.1).2.1 (af s d env.1).2.2 ap) 0) (yL (af s d env.1).2.1 (af s d env.1).2.2 ap,0,0,0,0) (((af s d env.1).1.getD (yL (af s d env.1).2.1 (af s d env.1).2.2 ap).toNat 0),0,0,0,0)):=by
 have hb:=YH (af s d env.1).2.1 (af s d env.1).2.2 ap
 have hl:=(MC s d env.1).2
 generalize yL (af s d env.1).2.1 (af s d env.1).2.2 ap=q at*
 generalize (af s d env.1).1=L at*
 by_cases g:q<0
 ·rw[E9 g];rfl
 rw[D9 (Int.not_lt.1 g)]
 obtain⟨i,rfl⟩:∃i:Nat,q=(i:Int):=⟨q.toNat,by omega⟩
 have hi:i<L.length:=by omega
 have e:=aQ hi
 simp only[l9,F9,e,o7,J9,toN,Int.toNat_natCast,oM,Option.getD_some]
theorem Uh {s:A8} {env:X9} (hs:SmS s) (hE:EvOk env) (m d:Int):nZ s env m d=some (dP s env m d):=by
 have hnr:=hs.nr
 have hlen:=(MC s d env.1).1
 unfold nZ
 rw[a0t (by omega),o7]
 rw[show jg (o8 (af s d env.1).1) false=some (Qj (af s d env.1).1.length []) by rw[show o8 (af s d env.1).1=((af s d env.1).1.length:Int)from rfl,Bj (by omega) (by omega)];rfl,o7]
 unfold dP
 apply fJ (af s d env.1).1 (RZ s env m d) (fun b i=>(((0,0,0,0),Qj (af s d env.1).1.length b,i):E4×List Bool×Int)) (fun b=>(((0,0,0,0),b):E4×List Bool)) (fun i b=>b.length=i) [] (by omega) rfl
 ·intro i a b hi hi' hb
  obtain⟨r,hr,hm⟩:=UA (fO hi)
  have hlt:=(O7.1 hi).1
  have hI:=(hs.ro r hm).1.2.2
  subst hb
  simp only[H9 hi,o6,F9,hi,o7,J9,toN,Int.toNat_natCast,hr,a2t hlt,P8,a2u _ hlt]
  unfold RZ
  rw[hr]
  simp only
  cases ieq (o8 r.2.2.2.2.2.1) 0
  ·simp only[l9]
   rw[Xp hE hI.1,o7]
   cases ieq (yz r.2.2.2.2.2.1 env).2 0
   ·exact⟨rfl,fun _ h=>by cases h⟩
   ·simp only[o9,l9,o6]
    rw[V6 (by omega)]
    exact⟨rfl,fun _ h=>by cases h;simp⟩
  ·simp only[o6]
   rw[V6 (by omega)]
   exact⟨rfl,fun _ h=>by cases h;simp⟩
 ·intro b hb
  rw[H8,ZZ hb];rfl
 ·intro _
  cases ay (RZ s env m d) (af s d env.1).1 []with
  | inr e=>rfl
  | inl ap=>
   simp only[D7,a0o,o7]
   exact UM s env m d ap
theorem a1a {oc pr:Int→Int} {l:List Int} (h:∀x∈l,-2≤oc x):-2≤chF oc pr l:=by
 unfold chF
 cases hb:yU oc pr l with
 | nil=>show -2≤(-1:Int);omega
 | cons b r=>
  cases r with
  | nil=>exact h b (AY (oc:=oc) (pr:=pr) (by rw[hb];simp))
  | cons c r=>show -2≤(-2:Int);omega
theorem a2f (par prio:List Int) (ap:List Bool):∀(k:Nat) (i:Int),0≤i→-2≤ocF par prio ap k i
 | 0,i,h=>by show -2≤(-1:Int);omega
 | k+1,i,h=>by
  unfold ocF
  have hb:-2≤chF (ocF par prio ap k) (prF prio) (castL (sN par i)):=a1a fun x hx=>by
   unfold castL at hx
   obtain⟨j,hj,rfl⟩:=List.mem_map.1 hx
   exact a2f par prio ap k _ (by omega)
  cases ieq (chF (ocF par prio ap k) (prF prio) (castL (sN par i))) (-1)
  ·exact hb
  ·cases apF ap i
   ·show -2≤(-1:Int);omega
   ·show -2≤i;omega
theorem a6A (par prio:List Int) (ap:List Bool):-2≤yL par prio ap:=by
 unfold yL
 cases ieq (AA par prio) 0
 ·show -2≤(-1:Int);omega
 cases ieq (o8 ap) (o8 par)
 ·show -2≤(-1:Int);omega
 show -2≤chS par prio ap (-1)
 unfold chS
 refine a1a fun x hx=>?_
 unfold castL at hx
 obtain⟨j,hj,rfl⟩:=List.mem_map.1 hx
 unfold OC
 exact a2f par prio ap _ _ (by omega)
theorem a1w {s:A8} {env:X9} {m d:Int} (b:List Bool) (i:Int) (r:Int×E4) (h:RZ s env m d b i= .inr r):r.2.1≠0:=by
 unfold RZ at h
 cases hl:lat s.2.2.2.2 i with
 | none=>rw[hl]at h;cases h
 | some q=>
  rw[hl]at h
  simp only at h
  cases h1:ieq (o8 q.2.2.2.2.2.1) 0 <;> rw[h1]at h
  ·cases h2:ieq (yz q.2.2.2.2.2.1 env).2 0 <;> rw[h2]at h <;> cases h
   simp only
   intro h3
   rw[F5 h3]at h2;cases h2
  ·cases h
theorem Rt {s:A8} {env:X9} {m d:Int} (h0:(dP s env m d).2.1=0) (h1:(dP s env m d).1≠-1) (h2:(dP s env m d).1≠-2):∃r,lat s.2.2.2.2 (dP s env m d).1=some r∧r∈s.2.2.2.2:=by
 unfold dP at*
 cases hf:ay (RZ s env m d) (af s d env.1).1 []with
 | inr e=>
  rw[hf]at h0
  exact absurd h0 (qP (RZ s env m d) (fun r=>r.2.1≠0) a1w _ _ _ hf)
 | inl ap=>
  rw[hf]at h0 h1 h2
  simp only at*
  have hb:=YH (af s d env.1).2.1 (af s d env.1).2.2 ap
  have hlo:=a6A (af s d env.1).2.1 (af s d env.1).2.2 ap
  have hl:=(MC s d env.1).2
  generalize yL (af s d env.1).2.1 (af s d env.1).2.2 ap=q at*
  by_cases g:q<0
  ·rw[E9 g]at h1 h2
   simp only[o6]at h1 h2
   omega
  rw[D9 (Int.not_lt.1 g)]
  have hi:q.toNat<(af s d env.1).1.length:=by omega
  simp only[l9,oM,aQ hi,Option.getD_some]
  exact UA (List.getElem_mem hi)
def Zg (s:A8) (env:X9) (m d:Int):(V3×Int)⊕E4:=
 l7 (ieq (dP s env m d).2.1 0) (l7 (ieq (dP s env m d).1 (-1)) (.inr (10,m,d,-1)) (l7 (ieq (dP s env m d).1 (-2)) (.inr (11,m,d,-1))
  (match lat s.2.2.2.2 (dP s env m d).1 with
  | none=> .inr (1,0,0,0)
  | some r=>l7 (ieq (yz r.2.2.2.2.2.2.1 env).2 0) (.inl ((yz r.2.2.2.2.2.2.1 env).1,(dP s env m d).1)) (.inr ((yz r.2.2.2.2.2.2.1 env).2,m,d,(dP s env m d).1))))) (.inr (dP s env m d).2)
theorem a1f {s:A8} {env:X9} {m d:Int} {e:E4} (h:Zg s env m d= .inr e):e.1≠0:=by
 unfold Zg at h
 cases h0:ieq (dP s env m d).2.1 0 <;> rw[h0]at h
 ·cases h
  intro h3;rw[F5 h3]at h0;cases h0
 cases h1:ieq (dP s env m d).1 (-1) <;> rw[h1]at h
 case true=>cases h;show(10:Int)≠0;decide
 cases h2:ieq (dP s env m d).1 (-2) <;> rw[h2]at h
 case true=>cases h;show(11:Int)≠0;decide
 simp only[o6,l9]at h
 cases hl:lat s.2.2.2.2 (dP s env m d).1 with
 | none=>rw[hl]at h;cases h;show(1:Int)≠0;decide
 | some r=>
  rw[hl]at h
  simp only at h
  cases h4:ieq (yz r.2.2.2.2.2.2.1 env).2 0 <;> rw[h4]at h <;> cases h
  simp only
  intro h3;rw[F5 h3]at h4;cases h4
theorem OQ {s:A8} :∀(k:Nat) (O:List Int),(∀d∈O,0≤d∧d<nD s)→match Qi s k O with | .inl O' =>(∀d∈O',0≤d∧d<nD s)∧O'.length≤O.length+k | .inr x=>x.1=[]
 | 0,O,h=>⟨h,by omega⟩
 | k+1,O,h=>by
  unfold Qi
  by_cases hc:O.length<s.2.2.2.1.length
  ·rw[if_pos hc]
   cases hn:En s O with
   | none=>rfl
   | some d=>
    have hd:=(Vz hn).1
    have:=OQ k (O++[(d:Int)]) (fun x hx=>by
     rcases List.mem_append.1 hx with hx | hx
     ·exact h x hx
     ·rw[List.mem_singleton]at hx;subst hx;unfold nD o8;omega)
    simp only
    cases ho:Qi s k (O++[(d:Int)])with
    | inl O' =>rw[ho]at this;exact⟨this.1,by have:=this.2;simp at this;omega⟩
    | inr x=>rw[ho]at this;exact this
  ·rw[if_neg hc];exact⟨h,by omega⟩
theorem TA (s:A8):(∀d∈(rf s).1,0≤d∧d<nD s)∧(rf s).1.length≤100:=by
 have:=OQ (s:=s) 100 [] (by simp)
 unfold rf
 cases ho:Qi s 100 []with
 | inl O=>rw[ho]at this;exact⟨this.1,by have:=this.2;simp at this;exact this⟩
 | inr x=>rw[ho]at this;simp only at this ⊢;rw[this];simp
abbrev DB:Type:=List V3×List Int
def yK (env:X9) (ds:List V3):X9:=(env.1,env.2.1,ds,env.2.2.2)
theorem Xo {env:X9} (h:EvOk env) (ds:List V3):EvOk (yK env ds):=⟨h.ms,h.tb⟩
def scG (s:A8) (env:X9) (m:Int) (need:List Bool) (b:DB) (d:Int):DB⊕(E4×List V3):=
 l7 ((lat need d).getD false) (match Zg s (yK env b.1) m d with
  | .inl v=> .inl (b.1.set d.toNat v.1,b.2.set d.toNat v.2)
  | .inr e=> .inr (e,b.1)) (.inl b)
def scS (s:A8) (env:X9) (m:Int) (need:List Bool):DB⊕(E4×List V3):=ay (scG s env m need) (rf s).1 (List.replicate s.2.2.2.1.length (0,0,0),List.replicate s.2.2.2.1.length 0)
theorem a6x {s:A8} {env:X9} {m:Int} {need:List Bool} (b:DB) (d:Int) (r:E4×List V3) (h:scG s env m need b d= .inr r):r.1.1≠0:=by
 unfold scG at h
 cases hb:(lat need d).getD false <;> rw[hb]at h
 ·cases h
 simp only[o6]at h
 cases hd:Zg s (yK env b.1) m d with
 | inl v=>rw[hd]at h;cases h
 | inr e=>rw[hd]at h;cases h;exact a1f hd
theorem Jc {s:A8} {env:X9} {m:Int} {need:List Bool} {r:E4×List V3} (h:scS s env m need= .inr r):r.1.1≠0:=qP (scG s env m need) (fun r=>r.1.1≠0) a6x _ _ _ h
def SS {β ρ ρ' :Type} (h:ρ→ρ'):β⊕ρ→β⊕ρ' | .inl b=> .inl b | .inr r=> .inr (h r)
theorem FQ {α β ρ ρ' :Type} (G:β→α→β⊕ρ) (G' :β→α→β⊕ρ') (h:ρ→ρ') (hG:∀b a,G' b a=SS h (G b a)):∀(l:List α) (b:β),ay G' l b=SS h (ay G l b)
 | [],b=>rfl
 | a::l,b=>by
  unfold ay
  rw[hG b a]
  cases G b a with
  | inl b' =>exact FQ G G' h hG l b'
  | inr r=>rfl
theorem Ae {α:Type} (s:A8) (hs:SmS s) (x:α):jg (o8 s.2.2.2.1) x=some (List.replicate s.2.2.2.1.length x):=by
 have:=hs.nd
 rw[show o8 s.2.2.2.1=(s.2.2.2.1.length:Int)from rfl,Bj (by omega) (by omega)];rfl
def scP (env:X9):E4×List V3→List Int×E4×X9:=fun r=>([],r.1,yK env r.2)
theorem DT {s:A8} {env:X9} {need:List Bool} (hs:SmS s) (hE:EvOk env) (m:Int) (hn:need.length=s.2.2.2.1.length):aH s env m need=some (match scS s env m need with | .inl b=>(b.2,(0,0,0,0),yK env b.1) | .inr r=>([],r.1,yK env r.2)):=by
 obtain⟨o1,o2⟩:=TA s
 unfold aH
 rw[Ae s hs,o7,Ae s hs,o7,a2r hs,o7]
 have hfold:=FQ (scG s env m need) (fun b d=>SS (scP env) (scG s env m need b d)) (scP env) (fun _ _=>rfl) (rf s).1 (List.replicate s.2.2.2.1.length (0,0,0),List.replicate s.2.2.2.1.length 0)
 unfold scS
 apply fJ (rf s).1 (fun b d=>SS (scP env) (scG s env m need b d)) (fun b i=>((yK env b.1,(0,0,0,0),b.2,i):X9×E4×List Int×Int)) (fun b=>((yK env b.1,(0,0,0,0),b.2):X9×E4×List Int)) (fun i b=>b.1.length=s.2.2.2.1.length∧b.2.length=s.2.2.2.1.length) (List.replicate s.2.2.2.1.length (0,0,0),List.replicate s.2.2.2.1.length 0) (by omega) ⟨by simp,by simp⟩
 ·intro i d b hi hi' hb
  have hr:=o1 d (fO hi)
  have hnd:nD s=(s.2.2.2.1.length:Int):=rfl
  obtain⟨k,rfl⟩:∃k:Nat,d=(k:Int):=⟨d.toNat,by omega⟩
  have hk:k<s.2.2.2.1.length:=by omega
  have e1:=aQ (show k<need.length by omega)
  have e2:=aQ (show k<b.1.length by omega)
  have e3:=aQ (show k<b.2.length by omega)
  unfold scG
  simp only[H9 hi,o6,F9,hi,o7,J9,toN,Int.toNat_natCast,e1,Option.getD_some]
  cases need[k]
  ·simp only[D6,o6,l9]
   rw[V6 (by omega)]
   exact⟨rfl,fun _ h=>by cases h;exact hb⟩
  simp only[o9,o6,l9]
  rw[Uh hs (Xo hE b.1),o7]
  unfold Zg
  cases h0:ieq (dP s (yK env b.1) m (k:Int)).2.1 0
  ·exact⟨rfl,fun _ h=>by cases h⟩
  cases h1:ieq (dP s (yK env b.1) m (k:Int)).1 (-1)
  case true=>exact⟨rfl,fun _ h=>by cases h⟩
  cases h2:ieq (dP s (yK env b.1) m (k:Int)).1 (-2)
  case true=>exact⟨rfl,fun _ h=>by cases h⟩
  obtain⟨r,hr,hm⟩:=Rt (N7.1 h0) (fun h=>by rw[F5 h]at h1;cases h1) (fun h=>by rw[F5 h]at h2;cases h2)
  simp only[o9,l9,o6,hr,o7]
  rw[Xp (Xo hE b.1) (hs.ro r hm).1.2.2.2,o7]
  cases h3:ieq (yz r.2.2.2.2.2.2.1 (yK env b.1)).2 0
  ·exact⟨rfl,fun _ h=>by cases h⟩
  ·simp only[o9,l9,o6]
   refine⟨?_,fun _ h=>by cases h;exact⟨by simp[hb.1],by simp[hb.2]⟩⟩
   rw[V6 (by omega)]
   have e2' :(yK env b.1).2.2.1[k]? =some (b.1[k]'(by omega)):=e2
   simp only[e2',e3,o7]
   rfl
 ·intro b hb
  rw[H8];rfl
 ·intro _
  rw[hfold]
  cases ay (scG s env m need) (rf s).1 (List.replicate s.2.2.2.1.length (0,0,0),List.replicate s.2.2.2.1.length 0) <;> rfl
def Jn (l:J3) (k:Int) (c:bz) (ex:Bool) (d:Int):E4:=
 l7 (ieq (P6 l).1 0) (match lat l.2.2 k with
  | none=>(6,-1,-1,-1)
  | some s=>l7 (l7 ex (l7 (ilt d 0) true (ile (o8 s.2.2.2.1) d)) false) (6,-1,-1,-1) (l7 (ieq (Jt l k c).2.2 0) (0,0,0,0) ((Jt l k c).2.2,(Jt l k c).1,-1,-1))) (1,-1,-1,-1)
theorem a1G (l:List A8) (k:Int):(ilt k 0=true∧lat l k=none)∨(ilt k 0=false∧ile (o8 l) k=true∧lat l k=none)∨(ilt k 0=false∧ile (o8 l) k=false∧∃s,lat l k=some s∧s∈l):=by
 by_cases h:k<0
 ·exact .inl ⟨E9 h,iI (.inl (F8 h))⟩
 by_cases h2:o8 l≤k
 ·exact .inr (.inl ⟨D9 (by omega),F7 h2,iI (.inr (D9 h2))⟩)
 ·exact .inr (.inr ⟨D9 (by omega),F8 (by omega),fU (by omega) (by omega)⟩)
theorem a5t {l:J3} (hL:SmL l) (k:Int) {c:bz} (hc:SmC c) (ex:Bool) (d:Int):gW l k c ex d=some (Jn l k c ex d):=by
 unfold gW Jn
 rw[AC hL,o7,a5v l k hc]
 cases ieq (P6 l).1 0
 ·rfl
 simp only[o9,l9,o6]
 rcases a1G l.2.2 k with⟨h1,h2⟩ | ⟨h1,h2,h3⟩ | ⟨h1,h2,s,h3,_⟩
 ·rw[h1,h2];rfl
 ·rw[h1,h2,h3];rfl
 ·rw[h1,h2,h3]
  simp only[l9,o7]
  cases ex
  ·simp only[l9,o7,D7]
   cases ieq (Jt l k c).2.2 0 <;> rfl
  ·simp only[o6]
   cases ilt d 0
   ·cases ile (o8 s.2.2.2.1) d
    ·simp only[l9,o7,D7]
     cases ieq (Jt l k c).2.2 0 <;> rfl
    ·rfl
   ·rfl
def ql:A8:=([],0,[],[],[])
def Y8 (l:J3) (s:A8):A8:=l7 (ile 0 s.2.1) ((lat l.2.2 s.2.1).getD ql) ql
def sK (n:Nat):List Bool:=List.replicate n false
theorem YY {l:J3} {k:Int} {c:bz} {ex:Bool} {d:Int} (h:(Jn l k c ex d).1=0):(P6 l).1=0∧∃s,lat l.2.2 k=some s:=by
 unfold Jn at h
 cases h0:ieq (P6 l).1 0 <;> rw[h0]at h
 ·exact absurd (show(1:Int)=0 from h) (by decide)
 refine⟨N7.1 h0,?_⟩
 cases h1:lat l.2.2 k with
 | none=>rw[h1]at h;exact absurd (show(6:Int)=0 from h) (by decide)
 | some s=>exact⟨s,rfl⟩
theorem UD {l:J3} (h:(P6 l).1=0) {i:Nat} {s:A8} (hs:l.2.2[i]? =some s):(xZ l i s).1=0:=by
 unfold P6 at h
 cases h1:ieq (xx l).1 0 <;> rw[h1]at h
 ·simp only[l9]at h;rw[F5 h]at h1;cases h1
 cases h2:ieq (yj l).1 0 <;> rw[h2]at h
 ·simp only[o6,l9]at h;rw[F5 h]at h2;cases h2
 simp only[o6]at h
 unfold EO at h
 cases h3:ilt 4 (o8 l.2.2) <;> rw[h3]at h
 case true=>exact absurd (show(4:Int)=0 from h) (by decide)
 simp only[l9]at h
 have hi:=(O7.1 hs).1
 cases hf:U1 l.2.2.length (Am l)with
 | some r=>
  rw[hf]at h
  simp only at h
  obtain⟨j,hj,hp⟩:=dU hf
  unfold Am at hp
  cases hq:l.2.2[j]? with
  | none=>rw[hq]at hp;cases hp
  | some q=>
   rw[hq]at hp
   simp only at hp
   unfold IE at hp
   exact absurd h (by
    cases he:ieq (xZ l j q).1 0 <;> rw[he]at hp <;> cases hp
    simp only
    intro h4;rw[F5 h4]at he;cases he)
 | none=>
  have hn:=tq hf i hi
  unfold Am at hn
  rw[hs]at hn
  simp only at hn
  unfold IE at hn
  cases he:ieq (xZ l i s).1 0 <;> rw[he]at hn
  ·cases hn
  exact N7.1 he
theorem Pq {l:J3} (h:(P6 l).1=0) {i:Nat} {s:A8} (hs:l.2.2[i]? =some s):zG l i s.2.1=false∧(Qk l s).1=0:=by
 have he:=UD h hs
 unfold xZ at he
 cases g1:wK s.1 <;> rw[g1]at he
 ·exact absurd (show(2:Int)=0 from he) (by decide)
 cases g2:Cj l 3 i s.1 <;> rw[g2]at he
 case true=>exact absurd (show(7:Int)=0 from he) (by decide)
 cases g3:zG l i s.2.1 <;> rw[g3]at he
 case true=>exact absurd (show(6:Int)=0 from he) (by decide)
 cases g4:ilt 12 (o8 s.2.2.1) <;> rw[g4]at he
 case true=>exact absurd (show(4:Int)=0 from he) (by decide)
 cases g5:ilt 12 (o8 s.2.2.2.1) <;> rw[g5]at he
 case true=>exact absurd (show(4:Int)=0 from he) (by decide)
 exact⟨rfl,he⟩
theorem a0x {l:J3} (h:(P6 l).1=0) {i:Nat} {s:A8} (hs:l.2.2[i]? =some s):zG l i s.2.1=false:=(Pq h hs).1
theorem AB {l:J3} (h:(P6 l).1=0) {k:Int} {s:A8} (hs:lat l.2.2 k=some s):(ile 0 s.2.1=false∧ilt s.2.1 0=true∧Y8 l s=ql)∨(ile 0 s.2.1=true∧ilt s.2.1 0=false∧ile (o8 l.2.2) s.2.1=false∧lat l.2.2 s.2.1=some (Y8 l s)∧Y8 l s∈l.2.2):=by
 obtain⟨k0,k1,k2,k3⟩:=jC hs
 have hm:=a0x h k3
 unfold zG at hm
 by_cases g:0≤s.2.1
 ·right
  rw[D8 (show s.2.1≠-1 by intro e;rw[e]at g;exact absurd g (by decide)),D9 g]at hm
  simp only[l9]at hm
  cases g2:ile ((k.toNat:Nat):Int) s.2.1 <;> rw[g2]at hm
  case true=>cases hm
  rw[xH]at g2
  have hlt:s.2.1<o8 l.2.2:=by
   have:((k.toNat:Nat):Int)=k:=Int.toNat_of_nonneg k0
   rw[this]at g2
   exact Int.lt_trans g2 k1
  obtain⟨q,hq,hqm⟩:=fU g hlt
  have e:Y8 l s=q:=by unfold Y8;rw[F7 g,hq];rfl
  rw[e]
  exact⟨F7 g,D9 g,F8 hlt,hq,hqm⟩
 ·left
  have g' :=Int.not_le.1 g
  refine⟨F8 g',E9 g',?_⟩
  unfold Y8;rw[F8 g'];rfl
theorem QX {σ ε α β:Type} {f:σ→Option (σ⊕ε)} {mk:List β→Int→σ} {fin:List β→ε} {l:List α} {g:α→β}
  (hs:∀(i:Nat) (a:α) (b:List β),l[i]? =some a→b.length=i→f (mk b (i:Int))=some (.inl (mk (b++[g a]) ((i+1:Nat):Int))))
  (he:∀b,f (mk b (l.length:Int))=some (.inr (fin b))):∀(l2 l1:List α) (k:Nat),l=l1++l2→jb f (k+1+l2.length) (mk (l1.map g) (l1.length:Int))=some (fin (l.map g))
 | [],l1,k,h=>by
  have:l=l1:=by simpa using h
  subst this
  exact wO (he _)
 | a::l2,l1,k,h=>by
  rw[show k+1+(a::l2).length=(k+1+l2.length)+1 by simp;omega,qW (hs l1.length a (l1.map g) (by rw[h];simp) (by simp))]
  have:=QX hs he l2 (l1++[a]) k (by rw[h];simp)
  simpa using this
theorem a5s {σ ε α β:Type} {f:σ→Option (σ⊕ε)} (mk:List β→Int→σ) (fin:List β→ε) (l:List α) (g:α→β) (hn:l.length≤1000000)
  (hs:∀(i:Nat) (a:α) (b:List β),l[i]? =some a→b.length=i→f (mk b (i:Int))=some (.inl (mk (b++[g a]) ((i+1:Nat):Int))))
  (he:∀b,f (mk b (l.length:Int))=some (.inr (fin b))):U9 f (mk [] 0)=some (fin (l.map g)):=by
 unfold U9
 rw[show dK=(dK -l.length -1)+1+l.length by unfold dK;omega]
 exact QX hs he l [] _ rfl
theorem Td {l:J3} (hL:SmL l) (h:(P6 l).1=0) {k:Int} {s:A8} (hs:lat l.2.2 k=some s):nY l k=some (s,Y8 l s,sK s.2.2.2.1.length,sK (Y8 l s).2.2.2.1.length):=by
 have hm:=(jC hs).2.2.1
 have hnd:=(hL.sc s hm).nd
 unfold nY
 rw[hs,o7,show jg (o8 s.2.2.2.1) false=some (sK s.2.2.2.1.length)from Ae s (hL.sc s hm) false,o7]
 rcases AB h hs with⟨g1,g2,g3⟩ | ⟨g1,g2,g3,g4,g5⟩
 ·rw[g1,g3];rfl
 ·rw[g1,g4]
  simp only[o6,o7]
  rw[show jg (o8 (Y8 l s).2.2.2.1) false=some (sK (Y8 l s).2.2.2.1.length)from Ae _ (hL.sc _ g5) false,o7]
theorem VA:SmS ql:=⟨by simp[ql],by simp[ql],by simp[ql],by simp[ql],⟨by simp[ql],by simp[ql]⟩,by simp[ql]⟩
def ZB (l:J3) (c:bz) (v:List V3):X9:=(c.1,v,[],[],[],l.2.1)
def mG (l:J3) (c:bz) (ms:A8) (need:List Bool) (b:List DB) (a:List V3×Nat):List DB⊕E4:=
 match scS ms (ZB l c a.1) (a.2:Int) need with
 | .inl x=> .inl (b++[x])
 | .inr e=> .inr e.1
def mS (l:J3) (c:bz) (ms:A8) (need:List Bool):List DB⊕E4:=ay (mG l c ms need) c.2.2.zipIdx []
theorem b1J {l:J3} {c:bz} {ms:A8} {need:List Bool} (b:List DB) (a:List V3×Nat) (r:E4) (h:mG l c ms need b a= .inr r):r.1≠0:=by
 unfold mG at h
 cases hs:scS ms (ZB l c a.1) (a.2:Int) need with
 | inl x=>rw[hs]at h;cases h
 | inr e=>rw[hs]at h;cases h;exact Jc hs
theorem a6V {l:List (List V3)} {i:Nat} {a:List V3×Nat} (h:l.zipIdx[i]? =some a):l[i]? =some a.1∧a.2=i:=by
 rw[List.getElem?_zipIdx]at h
 cases hl:l[i]? with
 | none=>rw[hl]at h;cases h
 | some v=>rw[hl]at h;cases h;exact⟨rfl,by simp⟩
theorem a5M {l:J3} (hT:∀t∈l.2.1,pG t) (c:bz) (v:List V3):EvOk (ZB l c v):=⟨by simp[ZB],hT⟩
def Ib (l:J3) (s:A8) (c:bz) (b:List DB):X9:=(c.1,c.2.1,[],b.map (·.1),(Y8 l s).2.2.2.1.map (·.2),l.2.1)
theorem a1T {l:J3} (hL:SmL l) (h:(P6 l).1=0) {k:Int} {s:A8} (hs:lat l.2.2 k=some s):SmS (Y8 l s):=by
 rcases AB h hs with⟨_,_,g3⟩ | ⟨_,_,_,_,g5⟩
 ·rw[g3];exact VA
 ·exact hL.sc _ g5
theorem b1K {l:J3} {c:bz} {ms:A8} {need:List Bool} {b:List DB} (h:mS l c ms need= .inl b):b.length=c.2.2.length:=by
 have key:∀(L:List (List V3×Nat)) (b0 b:List DB),ay (mG l c ms need) L b0= .inl b→b.length=b0.length+L.length:=by
  intro L
  induction L with
  | nil=>intro b0 b h;cases h;simp
  | cons a L ih=>
   intro b0 b h
   unfold ay at h
   cases hg:mG l c ms need b0 a with
   | inr e=>rw[hg]at h;cases h
   | inl b1=>
    rw[hg]at h
    have:=ih b1 b h
    have h1:b1.length=b0.length+1:=by
     unfold mG at hg
     cases hs:scS ms (ZB l c a.1) (a.2:Int) need with
     | inr e=>rw[hs]at hg;cases hg
     | inl x=>rw[hs]at hg;cases hg;simp
    simp only[List.length_cons];omega
 have:=key _ _ _ h
 simpa using this
theorem a2S {l:J3} (hT:∀t∈l.2.1,pG t) (s:A8) (c:bz) {b:List DB} (hb:b.length≤1000):EvOk (Ib l s c b):=⟨by simp[Ib];omega,hT⟩
abbrev ZT:Type:=Int×List V3×PUnit×List (List V3)×List (Int×Int)×List Y4
def PP (l:J3) (s:A8) (c:bz) (nS nM:List Bool):DB×List DB⊕E4:=
 match mS l c (Y8 l s) nM with
 | .inr e=> .inr e
 | .inl b=>match scS s (Ib l s c b) (-1) nS with
  | .inl x=> .inl (x,b)
  | .inr r=> .inr r.1
theorem PQ {l:J3} {k:Int} {s:A8} {c:bz} {nS nM:List Bool} (hS:SmS s) (hM:SmS (Y8 l s)) (hC:SmC c) (hT:∀t∈l.2.1,pG t) (h1:nS.length=s.2.2.2.1.length) (h2:nM.length=(Y8 l s).2.2.2.1.length):
  nX l k c (s,Y8 l s,nS,nM)=some (match PP l s c nS nM with
   | .inl x=>((x.1.1,x.1.2,x.2),yK (Ib l s c x.2) x.1.1,(0,0,0,0),(s,Y8 l s,nS,nM))
   | .inr e=>(([],[],[]),(0,[],[],[],[],[]),e,(s,Y8 l s,nS,nM))):=by
 have hnd:=hM.nd
 have hnm:=hC.nm
 unfold nX
 rw[show(U9 _ _)=some (((c.1,c.2.1,PUnit.unit,PUnit.unit,(Y8 l s).2.2.2.1.map (fun f=>f.2),l.2.1)):Int×List V3×PUnit×PUnit×List (Int×Int)×List Y4)from ?_,o7]
 rotate_left
 ·refine a5s (fun L i=>(((c.1,c.2.1,PUnit.unit,PUnit.unit,L,l.2.1),i):(Int×List V3×PUnit×PUnit×List (Int×Int)×List Y4)×Int)) (fun L=>((c.1,c.2.1,PUnit.unit,PUnit.unit,L,l.2.1):Int×List V3×PUnit×PUnit×List (Int×Int)×List Y4)) (Y8 l s).2.2.2.1 (fun f=>f.2) (by omega) (fun i a L hi hL=>?_) (fun L=>?_)
  ·have:=(O7.1 hi).1
   simp only[H9 hi,o6,F9,hi,o7]
   rw[kC _ (by omega),o7,V6 (by omega)]
  ·rw[H8];rfl
 have hfold:=FQ (mG l c (Y8 l s) nM) (fun b a=>SS (fun e=>((([],[],[]),(0,[],[],[],[],[]),e,(s,Y8 l s,nS,nM)):nR×X9×E4×O8)) (mG l c (Y8 l s) nM b a)) (fun e=>((([],[],[]),(0,[],[],[],[],[]),e,(s,Y8 l s,nS,nM)):nR×X9×E4×O8)) (fun _ _=>rfl) c.2.2.zipIdx []
 have hzl:c.2.2.zipIdx.length=c.2.2.length:=by simp
 unfold PP mS
 apply fJ c.2.2.zipIdx (fun b a=>SS (fun e=>((([],[],[]),(0,[],[],[],[],[]),e,(s,Y8 l s,nS,nM)):nR×X9×E4×O8)) (mG l c (Y8 l s) nM b a))
  (fun b i=>((([],[],[]),(0,[],[],[],[],[]),(0,0,0,0),(c.1,c.2.1,PUnit.unit,b.map (·.1),(Y8 l s).2.2.2.1.map (fun f=>f.2),l.2.1),([],[],b),i):nR×X9×E4×ZT×nR×Int))
  (fun b=>((([],[],[]),(0,[],[],[],[],[]),(0,0,0,0),(c.1,c.2.1,PUnit.unit,b.map (·.1),(Y8 l s).2.2.2.1.map (fun f=>f.2),l.2.1),([],[],b)):nR×X9×E4×ZT×nR))
  (fun i b=>b.length=i) [] (by omega) rfl
 ·intro i a b hi hi' hb
  obtain⟨z1,z2⟩:=a6V hi
  have hil:=(O7.1 z1).1
  unfold mG
  simp only[H9 z1,o6,F9,z1,o7]
  rw[show aH (Y8 l s) (c.1,a.1,[],[],[],l.2.1) (i:Int) nM=_ from DT hM (a5M hT c a.1) (i:Int) h2,o7,z2]
  unfold ZB
  cases hq:scS (Y8 l s) (c.1,a.1,[],[],[],l.2.1) (i:Int) nM with
  | inr e=>
   simp only[D8 (Jc hq)]
   exact⟨rfl,fun _ h=>by cases h⟩
  | inl x=>
   simp only[F5 (rfl:(0:Int)=0),o9,l9]
   rw[kC _ (by simp;omega),o7,kC _ (by omega),o7,V6 (by omega)]
   exact⟨by simp[SS,yK],fun _ h=>by cases h;simp[hb]⟩
 ·intro b hb
  rw[hzl,H8];rfl
 ·intro _
  rw[hfold]
  cases hq:ay (mG l c (Y8 l s) nM) c.2.2.zipIdx []with
  | inr e=>rfl
  | inl b=>
   have hbl:b.length=c.2.2.length:=b1K (ms:=Y8 l s) (need:=nM) hq
   have hsc:=DT (need:=nS) hS (a2S hT s c (b:=b) (by omega)) (-1) h1
   unfold Ib at hsc
   simp only[SS,D7]
   rw[show aH s (c.1,c.2.1,[],b.map (·.1),(Y8 l s).2.2.2.1.map (fun f=>f.2),l.2.1) (-1) nS=_ from hsc,o7]
   unfold Ib
   cases hr:scS s (c.1,c.2.1,[],b.map (·.1),(Y8 l s).2.2.2.1.map (fun f=>f.2),l.2.1) (-1) nS with
   | inr e=>simp only[D8 (Jc hr)];rfl
   | inl x=>rfl
theorem aP {α:Type} {n:Nat} {l:List α} (h:ilt (n:Int) (o8 l)=false):l.length≤n:=by
 rw[bF]at h;unfold o8 at h;omega
def KC (r:N9):Bool:=l7 (ilt 80 (o8 r.1)) true (l7 (ilt 80 (o8 r.2.2.2.2.2.2.2)) true (l7 (ilt 50 (o8 r.2.2.2.2.2.1)) true (ilt 50 (o8 r.2.2.2.2.2.2.1))))
def smS (s:A8):Bool:=l7 (ilt 80 (o8 s.1)) false (l7 (ilt 14 (o8 s.2.2.1)) false (l7 (ilt 14 (o8 s.2.2.2.1)) false (l7 (ilt 60 (o8 s.2.2.2.2)) false
 (l7 (s.2.2.1.any fun f=>ilt 80 (o8 f.1)) false (l7 (s.2.2.2.1.any fun f=>ilt 80 (o8 f.1)) false (E5 (s.2.2.2.2.any KC)))))))
theorem JR {fs:List aF} (h:fs.length≤1000000):P5 (fun(x:Int)=>l7 (ilt x (o8 fs)) (o5 (lat fs x) fun(x_1:aF)=>l7 (ilt 80 (o8 x_1.1)) (some (Out.rt false)) (some (Out.nx (x9 IntKind.i64 x 1)))) (some (Out.ex PUnit.unit))) 0=some (bif fs.any (fun f=>ilt 80 (o8 f.1))then .inr false else .inl PUnit.unit):=by
 refine AX fs (fun f=>ilt 80 (o8 f.1)) false PUnit.unit h (fun i a ha=>?_) ?_
 ·simp only[H9 ha,o6,F9,ha,o7]
  cases ilt 80 (o8 a.1) <;> rfl
 ·rw[H8];rfl
theorem Nu (s:A8):oG s=some (smS s):=by
 unfold oG smS
 cases h1:ilt 80 (o8 s.1)
 case true=>rfl
 cases h2:ilt 14 (o8 s.2.2.1)
 case true=>rfl
 cases h3:ilt 14 (o8 s.2.2.2.1)
 case true=>rfl
 cases h4:ilt 60 (o8 s.2.2.2.2)
 case true=>rfl
 have l2:=aP (n:=14) h2
 have l3:=aP (n:=14) h3
 have l4:=aP (n:=60) h4
 simp only[l9,o7,D7]
 rw[JR (by omega),JR (by omega),o7]
 cases s.2.2.1.any fun f=>ilt 80 (o8 f.1)
 case true=>rfl
 simp only[cond_false,D7,l9,o7]
 cases s.2.2.2.1.any fun f=>ilt 80 (o8 f.1)
 case true=>rfl
 simp only[cond_false,D7,l9]
 refine Y9 (AX s.2.2.2.2 KC false PUnit.unit (by omega) (fun i a ha=>?_) ?_) ?_
 rotate_left 2
 ·cases s.2.2.2.2.any KC <;> rfl
 ·simp only[H9 ha,o6,F9,ha,o7]
  unfold KC
  cases ilt 80 (o8 a.1) <;> cases ilt 80 (o8 a.2.2.2.2.2.2.2) <;> cases ilt 50 (o8 a.2.2.2.2.2.1) <;> cases ilt 50 (o8 a.2.2.2.2.2.2.1) <;> rfl
 ·rw[H8];rfl
def ScI (s:A8):Prop:=∀r∈s.2.2.2.2,(∀n∈r.2.2.2.2.2.1,I64 n.2)∧∀n∈r.2.2.2.2.2.2.1,I64 n.2
theorem IA {a b:Bool} (h:l7 a false b=true):a=false∧b=true:=by cases a <;> cases b <;> first | exact⟨rfl,rfl⟩ | cases h
theorem NH {α:Type} {l:List α} {p:α→Bool} (h:l.any p=false):∀a∈l,p a=false:=by
 intro a ha
 rw[List.any_eq_false]at h
 have:=h a ha
 cases hp:p a
 ·rfl
 ·exact absurd hp this
theorem b2s {s:A8} (h:smS s=true) (hI:ScI s):SmS s:=by
 unfold smS at h
 obtain⟨h1,h⟩:=IA h
 obtain⟨h2,h⟩:=IA h
 obtain⟨h3,h⟩:=IA h
 obtain⟨h4,h⟩:=IA h
 obtain⟨h5,h⟩:=IA h
 obtain⟨h6,h⟩:=IA h
 have h7:s.2.2.2.2.any KC=false:=by cases hq:s.2.2.2.2.any KC <;> rw[hq]at h <;> first | rfl | cases h
 refine⟨by have:=aP (n:=80) h1;omega,aP (n:=14) h2,aP (n:=14) h3,aP (n:=60) h4,⟨fun f hf=>?_,fun f hf=>?_⟩,fun r hr=>?_⟩
 ·have:=aP (n:=80) (NH h5 f hf);omega
 ·have:=aP (n:=80) (NH h6 f hf);omega
 ·have hl:=NH h7 r hr
  unfold KC at hl
  cases g1:ilt 80 (o8 r.1) <;> rw[g1]at hl
  case true=>cases hl
  cases g2:ilt 80 (o8 r.2.2.2.2.2.2.2) <;> rw[g2]at hl
  case true=>cases hl
  cases g3:ilt 50 (o8 r.2.2.2.2.2.1) <;> rw[g3]at hl
  case true=>cases hl
  have k1:=aP (n:=80) g1
  have k2:=aP (n:=80) g2
  exact⟨⟨by omega,by omega,(hI r hr).1,(hI r hr).2⟩,aP (n:=50) g3,aP (n:=50) hl⟩
def smC (c:bz):Bool:=l7 (ilt 14 (o8 c.2.1)) false (l7 (ilt 10 (o8 c.2.2)) false (E5 (c.2.2.any fun v=>ilt 14 (o8 v))))
theorem QG (c:bz):qp c=some (smC c):=by
 unfold qp smC
 cases h1:ilt 14 (o8 c.2.1)
 case true=>rfl
 cases h2:ilt 10 (o8 c.2.2)
 case true=>rfl
 have l2:=aP (n:=10) h2
 simp only[l9]
 refine Y9 (AX c.2.2 (fun v=>ilt 14 (o8 v)) false PUnit.unit (by omega) (fun i a ha=>?_) ?_) ?_
 rotate_left 2
 ·cases c.2.2.any fun v=>ilt 14 (o8 v) <;> rfl
 ·simp only[H9 ha,o6,F9,ha,o7]
  cases ilt 14 (o8 a) <;> rfl
 ·rw[H8];rfl
theorem a3T {c:bz} (h:smC c=true):SmC c:=by
 unfold smC at h
 obtain⟨h1,h⟩:=IA h
 obtain⟨h2,h⟩:=IA h
 have h3:(c.2.2.any fun v=>ilt 14 (o8 v))=false:=by cases hq:c.2.2.any fun v=>ilt 14 (o8 v) <;> rw[hq]at h <;> first | rfl | cases h
 exact⟨by have:=aP (n:=14) h1;omega,by have:=aP (n:=10) h2;omega,fun v hv=>by have:=aP (n:=14) (NH h3 v hv);omega⟩
theorem Ob {α β ρ:Type} (G:β→α→β⊕ρ) (Inv:β→Prop) (hG:∀b a b',Inv b→G b a= .inl b' →Inv b'):∀(l:List α) (b b' :β),Inv b→ay G l b= .inl b' →Inv b'
 | [],b,b',hi,h=>by cases h;exact hi
 | a::l,b,b',hi,h=>by
  unfold ay at h
  cases hg:G b a with
  | inr r=>rw[hg]at h;cases h
  | inl b1=>rw[hg]at h;exact Ob G Inv hG l b1 b' (hG b a b1 hi hg) h
theorem a6y {s:A8} {env:X9} {m:Int} {need:List Bool} {b:DB} (h:scS s env m need= .inl b):b.1.length=s.2.2.2.1.length∧b.2.length=s.2.2.2.1.length:=by
 refine Ob (scG s env m need) (fun b=>b.1.length=s.2.2.2.1.length∧b.2.length=s.2.2.2.1.length) (fun b a b' hi h=>?_) _ _ _ ⟨by simp,by simp⟩ h
 unfold scG at h
 cases hb:(lat need a).getD false <;> rw[hb]at h
 ·cases h;exact hi
 simp only[o6]at h
 cases hd:Zg s (yK env b.1) m a with
 | inr e=>rw[hd]at h;cases h
 | inl v=>rw[hd]at h;cases h;exact⟨by simp[hi.1],by simp[hi.2]⟩
def SL (e:bC):Bool:=l7 (ilt 80 (o8 e.1)) true (l7 (ilt 20 (o8 e.2)) true (e.2.any fun m=>ilt 80 (o8 m)))
def tG (b:Int) (t:Y4):Int⊕Bool:=l7 (ilt 80 (o8 t.1)) (.inr false) (l7 (ilt 150 (x9 .i64 b (o8 t.2.2.2))) (.inr false) (.inl (x9 .i64 b (o8 t.2.2.2))))
def sG (b:Int) (s:A8):Int⊕Bool:=l7 (ilt 60 (x9 .i64 b (o8 s.2.2.2.2))) (.inr false) (l7 (smS s) (.inl (x9 .i64 b (o8 s.2.2.2.2))) (.inr false))
def smL (l:J3):Bool:=l7 (ilt 9 (o8 l.1)) false (l7 (ilt 9 (o8 l.2.1)) false (l7 (ilt 5 (o8 l.2.2)) false (l7 (l.1.any SL) false
 (match ay tG l.2.1 0 with | .inr _=>false | .inl _=>match ay sG l.2.2 0 with | .inr _=>false | .inl _=>true))))
theorem b3t:∀(b:Int) (t:Y4) (r:Bool),tG b t= .inr r→r=false:=by
 intro b t r h
 unfold tG at h
 cases g0:ilt 80 (o8 t.1) <;> cases g:ilt 150 (x9 .i64 b (o8 t.2.2.2)) <;> simp only[g0,g,o6,l9]at h <;> cases h <;> rfl
theorem b2o:∀(b:Int) (s:A8) (r:Bool),sG b s= .inr r→r=false:=by
 intro b s r h
 unfold sG at h
 cases g:ilt 60 (x9 .i64 b (o8 s.2.2.2.2)) <;> cases g2:smS s <;> simp only[g,g2,o6,l9]at h <;> cases h <;> rfl
theorem Iq (l:J3):nJ l=some (smL l):=by
 unfold nJ smL
 cases h1:ilt 9 (o8 l.1)
 case true=>rfl
 cases h2:ilt 9 (o8 l.2.1)
 case true=>rfl
 cases h3:ilt 5 (o8 l.2.2)
 case true=>rfl
 have l1:=aP (n:=9) h1
 have l2:=aP (n:=9) h2
 have l3:=aP (n:=5) h3
 simp only[l9,o7,D7]
 refine Y9 (AX l.1 SL false PUnit.unit (by omega) (fun i a ha=>?_) ?_) ?_
 ·simp only[H9 ha,o6,F9,ha,o7]
  unfold SL
  cases ilt 80 (o8 a.1)
  case true=>rfl
  cases h5:ilt 20 (o8 a.2)
  case true=>rfl
  have l5:=aP (n:=20) h5
  simp only[l9]
  refine Y9 (AX a.2 (fun m=>ilt 80 (o8 m)) false PUnit.unit (by omega) (fun j m hm=>?_) ?_) ?_
  ·simp only[H9 hm,o6,F9,hm,o7]
   cases ilt 80 (o8 m) <;> rfl
  ·rw[H8];rfl
  ·cases a.2.any fun m=>ilt 80 (o8 m) <;> rfl
 ·rw[H8];rfl
 cases l.1.any SL
 case true=>rfl
 simp only[cond_false,D7,l9]
 apply fJ l.2.1 tG (fun b i=>((b,i):Int×Int)) (fun _=>PUnit.unit) (fun _ _=>True) 0 (by omega) trivial
 ·intro i t b hi hi' _
  refine⟨?_,fun _ _=>trivial⟩
  simp only[H9 hi,o6,F9,hi,o7]
  unfold tG
  rw[V6 (by omega)]
  cases ilt 80 (o8 t.1) <;> cases ilt 150 (x9 .i64 b (o8 t.2.2.2)) <;> rfl
 ·intro b _
  rw[H8];rfl
 ·intro _
  cases ht:ay tG l.2.1 0 with
  | inr r=>rw[qP tG (fun r=>r=false) b3t _ _ _ ht];rfl
  | inl b=>
   simp only[D7]
   apply fJ l.2.2 sG (fun b i=>((b,i):Int×Int)) (fun _=>PUnit.unit) (fun _ _=>True) 0 (by omega) trivial
   ·intro i s b hi hi' _
    refine⟨?_,fun _ _=>trivial⟩
    simp only[H9 hi,o6,F9,hi,o7,Nu]
    unfold sG
    rw[V6 (by omega)]
    cases ilt 60 (x9 .i64 b (o8 s.2.2.2.2)) <;> cases smS s <;> rfl
   ·intro b _
    rw[H8];rfl
   ·intro _
    cases hs:ay sG l.2.2 0 with
    | inr r=>rw[qP sG (fun r=>r=false) b2o _ _ _ hs];rfl
    | inl b=>rfl
structure WfL (l:J3):Prop where
 rl:∀t∈l.2.1,t.2.2.2.length≤4611686018427387904
 ri:∀t∈l.2.1,∀r∈t.2.2.2,WX r
 sl:∀s∈l.2.2,s.2.2.2.2.length≤4611686018427387904
 si:∀s∈l.2.2,ScI s
theorem a4H:∀(L:List Y4) (b b' :Int),0≤b→b≤150→(∀t∈L,t.2.2.2.length≤4611686018427387904)→ay tG L b= .inl b' →∀t∈L,t.1.length≤80∧t.2.2.2.length≤150
 | [],_,_,_,_,_,_=>by simp
 | t::L,b,b',h0,h1,hw,h=>by
  have hwt:=hw t (by simp)
  have ha:x9 .i64 b (o8 t.2.2.2)=b+o8 t.2.2.2:=I9 (by unfold I64 o8;omega)
  unfold ay tG at h
  rw[ha]at h
  cases g0:ilt 80 (o8 t.1) <;> rw[g0]at h
  case true=>cases h
  cases g1:ilt 150 (b+o8 t.2.2.2) <;> rw[g1]at h
  case true=>cases h
  rw[bF]at g1
  intro x hx
  rcases List.mem_cons.1 hx with rfl | hx
  ·exact⟨aP (n:=80) g0,by unfold o8 at g1;omega⟩
  ·exact a4H L (b+o8 t.2.2.2) b' (by unfold o8;omega) g1 (fun q hq=>hw q (by simp[hq])) h x hx
theorem a3M:∀(L:List A8) (b b' :Int),0≤b→b≤60→(∀s∈L,s.2.2.2.2.length≤4611686018427387904)→ay sG L b= .inl b' →∀s∈L,smS s=true
 | [],_,_,_,_,_,_=>by simp
 | s::L,b,b',h0,h1,hw,h=>by
  have hwt:=hw s (by simp)
  have ha:x9 .i64 b (o8 s.2.2.2.2)=b+o8 s.2.2.2.2:=I9 (by unfold I64 o8;omega)
  unfold ay sG at h
  rw[ha]at h
  cases g1:ilt 60 (b+o8 s.2.2.2.2) <;> rw[g1]at h
  case true=>cases h
  cases g2:smS s <;> rw[g2]at h
  case false=>cases h
  rw[bF]at g1
  intro x hx
  rcases List.mem_cons.1 hx with rfl | hx
  ·exact g2
  ·exact a3M L (b+o8 s.2.2.2.2) b' (by unfold o8;omega) g1 (fun q hq=>hw q (by simp[hq])) h x hx
theorem Wp {l:J3} (h:smL l=true) (hW:WfL l):SmL l∧∀t∈l.2.1,pG t:=by
 unfold smL at h
 obtain⟨h1,h⟩:=IA h
 obtain⟨h2,h⟩:=IA h
 obtain⟨h3,h⟩:=IA h
 obtain⟨h4,h⟩:=IA h
 have l1:=aP (n:=9) h1
 have l2:=aP (n:=9) h2
 have l3:=aP (n:=5) h3
 cases ht:ay tG l.2.1 0 with
 | inr r=>rw[ht]at h;cases h
 | inl b=>
  rw[ht]at h
  simp only at h
  cases hs:ay sG l.2.2 0 with
  | inr r=>rw[hs]at h;cases h
  | inl b' =>
   have T:=a4H l.2.1 0 b (by omega) (by omega) hW.rl ht
   have S:=a3M l.2.2 0 b' (by omega) (by omega) hW.sl hs
   refine⟨⟨⟨by omega,by omega,by omega⟩,fun e he=>?_,fun t ht=>by have:=(T t ht).1;omega,fun s hs=>b2s (S s hs) (hW.si s hs)⟩,fun t ht=>⟨by have:=(T t ht).2;omega,hW.ri t ht⟩⟩
   have hl:=NH h4 e he
   unfold SL at hl
   cases g1:ilt 80 (o8 e.1) <;> rw[g1]at hl
   case true=>cases hl
   cases g2:ilt 20 (o8 e.2) <;> rw[g2]at hl
   case true=>cases hl
   have k1:=aP (n:=80) g1
   exact⟨by omega,fun m hm=>by have:=aP (n:=80) (NH hl m hm);omega⟩
theorem TL:reachBytes≤4611686018427387904:=by decide
theorem a4T {l:J3} (h:wf c5E l):WfL l:=by
 refine⟨fun t ht=>?_,fun t ht r hr=>?_,fun s hs=>?_,fun s hs r hr=>⟨fun n hn=>?_,fun n hn=>?_⟩⟩
 ·have:=(h.2.1.2 t ht).2.2.2.1;exact Nat.le_trans this TL
 ·have:=(h.2.1.2 t ht).2.2.2.2 r hr
  exact⟨MK this.2.1,MK this.2.2.1,MK this.2.2.2⟩
 ·have:=(h.2.2.2 s hs).2.2.2.2.1;exact Nat.le_trans this TL
 ·have:=(h.2.2.2 s hs).2.2.2.2.2 r hr
  exact MK (this.2.2.2.2.2.1.2 n hn).2
 ·have:=(h.2.2.2 s hs).2.2.2.2.2 r hr
  exact MK (this.2.2.2.2.2.2.1.2 n hn).2
def IL (w:List Bool) (L:List Int):List Bool:=L.foldl (fun w x=>w.set x.toNat true) w
theorem LW:∀(L:List Int) (w:List Bool),(IL w L).length=w.length
 | [],w=>rfl
 | x::L,w=>(LW L (w.set x.toNat true)).trans (by simp)
def Gw (s:A8) (w:List Bool) (d:Int):List Bool:=IL (w.set d.toNat true) (au s d)
theorem LG (s:A8) (w:List Bool) (d:Int):(Gw s w d).length=w.length:=by unfold Gw;rw[LW];simp
theorem xg {w:List Bool} {n:Nat} (hw:w.length=n) {x:Int} (h0:0≤x) (h1:x<(n:Int)):∃b,lat w x=some b∧J9 w (toN x)=some b:=by
 have h:x.toNat<w.length:=by omega
 exact⟨w[x.toNat],by unfold lat;rw[if_pos h0];exact aQ h,aQ h⟩
theorem ul {s:A8} (h:SmS s) (d:Int):(au s d).length≤14:=CW h (BG s d).1 (fun x hx=>uO hx)
theorem PG {s m:A8} (h:SmS m) {u w:List Bool} (hw:w.length=m.2.2.2.1.length) {d:Int} (h0:0≤d) (h1:d<nD m):dI (s,m,u,w) d=some (s,m,u,Gw m w d):=by
 have hn:nD m=((m.2.2.2.1.length:Nat):Int):=rfl
 have hl:=ul h d
 obtain⟨b,e1,e2⟩:=xg hw h0 (by omega)
 unfold dI
 simp only
 rw[e1,o7,e2,o7,nN h h0 h1,o7,bH]
 refine(jc (au m d) (fun(w:List Bool) (x:Int)=>w.set x.toNat true) (fun w i=>(((s,m,u,w),i):O8×Int)) (fun w=>((s,m,u,w):O8)) (fun _ w=>w.length=m.2.2.2.1.length) (b:=w.set d.toNat true) (by omega) (by simp[hw]) (fun i x v hx hi hv=>?_) (fun v hv=>?_)).1
 ·have hr:=uO (fO hx)
  obtain⟨b,e1,e2⟩:=xg hv hr.1 (by omega)
  simp only[H9 hx,o6,F9,hx,o7]
  rw[show J9 (au m d) (toN (i:Int))=some x from hx,o7,e1,o7,e2,o7,V6 (by omega)]
  exact⟨rfl,by simp[hv]⟩
 ·simp only[H8];rfl
def BV (r:N9):List Int:=(qH r.2.2.2.2.2.1).2.2++(qH r.2.2.2.2.2.2.1).2.2
def mdl (rs:List N9) (C:List Int):List Int:=rs.flatMap fun r=>l7 (kY C r.2.1) (BV r) []
def mbS (s:A8) (d:Int):List Int:=l7 (inD (nD s) d) (yM (mdl s.2.2.2.2 (ins d (au s d)))) []
theorem OB {s:A8} (h:SmS s) {r:N9} (hr:r∈s.2.2.2.2):(BV r).length≤100:=by
 obtain⟨_,h1,h2⟩:=h.ro r hr
 have a1:=BD r.2.2.2.2.2.1
 have a2:=BD r.2.2.2.2.2.2.1
 unfold BV;rw[List.length_append];omega
theorem Qa {s:A8} (h:SmS s) (C:List Int):∀(rs:List N9),(∀r∈rs,r∈s.2.2.2.2)→(mdl rs C).length≤100*rs.length
 | [],_=>by simp[mdl]
 | r::rs,hr=>by
  have h1:=Qa h C rs (fun x hx=>hr x (by simp[hx]))
  have h2:=OB h (hr r (by simp))
  have:mdl (r::rs) C=l7 (kY C r.2.1) (BV r) []++mdl rs C:=rfl
  rw[this,List.length_append,List.length_cons]
  cases kY C r.2.1
  ·simp only[l9,List.length_nil];omega
  ·simp only[o6];omega
theorem a5R {rs:List N9} {C:List Int} {x:Int} :x∈mdl rs C↔∃r∈rs,kY C r.2.1=true∧x∈BV r:=by
 unfold mdl
 rw[List.mem_flatMap]
 constructor
 ·rintro⟨r,h1,h2⟩
  cases h:kY C r.2.1 <;> rw[h]at h2
  ·simp at h2
  ·exact⟨r,h1,h,h2⟩
 ·rintro⟨r,h1,h2,h3⟩
  exact⟨r,h1,by rw[h2];exact h3⟩
theorem XJ:∀(L:List Int) (w:List Bool),(∀x∈L,0≤x∧x<o8 w)→∀x,mk (IL w L) x=true↔mk w x=true∨x∈L
 | [],w,_,x=>by simp[IL]
 | y::L,w,h,x=>by
  have hy:=h y (by simp)
  have ih:=XJ L (w.set y.toNat true) (fun z hz=>by have:=h z (by simp[hz]);simp only[o8,List.length_set]at this ⊢;exact this) x
  rw[show IL w (y::L)=IL (w.set y.toNat true) L from rfl,ih,Qc hy.1 hy.2]
  cases hq:ieq x y
  ·have:x≠y:=fun e=>by rw[F5 e]at hq;cases hq
   simp[this]
  ·rw[N7]at hq;simp[hq]
theorem ZG (n:Nat) (x:Int):mk (List.replicate n false) x=false:=by
 unfold mk
 split
 ·rw[oM,List.getElem?_replicate];split <;> rfl
 ·rfl
theorem BX {s:A8} (h:SmS s) {d:Int} (h0:0≤d) (h1:d<nD s):kw s d=some (mbS s d):=by
 have hn:nD s=((s.2.2.2.1.length:Nat):Int):=rfl
 have hnr:=h.nr
 have hnd:=h.nd
 have hl:=ul h d
 have hr:lW ((List.range s.2.2.2.1.length).map fun(d:Nat)=>I5 s (d:Int)) d=some (au s d):=by
  obtain⟨L,k1,k2⟩:=Lp (D:=I5 s) h.nd (qN s) (fun x y hy=>qM hy) h0 (show d<((s.2.2.2.1.length:Nat):Int) by omega)
  rw[k1,Rch.unique k2 (BG s d)]
 obtain⟨b,e1,e2⟩:=xg (w:=List.replicate s.2.2.2.1.length false) (by simp) h0 (show d<((s.2.2.2.1.length:Nat):Int) by omega)
 unfold kw mbS
 rw[show inD (nD s) d=true by unfold inD;rw[F7 h0,E9 h1];rfl,o6]
 change o5 (l7 (ilt d 0) _ (l7 (ile (nD s) d) _ _)) _=_
 rw[D9 h0,l9,F8 h1,l9,o7]
 simp only[D7]
 rw[Ae s h false,o7,e1,o7,e2,o7,wY h,o7,hr,o7]
 refine Y9 (o' :=some (IL ((List.replicate s.2.2.2.1.length false).set d.toNat true) (au s d))) ?_ ?_
 ·refine(jc (au s d) (fun(w:List Bool) (x:Int)=>w.set x.toNat true) (fun w i=>(w,i)) (fun w=>w) (fun _ w=>w.length=s.2.2.2.1.length) (b:=(List.replicate s.2.2.2.1.length false).set d.toNat true) (by omega) (by simp) (fun i x v hx hi hv=>?_) (fun v hv=>?_)).1
  ·have hr:=uO (fO hx)
   obtain⟨b,e1,e2⟩:=xg hv hr.1 (by omega)
   simp only[H9 hx,o6,F9,hx,o7]
   rw[show J9 (au s d) (toN (i:Int))=some x from hx,o7,e1,o7,e2,o7,V6 (by omega)]
   exact⟨rfl,by simp[hv]⟩
  ·simp only[H8];rfl
 rw[o7]
 have hW:∀x,0≤x→x<nD s→mk (IL ((List.replicate s.2.2.2.1.length false).set d.toNat true) (au s d)) x=kY (ins d (au s d)) x:=fun x x0 x1=>by
  have hm:=XJ (au s d) ((List.replicate s.2.2.2.1.length false).set d.toNat true) (fun y hy=>by have:=uO hy;simp only[o8,List.length_set,List.length_replicate];omega) x
  have hd:=Qc (S:=List.replicate s.2.2.2.1.length false) (e:=d) h0 (by simp only[o8,List.length_replicate];omega) x
  have hh:kY (ins d (au s d)) x=true↔x=d∨x∈au s d:=by rw[su,Eh]
  have key:mk (IL ((List.replicate s.2.2.2.1.length false).set d.toNat true) (au s d)) x=true↔kY (ins d (au s d)) x=true:=by
   rw[hm,hh,hd,ZG]
   cases hq:ieq x d
   ·have:x≠d:=fun e=>by rw[F5 e]at hq;cases hq
    simp[this]
   ·rw[N7]at hq;simp[hq]
  rcases Bool.eq_false_or_eq_true (kY (ins d (au s d)) x)with hb | hb
  ·rw[hb];exact key.2 hb
  ·rw[hb];cases hc:mk (IL ((List.replicate s.2.2.2.1.length false).set d.toNat true) (au s d)) x
   ·rfl
   ·rw[key.1 hc]at hb;cases hb
 have hWl:(IL ((List.replicate s.2.2.2.1.length false).set d.toNat true) (au s d)).length=s.2.2.2.1.length:=by rw[LW];simp
 have hCin:∀x∈ins d (au s d),0≤x∧x<nD s:=fun x hx=>by
  rcases(Eh d x _).1 hx with rfl | hx
  ·exact⟨h0,h1⟩
  ·exact uO hx
 generalize IL ((List.replicate s.2.2.2.1.length false).set d.toNat true) (au s d)=W at*
 generalize ins d (au s d)=C at*
 refine aW s.2.2.2.2 (fun(acc:List Int) r=>l7 (kY C r.2.1) (acc++BV r) acc) (fun b i=>(b,i)) (fun b=>b) (fun i acc=>acc.length≤100*i) [] (by omega) (by simp) (fun i r acc ha hi hI=>?_) (fun acc hI=>?_) (fun h2=>?_)
 ·have hlt:=(O7.1 ha).1
  obtain⟨_,h1,h2⟩:=h.ro r (fO ha)
  have a1:=BD r.2.2.2.2.2.1
  have a2:=BD r.2.2.2.2.2.2.1
  have hrl:=OB h (fO ha)
  simp only[H9 ha,o6,F9,ha,o7]
  rw[V6 (by omega)]
  obtain⟨e,he⟩:∃e:Int,r.2.1=e:=⟨_,rfl⟩
  rw[he]
  change l7 (ilt e 0) _ (l7 (ile (nD s) e) _ _)=_∧_
  by_cases q0:0≤e
  case neg=>
   have:kY C e=false:=by
    cases hq:kY C e
    ·rfl
    ·exact absurd (hCin _ (su.1 hq)).1 q0
   rw[E9 (show e<0 by omega),this]
   exact⟨rfl,by show acc.length≤_;omega⟩
  by_cases q1:e<nD s
  case neg=>
   have:kY C e=false:=by
    cases hq:kY C e
    ·rfl
    ·exact absurd (hCin _ (su.1 hq)).2 q1
   rw[D9 q0,F7 (show nD s≤e by omega),this]
   exact⟨rfl,by show acc.length≤_;omega⟩
  obtain⟨b,f1,f2⟩:=xg hWl q0 (show e<((s.2.2.2.1.length:Nat):Int) by omega)
  have hb:b=kY C e:=by
   have:=Vw (S:=W) q0 (by simp only[o8];omega)
   rw[←hW _ q0 q1]
   have e3:W[e.toNat]? =some b:=f2
   rw[this]at e3;exact(Option.some.inj e3).symm
  rw[D9 q0,l9,F8 q1,l9,f1,o7,f2,o7,hb]
  cases kY C e
  ·exact⟨rfl,by show acc.length≤_;omega⟩
  simp only[o9,l9,o6,rQ (show r.2.2.2.2.2.1.length≤1000000 by omega),rQ (show r.2.2.2.2.2.2.1.length≤1000000 by omega),o7]
  rw[Ed (by omega),o7,Ed (by rw[List.length_append];omega),o7]
  refine⟨by unfold BV;rw[List.append_assoc],by show(acc++BV r).length≤_;rw[List.length_append];omega⟩
 ·simp only[H8];rfl
 ·have hf:∀(l:List N9) (b:List Int),l.foldl (fun(acc:List Int) r=>l7 (kY C r.2.1) (acc++BV r) acc) b=b++mdl l C:=by
   intro l
   induction l with
   | nil=>intro b;simp[mdl]
   | cons a l ih=>
    intro b
    rw[List.foldl_cons,ih,show mdl (a::l) C=l7 (kY C a.2.1) (BV a) []++mdl l C from rfl]
    cases kY C a.2.1 <;> simp
  rw[hf,List.nil_append]
  have hml:=Qa h C s.2.2.2.2 (fun _ h=>h)
  rw[ER (by omega)];rfl
def KG (m:A8) (w:List Bool) (L:List Int):List Bool:=L.foldl (Gw m) w
theorem KH (m:A8):∀(L:List Int) (w:List Bool),(KG m w L).length=w.length
 | [],w=>rfl
 | x::L,w=>(KH m L (Gw m w x)).trans (LG m w x)
theorem XF {s:A8} (h:SmS s) (d:Int):(mbS s d).length≤6000:=by
 unfold mbS
 cases inD (nD s) d
 ·simp
 ·have h1:=zx (mdl s.2.2.2.2 (ins d (au s d)))
  have h2:=Qa h (ins d (au s d)) s.2.2.2.2 (fun _ h=>h)
  have:=h.nr
  simp only[o6];omega
theorem YV {s m:A8} (h:SmS s) (hm:SmS m) {u w:List Bool} (hu:u.length=s.2.2.2.1.length) (hw:w.length=m.2.2.2.1.length) {d:Int} (h0:0≤d) (h1:d<nD s) (hr:∀x∈mbS s d,0≤x∧x<nD m):
  jm (s,m,u,w) d=some (s,m,Gw s u d,KG m w (mbS s d)):=by
 have hn:nD s=((s.2.2.2.1.length:Nat):Int):=rfl
 have hl:=ul h d
 have hml:=XF h d
 obtain⟨b,e1,e2⟩:=xg hu h0 (by omega)
 unfold jm
 simp only
 rw[e1,o7,e2,o7,nN h h0 h1,o7]
 refine Y9 (o' :=some ((s,m,Gw s u d,w):O8)) ?_ ?_
 ·refine(jc (au s d) (fun(v:List Bool) (x:Int)=>v.set x.toNat true) (fun v i=>(((s,m,v,w),i):O8×Int)) (fun v=>((s,m,v,w):O8)) (fun _ v=>v.length=s.2.2.2.1.length) (b:=u.set d.toNat true) (by omega) (by simp[hu]) (fun i x v hx hi hv=>?_) (fun v hv=>?_)).1
  ·have hr:=uO (fO hx)
   obtain⟨b,e1,e2⟩:=xg hv hr.1 (by omega)
   simp only[H9 hx,o6,F9,hx,o7]
   rw[show J9 (au s d) (toN (i:Int))=some x from hx,o7,e1,o7,e2,o7,V6 (by omega)]
   exact⟨rfl,by simp[hv]⟩
  ·simp only[H8];rfl
 rw[o7]
 simp only
 rw[BX h h0 h1,o7,bH]
 refine(jc (mbS s d) (Gw m) (fun v i=>(((s,m,Gw s u d,v),i):O8×Int)) (fun v=>((s,m,Gw s u d,v):O8)) (fun _ v=>v.length=m.2.2.2.1.length) (b:=w) (by omega) hw (fun i x v hx hi hv=>?_) (fun v hv=>?_)).1
 ·have hq:=hr x (fO hx)
  simp only[H9 hx,o6,F9,hx,o7]
  rw[show J9 (mbS s d) (toN (i:Int))=some x from hx,o7,PG hm hv hq.1 hq.2,o7,V6 (by omega)]
  exact⟨rfl,(LG m v x).trans hv⟩
 ·simp only[H8];rfl
theorem a8C {k N:Int} {sg:H6} (hk:c4q k=some true) (h:(LH (k,N) [] sg).2=0):((RR (k,N) [] sg).getD ((0,0),0)).2=0:=by
 unfold LH at h
 rw[b0D]at h
 revert h
 cases E5 (ieq N 0)
 ·exact id
 ·rw[show c4q (k,N).1=some true from hk];exact id
theorem a6i {N:Int} {sg:H6} (h:(LH (8,N) [] sg).2=0):0≤N∧N<o8 sg.2.2.2.1:=by
 have h:=a8C rfl h
 have hf:c4P (8,N) sg=l7 (ile 0 N) (some (ilt N (o8 sg.2.2.2.1))) (some false):=rfl
 unfold RR at h
 rw[hf,show c4J (8,N) sg=some true from rfl]at h
 cases h1:ile 0 N <;> rw[h1]at h
 ·exact absurd (show(6:Int)=0 from h) (by decide)
 cases h2:ilt N (o8 sg.2.2.2.1) <;> rw[h2]at h
 ·exact absurd (show(6:Int)=0 from h) (by decide)
 exact⟨iG.1 h1,cu.1 h2⟩
theorem a6j {k N:Int} {sg:H6} (hk:k=36∨k=37∨k=38∨k=39) (h:(LH (k,N) [] sg).2=0):0≤N∧N<o8 sg.2.2.2.2.1∧sg.2.2.2.2.2=true:=by
 have h:=a8C (by rcases hk with rfl | rfl | rfl | rfl <;> rfl) h
 have hr:RR (k,N) [] sg=o5 (l7 sg.2.2.2.2.2 (l7 (ile 0 N) (some (ilt N (o8 sg.2.2.2.2.1))) (some false)) (some false)) fun(x:Bool)=>l7 (E5 x) (some ((0,0),6))
   (o5 (c4A (k,N) sg) fun(x:pI×Bool)=>l7 (E5 x.2) (some ((0,0),8)) (some (x.1,0))):=by rcases hk with rfl | rfl | rfl | rfl <;> rfl
 rw[hr]at h
 cases h0:sg.2.2.2.2.2 <;> rw[h0]at h
 ·exact absurd (show(6:Int)=0 from h) (by decide)
 cases h1:ile 0 N <;> rw[h1]at h
 ·exact absurd (show(6:Int)=0 from h) (by decide)
 cases h2:ilt N (o8 sg.2.2.2.2.1) <;> rw[h2]at h
 ·exact absurd (show(6:Int)=0 from h) (by decide)
 exact⟨iG.1 h1,cu.1 h2,rfl⟩
def Jh (sg:H6) (n:Int×Int):Prop:=(ieq n.1 8=true→0≤n.2∧n.2<o8 sg.2.2.2.1)∧(isM n.1=true→0≤n.2∧n.2<o8 sg.2.2.2.2.1∧sg.2.2.2.2.2=true)
theorem Oq {k:Int} (h:isM k=true):k=36∨k=37∨k=38∨k=39:=by
 unfold isM at h
 cases h1:ile 36 k <;> rw[h1]at h
 ·cases h
 have h2:=iG.1 h1
 have h3:=iG.1 (show ile k 39=true from h)
 omega
theorem a2b {sg:H6} {n:Int×Int} {i:Nat} {t:Int×Int} (h:vJ sg n [] i= .inr t):Jh sg n:=by
 unfold vJ at h
 split at h
 ·rename_i h0
  obtain⟨k,N⟩:=n
  refine⟨fun hk=>?_,fun hk=>a6j (Oq hk) h0⟩
  have hk:k=8:=N7.1 hk
  subst hk;exact a6i h0
 ·cases h
theorem KW {sg:H6} {n:Int×Int} (h:arF n.1≠0):Jh sg n:=by
 refine⟨fun hk=>absurd ?_ h,fun hk=>absurd ?_ h⟩
 ·rw[N7.1 hk];rfl
 ·rcases Oq hk with e | e | e | e <;> rw[e] <;> rfl
theorem yl {sg:H6} :∀(t:XT) (o:Nat) {r:Int×Int},t.wf→bZ sg t o= .inr r→∀n∈t.post,Jh sg n
 | .l0 n,o,r,hw,h,x,hx=>by
  unfold XT.post at hx
  rw[List.mem_singleton.1 hx]
  unfold bZ at h;exact a2b h
 | .l1 n a,o,r,hw,h,x,hx=>by
  unfold XT.wf at hw
  unfold XT.post at hx
  unfold bZ at h
  cases ha:bZ sg a o with
  | inl e=>rw[ha]at h;cases h
  | inr ta=>
   rcases List.mem_append.1 hx with hx | hx
   ·exact yl a o hw.2 ha x hx
   ·rw[List.mem_singleton.1 hx];exact KW (by rw[hw.1];decide)
 | .l2 n a b,o,r,hw,h,x,hx=>by
  unfold XT.wf at hw
  unfold XT.post at hx
  unfold bZ at h
  cases ha:bZ sg a o with
  | inl e=>rw[ha]at h;cases h
  | inr ta=>
   rw[ha]at h
   simp only at h
   cases hb:bZ sg b (o+a.size)with
   | inl e=>rw[hb]at h;cases h
   | inr tb=>
    rcases List.mem_append.1 hx with hx | hx
    ·rcases List.mem_append.1 hx with hx | hx
     ·exact yl a o hw.2.1 ha x hx
     ·exact yl b _ hw.2.2 hb x hx
    ·rw[List.mem_singleton.1 hx];exact KW (by rw[hw.1];decide)
 | .l3 n a b c,o,r,hw,h,x,hx=>by
  unfold XT.wf at hw
  unfold XT.post at hx
  unfold bZ at h
  cases ha:bZ sg a o with
  | inl e=>rw[ha]at h;cases h
  | inr ta=>
   rw[ha]at h
   simp only at h
   cases hb:bZ sg b (o+a.size)with
   | inl e=>rw[hb]at h;cases h
   | inr tb=>
    rw[hb]at h
    simp only at h
    cases hc:bZ sg c (o+a.size+b.size)with
    | inl e=>rw[hc]at h;cases h
    | inr tc=>
     rcases List.mem_append.1 hx with hx | hx
     ·rcases List.mem_append.1 hx with hx | hx
      ·rcases List.mem_append.1 hx with hx | hx
       ·exact yl a o hw.2.1 ha x hx
       ·exact yl b _ hw.2.2.1 hb x hx
      ·exact yl c _ hw.2.2.2 hc x hx
     ·rw[List.mem_singleton.1 hx];exact KW (by rw[hw.1];decide)
theorem xN {sg:H6} {n:Int×Int} {ops:List (Int×Int)} {i:Nat} {x:Int×Int} (h:vJ sg n ops i= .inl x):x.2≠0:=by
 unfold vJ at h
 split at h
 ·cases h
 ·rename_i h0;cases h;exact h0
theorem rD {sg:H6} :∀(t:XT) (o:Nat) {x:Int×Int},bZ sg t o= .inl x→x.2≠0
 | .l0 n,o,x,h=>xN h
 | .l1 n a,o,x,h=>by
  unfold bZ at h
  cases ha:bZ sg a o with
  | inl e=>rw[ha]at h;cases h;exact rD a o ha
  | inr ta=>rw[ha]at h;exact xN h
 | .l2 n a b,o,x,h=>by
  unfold bZ at h
  cases ha:bZ sg a o with
  | inl e=>rw[ha]at h;cases h;exact rD a o ha
  | inr ta=>
   rw[ha]at h
   simp only at h
   cases hb:bZ sg b (o+a.size)with
   | inl e=>rw[hb]at h;cases h;exact rD b _ hb
   | inr tb=>rw[hb]at h;exact xN h
 | .l3 n a b c,o,x,h=>by
  unfold bZ at h
  cases ha:bZ sg a o with
  | inl e=>rw[ha]at h;cases h;exact rD a o ha
  | inr ta=>
   rw[ha]at h
   simp only at h
   cases hb:bZ sg b (o+a.size)with
   | inl e=>rw[hb]at h;cases h;exact rD b _ hb
   | inr tb=>
    rw[hb]at h
    simp only at h
    cases hc:bZ sg c (o+a.size+b.size)with
    | inl e=>rw[hc]at h;cases h;exact rD c _ hc
    | inr tc=>rw[hc]at h;exact xN h
theorem Po {e:List (Int×Int)} {sg:H6} (h:(iQ e sg).2.2=0):∀n∈e,Jh sg n:=by
 unfold iQ at h
 cases hs:iP e with
 | inl x=>rw[hs]at h;exact absurd h (Aq hs)
 | inr t=>
  rw[hs]at h
  simp only at h
  cases ht:bZ sg t 0 with
  | inl x=>
   rw[ht]at h
   exact absurd h (rD t 0 ht)
  | inr r=>
   intro n hn
   rw[(Ar hs).1]at hn
   exact yl t 0 (GM hs) ht n hn
theorem Px {e:List (Int×Int)} {sg:H6} {t:Int×Int} (h:yH e sg t=0):iQ e sg=(t,(iQ e sg).2.1,0):=by
 unfold yH at h
 cases h1:ieq (iQ e sg).2.2 0 <;> rw[h1]at h
 ·simp only[l9]at h;rw[F5 h]at h1;cases h1
 cases h2:ieq (iQ e sg).1.1 t.1 <;> rw[h2]at h
 ·exact absurd (show(8:Int)=0 from h) (by decide)
 cases h3:ieq (iQ e sg).1.2 t.2 <;> rw[h3]at h
 ·exact absurd (show(8:Int)=0 from h) (by decide)
 rw[N7]at h1 h2 h3
 exact Prod.ext (Prod.ext h2 h3) (Prod.ext rfl h1)
theorem MI {l:J3} (h:(P6 l).1=0) {i:Nat} {s:A8} (hs:l.2.2[i]? =some s) {k:Nat} {r:N9} (hr:s.2.2.2.2[k]? =some r):Ah s (Dv l s) k r=0:=by
 have hp:=(Pq h hs).2
 unfold Qk at hp
 cases h1:DV l s with
 | some q=>rw[h1]at hp;exact absurd hp (RN h1)
 | none=>
  rw[h1]at hp
  simp only at hp
  cases h2:U1 s.2.2.2.2.length (LM l s)with
  | some q=>
   rw[h2]at hp
   obtain⟨j,hj,hq⟩:=dU h2
   unfold LM at hq
   cases h3:s.2.2.2.2[j]? with
   | none=>rw[h3]at hq;cases hq
   | some q2=>rw[h3]at hq;exact absurd hp (FN hq)
  | none=>
   have hn:=tq h2 k (O7.1 hr).1
   unfold LM at hn
   rw[hr]at hn
   simp only at hn
   unfold PO at hn
   cases he:ieq (Ah s (Dv l s) k r) 0 <;> rw[he]at hn
   ·cases hn
   ·exact N7.1 he
theorem VY {s:A8} {sg:H6} {k:Nat} {r:N9} (h:Ah s sg k r=0):∃d,lat s.2.2.2.1 r.2.1=some d∧JQ r sg d.2=0:=by
 unfold Ah at h
 cases g1:wK r.1 <;> rw[g1]at h
 ·exact absurd (show(2:Int)=0 from h) (by decide)
 cases g2:(s.2.2.2.2.take k).any fun x=>seq x.1 r.1 <;> rw[g2]at h
 case true=>exact absurd (show(7:Int)=0 from h) (by decide)
 cases g3:lat s.2.2.2.1 r.2.1 with
 | none=>rw[g3]at h;exact absurd (show(6:Int)=0 from h) (by decide)
 | some d=>
  rw[g3]at h
  refine⟨d,rfl,?_⟩
  simp only[o6,l9]at h
  revert h
  generalize l7 (ieq r.2.2.1 (-1)) false (l7 (ilt r.2.2.1 0) true (l7 (ile k r.2.2.1) true (match lat s.2.2.2.2 r.2.2.1 with | some q=>E5 (ieq q.2.1 r.2.1) | none=>true)))=b1
  generalize ilt r.2.2.2.1 0=b2
  generalize ilt 9 r.2.2.2.1=b3
  generalize zh r.2.2.2.2.1=b4
  generalize ieq r.2.2.2.2.1.1 r.2.2.2.2.1.2=b5
  generalize ile 8 (Ru (s.2.2.2.2.take k) r.2.1)=b6
  generalize a0q r.2.2.2.2.2.2.2=b7
  intro h
  cases b1
  case true=>exact absurd (show(9:Int)=0 from h) (by decide)
  cases b2
  case true=>exact absurd (show(3:Int)=0 from h) (by decide)
  cases b3
  case true=>exact absurd (show(3:Int)=0 from h) (by decide)
  cases b4
  case false=>exact absurd (show(3:Int)=0 from h) (by decide)
  cases b5
  case true=>exact absurd (show(3:Int)=0 from h) (by decide)
  cases b6
  case true=>exact absurd (show(4:Int)=0 from h) (by decide)
  cases b7
  case false=>exact absurd (show(2:Int)=0 from h) (by decide)
  exact h
theorem UC {l:J3} (h:(P6 l).1=0) {i:Nat} {s:A8} (hs:l.2.2[i]? =some s) {r:N9} (hr:r∈s.2.2.2.2):
  (r.2.2.2.2.2.1=[]∨yH r.2.2.2.2.2.1 (Dv l s) (1,0)=0)∧∃d,lat s.2.2.2.1 r.2.1=some d∧yH r.2.2.2.2.2.2.1 (Dv l s) d.2=0:=by
 obtain⟨k,hk,e⟩:=List.getElem_of_mem hr
 obtain⟨d,h1,h2⟩:=VY (MI h hs (r:=r) (k:=k) (by rw[aQ hk,e]))
 unfold JQ at h2
 cases h3:ilt 0 (o8 r.2.2.2.2.2.1) <;> rw[h3]at h2
 ·refine⟨.inl ?_,d,h1,h2⟩
  rw[bF]at h3
  exact List.length_eq_zero_iff.1 (by simp only[o8]at h3;omega)
 ·simp only[o6]at h2
  cases h4:ieq (yH r.2.2.2.2.2.1 (Dv l s) (1,0)) 0 <;> rw[h4]at h2
  ·simp only[l9]at h2;rw[F5 h2]at h4;cases h4
  ·exact⟨.inr (N7.1 h4),d,h1,h2⟩
theorem a3S (l:J3) (s:A8):(Dv l s).2.2.2.1=s.2.2.2.1.map (·.2):=by unfold Dv;split <;> rfl
theorem a6B {l:J3} {s:A8} (h:(Dv l s).2.2.2.2.2=true):(Dv l s).2.2.2.2.1=(Y8 l s).2.2.2.1.map (·.2):=by
 unfold Dv at h ⊢
 unfold Y8 lat
 by_cases g:0≤s.2.1
 ·rw[if_pos g]at h ⊢
  rw[F7 g]
  cases hq:l.2.2[s.2.1.toNat]? with
  | none=>rw[hq]at h;cases h
  | some q=>rfl
 ·rw[if_neg g]at h;cases h
theorem Pg {l:J3} (h:(P6 l).1=0) {i:Nat} {s:A8} (hs:l.2.2[i]? =some s) {r:N9} (hr:r∈s.2.2.2.2) {e:List (Int×Int)} (he:e=r.2.2.2.2.2.1∨e=r.2.2.2.2.2.2.1):
  (∀x∈(qH e).2.1,0≤x∧x<nD s)∧∀x∈(qH e).2.2,0≤x∧x<nD (Y8 l s):=by
 obtain⟨h1,d,h2,h3⟩:=UC h hs hr
 have hn:∀n∈e,Jh (Dv l s) n:=by
  rcases he with rfl | rfl
  ·rcases h1 with h1 | h1
   ·rw[h1];simp
   ·exact Po (by rw[Px h1])
  ·exact Po (by rw[Px h3])
 constructor
 ·intro x hx
  have hx:=(zH x _).1 (show x∈yM (Ep (fun o=>ieq o 8) e)from hx)
  obtain⟨n,hn1,rfl⟩:=List.mem_map.1 hx
  obtain⟨hn2,hn3⟩:=List.mem_filter.1 hn1
  have:=(hn n hn2).1 hn3
  rw[a3S]at this
  simpa[o8,nD]using this
 ·intro x hx
  have hx:=(zH x _).1 (show x∈yM (Ep isM e)from hx)
  obtain⟨n,hn1,rfl⟩:=List.mem_map.1 hx
  obtain⟨hn2,hn3⟩:=List.mem_filter.1 hn1
  have:=(hn n hn2).2 hn3
  rw[a6B this.2.2]at this
  refine⟨this.1,?_⟩
  have h2:=this.2.1
  simpa[o8,nD]using h2
theorem a1R {l:J3} (h:(P6 l).1=0) {i:Nat} {s:A8} (hs:l.2.2[i]? =some s) (d:Int):∀x∈mbS s d,0≤x∧x<nD (Y8 l s):=by
 intro x hx
 unfold mbS at hx
 cases hq:inD (nD s) d <;> rw[hq]at hx
 ·simp at hx
 ·obtain⟨r,hr,_,h3⟩:=a5R.1 ((zH x _).1 hx)
  rcases List.mem_append.1 h3 with h3 | h3
  ·exact(Pg h hs hr (.inl rfl)).2 x h3
  ·exact(Pg h hs hr (.inr rfl)).2 x h3
theorem a1n {l:J3} {s:A8} {c:bz} {nS nM:List Bool} {e:E4} (h:PP l s c nS nM= .inr e):e.1≠0:=by
 unfold PP at h
 cases hm:mS l c (Y8 l s) nM with
 | inr e=>rw[hm]at h;cases h;exact qP _ (fun r=>r.1≠0) b1J _ _ _ hm
 | inl b=>
  rw[hm]at h
  simp only at h
  cases hs:scS s (Ib l s c b) (-1) nS with
  | inr r=>rw[hs]at h;cases h;exact Jc hs
  | inl x=>rw[hs]at h;cases h
theorem a1o {l:J3} {s:A8} {c:bz} {nS nM:List Bool} {x:DB×List DB} (h:PP l s c nS nM= .inl x):x.1.1.length=s.2.2.2.1.length∧x.1.2.length=s.2.2.2.1.length:=by
 unfold PP at h
 cases hm:mS l c (Y8 l s) nM with
 | inr e=>rw[hm]at h;cases h
 | inl b=>
  rw[hm]at h
  simp only at h
  cases hs:scS s (Ib l s c b) (-1) nS with
  | inr r=>rw[hs]at h;cases h
  | inl y=>rw[hs]at h;cases h;exact a6y hs
theorem a0O {l:J3} {k:Int} {c:bz} {d:Int} {s:A8} (h:(Jn l k c true d).1=0) (hs:lat l.2.2 k=some s):0≤d∧d<nD s:=by
 unfold Jn at h
 cases h0:ieq (P6 l).1 0 <;> rw[h0]at h
 ·exact absurd (show(1:Int)=0 from h) (by decide)
 rw[hs]at h
 simp only[o6]at h
 cases h1:ilt d 0 <;> rw[h1]at h
 case true=>exact absurd (show(6:Int)=0 from h) (by decide)
 cases h2:ile (o8 s.2.2.2.1) d <;> rw[h2]at h
 case true=>exact absurd (show(6:Int)=0 from h) (by decide)
 rw[bF]at h1;rw[xH]at h2
 exact⟨h1,h2⟩
theorem SE {α:Type} {l:List α} {d:Int} (a:α) (h0:0≤d) (h1:d<(l.length:Int)):lat l d=some (l.getD d.toNat a)∧J9 l (toN d)=some (l.getD d.toNat a):=by
 have h:d.toNat<l.length:=by omega
 have e:l[d.toNat]? =some (l.getD d.toNat a):=by rw[oM,aQ h];rfl
 exact⟨by unfold lat;rw[if_pos h0];exact e,e⟩
def c4f (d:Int) (r:DB×List DB⊕E4):V3×Int×E4:=match r with
 | .inr e=>((0,0,0),0,e)
 | .inl x=>(x.1.1.getD d.toNat (0,0,0),x.1.2.getD d.toNat 0,0,0,0,0)
def a5E (l:J3) (s:A8) (c:bz) (d:Int):V3×Int×E4:=
 c4f d (PP l s c (Gw s (sK s.2.2.2.1.length) d) (KG (Y8 l s) (sK (Y8 l s).2.2.2.1.length) (mbS s d)))
theorem xC (n:Nat):(sK n).length=n:=by simp[sK]
theorem JO {l:J3} {k:Int} {c:bz} {d:Int} (hL:SmL l) (hC:SmC c) (hT:∀t∈l.2.1,pG t):
  lH l k c d=some (if(Jn l k c true d).1=0 then(match lat l.2.2 k with | some s=>a5E l s c d | none=>((0,0,0),0,0,0,0,0))else((0,0,0),0,Jn l k c true d)):=by
 unfold lH
 rw[a5t hL k hC,o7]
 by_cases hA:(Jn l k c true d).1=0
 case neg=>rw[if_neg hA,D8 hA];rfl
 rw[if_pos hA,F5 hA]
 obtain⟨h,s,hs⟩:=YY hA
 obtain⟨h0,h1⟩:=a0O hA hs
 have hM:=a1T hL h hs
 have hS:=hL.sc s (jC hs).2.2.1
 have hn:nD s=((s.2.2.2.1.length:Nat):Int):=rfl
 rw[hs]
 simp only[o9,l9]
 rw[Td hL h hs,o7,YV hS hM (xC _) (xC _) h0 h1 (a1R h (jC hs).2.2.2 d),o7,PQ hS hM hC hT (by rw[LG,xC]) (by rw[KH,xC]),o7]
 unfold a5E
 cases hq:PP l s c (Gw s (sK s.2.2.2.1.length) d) (KG (Y8 l s) (sK (Y8 l s).2.2.2.1.length) (mbS s d))with
 | inr e=>simp only[D8 (a1n hq)];rfl
 | inl x=>
  obtain⟨g1,g2⟩:=a1o hq
  simp only[F5 (rfl:(0:Int)=0),o9,l9]
  rw[(SE (0,0,0) h0 (by omega)).1,o7,(SE 0 h0 (by omega)).1];rfl
abbrev BB:Type:=List Bool×List Bool
def BOk (s m:A8) (b:BB):Prop:=b.1.length=s.2.2.2.1.length∧b.2.length=m.2.2.2.1.length
structure Sim (P Q:Int→Prop) (a b:X9):Prop where
 e1:a.1=b.1
 e2:a.2.1=b.2.1
 e3:a.2.2.2.2=b.2.2.2.2
 dl:a.2.2.1.length=b.2.2.1.length
 d:∀x,P x→lat a.2.2.1 x=lat b.2.2.1 x
 ml:a.2.2.2.1.length=b.2.2.2.1.length
 m:∀x,Q x→a.2.2.2.1.map (fun v=>lat v x)=b.2.2.2.1.map (fun v=>lat v x)
def b0E (s:A8) (P Q:Int→Prop) (d:Int):Prop:=∀r∈s.2.2.2.2,r.2.1=d→∀e,e=r.2.2.2.2.2.1∨e=r.2.2.2.2.2.2.1→(∀x∈(qH e).2.1,P x)∧∀x∈(qH e).2.2,Q x
def b3v (s:A8) (O:List Int):Prop:=O.Nodup∧(∀d∈O,0≤d∧d<nD s)∧∀(pre:List Int) (d:Int) (suf:List Int),O=pre++d::suf→∀x∈I5 s d,x∈pre
structure SimE (Q:Int→Prop) (a b:X9):Prop where
 e1:a.1=b.1
 e2:a.2.1=b.2.1
 e3:a.2.2.2.2=b.2.2.2.2
 ml:a.2.2.2.1.length=b.2.2.2.1.length
 m:∀x,Q x→a.2.2.2.1.map (fun v=>lat v x)=b.2.2.2.1.map (fun v=>lat v x)
theorem SimE.at {P Q:Int→Prop} {a b:X9} (h:SimE Q a b) {D D' :List V3} (hl:D.length=D'.length) (hd:∀x,P x→lat D x=lat D' x):Sim P Q (yK a D) (yK b D'):=⟨h.e1,h.e2,h.e3,hl,hd,h.ml,h.m⟩
abbrev ND (w:List Bool) (x:Int):Prop:=(lat w x).getD false=true
structure DInv (n:Nat) (need:List Bool) (B B' :DB):Prop where
 l1:B.1.length=n∧B.2.length=n
 l2:B'.1.length=n∧B'.2.length=n
 eq:∀x,ND need x→lat B.1 x=lat B'.1 x∧lat B.2 x=lat B'.2 x
structure MInv (need:List Bool) (b b' :List DB):Prop where
 l:b.length=b'.length
 eq:∀x,ND need x→b.map (fun v=>lat v.1 x)=b'.map (fun v=>lat v.1 x)
def a0A (s:A8) (w:List Bool):Prop:=∀d,mk w d=true→∀x∈I5 s d,mk w x=true
structure NI (l:J3) (s:A8) (B:BB):Prop where
 ok:BOk s (Y8 l s) B
 c1:a0A s B.1
 c2:a0A (Y8 l s) B.2
 hr:∀e,mk B.1 e=true→b0E s (fun x=>x∈I5 s e) (fun x=>mk B.2 x=true) e
structure Grows (B C:BB):Prop where
 g1:∀x,mk B.1 x=true→mk C.1 x=true
 g2:∀x,mk B.2 x=true→mk C.2 x=true
theorem Grows.refl (B:BB):Grows B B:=⟨fun _ h=>h,fun _ h=>h⟩
theorem Grows.trans {A B C:BB} (h:Grows A B) (k:Grows B C):Grows A C:=⟨fun x hx=>k.g1 x (h.g1 x hx),fun x hx=>k.g2 x (h.g2 x hx)⟩
end Go.GP
namespace Go.GP
open Gt
set_option maxRecDepth 100000
section
variable {en:List bC} {t:Int×Int}
end
end Go.GP
namespace Go.GP
open Gt
set_option maxRecDepth 100000
def PVW (en:List bC) (t:Int×Int) (v:V3):Prop:=v.1=t.1∧v.2.1=t.2∧(v.1=6→inB v.2.2 (bnd t en)=true)
structure TOk (sg:H6) (env:X9):Prop where
 inp:∀i t v,lat sg.2.2.1 i=some t→lat env.2.1 i=some v→PVW sg.1 t v
 dfs:∀i t v,lat sg.2.2.2.1 i=some t→lat env.2.2.1 i=some v→v.1≠0→PVW sg.1 t v
 mty:∀i t u,lat sg.2.2.2.2.1 i=some t→lat env.2.2.2.2.1 i=some u→u=t
 tbs:env.2.2.2.2.2=sg.2.1
 row:∀t∈sg.2.1,∀r∈t.2.2.2,inB r.2.2.2 (bnd t.2.2.1 sg.1)=true
end Go.GP
namespace Go.GP
open Gt
set_option maxRecDepth 100000
section
variable {sg:H6} {env:X9}
end
end Go.GP
namespace Go.GP
open Gt
set_option maxRecDepth 100000
theorem Vf {ρ:Type} {n:Nat} {p:Nat→Option ρ} (h:∀r,U1 n p≠some r):∀i,i<n→p i=none:=by
 cases hf:U1 n p with
 | some r=>exact absurd hf (h r)
 | none=>exact tq hf
theorem Zj {k i:Int} {r:Int×Int} (h:IE k i r=none):r.1=0:=by
 unfold IE at h
 cases he:ieq r.1 0 <;> rw[he]at h
 ·cases h
 ·exact N7.1 he
theorem WP {l:J3} (h:(P6 l).1=0):∀e∈l.1,e.2.length≤16:=by
 intro e he
 unfold P6 at h
 cases h1:ieq (xx l).1 0 <;> rw[h1]at h
 ·simp only[l9]at h;rw[F5 h]at h1;cases h1
 have h1:=N7.1 h1
 unfold xx at h1
 cases h2:ilt 8 (o8 l.1) <;> rw[h2]at h1
 case true=>exact absurd (show(4:Int)=0 from h1) (by decide)
 simp only[l9]at h1
 obtain⟨i,hi,e1⟩:=List.getElem_of_mem he
 have hn:=Vf (n:=l.1.length) (p:=JL l) (fun r hf=>by
  rw[hf]at h1
  obtain⟨j,_,hj⟩:=dU hf
  unfold JL at hj
  split at hj
  ·exact NW hj h1
  ·cases hj) i hi
 unfold JL at hn
 rw[aQ hi,e1]at hn
 have hz:=Zj hn
 unfold Rz at hz
 cases g1:wK e.1 <;> rw[g1]at hz
 ·exact absurd (show(2:Int)=0 from hz) (by decide)
 cases g2:Cj l 1 i e.1 <;> rw[g2]at hz
 case true=>exact absurd (show(7:Int)=0 from hz) (by decide)
 cases g3:ieq (o8 e.2) 0 <;> rw[g3]at hz
 case true=>exact absurd (show(5:Int)=0 from hz) (by decide)
 cases g4:ilt 16 (o8 e.2) <;> rw[g4]at hz
 case true=>exact absurd (show(4:Int)=0 from hz) (by decide)
 rw[bF]at g4;unfold o8 at g4;omega
abbrev b3w:Int×Int:=(0,109573)
def onA (s:A8) (T:Int) (i:Nat):Bool:=match s.2.2.2.2[i]? with | some r=>Fz r.2.2.2.2.1 T | none=>false
def b5y (s:A8) (T:Int):List Nat:=onL (onA s T) s.2.2.2.2.length
def rOn (s:A8) (T:Int) (i:Nat):N9:=match s.2.2.2.2[i]? with
 | some r=>(r.1,r.2.1,anc (onA s T) (b1V s) i,r.2.2.2.1,b3w,r.2.2.2.2.2.1,r.2.2.2.2.2.2.1,r.2.2.2.2.2.2.2)
 | none=>([],0,0,0,b3w,[],[],[])
def sOn (T:Int) (s:A8):A8:=(s.1,s.2.1,s.2.2.1,s.2.2.2.1,(b5y s T).map (rOn s T))
end Go.GP
namespace Go.GP
open Gt
set_option maxRecDepth 100000
section
variable {A R R' :Nat→Bool} {par par' :Nat→Int} {n:Nat} (hRA:∀i,i<n→R i=true→A i=true) (hR:∀i,i<n→A i=true→R' (NT A i)=R i) (hp:∀i,i<n→A i=true→par' (NT A i)=anc A par i)
include hRA hR
omit hR in
omit hR in
include hp
end
end Go.GP
namespace Go.GP
open Gt
set_option maxRecDepth 100000
section
variable {s:A8} {T:Int} (h0:0≤T) (h1:T≤109572)
include h0 h1
omit h0 h1 in
omit h0 h1 in
end
end Go.GP
namespace Go.GP
open Gt
set_option maxRecDepth 100000
structure OnOk (s:A8) (T:Int):Prop where
 h0:0≤T
 h1:T≤109572
 t1:b3v s (rf s).1
 f1:∀d,0≤d→d<nD s→d∈(rf s).1
 t2:b3v (sOn T s) (rf (sOn T s)).1
 f2:∀d,0≤d→d<nD s→d∈(rf (sOn T s)).1
 r1:∀d,b0E s (fun x=>x∈I5 s d) (fun _=>True) d
 r2:∀d,b0E (sOn T s) (fun x=>x∈I5 (sOn T s) d) (fun _=>True) d
def a0R (s:A8) (k:Nat) (r:N9):Bool:=l7 (ieq r.2.2.1 (-1)) false (l7 (ilt r.2.2.1 0) true (l7 (ile k r.2.2.1) true (match lat s.2.2.2.2 r.2.2.1 with | some q=>E5 (ieq q.2.1 r.2.1) | none=>true)))
structure RuleV (s:A8) (sg:H6) (k:Nat) (r:N9):Prop where
 id:wK r.1=true
 nm:((s.2.2.2.2.take k).any fun x=>seq x.1 r.1)=false
 df:∃d,lat s.2.2.2.1 r.2.1=some d∧JQ r sg d.2=0
 pa:a0R s k r=false
 p0:ilt r.2.2.2.1 0=false
 p9:ilt 9 r.2.2.2.1=false
 dv:zh r.2.2.2.2.1=true
 ne:ieq r.2.2.2.2.1.1 r.2.2.2.2.1.2=false
 ct:ile 8 (Ru (s.2.2.2.2.take k) r.2.1)=false
 sr:a0q r.2.2.2.2.2.2.2=true
theorem RuleV.zero {s:A8} {sg:H6} {k:Nat} {r:N9} (h:RuleV s sg k r):Ah s sg k r=0:=by
 obtain⟨d,h1,h2⟩:=h.df
 unfold Ah
 rw[h.id,h.nm,h1]
 simp only[o6,l9]
 change l7 (a0R s k r) (9:Int) _=0
 rw[h.pa,h.p0,h.p9,h.dv,h.ne,h.ct,h.sr,h2];rfl
def wC {α β:Type} (eq:α→α→Bool) (l:List (α×β)) (f:α→Option β):Prop:=∀k,Ei eq l k=(f k).isSome∧∀z,pz eq l k z=(f k).getD z
theorem Oz {α β:Type} (eq:α→α→Bool):wC eq ([]:List (α×β)) (fun _=>none):=fun _=>⟨rfl,fun _=>rfl⟩
theorem OG {α β:Type} {eq:α→α→Bool} (hE:∀a b,eq a b=true↔a=b) (k:α) (x:β) (k' :α):∀(l:List (α×β)),zK eq (BZ eq l k x) k' =(l7 (eq k' k) true (zK eq l k'))∧∀z,zJ eq (BZ eq l k x) k' z=l7 (eq k' k) x (zJ eq l k' z)
 | []=>by
  unfold BZ
  simp only[zK,zJ]
  cases eq k' k <;> exact⟨rfl,fun _=>rfl⟩
 | p::r=>by
  have ih:=OG hE k x k' r
  unfold BZ
  cases hp:eq k p.1
  ·simp only[cond_false,zK,zJ]
   cases hq:eq k' p.1
   ·simp only[cond_false];exact ih
   ·simp only[cond_true]
    cases hk:eq k' k
    ·exact⟨rfl,fun _=>rfl⟩
    ·exfalso
     have h1:=(hE _ _).1 hq;have h2:=(hE _ _).1 hk
     rw[←h2,h1]at hp
     rw[(hE p.1 p.1).2 rfl]at hp;cases hp
  ·have hp' :=(hE _ _).1 hp
   subst hp'
   simp only[cond_true,zK,zJ]
   cases eq k' p.1 <;> exact⟨rfl,fun _=>rfl⟩
theorem OA {α β:Type} {eq:α→α→Bool} (hE:∀a b,eq a b=true↔a=b) {l:List (α×β)} {f:α→Option β} (h:wC eq l f) (k:α) (x:β):
  wC eq (xM eq l k x) (fun k' =>l7 (eq k' k) (some x) (f k')):=fun k' =>by
 obtain⟨h1,h2⟩:=OG hE k x k' l
 obtain⟨g1,g2⟩:=h k'
 refine⟨?_,fun z=>?_⟩
 ·show zK eq (BZ eq l k x) k' =_
  rw[h1,show zK eq l k' =_ from g1]
  show _=(l7 (eq k' k) (some x) (f k')).isSome
  cases eq k' k <;> rfl
 ·show zJ eq (BZ eq l k x) k' z=_
  rw[h2 z,show zJ eq l k' z=_ from g2 z]
  show _=(l7 (eq k' k) (some x) (f k')).getD z
  cases eq k' k <;> rfl
theorem wC.has {α β:Type} {eq:α→α→Bool} {l:List (α×β)} {f:α→Option β} (h:wC eq l f) (k:α):Ei eq l k=(f k).isSome:=(h k).1
theorem wC.get {α β:Type} {eq:α→α→Bool} {l:List (α×β)} {f:α→Option β} (h:wC eq l f) (k:α) (z:β):pz eq l k z=(f k).getD z:=(h k).2 z
theorem wC.congr {α β:Type} {eq:α→α→Bool} {l:List (α×β)} {f g:α→Option β} (h:wC eq l f) (e:∀k,f k=g k):wC eq l g:=fun k=>by rw[←e k];exact h k
abbrev noS:A8:=([],0,[],[],[])
def kK {α:Type} (p:α→Bool):List α→Nat→Option (α×Int)
 | [],_=>none
 | a::r,i=>l7 (p a) (some (a,(i:Int))) (kK p r (i+1))
theorem zl {α:Type} (p:α→Bool) (a:α):∀(l:List α) (i:Nat),kK p (l++[a]) i=(match kK p l i with | some x=>some x | none=>l7 (p a) (some (a,((i+l.length:Nat):Int))) none)
 | [],i=>by simp only[List.nil_append,kK,List.length_nil,Nat.add_zero]
 | b::r,i=>by
  simp only[List.cons_append,kK]
  cases p b
  ·simp only[l9]
   rw[zl p a r (i+1),List.length_cons,show i+1+r.length=i+(r.length+1) by omega]
  ·rfl
def Dq (s:A8) (n:List UInt8):Option (N9×Int):=kK (fun r=>seq n r.1) s.2.2.2.2 0
def rU (l:J3) (n:List UInt8):Option (A8×Int):=kK (fun s=>seq n s.1) l.2.2 0
def cpS (l:J3) (sn rn:List UInt8):A8×Int×Bool:=match rU l sn with
 | none=>(noS,0,false)
 | some x=>match Dq x.1 rn with
  | none=>(noS,0,false)
  | some y=>(x.1,y.2,true)
def a0D (l:J3) (X:List (List UInt8×ak)):Prop:=
 ∃f:List UInt8→Option ak,wC (fun(a b:List UInt8)=>seq a b) X f∧∀n,match f n with
  | none=>rU l n=none
  | some x=>∃i,rU l n=some (x.1,i)∧wC (fun(a b:List UInt8)=>seq a b) x.2 (fun rn=>(Dq x.1 rn).map (·.2))
theorem a4Y {α:Type} {l:List α} {i:Nat} {x:α×Nat} (h:l.zipIdx[i]? =some x):l[i]? =some x.1∧x.2=i:=by
 rw[List.getElem?_zipIdx]at h
 cases hl:l[i]? with
 | none=>rw[hl]at h;cases h
 | some a=>
  rw[hl]at h
  simp only[Option.map_some,Option.some.injEq]at h
  subst h
  exact⟨rfl,by simp⟩
def Zu (X:List (List UInt8×Int)) (x:N9×Nat):List (List UInt8×Int):=l7 (Ei (fun(a b:List UInt8)=>seq a b) X x.1.1) X (xM (fun(a b:List UInt8)=>seq a b) X x.1.1 (x.2:Int))
theorem Ol (rs:List N9):∀(i:Nat),i≤rs.length→wC (fun(a b:List UInt8)=>seq a b) ((rs.zipIdx.take i).foldl Zu []) (fun rn=>(kK (fun r:N9=>seq rn r.1) (rs.take i) 0).map (·.2))
 | 0,_=>by simpa[kK]using Oz _
 | i+1,h=>by
  have ih:=Ol rs i (by omega)
  have hl:i<rs.length:=by omega
  have e1:rs.zipIdx.take (i+1)=rs.zipIdx.take i++[(rs[i],i)]:=by
   rw[List.take_add_one]
   congr 1
   rw[List.getElem?_zipIdx,aQ hl]
   simp
  have e2:rs.take (i+1)=rs.take i++[rs[i]]:=by
   rw[List.take_add_one,aQ hl];rfl
  rw[e1,List.foldl_append,e2]
  simp only[List.foldl_cons,List.foldl_nil,zl,Nat.zero_add,List.length_take,Nat.min_eq_left (Nat.le_of_lt hl)]
  generalize (rs.zipIdx.take i).foldl Zu []=X at*
  unfold Zu
  simp only[ih.has]
  cases hf:kK (fun r:N9=>seq rs[i].1 r.1) (rs.take i) 0 with
  | some x=>
   simp only[Option.map_some,Option.isSome_some,o6]
   refine ih.congr fun k=>?_
   cases hk:kK (fun r:N9=>seq k r.1) (rs.take i) 0 with
   | some y=>rfl
   | none=>
    cases hq:seq k rs[i].1
    ·rfl
    ·have:=dJ.1 hq
     subst this
     rw[hk]at hf;cases hf
  | none=>
   simp only[Option.map_none,Option.isSome_none,l9]
   refine(OA (fun a b=>dJ) ih _ _).congr fun k=>?_
   cases hq:seq k rs[i].1
   ·simp only[l9]
    cases kK (fun r:N9=>seq k r.1) (rs.take i) 0 <;> rfl
   ·have:=dJ.1 hq
    subst this
    rw[hf];rfl
def Oj (X:List (List UInt8×ak)) (s:A8):List (List UInt8×ak):=
 l7 (Ei (fun(a b:List UInt8)=>seq a b) X s.1) X (xM (fun(a b:List UInt8)=>seq a b) X s.1 (s,s.2.2.2.2.zipIdx.foldl Zu []))
theorem Om (l:J3):∀(i:Nat),i≤l.2.2.length→a0D (l.1,l.2.1,l.2.2.take i) ((l.2.2.take i).foldl Oj [])
 | 0,_=>⟨fun _=>none,Oz _,fun n=>rfl⟩
 | i+1,h=>by
  obtain⟨f,h1,h2⟩:=Om l i (by omega)
  have hl:i<l.2.2.length:=by omega
  have e2:l.2.2.take (i+1)=l.2.2.take i++[l.2.2[i]]:=by
   rw[List.take_add_one,aQ hl];rfl
  rw[e2,List.foldl_append]
  simp only[List.foldl_cons,List.foldl_nil]
  have hA:∀n,rU (l.1,l.2.1,l.2.2.take i++[l.2.2[i]]) n=(match rU (l.1,l.2.1,l.2.2.take i) n with | some x=>some x | none=>l7 (seq n l.2.2[i].1) (some (l.2.2[i],(i:Int))) none):=fun n=>by
   unfold rU
   simp only[zl,Nat.zero_add,List.length_take,Nat.min_eq_left (Nat.le_of_lt hl)]
   cases kK (fun s:A8=>seq n s.1) (l.2.2.take i) 0 <;> rfl
  generalize (l.2.2.take i).foldl Oj []=X at*
  unfold Oj
  simp only[h1.has]
  cases hf:f l.2.2[i].1 with
  | some x=>
   simp only[Option.isSome_some,o6]
   refine⟨f,h1,fun n=>?_⟩
   have h3:=h2 n
   rw[hA n]
   cases hn:f n with
   | some y=>
    rw[hn]at h3
    obtain⟨j,h4,h5⟩:=h3
    rw[h4]
    exact⟨j,rfl,h5⟩
   | none=>
    rw[hn]at h3
    simp only at h3 ⊢
    rw[h3]
    cases hq:seq n l.2.2[i].1
    ·rfl
    ·have:=dJ.1 hq
     subst this
     rw[hn]at hf;cases hf
  | none=>
   simp only[Option.isSome_none,l9]
   refine⟨_,OA (fun a b=>dJ) h1 _ _,fun n=>?_⟩
   have h3:=h2 n
   rw[hA n]
   cases hq:seq n l.2.2[i].1
   ·simp only[l9]
    cases hn:f n with
    | some y=>
     rw[hn]at h3
     obtain⟨j,h4,h5⟩:=h3
     rw[h4]
     exact⟨j,rfl,h5⟩
    | none=>
     rw[hn]at h3
     simp only at h3 ⊢
     rw[h3]
   ·have:=dJ.1 hq
    subst this
    rw[hf]at h3
    simp only at h3
    rw[h3]
    simp only[o6]
    refine⟨_,rfl,?_⟩
    have:=Ol l.2.2[i].2.2.2.2 l.2.2[i].2.2.2.2.length (Nat.le_refl _)
    rw[show l.2.2[i].2.2.2.2.zipIdx.take l.2.2[i].2.2.2.2.length=l.2.2[i].2.2.2.2.zipIdx from List.take_of_length_le (by simp),List.take_length]at this
    exact this
theorem Hq {l:J3} (hL:SmL l):∃X,jE l=some X∧a0D l X:=by
 have hf:=hL.few.2.2
 refine⟨l.2.2.foldl Oj [],?_,?_⟩
 ·unfold jE
  refine aW l.2.2 Oj (fun b i=>(b,i)) (fun b=>b) (fun _ _=>True) [] (by omega) trivial (fun i s b hs hi _=>⟨?_,trivial⟩) (fun b _=>?_) (fun _=>rfl)
  ·have hS:=hL.sc s (fO hs)
   simp only[H9 hs,o6,F9,hs,o7]
   unfold Oj
   cases Ei (fun(a b:List UInt8)=>seq a b) b s.1
   ·simp only[l9]
    refine aW s.2.2.2.2.zipIdx Zu (fun b i=>(b,i)) (fun b=>b) (fun _ _=>True) [] (by have:=hS.nr;simp;omega) trivial (fun j x c hx hj _=>⟨?_,trivial⟩) (fun c _=>?_) (fun _=>?_)
    ·obtain⟨hr,hj2⟩:=a4Y hx
     simp only[H9 hr,o6,F9,hr,o7]
     unfold Zu
     rw[hj2]
     cases Ei (fun(a b:List UInt8)=>seq a b) c x.1.1 <;> simp only[o9,D6,o6,l9,V6 (show j≤9000000000000000000 by omega)]
    ·simp only[List.length_zipIdx,H8];rfl
    ·simp only[V6 (show i≤9000000000000000000 by omega)]
   ·simp only[o6,V6 (show i≤9000000000000000000 by omega)]
  ·simp only[H8];rfl
 ·have:=Om l l.2.2.length (Nat.le_refl _)
  rwa[List.take_length]at this
theorem zf {l:J3} {X:List (List UInt8×ak)} (h:a0D l X) (sn rn:List UInt8):aT X sn rn=some (cpS l sn rn):=by
 obtain⟨f,h1,h2⟩:=h
 unfold aT cpS
 rw[h1.has,h1.get]
 have h3:=h2 sn
 cases hf:f sn with
 | none=>
  rw[hf]at h3
  simp only at h3
  rw[h3];rfl
 | some x=>
  rw[hf]at h3
  obtain⟨i,h4,h5⟩:=h3
  rw[h4]
  simp only[Option.isSome_some,o9,l9,Option.getD_some,h5.has,h5.get]
  cases Dq x.1 rn <;> rfl
noncomputable def eqB {α:Type} (a b:α):Bool:=@decide (a=b) (Classical.propDecidable _)
theorem sZ {α:Type} {a b:α} :eqB a b=true↔a=b:=by unfold eqB;exact @decide_eq_true_iff _ (Classical.propDecidable _)
theorem BQ {α:Type} {a b:α} (h:a=b):eqB a b=true:=sZ.2 h
theorem uw {α:Type} {a b:α} (h:a≠b):eqB a b=false:=by
 cases he:eqB a b
 ·rfl
 ·exact absurd (sZ.1 he) h
theorem rZ {α β:Type} {a b:α} {c d:β} (h:a=b↔c=d):eqB a b=eqB c d:=by
 rw[Bool.eq_iff_iff,sZ,sZ];exact h
theorem Bg {α:Type} (a b:List α):eqB (a.map fun x=>x) (b.map fun x=>x)=eqB a b:=by simp
theorem a4Z {α β:Type} :∀{a:List α} {b:List β} {i:Nat} {p:α×β},(a.zip b)[i]? =some p→a[i]? =some p.1∧b[i]? =some p.2
 | [],_,i,p,h=>by simp at h
 | _::_,[],i,p,h=>by simp at h
 | x::a,y::b,0,p,h=>by
  simp only[List.zip_cons_cons,List.getElem?_cons_zero,Option.some.injEq]at h
  subst h;exact⟨rfl,rfl⟩
 | x::a,y::b,i+1,p,h=>by
  simp only[List.zip_cons_cons,List.getElem?_cons_succ]at h ⊢
  exact a4Z h
noncomputable def eqG {α β:Type} (g:α→β) (_:Unit) (p:α×α):Unit⊕Bool:=l7 (eqB (g p.1) (g p.2)) (.inl ()) (.inr false)
theorem Xq {α β:Type} (g:α→β):∀{a b:List α},a.length=b.length→ay (eqG g) (a.zip b) ()=l7 (eqB (a.map g) (b.map g)) (.inl ()) (.inr false)
 | [],[],_=>by rw[BQ rfl];rfl
 | [],_::_,h=>by cases h
 | _::_,[],h=>by cases h
 | x::a,y::b,h=>by
  have ih:=Xq g (a:=a) (b:=b) (by simpa using h)
  simp only[List.zip_cons_cons,List.map_cons]
  unfold ay
  by_cases e:g x=g y
  ·rw[show eqG g () (x,y)= .inl ()from by unfold eqG;rw[BQ e];rfl]
   rw[rZ (show(g x::a.map g=g y::b.map g)↔a.map g=b.map g by rw[e];simp)]
   exact ih
  ·rw[show eqG g () (x,y)= .inr false from by unfold eqG;rw[uw e];rfl]
   rw[uw (fun h=>e (List.cons.inj h).1)];rfl
theorem CS {α β:Type} (g:α→β) (q:α→α→Bool) (hq:∀x y,q x y=true↔g x=g y) {a b:List α} (hl:a.length≤1000000) {f:Int→Option (Out Int PUnit Bool)}
  (hin:∀(i:Nat) x y,a[i]? =some x→b[i]? =some y→f (i:Int)=l7 (E5 (q x y)) (some (.rt false)) (some (.nx (x9 .i64 (i:Int) 1)))) (hend:f (a.length:Int)=some (.ex PUnit.unit)):
  (l7 (E5 (ieq (o8 a) (o8 b))) (some false) (o5 (P5 f 0) fun o=>U7 o (fun _=>some true) fun r=>some r))=some (eqB (a.map g) (b.map g)):=by
 by_cases hab:a.length=b.length
 ·rw[show ieq (o8 a) (o8 b)=true from F5 (by simp[o8,hab]),o9,l9]
  have hz:(a.zip b).length=a.length:=by simp[hab]
  refine fJ (a.zip b) (eqG g) (fun _ i=>i) (fun _=>PUnit.unit) (fun _ _=>True) () (by omega) trivial (fun i p _ hp hi _=>⟨?_,fun _ _=>trivial⟩) (fun _ _=>?_) (fun _=>?_)
  ·obtain⟨h1,h2⟩:=a4Z hp
   rw[hin i _ _ h1 h2]
   unfold eqG
   cases hqp:q p.1 p.2
   ·have:¬g p.1=g p.2:=fun e=>by rw[(hq _ _).2 e]at hqp;cases hqp
    rw[uw this];rfl
   ·have:=(hq _ _).1 hqp
    rw[BQ this,o9,l9,V6 (show i≤9000000000000000000 by omega)];rfl
  ·rw[hz];exact hend
  ·rw[Xq g hab]
   cases eqB (a.map g) (b.map g) <;> rfl
 ·rw[show ieq (o8 a) (o8 b)=false from D8 (by simp only[o8];omega),D6,o6]
  rw[uw (fun e=>hab (by simpa using congrArg List.length e))]
theorem yT {a b:Bool} :U2 a b=true↔a=true∧b=true:=by simp[U2]
theorem a1m {a:List (List UInt8)} (b:List (List UInt8)) (h:a.length≤1000000):dA a b=some (eqB a b):=by
 unfold dA
 rw[←Bg]
 refine CS (fun x=>x) (fun x y=>seq x y) (fun x y=>dJ) h (fun i x y hx hy=>?_) ?_
 ·simp only[H9 hx,o6,F9,hx,hy,o7]
 ·simp only[H8];rfl
theorem a1l {a:List rW} (b:List rW) (h:a.length≤1000000):bK a b=some (eqB a b):=by
 unfold bK
 rw[←Bg]
 refine CS (fun x=>x) (fun(x y:rW)=>U2 (ieq x.1.1 y.1.1) (U2 (ieq x.1.2 y.1.2) (U2 (ieq x.2.1 y.2.1) (U2 (ieq x.2.2.1 y.2.2.1) (ieq x.2.2.2 y.2.2.2)))))
  (fun x y=>by simp only[yT,N7,Prod.ext_iff,and_assoc]) h (fun i x y hx hy=>?_) ?_
 ·simp only[H9 hx,o6,F9,hx,hy,o7]
 ·simp only[H8];rfl
theorem JM {a:List aF} (b:List aF) (h:a.length≤1000000):X6 a b=some (eqB a b):=by
 unfold X6
 rw[←Bg]
 refine CS (fun x=>x) (fun(x y:aF)=>U2 (seq x.1 y.1) (U2 (ieq x.2.1 y.2.1) (ieq x.2.2 y.2.2)))
  (fun x y=>by simp only[yT,N7,dJ,Prod.ext_iff]) h (fun i x y hx hy=>?_) ?_
 ·simp only[H9 hx,o6,F9,hx,hy,o7]
 ·simp only[H8];rfl
theorem NV {a:List I8} (b:List I8) (h:a.length≤1000000):Y7 a b=some (eqB a b):=by
 unfold Y7
 rw[←Bg]
 refine CS (fun x=>x) (fun(x y:I8)=>U2 (ieq x.1 y.1) (ieq x.2 y.2))
  (fun x y=>by simp only[yT,N7,Prod.ext_iff]) h (fun i x y hx hy=>?_) ?_
 ·simp only[H9 hx,o6,F9,hx,hy,o7]
 ·simp only[H8];rfl
theorem Ub {x:bC} (y:bC) (h:x.2.length≤1000000):mD x y=some (eqB x y):=by
 unfold mD
 rw[a1m y.2 h,o7]
 by_cases e:x.1=y.1
 ·rw[dJ.2 e,o6]
  congr 1
  exact rZ ⟨fun h=>Prod.ext e h,fun h=>by rw[h]⟩
 ·rw[LU.2 e,l9,uw (fun h=>e (by rw[h]))]
theorem QD {x:Y4} (y:Y4) (h:x.2.2.2.length≤1000000):kT x y=some (eqB x y):=by
 unfold kT
 rw[a1l y.2.2.2 h,o7]
 by_cases e:x=y
 ·subst e
  rw[dJ.2 rfl,F5 rfl,F5 rfl,F5 rfl,F5 rfl,BQ rfl,BQ rfl];rfl
 ·rw[uw e]
  by_cases e1:x.1=y.1
  case neg=>rw[LU.2 e1];rfl
  rw[dJ.2 e1,o6]
  cases h2:U2 (ieq x.2.1.1 y.2.1.1) (ieq x.2.1.2 y.2.1.2)
  ·rfl
  cases h3:U2 (ieq x.2.2.1.1 y.2.2.1.1) (ieq x.2.2.1.2 y.2.2.1.2)
  ·rfl
  simp only[yT,N7]at h2 h3
  rw[o6,o6,uw]
  intro h4
  exact e (Prod.ext e1 (Prod.ext (Prod.ext h2.1 h2.2) (Prod.ext (Prod.ext h3.1 h3.2) h4)))
def BI (s:A8):List UInt8×Int×List aF×List aF:=(s.1,s.2.1,s.2.2.1,s.2.2.2.1)
theorem QC {x:A8} (y:A8) (h1:x.2.2.1.length≤1000000) (h2:x.2.2.2.1.length≤1000000):kS x y=some (eqB (BI x) (BI y)):=by
 unfold kS
 rw[JM y.2.2.1 h1,o7,JM y.2.2.2.1 h2,o7]
 have key:BI x=BI y↔(x.1=y.1∧x.2.1=y.2.1∧x.2.2.1=y.2.2.1∧x.2.2.2.1=y.2.2.2.1):=by
  unfold BI
  simp only[Prod.mk.injEq]
 by_cases e1:x.1=y.1
 case neg=>rw[LU.2 e1,l9,uw (fun h=>e1 (key.1 h).1)]
 by_cases e2:x.2.1=y.2.1
 case neg=>rw[dJ.2 e1,o6,D8 e2,l9,uw (fun h=>e2 (key.1 h).2.1)]
 by_cases e3:x.2.2.1=y.2.2.1
 case neg=>rw[dJ.2 e1,o6,F5 e2,o6,uw e3,l9,uw (fun h=>e3 (key.1 h).2.2.1)]
 rw[dJ.2 e1,o6,F5 e2,o6,BQ e3,o6]
 congr 1
 exact rZ ⟨fun h=>key.2 ⟨e1,e2,e3,h⟩,fun h=>(key.1 h).2.2.2⟩
noncomputable def siS (a b:J3):Bool:=eqB a.1 b.1&&(eqB a.2.1 b.2.1&&eqB (a.2.2.map BI) (b.2.2.map BI))
theorem a3Q (a b:J3):siS a b=siS b a:=by
 unfold siS
 rw[rZ (eq_comm (a:=a.1) (b:=b.1)),rZ (eq_comm (a:=a.2.1) (b:=b.2.1)),rZ (eq_comm (a:=a.2.2.map BI) (b:=b.2.2.map BI))]
theorem Gz {a:J3} (b:J3) (hA:SmL a) (hT:∀t∈a.2.1,pG t) (hv:(P6 a).1=0):gX a b=some (siS a b):=by
 have hf:=hA.few
 unfold gX
 have h1:O0 a.1 b.1 ()=some (eqB a.1 b.1):=by
  unfold O0
  rw[←Bg]
  refine CS (fun x=>x) (fun(x y:bC)=>eqB x y) (fun x y=>sZ) (by have:=hf.1;omega) (fun i x y hx hy=>?_) ?_
  ·have:=WP hv x (fO hx)
   simp only[H9 hx,o6,F9,hx,hy,o7,Ub y (show x.2.length≤1000000 by omega)]
  ·simp only[H8];rfl
 have h2:L9 a.2.1 b.2.1 ()=some (eqB a.2.1 b.2.1):=by
  unfold L9
  rw[←Bg]
  refine CS (fun x=>x) (fun(x y:Y4)=>eqB x y) (fun x y=>sZ) (by have:=hf.2.1;omega) (fun i x y hx hy=>?_) ?_
  ·have:=(hT x (fO hx)).1
   simp only[H9 hx,o6,F9,hx,hy,o7,QD y (show x.2.2.2.length≤1000000 by omega)]
  ·simp only[H8];rfl
 have h3:L8 a.2.2 b.2.2 ()=some (eqB (a.2.2.map BI) (b.2.2.map BI)):=by
  unfold L8
  refine CS BI (fun(x y:A8)=>eqB (BI x) (BI y)) (fun x y=>sZ) (by have:=hf.2.2;omega) (fun i x y hx hy=>?_) ?_
  ·have hS:=hA.sc x (fO hx)
   have hni:=hS.ni
   have hnd:=hS.nd
   simp only[H9 hx,o6,F9,hx,hy,o7,QC y (show x.2.2.1.length≤1000000 by omega) (show x.2.2.2.1.length≤1000000 by omega)]
  ·simp only[H8];rfl
 rw[h1,o7,h2,o7,h3,o7]
 unfold siS
 cases eqB a.1 b.1 <;> cases eqB a.2.1 b.2.1 <;> rfl
def b1o (s:A8) (d:Int):List UInt8:=match lat s.2.2.2.1 d with | some f=>f.1 | none=>[]
def b5E (s:A8) (d:Int):List UInt8:=match lat s.2.2.2.2 d with | some f=>f.1 | none=>[]
def prS (s:A8) (r:N9):dC:=(b1o s r.2.1,b5E s r.2.2.1,r.2.2.2.1,r.2.2.2.2.1,r.2.2.2.2.2.2.2)
theorem Vp {α:Type} {l:List α} {d:Int} (h0:ile 0 d=true) (h1:ilt d (o8 l)=true):∃x,lat l d=some x:=by
 rw[iG]at h0;rw[cu]at h1
 simp only[o8]at h1
 refine⟨l[d.toNat]'(by omega),?_⟩
 unfold lat
 rw[if_pos h0,aQ]
theorem yE (s:A8) (r:N9):eG s r=some (prS s r):=by
 unfold eG
 have h1:(l7 (ile 0 r.2.1) (l7 (ilt r.2.1 (o8 s.2.2.2.1)) (o5 (lat s.2.2.2.1 r.2.1) fun(x:aF)=>some ((x.1,[],r.2.2.2.1,r.2.2.2.2.1,r.2.2.2.2.2.2.2):dC))
   (some ([],[],r.2.2.2.1,r.2.2.2.2.1,r.2.2.2.2.2.2.2))) (some ([],[],r.2.2.2.1,r.2.2.2.2.1,r.2.2.2.2.2.2.2)))=some ((b1o s r.2.1,[],r.2.2.2.1,r.2.2.2.2.1,r.2.2.2.2.2.2.2):dC):=by
  unfold b1o
  cases h0:ile 0 r.2.1
  ·rw[iI (.inl h0)];rfl
  cases h1:ilt r.2.1 (o8 s.2.2.2.1)
  ·rw[iI (.inr h1)];rfl
  obtain⟨x,hx⟩:=Vp h0 h1
  rw[hx];rfl
 rw[h1,o7]
 unfold prS b5E
 cases h0:ile 0 r.2.2.1
 ·rw[iI (.inl h0)];rfl
 cases h1:ilt r.2.2.1 (o8 s.2.2.2.2)
 ·rw[iI (.inr h1)];rfl
 obtain⟨x,hx⟩:=Vp h0 h1
 rw[hx];rfl
abbrev trS (s:A8) (p:N9):dC×List I8×List I8:=(prS s p,p.2.2.2.2.2.1,p.2.2.2.2.2.2.1)
noncomputable def srS (s:A8) (p:N9) (t:A8) (q:N9):Bool:=eqB (trS s p) (trS t q)
theorem a4B (s:A8) (p:N9) (t:A8) (q:N9):srS s p t q=srS t q s p:=rZ eq_comm
theorem a4C (s:A8) (p:N9):srS s p s p=true:=BQ rfl
theorem Ue {s t:A8} {i j:Int} {p q:N9} (hp:lat s.2.2.2.2 i=some p) (hq:lat t.2.2.2.2 j=some q) (h1:p.2.2.2.2.2.1.length≤1000000) (h2:p.2.2.2.2.2.2.1.length≤1000000):
  mF s i t j=some (srS s p t q):=by
 unfold mF
 rw[hp,o7,hq,o7,yE,o7,yE,o7,NV q.2.2.2.2.2.1 h1,o7,NV q.2.2.2.2.2.2.1 h2,o7]
 unfold srS trS
 generalize prS s p=x
 generalize prS t q=y
 have hb:U2 (seq x.1 y.1) (U2 (seq x.2.1 y.2.1) (U2 (ieq x.2.2.1 y.2.2.1) (U2 (ieq x.2.2.2.1.1 y.2.2.2.1.1) (U2 (ieq x.2.2.2.1.2 y.2.2.2.1.2) (seq x.2.2.2.2 y.2.2.2.2)))))=eqB x y:=by
  rw[Bool.eq_iff_iff]
  simp only[yT,N7,dJ,sZ,Prod.ext_iff,and_assoc]
 rw[hb]
 have key:(x,p.2.2.2.2.2.1,p.2.2.2.2.2.2.1)=(y,q.2.2.2.2.2.1,q.2.2.2.2.2.2.1)↔(x=y∧p.2.2.2.2.2.1=q.2.2.2.2.2.1∧p.2.2.2.2.2.2.1=q.2.2.2.2.2.2.1):=by simp only[Prod.mk.injEq]
 by_cases e:x=y
 case neg=>rw[uw e,l9,uw (fun h=>e (key.1 h).1)]
 by_cases e2:p.2.2.2.2.2.1=q.2.2.2.2.2.1
 case neg=>rw[BQ e,o6,uw e2,l9,uw (fun h=>e2 (key.1 h).2.1)]
 rw[BQ e,o6,BQ e2,o6]
 congr 1
 exact rZ ⟨fun h=>key.2 ⟨e,e2,h⟩,fun h=>(key.1 h).2.2⟩
theorem CU {α:Type} {p:α→Bool} :∀{l:List α} {k:Nat} {a:α} {i:Int},kK p l k=some (a,i)→∃j:Nat,l[j]? =some a∧i=((k+j:Nat):Int)∧p a=true∧∀j' b,j' <j→l[j']? =some b→p b=false
 | [],_,_,_,h=>by cases h
 | b::r,k,a,i,h=>by
  unfold kK at h
  cases hp:p b <;> rw[hp]at h
  ·simp only[l9]at h
   obtain⟨j,h1,h2,h3,h4⟩:=CU h
   refine⟨j+1,by simpa using h1,by rw[h2];congr 1;omega,h3,fun j' c hj hc=>?_⟩
   cases j' with
   | zero=>simp at hc;subst hc;exact hp
   | succ j' =>exact h4 j' c (by omega) (by simpa using hc)
  ·simp only[o6,Option.some.injEq,Prod.mk.injEq]at h
   obtain⟨rfl,rfl⟩:=h
   exact⟨0,rfl,rfl,hp,fun j' c hj=>by omega⟩
theorem VW {s:A8} {n:List UInt8} {r:N9} {i:Int} (h:Dq s n=some (r,i)):lat s.2.2.2.2 i=some r∧r.1=n∧r∈s.2.2.2.2:=by
 obtain⟨j,h1,h2,h3,_⟩:=CU h
 refine⟨by rw[h2,Nat.zero_add,F9];exact h1,(dJ.1 h3).symm,fO h1⟩
theorem Uf {l:J3} {n:List UInt8} {s:A8} {i:Int} (h:rU l n=some (s,i)):s.1=n∧s∈l.2.2:=by
 obtain⟨j,h1,h2,h3,_⟩:=CU h
 exact⟨(dJ.1 h3).symm,fO h1⟩
def cpR (l:J3) (sn rn:List UInt8):Option (A8×N9):=match rU l sn with
 | none=>none
 | some x=>(Dq x.1 rn).map fun y=>(x.1,y.1)
theorem FB (l:J3) (sn rn:List UInt8):(cpR l sn rn=none∧(cpS l sn rn).2.2=false)∨∃t q j,cpR l sn rn=some (t,q)∧cpS l sn rn=(t,j,true)∧lat t.2.2.2.2 j=some q∧t∈l.2.2∧t.1=sn∧q∈t.2.2.2.2∧q.1=rn:=by
 unfold cpR cpS
 cases hs:rU l sn with
 | none=>exact .inl ⟨rfl,rfl⟩
 | some x=>
  obtain⟨t,i⟩:=x
  obtain⟨h1,h2⟩:=Uf hs
  simp only
  cases hr:Dq t rn with
  | none=>exact .inl ⟨rfl,rfl⟩
  | some y=>
   obtain⟨q,j⟩:=y
   obtain⟨h3,h4,h5⟩:=VW hr
   exact .inr ⟨t,q,j,rfl,rfl,h3,h2,h1,h5,h4⟩
noncomputable def uS (b:J3) (s:A8) (r:N9):List X3:=match cpR b s.1 r.1 with
 | none=>[(s.1,r.1,1)]
 | some x=>l7 (srS s r x.1 x.2) [] [(s.1,r.1,3)]
def wX (a:J3) (s:A8) (r:N9):List X3:=match cpR a s.1 r.1 with
 | none=>[(s.1,r.1,2)]
 | some _=>[]
noncomputable def qF (a b:J3):List X3:=(a.2.2.flatMap fun s=>s.2.2.2.2.flatMap (uS b s))++b.2.2.flatMap fun s=>s.2.2.2.2.flatMap (wX a s)
theorem uf {α β:Type} (g:α→List β):∀(l:List α) (b:List β),l.foldl (fun acc x=>acc++g x) b=b++l.flatMap g
 | [],b=>by simp
 | a::l,b=>by rw[List.foldl_cons,uf g l,List.flatMap_cons,List.append_assoc]
theorem Ac (b:J3) (s:A8) (r:N9):(uS b s r).length≤1:=by
 unfold uS
 split
 ·exact Nat.le_refl _
 ·cases srS s r _ _ <;> simp[l7]
theorem DC (b:J3) (s:A8) (r:N9):(wX b s r).length≤1:=by
 unfold wX
 split <;> simp
theorem mZ {α β:Type} (g:α→List β) (m:Nat):∀{l:List α},(∀a∈l,(g a).length≤m)→(l.flatMap g).length≤m*l.length
 | [],_=>by simp
 | a::l,h=>by
  have h1:=mZ g m (l:=l) fun x hx=>h x (by simp[hx])
  have h2:=h a (by simp)
  rw[List.flatMap_cons,List.length_append,List.length_cons,Nat.mul_add]
  omega
theorem Kz {α:Type} {xs ys:List α} (h:xs.length+ys.length≤1073741824):cO xs ys=some (xs++ys):=by unfold cO;rw[if_pos h]
theorem IB {a b:J3} (hA:SmL a) (hB:SmL b):iJ a b=some (qF a b):=by
 obtain⟨XA,hXA,iA⟩:=Hq hA
 obtain⟨XB,hXB,iB⟩:=Hq hB
 have fA:=hA.few.2.2
 have fB:=hB.few.2.2
 unfold iJ qF
 rw[hXA,o7,hXB,o7]
 have e0:=uf (fun s:A8=>s.2.2.2.2.flatMap (uS b s)) a.2.2 []
 rw[List.nil_append]at e0
 have hlen:(a.2.2.flatMap fun s=>s.2.2.2.2.flatMap (uS b s)).length≤60*a.2.2.length:=mZ _ 60 fun s hs=>by
  have:=mZ (uS b s) 1 (l:=s.2.2.2.2) (fun r _=>Ac b s r)
  have h2:=(hA.sc s hs).nr
  omega
 refine aW a.2.2 (fun(acc:List X3) s=>acc++s.2.2.2.2.flatMap (uS b s)) (fun b i=>(b,i)) (fun b=>b) (fun i acc=>acc.length≤60*i) [] (by omega) (by simp) (fun i s acc hs hi hI=>?_) (fun acc hI=>?_) (fun _=>?_)
 ·have hS:=hA.sc s (fO hs)
  have hlt:=(O7.1 hs).1
  have hn:=hS.nr
  have hl1:=mZ (uS b s) 1 (l:=s.2.2.2.2) (fun r _=>Ac b s r)
  refine⟨?_,by rw[List.length_append];omega⟩
  simp only[H9 hs,o6,F9,hs,o7]
  have e1:=uf (uS b s) s.2.2.2.2 acc
  refine aW s.2.2.2.2 (fun(acc:List X3) r=>acc++uS b s r) (fun b i=>(b,i)) (fun b=>b) (fun j c=>c.length≤60*i+j) acc (by omega) (by omega) (fun j r c hr hj hJ=>?_) (fun c hJ=>?_) (fun _=>?_)
  ·have hjl:=(O7.1 hr).1
   obtain⟨_,g1,g2⟩:=hS.ro r (fO hr)
   have hrl:=Ac b s r
   refine⟨?_,by rw[List.length_append];omega⟩
   simp only[H9 hr,o6,F9,hr,o7,zf iB]
   have e2:=V6 (show j≤9000000000000000000 by omega)
   rcases FB b s.1 r.1 with⟨q1,q2⟩ | ⟨t,q,k,q1,q2,q3,q4,q5,q6,q7⟩
   ·rw[q2]
    unfold uS
    rw[q1]
    simp only[D6,o6]
    rw[Kz (by simp;omega),o7,e2]
   ·rw[q2]
    have hsr:=Ue (s:=s) (t:=t) (i:=(j:Int)) (j:=k) (p:=r) (q:=q) (by rw[F9];exact hr) q3 (by omega) (by omega)
    simp only[o9,l9,hsr,o7]
    unfold uS
    rw[q1]
    simp only
    cases srS s r t q
    ·simp only[D6,o6,l9]
     rw[Kz (by simp;omega),o7,e2]
    ·simp only[o9,o6,l9,List.append_nil,e2]
  ·simp only[H8];rfl
  ·rw[e1]
   simp only[V6 (show i≤9000000000000000000 by omega)]
 ·simp only[H8];rfl
 rw[e0]
 generalize (a.2.2.flatMap fun s=>s.2.2.2.2.flatMap (uS b s))=base at*
 have e3:=uf (fun s:A8=>s.2.2.2.2.flatMap (wX a s)) b.2.2 base
 refine aW b.2.2 (fun(acc:List X3) s=>acc++s.2.2.2.2.flatMap (wX a s)) (fun b i=>(b,i)) (fun b=>b) (fun i acc=>acc.length≤60000+60*i) base (by omega) (by omega) (fun i s acc hs hi hI=>?_) (fun acc hI=>?_) (fun _=>by rw[e3])
 ·have hS:=hB.sc s (fO hs)
  have hlt:=(O7.1 hs).1
  have hn:=hS.nr
  have hl1:=mZ (wX a s) 1 (l:=s.2.2.2.2) (fun r _=>DC a s r)
  refine⟨?_,by rw[List.length_append];omega⟩
  simp only[H9 hs,o6,F9,hs,o7]
  have e1:=uf (wX a s) s.2.2.2.2 acc
  refine aW s.2.2.2.2 (fun(acc:List X3) r=>acc++wX a s r) (fun b i=>(b,i)) (fun b=>b) (fun j c=>c.length≤60000+60*i+j) acc (by omega) (by omega) (fun j r c hr hj hJ=>?_) (fun c hJ=>?_) (fun _=>?_)
  ·have hjl:=(O7.1 hr).1
   have hrl:=DC a s r
   refine⟨?_,by rw[List.length_append];omega⟩
   simp only[H9 hr,o6,F9,hr,o7,zf iA]
   have e2:=V6 (show j≤9000000000000000000 by omega)
   rcases FB a s.1 r.1 with⟨q1,q2⟩ | ⟨t,q,k,q1,q2,q3,q4,q5,q6,q7⟩
   ·rw[q2]
    unfold wX
    rw[q1]
    simp only[D6,o6]
    rw[Kz (by simp;omega),o7,e2]
   ·rw[q2]
    unfold wX
    rw[q1]
    simp only[o9,l9,List.append_nil,e2]
  ·simp only[H8];rfl
  ·rw[e1]
   simp only[V6 (show i≤9000000000000000000 by omega)]
 ·simp only[H8];rfl
theorem EX {l:J3} (h:(P6 l).1=0) {i:Nat} {s:A8} (hs:l.2.2[i]? =some s):∀t∈l.2.2.take i,t.1≠s.1:=by
 have he:=UD h hs
 unfold xZ at he
 cases g1:wK s.1 <;> rw[g1]at he
 ·exact absurd (show(2:Int)=0 from he) (by decide)
 simp only[o6]at he
 cases g2:Cj l 3 i s.1 <;> rw[g2]at he
 case true=>exact absurd (show(7:Int)=0 from he) (by decide)
 unfold Cj at g2
 simp only[Bool.or_eq_false_iff,List.any_eq_false]at g2
 intro t ht e
 exact g2.2 t ht (dJ.2 e)
theorem EW {l:J3} (h:(P6 l).1=0) {s:A8} (hs:s∈l.2.2) {k:Nat} {r:N9} (hr:s.2.2.2.2[k]? =some r):∀q∈s.2.2.2.2.take k,q.1≠r.1:=by
 obtain⟨i,hi,e⟩:=List.mem_iff_getElem.1 hs
 have he:=MI h (i:=i) (s:=s) (by rw[aQ hi,e]) hr
 unfold Ah at he
 cases g1:wK r.1 <;> rw[g1]at he
 ·exact absurd (show(2:Int)=0 from he) (by decide)
 simp only[o6]at he
 cases g2:(s.2.2.2.2.take k).any fun x=>seq x.1 r.1 <;> rw[g2]at he
 case true=>exact absurd (show(7:Int)=0 from he) (by decide)
 rw[List.any_eq_false]at g2
 intro q hq e
 exact g2 q hq (dJ.2 e)
theorem JV {α:Type} {p:α→Bool} :∀{l:List α} {j:Nat} {a:α} (k:Nat),l[j]? =some a→p a=true→(∀b∈l.take j,p b=false)→kK p l k=some (a,((k+j:Nat):Int))
 | [],j,a,k,h,_,_=>by simp at h
 | b::r,0,a,k,h,hp,_=>by
  simp only[List.getElem?_cons_zero,Option.some.injEq]at h
  subst h
  unfold kK
  rw[hp];rfl
 | b::r,j+1,a,k,h,hp,hb=>by
  have h1:=hb b (by simp)
  have:=JV (p:=p) (l:=r) (j:=j) (a:=a) (k+1) (by simpa using h) hp fun c hc=>hb c (by simp[hc])
  unfold kK
  rw[h1,l9,this,show k+1+j=k+(j+1) by omega]
theorem Ug {l:J3} (h:(P6 l).1=0) {s:A8} (hs:s∈l.2.2):∃i,rU l s.1=some (s,i):=by
 obtain⟨i,hi,e⟩:=List.mem_iff_getElem.1 hs
 have hi' :l.2.2[i]? =some s:=by rw[aQ hi,e]
 exact⟨_,JV 0 hi' (dJ.2 rfl) fun b hb=>LU.2 fun e=>EX h hi' b hb e.symm⟩
theorem VX {l:J3} (h:(P6 l).1=0) {s:A8} (hs:s∈l.2.2) {r:N9} (hr:r∈s.2.2.2.2):∃i,Dq s r.1=some (r,i):=by
 obtain⟨i,hi,e⟩:=List.mem_iff_getElem.1 hr
 have hi' :s.2.2.2.2[i]? =some r:=by rw[aQ hi,e]
 exact⟨_,JV 0 hi' (dJ.2 rfl) fun b hb=>LU.2 fun e=>EW h hs hi' b hb e.symm⟩
theorem IR {l:J3} (h:(P6 l).1=0) {s:A8} (hs:s∈l.2.2) {r:N9} (hr:r∈s.2.2.2.2):cpR l s.1 r.1=some (s,r):=by
 obtain⟨i,h1⟩:=Ug h hs
 obtain⟨j,h2⟩:=VX h hs hr
 unfold cpR
 rw[h1]
 simp only
 rw[h2];rfl
theorem Xl {l:J3} {sn rn:List UInt8} {t:A8} {q:N9} (h:cpR l sn rn=some (t,q)):t∈l.2.2∧q∈t.2.2.2.2∧t.1=sn∧q.1=rn:=by
 rcases FB l sn rn with⟨q1,_⟩ | ⟨t',q',j,q1,q2,q3,q4,q5,q6,q7⟩
 ·rw[h]at q1;cases q1
 ·rw[h]at q1;cases q1
  exact⟨q4,q6,q5,q7⟩
theorem Ze {l:J3} (h:(P6 l).1=0):qF l l=[]:=by
 unfold qF
 rw[List.append_eq_nil_iff]
 constructor
 ·rw[List.flatMap_eq_nil_iff]
  intro s hs
  rw[List.flatMap_eq_nil_iff]
  intro r hr
  unfold uS
  rw[IR h hs hr]
  simp only[a4C,o6]
 ·rw[List.flatMap_eq_nil_iff]
  intro s hs
  rw[List.flatMap_eq_nil_iff]
  intro r hr
  unfold wX
  rw[IR h hs hr]
abbrev eqN:V4→V4→Bool:=fun a b=>U2 (seq a.1 b.1) (seq a.2 b.2)
abbrev Jg:=List (V4×Bool)
theorem JB {s:A8} (hS:SmS s) (L:Jg) {D:List Int} (hD:D.length≤1000000):∃L',lG L s D=some L' :=by
 have hn:=hS.nr
 refine⟨s.2.2.2.2.foldl (fun(acc:Jg) r=>l7 (pz (fun(a b:Int)=>ieq a b) (D.foldl (fun(acc:List (Int×Bool)) d=>xM (fun(a b:Int)=>ieq a b) acc d true) []) r.2.1 false) (xM (fun(a b:V4)=>U2 (seq a.1 b.1) (seq a.2 b.2)) acc (s.1,r.1) true) acc) L,?_⟩
 unfold lG
 refine aW D (fun(acc:List (Int×Bool)) d=>xM (fun(a b:Int)=>ieq a b) acc d true) (fun b i=>(b,i)) (fun b=>b) (fun _ _=>True) [] hD trivial (fun i d acc hd hi _=>⟨?_,trivial⟩) (fun acc _=>?_) (fun _=>?_)
 ·simp only[H9 hd,o6,F9,hd,o7,V6 (show i≤9000000000000000000 by omega)]
 ·simp only[H8];rfl
 refine aW s.2.2.2.2 (fun(acc:Jg) r=>l7 (pz (fun(a b:Int)=>ieq a b) (D.foldl (fun(acc:List (Int×Bool)) d=>xM (fun(a b:Int)=>ieq a b) acc d true) []) r.2.1 false) (xM (fun(a b:V4)=>U2 (seq a.1 b.1) (seq a.2 b.2)) acc (s.1,r.1) true) acc) (fun b i=>(b,i)) (fun b=>b) (fun _ _=>True) L (by omega) trivial (fun i r acc hr hi _=>⟨?_,trivial⟩) (fun acc _=>?_) (fun _=>rfl)
 ·simp only[H9 hr,o6,F9,hr,o7,V6 (show i≤9000000000000000000 by omega)]
  cases pz (fun(a b:Int)=>ieq a b) (D.foldl (fun(acc:List (Int×Bool)) d=>xM (fun(a b:Int)=>ieq a b) acc d true) []) r.2.1 false <;> rfl
 ·simp only[H8];rfl
theorem Ii {l:J3} (hL:SmL l) (hv:(P6 l).1=0) {k:Int} {s:A8} (hs:lat l.2.2 k=some s) {d:Int} (h0:0≤d) (h1:d<nD s):∃L,fH l k d=some L:=by
 have hk:=jC hs
 have hS:=hL.sc s hk.2.2.1
 have ht:=ul hS d
 obtain⟨L1,hL1⟩:=JB hS [] (D:=au s d++[d]) (by rw[List.length_append];simp;omega)
 unfold fH
 rw[hs,o7,nN hS h0 h1,o7,Kz (by simp;omega),o7,hL1,o7]
 rcases AB hv hs with⟨g1,g2,g3⟩ | ⟨g1,g2,g3,g4,g5⟩
 ·rw[g2];exact⟨L1,rfl⟩
 ·rw[g2,g3]
  simp only[l9,o7,D7]
  have hM:=hL.sc _ g5
  have hml:=XF hS d
  rw[g4,o7,BX hS h0 h1,o7]
  obtain⟨L2,hL2⟩:=JB hM L1 (D:=(mbS s d).foldl (fun(acc:List Int) x=>acc++[x]++au (Y8 l s) x) []) (by
   rw[show(fun(acc:List Int) x=>acc++[x]++au (Y8 l s) x)=(fun(acc:List Int) x=>acc++([x]++au (Y8 l s) x)) by funext acc x;rw[List.append_assoc]]
   rw[uf,List.nil_append]
   have:=mZ (fun x=>[x]++au (Y8 l s) x) 15 (l:=mbS s d) (fun x _=>by have:=ul hM x;rw[List.length_append];simp;omega)
   omega)
  refine⟨L2,?_⟩
  refine aW (mbS s d) (fun(acc:List Int) x=>acc++[x]++au (Y8 l s) x) (fun b i=>(b,i)) (fun b=>b) (fun i acc=>acc.length≤15*i) [] (by omega) (by simp) (fun i x acc hx hi hI=>?_) (fun acc _=>?_) (fun _=>?_)
  ·have hlt:=(O7.1 hx).1
   have hin:=a1R hv hk.2.2.2 d x (fO hx)
   have htm:=ul hM x
   have hg:J9 (mbS s d) (toN (i:Int))=some x:=by unfold J9 toN;simpa using hx
   refine⟨?_,by simp only[List.length_append,List.length_singleton];omega⟩
   simp only[H9 hx,o6,F9,hx,o7,hg]
   rw[Kz (by simp;omega),o7,nN hM hin.1 hin.2,o7,Kz (by simp;omega),o7,V6 (show i≤9000000000000000000 by omega)]
  ·simp only[H8];rfl
  ·rw[hL2];rfl
def edS (l:J3) (k:Int) (c:bz) (d:Int):V3×Int×E4:=if(Jn l k c true d).1=0 then(match lat l.2.2 k with | some s=>a5E l s c d | none=>((0,0,0),0,0,0,0,0))else((0,0,0),0,Jn l k c true d)
theorem a5D {l:J3} {k:Int} {c:bz} {d:Int} (h:(edS l k c d).2.2.1≠0):(edS l k c d).1=(0,0,0):=by
 unfold edS at h ⊢
 split
 ·rename_i hA
  rw[if_pos hA]at h
  cases hs:lat l.2.2 k with
  | none=>rfl
  | some s=>
   rw[hs]at h
   simp only at h ⊢
   unfold a5E at h ⊢
   revert h
   generalize PP l s c (Gw s (sK s.2.2.2.1.length) d) (KG (Y8 l s) (sK (Y8 l s).2.2.2.1.length) (mbS s d))=z
   intro h
   cases z with
   | inl x=>exact absurd (show(0:Int)=0 from rfl) h
   | inr e=>rfl
 ·rfl
def evS (l:J3) (k:Int) (c:bz) (d:Int):V3×Int:=l7 (E5 (ieq (edS l k c d).2.2.1 0)) ((0,0,0),(edS l k c d).2.2.1) ((edS l k c d).1,0)
theorem b1F (l:J3) (k:Int) (c:bz) (d:Int):evS l k c d=((edS l k c d).1,(edS l k c d).2.2.1):=by
 unfold evS
 by_cases h:(edS l k c d).2.2.1=0
 ·rw[F5 h,h];rfl
 ·rw[D8 h,a5D h];rfl
theorem DU {l:J3} {k:Int} {c:bz} {d:Int} (hL:SmL l) (hC:SmC c) (hT:∀t∈l.2.1,pG t):kz l k c d=some (evS l k c d):=by
 unfold kz evS
 rw[JO hL hC hT,o7]
 show l7 (E5 (ieq (edS l k c d).2.2.1 0)) (some ((0,0,0),(edS l k c d).2.2.1)) (some ((edS l k c d).1,0))=_
 cases E5 (ieq (edS l k c d).2.2.1 0) <;> rfl
abbrev zI:nP:=((0,0,0),(0,0,0),0,0,[])
def a4X (e:Int×Int×Int×Int):Bool:=U2 (ieq e.1 0) (U2 (ieq e.2.1 0) (U2 (ieq e.2.2.1 0) (ieq e.2.2.2 0)))
theorem RS {n:Nat} {p:Nat→Option (Int×Int×Int×Int)} (hp:∀i r,p i=some r→r.1≠0):(match U1 n p with | some r=>r | none=>((0,0,0,0):Int×Int×Int×Int)).1=0→(match U1 n p with | some r=>r | none=>((0,0,0,0):Int×Int×Int×Int))=(0,0,0,0):=by
 cases h:U1 n p with
 | none=>exact fun _=>rfl
 | some r=>
  obtain⟨i,_,hi⟩:=dU h
  exact fun e=>absurd e (hp i r hi)
theorem Iw (l:J3):a4X (P6 l)=ieq (P6 l).1 0:=by
 have key:(P6 l).1=0→P6 l=(0,0,0,0):=by
  unfold P6
  cases h1:ieq (xx l).1 0
  ·simp only[l9];exact fun h=>absurd h (pW.1 h1)
  simp only[o6]
  cases h2:ieq (yj l).1 0
  ·simp only[l9];exact fun h=>absurd h (pW.1 h2)
  simp only[o6]
  unfold EO
  cases ilt 4 (o8 l.2.2)
  ·simp only[l9]
   refine RS fun i r h=>?_
   unfold Am at h
   split at h
   ·exact NW h
   ·cases h
  ·simp only[o6];exact fun h=>absurd h (by decide)
 by_cases h:(P6 l).1=0
 ·rw[key h];rfl
 ·unfold a4X
  rw[D8 h];rfl
def TT (a:J3) (k d:Int):Bool:=l7 (ilt k 0) false (l7 (ile (o8 a.2.2) k) false (l7 (ilt d 0) false (match lat a.2.2 k with | some s=>E5 (ile (o8 s.2.2.2.1) d) | none=>false)))
noncomputable def okC (a b:J3) (k d:Int):Bool:=ieq (P6 a).1 0&&(ieq (P6 b).1 0&&(TT a k d&&siS a b))
def rvS (LA LB:Jg) (x:X3):Bool:=
 l7 (E5 (ieq x.2.2 2)) (l7 (pz eqN LA (x.1,x.2.1) false) true (l7 (E5 (ieq x.2.2 1)) (pz eqN LB (x.1,x.2.1) false) false)) (l7 (E5 (ieq x.2.2 1)) (pz eqN LB (x.1,x.2.1) false) false)
theorem DW {α:Type} (p:α→Bool):∀(l b:List α),l.foldl (fun acc x=>l7 (p x) (acc++[x]) acc) b=b++l.filter p
 | [],b=>by simp
 | a::l,b=>by
  rw[List.foldl_cons,DW p l,List.filter_cons]
  cases p a <;> simp[l7]
theorem Rn {a b:J3} (hA:SmL a) (hB:SmL b):(qF a b).length≤120000:=by
 unfold qF
 have h1:(a.2.2.flatMap fun s=>s.2.2.2.2.flatMap (uS b s)).length≤60*a.2.2.length:=mZ _ 60 fun s hs=>by
  have:=mZ (uS b s) 1 (l:=s.2.2.2.2) (fun r _=>Ac b s r)
  have h2:=(hA.sc s hs).nr
  omega
 have h2:(b.2.2.flatMap fun s=>s.2.2.2.2.flatMap (wX a s)).length≤60*b.2.2.length:=mZ _ 60 fun s hs=>by
  have:=mZ (wX a s) 1 (l:=s.2.2.2.2) (fun r _=>DC a s r)
  have h2:=(hB.sc s hs).nr
  omega
 have fA:=hA.few.2.2
 have fB:=hB.few.2.2
 rw[List.length_append]
 omega
theorem TU {a:J3} {k d:Int} (h:TT a k d=true):∃s,lat a.2.2 k=some s∧0≤d∧d<nD s:=by
 unfold TT at h
 cases h1:ilt k 0 <;> rw[h1]at h
 case true=>cases h
 cases h2:ile (o8 a.2.2) k <;> rw[h2]at h
 case true=>cases h
 cases h3:ilt d 0 <;> rw[h3]at h
 case true=>cases h
 simp only[l9]at h
 cases hs:lat a.2.2 k with
 | none=>rw[hs]at h;cases h
 | some s=>
  rw[hs]at h
  simp only at h
  refine⟨s,rfl,bF.1 h3,?_⟩
  cases h4:ile (o8 s.2.2.2.1) d <;> rw[h4]at h
  ·exact xH.1 h4
  ·cases h
theorem Uj {a b:J3} (h:siS a b=true) {k:Int} {s:A8} (hs:lat a.2.2 k=some s):∃t,lat b.2.2 k=some t∧BI s=BI t:=by
 unfold siS at h
 simp only[Bool.and_eq_true,sZ]at h
 have h3:=h.2.2
 obtain⟨h0,h1,_,h2⟩:=jC hs
 have e:=congrArg (fun l=>l[k.toNat]?) h3
 simp only[List.getElem?_map,h2,Option.map_some]at e
 cases ht:b.2.2[k.toNat]? with
 | none=>rw[ht]at e;cases e
 | some t=>
  rw[ht]at e
  simp only[Option.map_some,Option.some.injEq]at e
  refine⟨t,?_,e⟩
  unfold lat
  rw[if_pos h0,ht]
theorem b2r {a b:J3} (h:siS a b=true) {k d:Int} (hr:TT a k d=true):TT b k d=true:=by
 obtain⟨s,hs,h0,h1⟩:=TU hr
 obtain⟨t,ht,e⟩:=Uj h hs
 have e4:s.2.2.2.1=t.2.2.2.1:=congrArg (·.2.2.2) e
 obtain⟨g0,g1,_,_⟩:=jC ht
 unfold TT
 rw[D9 g0,F8 g1,D9 h0,ht]
 simp only[l9]
 rw[F8 (by unfold nD at h1;rw[←e4];exact h1)];rfl
theorem Tq (a b:J3) (k d:Int):okC a b k d=true→okC b a k d=true:=by
 unfold okC
 simp only[Bool.and_eq_true]
 rintro⟨h1,h2,h3,h4⟩
 exact⟨h2,h1,b2r h4 h3,by rw[a3Q];exact h4⟩
theorem xm {a b:J3} (hA:SmL a) (hB:SmL b) {c:bz} (hC:SmC c) (tA:∀t∈a.2.1,pG t) (tB:∀t∈b.2.1,pG t) (k d:Int):
  (okC a b k d=true∧∃LA LB,fH a k d=some LA∧fH b k d=some LB∧
   eF a b k c d=some (((evS a k c d).1,(evS b k c d).1,(evS a k c d).2,(evS b k c d).2,(qF a b).filter (rvS LA LB)),0))∨
  (okC a b k d=false∧∃e,e≠0∧eF a b k c d=some (zI,e)):=by
 unfold eF okC
 rw[AC hA,o7,AC hB,o7]
 have zA:=Iw a
 have zB:=Iw b
 unfold a4X at zA zB
 rw[zA,zB]
 cases vA:ieq (P6 a).1 0
 ·exact .inr ⟨rfl,1,by decide,rfl⟩
 cases vB:ieq (P6 b).1 0
 ·exact .inr ⟨rfl,1,by decide,rfl⟩
 simp only[o9,l9,o7,D7,Bool.true_and]
 have hvA:=N7.1 vA
 have hvB:=N7.1 vB
 cases hr:TT a k d
 ·right
  refine⟨rfl,6,by decide,?_⟩
  unfold TT at hr
  cases h1:ilt k 0
  case true=>rfl
  rw[h1]at hr
  cases h2:ile (o8 a.2.2) k
  case true=>rfl
  rw[h2]at hr
  cases h3:ilt d 0
  case true=>rfl
  rw[h3]at hr
  simp only[l9]at hr ⊢
  obtain⟨s,hs⟩:∃s,lat a.2.2 k=some s:=Vp (iG.2 (bF.1 h1)) (cu.2 (xH.1 h2))
  rw[hs]at hr ⊢
  simp only[o7]at hr ⊢
  cases h4:ile (o8 s.2.2.2.1) d <;> rw[h4]at hr
  ·cases hr
  ·rfl
 obtain⟨s,hs,h0,h1⟩:=TU hr
 obtain⟨k0,k1,_,_⟩:=jC hs
 rw[D9 k0,F8 k1,D9 h0,hs]
 simp only[l9,o7]
 rw[F8 (show d<o8 s.2.2.2.1 from h1)]
 simp only[l9,o7,D7,Bool.true_and]
 rw[Gz b hA tA hvA,o7]
 cases hsi:siS a b
 ·exact .inr ⟨rfl,8,by decide,rfl⟩
 left
 simp only[o9,l9]
 obtain⟨t,ht,e⟩:=Uj hsi hs
 have e4:s.2.2.2.1=t.2.2.2.1:=congrArg (·.2.2.2) e
 obtain⟨LA,hLA⟩:=Ii hA hvA hs h0 h1
 obtain⟨LB,hLB⟩:=Ii hB hvB ht h0 (by unfold nD at h1 ⊢;rw[←e4];exact h1)
 refine⟨by first | rfl | trivial,LA,LB,hLA,hLB,?_⟩
 rw[DU hA hC tA,o7,DU hB hC tB,o7,hLA,o7,hLB,o7,IB hA hB,o7]
 have hcl:=Rn hA hB
 have e0:=DW (rvS LA LB) (qF a b) []
 rw[List.nil_append]at e0
 refine aW (qF a b) (fun(acc:List X3) x=>l7 (rvS LA LB x) (acc++[x]) acc) (fun acc i=>(((evS a k c d).1,(evS b k c d).1,(evS a k c d).2,(evS b k c d).2,acc),i)) (fun acc=>((evS a k c d).1,(evS b k c d).1,(evS a k c d).2,(evS b k c d).2,acc)) (fun i acc=>acc.length≤i) [] (by omega) (by simp) (fun i x acc hx hi hI=>?_) (fun acc _=>?_) (fun _=>by rw[e0])
 ·have hg:J9 (qF a b) (toN (i:Int))=some x:=by unfold J9 toN;simpa using hx
  refine⟨?_,by cases rvS LA LB x <;> simp[l7] <;> omega⟩
  simp only[H9 hx,o6,F9,hx,o7,hg,Kz (show acc.length+[x].length≤1073741824 by simp;omega),V6 (show i≤9000000000000000000 by omega)]
  unfold rvS
  cases ieq x.2.2 2 <;> cases ieq x.2.2 1 <;> cases pz eqN LA (x.1,x.2.1) false <;> cases pz eqN LB (x.1,x.2.1) false <;> rfl
 ·simp only[H8];rfl
theorem FU:gm=some true:=by decide+kernel
def icS (i:nP):Bool:=l7 (ieq i.2.2.1 0) (l7 (ieq i.2.2.2.1 0) (E5 (U2 (ieq i.1.1 i.2.1.1) (U2 (ieq i.1.2.1 i.2.1.2.1) (ieq i.1.2.2 i.2.1.2.2)))) true) (ieq i.2.2.2.1 0)
theorem Ea (i:nP):dN i=some (icS i):=by
 unfold dN icS
 cases ieq i.2.2.1 0 <;> cases ieq i.2.2.2.1 0 <;> rfl
theorem Nl (i:nP):oz i=some (icS i):=by
 unfold oz icS
 cases ieq i.2.2.1 0 <;> cases ieq i.2.2.2.1 0 <;> rfl
theorem MX (i:nP):kL i=some true:=by
 unfold kL
 rw[Ea,o7,Nl,o7,FU]
 cases icS i <;> rfl
theorem LY (a b:J3) (c:bz):sD (a,b) c=some (smL a&&(smL b&&smC c)):=by
 unfold sD
 rw[Iq,o7,Iq,o7,QG]
 cases smL a <;> cases smL b <;> cases smC c <;> rfl
theorem a3P {l:J3} (hW:WfL l) (k:Int) (c:bz) (d:Int):qR l k c d=some true:=by
 unfold qR
 rw[LY,o7,FU]
 cases hl:smL l
 ·rfl
 cases hc:smC c
 ·rfl
 obtain⟨hL,hT⟩:=Wp hl hW
 have hC:=a3T hc
 simp only[Bool.true_and,o9,l9]
 rcases xm hL hL hC hT hT k d with⟨ho,LA,LB,_,_,h⟩ | ⟨ho,e,he,h⟩
 ·have hv:(P6 l).1=0:=by
   unfold okC at ho
   simp only[Bool.and_eq_true]at ho
   exact N7.1 ho.1
  rw[h,o7,JO hL hC hT]
  rw[Ze hv,b1F]
  show l7 (E5 (ieq (0:Int) 0)) _ (o5 (some (edS l k c d)) _)=_
  rw[F5 rfl]
  simp only[o9,l9,o7,Ea,List.filter_nil,F5 (rfl:(edS l k c d).1.1=(edS l k c d).1.1),F5 (rfl:(edS l k c d).1.2.1=(edS l k c d).1.2.1),F5 (rfl:(edS l k c d).1.2.2=(edS l k c d).1.2.2),F5 (rfl:(edS l k c d).2.2.1=(edS l k c d).2.2.1),U2,Bool.and_true,o6]
  rw[show ieq (o8 ([]:List X3)) 0=true from rfl,o6]
  rw[show icS ((edS l k c d).1,(edS l k c d).1,(edS l k c d).2.2.1,(edS l k c d).2.2.1,[])=false from by
   unfold icS
   simp only[F5 (rfl:(edS l k c d).1.1=(edS l k c d).1.1),F5 (rfl:(edS l k c d).1.2.1=(edS l k c d).1.2.1),F5 (rfl:(edS l k c d).1.2.2=(edS l k c d).1.2.2),U2,Bool.and_true,o9]
   cases ieq (edS l k c d).2.2.1 0 <;> rfl]
  rfl
 ·rw[h,o7,D8 he]
  rfl
theorem XC {α:Type} [DecidableEq α]:∀{l m:List α},l.Nodup→(∀x∈l,x∈m)→l.length≤m.length
 | [],m,_,_=>by simp
 | a::l,m,hn,hs=>by
  rw[List.nodup_cons]at hn
  have ha:=hs a (by simp)
  have:=XC (l:=l) (m:=m.erase a) hn.2 fun x hx=>(List.mem_erase_of_ne (fun(e:x=a)=>hn.1 (by rw[←e];exact hx))).2 (hs x (by simp[hx]))
  rw[List.length_erase_of_mem ha]at this
  have hp:0<m.length:=List.length_pos_of_mem ha
  rw[List.length_cons];omega
def swC (x:X3):X3:=(x.1,x.2.1,l7 (ieq x.2.2 1) 2 (l7 (ieq x.2.2 2) 1 x.2.2))
theorem YO {x:X3} :swC (swC x)=x:=by
 obtain⟨s,r,n⟩:=x
 unfold swC
 by_cases h1:n=1
 ·subst h1;rfl
 by_cases h2:n=2
 ·subst h2;rfl
 simp only[D8 h1,D8 h2,l9]
theorem a5S {a b:J3} (hA:(P6 a).1=0) {x:X3} :(x∈a.2.2.flatMap fun s=>s.2.2.2.2.flatMap (uS b s))↔
  ∃s r,cpR a x.1 x.2.1=some (s,r)∧((cpR b x.1 x.2.1=none∧x.2.2=1)∨∃t q,cpR b x.1 x.2.1=some (t,q)∧srS s r t q=false∧x.2.2=3):=by
 simp only[List.mem_flatMap]
 constructor
 ·rintro⟨s,hs,r,hr,hx⟩
  have hown:=IR hA hs hr
  unfold uS at hx
  cases hb:cpR b s.1 r.1 with
  | none=>
   rw[hb]at hx
   simp only[List.mem_singleton]at hx
   subst hx
   exact⟨s,r,hown,.inl ⟨hb,rfl⟩⟩
  | some y=>
   obtain⟨t,q⟩:=y
   rw[hb]at hx
   simp only at hx
   cases hq:srS s r t q <;> rw[hq]at hx
   ·simp only[l9,List.mem_singleton]at hx
    subst hx
    exact⟨s,r,hown,.inr ⟨t,q,hb,hq,rfl⟩⟩
   ·cases hx
 ·rintro⟨s,r,h1,h2⟩
  obtain⟨m1,m2,m3,m4⟩:=Xl h1
  refine⟨s,m1,r,m2,?_⟩
  unfold uS
  rw[m3,m4]
  rcases h2 with⟨h2,h3⟩ | ⟨t,q,h2,h3,h4⟩
  ·rw[h2]
   simp only[List.mem_singleton]
   exact Prod.ext rfl (Prod.ext rfl h3)
  ·rw[h2]
   simp only
   rw[h3,l9,List.mem_singleton]
   exact Prod.ext rfl (Prod.ext rfl h4)
theorem a5Q {a b:J3} (hB:(P6 b).1=0) {x:X3} :(x∈b.2.2.flatMap fun s=>s.2.2.2.2.flatMap (wX a s))↔∃s r,cpR b x.1 x.2.1=some (s,r)∧cpR a x.1 x.2.1=none∧x.2.2=2:=by
 simp only[List.mem_flatMap]
 constructor
 ·rintro⟨s,hs,r,hr,hx⟩
  have hown:=IR hB hs hr
  unfold wX at hx
  cases hb:cpR a s.1 r.1 with
  | none=>
   rw[hb]at hx
   simp only[List.mem_singleton]at hx
   subst hx
   exact⟨s,r,hown,hb,rfl⟩
  | some y=>rw[hb]at hx;cases hx
 ·rintro⟨s,r,h1,h2,h3⟩
  obtain⟨m1,m2,m3,m4⟩:=Xl h1
  refine⟨s,m1,r,m2,?_⟩
  unfold wX
  rw[m3,m4,h2]
  simp only[List.mem_singleton]
  exact Prod.ext rfl (Prod.ext rfl h3)
theorem Vu {a b:J3} (hA:(P6 a).1=0) (hB:(P6 b).1=0) {x:X3} :x∈qF a b↔
  (∃s r,cpR a x.1 x.2.1=some (s,r)∧((cpR b x.1 x.2.1=none∧x.2.2=1)∨∃t q,cpR b x.1 x.2.1=some (t,q)∧srS s r t q=false∧x.2.2=3))∨
  (∃s r,cpR b x.1 x.2.1=some (s,r)∧cpR a x.1 x.2.1=none∧x.2.2=2):=by
 unfold qF
 rw[List.mem_append,a5S hA,a5Q hB]
theorem a5x {a b:J3} (hA:(P6 a).1=0) (hB:(P6 b).1=0) {x:X3} (h:x∈qF a b):swC x∈qF b a:=by
 rw[Vu hB hA]
 rcases(Vu hA hB).1 h with⟨s,r,h1,⟨h2,h3⟩ | ⟨t,q,h2,h3,h4⟩⟩ | ⟨s,r,h1,h2,h3⟩
 ·right
  exact⟨s,r,h1,h2,by unfold swC;rw[h3];rfl⟩
 ·left
  exact⟨t,q,h2,.inr ⟨s,r,h1,by rw[a4B];exact h3,by unfold swC;rw[h4];rfl⟩⟩
 ·left
  exact⟨s,r,h1,.inl ⟨h2,by unfold swC;rw[h3];rfl⟩⟩
theorem Ey {α β:Type} {f:α→β} {l:List α} (h:∀(i:Nat) a,l[i]? =some a→∀b∈l.take i,f b≠f a):l.Pairwise fun a b=>f a≠f b:=by
 rw[List.pairwise_iff_getElem]
 intro i j hi hj hij
 refine h j l[j] (aQ hj) l[i] ?_
 rw[List.mem_take_iff_getElem]
 exact⟨i,by omega,rfl⟩
theorem Gq {b:J3} {s:A8} {r:N9} {x:X3} (h:x∈uS b s r):x.1=s.1∧x.2.1=r.1∧x.2.2≠2:=by
 unfold uS at h
 split at h
 ·simp only[List.mem_singleton]at h;subst h;exact⟨rfl,rfl,(by decide:(1:Int)≠2)⟩
 ·rename_i y _
  cases hq:srS s r y.1 y.2 <;> rw[hq]at h
  ·simp only[l9,List.mem_singleton]at h;subst h;exact⟨rfl,rfl,(by decide:(3:Int)≠2)⟩
  ·cases h
theorem Fh {a:J3} {s:A8} {r:N9} {x:X3} (h:x∈wX a s r):x.1=s.1∧x.2.1=r.1∧x.2.2=2:=by
 unfold wX at h
 split at h
 ·simp only[List.mem_singleton]at h;subst h;exact⟨rfl,rfl,rfl⟩
 ·cases h
theorem ZP {α:Type} {l:List α} (h:l.length≤1):l.Pairwise fun a b=>a≠b:=by
 cases l with
 | nil=>exact List.Pairwise.nil
 | cons x r=>
  cases r with
  | nil=>simp
  | cons y r=>simp at h
theorem a1b {a b:J3} (hA:(P6 a).1=0) (hB:(P6 b).1=0):(qF a b).Nodup:=by
 have part:∀{l:J3} (hv:(P6 l).1=0) (g:A8→N9→List X3),(∀s r,(g s r).length≤1)→(∀s r x,x∈g s r→x.1=s.1∧x.2.1=r.1)→(l.2.2.flatMap fun s=>s.2.2.2.2.flatMap (g s)).Pairwise fun a b=>a≠b:=by
  intro l hv g h1 h2
  rw[List.pairwise_flatMap]
  constructor
  ·intro s hs
   rw[List.pairwise_flatMap]
   refine⟨fun r hr=>ZP (h1 s r),?_⟩
   refine(Ey (f:=fun r:N9=>r.1) fun i r hr q hq=>EW hv hs hr q hq).imp fun {r q} hne x hx y hy e=>?_
   subst e
   exact hne ((h2 s r x hx).2.symm.trans (h2 s q x hy).2)
  ·refine(Ey (f:=fun s:A8=>s.1) fun i s hs t ht=>EX hv hs t ht).imp fun {s t} hne x hx y hy e=>?_
   subst e
   simp only[List.mem_flatMap]at hx hy
   obtain⟨r,_,hr⟩:=hx
   obtain⟨q,_,hq⟩:=hy
   exact hne ((h2 s r x hr).1.symm.trans (h2 t q x hq).1)
 unfold qF
 rw[List.nodup_append]
 refine⟨part hA (uS b) (fun s r=>Ac b s r) fun s r x hx=>⟨(Gq hx).1,(Gq hx).2.1⟩,part hB (wX a) (fun s r=>DC a s r) fun s r x hx=>⟨(Fh hx).1,(Fh hx).2.1⟩,?_⟩
 intro x hx y hy e
 subst e
 simp only[List.mem_flatMap]at hx hy
 obtain⟨s,_,r,_,hr⟩:=hx
 obtain⟨t,_,q,_,hq⟩:=hy
 exact(Gq hr).2.2 (Fh hq).2.2
theorem a6n (LA LB:Jg) {x:X3} (h:x.2.2=1∨x.2.2=2∨x.2.2=3):rvS LB LA (swC x)=rvS LA LB x:=by
 obtain⟨s,r,n⟩:=x
 simp only at h
 unfold rvS swC
 rcases h with rfl | rfl | rfl
 ·cases pz eqN LA (s,r) false <;> rfl
 ·cases pz eqN LB (s,r) false <;> rfl
 ·show l7 _ (l7 (pz eqN LB (s,r) false) true (pz eqN LA (s,r) false)) _=l7 _ (l7 (pz eqN LA (s,r) false) true (pz eqN LB (s,r) false)) _
  cases pz eqN LA (s,r) false <;> cases pz eqN LB (s,r) false <;> rfl
theorem a5w {a b:J3} (hA:(P6 a).1=0) (hB:(P6 b).1=0) {x:X3} (h:x∈qF a b):x.2.2=1∨x.2.2=2∨x.2.2=3:=by
 rcases(Vu hA hB).1 h with⟨s,r,h1,⟨h2,h3⟩ | ⟨t,q,h2,h3,h4⟩⟩ | ⟨s,r,h1,h2,h3⟩
 ·exact .inl h3
 ·exact .inr (.inr h4)
 ·exact .inr (.inl h3)
theorem LP {a b:J3} (hA:(P6 a).1=0) (hB:(P6 b).1=0) (LA LB:Jg) {x:X3} (h:x∈(qF a b).filter (rvS LA LB)):swC x∈(qF b a).filter (rvS LB LA):=by
 rw[List.mem_filter]at h ⊢
 exact⟨a5x hA hB h.1,by rw[a6n LA LB (a5w hA hB h.1)];exact h.2⟩
theorem ZC {α β:Type} {f:α→β} (hf:∀x y,f x=f y→x=y) {l:List α} (h:l.Nodup):(l.map f).Nodup:=by
 unfold List.Nodup at h ⊢
 rw[List.pairwise_map]
 exact h.imp fun {x y} hne e=>hne (hf x y e)
theorem TZ {a b:J3} (hA:(P6 a).1=0) (hB:(P6 b).1=0) (LA LB:Jg):((qF a b).filter (rvS LA LB)).length≤((qF b a).filter (rvS LB LA)).length:=by
 have h1:(((qF a b).filter (rvS LA LB)).map swC).Nodup:=ZC (fun x y e=>by rw[←YO (x:=x),←YO (x:=y),e]) ((a1b hA hB).filter _)
 have:=XC h1 (m:=(qF b a).filter (rvS LB LA)) fun y hy=>by
  obtain⟨x,hx,rfl⟩:=List.mem_map.1 hy
  exact LP hA hB LA LB hx
 rwa[List.length_map]at this
theorem a1B (x:Int):ieq x x=true:=F5 rfl
theorem Ui (x:List UInt8):seq x x=true:=dJ.2 rfl
theorem a1u (x:X3):∀(l:List X3) (f:Bool),(f=true∨∃y∈l,y.1=x.1∧y.2.1=x.2.1)→l.foldl (fun(f:Bool) y=>l7 f true (l7 (seq x.1 y.1) (seq x.2.1 y.2.1) false)) f=true
 | [],f,h=>by
  rcases h with h | ⟨y,hy,_⟩
  ·exact h
  ·cases hy
 | y::l,f,h=>by
  rw[List.foldl_cons]
  refine a1u x l _ ?_
  cases f
  ·rcases h with h | ⟨z,hz,h1,h2⟩
   ·cases h
   ·rcases List.mem_cons.1 hz with rfl | hz
    ·left
     rw[l9,h1,h2,Ui,Ui];rfl
    ·exact .inr ⟨z,hz,h1,h2⟩
  ·exact .inl rfl
theorem a1t:∀(l:List X3),ay (fun(_:Unit) (_:X3)=>(.inl ():Unit⊕Bool)) l ()= .inl ()
 | []=>rfl
 | _::r=>a1t r
theorem a6P {a b:J3} (wA:WfL a) (wB:WfL b) (k:Int) (c:bz) (d:Int):kM (a,b) k c d=some true:=by
 unfold kM
 rw[LY,o7,FU]
 cases hl:smL a
 ·rfl
 cases hm:smL b
 ·rfl
 cases hc:smC c
 ·rfl
 obtain⟨hA,tA⟩:=Wp hl wA
 obtain⟨hB,tB⟩:=Wp hm wB
 have hC:=a3T hc
 simp only[Bool.true_and,o9,l9]
 rcases xm hA hB hC tA tB k d with⟨ho,LA,LB,rA,rB,h⟩ | ⟨ho,e,he,h⟩
 ·rcases xm hB hA hC tB tA k d with⟨ho2,LB',LA',rB',rA',h2⟩ | ⟨ho2,e,he,h2⟩
  case inr=>rw[Tq a b k d ho]at ho2;cases ho2
  rw[rA]at rA';cases rA'
  rw[rB]at rB';cases rB'
  have hvv:(P6 a).1=0∧(P6 b).1=0:=by
   unfold okC at ho
   simp only[Bool.and_eq_true]at ho
   exact⟨N7.1 ho.1,N7.1 ho.2.1⟩
  have hle:=Nat.le_antisymm (TZ hvv.1 hvv.2 LA LB) (TZ hvv.2 hvv.1 LB LA)
  have hsw:∀x∈(qF a b).filter (rvS LA LB),swC x∈(qF b a).filter (rvS LB LA):=fun x hx=>LP hvv.1 hvv.2 LA LB hx
  have hcl:=Nat.le_trans (List.length_filter_le (rvS LA LB) (qF a b)) (Rn hA hB)
  rw[h,o7,h2,o7]
  generalize (qF a b).filter (rvS LA LB)=R1 at*
  generalize (qF b a).filter (rvS LB LA)=R2 at*
  generalize evS a k c d=va
  generalize evS b k c d=vb
  simp only[a1B,o9,l9,o7,D7,U2,Bool.and_true]
  rw[show ieq (o8 R1) (o8 R2)=true from F5 (by simp[o8,hle])]
  simp only[o9,l9,o7,D7]
  refine fJ R1 (fun(_:Unit) (_:X3)=>(.inl ():Unit⊕Bool)) (fun _ i=>i) (fun _=>PUnit.unit) (fun _ _=>True) () (by omega) trivial (fun i x _ hx hi _=>⟨?_,fun _ _=>trivial⟩) (fun _ _=>?_) (fun _=>?_)
  ·have hin:=hsw x (fO hx)
   have hff:=a1u x R2 false (.inr ⟨swC x,hin,rfl,rfl⟩)
   simp only[H9 hx,o6,F9,hx,o7]
   refine aW R2 (fun(f:Bool) y=>l7 f true (l7 (seq x.1 y.1) (seq x.2.1 y.2.1) false)) (fun f i=>(f,i)) (fun f=>f) (fun _ _=>True) false (by omega) trivial (fun j y f hy hj _=>⟨?_,trivial⟩) (fun f _=>?_) (fun _=>?_)
   ·simp only[H9 hy,o6,F9,hy,o7,V6 (show j≤9000000000000000000 by omega)]
    cases f
    ·simp only[l9]
     cases seq x.1 y.1 <;> rfl
    ·rfl
   ·simp only[H8];rfl
   ·rw[hff,o9,l9,V6 (show i≤9000000000000000000 by omega)]
  ·simp only[H8];rfl
  ·rw[show ay (fun(_:Unit) (_:X3)=>(.inl ():Unit⊕Bool)) R1 ()= .inl ()from by
    exact a1t R1]
   rfl
 ·rcases xm hB hA hC tB tA k d with⟨ho2,_⟩ | ⟨ho2,e2,he2,h2⟩
  ·rw[Tq b a k d ho2]at ho;cases ho
  rw[h,o7,h2,o7,D8 he,D8 he2]
  rfl
end Go.GP
namespace Go.GP
open Gt
theorem zS:∀x,EY Gt.ps3 x→(Gt.s3.fn x:Option Bool)=some true:=fun x _=>MX x
theorem IJ:∀x,EY Gt.ps5 x→(Gt.s5.fn x:Option Bool)=some true:=fun x h=>a3P (a4T h.1) x.2.1 x.2.2.1 x.2.2.2
theorem zT:∀x,EY Gt.ps6 x→(Gt.s6.fn x:Option Bool)=some true:=fun x h=>a6P (a4T h.1.1) (a4T h.1.2) x.2.1 x.2.2.1 x.2.2.2
end Go.GP
