import Derived.Test.YtamfjfpncfkggaaGreatDoorT4
set_option linter.all false
namespace Go.GP
open Gt
set_option maxRecDepth 100000
theorem wS {m:Int} (h:eY m=true):m=0∨m=1∨m=2∨m=3∨m=4∨m=5:=by
 unfold eY at h
 cases h0:ile 0 m <;> rw[h0]at h
 ·cases h
 ·simp only[o5]at h;rw[iI]at h0 h;omega
theorem xg {n d mode:Int} (h1:-9000000000000000000≤n / d) (h2:n / d≤9000000000000000000) (hd:0<d) (hd2:d≤9000000000000000000) (hm:eY mode=true):c6J (n / d) (n % d) d mode=some (rnd n d mode):=by
 have hdm:=Int.ediv_mul_add_emod n d
 have f0:=Int.emod_nonneg n (show d≠0 by omega)
 have f1:=Int.emod_lt_of_pos n hd
 have hid:J8 d=d:=by unfold J8;rw[if_neg (by omega)]
 have hneg:E5 (bZ (ilt n 0) (ilt d 0))=ilt n 0:=by rw[D9 (show(0:Int)≤d by omega)];cases ilt n 0 <;> rfl
 unfold rnd
 rw[hid,hneg]
 have R0:∀F R:Int,c6J F R d 0=l7 (ieq R 0) (some F) (some F):=fun F R=>rfl
 have R1:∀F R:Int,c6J F R d 1=l7 (ieq R 0) (some F) (some (A7 .i64 F 1)):=fun F R=>rfl
 have R2:∀F R:Int,c6J F R d 2=l7 (ieq R 0) (some F) (o6 (l7 (ilt F 0) (some true) (some false)) fun x=>l7 x (some (A7 .i64 F 1)) (some F)):=fun F R=>rfl
 have R3:∀F R:Int,c6J F R d 3=l7 (ieq R 0) (some F) (o6 (some (ile 0 F)) fun x=>l7 x (some (A7 .i64 F 1)) (some F)):=fun F R=>rfl
 have R4:∀F R:Int,c6J F R d 4=l7 (ieq R 0) (some F) (l7 (ieq R (G8 .i64 d R)) (l7 (ile 0 F) (some (A7 .i64 F 1)) (some F)) (l7 (ilt (G8 .i64 d R) R) (some (A7 .i64 F 1)) (some F))):=fun F R=>rfl
 have R5:∀F R:Int,c6J F R d 5=l7 (ieq R 0) (some F) (l7 (ieq R (G8 .i64 d R)) (l7 (E5 (ieq (dV F 2) 0)) (some (A7 .i64 F 1)) (some F)) (l7 (ilt (G8 .i64 d R) R) (some (A7 .i64 F 1)) (some F))):=fun F R=>rfl
 have u0:∀q r:Int,∀b,upS q r d b 0=l7 (ieq r 0) false b:=fun q r b=>rfl
 have u1:∀q r:Int,∀b,upS q r d b 1=l7 (ieq r 0) false (E5 b):=fun q r b=>rfl
 have u2:∀q r:Int,∀b,upS q r d b 2=l7 (ieq r 0) false false:=fun q r b=>rfl
 have u3:∀q r:Int,∀b,upS q r d b 3=l7 (ieq r 0) false true:=fun q r b=>rfl
 have u4:∀q r:Int,∀b,upS q r d b 4=l7 (ieq r 0) false (ile (d -r) r):=fun q r b=>rfl
 have u5:∀q r:Int,∀b,upS q r d b 5=l7 (ieq r 0) false (l7 (ilt (d -r) r) true (l7 (ieq r (d -r)) (ieq (dV q 2) 1) false)):=fun q r b=>rfl
 by_cases h0:0≤n
 ·have e0:=Int.ediv_nonneg h0 (show 0≤d by omega)
  have e1:=Int.ediv_le_self d h0
  rw[show J8 n=n by unfold J8;rw[if_neg (by omega)],D9 h0]
  have hi:A7 .i64 (n / d) 1=n / d+1:=J5 (by unfold I64;omega)
  have hs:G8 .i64 d (n % d)=d -n % d:=H8 (by unfold I64;omega)
  have hir:dV (n / d) 2=(n / d) % 2:=oJ e0
  generalize n / d=F at*
  generalize n % d=R at*
  rcases wS hm with rfl | rfl | rfl | rfl | rfl | rfl
  ·rw[R0,u0];cases ieq R 0 <;> rfl
  ·rw[R1,u1,hi];cases ieq R 0 <;> rfl
  ·rw[R2,u2,hi,D9 e0];cases ieq R 0 <;> rfl
  ·rw[R3,u3,hi,F7 e0];cases ieq R 0 <;> rfl
  ·rw[R4,u4,hi,hs,F7 e0]
   cases ieq R 0
   case true=>rfl
   by_cases ht:R=d -R
   ·rw[E9 ht,F7 (show d -R≤R by omega)];rfl
   ·rw[D8 ht]
    by_cases hl:d -R<R
    ·rw[E8 hl,F7 (show d -R≤R by omega)];rfl
    ·rw[D9 (show R≤d -R by omega),F9 (show R<d -R by omega)];rfl
  ·rw[R5,u5,hi,hs,hir]
   cases ieq R 0
   case true=>rfl
   by_cases ht:R=d -R
   ·rw[E9 ht,D9 (show R≤d -R by omega)]
    by_cases hp:F % 2=0
    ·rw[E9 hp,D8 (show F % 2≠1 by omega)];rfl
    ·rw[D8 hp,E9 (show F % 2=1 by omega)];rfl
   ·rw[D8 ht]
    by_cases hl:d -R<R
    ·rw[E8 hl];rfl
    ·rw[D9 (show R≤d -R by omega)];rfl
 ·obtain⟨m,hmm⟩:∃m,m=-n:=⟨_,rfl⟩
  have e0:=Int.ediv_nonneg (show 0≤m by omega) (show 0≤d by omega)
  have e1:=Int.ediv_le_self d (show 0≤m by omega)
  have e2:=Int.emod_nonneg m (show d≠0 by omega)
  have e3:=Int.emod_lt_of_pos m hd
  have hdm2:=Int.ediv_mul_add_emod m d
  rw[show J8 n=m by unfold J8;rw[if_pos (by omega)];omega,E8 (by omega)]
  by_cases hz:m % d=0
  ·have hne:n=0+(-(m / d))*d:=by rw[Int.neg_mul];omega
   have q1:n / d=-(m / d):=by rw[hne,Int.add_mul_ediv_right _ _ (by omega)];simp
   have q2:n % d=0:=by rw[hne,Int.add_mul_emod_self_right];simp
   rw[q1,q2,hz]
   rcases wS hm with rfl | rfl | rfl | rfl | rfl | rfl <;> rfl
  ·have hne:n=(d -m % d)+(-(m / d) -1)*d:=by rw[Int.sub_mul,Int.neg_mul,Int.one_mul];omega
   have q1:n / d=-(m / d) -1:=by
    rw[hne,Int.add_mul_ediv_right _ _ (by omega),Int.ediv_eq_zero_of_lt (by omega) (by omega)];omega
   have q2:n % d=d -m % d:=by
    rw[hne,Int.add_mul_emod_self_right,Int.emod_eq_of_lt (by omega) (by omega)]
   rw[q1]at h1 h2
   rw[q1,q2]
   generalize m / d=q at*
   generalize m % d=r at*
   have hi:A7 .i64 (-q -1) 1=-q:=by rw[J5 (by unfold I64;omega)];omega
   have hs:G8 .i64 d (d -r)=r:=by rw[H8 (by unfold I64;omega)];omega
   have hF:∀k:Int,Go.GP.q1 q false=q∧Go.GP.q1 q true=q+1:=fun k=>⟨rfl,rfl⟩
   have sg1:sg (Go.GP.q1 q true) true=-q -1:=by show -(q+1)=-q -1;omega
   have sg0:sg (Go.GP.q1 q false) true=-q:=rfl
   have hr0:ieq (d -r) 0=false:=D8 (by omega)
   have hr1:ieq r 0=false:=D8 hz
   rcases wS hm with rfl | rfl | rfl | rfl | rfl | rfl
   ·rw[R0,u0,hr0,hr1,l9,l9,sg1]
   ·rw[R1,u1,hi,hr0,hr1,l9,l9,o9,sg0]
   ·rw[R2,u2,hi,hr0,hr1,l9,l9,sg0,E8 (by omega)];rfl
   ·rw[R3,u3,hi,hr0,hr1,l9,l9,sg1,F9 (by omega)];rfl
   ·rw[R4,u4,hi,hs,hr0,hr1,l9,l9,F9 (show -q -1<0 by omega)]
    by_cases ht:d -r=r
    ·rw[E9 ht,F7 (show d -r≤r by omega),sg1];rfl
    ·rw[D8 ht]
     by_cases hl:r<d -r
     ·rw[E8 hl,F9 hl,sg0];rfl
     ·rw[D9 (show d -r≤r by omega),F7 (show d -r≤r by omega),sg1];rfl
   ·rw[R5,u5,hi,hs,hr0,hr1,l9,l9]
    by_cases ht:d -r=r
    ·rw[E9 ht,D9 (show r≤d -r by omega),E9 ht.symm]
     have hodd:dV (-q -1) 2=-((q+1) % 2):=by
      unfold dV
      rw[show -q -1=-(q+1) by omega,Int.neg_tmod,Int.tmod_eq_emod_of_nonneg (by omega)]
     have hir:dV q 2=q % 2:=oJ e0
     rw[hodd,hir]
     simp only[o5,l9]
     by_cases hp:q % 2=1
     ·rw[E9 (show -((q+1) % 2)=0 by omega),E9 hp,sg1];rfl
     ·rw[D8 (show -((q+1) % 2)≠0 by omega),D8 hp,sg0];rfl
    ·rw[D8 ht,D8 (show r≠d -r by omega)]
     by_cases hl:r<d -r
     ·rw[E8 hl,D9 (show r≤d -r by omega)]
      simp only[o5,l9];rw[sg0]
     ·rw[D9 (show d -r≤r by omega),E8 (show d -r<r by omega)]
      simp only[o5,l9];rw[sg1]
def a0B (a b mode:Int):Int×Int:=l7 (eY mode) (l7 (bQ a 1000000000) (0,3) (l7 (bQ b 1000000000) (0,3) (l7 (bQ (rnd (a*b) 1000000 mode) 1000000000) (0,3) (rnd (a*b) 1000000 mode,0)))) (0,1)
theorem a0h {a b A B:Int} (h1:-A≤a∧a≤A) (h2:-B≤b∧b≤B):-(A*B)≤a*b∧a*b≤A*B:=by
 have hA:0≤A:=by omega
 have hB:0≤B:=by omega
 have k1:a*b≤A*B∧-(A*B)≤a*b:=by
  rcases Dn a 0 with ha | ha
  ·have e:a*b=-((-a)*b):=by rw[Int.neg_mul];omega
   rcases Dn b 0 with hb | hb
   ·have e2:a*b=(-a)*(-b):=by rw[Int.neg_mul_neg]
    have:=Int.mul_le_mul (show -a≤A by omega) (show -b≤B by omega) (by omega) hA
    have:=Int.mul_nonneg (show 0≤-a by omega) (show 0≤-b by omega)
    have:=Int.mul_nonneg hA hB
    omega
   ·have:=Int.mul_le_mul (show -a≤A by omega) h2.2 hb hA
    have:=Int.mul_nonneg (show 0≤-a by omega) hb
    have:=Int.mul_nonneg hA hB
    omega
  ·rcases Dn b 0 with hb | hb
   ·have e:a*b=-(a*(-b)):=by rw[Int.mul_neg];omega
    have:=Int.mul_le_mul h1.2 (show -b≤B by omega) (by omega) hA
    have:=Int.mul_nonneg ha (show 0≤-b by omega)
    have:=Int.mul_nonneg hA hB
    omega
   ·have:=Int.mul_le_mul h1.2 h2.2 hb hA
    have:=Int.mul_nonneg ha hb
    have:=Int.mul_nonneg hA hB
    omega
 exact⟨k1.2,k1.1⟩
theorem a8D (a b mode:Int):Bh a b mode=some (a0B a b mode):=by
 unfold Bh a0B
 rw[JC,o7]
 cases hm:eY mode
 ·rfl
 simp only[o9,l9,o5]
 rw[oM a (by omega) (by omega),o7]
 cases h1:bQ a 1000000000
 case true=>rfl
 simp only[l9]
 rw[oM b (by omega) (by omega),o7]
 cases h2:bQ b 1000000000
 case true=>rfl
 simp only[l9]
 have pb:=a0h (gz h1) (gz h2)
 rw[dI (by unfold I64;omega),wK,o7]
 unfold Xl
 rw[hm,D8 (show(1000000:Int)≠0 by decide),Cc (by omega),Cc (by omega)]
 simp only[o5,l9,E9 (rfl:(0:Int)=0),o9]
 rw[oM _ (by omega) (by omega),o7]
 cases bQ (rnd (a*b) 1000000 mode) 1000000000 <;> rfl
theorem VA {m:Int} {A B:Option (PUnit⊕(Int×Int))} :l7 (ilt m 0) A (l7 (ilt 5 m) A B)=l7 (eY m) B A:=by
 unfold eY
 rw[jb m 0,jb 5 m]
 cases ile 0 m <;> cases ile m 5 <;> rfl
theorem a5i (a b mode:Int):c7P a b mode=some (a0B a b mode):=by
 unfold c7P a0B
 have hmode:∀A B:Option (Int×Int),l7 (ilt mode 0) A (l7 (ilt 5 mode) A B)=l7 (eY mode) B A:=fun A B=>by
  unfold eY
  rw[jb mode 0,jb 5 mode]
  cases ile 0 mode <;> cases ile mode 5 <;> rfl
 rw[hmode]
 cases hm:eY mode
 ·rfl
 simp only[o5]
 rw[mO a (by omega) (by omega),o7]
 cases h1:bQ a 1000000000
 case true=>rfl
 simp only[l9]
 rw[mO b (by omega) (by omega),o7]
 cases h2:bQ b 1000000000
 case true=>rfl
 simp only[l9]
 have pb:=a0h (gz h1) (gz h2)
 rw[dI (by unfold I64;omega),UQ (by omega) (by omega) (by omega) (by omega),o7]
 simp only
 rw[xg (by omega) (by omega) (by omega) (by omega) hm,o7,mO _ (by omega) (by omega),o7]
 cases bQ (rnd (a*b) 1000000 mode) 1000000000 <;> rfl
theorem Yl {n d:Int} (mode:Int) (hd:0<d):n / d≤rnd n d mode∧rnd n d mode≤n / d+1:=by
 have hid:J8 d=d:=by unfold J8;rw[if_neg (by omega)]
 have hneg:E5 (bZ (ilt n 0) (ilt d 0))=ilt n 0:=by rw[D9 (show(0:Int)≤d by omega)];cases ilt n 0 <;> rfl
 unfold rnd
 rw[hid,hneg]
 by_cases h0:0≤n
 ·rw[show J8 n=n by unfold J8;rw[if_neg (by omega)],D9 h0]
  exact Oc _ _
 ·obtain⟨m,hmm⟩:∃m,m=-n:=⟨_,rfl⟩
  have e2:=Int.emod_nonneg m (show d≠0 by omega)
  have e3:=Int.emod_lt_of_pos m hd
  have hdm2:=Int.ediv_mul_add_emod m d
  rw[show J8 n=m by unfold J8;rw[if_pos (by omega)];omega,E8 (by omega)]
  have hq:=Oc (m / d) (upS (m / d) (m % d) d true mode)
  by_cases hz:m % d=0
  ·have hne:n=0+(-(m / d))*d:=by rw[Int.neg_mul];omega
   have q1:n / d=-(m / d):=by rw[hne,Int.add_mul_ediv_right _ _ (by omega)];simp
   have hu:upS (m / d) (m % d) d true mode=false:=by unfold upS;rw[E9 hz];rfl
   rw[q1,hu]
   show -(m / d)≤-(m / d)∧-(m / d)≤-(m / d)+1
   omega
  ·have hne:n=(d -m % d)+(-(m / d) -1)*d:=by rw[Int.sub_mul,Int.neg_mul,Int.one_mul];omega
   have q1:n / d=-(m / d) -1:=by
    rw[hne,Int.add_mul_ediv_right _ _ (by omega),Int.ediv_eq_zero_of_lt (by omega) (by omega)];omega
   rw[q1]
   show -(m / d) -1≤-(Go.GP.q1 _ _)∧-(Go.GP.q1 _ _)≤_
   omega
theorem a8E (n d mode:Int) (hd:d<0):rnd n d mode=rnd (-n) (-d) mode:=by
 have e1:J8 (-n)=J8 n:=by unfold J8;split <;> split <;> omega
 have e2:J8 (-d)=J8 d:=by unfold J8;rw[if_neg (by omega),if_pos hd]
 unfold rnd
 rw[e1,e2,E8 hd,D9 (show 0≤-d by omega)]
 by_cases h0:n=0
 ·subst h0
  have hz:J8 0=0:=rfl
  rw[hz,Int.zero_ediv,Int.zero_emod]
  have hu:∀b,upS 0 0 (J8 d) b mode=false:=fun b=>rfl
  rw[hu,hu];rfl
 ·by_cases h1:n<0
  ·rw[E8 h1,D9 (show 0≤-n by omega)];rfl
  ·rw[D9 (by omega),E8 (show -n<0 by omega)];rfl
def a8u (num den mode:Int):Int×Int:=l7 (eY mode) (l7 (ieq den 0) (0,12) (l7 (bQ num 1000000000000000) (0,3) (l7 (bQ den 1000000000000000) (0,3) (l7 (bQ (rnd (num*1000000) den mode) 1000000000) (0,3) (rnd (num*1000000) den mode,0))))) (0,1)
theorem Fh {n:Int} (h:-9000000000000000000≤n) (h2:n≤9000000000000000000):wrap .u64 (gV n (G8 .i64 0 n))=J8 n:=by
 rw[H8 (by unfold I64;omega)]
 unfold gV J8
 by_cases h0:n<0
 ·rw[if_pos (by omega),if_pos h0,show(0:Int) -n=-n by omega]
  exact um (by omega) (by omega)
 ·rw[if_neg h0]
  by_cases hz:n=0
  ·subst hz;rfl
  ·rw[if_neg (by omega)];exact um (by omega) (by omega)
theorem RY (num den mode:Int):mP num den mode=some (a8u num den mode):=by
 unfold mP a8u
 rw[JC,o7]
 cases hm:eY mode
 ·rfl
 simp only[o9,l9,o5]
 cases hd:ieq den 0
 case true=>rfl
 rw[lG]at hd
 simp only[l9]
 rw[oM num (by omega) (by omega),o7]
 cases h1:bQ num 1000000000000000
 case true=>rfl
 simp only[l9]
 rw[oM den (by omega) (by omega),o7]
 cases h2:bQ den 1000000000000000
 case true=>rfl
 simp only[l9]
 have b1:=gz h1;have b2:=gz h2
 have a1:=dB num;have a2:=nR b1;have d1:=AL hd;have d2:=nR b2
 rw[Fh (by omega) (by omega),Fh (by omega) (by omega),FI a1 (by omega) (by omega) (by omega),o7]
 have hN:J8 (num*1000000)=J8 num*1000000:=by unfold J8;split <;> split <;> omega
 have hsgn:ilt (num*1000000) 0=ilt num 0:=by
  by_cases h:num<0
  ·rw[E8 h,E8 (by omega)]
  ·rw[D9 (by omega),D9 (by omega)]
 have hA:0≤J8 num*1000000:=by omega
 have hrn:rnd (num*1000000) den mode=sg (q1 (J8 num*1000000 / J8 den) (upS (J8 num*1000000 / J8 den) (J8 num*1000000 % J8 den) (J8 den) (E5 (bZ (ilt num 0) (ilt den 0))) mode)) (E5 (bZ (ilt num 0) (ilt den 0))):=by
  unfold rnd;rw[hN,hsgn]
 rw[hrn]
 have hA2:J8 num*1000000<18446744073709551616*1000:=by omega
 generalize J8 num*1000000=A at*
 generalize J8 den=b at*
 generalize E5 (bZ (ilt num 0) (ilt den 0))=neg at*
 have hre:A / 18446744073709551616*18446744073709551616+A % 18446744073709551616=A:=by omega
 have q:=Oc (A / b) (upS (A / b) (A % b) b neg mode)
 have e0:=Int.ediv_nonneg hA (show 0≤b by omega)
 have e2:=Int.emod_nonneg A (show b≠0 by omega)
 have e3:=Int.emod_lt_of_pos A d1
 rw[a3c (by omega) _ (by omega)]
 by_cases hh:b≤A / 18446744073709551616
 ·have hge:18446744073709551616≤A / b:=Int.le_ediv_of_mul_le d1 (by omega)
  rw[F7 hh,E8 (show(1000000000:Int)<q1 (A / b) (upS (A / b) (A % b) b neg mode) by omega)];rfl
 ·rw[F9 (by omega),l9,Mc (by omega) (by omega) (by omega) (by omega) (by omega),o7,hre]
  simp only
  by_cases hM:1000000000<A / b
  ·rw[E8 hM,E8 (show(1000000000:Int)<q1 (A / b) (upS (A / b) (A % b) b neg mode) by omega)];rfl
  ·have w1:wrap .i64 (A / b)=A / b:=dM (by unfold I64;omega)
   have w2:A7 .i64 (A / b) 1=A / b+1:=J5 (by unfold I64;omega)
   have w3:G8 .i64 0 (A / b+1)=-(A / b+1):=by rw[H8 (by unfold I64;omega)];omega
   have w4:G8 .i64 0 (A / b)=-(A / b):=by rw[H8 (by unfold I64;omega)];omega
   rw[D9 (by omega),l9,Wn _ _ e2 e3 (by omega),o7,w1,w2,w3,w4]
   unfold Go.GP.q1 sg
   cases upS (A / b) (A % b) b neg mode
   ·simp only[l9]
    cases ilt 1000000000 (A / b) <;> cases neg <;> rfl
   ·simp only[o5]
    cases ilt 1000000000 (A / b+1) <;> cases neg <;> rfl
theorem Og {n d mode:Int} (h1:-1000000000000000≤n) (h2:n≤1000000000000000) (hd:0<d) (hd2:d≤1000000000000000) (hm:eY mode=true):
  (o6 (c7s n d) fun(x:Int×Int)=>o6 (c6T x.1 1001) fun(x_1:Bool)=>l7 x_1 (some ((0:Int),(3:Int))) (o6 (uZ .i64 (W9 .i64 x.2 1000) d) fun(x_2:Int)=>o6 (AO (W9 .i64 x.2 1000) d) fun(x_3:Int)=>
   o6 (uZ .i64 (W9 .i64 x_3 1000) d) fun(x_4:Int)=>o6 (AO (W9 .i64 x_3 1000) d) fun(x_5:Int)=>o6 (c6J (A7 .i64 (A7 .i64 (W9 .i64 x.1 1000000) (W9 .i64 x_2 1000)) x_4) x_5 d mode) fun(x:Int)=>
    o6 (c6T x 1000000000) fun(x_6:Bool)=>l7 x_6 (some (0,3)) (some (x,0))))=some (l7 (bQ (rnd (n*1000000) d mode) 1000000000) (0,3) (rnd (n*1000000) d mode,0)):=by
 have hdm:=Int.ediv_mul_add_emod n d
 have r0:=Int.emod_nonneg n (show d≠0 by omega)
 have r1:=Int.emod_lt_of_pos n hd
 have hrb:=Yl (n:=n*1000000) mode hd
 rw[UQ (by omega) (by omega) hd (by omega),o7]
 simp only
 rw[mO _ (by omega) (by omega),o7]
 have hN:n*1000000=n % d*1000000+(n / d*1000000)*d:=by rw[Int.mul_right_comm];omega
 have hF:n*1000000 / d=n % d*1000000 / d+n / d*1000000:=by rw[hN,Int.add_mul_ediv_right _ _ (by omega)]
 have hR:n*1000000 % d=n % d*1000000 % d:=by rw[hN,Int.add_mul_emod_self_right]
 have s0:0≤n % d*1000000 / d:=Int.ediv_nonneg (by omega) (by omega)
 have s1:n % d*1000000 / d<1000000:=Int.ediv_lt_of_lt_mul hd (by omega)
 cases hb:bQ (n / d) 1001
 case true=>
  have hbb:=Xb hb
  have:bQ (rnd (n*1000000) d mode) 1000000000=true:=EQ.2 (by omega)
  rw[this];rfl
 have bb:=gz hb
 simp only[l9]
 generalize n % d=r at*
 generalize n / d=q at*
 have t1:W9 .i64 r 1000=r*1000:=dI (by unfold I64;omega)
 have e1:=Int.ediv_mul_add_emod (r*1000) d
 have e2:=Int.emod_nonneg (r*1000) (show d≠0 by omega)
 have e3:=Int.emod_lt_of_pos (r*1000) hd
 have e4:=Int.ediv_nonneg (show 0≤r*1000 by omega) (show 0≤d by omega)
 have e5:r*1000 / d<1000:=Int.ediv_lt_of_lt_mul hd (by omega)
 rw[t1,lu (by omega) (by omega) hd,o7,qm (by omega) hd,o7]
 generalize hr1:r*1000 % d=r1 at*
 generalize ha:r*1000 / d=a at*
 have t2:W9 .i64 r1 1000=r1*1000:=dI (by unfold I64;omega)
 have f1:=Int.ediv_mul_add_emod (r1*1000) d
 have f2:=Int.emod_nonneg (r1*1000) (show d≠0 by omega)
 have f3:=Int.emod_lt_of_pos (r1*1000) hd
 have f4:=Int.ediv_nonneg (show 0≤r1*1000 by omega) (show 0≤d by omega)
 have f5:r1*1000 / d<1000:=Int.ediv_lt_of_lt_mul hd (by omega)
 rw[t2,lu (by omega) (by omega) hd,o7,qm (by omega) hd,o7]
 have hr6:r*1000000=r1*1000+(a*1000)*d:=by rw[Int.mul_right_comm];omega
 have hF2:r*1000000 / d=r1*1000 / d+a*1000:=by rw[hr6,Int.add_mul_ediv_right _ _ (by omega)]
 have hR2:r*1000000 % d=r1*1000 % d:=by rw[hr6,Int.add_mul_emod_self_right]
 rw[dI (show I64 (q*1000000) by unfold I64;omega),dI (show I64 (a*1000) by unfold I64;omega),J5 (show I64 (q*1000000+a*1000) by unfold I64;omega),J5 (show I64 (q*1000000+a*1000+r1*1000 / d) by unfold I64;omega)]
 rw[show q*1000000+a*1000+r1*1000 / d=n*1000000 / d by rw[hF,hF2];omega,show r1*1000 % d=n*1000000 % d by rw[hR,hR2]]
 rw[xg (by rw[hF];omega) (by rw[hF];omega) hd (by omega) hm,o7,mO _ (by omega) (by omega),o7]
 cases bQ (rnd (n*1000000) d mode) 1000000000 <;> rfl
theorem PL (num den mode:Int):c7p num den mode=some (a8u num den mode):=by
 unfold c7p a8u
 rw[VA]
 cases hm:eY mode
 ·rfl
 simp only[o5,o7,D7]
 cases hd:ieq den 0
 case true=>rfl
 rw[lG]at hd
 simp only[l9]
 rw[mO num (by omega) (by omega),o7]
 cases h1:bQ num 1000000000000000
 case true=>rfl
 simp only[l9]
 rw[mO den (by omega) (by omega),o7]
 cases h2:bQ den 1000000000000000
 case true=>rfl
 simp only[l9]
 have b1:=gz h1;have b2:=gz h2
 by_cases hn:den<0
 ·rw[E8 hn,o5,H8 (show I64 (0 -num) by unfold I64;omega),H8 (show I64 (0 -den) by unfold I64;omega),show(0:Int) -num=-num by omega,show(0:Int) -den=-den by omega,a8E _ _ _ hn,show -(num*1000000)=-num*1000000 by rw[Int.neg_mul]]
  exact Og (by omega) (by omega) (by omega) (by omega) hm
 ·rw[D9 (by omega),l9]
  exact Og (by omega) (by omega) (by omega) (by omega) hm
def tK (len n:Int):Int×Int×Bool:=l7 (ilt 1000000000000000 (len*J8 n / 1000000)) (0,0,false) (l7 (ilt n 0) (-(len*J8 n / 1000000),-(len*J8 n % 1000000),true) (len*J8 n / 1000000,len*J8 n % 1000000,true))
theorem a7P {len n:Int} (h1:1≤len) (h2:len≤1000000000000000) (hn:I64 n):kV len n=some (tK len n):=by
 unfold I64 at hn
 have key:∀m:Int,m=J8 n→(o6 (jQ (wrap .u64 len) m) fun(x:Int×Int)=>l7 (ile 1000000 x.1) (some ((0:Int),(0:Int),false)) (o6 (dR x.1 x.2 1000000) fun(x:Int×Int)=>l7 (ilt 1000000000000000 x.1) (some (0,0,false))
   (l7 (ilt n 0) (some (G8 .i64 0 (wrap .i64 x.1),G8 .i64 0 (wrap .i64 x.2),true)) (some (wrap .i64 x.1,wrap .i64 x.2,true)))))=some (tK len n):=by
  intro m hm
  have m0:=dB n
  have m1:m≤9223372036854775808:=by rw[hm];unfold J8;split <;> omega
  rw[←hm]at m0
  rw[show wrap .u64 len=len from um (by omega) (by omega),FI (by omega) (by omega) m0 (by omega),o7]
  unfold tK
  rw[←hm]
  have hA:0≤len*m:=Int.mul_nonneg (by omega) m0
  generalize len*m=A at*
  have hre:A / 18446744073709551616*18446744073709551616+A % 18446744073709551616=A:=by omega
  simp only
  by_cases hh:1000000≤A / 18446744073709551616
  ·rw[F7 hh,E8 (show(1000000000000000:Int)<A / 1000000 by omega)];rfl
  ·rw[F9 (by omega),l9,Mc (by omega) (by omega) (by omega) (by omega) (by omega),o7,hre]
   simp only
   by_cases hM:1000000000000000<A / 1000000
   ·rw[E8 hM];rfl
   ·rw[D9 (by omega),l9,l9,show wrap .i64 (A / 1000000)=A / 1000000 from dM (by unfold I64;omega),show wrap .i64 (A % 1000000)=A % 1000000 from dM (by unfold I64;omega),H8 (by unfold I64;omega),H8 (by unfold I64;omega),
     show(0:Int) -A / 1000000=-(A / 1000000) by omega,show(0:Int) -A % 1000000=-(A % 1000000) by omega]
    cases ilt n 0 <;> rfl
 unfold kV
 by_cases h0:n<0
 ·have hk:=key (G8 .u64 0 (wrap .u64 n)) (by
   show IntKind.wrap .u64 (0 -IntKind.wrap .u64 n)=_
   unfold J8;rw[if_pos h0,oV,oV];omega)
  rw[E8 h0]at hk ⊢
  exact hk
 ·have hk:=key (wrap .u64 n) (by
   show IntKind.wrap .u64 n=_
   unfold J8;rw[if_neg h0,oV];omega)
  rw[D9 (by omega)]at hk ⊢
  exact hk
theorem a5f {len n:Int} (h1:1≤len) (h2:len≤1000000000000000) (hn:I64 n):c7q len n=some (tK len n):=by
 unfold I64 at hn
 have hm:(l7 (ilt n 0) (some (A7 .u64 (wrap .u64 (G8 .i64 0 (A7 .i64 n 1))) 1)) (some (wrap .u64 n)))=some (J8 n):=by
  by_cases h0:n<0
  ·rw[E8 h0,o5,J5 (by unfold I64;omega),H8 (by unfold I64;omega),show wrap .u64 (0 -(n+1))=-n -1 from(um (by omega) (by omega)).trans (by omega),show A7 .u64 (-n -1) 1=-n from(um (by omega) (by omega)).trans (by omega)]
   unfold J8;rw[if_pos h0]
  ·rw[D9 (by omega),l9,show wrap .u64 n=n from um (by omega) (by omega)]
   unfold J8;rw[if_neg h0]
 have m0:=dB n
 have m1:J8 n≤9223372036854775808:=by unfold J8;split <;> omega
 unfold c7q tK
 rw[hm,o7]
 generalize J8 n=m at*
 have c1:aN .u64 m 1000000=m / 1000000:=by unfold aN;rw[bu m0,um (by omega) (by omega)]
 have c2:dV m 1000000=m % 1000000:=oJ m0
 have c3:wrap .i64 (m / 1000000)=m / 1000000:=dM (by unfold I64;omega)
 have c4:wrap .i64 (m % 1000000)=m % 1000000:=dM (by unfold I64;omega)
 have c5:aN .i64 len 1000000=len / 1000000:=by rw[qN (by rw[bu (by omega)];unfold I64;omega),bu (by omega)]
 have c6:dV len 1000000=len % 1000000:=oJ (by omega)
 rw[c1,c2,c3,c4,c5,c6]
 have hmd:m=m / 1000000*1000000+m % 1000000:=by omega
 have b0:0≤m % 1000000:=by omega
 have b1:m % 1000000<1000000:=by omega
 have a0:0≤m / 1000000:=by omega
 have a1:m / 1000000≤9223372036855:=by omega
 have hA:len*m=(len*(m / 1000000)+len / 1000000*(m % 1000000))*1000000+len % 1000000*(m % 1000000):=by
  have e1:len*m=len*(m / 1000000)*1000000+len*(m % 1000000):=by
   calc len*m=len*(m / 1000000*1000000+m % 1000000):=by rw[←hmd]
    _=_:=by rw[Int.mul_add,Int.mul_assoc]
  have e2:len*(m % 1000000)=len / 1000000*(m % 1000000)*1000000+len % 1000000*(m % 1000000):=by
   calc len*(m % 1000000)=(len / 1000000*1000000+len % 1000000)*(m % 1000000):=by rw[show len / 1000000*1000000+len % 1000000=len by omega]
    _=_:=by rw[Int.add_mul,Int.mul_right_comm]
  rw[e1,e2];omega
 have l0:0≤len % 1000000*(m % 1000000):=Int.mul_nonneg (by omega) b0
 have l1:len % 1000000*(m % 1000000)≤1000000*1000000:=Int.mul_le_mul (by omega) (by omega) b0 (by omega)
 have p0:0≤len / 1000000*(m % 1000000):=Int.mul_nonneg (by omega) b0
 have p1:len / 1000000*(m % 1000000)≤1000000000*1000000:=Int.mul_le_mul (by omega) (by omega) b0 (by omega)
 have k0:0≤len*(m / 1000000):=Int.mul_nonneg (by omega) a0
 have c7:W9 .i64 (len % 1000000) (m % 1000000)=len % 1000000*(m % 1000000):=dI (by unfold I64;omega)
 have c8:W9 .i64 (len / 1000000) (m % 1000000)=len / 1000000*(m % 1000000):=dI (by unfold I64;omega)
 rw[c7,c8]
 have hdiv:len*m / 1000000=len*(m / 1000000)+len / 1000000*(m % 1000000)+len % 1000000*(m % 1000000) / 1000000:=by rw[hA];omega
 have hmod:len*m % 1000000=len % 1000000*(m % 1000000) % 1000000:=by rw[hA];omega
 rw[hdiv,hmod]
 have c9:aN .i64 (len % 1000000*(m % 1000000)) 1000000=len % 1000000*(m % 1000000) / 1000000:=by rw[qN (by rw[bu l0];unfold I64;omega),bu l0]
 have c10:dV (len % 1000000*(m % 1000000)) 1000000=len % 1000000*(m % 1000000) % 1000000:=oJ l0
 rw[c9,c10]
 have tail:len*(m / 1000000)≤1000000000000000→l7 (ilt 1000000000000000 (A7 .i64 (A7 .i64 (W9 .i64 len (m / 1000000)) (len / 1000000*(m % 1000000))) (len % 1000000*(m % 1000000) / 1000000))) (some ((0:Int),(0:Int),false))
   (l7 (ilt n 0) (some (G8 .i64 0 (A7 .i64 (A7 .i64 (W9 .i64 len (m / 1000000)) (len / 1000000*(m % 1000000))) (len % 1000000*(m % 1000000) / 1000000)),G8 .i64 0 (len % 1000000*(m % 1000000) % 1000000),true)) (some (A7 .i64 (A7 .i64 (W9 .i64 len (m / 1000000)) (len / 1000000*(m % 1000000))) (len % 1000000*(m % 1000000) / 1000000),len % 1000000*(m % 1000000) % 1000000,true)))=
   some (l7 (ilt 1000000000000000 (len*(m / 1000000)+len / 1000000*(m % 1000000)+len % 1000000*(m % 1000000) / 1000000)) (0,0,false) (l7 (ilt n 0) (-(len*(m / 1000000)+len / 1000000*(m % 1000000)+len % 1000000*(m % 1000000) / 1000000),-(len % 1000000*(m % 1000000) % 1000000),true) (len*(m / 1000000)+len / 1000000*(m % 1000000)+len % 1000000*(m % 1000000) / 1000000,len % 1000000*(m % 1000000) % 1000000,true))):=by
  intro hle
  rw[dI (show I64 (len*(m / 1000000)) by unfold I64;omega)]
  generalize len*(m / 1000000)=K at*
  generalize len / 1000000*(m % 1000000)=P at*
  generalize len % 1000000*(m % 1000000)=L at*
  rw[J5 (show I64 (K+P) by unfold I64;omega),J5 (show I64 (K+P+L / 1000000) by unfold I64;omega),H8 (show I64 (0 -(K+P+L / 1000000)) by unfold I64;omega),H8 (show I64 (0 -L % 1000000) by unfold I64;omega),show(0:Int) -(K+P+L / 1000000)=-(K+P+L / 1000000) by omega,show(0:Int) -L % 1000000=-(L % 1000000) by omega]
  cases ilt 1000000000000000 (K+P+L / 1000000) <;> cases ilt n 0 <;> rfl
 by_cases ha:0<m / 1000000
 ·rw[E8 ha,o5,lu (by omega) (by omega) ha,o7]
  have hMx:=Int.ediv_mul_add_emod 1000000000000000 (m / 1000000)
  have hMr:=Int.emod_lt_of_pos 1000000000000000 ha
  have hMr0:=Int.emod_nonneg 1000000000000000 (show m / 1000000≠0 by omega)
  by_cases hc:1000000000000000 / (m / 1000000)<len
  ·have:=Int.mul_le_mul_of_nonneg_right (show 1000000000000000 / (m / 1000000)+1≤len by omega) a0
   rw[Int.add_mul,Int.one_mul]at this
   rw[E8 hc,E8 (show(1000000000000000:Int)<len*(m / 1000000)+len / 1000000*(m % 1000000)+len % 1000000*(m % 1000000) / 1000000 by omega)];rfl
  ·have:=Int.mul_le_mul_of_nonneg_right (show len≤1000000000000000 / (m / 1000000) by omega) a0
   rw[D9 (by omega),l9]
   exact tail (by omega)
 ·have:m / 1000000=0:=by omega
  rw[D9 (by omega),l9]
  exact tail (by rw[this];simp)
theorem Oz {F R j:Int} {mode:Int} (hm:eY mode=true) (h1:-4000000000000000000≤F) (h2:F≤4000000000000000000) (h3:-2000000000000000000≤j) (h4:j≤2000000000000000000) (hR:0≤R) (hR2:R<1000000) (hs:0≤F↔0≤F+2*j):
  c6J (F+2*j) R 1000000 mode=(c6J F R 1000000 mode).map fun v=>v+2*j:=by
 have R0:∀F R:Int,c6J F R 1000000 0=l7 (ieq R 0) (some F) (some F):=fun F R=>rfl
 have R1:∀F R:Int,c6J F R 1000000 1=l7 (ieq R 0) (some F) (some (A7 .i64 F 1)):=fun F R=>rfl
 have R2:∀F R:Int,c6J F R 1000000 2=l7 (ieq R 0) (some F) (o6 (l7 (ilt F 0) (some true) (some false)) fun x=>l7 x (some (A7 .i64 F 1)) (some F)):=fun F R=>rfl
 have R3:∀F R:Int,c6J F R 1000000 3=l7 (ieq R 0) (some F) (o6 (some (ile 0 F)) fun x=>l7 x (some (A7 .i64 F 1)) (some F)):=fun F R=>rfl
 have R4:∀F R:Int,c6J F R 1000000 4=l7 (ieq R 0) (some F) (l7 (ieq R (G8 .i64 1000000 R)) (l7 (ile 0 F) (some (A7 .i64 F 1)) (some F)) (l7 (ilt (G8 .i64 1000000 R) R) (some (A7 .i64 F 1)) (some F))):=fun F R=>rfl
 have R5:∀F R:Int,c6J F R 1000000 5=l7 (ieq R 0) (some F) (l7 (ieq R (G8 .i64 1000000 R)) (l7 (E5 (ieq (dV F 2) 0)) (some (A7 .i64 F 1)) (some F)) (l7 (ilt (G8 .i64 1000000 R) R) (some (A7 .i64 F 1)) (some F))):=fun F R=>rfl
 have hi:A7 .i64 F 1=F+1:=J5 (by unfold I64;omega)
 have hi2:A7 .i64 (F+2*j) 1=F+1+2*j:=by rw[J5 (by unfold I64;omega)];omega
 have hlt:ilt (F+2*j) 0=ilt F 0:=by
  by_cases h:0≤F
  ·rw[D9 h,D9 (hs.1 h)]
  ·rw[E8 (by omega),E8 (by have:=fun h' =>h (hs.2 h');omega)]
 have hle:ile 0 (F+2*j)=ile 0 F:=by rw[wP,wP,hlt]
 have hpar:ieq (dV (F+2*j) 2) 0=ieq (dV F 2) 0:=by
  unfold dV ieq
  congr 1
  have e1:∀x:Int,x.tmod 2=0↔x % 2=0:=fun x=>by
   rw[←Int.dvd_iff_tmod_eq_zero,Int.dvd_iff_emod_eq_zero]
  simp only[e1]
  congr 1;omega
 rcases wS hm with rfl | rfl | rfl | rfl | rfl | rfl
 ·rw[R0,R0];cases ieq R 0 <;> rfl
 ·rw[R1,R1,hi,hi2];cases ieq R 0 <;> rfl
 ·rw[R2,R2,hi,hi2,hlt];cases ieq R 0 <;> cases ilt F 0 <;> rfl
 ·rw[R3,R3,hi,hi2,hle];cases ieq R 0 <;> cases ile 0 F <;> rfl
 ·rw[R4,R4,hi,hi2,hle];cases ieq R 0 <;> cases ieq R (G8 .i64 1000000 R) <;> cases ile 0 F <;> cases ilt (G8 .i64 1000000 R) R <;> rfl
 ·rw[R5,R5,hi,hi2,hpar];cases ieq R 0 <;> cases ieq R (G8 .i64 1000000 R) <;> cases ieq (dV F 2) 0 <;> cases ilt (G8 .i64 1000000 R) R <;> rfl
theorem a2t {n j mode:Int} (hm:eY mode=true) (h1:-4000000000000000000≤n) (h2:n≤4000000000000000000) (h3:-2000000000000000≤j) (h4:j≤2000000000000000) (hs:0≤n↔0≤n+2*j*1000000):rnd (n+2*j*1000000) 1000000 mode=rnd n 1000000 mode+2*j:=by
 have a1:=xg (n:=n) (d:=1000000) (mode:=mode) (by omega) (by omega) (by omega) (by omega) hm
 have a2:=xg (n:=n+2*j*1000000) (d:=1000000) (mode:=mode) (by omega) (by omega) (by omega) (by omega) hm
 rw[show(n+2*j*1000000) / 1000000=n / 1000000+2*j by omega,show(n+2*j*1000000) % 1000000=n % 1000000 by omega,
  Oz hm (by omega) (by omega) (by omega) (by omega) (by omega) (by omega) (by omega),a1]at a2
 exact(Option.some.inj a2).symm
def PR (W L mode:Int):Int×Int:=l7 (bQ (rnd (W*1000000+L) 1000000 mode) 1000000000000000) (0,3) (rnd (W*1000000+L) 1000000 mode,0)
theorem OQ {V p L j mode:Int} (hm:eY mode=true) (hV:-2000000000000000≤V) (hV2:V≤2000000000000000) (hp:-3≤p) (hp2:p≤3) (hL:-1000000<L) (hL2:L<1000000) (hj:V -p=2*j) (hs:0≤p*1000000+L↔0≤V*1000000+L):
  (o6 (aW (A7 .i64 (W9 .i64 p 1000000) L) 1000000 mode) fun(x:Int×Int)=>l7 (E5 (ieq x.2 0)) (some ((0:Int),x.2)) (l7 (ilt (A7 .i64 (G8 .i64 V p) x.1) (-1000000000000000)) (some (0,3)) (l7 (ilt 1000000000000000 (A7 .i64 (G8 .i64 V p) x.1)) (some (0,3)) (some (A7 .i64 (G8 .i64 V p) x.1,0)))))=
  some (PR V L mode):=by
 rw[dI (show I64 (p*1000000) by unfold I64;omega),J5 (show I64 (p*1000000+L) by unfold I64;omega),H8 (show I64 (V -p) by unfold I64;omega),wK,o7]
 unfold Xl
 rw[hm,D8 (show(1000000:Int)≠0 by decide),Cc (by omega),Cc (by omega)]
 have hb:=Yl (n:=p*1000000+L) (d:=1000000) mode (by omega)
 have hsh:=a2t (n:=p*1000000+L) (j:=j) hm (by omega) (by omega) (by omega) (by omega) (by rw[show p*1000000+L+2*j*1000000=V*1000000+L by omega];exact hs)
 rw[show p*1000000+L+2*j*1000000=V*1000000+L by omega]at hsh
 simp only[o5,l9,E9 (rfl:(0:Int)=0),o9]
 unfold PR bQ
 rw[hsh,hj,J5 (show I64 (2*j+rnd (p*1000000+L) 1000000 mode) by unfold I64;omega),show rnd (p*1000000+L) 1000000 mode+2*j=2*j+rnd (p*1000000+L) 1000000 mode by omega]
 cases ilt (2*j+rnd (p*1000000+L) 1000000 mode) (-1000000000000000) <;> cases ilt 1000000000000000 (2*j+rnd (p*1000000+L) 1000000 mode) <;> rfl
theorem a0Z {n d:Int} (hd:0<d):(0≤n→0≤n.tmod d∧n.tmod d<d)∧(n≤0→-d<n.tmod d∧n.tmod d≤0):=by
 refine⟨fun h=>?_,fun h=>?_⟩
 ·rw[Int.tmod_eq_emod_of_nonneg h]
  exact⟨Int.emod_nonneg n (by omega),Int.emod_lt_of_pos n hd⟩
 ·obtain⟨m,hm⟩:∃m,n=-m:=⟨-n,by omega⟩
  subst hm
  rw[Int.neg_tmod,Int.tmod_eq_emod_of_nonneg (by omega)]
  have:=Int.emod_nonneg m (show d≠0 by omega)
  have:=Int.emod_lt_of_pos m hd
  omega
theorem Wl {W L mode:Int} (hm:eY mode=true) (hW:-1000000000000000000≤W) (hW2:W≤1000000000000000000) (hL:-1000000000≤L) (hL2:L≤1000000000):rE W L mode=some (PR W L mode):=by
 unfold rE
 have hd:=Int.tdiv_mul_add_tmod L 1000000
 have htm:=a0Z (n:=L) (d:=1000000) (by omega)
 have t1:aN .i64 L 1000000=L.tdiv 1000000:=qN (by unfold I64;omega)
 have t2:dV L 1000000=L.tmod 1000000:=rfl
 have hr1:-1000000<L.tmod 1000000:=by omega
 have hr2:L.tmod 1000000<1000000:=by omega
 rw[t1,t2,J5 (show I64 (W+L.tdiv 1000000) by unfold I64;omega)]
 have hT:W*1000000+L=(W+L.tdiv 1000000)*1000000+L.tmod 1000000:=by omega
 have hsum:PR W L mode=PR (W+L.tdiv 1000000) (L.tmod 1000000) mode:=by unfold PR;rw[hT]
 rw[hsum]
 have hVb:-2000000000000000000≤W+L.tdiv 1000000∧W+L.tdiv 1000000≤2000000000000000000:=by omega
 generalize W+L.tdiv 1000000=V at*
 generalize L.tmod 1000000=M at*
 have hb:=Yl (n:=V*1000000+M) (d:=1000000) mode (by omega)
 by_cases c1:V< -2000000000000000
 ·rw[E8 c1,o5]
  unfold PR
  rw[EQ.2 (by omega)];rfl
 by_cases c2:2000000000000000<V
 ·rw[D9 (by omega),l9,E8 c2,o5]
  unfold PR
  rw[EQ.2 (by omega)];rfl
 rw[D9 (by omega),l9,D9 (by omega),l9]
 have t3:dV V 2=V.tmod 2:=rfl
 rw[t3]
 have hv2:=Int.tdiv_mul_add_tmod V 2
 have htv:=a0Z (n:=V) (d:=2) (by omega)
 by_cases c3:1<V
 ·rw[E8 c3,o5,J5 (show I64 (V.tmod 2+2) by unfold I64;omega)]
  exact OQ (j:=V.tdiv 2 -1) hm (by omega) (by omega) (by omega) (by omega) hr1 hr2 (by omega) (by omega)
 rw[D9 (by omega),l9]
 by_cases c4:V< -1
 ·rw[E8 c4,o5,H8 (show I64 (V.tmod 2 -2) by unfold I64;omega)]
  exact OQ (j:=V.tdiv 2+1) hm (by omega) (by omega) (by omega) (by omega) hr1 hr2 (by omega) (by omega)
 rw[D9 (by omega),l9]
 exact OQ (j:=V.tdiv 2) hm (by omega) (by omega) (by omega) (by omega) hr1 hr2 (by omega) (by omega)
theorem PM {W L mode:Int} (hm:eY mode=true) (hW:-1000000000000000000≤W) (hW2:W≤1000000000000000000) (hL:-1000000000≤L) (hL2:L≤1000000000):c7K W L mode=some (rnd (W*1000000+L) 1000000 mode):=by
 unfold c7K
 obtain⟨e,k1,k2⟩:=aC (f:=fun(x:Int×Int)=>l7 (ilt x.2 0) (some (.inl (G8 .i64 x.1 1,A7 .i64 x.2 1000000))) (some (.inr x)))
  (s:=(W,L)) (fun x=>x.1*1000000+x.2=W*1000000+L∧-1000000000≤x.2∧x.2≤1000000000∧-2000000000000000000≤x.1∧x.1≤2000000000000000000) (fun x=>x.1*1000000+x.2=W*1000000+L∧0≤x.2∧x.2≤1000000000∧-2000000000000000000≤x.1∧x.1≤2000000000000000000) (fun x=>(1000000000 -x.2).toNat) ⟨by rfl,hL,hL2,by omega,by omega⟩ (by omega) (by
  rintro⟨a,b⟩ ⟨h1,h2,h3,h4,h5⟩
  simp only at h1 h2 h3 h4 h5 ⊢
  by_cases hb:b<0
  ·left
   rw[E8 hb,o5,H8 (show I64 (a -1) by unfold I64;omega),J5 (show I64 (b+1000000) by unfold I64;omega)]
   exact⟨_,rfl,⟨by simp only;omega,by simp only;omega,by simp only;omega,by simp only;omega,by simp only;omega⟩,by simp only;omega⟩
  ·right
   rw[D9 (by omega)]
   exact⟨(a,b),rfl,h1,by omega,h3,h4,h5⟩)
 refine(jf k1 _).trans ?_
 obtain⟨a,b⟩:=e
 simp only at k2
 obtain⟨e,l1,l2⟩:=aC (f:=fun(x:Int×Int)=>l7 (ile 1000000 x.2) (some (.inl (A7 .i64 x.1 1,G8 .i64 x.2 1000000))) (some (.inr x)))
  (s:=(a,b)) (fun x=>x.1*1000000+x.2=W*1000000+L∧0≤x.2∧x.2≤1000000000∧-2000000000000000000≤x.1∧x.1≤2000000000000000000) (fun x=>x.1=(W*1000000+L) / 1000000∧x.2=(W*1000000+L) % 1000000) (fun x=>x.2.toNat) k2 (by simp only;omega) (by
  rintro⟨a,b⟩ ⟨h1,h2,h3,h4,h5⟩
  simp only at h1 h2 h3 h4 h5 ⊢
  by_cases hb:1000000≤b
  ·left
   rw[F7 hb,o5,J5 (show I64 (a+1) by unfold I64;omega),H8 (show I64 (b -1000000) by unfold I64;omega)]
   exact⟨_,rfl,⟨by simp only;omega,by simp only;omega,by simp only;omega,by simp only;omega,by simp only;omega⟩,by simp only;omega⟩
  ·right
   rw[F9 (by omega)]
   exact⟨(a,b),rfl,by simp only;omega,by simp only;omega⟩)
 refine(jf l1 _).trans ?_
 obtain⟨F,R⟩:=e
 simp only at l2 ⊢
 obtain⟨rfl,rfl⟩:=l2
 generalize hT:W*1000000+L=T at*
 have hid:J8 1000000=1000000:=rfl
 have hneg:E5 (bZ (ilt T 0) (ilt 1000000 0))=ilt T 0:=by rw[D9 (show(0:Int)≤1000000 by omega)];cases ilt T 0 <;> rfl
 by_cases h0:0≤T
 ·rw[F7 (show 0≤T / 1000000 by omega),o5,tV _ _ (by omega) (by omega) (by omega) (by omega) (by omega),o7]
  unfold rnd
  rw[hid,hneg,D9 h0,show J8 T=T by unfold J8;rw[if_neg (by omega)]]
 ·rw[F9 (show T / 1000000<0 by omega),l9]
  unfold rnd
  rw[hid,hneg,E8 (by omega),show J8 T=-T by unfold J8;rw[if_pos (by omega)]]
  by_cases hz:T % 1000000=0
  ·rw[E9 hz,o5]
   have hu:upS (-T / 1000000) (-T % 1000000) 1000000 true mode=false:=by unfold upS;rw[E9 (show -T % 1000000=0 by omega)];rfl
   rw[hu]
   show some (T / 1000000)=some (-(-T / 1000000))
   congr 1;omega
  ·rw[D8 hz,l9,H8 (show I64 (0 -T / 1000000) by unfold I64;omega),H8 (show I64 (0 -T / 1000000 -1) by unfold I64;omega),H8 (show I64 (1000000 -T % 1000000) by unfold I64;omega),tV _ _ (by omega) (by omega) (by omega) (by omega) (by omega),o7]
   rw[show 0 -T / 1000000 -1=-T / 1000000 by omega,show 1000000 -T % 1000000=-T % 1000000 by omega]
def Zg (r:tH):Prop:=I64 r.2.1∧I64 r.2.2.1∧I64 r.2.2.2
def kK (t:ai):Prop:=t.2.2.2.length≤200∧∀r∈t.2.2.2,Zg r
theorem RN {len n:Int} (h:(tK len n).2.2=true) (hl:0≤len):-1000000000000000≤(tK len n).1∧(tK len n).1≤1000000000000000∧-1000000≤(tK len n).2.1∧(tK len n).2.1≤1000000:=by
 have hA:0≤len*J8 n:=Int.mul_nonneg hl (dB n)
 unfold tK at*
 generalize len*J8 n=A at*
 cases h1:ilt 1000000000000000 (A / 1000000) <;> rw[h1]at h
 ·rw[aT]at h1
  cases ilt n 0
  ·simp only[l9];omega
  ·simp only[l9,o5];omega
 ·cases h
def brG (date c:Int) (b:Int×Int) (r:tH):(Int×Int)⊕(Int×Int):=l7 (Ho r.1 date) (l7 (ile (kG r.2.2.1 c) (gV r.2.1 0)) (.inl b)
 (l7 (tK (kG r.2.2.1 c -gV r.2.1 0) r.2.2.2).2.2 (.inl (b.1+(tK (kG r.2.2.1 c -gV r.2.1 0) r.2.2.2).1,b.2+(tK (kG r.2.2.1 c -gV r.2.1 0) r.2.2.2).2.1)) (.inr (0,3)))) (.inl b)
def a7N (t:ai) (date c mode:Int):Int×Int:=l7 (eY mode) (l7 (V8 (ieq t.2.1.1 3) (ieq t.2.1.2 0)) (l7 (V8 (ieq t.2.2.1.1 4) (ieq t.2.2.1.2 0)) (l7 (bQ c 1000000000000000) (0,3)
 (match U1 (brG date c) t.2.2.2 (0,0)with | .inl b=>PR b.1 b.2 mode | .inr r=>r)) (0,8)) (0,8)) (0,1)
def KR (i:Nat) (b:Int×Int):Prop:=-(1000000000000000*(i:Int))≤b.1∧b.1≤1000000000000000*(i:Int)∧-(1000000*(i:Int))≤b.2∧b.2≤1000000*(i:Int)
theorem Lm {r:tH} {c:Int} (hr:Zg r) (hc:-1000000000000000≤c) (hc2:c≤1000000000000000) (h:ile (kG r.2.2.1 c) (gV r.2.1 0)=false):G8 .i64 (kG r.2.2.1 c) (gV r.2.1 0)=kG r.2.2.1 c -gV r.2.1 0∧1≤kG r.2.2.1 c -gV r.2.1 0∧kG r.2.2.1 c -gV r.2.1 0≤1000000000000000:=by
 obtain⟨h1,h2,h3⟩:=hr
 obtain⟨lo,hlo⟩:∃lo:Int,r.2.1=lo:=⟨_,rfl⟩
 obtain⟨hi,hhi⟩:∃hi:Int,r.2.2.1=hi:=⟨_,rfl⟩
 rw[hlo]at h h1 ⊢;rw[hhi]at h h2 ⊢
 rw[uf]at h
 have a1:0≤gV lo 0:=by unfold gV;split <;> omega
 have a2:kG hi c≤c:=by unfold kG;split <;> omega
 refine⟨H8 (by unfold I64;omega),by omega,by omega⟩
theorem a3g {date c:Int} {r:tH} {b:Int×Int} {i:Nat} (hr:Zg r) (hc:-1000000000000000≤c) (hc2:c≤1000000000000000) (hi:i≤200) (hb:KR i b):∀b',brG date c b r= .inl b' →KR (i+1) b' :=by
 intro b' h
 unfold KR at*
 unfold brG at h
 cases h1:Ho r.1 date <;> rw[h1]at h
 ·cases h;omega
 simp only[o5]at h
 cases h2:ile (kG r.2.2.1 c) (gV r.2.1 0) <;> rw[h2]at h
 ·obtain⟨_,g1,g2⟩:=Lm hr hc hc2 h2
  simp only[l9]at h
  cases h3:(tK (kG r.2.2.1 c -gV r.2.1 0) r.2.2.2).2.2 <;> rw[h3]at h
  ·cases h
  ·have hbd:=RN h3 (by omega)
   cases h
   simp only
   omega
 ·cases h;omega
theorem Ut {t:ai} (date c mode:Int) (ht:kK t):ru t date c mode=some (a7N t date c mode):=by
 unfold ru a7N
 rw[VA]
 cases hm:eY mode
 ·rfl
 simp only[o5,o7,D7]
 cases V8 (ieq t.2.1.1 3) (ieq t.2.1.2 0)
 ·rfl
 cases V8 (ieq t.2.2.1.1 4) (ieq t.2.2.1.2 0)
 ·rfl
 simp only[o9,l9,o5,o7,D7]
 have hbey:∀A B:Option (PUnit⊕(Int×Int)),l7 (ilt c (-1000000000000000)) A (l7 (ilt 1000000000000000 c) A B)=l7 (bQ c 1000000000000000) A B:=fun A B=>by
  unfold bQ;cases ilt c (-1000000000000000) <;> cases ilt 1000000000000000 c <;> rfl
 rw[hbey]
 cases hb:bQ c 1000000000000000
 case true=>rfl
 have bb:=gz hb
 simp only[l9,o7,D7]
 refine fV t.2.2.2 (brG date c) (fun b i=>(b.1,b.2,i)) (fun b=>b) KR ((0,0):Int×Int) (by have:=ht.1;omega) (by unfold KR;simp) (fun i r b hr hi hI=>?_) (fun b hI=>?_) (fun hI=>?_)
 ·have hro:=ht.2 r (dG hr)
  have hlt:=(J7.1 hr).1
  have h200:=ht.1
  refine⟨?_,a3g hro bb.1 bb.2 (by omega) hI⟩
  simp only[H9 hr,o5,F6,hr,o7,wG]
  rw[X3 (by omega)]
  unfold brG
  cases Ho r.1 date
  ·rfl
  simp only[o9,l9,o5]
  cases h2:ile (kG r.2.2.1 c) (gV r.2.1 0)
  case true=>rfl
  obtain⟨g0,g1,g2⟩:=Lm hro bb.1 bb.2 h2
  rw[g0,a7P g1 g2 hro.2.2]
  simp only[l9,o7]
  cases h3:(tK (kG r.2.2.1 c -gV r.2.1 0) r.2.2.2).2.2
  ·rfl
  ·have hbd:=RN h3 (by omega)
   unfold KR at hI
   rw[J5 (by unfold I64;omega),J5 (by unfold I64;omega)];rfl
 ·simp only[I4];rfl
 ·cases hf:U1 (brG date c) t.2.2.2 (0,0)with
  | inr r=>rfl
  | inl b=>
   have:=hI b hf
   unfold KR at this
   have h200:=ht.1
   simp only[D7]
   rw[Wl hm (by omega) (by omega) (by omega) (by omega)];rfl
theorem Tm {t:ai} (date c mode:Int) (ht:kK t):c7I t date c mode=some (a7N t date c mode):=by
 unfold c7I a7N
 rw[FZ,o7]
 cases hm:eY mode
 ·rfl
 simp only[o9,l9,o5]
 cases V8 (ieq t.2.1.1 3) (ieq t.2.1.2 0)
 ·rfl
 cases V8 (ieq t.2.2.1.1 4) (ieq t.2.2.1.2 0)
 ·rfl
 simp only[o9,l9,o5,o7,D7]
 rw[jC c (by omega) (by omega),o7]
 cases hb:bQ c 1000000000000000
 case true=>rfl
 have bb:=gz hb
 simp only[l9]
 refine fV t.2.2.2 (brG date c) (fun b i=>(b.1,b.2,i)) (fun b=>b) KR ((0,0):Int×Int) (by have:=ht.1;omega) (by unfold KR;simp) (fun i r b hr hi hI=>?_) (fun b hI=>?_) (fun hI=>?_)
 ·have hro:=ht.2 r (dG hr)
  have hlt:=(J7.1 hr).1
  have h200:=ht.1
  refine⟨?_,a3g hro bb.1 bb.2 (by omega) hI⟩
  simp only[H9 hr,o5,F6,hr,o7,FY]
  rw[X3 (by omega)]
  unfold brG
  cases h2:ile (kG r.2.2.1 c) (gV r.2.1 0)
  case true=>cases Ho r.1 date <;> rfl
  simp only[l9]
  cases Ho r.1 date
  ·rfl
  obtain⟨g0,g1,g2⟩:=Lm hro bb.1 bb.2 h2
  rw[g0,a5f g1 g2 hro.2.2]
  simp only[o9,l9,o5,o7]
  cases h3:(tK (kG r.2.2.1 c -gV r.2.1 0) r.2.2.2).2.2
  ·rfl
  ·have hbd:=RN h3 (by omega)
   unfold KR at hI
   rw[J5 (by unfold I64;omega),J5 (by unfold I64;omega)];rfl
 ·simp only[I4];rfl
 ·cases hf:U1 (brG date c) t.2.2.2 (0,0)with
  | inr r=>rfl
  | inl b=>
   have:=hI b hf
   unfold KR at this
   have h200:=ht.1
   simp only[D7]
   rw[PM hm (by omega) (by omega) (by omega) (by omega),o7,jC _ (by omega) (by omega),o7]
   unfold PR
   cases bQ (rnd (b.1*1000000+b.2) 1000000 mode) 1000000000000000 <;> rfl
def a8f (r:tH) (date key:Int):Bool:=l7 (Ho r.1 date) (l7 (ile r.2.1 key) (ilt key r.2.2.1) false) false
def Jo (rows:List tH) (date key:Int) (i:Nat):Option (Int×Bool):=match rows[i]? with | some r=>l7 (a8f r date key) (some ((i:Int),true)) none | none=>none
def Nl (rows:List tH) (date key:Int):Int×Bool:=match P7 rows.length (Jo rows date key)with | some x=>x | none=>(0,false)
theorem a1K {t:ai} (date key:Int) (ht:t.2.2.2.length≤1000000):uH t date key=some (Nl t.2.2.2 date key):=by
 unfold uH kW Nl
 rw[bT]
 refine ak (nK (p:=Jo t.2.2.2 date key) t.2.2.2.length ht PUnit.unit (fun i hi=>?_) ?_) ?_
 rotate_left 2
 ·cases P7 t.2.2.2.length (Jo t.2.2.2 date key) <;> rfl
 ·have e:=Y6 hi
  simp only[H9 e,o5,F6,e,o7,vU,wG,Jo,a8f]
  cases Ho t.2.2.2[i].1 date
  ·rfl
  cases ile t.2.2.2[i].2.1 key
  ·rfl
  cases ilt key t.2.2.2[i].2.2.1 <;> rfl
 ·simp only[I4];rfl
theorem Yi {t:ai} (date key:Int) (ht:t.2.2.2.length≤1000000):c7O t date key=some (Nl t.2.2.2 date key):=by
 unfold c7O Nl
 refine ak (nK (p:=Jo t.2.2.2 date key) t.2.2.2.length ht PUnit.unit (fun i hi=>?_) ?_) ?_
 rotate_left 2
 ·cases P7 t.2.2.2.length (Jo t.2.2.2 date key) <;> rfl
 ·have e:=Y6 hi
  simp only[H9 e,o5,F6,e,o7,c7Q,FY,Jo,a8f]
  cases Ho t.2.2.2[i].1 date
  ·rfl
  cases ile t.2.2.2[i].2.1 key
  ·rfl
  cases ilt key t.2.2.2[i].2.2.1 <;> rfl
 ·simp only[I4];rfl
theorem a4a {rows:List tH} {date key i:Int} (h:Nl rows date key=(i,true)):0≤i∧i<o8 rows:=by
 unfold Nl at h
 split at h
 ·rename_i x hx
  subst h
  obtain⟨k,hk,hp⟩:=bV hx
  unfold Jo at hp
  split at hp
  ·rename_i r hr
   cases hmb:a8f r date key <;> rw[hmb]at hp
   ·cases hp
   ·cases hp;simp only[o8];omega
  ·cases hp
 ·cases h
abbrev V3:Type:=Int×Int×Int
def uT (k:Int):Int×Int:=l7 (ieq k 1) (0,1) (l7 (ieq k 2) (-1000000000000,1000000000000) (l7 (ieq k 3) (-1000000000000000,1000000000000000) (l7 (ieq k 4) (-1000000000,1000000000) (l7 (ieq k 5) (0,109572) (l7 (ieq k 6) (0,15) (0,-1))))))
theorem Zt (k:Int):c7x k=some (uT k):=by
 unfold c7x uT
 cases ieq k 1 <;> cases ieq k 2 <;> cases ieq k 3 <;> cases ieq k 4 <;> cases ieq k 5 <;> cases ieq k 6 <;> rfl
def plB (v:V3):Bool:=l7 (ile (uT v.1).1 v.2.2) (l7 (ile v.2.2 (uT v.1).2) (l7 (ieq v.1 6) (l7 (ile 0 v.2.1) (ilt v.2.1 8) false) (ieq v.2.1 0)) false) false
theorem A8 (v:V3):c6Q v=some (plB v):=by
 unfold c6Q plB
 rw[Zt,o7,jb,jb]
 cases ile (uT v.1).1 v.2.2
 ·rfl
 cases ile v.2.2 (uT v.1).2
 ·rfl
 cases ieq v.1 6
 ·rfl
 cases ile 0 v.2.1 <;> rfl
theorem C9 (v:V3):aj v=some (plB v):=by
 obtain⟨k,e,n⟩:=v
 unfold aj plB
 simp only
 by_cases h6:k=6
 ·subst h6
  rw[show uT 6=(0,15)from rfl,E9 (rfl:(6:Int)=6)]
  simp only[o9,l9,o7,D7,D8 (show(6:Int)≠1 by decide),D8 (show(6:Int)≠2 by decide),D8 (show(6:Int)≠3 by decide),D8 (show(6:Int)≠4 by decide),D8 (show(6:Int)≠5 by decide),o5]
  rw[show ilt n 16=ile n 15 by unfold ilt ile;congr 1;simp;omega]
  cases ile 0 e <;> cases ilt e 8 <;> cases ile 0 n <;> cases ile n 15 <;> rfl
 rw[D8 h6]
 simp only[D6,o5,l9]
 by_cases he:e=0
 case neg=>
  rw[D8 he]
  simp only[D6,o5,o7,G5]
  cases ile (uT k).1 n <;> cases ile n (uT k).2 <;> rfl
 rw[E9 he]
 simp only[o9,l9,o7,D7]
 by_cases h1:k=1
 ·subst h1
  rw[show uT 1=(0,1)from rfl]
  simp only[E9 (rfl:(1:Int)=1),o5]
  by_cases n0:n=0
  ·subst n0;rfl
  by_cases n1:n=1
  ·subst n1;rfl
  rw[D8 n0,D8 n1]
  by_cases g:0≤n
  ·rw[F7 g,F9 (by omega)];rfl
  ·rw[F9 (by omega)];rfl
 rw[D8 h1,l9]
 by_cases h2:k=2
 ·subst h2
  rw[show uT 2=(-1000000000000,1000000000000)from rfl,E9 (rfl:(2:Int)=2)]
  simp only[o5]
  cases ile (-1000000000000) n <;> cases ile n 1000000000000 <;> rfl
 rw[D8 h2,l9]
 by_cases h3:k=3
 ·subst h3
  rw[show uT 3=(-1000000000000000,1000000000000000)from rfl,E9 (rfl:(3:Int)=3)]
  simp only[o5]
  cases ile (-1000000000000000) n <;> cases ile n 1000000000000000 <;> rfl
 rw[D8 h3,l9]
 by_cases h4:k=4
 ·subst h4
  rw[show uT 4=(-1000000000,1000000000)from rfl,E9 (rfl:(4:Int)=4)]
  simp only[o5]
  cases ile (-1000000000) n <;> cases ile n 1000000000 <;> rfl
 rw[D8 h4,l9]
 by_cases h5:k=5
 ·subst h5
  rw[show uT 5=(0,109572)from rfl,E9 (rfl:(5:Int)=5)]
  simp only[o5]
  cases ile 0 n <;> cases ile n 109572 <;> rfl
 rw[D8 h5,l9,show uT k=(0,-1) by unfold uT;rw[D8 h1,D8 h2,D8 h3,D8 h4,D8 h5,D8 h6];rfl]
 simp only[l9]
 by_cases g:0≤n
 ·rw[F7 g,F9 (show(-1:Int)<n by omega)];rfl
 ·rw[F9 (show n<0 by omega)];rfl
def PV (v:V3):Prop:=(∃n,v=(1,0,n)∧(n=0∨n=1))∨(∃n,v=(2,0,n)∧-1000000000000≤n∧n≤1000000000000)∨(∃n,v=(3,0,n)∧-1000000000000000≤n∧n≤1000000000000000)∨(∃n,v=(4,0,n)∧-1000000000≤n∧n≤1000000000)∨(∃n,v=(5,0,n)∧0≤n∧n≤109572)∨(∃e n,v=(6,e,n)∧0≤n∧n≤15)
theorem Ye {v:V3} (h:plB v=true):PV v:=by
 obtain⟨k,e,n⟩:=v
 unfold plB at h
 simp only at h
 cases h1:ile (uT k).1 n <;> rw[h1]at h
 ·cases h
 cases h2:ile n (uT k).2 <;> rw[h2]at h
 ·cases h
 simp only[o5]at h
 rw[iI]at h1 h2
 unfold PV
 by_cases k6:k=6
 ·subst k6
  rw[show uT 6=(0,15)from rfl]at h1 h2
  exact .inr (.inr (.inr (.inr (.inr ⟨e,n,rfl,h1,h2⟩))))
 rw[D8 k6,l9,I9]at h
 subst h
 by_cases k1:k=1
 ·subst k1
  rw[show uT 1=(0,1)from rfl]at h1 h2
  exact .inl ⟨n,rfl,by simp only at h1 h2;omega⟩
 by_cases k2:k=2
 ·subst k2;exact .inr (.inl ⟨n,rfl,h1,h2⟩)
 by_cases k3:k=3
 ·subst k3;exact .inr (.inr (.inl ⟨n,rfl,h1,h2⟩))
 by_cases k4:k=4
 ·subst k4;exact .inr (.inr (.inr (.inl ⟨n,rfl,h1,h2⟩)))
 by_cases k5:k=5
 ·subst k5;exact .inr (.inr (.inr (.inr (.inl ⟨n,rfl,h1,h2⟩))))
 ·rw[show uT k=(0,-1) by unfold uT;rw[D8 k1,D8 k2,D8 k3,D8 k4,D8 k5,D8 k6];rfl]at h1 h2
  simp only at h1 h2;omega
def vW (v:V3):V3×Int:=l7 (plB v) (v,0) ((0,0,0),3)
def OZ (v:V3) (c:Int):V3×Int:=l7 (ieq c 0) (vW v) ((0,0,0),c)
theorem H6 (k n:Int):c6K k n=some (vW (k,0,n)):=by
 unfold c6K vW
 rw[A8,o7]
 cases plB (k,0,n) <;> rfl
theorem I5 (k n c:Int):c7d k n c=some (OZ (k,0,n) c):=by
 unfold c7d OZ
 cases ieq c 0
 ·rfl
 simp only[o9,l9,o5]
 rw[H6];rfl
def c3n (b:Bool):V3×Int:=((1,0,l7 b 1 0),0)
theorem F8 (b:Bool):c7b b=some (c3n b):=by cases b <;> rfl
theorem G7 (b:Bool):iq b=some (1,0,l7 b 1 0):=by cases b <;> rfl
theorem G6 (b:Bool):vW (1,0,l7 b 1 0)=c3n b:=by cases b <;> rfl
def a1u (c:Option (V3×Int)):Option (V3×Int):=o6 c fun(x:V3×Int)=>l7 (E5 (ieq x.2 0)) (some ((0,0,0),x.2)) (o6 (aj x.1) fun(x_1:Bool)=>l7 (E5 x_1) (some ((0,0,0),3)) (some (x.1,0)))
theorem F5 (v:V3) (c:Int):a1u (some (v,c))=some (OZ v c):=by
 unfold a1u OZ vW
 simp only[o7]
 cases ieq c 0
 ·rfl
 simp only[o9,l9,o5]
 rw[C9,o7]
 cases plB v <;> rfl
theorem J4 (v:V3):OZ v 0=vW v:=rfl
def EP (n:Int×Int) (args:List V3) (env:U9):Option (V3×Int):=o6 (L9 n args env) fun(x:Bool)=>l7 (E5 x) (some ((0,0,0),8)) (a1u (N7 n args env))
def RP (a0:Int×Int) (a1:List V3) (a2:U9):Option (V3×Int):=
 l7 (ieq (o8 a1) 0) (l7 (ile 36 a0.1) (l7 (ile a0.1 39) (o6 (c7c a0 a2) fun(x:V3×Int)=>some x) (o6 (c6N a0 a2) fun(x:V3×Int)=>some x)) (o6 (c6N a0 a2) fun(x:V3×Int)=>some x))
  (l7 (ieq (o8 a1) 1) (o6 (lat a1 0) fun(x:V3)=>o6 (c6Z a0 x a2) fun(x:V3×Int)=>some x)
  (l7 (ieq (o8 a1) 2) (o6 (lat a1 0) fun(x:V3)=>o6 (lat a1 1) fun(x_1:V3)=>o6 (c6O a0 x x_1) fun(x:V3×Int)=>some x)
  (o6 (lat a1 0) fun(x:V3)=>o6 (lat a1 1) fun(x_1:V3)=>o6 (lat a1 2) fun(x_2:V3)=>l7 (E5 (ieq x.1 1)) (some ((0,0,0),8)) (l7 (E5 (ieq x_1.1 x_2.1)) (some ((0,0,0),8)) (l7 (E5 (ieq x_1.2.1 x_2.2.1)) (some ((0,0,0),8)) (l7 (ieq x.2.2 1) (some (x_1,0)) (some (x_2,0))))))))
def aP (n:Int×Int) (args:List V3) (env:U9):Prop:=∃r:V3×Int,RP n args env=some r∧EP n args env=some r
theorem ll0:o8 ([]:List V3)=0:=rfl
theorem ll1 (a:V3):o8 [a]=1:=rfl
theorem ll2 (a b:V3):o8 [a,b]=2:=rfl
theorem ll3 (a b c:V3):o8 [a,b,c]=3:=rfl
theorem la0 (a:V3) (l:List V3):lat (a::l) 0=some a:=rfl
theorem la1 (a b:V3) (l:List V3):lat (a::b::l) 1=some b:=rfl
theorem la2 (a b c:V3) (l:List V3):lat (a::b::c::l) 2=some c:=rfl
theorem EM (k N:Int) (env:U9) (hk:k=1∨k=2∨k=3∨k=4∨k=5):aP (k,N) [] env:=by
 rcases hk with rfl | rfl | rfl | rfl | rfl <;>
 ·unfold aP RP c6N EP L9 N7
  simp (disch:=decide) only[E9,D8,F7,F9,E8,D9,o5,l9,o7,D7,G5,o9,D6,ll0,ll1,ll2,ll3,la0,la1,la2,H6,I5,A8,C9,F5,J4,F8,G7,G6]
  exact⟨_,rfl,rfl⟩
theorem b7m (N:Int) (env:U9):aP (6,N) [] env:=by
 unfold aP RP c6N EP L9 N7
 simp (disch:=decide) only[E9,D8,F7,F9,E8,D9,o5,l9,o7,D7,G5,o9,D6,ll0,ll1,ll2,ll3,la0,la1,la2,H6,I5,A8,C9,F5,J4,F8,G7,G6]
 unfold vW
 cases plB (6,aN IntKind.i64 N 16,dV N 16) <;> exact⟨_,rfl,rfl⟩
theorem b7p (N:Int) (env:U9):aP (9,N) [] env:=by
 unfold aP RP c6N EP L9 N7
 simp (disch:=decide) only[E9,D8,F7,F9,E8,D9,o5,l9,o7,D7,G5,o9,D6,ll0,ll1,ll2,ll3,la0,la1,la2,H6,I5,A8,C9,F5,J4,F8,G7,G6]
 exact⟨_,rfl,rfl⟩
theorem b3A (N:Int) (env:U9):aP (35,N) [] env:=by
 unfold aP RP c6N EP L9 N7
 simp (disch:=decide) only[E9,D8,F7,F9,E8,D9,o5,l9,o7,D7,G5,o9,D6,ll0,ll1,ll2,ll3,la0,la1,la2,H6,I5,A8,C9,F5,J4,F8,G7,G6]
 exact⟨_,rfl,rfl⟩
theorem b7n (N:Int) (env:U9) (h:aS (7,N) env=some true):aP (7,N) [] env:=by
 unfold aS at h
 simp (disch:=decide) only[E9,D8,o5,l9]at h
 by_cases g:0≤N
 case neg=>rw[F9 (by omega)]at h;cases h
 rw[F7 g,o5]at h
 have h2:=bW.1 (Option.some.inj h)
 obtain⟨x,hx,hm⟩:=fU g h2
 unfold aP RP c6N EP L9 N7
 simp (disch:=decide) only[E9,D8,F7,F9,E8,D9,o5,l9,o7,D7,G5,o9,D6,ll0,ll1,ll2,ll3,la0,la1,la2,H6,I5,A8,C9,F5,J4,F8,G7,G6]
 rw[hx]
 simp (disch:=decide) only[E9,D8,F7,F9,E8,D9,o5,l9,o7,D7,G5,o9,D6,ll0,ll1,ll2,ll3,la0,la1,la2,H6,I5,A8,C9,F5,J4,F8,G7,G6]
 unfold vW
 cases plB x <;> exact⟨_,rfl,rfl⟩
theorem b7o (N:Int) (env:U9) (h:aS (8,N) env=some true):aP (8,N) [] env:=by
 unfold aS at h
 simp (disch:=decide) only[E9,D8,o5,l9]at h
 by_cases g:0≤N
 case neg=>rw[F9 (by omega)]at h;cases h
 rw[F7 g,o5]at h
 by_cases h2:N<o8 env.2.2.1
 case neg=>rw[D9 (by omega)]at h;cases h
 obtain⟨x,hx,hm⟩:=fU g h2
 unfold aP RP c6N EP L9 N7
 simp (disch:=decide) only[E9,D8,F7,F9,E8,D9,o5,l9,o7,D7,G5,o9,D6,ll0,ll1,ll2,ll3,la0,la1,la2,H6,I5,A8,C9,F5,J4,F8,G7,G6]
 rw[hx]
 simp (disch:=decide) only[E9,D8,F7,F9,E8,D9,o5,l9,o7,D7,G5,o9,D6,ll0,ll1,ll2,ll3,la0,la1,la2,H6,I5,A8,C9,F5,J4,F8,G7,G6]
 unfold vW
 cases plB x <;> exact⟨_,rfl,rfl⟩
def En (k:Int) (t:Int×Int):Bool:=l7 (ieq t.2 0) (l7 (ieq k 36) (l7 (ieq t.1 2) true (ieq t.1 3)) (l7 (ieq k 39) (l7 (ile 2 t.1) (ile t.1 5) false) (ieq t.1 1))) false
theorem Tj (k:Int) (t:Int×Int):c7L k t=some (En k t):=by
 unfold c7L En
 cases ieq t.2 0 <;> cases ieq k 36 <;> cases ieq k 39 <;> cases ieq t.1 2 <;> cases ile 2 t.1 <;> rfl
theorem sF (t:Int):jw t=some (l7 (ile 2 t) (ile t 4) false):=by
 unfold jw
 by_cases h2:t=2
 ·subst h2;rfl
 by_cases h3:t=3
 ·subst h3;rfl
 by_cases h4:t=4
 ·subst h4;rfl
 rw[D8 h2,D8 h3,D8 h4]
 by_cases g:2≤t
 ·rw[F7 g,F9 (by omega)];rfl
 ·rw[F9 (by omega)];rfl
theorem vN (t:Int):c7E t=some (l7 (ile 2 t) (ile t 4) false):=sF t
theorem PD (k:Int) (t:Int×Int):kN k t=some (En k t):=by
 unfold kN En
 cases ieq t.2 0
 ·rfl
 cases ieq k 36
 ·cases ieq k 39
  ·rfl
  ·rw[sF]
   simp only[o9,l9,o5,o7]
   by_cases g:2≤t.1
   ·rw[F7 g]
    simp only[o5]
    by_cases g4:t.1≤4
    ·rw[F7 g4,F7 (show t.1≤5 by omega)];rfl
    ·rw[F9 (by omega)]
     by_cases g5:t.1=5
     ·rw[E9 g5,F7 (by omega)];rfl
     ·rw[D8 g5,F9 (by omega)];rfl
   ·rw[F9 (by omega),D8 (by omega)];rfl
 ·cases ieq t.1 2 <;> rfl
def Ie (v:V3) (t:Int×Int):Bool:=l7 (plB v) (l7 (ieq v.1 t.1) (ieq v.2.1 t.2) false) false
theorem MQ (v:V3) (t:Int×Int):qK v t=some (Ie v t):=by
 unfold qK Ie;rw[C9,o7]
 cases plB v <;> cases ieq v.1 t.1 <;> rfl
theorem a5h (v:V3) (t:Int×Int):c7T v t=some (Ie v t):=by
 unfold c7T Ie;rw[A8,o7]
 cases plB v <;> cases ieq v.1 t.1 <;> rfl
def vV (k a b:Int) (first:Bool):Int:=l7 (ieq k 36) (A7 .i64 a b) (l7 (ieq k 37) (W9 .i64 a b) (l7 (ieq k 38) (l7 (ilt a b) b a) (l7 first b (l7 (ilt a b) b a))))
theorem a5g (k a b:Int) (f:Bool):c7R k a b f=some (vV k a b f):=by
 unfold c7R vV
 cases ieq k 36 <;> cases ieq k 37 <;> cases ieq k 38 <;> cases f <;> cases ilt a b <;> rfl
def SH (m:List V3) (N:Int) (t:Int×Int):V3⊕Int:=
 match lat m N with
 | none=> .inr 6
 | some x=>l7 (ieq x.1 0) (.inr 6) (l7 (Ie x t) (.inl x) (.inr 8))
def vX (k N:Int) (t:Int×Int) (b:Int×Bool) (m:List V3):(Int×Bool)⊕(V3×Int):=
 match SH m N t with
 | .inr c=> .inr ((0,0,0),c)
 | .inl x=>l7 (plB (t.1,0,vV k b.1 x.2.2 b.2)) (.inl (vV k b.1 x.2.2 b.2,false)) (.inr ((0,0,0),3))
def Vx (k N:Int) (t:Int×Int) (ms:List (List V3)):V3×Int:=
 l7 (En k t) (match U1 (vX k N t) ms (l7 (ieq k 37) 1 0,true)with
  | .inr c=>c
  | .inl a=>l7 (ieq k 39) (l7 (ieq (o8 ms) 0) ((0,0,0),6) (vW (t.1,0,a.1))) (vW (t.1,0,a.1))) ((0,0,0),8)
theorem Bg (k N:Int) (env:U9) (t:Int×Int) (ht:lat env.2.2.2.2.1 N=some t) (h0:0≤N) (hl:env.2.2.2.1.length≤1000000):c7c (k,N) env=some (Vx k N t env.2.2.2.1):=by
 unfold c7c Vx
 simp only[ht,o7,Tj]
 cases En k t
 ·rfl
 simp only[o9,l9,o5]
 rw[show l7 (ieq k 37) (some (1:Int)) (some 0)=some (l7 (ieq k 37) 1 0) by cases ieq k 37 <;> rfl,o7]
 apply fV env.2.2.2.1 (vX k N t) (fun b i=>(((0,0,0),b.1,i):V3×Int×Int)) (fun b=>(((0,0,0),b.1):V3×Int)) (fun i b=>b.2=decide (i=0)) (l7 (ieq k 37) 1 0,true) hl rfl
 ·intro i m b hi hi' hb
  have hm:=F6 env.2.2.2.1 i
  rw[hi]at hm
  have hlt:(i:Int)<o8 env.2.2.2.1:=by
   have:=J7.1 hi;obtain⟨h,_⟩:=this;unfold o8;omega
  simp only[E8 hlt,o5,hm,o7]
  refine⟨?_,?_⟩
  ·unfold vX SH
   by_cases g:o8 m≤N
   ·rw[F7 g,jc (.inr (D9 g))];rfl
   ·rw[F9 (by omega)]
    obtain⟨x,hx,_⟩:=fU h0 (show N<o8 m by omega)
    simp only[l9,hx,o7]
    cases ieq x.1 0
    case true=>rfl
    simp only[l9,o7,D7,a5h]
    cases Ie x t
    ·rfl
    simp only[o9,l9,o5,a5g,o7,H6]
    have hz:ieq (i:Int) 0=b.2:=by rw[hb];unfold ieq;congr 1;simp
    rw[hz]
    unfold vW
    cases plB (t.1,0,vV k b.1 x.2.2 b.2)
    ·rfl
    ·rw[X3 (by omega)];rfl
  ·intro b' hb'
   unfold vX at hb'
   cases hf:SH m N t with
   | inr c=>rw[hf]at hb';cases hb'
   | inl x=>
    rw[hf]at hb'
    simp only at hb'
    cases hp:plB (t.1,0,vV k b.1 x.2.2 b.2) <;> rw[hp]at hb' <;> cases hb'
    simp
 ·intro b hb
  rw[D9 (show o8 env.2.2.2.1≤(env.2.2.2.1.length:Int)from Int.le_refl _)]
  rfl
 ·intro _
  cases U1 (vX k N t) env.2.2.2.1 (l7 (ieq k 37) 1 0,true)with
  | inr c=>rfl
  | inl a=>
   simp only[D7,H6,o7]
   cases ieq k 39 <;> cases ieq (o8 env.2.2.2.1) 0 <;> rfl
theorem XD {x:V3} {t:Int×Int} (h:Ie x t=true):plB x=true∧x.1=t.1∧x.2.1=t.2:=by
 unfold Ie at h
 cases h1:plB x <;> rw[h1]at h
 ·cases h
 cases h2:ieq x.1 t.1 <;> rw[h2]at h
 ·cases h
 simp only[o5]at h
 exact⟨rfl,I9.1 h2,I9.1 h⟩
theorem CX {k:Int} (hk:k=1) {n:Int} (h:plB (k,0,n)=true):n=0∨n=1:=by
 subst hk
 rcases Ye h with⟨m,h,g⟩ | ⟨m,h,g⟩ | ⟨m,h,g⟩ | ⟨m,h,g⟩ | ⟨m,h,g⟩ | ⟨e',m,h,g⟩ <;> cases h
 exact g
theorem Ik {k:Int} {t:Int×Int} (h:En k t=true):t.2=0:=by
 unfold En at h
 cases g:ieq t.2 0 <;> rw[g]at h
 ·cases h
 exact I9.1 g
theorem ZQ {t:Int×Int} (h:En 37 t=true):t.1=1:=by
 have:=Ik h
 unfold En at h
 rw[E9 this]at h
 exact I9.1 h
theorem a2f (k N:Int) (t:Int×Int) (hk:k=36∨k=37∨k=38∨k=39) (ha:En k t=true) (b:Int×Bool) (x:V3) (hx:Ie x t=true) (i:Nat) (hi:i≤1000000) (hb:b.2=decide (i=0)) (hp:k=36∨b.2=true∧k=39∨plB (t.1,0,b.1)=true) (v:V3) (hv:v=(0,0,0)):
  (l7 (ieq k 36) (o6 (aj (t.1,t.2,A7 .i64 b.1 x.2.2)) fun(q:Bool)=>l7 (E5 q) (some (Out.rt (((0,0,0),3):V3×Int))) (some (Out.nx ((v,(t.1,t.2,A7 .i64 b.1 x.2.2),A7 .i64 (i:Int) 1):V3×V3×Int))))
   (l7 (ieq k 37) (some (Out.nx (v,(t.1,t.2,kG b.1 x.2.2),A7 .i64 (i:Int) 1)))
    (l7 (ieq k 38) (some (Out.nx (v,(t.1,t.2,gV b.1 x.2.2),A7 .i64 (i:Int) 1)))
     (l7 (ieq k 39) (l7 (ieq (i:Int) 0) (some (Out.nx (v,x,A7 .i64 (i:Int) 1))) (l7 (ilt b.1 x.2.2) (some (Out.nx (v,x,A7 .i64 (i:Int) 1))) (some (Out.nx (v,(t.1,t.2,b.1),A7 .i64 (i:Int) 1)))))
      (some (Out.nx (v,(t.1,t.2,b.1),A7 .i64 (i:Int) 1)))))):Option (Out (V3×V3×Int) (V3×V3) (V3×Int)))=
  some (match(l7 (plB (t.1,0,vV k b.1 x.2.2 b.2)) (.inl (vV k b.1 x.2.2 b.2,false)) (.inr ((0,0,0),3)):(Int×Bool)⊕(V3×Int))with | .inl b' => .nx ((0,0,0),(t.1,t.2,b'.1),((i+1:Nat):Int)) | .inr r=> .rt r)∧
  (k≠36→plB (t.1,0,vV k b.1 x.2.2 b.2)=true):=by
 subst hv
 have hz:=Ik ha
 obtain⟨hx1,hx2,hx3⟩:=XD hx
 have hxe:x=(t.1,t.2,x.2.2):=by rw[←hx2,←hx3]
 have hxp:plB (t.1,0,x.2.2)=true:=by rw[←hz,←hxe];exact hx1
 obtain⟨acc,fi⟩:=b
 simp only at hb hp ⊢
 rw[X3 (by omega)]
 rcases hk with rfl | rfl | rfl | rfl
 ·refine⟨?_,fun h=>absurd rfl h⟩
  simp (disch:=decide) only[E9,o5,C9,o7]
  rw[hz,show vV 36 acc x.2.2 fi=A7 .i64 acc x.2.2 from rfl]
  cases plB (t.1,0,A7 .i64 acc x.2.2) <;> rfl
 ·have ht1:=ZQ ha
  have hp' :plB (t.1,0,acc)=true:=by
   rcases hp with h | h | h
   ·exact absurd h (by decide)
   ·exact absurd h.2 (by decide)
   ·exact h
  have e1:=CX ht1 hp'
  have e2:=CX ht1 hxp
  have e3:vV 37 acc x.2.2 fi=kG acc x.2.2∧plB (t.1,0,vV 37 acc x.2.2 fi)=true:=by
   rw[ht1]
   generalize x.2.2=q at e2 ⊢
   rcases e1 with rfl | rfl <;> rcases e2 with rfl | rfl <;> exact⟨rfl,rfl⟩
  refine⟨?_,fun _=>e3.2⟩
  simp (disch:=decide) only[E9,D8,o5,l9]
  rw[e3.2,e3.1,o5]
 ·have ht1:t.1=1:=by
   unfold En at ha
   rw[E9 hz]at ha
   exact I9.1 ha
  have hp' :plB (t.1,0,acc)=true:=by
   rcases hp with h | h | h
   ·exact absurd h (by decide)
   ·exact absurd h.2 (by decide)
   ·exact h
  have e1:=CX ht1 hp'
  have e2:=CX ht1 hxp
  have e3:vV 38 acc x.2.2 fi=gV acc x.2.2∧plB (t.1,0,vV 38 acc x.2.2 fi)=true:=by
   rw[ht1]
   generalize x.2.2=q at e2 ⊢
   rcases e1 with rfl | rfl <;> rcases e2 with rfl | rfl <;> exact⟨rfl,rfl⟩
  refine⟨?_,fun _=>e3.2⟩
  simp (disch:=decide) only[E9,D8,o5,l9]
  rw[e3.2,e3.1,o5]
 ·have hf:vV 39 acc x.2.2 fi=l7 fi x.2.2 (l7 (ilt acc x.2.2) x.2.2 acc):=rfl
  simp (disch:=decide) only[E9,D8,o5,l9]
  rw[hf]
  have hz' :ieq (i:Int) 0=fi:=by rw[hb];unfold ieq;congr 1;simp
  rw[hz']
  cases fi
  case true=>
   simp only[o5,hxp]
   exact⟨by rw[←hxe],fun _=>trivial⟩
  case false=>
   have hp' :plB (t.1,0,acc)=true:=by
    rcases hp with h | h | h
    ·exact absurd h (by decide)
    ·exact absurd h.1 (by simp)
    ·exact h
   simp only[l9]
   cases ilt acc x.2.2
   ·simp only[l9,hp',o5];exact⟨trivial,fun _=>trivial⟩
   ·simp only[o5,hxp];exact⟨by rw[←hxe],fun _=>trivial⟩
theorem a1v {γ:Type} (c:Option γ) (K:γ→Option (V3×Int)):a1u (o6 c K)=o6 c fun o=>a1u (K o):=by cases c <;> rfl
theorem nO {α β ρ:Type} (G:β→α→β⊕ρ) (P:ρ→Prop) (hG:∀b a r,G b a= .inr r→P r):∀(l:List α) (b:β) (r:ρ),U1 G l b= .inr r→P r
 | [],b,r,h=>by cases h
 | a::l,b,r,h=>by
  unfold U1 at h
  cases hg:G b a with
  | inr r' =>rw[hg]at h;simp only at h;cases h;exact hG _ _ _ hg
  | inl b' =>rw[hg]at h;exact nO G P hG l b' r h
theorem a4f (k N:Int) (t:Int×Int) (b:Int×Bool) (m:List V3) (r:V3×Int) (h:vX k N t b m= .inr r):r=((0,0,0),6)∨r=((0,0,0),8)∨r=((0,0,0),3):=by
 unfold vX at h
 cases hf:SH m N t with
 | inr c=>
  rw[hf]at h;simp only at h;cases h
  unfold SH at hf
  cases hm:lat m N with
  | none=>rw[hm]at hf;cases hf;exact .inl rfl
  | some x=>
   rw[hm]at hf;simp only at hf
   cases h1:ieq x.1 0 <;> rw[h1]at hf
   ·cases h2:Ie x t <;> rw[h2]at hf <;> cases hf
    exact .inr (.inl rfl)
   ·cases hf;exact .inl rfl
 | inl x=>
  rw[hf]at h;simp only at h
  cases h1:plB (t.1,0,vV k b.1 x.2.2 b.2) <;> rw[h1]at h <;> cases h
  exact .inr (.inr rfl)
theorem Kv (k N:Int) (env:U9) (hk:k=36∨k=37∨k=38∨k=39) (he:aS (k,N) env=some true) (hl:env.2.2.2.1.length≤1000000):aP (k,N) [] env:=by
 have hN:0≤N∧N<o8 env.2.2.2.2.1:=by
  unfold aS at he
  rcases hk with rfl | rfl | rfl | rfl <;>
  ·simp (disch:=decide) only[E9,D8,o5,l9,o7]at he
   by_cases g:0≤N
   case neg=>rw[F9 (by omega)]at he;cases he
   rw[F7 g,o5]at he
   exact⟨g,bW.1 (Option.some.inj he)⟩
 obtain⟨t,ht,_⟩:=fU hN.1 hN.2
 refine⟨Vx k N t env.2.2.2.1,?_,?_⟩
 ·unfold RP
  rw[ll0,show ile 36 k=true from F7 (by omega),show ile k 39=true from F7 (by omega),Bg k N env t ht hN.1 hl]
  rfl
 have hA:L9 (k,N) [] env=some (En k t):=by
  unfold L9
  rcases hk with rfl | rfl | rfl | rfl <;>
  ·simp (disch:=decide) only[E9,D8,o5,l9,o7,ht,PD,G5]
 have hC:N7 (k,N) [] env=jU (k,N) env:=by
  unfold N7
  rcases hk with rfl | rfl | rfl | rfl <;>
  ·simp (disch:=decide) only[E9,D8,o5,l9,o7]
   generalize jU _ env=o
   cases o <;> rfl
 unfold EP
 rw[hA,o7,hC]
 unfold Vx
 cases ha:En k t
 ·rfl
 simp only[o9,l9,o5]
 have hz:=Ik ha
 unfold jU
 simp only[ht,o7]
 rw[show l7 (ieq k 37) (some (t.1,t.2,(1:Int))) (some (t.1,t.2,0))=some (t.1,t.2,l7 (ieq k 37) 1 0) by cases ieq k 37 <;> rfl,o7]
 have hinit:k=36∨(true=true∧k=39)∨plB (t.1,0,l7 (ieq k 37) 1 0)=true:=by
  rcases hk with rfl | rfl | rfl | rfl
  ·exact .inl rfl
  ·right;right;rw[ZQ ha];rfl
  ·right;right
   have ht1:t.1=1:=by
    unfold En at ha
    rw[E9 hz]at ha
    exact I9.1 ha
   rw[ht1];rfl
  ·exact .inr (.inl ⟨rfl,rfl⟩)
 by_cases hz0:k=39∧o8 env.2.2.2.1=0
 ·rw[E9 hz0.1,E9 hz0.2]
  have:env.2.2.2.1=[]:=by have:=hz0.2;unfold o8 at this;exact List.length_eq_zero_iff.1 (by omega)
  rw[this];rfl
 rw[show(l7 (ieq k 39) (l7 (ieq (o8 env.2.2.2.1) 0) (some (Sum.inr (((0,0,0),6):V3×Int))) (some (Sum.inl ((0,0,0):V3)))) (some (Sum.inl (0,0,0))))=some (.inl (0,0,0)) by
  by_cases h1:k=39
  ·rw[E9 h1,D8 (fun h=>hz0 ⟨h1,h⟩)];rfl
  ·rw[D8 h1];rfl]
 simp only[o7,D7]
 have hend:(match U1 (vX k N t) env.2.2.2.1 (l7 (ieq k 37) 1 0,true)with
  | .inr c=>c
  | .inl a=>l7 (ieq k 39) (l7 (ieq (o8 env.2.2.2.1) 0) ((0,0,0),6) (vW (t.1,0,a.1))) (vW (t.1,0,a.1)))=(match U1 (vX k N t) env.2.2.2.1 (l7 (ieq k 37) 1 0,true)with
  | .inr c=>c
  | .inl a=>vW (t.1,0,a.1)):=by
  cases U1 (vX k N t) env.2.2.2.1 (l7 (ieq k 37) 1 0,true)with
  | inr c=>rfl
  | inl a=>
   by_cases h1:k=39
   ·rw[E9 h1,D8 (fun h=>hz0 ⟨h1,h⟩)];rfl
   ·rw[D8 h1];rfl
 refine Eq.trans ?_ (congrArg some hend.symm)
 rw[a1v]
 apply fV env.2.2.2.1 (vX k N t) (fun b i=>(((0,0,0),(t.1,t.2,b.1),i):V3×V3×Int)) (fun b=>(((0,0,0),(t.1,t.2,b.1)):V3×V3)) (fun i b=>b.2=decide (i=0)∧(k=36∨(b.2=true∧k=39)∨plB (t.1,0,b.1)=true)) (l7 (ieq k 37) 1 0,true) hl ⟨rfl,hinit⟩
 ·intro i m b hi hi' hb
  have hm:=F6 env.2.2.2.1 i
  rw[hi]at hm
  have hlt:(i:Int)<o8 env.2.2.2.1:=by
   have:=J7.1 hi;obtain⟨h,_⟩:=this;unfold o8;omega
  simp only[E8 hlt,o5,hm,o7]
  by_cases g:o8 m≤N
  ·have e:vX k N t b m= .inr ((0,0,0),6):=by unfold vX SH;rw[jc (.inr (D9 g))]
   rw[e]
   refine⟨?_,fun _ h=>by cases h⟩
   rw[F7 g];rfl
  rw[F9 (by omega)]
  obtain⟨x,hx,_⟩:=fU hN.1 (show N<o8 m by omega)
  simp only[l9,hx,o7]
  cases h0:ieq x.1 0
  case true=>
   have e:vX k N t b m= .inr ((0,0,0),6):=by unfold vX SH;rw[hx];simp only[h0];rfl
   rw[e]
   exact⟨rfl,fun _ h=>by cases h⟩
  simp only[l9,o7,D7,MQ]
  cases hh:Ie x t
  ·have e:vX k N t b m= .inr ((0,0,0),8):=by unfold vX SH;rw[hx];simp only[h0,hh];rfl
   rw[e]
   exact⟨rfl,fun _ h=>by cases h⟩
  have e:vX k N t b m=l7 (plB (t.1,0,vV k b.1 x.2.2 b.2)) (.inl (vV k b.1 x.2.2 b.2,false)) (.inr ((0,0,0),3)):=by unfold vX SH;rw[hx];simp only[h0,hh,o5,l9]
  obtain⟨s1,s2⟩:=a2f k N t hk ha b x hh i hi' hb.1 hb.2 (0,0,0) rfl
  refine⟨?_,?_⟩
  ·rw[e,o9,l9]
   refine Eq.trans (Eq.trans ?_ s1) ?_
   ·rfl
   ·cases plB (t.1,0,vV k b.1 x.2.2 b.2) <;> rfl
  ·intro b' hb'
   rw[e]at hb'
   cases hp:plB (t.1,0,vV k b.1 x.2.2 b.2) <;> rw[hp]at hb' <;> cases hb'
   exact⟨by simp,.inr (.inr hp)⟩
 ·intro b hb
  rw[D9 (show o8 env.2.2.2.1≤(env.2.2.2.1.length:Int)from Int.le_refl _)]
  rfl
 ·intro hf
  cases hq:U1 (vX k N t) env.2.2.2.1 (l7 (ieq k 37) 1 0,true)with
  | inr c=>
   rcases nO (vX k N t) (fun r=>r=((0,0,0),6)∨r=((0,0,0),8)∨r=((0,0,0),3)) (a4f k N t) _ _ _ hq with rfl | rfl | rfl <;> rfl
  | inl a=>
   simp only[D7,F5,J4,hz]
theorem a0f {k e n:Int} (hk:k=5) (h:plB (k,e,n)=true):0≤n∧n≤109572:=by
 subst hk
 rcases Ye h with⟨m,h,g⟩ | ⟨m,h,g⟩ | ⟨m,h,g⟩ | ⟨m,h,g⟩ | ⟨m,h,g⟩ | ⟨e',m,h,g⟩ <;> cases h
 exact g
theorem b3o (N:Int) (x:V3) (env:U9):aP (10,N) [x] env:=by
 unfold aP RP EP c6Z L9 N7 uX ja
 simp (disch:=decide) only[E9,D8,F7,F9,E8,D9,o5,l9,o7,D7,G5,o9,D6,ll0,ll1,ll2,ll3,la0,la1,la2,H6,I5,A8,C9,F5,J4,F8,G7,G6]
 simp only[vN,sF,o7]
 cases l7 (ile 2 x.1) (ile x.1 4) false
 ·exact⟨_,rfl,rfl⟩
 ·simp (disch:=decide) only[E9,D8,F7,F9,E8,D9,o5,l9,o7,D7,G5,o9,D6,ll0,ll1,ll2,ll3,la0,la1,la2,H6,I5,A8,C9,F5,J4,F8,G7,G6];exact⟨_,rfl,rfl⟩
theorem b3t (N:Int) (x:V3) (env:U9):aP (25,N) [x] env:=by
 unfold aP RP EP c6Z L9 N7 uX ja
 simp (disch:=decide) only[E9,D8,F7,F9,E8,D9,o5,l9,o7,D7,G5,o9,D6,ll0,ll1,ll2,ll3,la0,la1,la2,H6,I5,A8,C9,F5,J4,F8,G7,G6]
 cases ieq x.1 1
 ·exact⟨_,rfl,rfl⟩
 ·simp (disch:=decide) only[E9,D8,F7,F9,E8,D9,o5,l9,o7,D7,G5,o9,D6,ll0,ll1,ll2,ll3,la0,la1,la2,H6,I5,A8,C9,F5,J4,F8,G7,G6];exact⟨_,rfl,rfl⟩
theorem Zo (k N:Int) (x:V3) (env:U9) (hk:k=31∨k=32) (hx:plB x=true):aP (k,N) [x] env:=by
 have hAB:∃q:Int×Int×Int,x.1=5→mf x.2.2=some q∧c7A x.2.2=some q:=⟨_,fun h=>⟨sS (a0f h hx).1 (a0f h hx).2,Bi (a0f h hx).1 (a0f h hx).2⟩⟩
 obtain⟨q,hAB⟩:=hAB
 rcases hk with rfl | rfl
 all_goals
  unfold aP RP EP c6Z L9 N7 uX ja
  simp (disch:=decide) only[E9,D8,F7,F9,E8,D9,o5,l9,o7,D7,G5,o9,D6,ll0,ll1,ll2,ll3,la0,la1,la2,H6,I5,A8,C9,F5,J4,F8,G7,G6]
  cases h5:ieq x.1 5
  ·simp only[D6,o5,o7,G5];exact⟨_,rfl,rfl⟩
  rw[(hAB (I9.1 h5)).1,(hAB (I9.1 h5)).2]
  simp (disch:=decide) only[E9,D8,F7,F9,E8,D9,o5,l9,o7,D7,G5,o9,D6,ll0,ll1,ll2,ll3,la0,la1,la2,H6,I5,A8,C9,F5,J4,F8,G7,G6]
  exact⟨_,rfl,rfl⟩
theorem b3y (N:Int) (x:V3) (env:U9) (hx:plB x=true) (he:aS (33,N) env=some true) (ht:∀t∈env.2.2.2.2.2,kK t):aP (33,N) [x] env:=by
 unfold aS at he
 simp (disch:=decide) only[E9,D8,o5,l9,o7]at he
 by_cases g:0≤N
 case neg=>rw[F9 (by omega)]at he;cases he
 rw[F7 g,o5]at he
 obtain⟨t,hq,hm⟩:=fU g (bW.1 (Option.some.inj he))
 have hr:=ht t hm
 unfold aP RP EP c6Z L9 N7 c7S
 simp (disch:=decide) only[E9,D8,F7,F9,E8,D9,o5,l9,o7,D7,G5,o9,D6,ll0,ll1,ll2,ll3,la0,la1,la2,H6,I5,A8,C9,F5,J4,F8,G7,G6]
 simp only[hq,o7,MQ,Ie,hx,o5]
 by_cases h1:x.1=t.2.1.1
 case neg=>rw[D8 h1];exact⟨_,rfl,rfl⟩
 rw[E9 h1]
 by_cases h2:x.2.1=t.2.1.2
 case neg=>rw[D8 h2];exact⟨_,rfl,rfl⟩
 rw[E9 h2]
 by_cases h3:1≤t.2.2.1.1
 case neg=>rw[F9 (Int.not_le.1 h3),E8 (Int.not_le.1 h3)];exact⟨_,rfl,rfl⟩
 rw[F7 h3,D9 h3]
 by_cases h4:t.2.2.1.1≤6
 case neg=>rw[F9 (Int.not_le.1 h4),E8 (Int.not_le.1 h4)];exact⟨_,rfl,rfl⟩
 rw[F7 h4,D9 h4]
 simp (disch:=decide) only[E9,D8,F7,F9,E8,D9,o5,l9,o7,D7,G5,o9,D6,ll0,ll1,ll2,ll3,la0,la1,la2,H6,I5,A8,C9,F5,J4,F8,G7,G6]
 rw[a1K _ _ (by have:=hr.1;omega),Yi _ _ (by have:=hr.1;omega)]
 simp (disch:=decide) only[E9,D8,F7,F9,E8,D9,o5,l9,o7,D7,G5,o9,D6,ll0,ll1,ll2,ll3,la0,la1,la2,H6,I5,A8,C9,F5,J4,F8,G7,G6]
 cases hl:Nl t.2.2.2 env.1 x.2.2 with
 | mk i b=>
  cases b
  ·exact⟨_,rfl,rfl⟩
  ·obtain⟨l1,l2⟩:=a4a hl
   obtain⟨row,hrow,_⟩:=fU l1 l2
   simp (disch:=decide) only[E9,D8,F7,F9,E8,D9,o5,l9,o7,D7,G5,o9,D6,ll0,ll1,ll2,ll3,la0,la1,la2,H6,I5,A8,C9,F5,J4,F8,G7,G6]
   rw[hrow]
   simp (disch:=decide) only[E9,D8,F7,F9,E8,D9,o5,l9,o7,D7,G5,o9,D6,ll0,ll1,ll2,ll3,la0,la1,la2,H6,I5,A8,C9,F5,J4,F8,G7,G6]
   unfold vW
   cases plB (t.2.2.1.1,t.2.2.1.2,row.2.2.2) <;> exact⟨_,rfl,rfl⟩
theorem b3z (N:Int) (x:V3) (env:U9) (h0:0≤N) (hI:N≤9223372036854775807) (he:aS (34,N) env=some true) (ht:∀t∈env.2.2.2.2.2,kK t):aP (34,N) [x] env:=by
 unfold aS at he
 simp (disch:=decide) only[E9,D8,o5,l9,o7]at he
 have hq0:0≤aN .i64 N 8:=by
  rw[show aN .i64 N 8=N / 8 by
   unfold aN;rw[Int.tdiv_eq_ediv_of_nonneg h0];exact dM (by unfold I64;omega)]
  omega
 obtain⟨t,hq,hm⟩:=fU hq0 (bW.1 (Option.some.inj he))
 have hr:=ht t hm
 unfold aP RP EP c6Z L9 N7
 simp (disch:=decide) only[E9,D8,F7,F9,E8,D9,o5,l9,o7,D7,G5,o9,D6,ll0,ll1,ll2,ll3,la0,la1,la2,H6,I5,A8,C9,F5,J4,F8,G7,G6]
 simp only[hq,o7]
 cases ieq x.1 3
 ·exact⟨_,rfl,rfl⟩
 cases ieq t.2.1.1 3
 ·exact⟨_,rfl,rfl⟩
 cases ieq t.2.1.2 0
 ·exact⟨_,rfl,rfl⟩
 cases ieq t.2.2.1.1 4
 ·exact⟨_,rfl,rfl⟩
 cases ieq t.2.2.1.2 0
 ·exact⟨_,rfl,rfl⟩
 simp (disch:=decide) only[E9,D8,F7,F9,E8,D9,o5,l9,o7,D7,G5,o9,D6,ll0,ll1,ll2,ll3,la0,la1,la2,H6,I5,A8,C9,F5,J4,F8,G7,G6]
 rw[show V8 true true=true from rfl]
 simp (disch:=decide) only[E9,D8,F7,F9,E8,D9,o5,l9,o7,D7,G5,o9,D6,ll0,ll1,ll2,ll3,la0,la1,la2,H6,I5,A8,C9,F5,J4,F8,G7,G6]
 rw[Ut _ _ _ hr,Tm _ _ _ hr]
 simp (disch:=decide) only[E9,D8,F7,F9,E8,D9,o5,l9,o7,D7,G5,o9,D6,ll0,ll1,ll2,ll3,la0,la1,la2,H6,I5,A8,C9,F5,J4,F8,G7,G6]
 exact⟨_,rfl,rfl⟩
theorem KO (x y:V3):jy x y=some (l7 (ieq x.1 y.1) (ieq x.2.1 y.2.1) false):=by
 unfold jy;cases ieq x.1 y.1 <;> rfl
theorem Zm (k N:Int) (x y:V3) (env:U9) (hk:k=11∨k=12):aP (k,N) [x,y] env:=by
 rcases hk with rfl | rfl
 all_goals
  (unfold aP RP EP L9 N7 bH P6 c6O;simp (disch:=decide) only[E9,D8,F7,F9,E8,D9,o5,l9,o7,D7,G5,o9,D6,ll0,ll1,ll2,ll3,la0,la1,la2,H6,I5,A8,C9,F5,J4,F8,G7,G6])
  unfold c7e
  simp (disch:=decide) only[E9,D8,F7,F9,E8,D9,o5,l9,o7,D7,G5,o9,D6,ll0,ll1,ll2,ll3,la0,la1,la2,H6,I5,A8,C9,F5,J4,F8,G7,G6]
  simp only[KO,sF,vN,o7]
  cases ieq x.1 y.1
  ·exact⟨_,rfl,rfl⟩
  cases ieq x.2.1 y.2.1
  ·exact⟨_,rfl,rfl⟩
  cases l7 (ile 2 x.1) (ile x.1 4) false
  ·exact⟨_,rfl,rfl⟩
  simp (disch:=decide) only[E9,D8,F7,F9,E8,D9,o5,l9,o7,D7,G5,o9,D6,ll0,ll1,ll2,ll3,la0,la1,la2,H6,I5,A8,C9,F5,J4,F8,G7,G6]
  exact⟨_,rfl,rfl⟩
theorem a2U (k N:Int) (x y:V3) (env:U9) (hk:k=19∨k=20):aP (k,N) [x,y] env:=by
 rcases hk with rfl | rfl
 all_goals
  (unfold aP RP EP L9 N7 bH P6 c6O;simp (disch:=decide) only[E9,D8,F7,F9,E8,D9,o5,l9,o7,D7,G5,o9,D6,ll0,ll1,ll2,ll3,la0,la1,la2,H6,I5,A8,C9,F5,J4,F8,G7,G6])
  unfold c7e
  simp (disch:=decide) only[E9,D8,F7,F9,E8,D9,o5,l9,o7,D7,G5,o9,D6,ll0,ll1,ll2,ll3,la0,la1,la2,H6,I5,A8,C9,F5,J4,F8,G7,G6]
  simp only[KO,sF,vN,o7]
  cases ieq x.1 y.1
  ·exact⟨_,rfl,rfl⟩
  cases ieq x.2.1 y.2.1
  ·exact⟨_,rfl,rfl⟩
  simp (disch:=decide) only[E9,D8,F7,F9,E8,D9,o5,l9,o7,D7,G5,o9,D6,ll0,ll1,ll2,ll3,la0,la1,la2,H6,I5,A8,C9,F5,J4,F8,G7,G6]
  exact⟨_,rfl,rfl⟩
theorem Zn (k N:Int) (x y:V3) (env:U9) (hk:k=21∨k=22):aP (k,N) [x,y] env:=by
 rcases hk with rfl | rfl
 all_goals
  (unfold aP RP EP L9 N7 bH P6 c6O;simp (disch:=decide) only[E9,D8,F7,F9,E8,D9,o5,l9,o7,D7,G5,o9,D6,ll0,ll1,ll2,ll3,la0,la1,la2,H6,I5,A8,C9,F5,J4,F8,G7,G6])
  unfold c7e
  simp (disch:=decide) only[E9,D8,F7,F9,E8,D9,o5,l9,o7,D7,G5,o9,D6,ll0,ll1,ll2,ll3,la0,la1,la2,H6,I5,A8,C9,F5,J4,F8,G7,G6]
  simp only[KO,sF,vN,o7]
  cases ieq x.1 y.1
  ·exact⟨_,rfl,rfl⟩
  cases ieq x.2.1 y.2.1
  ·exact⟨_,rfl,rfl⟩
  simp (disch:=decide) only[E9,D8,F7,F9,E8,D9,o5,l9,o7,D7,G5,o9,D6,ll0,ll1,ll2,ll3,la0,la1,la2,H6,I5,A8,C9,F5,J4,F8,G7,G6]
  cases l7 (ile 2 x.1) (ile x.1 4) false
  ·simp (disch:=decide) only[E9,D8,F7,F9,E8,D9,o5,l9,o7,D7,G5,o9,D6,ll0,ll1,ll2,ll3,la0,la1,la2,H6,I5,A8,C9,F5,J4,F8,G7,G6]
   cases ieq x.1 5
   ·exact⟨_,rfl,rfl⟩
   simp (disch:=decide) only[E9,D8,F7,F9,E8,D9,o5,l9,o7,D7,G5,o9,D6,ll0,ll1,ll2,ll3,la0,la1,la2,H6,I5,A8,C9,F5,J4,F8,G7,G6]
   exact⟨_,rfl,rfl⟩
  simp (disch:=decide) only[E9,D8,F7,F9,E8,D9,o5,l9,o7,D7,G5,o9,D6,ll0,ll1,ll2,ll3,la0,la1,la2,H6,I5,A8,C9,F5,J4,F8,G7,G6]
  exact⟨_,rfl,rfl⟩
theorem Lc (k N:Int) (x y:V3) (env:U9) (hk:k=17∨k=18) (hx:plB x=true) (hy:plB y=true):aP (k,N) [x,y] env:=by
 have mx:vW x=(x,0):=by unfold vW;rw[hx];rfl
 have my:vW y=(y,0):=by unfold vW;rw[hy];rfl
 have hE:x.1=y.1→x.2.1=y.2.1→x.2.2=y.2.2→x=y:=fun h1 h2 h3=>by rw[show x=(x.1,x.2.1,x.2.2)from rfl,h1,h2,h3]
 have fin:x.1=y.1→x.2.1=y.2.1→∀b:Bool,(∃r:V3×Int,l7 (bZ b (ilt x.2.2 y.2.2)) (some (x,0)) (some (y,0))=some r∧a1u (l7 (bZ b (ilt y.2.2 x.2.2)) (some (y,0)) (some (x,0)))=some r):=by
  intro h1 h2 b
  by_cases g:x.2.2<y.2.2
  ·rw[E8 g,D9 (Int.le_of_lt g)]
   cases b
   ·exact⟨(y,0),rfl,by rw[show l7 (bZ false false) (some (y,(0:Int))) (some (x,0))=some (y,0)from rfl,F5,J4,my]⟩
   ·exact⟨(x,0),rfl,by rw[show l7 (bZ true false) (some (y,(0:Int))) (some (x,0))=some (x,0)from rfl,F5,J4,mx]⟩
  by_cases g' :y.2.2<x.2.2
  ·rw[E8 g',D9 (Int.le_of_lt g')]
   cases b
   ·exact⟨(x,0),rfl,by rw[show l7 (bZ false true) (some (y,(0:Int))) (some (x,0))=some (x,0)from rfl,F5,J4,mx]⟩
   ·exact⟨(y,0),rfl,by rw[show l7 (bZ true true) (some (y,(0:Int))) (some (x,0))=some (y,0)from rfl,F5,J4,my]⟩
  have e:=hE h1 h2 (Int.le_antisymm (Int.not_lt.1 g') (Int.not_lt.1 g))
  refine⟨(x,0),?_,?_⟩
  ·rw[e];cases bZ b (ilt y.2.2 y.2.2) <;> rfl
  ·rw[←e]
   rw[show l7 (bZ b (ilt x.2.2 x.2.2)) (some (x,(0:Int))) (some (x,0))=some (x,0) by cases bZ b (ilt x.2.2 x.2.2) <;> rfl,F5,J4,mx]
 have osum:∀(c:Bool),(o6 (l7 c (some (Sum.inr (y,(0:Int)):V3⊕(V3×Int))) (some (.inr (x,0)))) fun o=>X6 o (fun _=>o6 (fH x.2.2 y.2.2) fun(q:Int)=>some ((2,0,q),(0:Int))) fun r=>some r)=l7 c (some (y,0)) (some (x,0)):=fun c=>by cases c <;> rfl
 rcases hk with rfl | rfl
 all_goals
  (unfold aP RP EP L9 N7 bH P6 c6O;simp (disch:=decide) only[E9,D8,F7,F9,E8,D9,o5,l9,o7,D7,G5,o9,D6,ll0,ll1,ll2,ll3,la0,la1,la2,H6,I5,A8,C9,F5,J4,F8,G7,G6])
  unfold c7e
  simp (disch:=decide) only[E9,D8,F7,F9,E8,D9,o5,l9,o7,D7,G5,o9,D6,ll0,ll1,ll2,ll3,la0,la1,la2,H6,I5,A8,C9,F5,J4,F8,G7,G6]
  simp only[KO,sF,vN,o7]
  cases g1:ieq x.1 y.1
  ·exact⟨_,rfl,rfl⟩
  cases g2:ieq x.2.1 y.2.1
  ·exact⟨_,rfl,rfl⟩
  simp (disch:=decide) only[E9,D8,F7,F9,E8,D9,o5,l9,o7,D7,G5,o9,D6,ll0,ll1,ll2,ll3,la0,la1,la2,H6,I5,A8,C9,F5,J4,F8,G7,G6]
  have F:=fin (I9.1 g1) (I9.1 g2)
  rw[osum]
  cases l7 (ile 2 x.1) (ile x.1 4) false
  ·simp (disch:=decide) only[E9,D8,F7,F9,E8,D9,o5,l9,o7,D7,G5,o9,D6,ll0,ll1,ll2,ll3,la0,la1,la2,H6,I5,A8,C9,F5,J4,F8,G7,G6]
   cases ieq x.1 5
   ·exact⟨_,rfl,rfl⟩
   simp (disch:=decide) only[E9,D8,F7,F9,E8,D9,o5,l9,o7,D7,G5,o9,D6,ll0,ll1,ll2,ll3,la0,la1,la2,H6,I5,A8,C9,F5,J4,F8,G7,G6]
   simp only[bT];first | exact F true | exact F false
  simp (disch:=decide) only[E9,D8,F7,F9,E8,D9,o5,l9,o7,D7,G5,o9,D6,ll0,ll1,ll2,ll3,la0,la1,la2,H6,I5,A8,C9,F5,J4,F8,G7,G6]
  simp only[bT];first | exact F true | exact F false
theorem b3u (N:Int) (x y:V3) (env:U9):aP (27,N) [x,y] env:=by
 (unfold aP RP EP L9 N7 bH P6 c6O;simp (disch:=decide) only[E9,D8,F7,F9,E8,D9,o5,l9,o7,D7,G5,o9,D6,ll0,ll1,ll2,ll3,la0,la1,la2,H6,I5,A8,C9,F5,J4,F8,G7,G6])
 unfold c7t
 simp (disch:=decide) only[E9,D8,F7,F9,E8,D9,o5,l9,o7,D7,G5,o9,D6,ll0,ll1,ll2,ll3,la0,la1,la2,H6,I5,A8,C9,F5,J4,F8,G7,G6]
 cases g1:ieq x.1 5
 ·exact⟨_,rfl,rfl⟩
 cases ieq y.1 2
 ·exact⟨_,rfl,rfl⟩
 simp (disch:=decide) only[E9,D8,F7,F9,E8,D9,o5,l9,o7,D7,G5,o9,D6,ll0,ll1,ll2,ll3,la0,la1,la2,H6,I5,A8,C9,F5,J4,F8,G7,G6]
 rw[I9.1 g1]
 exact⟨_,rfl,rfl⟩
theorem b3v (N:Int) (x y:V3) (env:U9):aP (28,N) [x,y] env:=by
 have hA:∃q,jS x.2.2 y.2.2=some q∧c6Y x.2.2 y.2.2=some q:=⟨_,EL _ _,DL _ _⟩
 obtain⟨q,h1,h2⟩:=hA
 (unfold aP RP EP L9 N7 bH P6 c6O;simp (disch:=decide) only[E9,D8,F7,F9,E8,D9,o5,l9,o7,D7,G5,o9,D6,ll0,ll1,ll2,ll3,la0,la1,la2,H6,I5,A8,C9,F5,J4,F8,G7,G6])
 unfold c7t
 simp (disch:=decide) only[E9,D8,F7,F9,E8,D9,o5,l9,o7,D7,G5,o9,D6,ll0,ll1,ll2,ll3,la0,la1,la2,H6,I5,A8,C9,F5,J4,F8,G7,G6]
 cases g1:ieq x.1 5
 ·exact⟨_,rfl,rfl⟩
 cases ieq y.1 2
 ·exact⟨_,rfl,rfl⟩
 simp (disch:=decide) only[E9,D8,F7,F9,E8,D9,o5,l9,o7,D7,G5,o9,D6,ll0,ll1,ll2,ll3,la0,la1,la2,H6,I5,A8,C9,F5,J4,F8,G7,G6]
 rw[h1,h2]
 simp (disch:=decide) only[E9,D8,F7,F9,E8,D9,o5,l9,o7,D7,G5,o9,D6,ll0,ll1,ll2,ll3,la0,la1,la2,H6,I5,A8,C9,F5,J4,F8,G7,G6]
 exact⟨_,rfl,rfl⟩
theorem b3w (N:Int) (x y:V3) (env:U9):aP (29,N) [x,y] env:=by
 (unfold aP RP EP L9 N7 bH P6 c6O;simp (disch:=decide) only[E9,D8,F7,F9,E8,D9,o5,l9,o7,D7,G5,o9,D6,ll0,ll1,ll2,ll3,la0,la1,la2,H6,I5,A8,C9,F5,J4,F8,G7,G6])
 unfold c7t
 simp (disch:=decide) only[E9,D8,F7,F9,E8,D9,o5,l9,o7,D7,G5,o9,D6,ll0,ll1,ll2,ll3,la0,la1,la2,H6,I5,A8,C9,F5,J4,F8,G7,G6]
 cases g1:ieq x.1 5
 ·exact⟨_,rfl,rfl⟩
 cases ieq y.1 5
 ·exact⟨_,rfl,rfl⟩
 simp (disch:=decide) only[E9,D8,F7,F9,E8,D9,o5,l9,o7,D7,G5,o9,D6,ll0,ll1,ll2,ll3,la0,la1,la2,H6,I5,A8,C9,F5,J4,F8,G7,G6]
 exact⟨_,rfl,rfl⟩
theorem b3x (N:Int) (x y:V3) (env:U9):aP (30,N) [x,y] env:=by
 have hA:∃q,fH x.2.2 y.2.2=some q∧c7f x.2.2 y.2.2=some q:=⟨_,Ku _ _,IC _ _⟩
 obtain⟨q,h1,h2⟩:=hA
 (unfold aP RP EP L9 N7 bH P6 c6O;simp (disch:=decide) only[E9,D8,F7,F9,E8,D9,o5,l9,o7,D7,G5,o9,D6,ll0,ll1,ll2,ll3,la0,la1,la2,H6,I5,A8,C9,F5,J4,F8,G7,G6])
 unfold c7t
 simp (disch:=decide) only[E9,D8,F7,F9,E8,D9,o5,l9,o7,D7,G5,o9,D6,ll0,ll1,ll2,ll3,la0,la1,la2,H6,I5,A8,C9,F5,J4,F8,G7,G6]
 cases g1:ieq x.1 5
 ·exact⟨_,rfl,rfl⟩
 cases ieq y.1 5
 ·exact⟨_,rfl,rfl⟩
 simp (disch:=decide) only[E9,D8,F7,F9,E8,D9,o5,l9,o7,D7,G5,o9,D6,ll0,ll1,ll2,ll3,la0,la1,la2,H6,I5,A8,C9,F5,J4,F8,G7,G6]
 rw[h1,h2]
 simp (disch:=decide) only[E9,D8,F7,F9,E8,D9,o5,l9,o7,D7,G5,o9,D6,ll0,ll1,ll2,ll3,la0,la1,la2,H6,I5,A8,C9,F5,J4,F8,G7,G6]
 exact⟨_,rfl,rfl⟩
theorem b3q (N:Int) (x y:V3) (env:U9):aP (14,N) [x,y] env:=by
 have hA:∃q,vO x.2.2 y.2.2 N=some q∧c7J x.2.2 y.2.2 N=some q:=⟨_,a2V _ _ _,a2o _ _ _⟩
 have hB:∃q,Bh x.2.2 y.2.2 N=some q∧c7P x.2.2 y.2.2 N=some q:=⟨_,a8D _ _ _,a5i _ _ _⟩
 obtain⟨q,h1,h2⟩:=hA
 obtain⟨q',h3,h4⟩:=hB
 (unfold aP RP EP L9 N7 bH P6 c6O;simp (disch:=decide) only[E9,D8,F7,F9,E8,D9,o5,l9,o7,D7,G5,o9,D6,ll0,ll1,ll2,ll3,la0,la1,la2,H6,I5,A8,C9,F5,J4,F8,G7,G6])
 unfold c7y ql
 simp (disch:=decide) only[E9,D8,F7,F9,E8,D9,o5,l9,o7,D7,G5,o9,D6,ll0,ll1,ll2,ll3,la0,la1,la2,H6,I5,A8,C9,F5,J4,F8,G7,G6]
 rw[h1,h2,h3,h4]
 cases ieq y.1 4
 ·exact⟨_,rfl,rfl⟩
 by_cases g3:x.1=3
 ·rw[E9 g3]
  simp (disch:=decide) only[E9,D8,F7,F9,E8,D9,o5,l9,o7,D7,G5,o9,D6,ll0,ll1,ll2,ll3,la0,la1,la2,H6,I5,A8,C9,F5,J4,F8,G7,G6]
  exact⟨_,rfl,rfl⟩
 rw[D8 g3]
 simp (disch:=decide) only[E9,D8,F7,F9,E8,D9,o5,l9,o7,D7,G5,o9,D6,ll0,ll1,ll2,ll3,la0,la1,la2,H6,I5,A8,C9,F5,J4,F8,G7,G6]
 cases ieq x.1 4
 ·exact⟨_,rfl,rfl⟩
 simp (disch:=decide) only[E9,D8,F7,F9,E8,D9,o5,l9,o7,D7,G5,o9,D6,ll0,ll1,ll2,ll3,la0,la1,la2,H6,I5,A8,C9,F5,J4,F8,G7,G6]
 exact⟨_,rfl,rfl⟩
theorem b3s (N:Int) (x y:V3) (env:U9):aP (16,N) [x,y] env:=by
 have hA:∃q,oL x.2.2 y.2.2 N=some q∧c7z x.2.2 y.2.2 N=some q:=⟨_,Yn _ _ _,VU _ _ _⟩
 obtain⟨q,h1,h2⟩:=hA
 (unfold aP RP EP L9 N7 bH P6 c6O;simp (disch:=decide) only[E9,D8,F7,F9,E8,D9,o5,l9,o7,D7,G5,o9,D6,ll0,ll1,ll2,ll3,la0,la1,la2,H6,I5,A8,C9,F5,J4,F8,G7,G6])
 unfold c7y ql
 simp (disch:=decide) only[E9,D8,F7,F9,E8,D9,o5,l9,o7,D7,G5,o9,D6,ll0,ll1,ll2,ll3,la0,la1,la2,H6,I5,A8,C9,F5,J4,F8,G7,G6]
 rw[h1,h2]
 cases ieq x.1 3
 ·exact⟨_,rfl,rfl⟩
 cases ieq y.1 3
 ·exact⟨_,rfl,rfl⟩
 simp (disch:=decide) only[E9,D8,F7,F9,E8,D9,o5,l9,o7,D7,G5,o9,D6,ll0,ll1,ll2,ll3,la0,la1,la2,H6,I5,A8,C9,F5,J4,F8,G7,G6]
 exact⟨_,rfl,rfl⟩
theorem b3r (N:Int) (x y:V3) (env:U9):aP (15,N) [x,y] env:=by
 have hA:∃q,aW x.2.2 y.2.2 N=some q∧c7u x.2.2 y.2.2 N=some q:=⟨_,wK _ _ _,Tn _ _ _⟩
 have hB:∃q,mP x.2.2 y.2.2 N=some q∧c7p x.2.2 y.2.2 N=some q:=⟨_,RY _ _ _,PL _ _ _⟩
 obtain⟨q,h1,h2⟩:=hA
 obtain⟨q',h3,h4⟩:=hB
 (unfold aP RP EP L9 N7 bH P6 c6O;simp (disch:=decide) only[E9,D8,F7,F9,E8,D9,o5,l9,o7,D7,G5,o9,D6,ll0,ll1,ll2,ll3,la0,la1,la2,H6,I5,A8,C9,F5,J4,F8,G7,G6])
 unfold c7y ql
 simp (disch:=decide) only[E9,D8,F7,F9,E8,D9,o5,l9,o7,D7,G5,o9,D6,ll0,ll1,ll2,ll3,la0,la1,la2,H6,I5,A8,C9,F5,J4,F8,G7,G6]
 rw[h1,h2,h3,h4]
 by_cases g2:y.1=2
 ·rw[E9 g2,D8 (show y.1≠3 by rw[g2];decide)]
  simp (disch:=decide) only[E9,D8,F7,F9,E8,D9,o5,l9,o7,D7,G5,o9,D6,ll0,ll1,ll2,ll3,la0,la1,la2,H6,I5,A8,C9,F5,J4,F8,G7,G6]
  by_cases g3:x.1=3
  ·rw[E9 g3,D8 (show x.1≠2 by rw[g3];decide)]
   simp (disch:=decide) only[E9,D8,F7,F9,E8,D9,o5,l9,o7,D7,G5,o9,D6,ll0,ll1,ll2,ll3,la0,la1,la2,H6,I5,A8,C9,F5,J4,F8,G7,G6]
   exact⟨_,rfl,rfl⟩
  rw[D8 g3]
  cases ieq x.1 2
  ·exact⟨_,rfl,rfl⟩
  simp (disch:=decide) only[E9,D8,F7,F9,E8,D9,o5,l9,o7,D7,G5,o9,D6,ll0,ll1,ll2,ll3,la0,la1,la2,H6,I5,A8,C9,F5,J4,F8,G7,G6]
  exact⟨_,rfl,rfl⟩
 rw[D8 g2]
 simp (disch:=decide) only[E9,D8,F7,F9,E8,D9,o5,l9,o7,D7,G5,o9,D6,ll0,ll1,ll2,ll3,la0,la1,la2,H6,I5,A8,C9,F5,J4,F8,G7,G6]
 cases ieq x.1 3
 ·exact⟨_,rfl,rfl⟩
 simp (disch:=decide) only[E9,D8,F7,F9,E8,D9,o5,l9,o7,D7,G5,o9,D6,ll0,ll1,ll2,ll3,la0,la1,la2,H6,I5,A8,C9,F5,J4,F8,G7,G6]
 cases ieq y.1 3
 ·exact⟨_,rfl,rfl⟩
 simp (disch:=decide) only[E9,D8,F7,F9,E8,D9,o5,l9,o7,D7,G5,o9,D6,ll0,ll1,ll2,ll3,la0,la1,la2,H6,I5,A8,C9,F5,J4,F8,G7,G6]
 exact⟨_,rfl,rfl⟩
theorem qg (n:Int):(n<0∧J8 n=-n)∨(0≤n∧J8 n=n):=by
 unfold J8
 by_cases h:n<0
 ·left;exact⟨h,if_pos h⟩
 ·right;exact⟨by omega,if_neg h⟩
theorem Zi (a b:Int):(l7 (E5 (bZ (ilt a 0) (ilt b 0))) (-(J8 a*J8 b)) (J8 a*J8 b))=a*b:=by
 rcases qg a with⟨h1,e1⟩ | ⟨h1,e1⟩ <;> rcases qg b with⟨h2,e2⟩ | ⟨h2,e2⟩ <;> rw[e1,e2]
 ·rw[E8 h1,E8 h2];show -a*-b=a*b;rw[Int.neg_mul_neg]
 ·rw[E8 h1,D9 h2];show -(-a*b)=a*b;rw[Int.neg_mul,Int.neg_neg]
 ·rw[D9 h1,E8 h2];show -(a*-b)=a*b;rw[Int.mul_neg,Int.neg_neg]
 ·rw[D9 h1,D9 h2];rfl
theorem Yg {a b:Int} (ha:-1000000000000000≤a∧a≤1000000000000000) (hb:-1000000000000≤b∧b≤1000000000000):nJ a b=some (l7 (ilt 1000000000000000 (J8 a*J8 b)) (0,3) (a*b,0)):=by
 unfold nJ
 rw[Fh (by omega) (by omega),Fh (by omega) (by omega)]
 have A0:0≤J8 a∧J8 a≤1000000000000000:=by rcases qg a with⟨h1,e1⟩ | ⟨h1,e1⟩ <;> omega
 have B0:0≤J8 b∧J8 b≤1000000000000:=by rcases qg b with⟨h1,e1⟩ | ⟨h1,e1⟩ <;> omega
 rw[FI A0.1 (by omega) B0.1 (by omega),o7]
 have hm:=Zi a b
 have hp:0≤J8 a*J8 b:=Int.mul_nonneg A0.1 B0.1
 generalize J8 a*J8 b=p at hm hp ⊢
 simp only
 by_cases g:p / 18446744073709551616=0
 case neg=>rw[D8 g,E8 (show(1000000000000000:Int)<p by omega)];rfl
 rw[E9 g,show p % 18446744073709551616=p by omega]
 by_cases g2:1000000000000000<p
 ·rw[E8 g2];rfl
 rw[D9 (by omega)]
 simp only[o9,l9]
 rw[show wrap .i64 p=p from dM (by unfold I64;omega),H8 (by unfold I64;omega),show(0:Int) -p=-p by omega]
 rw[←hm]
 cases E5 (bZ (ilt a 0) (ilt b 0)) <;> rfl
theorem zg {x y M:Int} (W:V3×Int) (hy:0≤y) (hM:0≤M) (hM2:M≤1000000000000000):l7 (E5 (ieq y 0)) (o6 (uZ .i64 M y) fun(q:Int)=>l7 (ilt q x) (some ((0,0,0),3)) (some W)) (some W)=some (l7 (ilt M (x*y)) ((0,0,0),3) W):=by
 by_cases h:y=0
 ·subst h
  rw[E9 rfl,Int.mul_zero,D9 hM];rfl
 rw[D8 h]
 simp only[D6,o5]
 rw[lu hM (by omega) (by omega),o7]
 have e:M / y<x↔M<x*y:=Int.ediv_lt_iff_lt_mul (by omega)
 by_cases g:M / y<x
 ·rw[E8 g,E8 (e.1 g)];rfl
 ·rw[D9 (Int.not_lt.1 g),D9 (Int.not_lt.1 fun h=>g (e.2 h))];rfl
theorem VS {k a b M:Int} (hM:c7x k=some (-M,M)) (hM0:0≤M) (hM2:M≤1000000000000000) (ha:-1000000000000000≤a∧a≤1000000000000000) (hb:-1000000000000≤b∧b≤1000000000000):c7o k a b=some (l7 (ilt M (J8 a*J8 b)) ((0,0,0),3) (vW (k,0,W9 .i64 a b))):=by
 unfold c7o
 rw[hM,o7]
 simp only[H6,o7]
 have sa:G8 .i64 0 a=-a:=by rw[H8 (by unfold I64;omega)];omega
 have sb:G8 .i64 0 b=-b:=by rw[H8 (by unfold I64;omega)];omega
 rw[sa,sb]
 rcases qg a with⟨h1,e1⟩ | ⟨h1,e1⟩ <;> rcases qg b with⟨h2,e2⟩ | ⟨h2,e2⟩ <;> rw[e1,e2]
 ·rw[E8 h1,E8 h2]
  exact zg _ (by omega) hM0 hM2
 ·rw[E8 h1,D9 h2]
  exact zg _ (by omega) hM0 hM2
 ·rw[D9 h1,E8 h2]
  exact zg _ (by omega) hM0 hM2
 ·rw[D9 h1,D9 h2]
  exact zg _ (by omega) hM0 hM2
theorem Ob {k a b M:Int} (hk:uT k=(-M,M)) (hM0:0≤M) (hM2:M≤1000000000000000) (ha:-1000000000000000≤a∧a≤1000000000000000) (hb:-1000000000000≤b∧b≤1000000000000):∃r:V3×Int,c7o k a b=some r∧∃q:Int×Int,nJ a b=some q∧OZ (k,0,q.1) q.2=r:=by
 refine⟨_,VS (by rw[Zt,hk]) hM0 hM2 ha hb,_,Yg ha hb,?_⟩
 have hm:=Zi a b
 have hmd:J8 a*J8 b=J8 (a*b):=by
  rcases qg (a*b)with⟨h,e⟩ | ⟨h,e⟩ <;> (have hn:=Int.mul_nonneg (dB a) (dB b);cases hq:E5 (bZ (ilt a 0) (ilt b 0)) <;> rw[hq]at hm <;> simp only[o5,l9]at hm <;> omega)
 rw[hmd]
 have habs:=qg (a*b)
 have hI:J8 (a*b)≤1000000000000000→W9 .i64 a b=a*b:=fun h=>dI (by unfold I64;omega)
 have hpl:M<J8 (a*b)→plB (k,0,a*b)=false:=by
  intro h
  unfold plB
  rw[hk]
  simp only
  by_cases g:-M≤a*b
  ·rw[F7 g,F9 (show M<a*b by omega)];rfl
  ·rw[F9 (by omega)];rfl
 generalize a*b=p at*
 by_cases g:1000000000000000<J8 p
 ·rw[E8 g,E8 (by omega)];rfl
 rw[D9 (by omega),hI (by omega)]
 simp only[l9,J4]
 by_cases g2:M<J8 p
 ·rw[E8 g2];unfold vW;rw[hpl g2];rfl
 ·rw[D9 (by omega)];rfl
theorem a0g {k e n:Int} (h:plB (k,e,n)=true):(k=2→-1000000000000≤n∧n≤1000000000000)∧(k=3→-1000000000000000≤n∧n≤1000000000000000):=by
 rcases Ye h with⟨m,h,g⟩ | ⟨m,h,g⟩ | ⟨m,h,g⟩ | ⟨m,h,g⟩ | ⟨m,h,g⟩ | ⟨e',m,h,g⟩ <;> cases h <;> exact⟨fun h=>by first | exact g | exact absurd h (by decide),fun h=>by first | exact g | exact absurd h (by decide)⟩
theorem b3p (N:Int) (x y:V3) (env:U9) (hx:plB x=true) (hy:plB y=true):aP (13,N) [x,y] env:=by
 have hX:=a0g (k:=x.1) (e:=x.2.1) (n:=x.2.2) hx
 have hY:=a0g (k:=y.1) (e:=y.2.1) (n:=y.2.2) hy
 have key:y.1=2→x.1=2∨x.1=3→∃r:V3×Int,c7o x.1 x.2.2 y.2.2=some r∧∃q:Int×Int,nJ x.2.2 y.2.2=some q∧OZ (x.1,0,q.1) q.2=r:=by
  intro h2 h
  have hb:=hY.1 h2
  rcases h with h | h
  ·have ha:=hX.1 h
   exact Ob (M:=1000000000000) (by rw[h];rfl) (by decide) (by decide) ⟨Int.le_trans (by decide) ha.1,Int.le_trans ha.2 (by decide)⟩ hb
  ·have ha:=hX.2 h
   exact Ob (M:=1000000000000000) (by rw[h];rfl) (by decide) (by decide) ha hb
 (unfold aP RP EP L9 N7 bH P6 c6O;simp (disch:=decide) only[E9,D8,F7,F9,E8,D9,o5,l9,o7,D7,G5,o9,D6,ll0,ll1,ll2,ll3,la0,la1,la2,H6,I5,A8,C9,F5,J4,F8,G7,G6])
 unfold c7y ql
 simp (disch:=decide) only[E9,D8,F7,F9,E8,D9,o5,l9,o7,D7,G5,o9,D6,ll0,ll1,ll2,ll3,la0,la1,la2,H6,I5,A8,C9,F5,J4,F8,G7,G6]
 cases g2:ieq y.1 2
 ·exact⟨_,rfl,rfl⟩
 by_cases g3:x.1=3
 ·obtain⟨r,e1,q,e2,e3⟩:=key (I9.1 g2) (.inr g3)
  rw[E9 g3,D8 (show x.1≠2 by rw[g3];decide)]
  simp (disch:=decide) only[E9,D8,F7,F9,E8,D9,o5,l9,o7,D7,G5,o9,D6,ll0,ll1,ll2,ll3,la0,la1,la2,H6,I5,A8,C9,F5,J4,F8,G7,G6]
  rw[e1,e2]
  simp (disch:=decide) only[E9,D8,F7,F9,E8,D9,o5,l9,o7,D7,G5,o9,D6,ll0,ll1,ll2,ll3,la0,la1,la2,H6,I5,A8,C9,F5,J4,F8,G7,G6]
  exact⟨_,rfl,congrArg some e3⟩
 rw[D8 g3]
 cases g4:ieq x.1 2
 ·exact⟨_,rfl,rfl⟩
 obtain⟨r,e1,q,e2,e3⟩:=key (I9.1 g2) (.inl (I9.1 g4))
 simp (disch:=decide) only[E9,D8,F7,F9,E8,D9,o5,l9,o7,D7,G5,o9,D6,ll0,ll1,ll2,ll3,la0,la1,la2,H6,I5,A8,C9,F5,J4,F8,G7,G6]
 rw[e1,e2]
 simp (disch:=decide) only[E9,D8,F7,F9,E8,D9,o5,l9,o7,D7,G5,o9,D6,ll0,ll1,ll2,ll3,la0,la1,la2,H6,I5,A8,C9,F5,J4,F8,G7,G6]
 exact⟨_,rfl,congrArg some e3⟩
theorem a2E:∀i:Fin 40,cu ((i.1:Nat):Int)=c7i ((i.1:Nat):Int):=by decide+kernel
theorem a2W:∀i:Fin 40,(arF ((i.1:Nat):Int)=0→i.1∈[1,2,3,4,5,6,7,8,9,35,36,37,38,39])∧(arF ((i.1:Nat):Int)=1→i.1∈[10,25,31,32,33,34])∧(arF ((i.1:Nat):Int)=2→i.1∈[11,12,13,14,15,16,17,18,19,20,21,22,23,24,27,28,29,30])∧(arF ((i.1:Nat):Int)=3→i.1=26):=by decide+kernel
theorem b7q {k:Int} (h:k<1∨39<k):arF k=-1:=by
 unfold arF c6V
 rw[D8 (show k≠10 by omega),D8 (show k≠25 by omega),D8 (show k≠31 by omega),D8 (show k≠32 by omega),D8 (show k≠33 by omega),D8 (show k≠34 by omega),D8 (show k≠26 by omega)]
 rcases h with h | h
 ·rw[F9 (show k<1 by omega),F9 (show k<35 by omega),F9 (show k<11 by omega)];rfl
 ·rw[F7 (show 1≤k by omega),F9 (show 9<k by omega),F7 (show 35≤k by omega),F9 (show 39<k by omega),F7 (show 11≤k by omega),F9 (show 30<k by omega)];rfl
theorem b3B {k:Int} (h:arF k≠-1):∃i:Fin 40,k=((i.1:Nat):Int):=by
 by_cases g:1≤k∧k≤39
 ·exact⟨⟨k.toNat,by omega⟩,by simp;omega⟩
 ·exact absurd (b7q (by omega)) h
theorem a7l {k:Int} (h:arF k≠-1):cu k=c7i k:=by
 obtain⟨i,rfl⟩:=b3B h
 exact a2E i
theorem QJ (k:Int):∃b,c7i k=some b:=by
 unfold c7i
 cases ile 1 k <;> cases ile k 8 <;> cases ile 36 k <;> cases ile k 39 <;> cases ieq k 14 <;> cases ieq k 15 <;> cases ieq k 16 <;> cases ieq k 33 <;> exact⟨_,rfl⟩
def a1z (k N:Int):Bool:=l7 (l7 (ieq k 14) true (l7 (ieq k 15) true (ieq k 16))) (l7 (ile 0 N) (ile N 5) false) (l7 (ieq k 34) (l7 (ile 0 N) (ile (dV N 8) 5) false) (l7 (ieq k 6) (ile 0 N) true))
theorem UR (k N:Int):(o6 (l7 (ieq k 14) (some (ieq k 14)) (l7 (ieq k 15) (some (ieq k 15)) (some (ieq k 16)))) fun(x:Bool)=>l7 x (l7 (ile 0 N) (some (ile N 5)) (some false)) (l7 (ieq k 34) (l7 (ile 0 N) (some (ile (dV N 8) 5)) (some false)) (l7 (ieq k 6) (some (ile 0 N)) (some true))))=some (a1z k N):=by
 unfold a1z
 cases ieq k 14 <;> cases ieq k 15 <;> cases ieq k 16 <;> cases ile 0 N <;> cases ieq k 34 <;> cases ieq k 6 <;> rfl
def Xx (k N:Int):Bool:=l7 (ieq N 0) (a1z k N) (l7 ((c7i k).getD false) (a1z k N) false)
theorem a1x {k N c:Int} (h:arF k=c):c7D (k,N) c=some (Xx k N):=by
 unfold c7D Xx
 rw[a5j,o7,E9 h]
 simp only[o9,l9,UR]
 obtain⟨b,hb⟩:=QJ k
 rw[hb]
 cases ieq N 0 <;> cases b <;> rfl
theorem WU {k N:Int} (h:arF k≠-1):iR (k,N)=some (Xx k N):=by
 unfold iR Xx
 rw[Ld,o7,D9 (show 0≤arF k by have:=(Ac k).2.2;omega)]
 simp only[l9,UR]
 rw[a7l h]
 obtain⟨b,hb⟩:=QJ k
 rw[hb]
 cases ieq N 0 <;> cases b <;> rfl
theorem YZ (k N:Int):∃b,iR (k,N)=some b:=by
 by_cases h:arF k=-1
 ·refine⟨false,?_⟩
  unfold iR
  rw[Ld,o7,h];rfl
 ·exact⟨_,WU h⟩
theorem UM (n:Int×Int) (env:U9):∃b,aS n env=some b:=by
 unfold aS
 by_cases h7:n.1=7
 ·rw[E9 h7,o5];cases ile 0 n.2 <;> exact⟨_,rfl⟩
 rw[D8 h7,l9]
 by_cases h8:n.1=8
 ·rw[E9 h8,o5]
  by_cases g:0≤n.2
  case neg=>rw[F9 (Int.not_le.1 g)];exact⟨_,rfl⟩
  by_cases g2:n.2<o8 env.2.2.1
  case neg=>rw[F7 g,D9 (Int.not_lt.1 g2)];exact⟨_,rfl⟩
  obtain⟨x,hx,_⟩:=fU g g2
  rw[F7 g,E8 g2,hx];exact⟨_,rfl⟩
 rw[D8 h8,l9]
 cases ieq n.1 33
 ·cases ieq n.1 34
  ·cases ieq n.1 36 <;> cases ieq n.1 37 <;> cases ieq n.1 38 <;> cases ieq n.1 39 <;> cases ile 0 n.2 <;> exact⟨_,rfl⟩
  ·exact⟨_,rfl⟩
 ·cases ile 0 n.2 <;> exact⟨_,rfl⟩
theorem a7u {α:Type} (l:List α) (p:α→Bool):l.all p= !l.any fun v=> !p v:=by
 induction l with
 | nil=>rfl
 | cons a l ih=>rw[List.all_cons,List.any_cons,Bool.not_or,Bool.not_not,ih]
theorem a2T (l:List V3) (hl:l.length≤1000000):lK l=some (l.all plB):=by
 unfold lK
 have e:=BZ l (fun v=> !plB v) false PUnit.unit (f:=fun(x:Int)=>l7 (ilt x (o8 l)) (o6 (lat l x) fun(x_1:V3)=>o6 (aj x_1) fun(x_2:Bool)=>l7 (E5 x_2) (some (Out.rt false)) (some (Out.nx (A7 IntKind.i64 x 1)))) (some (Out.ex PUnit.unit))) hl
  (fun i a hi=>by
   have hlt:(i:Int)<o8 l:=by
    have:=J7.1 hi;obtain⟨h,_⟩:=this;unfold o8;omega
   have hm:=F6 l i
   rw[hi]at hm
   simp only[E8 hlt,o5,hm,o7,C9]
   cases plB a <;> rfl) (by rw[D9 (show o8 l≤(l.length:Int)from Int.le_refl _)];rfl)
 rw[show U2 _ _=_ from e]
 rw[a7u l plB]
 cases l.any fun v=> !plB v <;> rfl
theorem a2n (l:List V3) (hl:l.length≤1000000) {γ:Type} {K:V3⊕(V3×Int)→Option γ} :(o6 (U2
      (fun(x:V3×Int)=>
       l7 (ilt x.2 (o8 l))
        (o6 (lat l x.2) fun(x_1:V3)=>
         o6 (c6Q x_1) fun(x_2:Bool)=>
          l7 (E5 x_2) (some (Out.rt (((0,0,0),8):V3×Int))) (some (Out.nx (x.1,A7 IntKind.i64 x.2 1))))
        (some (Out.ex x.1)))
      ((0,0,0),0)) K)=K (l7 (l.all plB) (.inl (0,0,0)) (.inr ((0,0,0),8))):=by
 have hf:∀(l:List V3) (u:V3),U1 (fun(_:V3) (v:V3)=>(l7 (plB v) (.inl ((0,0,0):V3)) (.inr (((0,0,0),8):V3×Int)):V3⊕(V3×Int))) l (0,0,0)=l7 (l.all plB) (.inl (0,0,0)) (.inr ((0,0,0),8)):=by
  intro l u
  induction l with
  | nil=>rfl
  | cons a l ih=>
   unfold U1
   rw[List.all_cons]
   cases plB a
   ·rfl
   ·exact ih
 apply fV l (fun(_:V3) (v:V3)=>(l7 (plB v) (.inl ((0,0,0):V3)) (.inr (((0,0,0),8):V3×Int)):V3⊕(V3×Int))) (fun b i=>((b,i):V3×Int)) (fun b=>b) (fun i b=>b=(0,0,0)) (0,0,0) hl rfl
 ·intro i a b hi hi' hb
  subst hb
  have hlt:(i:Int)<o8 l:=by
   have:=J7.1 hi;obtain⟨h,_⟩:=this;unfold o8;omega
  have hm:=F6 l i
  rw[hi]at hm
  simp only[E8 hlt,o5,hm,o7,A8]
  cases plB a
  ·exact⟨rfl,fun _ h=>by cases h⟩
  ·exact⟨by rw[X3 (by omega)];rfl,fun _ h=>by cases h;rfl⟩
 ·intro b hb
  simp only[D9 (show o8 l≤(l.length:Int)from Int.le_refl _),l9]
 ·intro _
  rw[hf l (0,0,0)]
  cases l.all plB <;> rfl
structure EvOk (env:U9):Prop where
 ms:env.2.2.2.1.length≤1000000
 tb:∀t∈env.2.2.2.2.2,kK t
theorem b3n (k N:Int) (args:List V3) (env:U9) (hE:EvOk env) (hN:-9223372036854775808≤N∧N≤9223372036854775807) (hk:k≠23∧k≠24∧k≠26) (ha:arF k=o8 args) (hf:Xx k N=true) (he:aS (k,N) env=some true) (hp:args.all plB=true):aP (k,N) args env:=by
 have hne:arF k≠-1:=by rw[ha];unfold o8;omega
 have hN34:k=34→0≤N:=by
  rintro rfl
  unfold Xx at hf
  have:a1z 34 N=true:=by
   cases g:ieq N 0 <;> rw[g]at hf
   ·exact hf
   ·exact hf
  unfold a1z at this
  by_cases g:0≤N
  ·exact g
  ·rw[F9 (by omega)]at this;cases this
 obtain⟨i,hi⟩:=b3B hne
 obtain⟨a0,a1,a2,a3⟩:=a2W i
 rw[←hi,ha]at a0 a1 a2 a3
 match args,ha,hp with
 | [],ha,hp=>
  have:=a0 rfl
  simp only[List.mem_cons,List.not_mem_nil,or_false]at this
  rcases this with h | h | h | h | h | h | h | h | h | h | h | h | h | h <;> rw[h]at hi <;> subst hi
  ·exact EM _ _ _ (by decide)
  ·exact EM _ _ _ (by decide)
  ·exact EM _ _ _ (by decide)
  ·exact EM _ _ _ (by decide)
  ·exact EM _ _ _ (by decide)
  ·exact b7m _ _
  ·exact b7n _ _ he
  ·exact b7o _ _ he
  ·exact b7p _ _
  ·exact b3A _ _
  ·exact Kv _ _ _ (by decide) he hE.ms
  ·exact Kv _ _ _ (by decide) he hE.ms
  ·exact Kv _ _ _ (by decide) he hE.ms
  ·exact Kv _ _ _ (by decide) he hE.ms
 | [x],ha,hp=>
  have hx:plB x=true:=by simpa using hp
  have:=a1 rfl
  simp only[List.mem_cons,List.not_mem_nil,or_false]at this
  rcases this with h | h | h | h | h | h <;> rw[h]at hi <;> subst hi
  ·exact b3o _ _ _
  ·exact b3t _ _ _
  ·exact Zo _ _ _ _ (by decide) hx
  ·exact Zo _ _ _ _ (by decide) hx
  ·exact b3y _ _ _ hx he hE.tb
  ·exact b3z _ _ _ (hN34 rfl) hN.2 he hE.tb
 | [x,y],ha,hp=>
  have hxy:plB x=true∧plB y=true:=by simpa using hp
  have:=a2 rfl
  simp only[List.mem_cons,List.not_mem_nil,or_false]at this
  rcases this with h | h | h | h | h | h | h | h | h | h | h | h | h | h | h | h | h | h <;> rw[h]at hi <;> subst hi
  ·exact Zm _ _ _ _ _ (by decide)
  ·exact Zm _ _ _ _ _ (by decide)
  ·exact b3p _ _ _ _ hxy.1 hxy.2
  ·exact b3q _ _ _ _
  ·exact b3r _ _ _ _
  ·exact b3s _ _ _ _
  ·exact Lc _ _ _ _ _ (by decide) hxy.1 hxy.2
  ·exact Lc _ _ _ _ _ (by decide) hxy.1 hxy.2
  ·exact a2U _ _ _ _ _ (by decide)
  ·exact a2U _ _ _ _ _ (by decide)
  ·exact Zn _ _ _ _ _ (by decide)
  ·exact Zn _ _ _ _ _ (by decide)
  ·exact absurd rfl hk.1
  ·exact absurd rfl hk.2.1
  ·exact b3u _ _ _ _
  ·exact b3v _ _ _ _
  ·exact b3w _ _ _ _
  ·exact b3x _ _ _ _
 | [x,y,z],ha,hp=>
  have h:=a3 rfl
  rw[h]at hi
  exact absurd hi hk.2.2
 | x::y::z::w::l,ha,hp=>
  have h1:=(Ac k).2.2
  have:o8 (x::y::z::w::l)=(l.length:Int)+4:=by unfold o8;simp <;> omega
  rw[this]at ha
  omega
theorem Ul (k N:Int) (args:List V3) (env:U9) (hE:EvOk env) (hN:-9223372036854775808≤N∧N≤9223372036854775807) (hk:k≠23∧k≠24∧k≠26) (hl:args.length≤1000000):∃r:V3×Int,c7l (k,N) args env=some r∧pX (k,N) args env=some r:=by
 by_cases ha:arF k=o8 args
 case neg=>
  refine⟨((0,0,0),2),?_,?_⟩
  ·unfold c7l c7D
   rw[a5j,o7,D8 ha];rfl
  ·unfold pX
   obtain⟨b,hb⟩:=YZ k N
   rw[hb,o7]
   cases b
   ·rfl
   ·rw[Ld,o7,D8 (fun h=>ha h.symm)];rfl
 have hne:arF k≠-1:=by rw[ha];unfold o8;omega
 unfold c7l pX
 rw[a1x ha,WU hne,Ld]
 simp only[o7,E9 ha.symm]
 cases hf:Xx k N
 ·exact⟨_,rfl,rfl⟩
 simp only[o9,l9,o7,D7]
 obtain⟨b,hb⟩:=UM (k,N) env
 rw[show c7B (k,N) env=some b from hb,hb]
 cases b
 ·exact⟨_,rfl,rfl⟩
 simp only[o7,o9,l9]
 rw[a2n args hl,a2T args hl,o7]
 cases hp:args.all plB
 ·exact⟨_,rfl,rfl⟩
 exact b3n k N args env hE hN hk ha hf hb hp
def XT.node:XT→Int×Int
 | .l0 n=>n | .l1 n _=>n | .l2 n _ _=>n | .l3 n _ _ _=>n
def rtI (t:XT) (o:Nat):Nat:=o+t.size -1
def At (e:List (Int×Int)) (S:List Int) (t:XT) (o:Nat):Prop:=∃pre suf S1 S2,e=pre++t.post++suf∧S=S1++t.sts o++S2∧pre.length=o∧S1.length=o
theorem a9q {e:List (Int×Int)} {S:List Int} {n:Int×Int} {a:XT} {o:Nat} (h:At e S (.l1 n a) o):At e S a o:=by
 obtain⟨p,s,S1,S2,h1,h2,h3,h4⟩:=h
 exact⟨p,[n]++s,S1,[(o:Int)]++S2,by rw[h1];simp[XT.post],by rw[h2];simp[XT.sts],h3,h4⟩
theorem Qb {e:List (Int×Int)} {S:List Int} {n:Int×Int} {a b:XT} {o:Nat} (h:At e S (.l2 n a b) o):At e S a o∧At e S b (o+a.size):=by
 obtain⟨p,s,S1,S2,h1,h2,h3,h4⟩:=h
 exact⟨⟨p,b.post++[n]++s,S1,b.sts (o+a.size)++[(o:Int)]++S2,by rw[h1];simp[XT.post],by rw[h2];simp[XT.sts],h3,h4⟩,
  ⟨p++a.post,[n]++s,S1++a.sts o,[(o:Int)]++S2,by rw[h1];simp[XT.post],by rw[h2];simp[XT.sts],by simp[XT.post_len,h3],by simp[XT.sts_len,h4]⟩⟩
theorem Qc {e:List (Int×Int)} {S:List Int} {n:Int×Int} {a b c:XT} {o:Nat} (h:At e S (.l3 n a b c) o):At e S a o∧At e S b (o+a.size)∧At e S c (o+a.size+b.size):=by
 obtain⟨p,s,S1,S2,h1,h2,h3,h4⟩:=h
 exact⟨⟨p,b.post++c.post++[n]++s,S1,b.sts (o+a.size)++c.sts (o+a.size+b.size)++[(o:Int)]++S2,by rw[h1];simp[XT.post],by rw[h2];simp[XT.sts],h3,h4⟩,
  ⟨p++a.post,c.post++[n]++s,S1++a.sts o,c.sts (o+a.size+b.size)++[(o:Int)]++S2,by rw[h1];simp[XT.post],by rw[h2];simp[XT.sts],by simp[XT.post_len,h3],by simp[XT.sts_len,h4]⟩,
  ⟨p++a.post++b.post,[n]++s,S1++a.sts o++b.sts (o+a.size),[(o:Int)]++S2,by rw[h1];simp[XT.post],by rw[h2];simp[XT.sts],by simp[XT.post_len,h3];try omega,by simp[XT.sts_len,h4];try omega⟩⟩
theorem a2k (t:XT):∃p,t.post=p++[t.node]∧p.length+1=t.size:=by
 have hl:=t.post_len
 cases t with
 | l0 n=>exact⟨[],rfl,rfl⟩
 | l1 n a=>refine⟨a.post,rfl,?_⟩;simp only[XT.post,List.length_append,List.length_singleton]at hl;exact hl
 | l2 n a b=>refine⟨a.post++b.post,rfl,?_⟩;simp only[XT.post,List.length_append,List.length_singleton]at hl ⊢;exact hl
 | l3 n a b c=>refine⟨a.post++b.post++c.post,rfl,?_⟩;simp only[XT.post,List.length_append,List.length_singleton]at hl ⊢;exact hl
theorem a6Y (t:XT) (o:Nat):∃p,t.sts o=p++[(o:Int)]∧p.length+1=t.size:=by
 have hl:=t.sts_len o
 cases t with
 | l0 n=>exact⟨[],rfl,rfl⟩
 | l1 n a=>refine⟨a.sts o,rfl,?_⟩;simp only[XT.sts,List.length_append,List.length_singleton]at hl;exact hl
 | l2 n a b=>refine⟨a.sts o++b.sts (o+a.size),rfl,?_⟩;simp only[XT.sts,List.length_append,List.length_singleton]at hl ⊢;exact hl
 | l3 n a b c=>refine⟨a.sts o++b.sts (o+a.size)++c.sts (o+a.size+b.size),rfl,?_⟩;simp only[XT.sts,List.length_append,List.length_singleton]at hl ⊢;exact hl
theorem oZ {e:List (Int×Int)} {S:List Int} {t:XT} {o:Nat} (h:At e S t o):e[rtI t o]? =some t.node∧S[rtI t o]? =some (o:Int)∧rtI t o<e.length:=by
 obtain⟨p,s,S1,S2,h1,h2,h3,h4⟩:=h
 obtain⟨q,e1,e2⟩:=a2k t
 obtain⟨q',e1',e2'⟩:=a6Y t o
 have hp:=t.size_pos
 have a1:e[rtI t o]? =some t.node:=by
  rw[h1,e1,List.append_assoc,List.append_assoc,←List.append_assoc p,List.getElem?_append_right (by simp[rtI];omega)]
  rw[show rtI t o -(p++q).length=0 by simp[rtI];omega];rfl
 refine⟨a1,?_,(J7.1 a1).1⟩
 rw[h2,e1',List.append_assoc,List.append_assoc,←List.append_assoc S1,List.getElem?_append_right (by simp[rtI];omega)]
 rw[show rtI t o -(S1++q').length=0 by simp[rtI];omega];rfl
def NU:XT→Nat→List Int
 | .l0 _,_=>[]
 | .l1 _ a,o=>[(rtI a o:Int)]
 | .l2 _ a b,o=>[(rtI a o:Int),(rtI b (o+a.size):Int)]
 | .l3 _ a b c,o=>[(rtI a o:Int),(rtI b (o+a.size):Int),(rtI c (o+a.size+b.size):Int)]
structure OStep (S:List Int) (f:List Int×Int×Int→Option ((List Int×Int×Int)⊕List Int)):Prop where
 step:∀(l:List Int) (c:Nat) (j:Nat) (x:Nat),j<l.length→l.length≤3→S[c]? =some ((x:Nat):Int)→x≤100→f (l,(c:Int),(j:Int))=some (.inl (l.set j (c:Int),(x:Int) -1,(j:Int) -1))
 stop:∀(l:List Int) (c:Int),f (l,c,-1)=some (.inr l)
theorem su {σ ε:Type} {f:σ→Option (σ⊕ε)} {s s' :σ} {n:Nat} (h:f s=some (.inl s')):iC f (n+1) s=iC f n s' :=by rw[iC,h]
theorem xR {σ ε:Type} {f:σ→Option (σ⊕ε)} {s:σ} {e:ε} {n:Nat} (h:f s=some (.inr e)):iC f (n+1) s=some e:=by rw[iC,h]
theorem a4F {e:List (Int×Int)} {S:List Int} {t:XT} {o:Nat} {f:List Int×Int×Int→Option ((List Int×Int×Int)⊕List Int)} (hs:OStep S f) (h:At e S t o) (he:e.length≤48) (hw:t.wf):
  X5 f (List.replicate (arF t.node.1).toNat 0,(rtI t o:Int) -1,arF t.node.1 -1)=some (NU t o):=by
 obtain⟨k,hk⟩:∃k,dN=k+1+1+1+1:=⟨dN -4,by unfold dN;omega⟩
 unfold X5
 rw[hk]
 have hr:=oZ h
 cases t with
 | l0 n=>
  rw[show arF (XT.l0 n).node.1=0 from hw]
  exact xR (hs.stop _ _)
 | l1 n a=>
  rw[show arF (XT.l1 n a).node.1=1 from hw.1]
  have ha:=oZ (a9q h)
  have p1:=a.size_pos
  rw[show((rtI (.l1 n a) o:Nat):Int) -1=((rtI a o:Nat):Int) by simp only[rtI,XT.size];omega]
  rw[show((1:Int) -1)=((0:Nat):Int)from rfl,su (hs.step _ _ 0 o (by simp) (by simp) ha.2.1 (by unfold rtI at hr;omega))]
  rw[show(((0:Nat):Int) -1)=-1 from rfl,xR (hs.stop _ _)]
  rfl
 | l2 n a b=>
  rw[show arF (XT.l2 n a b).node.1=2 from hw.1]
  have ha:=oZ (Qb h).1
  have hb:=oZ (Qb h).2
  have p1:=a.size_pos
  have p2:=b.size_pos
  rw[show((rtI (.l2 n a b) o:Nat):Int) -1=((rtI b (o+a.size):Nat):Int) by simp only[rtI,XT.size];omega]
  rw[show((2:Int) -1)=((1:Nat):Int)from rfl,su (hs.step _ _ 1 (o+a.size) (by simp) (by simp) hb.2.1 (by unfold rtI at hb;omega))]
  rw[show((o+a.size:Nat):Int) -1=((rtI a o:Nat):Int) by unfold rtI;omega,show(((1:Nat):Int) -1)=((0:Nat):Int)from rfl]
  rw[su (hs.step _ _ 0 o (by simp) (by simp) ha.2.1 (by unfold rtI at hr;omega))]
  rw[show(((0:Nat):Int) -1)=-1 from rfl,xR (hs.stop _ _)]
  rfl
 | l3 n a b c=>
  rw[show arF (XT.l3 n a b c).node.1=3 from hw.1]
  have ha:=oZ (Qc h).1
  have hb:=oZ (Qc h).2.1
  have hc:=oZ (Qc h).2.2
  have p1:=a.size_pos
  have p2:=b.size_pos
  have p3:=c.size_pos
  rw[show((rtI (.l3 n a b c) o:Nat):Int) -1=((rtI c (o+a.size+b.size):Nat):Int) by simp only[rtI,XT.size];omega]
  rw[show((3:Int) -1)=((2:Nat):Int)from rfl,su (hs.step _ _ 2 (o+a.size+b.size) (by simp) (by simp) hc.2.1 (by unfold rtI at hc;omega))]
  rw[show((o+a.size+b.size:Nat):Int) -1=((rtI b (o+a.size):Nat):Int) by unfold rtI;omega,show(((2:Nat):Int) -1)=((1:Nat):Int)from rfl]
  rw[su (hs.step _ _ 1 (o+a.size) (by simp) (by simp) hb.2.1 (by unfold rtI at hb;omega))]
  rw[show((o+a.size:Nat):Int) -1=((rtI a o:Nat):Int) by unfold rtI;omega,show(((1:Nat):Int) -1)=((0:Nat):Int)from rfl]
  rw[su (hs.step _ _ 0 o (by simp) (by simp) ha.2.1 (by unfold rtI at hr;omega))]
  rw[show(((0:Nat):Int) -1)=-1 from rfl,xR (hs.stop _ _)]
  rfl
theorem c3r {t:XT} (h:t.wf):0≤arF t.node.1∧arF t.node.1≤3:=by
 cases t with
 | l0 n=>rw[show arF (XT.l0 n).node.1=0 from h];decide
 | l1 n a=>rw[show arF (XT.l1 n a).node.1=1 from h.1];decide
 | l2 n a b=>rw[show arF (XT.l2 n a b).node.1=2 from h.1];decide
 | l3 n a b c=>rw[show arF (XT.l3 n a b c).node.1=3 from h.1];decide
theorem CQ {α:Type} {k:Int} (h:0≤k) (h2:k≤1000000) (x:α):jH k x=some (List.replicate k.toNat x):=if_pos ⟨h,by omega⟩
theorem wV {e:List (Int×Int)} {S:List Int} {t:XT} {o:Nat} (env:U9) (h:At e S t o) (he:e.length≤48) (hw:t.wf):dn (e,S,env) (rtI t o:Int)=some (NU t o):=by
 have hr:=oZ h
 have ha:=c3r hw
 unfold dn
 simp only[F6,hr.1,o7,Ld]
 rw[CQ ha.1 (by omega),o7,bT]
 rw[show G8 .i64 ((rtI t o:Nat):Int) 1=(rtI t o:Int) -1 from H8 (by unfold I64;omega)]
 rw[show G8 .i64 (o8 (List.replicate (arF t.node.1).toNat (0:Int))) 1=arF t.node.1 -1 by
  rw[show o8 (List.replicate (arF t.node.1).toNat (0:Int))=arF t.node.1 by unfold o8;rw[List.length_replicate];omega]
  exact H8 (by unfold I64;omega)]
 refine a4F ⟨fun l c j x hj hl hx hx2=>?_,fun l c=>?_⟩ h he hw
 ·have hjl:l[j]? =some l[j]:=Y6 hj
  simp only[F7 (show(0:Int)≤(j:Int) by omega),o5,F6,hjl,o7,hx,L8,toN,Int.toNat_natCast,U5]
  rw[H8 (by unfold I64;omega),H8 (by unfold I64;omega)]
 ·rfl
def tY (n:Int×Int) (args:List V3) (env:U9):V3×Int:=(c7l n args env).getD ((0,0,0),0)
theorem He {n:Int×Int} {env:U9} (args:List V3) (hE:EvOk env) (hI:I64 n.2) (hk:n.1≠23∧n.1≠24∧n.1≠26) (hl:args.length≤3):c7l n args env=some (tY n args env)∧pX n args env=some (tY n args env):=by
 obtain⟨r,h1,h2⟩:=Ul n.1 n.2 args env hE (by unfold I64 at hI;omega) hk (by omega)
 have e:tY n args env=r:=by unfold tY;rw[show c7l n args env=some r from h1];rfl
 rw[e];exact⟨h1,h2⟩
def lzB (k:Int):Bool:=l7 (ieq k 23) true (l7 (ieq k 24) true (ieq k 26))
theorem b7M {k:Int} (h:lzB k=false):k≠23∧k≠24∧k≠26:=by
 refine⟨?_,?_,?_⟩ <;> (rintro rfl;revert h;decide)
def wC (r:V3×Int):V3×Int:=l7 (ieq r.2 0) (l7 (ieq r.1.1 1) (l7 (plB r.1) (r.1,0) ((0,0,0),8)) ((0,0,0),8)) ((0,0,0),r.2)
def ZM (n:Int×Int) (ra rb:V3×Int):V3×Int:=l7 (ieq n.2 0) (l7 (ieq (wC ra).2 0) (l7 (bZ (ieq n.1 23) (ieq (wC ra).1.2.2 0)) ((wC ra).1,0) (wC rb)) ((0,0,0),(wC ra).2)) ((0,0,0),2)
def a3T (n:Int×Int) (ra rb rc:V3×Int):V3×Int:=l7 (ieq n.2 0) (l7 (ieq (wC ra).2 0) (l7 (ieq (wC ra).1.2.2 1) rb rc) ((0,0,0),(wC ra).2)) ((0,0,0),2)
def evT (env:U9):XT→V3×Int
 | .l0 n=>tY n [] env
 | .l1 n a=>l7 (ieq (evT env a).2 0) (tY n [(evT env a).1] env) ((0,0,0),(evT env a).2)
 | .l2 n a b=>l7 (lzB n.1) (ZM n (evT env a) (evT env b)) (l7 (ieq (evT env a).2 0) (l7 (ieq (evT env b).2 0) (tY n [(evT env a).1,(evT env b).1] env) ((0,0,0),(evT env b).2)) ((0,0,0),(evT env a).2))
 | .l3 n a b c=>a3T n (evT env a) (evT env b) (evT env c)
abbrev VSt:Type:=V3×List V3×Int
structure VStep (ops:List Int) (ev:Int→Option (V3×Int)) (pad:List V3→List V3) (f:VSt→Option (Out VSt (V3×List V3) (V3×Int))):Prop where
 step:∀(l:List V3) (c:Int) (r:V3×Int),ops[l.length]? =some c→ev c=some r→f ((0,0,0),pad l,(l.length:Int))=some (l7 (ieq r.2 0) (.nx ((0,0,0),pad (l++[r.1]),((l.length+1:Nat):Int))) (.rt ((0,0,0),r.2)))
 stop:∀(l:List V3),l.length=ops.length→f ((0,0,0),pad l,(l.length:Int))=some (.ex ((0,0,0),l))
section
variable {ev:Int→Option (V3×Int)} {pad:List V3→List V3} {f:VSt→Option (Out VSt (V3×List V3) (V3×Int))}
theorem v0 (h:VStep [] ev pad f):U2 f ((0,0,0),pad [],0)=some (.inl ((0,0,0),[])):=by
 obtain⟨k,hk⟩:∃k,dN=k+1:=⟨dN -1,by unfold dN;omega⟩
 unfold U2
 rw[hk,iD,show f ((0,0,0),pad [],0)=some (.ex ((0,0,0),[]))from h.stop [] rfl]
theorem v1 {c:Int} {r:V3×Int} (h:VStep [c] ev pad f) (h1:ev c=some r):U2 f ((0,0,0),pad [],0)=some (l7 (ieq r.2 0) (.inl ((0,0,0),[r.1])) (.inr ((0,0,0),r.2))):=by
 obtain⟨k,hk⟩:∃k,dN=k+1+1:=⟨dN -2,by unfold dN;omega⟩
 unfold U2
 rw[hk,iD,show f ((0,0,0),pad [],0)=_ from h.step [] c r rfl h1]
 cases ieq r.2 0
 ·rfl
 ·simp only[o5]
  rw[iD,show f ((0,0,0),pad ([]++[r.1]),(([].length+1:Nat):Int))=_ from h.stop [r.1] rfl]
theorem v2 {c d:Int} {r q:V3×Int} (h:VStep [c,d] ev pad f) (h1:ev c=some r) (h2:ev d=some q):U2 f ((0,0,0),pad [],0)=some (l7 (ieq r.2 0) (l7 (ieq q.2 0) (.inl ((0,0,0),[r.1,q.1])) (.inr ((0,0,0),q.2))) (.inr ((0,0,0),r.2))):=by
 obtain⟨k,hk⟩:∃k,dN=k+1+1+1:=⟨dN -3,by unfold dN;omega⟩
 unfold U2
 rw[hk,iD,show f ((0,0,0),pad [],0)=_ from h.step [] c r rfl h1]
 cases ieq r.2 0
 ·rfl
 ·simp only[o5]
  rw[iD,show f ((0,0,0),pad ([]++[r.1]),(([].length+1:Nat):Int))=_ from h.step [r.1] d q rfl h2]
  cases ieq q.2 0
  ·rfl
  ·simp only[o5]
   rw[iD,show f ((0,0,0),pad ([r.1]++[q.1]),(([r.1].length+1:Nat):Int))=_ from h.stop [r.1,q.1] rfl]
end
theorem a2X {k:Int} (h:arF k=0∨arF k=1):k≠23∧k≠24∧k≠26:=by
 refine⟨?_,?_,?_⟩ <;> (rintro rfl;revert h;decide)
theorem b3C {k:Int} (h:arF k=2):k≠26:=by rintro rfl;revert h;decide
theorem b3D {k:Int} (h:arF k=3):k=26:=by
 obtain⟨i,rfl⟩:=b3B (by rw[h];decide)
 rw[(a2W i).2.2.2 h];rfl
theorem c1W (n:Nat) (E:O0) (i:Int):(x8 (n+1)).1 E i=gB (x8 n).1 (x8 n).2.1 (x8 n).2.2 E i:=rfl
theorem c1X (n:Nat) (E:O0) (i:Int):(x8 (n+1)).2.1 E i=jv (x8 n).1 (x8 n).2.1 (x8 n).2.2 E i:=rfl
theorem b2G (n:Nat) (E:O0) (x:Int×Int) (l:List Int):(x8 (n+1)).2.2 E x l=dZ (x8 n).1 (x8 n).2.1 (x8 n).2.2 E x l:=rfl
theorem DZ {n:Nat} {E:O0} {i:Int} {r:V3×Int} (h:(x8 n).2.1 E i=some r):(x8 (n+1)).1 E i=some (wC r):=by
 rw[c1W]
 unfold gB wC
 rw[h,o7]
 cases ieq r.2 0
 ·rfl
 cases ieq r.1.1 1
 ·rfl
 simp only[o9,l9,o5]
 rw[C9,o7]
 cases plB r.1 <;> rfl
theorem a3S {n:Nat} {E:O0} {x:Int×Int} {i j:Int} {ra rb:V3×Int} (hx:x.1≠26) (h1:(x8 n).2.1 E i=some ra) (h2:(x8 n).2.1 E j=some rb):(x8 (n+2)).2.2 E x [i,j]=some (ZM x ra rb):=by
 rw[show n+2=(n+1)+1 from rfl,b2G]
 unfold dZ ZM
 rw[show lat [i,j] 0=some i from rfl,show lat [i,j] 1=some j from rfl]
 simp only[o7]
 rw[DZ h1,DZ h2,D8 hx]
 cases ieq x.2 0
 ·rfl
 simp only[o7,o9,l9,o5]
 cases ieq (wC ra).2 0
 ·rfl
 simp only[o9,l9,o5]
 cases bZ (ieq x.1 23) (ieq (wC ra).1.2.2 0) <;> rfl
theorem a3U {n:Nat} {E:O0} {x:Int×Int} {i j l:Int} {ra rb rc:V3×Int} (hx:x.1=26) (h1:(x8 n).2.1 E i=some ra) (h2:(x8 (n+1)).2.1 E j=some rb) (h3:(x8 (n+1)).2.1 E l=some rc):(x8 (n+2)).2.2 E x [i,j,l]=some (a3T x ra rb rc):=by
 rw[show n+2=(n+1)+1 from rfl,b2G]
 unfold dZ a3T
 rw[show lat [i,j,l] 0=some i from rfl,show lat [i,j,l] 1=some j from rfl,show lat [i,j,l] 2=some l from rfl]
 simp only[o7]
 rw[DZ h1,h2,h3,E9 hx]
 cases ieq x.2 0
 ·rfl
 simp only[o7,o9,l9,o5]
 cases ieq (wC ra).2 0
 ·rfl
 simp only[o9,l9,o5]
 cases ieq (wC ra).1.2.2 1 <;> rfl
def PK (m:Nat) (l:List V3):List V3:=l++List.replicate (m -l.length) (0,0,0)
theorem a4K {m:Nat} {l:List V3} (h:l.length<m):(PK m l)[l.length]? =some (0,0,0):=by
 unfold PK
 rw[List.getElem?_append_right (Nat.le_refl _),Nat.sub_self,List.getElem?_replicate,if_pos (by omega)]
theorem a4L {m:Nat} {l:List V3} (v:V3) (h:l.length<m):(PK m l).set l.length v=PK m (l++[v]):=by
 unfold PK
 obtain⟨k,hk⟩:∃k,m -l.length=k+1:=⟨m -l.length -1,by omega⟩
 rw[List.set_append_right _ _ (Nat.le_refl _),Nat.sub_self,hk,List.replicate_succ,List.set_cons_zero]
 rw[show m -(l++[v]).length=k by simp;omega]
 simp
theorem a2h {m:Nat} {l:List V3} (h:l.length=m):PK m l=l:=by unfold PK;rw[h,Nat.sub_self];simp
def a0a (ev:Int→Option (V3×Int)) (ops:List Int) (x:VSt):Option (Out VSt (V3×List V3) (V3×Int)):=
 l7 (ilt x.2.2 (o8 ops))
  (o6 (lat ops x.2.2) fun(x_4:Int)=>
   o6 (L8 ops (toN x.2.2)) fun(x_5:Int)=>
    o6 (ev x_5) fun(x_6:V3×Int)=>
     l7 (E5 (ieq x_6.2 0)) (some (Out.rt ((0,0,0),x_6.2)))
      (o6 (lat x.2.1 x.2.2) fun(x_7:V3)=>
       o6 (L8 x.2.1 (toN x.2.2)) fun(x_8:V3)=>
        some (Out.nx (x.1,U5 x.2.1 (toN x.2.2) x_6.1,A7 IntKind.i64 x.2.2 1))))
  (some (Out.ex (x.1,x.2.1)))
theorem Eu (ev:Int→Option (V3×Int)) (ops:List Int) (ho:ops.length≤3):VStep ops ev (PK ops.length) (a0a ev ops):=by
 refine⟨fun l c r h1 h2=>?_,fun l h=>?_⟩
 ·have hl:=(J7.1 h1).1
  unfold a0a
  simp only[H9 h1,o5,F6,h1,o7,L8,toN,Int.toNat_natCast,h2,a4K hl,U5,a4L _ hl]
  cases ieq r.2 0
  ·rfl
  ·simp only[o9,l9,o5]
   rw[X3 (by omega)]
 ·unfold a0a
  rw[a2h h,h,I4];rfl
theorem KG (n:Nat) (E:O0) (i:Int) (x:Int×Int) (ops:List Int) (h1:lat E.1 i=some x) (h2:dn E i=some ops) (ho:ops.length≤3):
  (x8 (n+1)).2.1 E i=l7 (lzB x.1) ((x8 n).2.2 E x ops)
   (o6 (U2 (a0a ((x8 n).2.1 E) ops) ((0,0,0),PK ops.length [],0)) fun(o:V3×List V3⊕V3×Int)=>X6 o (fun(y:V3×List V3)=>pX x y.2 E.2.2) fun(r:V3×Int)=>some r):=by
 rw[c1X]
 unfold jv lzB
 simp only[h1,h2,o7,bT]
 rw[show o8 ops=(ops.length:Int)from rfl]
 have hp:jH (ops.length:Int) (((0,0,0):Int×Int×Int))=some (PK ops.length []):=by
  rw[CQ (by omega) (by omega)];rfl
 cases g1:ieq x.1 23
 ·cases g2:ieq x.1 24
  ·cases g3:ieq x.1 26
   ·simp only[l9,o7,D7]
    rw[show jH (ops.length:Int) _=_ from hp,o7]
    rfl
   ·simp only[l9,o5]
    generalize (x8 n).2.2 E x ops=q
    cases q <;> rfl
  ·simp only[l9,o5]
   generalize (x8 n).2.2 E x ops=q
   cases q <;> rfl
 ·simp only[o5]
  generalize (x8 n).2.2 E x ops=q
  cases q <;> rfl
theorem FV (t:XT) (o:Nat):(NU t o).length≤3:=by cases t <;> simp[NU]
theorem UJ {e:List (Int×Int)} {S:List Int} {env:U9} (hE:EvOk env) (he:e.length≤48) (hI:∀n∈e,I64 n.2):∀(t:XT) (o k:Nat),At e S t o→t.wf→3*t.size≤k→(x8 k).2.1 (e,S,env) (rtI t o:Int)=some (evT env t):=by
 intro t
 induction t with
 | l0 n=>
  intro o k h hw hk
  have hr:=oZ h
  obtain⟨k,rfl⟩:∃m,k=m+3:=⟨k -3,by simp only[XT.size]at hk;omega⟩
  have hz:=a2X (.inl (show arF n.1=0 from hw))
  rw[show k+3=(k+2)+1 from rfl,KG _ _ _ n (NU (.l0 n) o) (by rw[F6];exact hr.1) (wV env h he hw) (FV _ _)]
  rw[show lzB n.1=false by unfold lzB;rw[D8 hz.1,D8 hz.2.1,D8 hz.2.2];rfl,l9]
  rw[show NU (.l0 n) o=[]from rfl,v0 (Eu _ _ (by simp)),o7,D7]
  exact(He [] hE (hI n (dG hr.1)) hz (by simp)).2
 | l1 n a iha=>
  intro o k h hw hk
  have hr:=oZ h
  simp only[XT.size]at hk
  obtain⟨k,rfl⟩:∃m,k=m+3:=⟨k -3,by omega⟩
  have hz:=a2X (.inr (show arF n.1=1 from hw.1))
  rw[show k+3=(k+2)+1 from rfl,KG _ _ _ n (NU (.l1 n a) o) (by rw[F6];exact hr.1) (wV env h he hw) (FV _ _)]
  rw[show lzB n.1=false by unfold lzB;rw[D8 hz.1,D8 hz.2.1,D8 hz.2.2];rfl,l9]
  rw[show NU (.l1 n a) o=[(rtI a o:Int)]from rfl,v1 (Eu _ _ (by simp)) (iha o (k+2) (a9q h) hw.2 (by omega)),o7]
  rw[show evT env (.l1 n a)=l7 (ieq (evT env a).2 0) (tY n [(evT env a).1] env) ((0,0,0),(evT env a).2)from rfl]
  cases ieq (evT env a).2 0
  ·rfl
  exact(He [(evT env a).1] hE (hI n (dG hr.1)) hz (by simp)).2
 | l2 n a b iha ihb=>
  intro o k h hw hk
  have hr:=oZ h
  simp only[XT.size]at hk
  obtain⟨k,rfl⟩:∃m,k=m+3:=⟨k -3,by omega⟩
  have hz:=b3C (show arF n.1=2 from hw.1)
  rw[show k+3=(k+2)+1 from rfl,KG _ _ _ n (NU (.l2 n a b) o) (by rw[F6];exact hr.1) (wV env h he hw) (FV _ _)]
  rw[show NU (.l2 n a b) o=[(rtI a o:Int),(rtI b (o+a.size):Int)]from rfl]
  rw[show evT env (.l2 n a b)=l7 (lzB n.1) (ZM n (evT env a) (evT env b)) (l7 (ieq (evT env a).2 0) (l7 (ieq (evT env b).2 0) (tY n [(evT env a).1,(evT env b).1] env) ((0,0,0),(evT env b).2)) ((0,0,0),(evT env a).2))from rfl]
  cases hl:lzB n.1
  ·have hz:=b7M hl
   simp only[l9]
   rw[v2 (Eu _ _ (by simp)) (iha o (k+2) (Qb h).1 hw.2.1 (by omega)) (ihb (o+a.size) (k+2) (Qb h).2 hw.2.2 (by omega)),o7]
   cases ieq (evT env a).2 0
   ·rfl
   cases ieq (evT env b).2 0
   ·rfl
   exact(He [(evT env a).1,(evT env b).1] hE (hI n (dG hr.1)) hz (by simp)).2
  ·simp only[o5]
   exact a3S hz (iha o k (Qb h).1 hw.2.1 (by omega)) (ihb (o+a.size) k (Qb h).2 hw.2.2 (by omega))
 | l3 n a b c iha ihb ihc=>
  intro o k h hw hk
  have hr:=oZ h
  simp only[XT.size]at hk
  obtain⟨k,rfl⟩:∃m,k=m+3:=⟨k -3,by omega⟩
  have hz:=b3D (show arF n.1=3 from hw.1)
  rw[show k+3=(k+2)+1 from rfl,KG _ _ _ n (NU (.l3 n a b c) o) (by rw[F6];exact hr.1) (wV env h he hw) (FV _ _)]
  rw[show lzB n.1=true by rw[hz];decide,o5]
  exact a3U hz (iha o k (Qc h).1 hw.2.1 (by omega)) (ihb (o+a.size) (k+1) (Qc h).2.1 hw.2.2.1 (by omega)) (ihc (o+a.size+b.size) (k+1) (Qc h).2.2 hw.2.2.2 (by omega))
def qj (e:List (Int×Int)) (env:U9):V3×Int:=match iL e with
 | .inl x=>((0,0,0),x.2)
 | .inr t=>evT env t
theorem a3a {e:List (Int×Int)} {t:XT} (h:iL e= .inr t):At e (t.sts 0) t 0∧e.length≤48∧e.length=t.size∧G8 .i64 (o8 e) 1=(rtI t 0:Int):=by
 obtain⟨hp,h48⟩:=xk h
 have hsz:e.length=t.size:=by rw[hp,XT.post_len]
 have hpos:=t.size_pos
 refine⟨⟨[],[],[],[],by simp[←hp],by simp,rfl,rfl⟩,h48,hsz,?_⟩
 rw[H8 (by unfold I64 o8;omega)]
 unfold o8 rtI;omega
theorem ZE {e:List (Int×Int)} {env:U9} (hE:EvOk env) (hI:∀n∈e,I64 n.2):xK e env=some (qj e env):=by
 unfold xK Ap qj
 rw[GH]
 unfold uG
 cases h:iL e with
 | inl x=>simp only[o7,D8 (BJ h)];rfl
 | inr t=>
  obtain⟨h1,h2,h3,h4⟩:=a3a h
  simp only[o7,E9 (rfl:(0:Int)=0),o9,l9,bT]
  rw[h4,show oD (e,t.sts 0,env) ((rtI t 0:Nat):Int)=some (evT env t)from UJ hE h2 hI t 0 dN h1 (IY h) (by unfold dN;omega)] <;> rfl
abbrev E4:Type:=Int×Int×Int×Int
def AB (s:x9) (env:U9) (m d:Int) (ap:List Bool) (i:Int):List Bool⊕(Int×E4):=
 match lat s.2.2.2.2 i with
 | none=> .inl ap
 | some r=>l7 (ieq (o8 r.2.2.2.2.2.1) 0) (.inl (ap++[true])) (l7 (ieq (qj r.2.2.2.2.2.1 env).2 0) (.inl (ap++[ieq (qj r.2.2.2.2.2.1 env).1.2.2 1])) (.inr (0,(qj r.2.2.2.2.2.1 env).2,m,d,i)))
def U3 (s:x9) (env:U9) (m d:Int):Int×E4:=
 match U1 (AB s env m d) (V4 s d env.1).1 []with
 | .inr e=>e
 | .inl ap=>l7 (ilt (vY (V4 s d env.1).2.1 (V4 s d env.1).2.2 ap) 0) (vY (V4 s d env.1).2.1 (V4 s d env.1).2.2 ap,0,0,0,0) (((V4 s d env.1).1.getD (vY (V4 s d env.1).2.1 (V4 s d env.1).2.2 ap).toNat 0),0,0,0,0)
theorem WR {s:x9} {d t i:Int} (h:i∈(V4 s d t).1):∃r,lat s.2.2.2.2 i=some r∧r∈s.2.2.2.2:=by
 have h:i∈castL (N9 s d t):=h
 obtain⟨k,hk,rfl⟩:=List.mem_map.1 h
 have:=(gW hk).1
 exact fU (by omega) (by unfold o8;omega)
theorem GL (s:x9) (d t:Int):(V4 s d t).1.length≤s.2.2.2.2.length∧(V4 s d t).2.1.length=(V4 s d t).1.length:=by
 refine⟨?_,?_⟩
 ·show(castL (N9 s d t)).length≤_
  rw[xI];exact yU _ _
 ·show((N9 s d t).map _).length=(castL (N9 s d t)).length
  rw[xI,List.length_map]
theorem a3j {oc pr:Int→Int} {l:List Int} {n:Int} (hn:0≤n) (h:∀x∈l,oc x<n):chF oc pr l<n:=by
 unfold chF
 cases hb:oz oc pr l with
 | nil=>show(-1:Int)<n;omega
 | cons b r=>
  cases r with
  | nil=>exact h b (Cb (oc:=oc) (pr:=pr) (by rw[hb];simp))
  | cons c r=>show(-2:Int)<n;omega
theorem a4t (par prio:List Int) (ap:List Bool):∀(k:Nat) (i:Int),i<par.length→ocF par prio ap k i<par.length
 | 0,i,h=>by show(-1:Int)<_;omega
 | k+1,i,h=>by
  unfold ocF
  have hb:chF (ocF par prio ap k) (prF prio) (castL (iM par i))<(par.length:Int):=a3j (by omega) fun x hx=>by
   unfold castL at hx
   obtain⟨j,hj,rfl⟩:=List.mem_map.1 hx
   have:=(KC hj).1
   exact a4t par prio ap k _ (by omega)
  cases ieq (chF (ocF par prio ap k) (prF prio) (castL (iM par i))) (-1)
  ·exact hb
  ·cases apF ap i
   ·show(-1:Int)<_;omega
   ·exact h
theorem TK (par prio:List Int) (ap:List Bool):vY par prio ap<par.length:=by
 unfold vY
 cases ieq (uq par prio) 0
 ·show(-1:Int)<_;omega
 cases ieq (o8 ap) (o8 par)
 ·show(-1:Int)<_;omega
 show chS par prio ap (-1)<_
 unfold chS
 refine a3j (by omega) fun x hx=>?_
 unfold castL at hx
 obtain⟨j,hj,rfl⟩:=List.mem_map.1 hx
 have:=(KC hj).1
 unfold OC
 exact a4t par prio ap _ _ (by omega)
def SY (m:Nat) (l:List Bool):List Bool:=l++List.replicate (m -l.length) false
theorem a4I {m:Nat} {l:List Bool} (h:l.length<m):(SY m l)[l.length]? =some false:=by
 unfold SY
 rw[List.getElem?_append_right (Nat.le_refl _),Nat.sub_self,List.getElem?_replicate,if_pos (by omega)]
theorem a4J {m:Nat} {l:List Bool} (v:Bool) (h:l.length<m):(SY m l).set l.length v=SY m (l++[v]):=by
 unfold SY
 obtain⟨k,hk⟩:∃k,m -l.length=k+1:=⟨m -l.length -1,by omega⟩
 rw[List.set_append_right _ _ (Nat.le_refl _),Nat.sub_self,hk,List.replicate_succ,List.set_cons_zero]
 rw[show m -(l++[v]).length=k by simp;omega]
 simp
theorem a2g {m:Nat} {l:List Bool} (h:l.length=m):SY m l=l:=by unfold SY;rw[h,Nat.sub_self];simp
theorem Xd (s:x9) (env:U9) (m d:Int) (ap:List Bool):
  l7 (ilt (vY (V4 s d env.1).2.1 (V4 s d env.1).2.2 ap) 0) (some ((vY (V4 s d env.1).2.1 (V4 s d env.1).2.2 ap,0,0,0,0):Int×E4))
   (o6 (lat (V4 s d env.1).1 (vY (V4 s d env.1).2.1 (V4 s d env.1).2.2 ap)) fun(x_3:Int)=>o6 (L8 (V4 s d env.1).1 (toN (vY (V4 s d env.1).2.1 (V4 s d env.1).2.2 ap))) fun(x:Int)=>some (x,0,0,0,0))=
  some (l7 (ilt (vY (V4 s d env.1).2.1 (V4 s d env.1).2.2 ap) 0) (vY (V4 s d env.1).2.1 (V4 s d env.1).2.2 ap,0,0,0,0) (((V4 s d env.1).1.getD (vY (V4 s d env.1).2.1 (V4 s d env.1).2.2 ap).toNat 0),0,0,0,0)):=by
 have hb:=TK (V4 s d env.1).2.1 (V4 s d env.1).2.2 ap
 have hl:=(GL s d env.1).2
 generalize vY (V4 s d env.1).2.1 (V4 s d env.1).2.2 ap=q at*
 generalize (V4 s d env.1).1=L at*
 by_cases g:q<0
 ·rw[E8 g];rfl
 rw[D9 (Int.not_lt.1 g)]
 obtain⟨i,rfl⟩:∃i:Nat,q=(i:Int):=⟨q.toNat,by omega⟩
 have hi:i<L.length:=by omega
 have e:=Y6 hi
 simp only[l9,F6,e,o7,L8,toN,Int.toNat_natCast,jZ,Option.getD_some]
theorem WA {s:x9} {env:U9} (hs:SmS s) (hE:EvOk env) (m d:Int):pG s env m d=some (U3 s env m d):=by
 have hnr:=hs.nr
 have hlen:=(GL s d env.1).1
 unfold pG
 rw[a2A (by omega),o7]
 rw[show jH (o8 (V4 s d env.1).1) false=some (SY (V4 s d env.1).1.length []) by rw[show o8 (V4 s d env.1).1=((V4 s d env.1).1.length:Int)from rfl,CQ (by omega) (by omega)];rfl,o7]
 unfold U3
 apply fV (V4 s d env.1).1 (AB s env m d) (fun b i=>(((0,0,0,0),SY (V4 s d env.1).1.length b,i):E4×List Bool×Int)) (fun b=>(((0,0,0,0),b):E4×List Bool)) (fun i b=>b.length=i) [] (by omega) rfl
 ·intro i a b hi hi' hb
  obtain⟨r,hr,hm⟩:=WR (dG hi)
  have hlt:=(J7.1 hi).1
  have hI:=(hs.ro r hm).1.2.2
  subst hb
  simp only[H9 hi,o5,F6,hi,o7,L8,toN,Int.toNat_natCast,hr,a4I hlt,U5,a4J _ hlt]
  unfold AB
  rw[hr]
  simp only
  cases ieq (o8 r.2.2.2.2.2.1) 0
  ·simp only[l9]
   rw[ZE hE hI.1,o7]
   cases ieq (qj r.2.2.2.2.2.1 env).2 0
   ·exact⟨rfl,fun _ h=>by cases h⟩
   ·simp only[o9,l9,o5]
    rw[X3 (by omega)]
    exact⟨rfl,fun _ h=>by cases h;simp⟩
  ·simp only[o5]
   rw[X3 (by omega)]
   exact⟨rfl,fun _ h=>by cases h;simp⟩
 ·intro b hb
  rw[I4,a2g hb];rfl
 ·intro _
  cases U1 (AB s env m d) (V4 s d env.1).1 []with
  | inr e=>rfl
  | inl ap=>
   simp only[D7,a2v,o7]
   exact Xd s env m d ap
theorem a3k {oc pr:Int→Int} {l:List Int} (h:∀x∈l,-2≤oc x):-2≤chF oc pr l:=by
 unfold chF
 cases hb:oz oc pr l with
 | nil=>show -2≤(-1:Int);omega
 | cons b r=>
  cases r with
  | nil=>exact h b (Cb (oc:=oc) (pr:=pr) (by rw[hb];simp))
  | cons c r=>show -2≤(-2:Int);omega
theorem a4u (par prio:List Int) (ap:List Bool):∀(k:Nat) (i:Int),0≤i→-2≤ocF par prio ap k i
 | 0,i,h=>by show -2≤(-1:Int);omega
 | k+1,i,h=>by
  unfold ocF
  have hb:-2≤chF (ocF par prio ap k) (prF prio) (castL (iM par i)):=a3k fun x hx=>by
   unfold castL at hx
   obtain⟨j,hj,rfl⟩:=List.mem_map.1 hx
   exact a4u par prio ap k _ (by omega)
  cases ieq (chF (ocF par prio ap k) (prF prio) (castL (iM par i))) (-1)
  ·exact hb
  ·cases apF ap i
   ·show -2≤(-1:Int);omega
   ·show -2≤i;omega
theorem a0S (par prio:List Int) (ap:List Bool):-2≤vY par prio ap:=by
 unfold vY
 cases ieq (uq par prio) 0
 ·show -2≤(-1:Int);omega
 cases ieq (o8 ap) (o8 par)
 ·show -2≤(-1:Int);omega
 show -2≤chS par prio ap (-1)
 unfold chS
 refine a3k fun x hx=>?_
 unfold castL at hx
 obtain⟨j,hj,rfl⟩:=List.mem_map.1 hx
 unfold OC
 exact a4u par prio ap _ _ (by omega)
theorem UV {s:x9} {env:U9} {m d:Int} (b:List Bool) (i:Int) (r:Int×E4) (h:AB s env m d b i= .inr r):r.2.1≠0:=by
 unfold AB at h
 cases hl:lat s.2.2.2.2 i with
 | none=>rw[hl]at h;cases h
 | some q=>
  rw[hl]at h
  simp only at h
  cases h1:ieq (o8 q.2.2.2.2.2.1) 0 <;> rw[h1]at h
  ·cases h2:ieq (qj q.2.2.2.2.2.1 env).2 0 <;> rw[h2]at h <;> cases h
   simp only
   intro h3
   rw[E9 h3]at h2;cases h2
  ·cases h
theorem Ux {s:x9} {env:U9} {m d:Int} (h0:(U3 s env m d).2.1=0) (h1:(U3 s env m d).1≠-1) (h2:(U3 s env m d).1≠-2):∃r,lat s.2.2.2.2 (U3 s env m d).1=some r∧r∈s.2.2.2.2:=by
 unfold U3 at*
 cases hf:U1 (AB s env m d) (V4 s d env.1).1 []with
 | inr e=>
  rw[hf]at h0
  exact absurd h0 (nO (AB s env m d) (fun r=>r.2.1≠0) UV _ _ _ hf)
 | inl ap=>
  rw[hf]at h0 h1 h2
  simp only at*
  have hb:=TK (V4 s d env.1).2.1 (V4 s d env.1).2.2 ap
  have hlo:=a0S (V4 s d env.1).2.1 (V4 s d env.1).2.2 ap
  have hl:=(GL s d env.1).2
  generalize vY (V4 s d env.1).2.1 (V4 s d env.1).2.2 ap=q at*
  by_cases g:q<0
  ·rw[E8 g]at h1 h2
   simp only[o5]at h1 h2
   omega
  rw[D9 (Int.not_lt.1 g)]
  have hi:q.toNat<(V4 s d env.1).1.length:=by omega
  simp only[l9,jZ,Y6 hi,Option.getD_some]
  exact WR (List.getElem_mem hi)
def yC (s:x9) (env:U9) (m d:Int):(V3×Int)⊕E4:=
 l7 (ieq (U3 s env m d).2.1 0) (l7 (ieq (U3 s env m d).1 (-1)) (.inr (10,m,d,-1)) (l7 (ieq (U3 s env m d).1 (-2)) (.inr (11,m,d,-1))
  (match lat s.2.2.2.2 (U3 s env m d).1 with
  | none=> .inr (1,0,0,0)
  | some r=>l7 (ieq (qj r.2.2.2.2.2.2.1 env).2 0) (.inl ((qj r.2.2.2.2.2.2.1 env).1,(U3 s env m d).1)) (.inr ((qj r.2.2.2.2.2.2.1 env).2,m,d,(U3 s env m d).1))))) (.inr (U3 s env m d).2)
theorem a3n {s:x9} {env:U9} {m d:Int} {e:E4} (h:yC s env m d= .inr e):e.1≠0:=by
 unfold yC at h
 cases h0:ieq (U3 s env m d).2.1 0 <;> rw[h0]at h
 ·cases h
  intro h3;rw[E9 h3]at h0;cases h0
 cases h1:ieq (U3 s env m d).1 (-1) <;> rw[h1]at h
 case true=>cases h;show(10:Int)≠0;decide
 cases h2:ieq (U3 s env m d).1 (-2) <;> rw[h2]at h
 case true=>cases h;show(11:Int)≠0;decide
 simp only[o5,l9]at h
 cases hl:lat s.2.2.2.2 (U3 s env m d).1 with
 | none=>rw[hl]at h;cases h;show(1:Int)≠0;decide
 | some r=>
  rw[hl]at h
  simp only at h
  cases h4:ieq (qj r.2.2.2.2.2.2.1 env).2 0 <;> rw[h4]at h <;> cases h
  simp only
  intro h3;rw[E9 h3]at h4;cases h4
theorem QT {s:x9} :∀(k:Nat) (O:List Int),(∀d∈O,0≤d∧d<nD s)→match NV s k O with | .inl O' =>(∀d∈O',0≤d∧d<nD s)∧O'.length≤O.length+k | .inr x=>x.1=[]
 | 0,O,h=>⟨h,by omega⟩
 | k+1,O,h=>by
  unfold NV
  by_cases hc:O.length<s.2.2.2.1.length
  ·rw[if_pos hc]
   cases hn:DI s O with
   | none=>rfl
   | some d=>
    have hd:=(NP hn).1
    have:=QT k (O++[(d:Int)]) (fun x hx=>by
     rcases List.mem_append.1 hx with hx | hx
     ·exact h x hx
     ·rw[List.mem_singleton]at hx;subst hx;unfold nD o8;omega)
    simp only
    cases ho:NV s k (O++[(d:Int)])with
    | inl O' =>rw[ho]at this;exact⟨this.1,by have:=this.2;simp at this;omega⟩
    | inr x=>rw[ho]at this;exact this
  ·rw[if_neg hc];exact⟨h,by omega⟩
theorem VM (s:x9):(∀d∈(gp s).1,0≤d∧d<nD s)∧(gp s).1.length≤100:=by
 have:=QT (s:=s) 100 [] (by simp)
 unfold gp
 cases ho:NV s 100 []with
 | inl O=>rw[ho]at this;exact⟨this.1,by have:=this.2;simp at this;exact this⟩
 | inr x=>rw[ho]at this;simp only at this ⊢;rw[this];simp
abbrev DB:Type:=List V3×List Int
def tN (env:U9) (ds:List V3):U9:=(env.1,env.2.1,ds,env.2.2.2)
theorem CE {env:U9} (h:EvOk env) (ds:List V3):EvOk (tN env ds):=⟨h.ms,h.tb⟩
def scG (s:x9) (env:U9) (m:Int) (need:List Bool) (b:DB) (d:Int):DB⊕(E4×List V3):=
 l7 ((lat need d).getD false) (match yC s (tN env b.1) m d with
  | .inl v=> .inl (b.1.set d.toNat v.1,b.2.set d.toNat v.2)
  | .inr e=> .inr (e,b.1)) (.inl b)
def scS (s:x9) (env:U9) (m:Int) (need:List Bool):DB⊕(E4×List V3):=U1 (scG s env m need) (gp s).1 (List.replicate s.2.2.2.1.length (0,0,0),List.replicate s.2.2.2.1.length 0)
theorem a8O {s:x9} {env:U9} {m:Int} {need:List Bool} (b:DB) (d:Int) (r:E4×List V3) (h:scG s env m need b d= .inr r):r.1.1≠0:=by
 unfold scG at h
 cases hb:(lat need d).getD false <;> rw[hb]at h
 ·cases h
 simp only[o5]at h
 cases hd:yC s (tN env b.1) m d with
 | inl v=>rw[hd]at h;cases h
 | inr e=>rw[hd]at h;cases h;exact a3n hd
theorem Gw {s:x9} {env:U9} {m:Int} {need:List Bool} {r:E4×List V3} (h:scS s env m need= .inr r):r.1.1≠0:=nO (scG s env m need) (fun r=>r.1.1≠0) a8O _ _ _ h
def Vr {β ρ ρ' :Type} (h:ρ→ρ'):β⊕ρ→β⊕ρ' | .inl b=> .inl b | .inr r=> .inr (h r)
theorem Ib {α β ρ ρ' :Type} (G:β→α→β⊕ρ) (G' :β→α→β⊕ρ') (h:ρ→ρ') (hG:∀b a,G' b a=Vr h (G b a)):∀(l:List α) (b:β),U1 G' l b=Vr h (U1 G l b)
 | [],b=>rfl
 | a::l,b=>by
  unfold U1
  rw[hG b a]
  cases G b a with
  | inl b' =>exact Ib G G' h hG l b'
  | inr r=>rfl
theorem Bq {α:Type} (s:x9) (hs:SmS s) (x:α):jH (o8 s.2.2.2.1) x=some (List.replicate s.2.2.2.1.length x):=by
 have:=hs.nd
 rw[show o8 s.2.2.2.1=(s.2.2.2.1.length:Int)from rfl,CQ (by omega) (by omega)];rfl
def scP (env:U9):E4×List V3→List Int×E4×U9:=fun r=>([],r.1,tN env r.2)
theorem Fa {s:x9} {env:U9} {need:List Bool} (hs:SmS s) (hE:EvOk env) (m:Int) (hn:need.length=s.2.2.2.1.length):aU s env m need=some (match scS s env m need with | .inl b=>(b.2,(0,0,0,0),tN env b.1) | .inr r=>([],r.1,tN env r.2)):=by
 obtain⟨o1,o2⟩:=VM s
 unfold aU
 rw[Bq s hs,o7,Bq s hs,o7,a4G hs,o7]
 have hfold:=Ib (scG s env m need) (fun b d=>Vr (scP env) (scG s env m need b d)) (scP env) (fun _ _=>rfl) (gp s).1 (List.replicate s.2.2.2.1.length (0,0,0),List.replicate s.2.2.2.1.length 0)
 unfold scS
 apply fV (gp s).1 (fun b d=>Vr (scP env) (scG s env m need b d)) (fun b i=>((tN env b.1,(0,0,0,0),b.2,i):U9×E4×List Int×Int)) (fun b=>((tN env b.1,(0,0,0,0),b.2):U9×E4×List Int)) (fun i b=>b.1.length=s.2.2.2.1.length∧b.2.length=s.2.2.2.1.length) (List.replicate s.2.2.2.1.length (0,0,0),List.replicate s.2.2.2.1.length 0) (by omega) ⟨by simp,by simp⟩
 ·intro i d b hi hi' hb
  have hr:=o1 d (dG hi)
  have hnd:nD s=(s.2.2.2.1.length:Int):=rfl
  obtain⟨k,rfl⟩:∃k:Nat,d=(k:Int):=⟨d.toNat,by omega⟩
  have hk:k<s.2.2.2.1.length:=by omega
  have e1:=Y6 (show k<need.length by omega)
  have e2:=Y6 (show k<b.1.length by omega)
  have e3:=Y6 (show k<b.2.length by omega)
  unfold scG
  simp only[H9 hi,o5,F6,hi,o7,L8,toN,Int.toNat_natCast,e1,Option.getD_some]
  cases need[k]
  ·simp only[D6,o5,l9]
   rw[X3 (by omega)]
   exact⟨rfl,fun _ h=>by cases h;exact hb⟩
  simp only[o9,o5,l9]
  rw[WA hs (CE hE b.1),o7]
  unfold yC
  cases h0:ieq (U3 s (tN env b.1) m (k:Int)).2.1 0
  ·exact⟨rfl,fun _ h=>by cases h⟩
  cases h1:ieq (U3 s (tN env b.1) m (k:Int)).1 (-1)
  case true=>exact⟨rfl,fun _ h=>by cases h⟩
  cases h2:ieq (U3 s (tN env b.1) m (k:Int)).1 (-2)
  case true=>exact⟨rfl,fun _ h=>by cases h⟩
  obtain⟨r,hr,hm⟩:=Ux (I9.1 h0) (fun h=>by rw[E9 h]at h1;cases h1) (fun h=>by rw[E9 h]at h2;cases h2)
  simp only[o9,l9,o5,hr,o7]
  rw[ZE (CE hE b.1) (hs.ro r hm).1.2.2.2,o7]
  cases h3:ieq (qj r.2.2.2.2.2.2.1 (tN env b.1)).2 0
  ·exact⟨rfl,fun _ h=>by cases h⟩
  ·simp only[o9,l9,o5]
   refine⟨?_,fun _ h=>by cases h;exact⟨by simp[hb.1],by simp[hb.2]⟩⟩
   rw[X3 (by omega)]
   have e2' :(tN env b.1).2.2.1[k]? =some (b.1[k]'(by omega)):=e2
   simp only[e2',e3,o7]
   rfl
 ·intro b hb
  rw[I4];rfl
 ·intro _
  rw[hfold]
  cases U1 (scG s env m need) (gp s).1 (List.replicate s.2.2.2.1.length (0,0,0),List.replicate s.2.2.2.1.length 0) <;> rfl
def xw (l:J3) (k:Int) (c:aQ) (ex:Bool) (d:Int):E4:=
 l7 (ieq (P5 l).1 0) (match lat l.2.2 k with
  | none=>(6,-1,-1,-1)
  | some s=>l7 (l7 ex (l7 (ilt d 0) true (ile (o8 s.2.2.2.1) d)) false) (6,-1,-1,-1) (l7 (ieq (Dv l k c).2.2 0) (0,0,0,0) ((Dv l k c).2.2,(Dv l k c).1,-1,-1))) (1,-1,-1,-1)
theorem a3Q (l:List x9) (k:Int):(ilt k 0=true∧lat l k=none)∨(ilt k 0=false∧ile (o8 l) k=true∧lat l k=none)∨(ilt k 0=false∧ile (o8 l) k=false∧∃s,lat l k=some s∧s∈l):=by
 by_cases h:k<0
 ·exact .inl ⟨E8 h,jc (.inl (F9 h))⟩
 by_cases h2:o8 l≤k
 ·exact .inr (.inl ⟨D9 (by omega),F7 h2,jc (.inr (D9 h2))⟩)
 ·exact .inr (.inr ⟨D9 (by omega),F9 (by omega),fU (by omega) (by omega)⟩)
theorem a7M {l:J3} (hL:SmL l) (k:Int) {c:aQ} (hc:SmC c) (ex:Bool) (d:Int):iJ l k c ex d=some (xw l k c ex d):=by
 unfold iJ xw
 rw[BN hL,o7,a7O l k hc]
 cases ieq (P5 l).1 0
 ·rfl
 simp only[o9,l9,o5]
 rcases a3Q l.2.2 k with⟨h1,h2⟩ | ⟨h1,h2,h3⟩ | ⟨h1,h2,s,h3,_⟩
 ·rw[h1,h2];rfl
 ·rw[h1,h2,h3];rfl
 ·rw[h1,h2,h3]
  simp only[l9,o7]
  cases ex
  ·simp only[l9,o7,D7]
   cases ieq (Dv l k c).2.2 0 <;> rfl
  ·simp only[o5]
   cases ilt d 0
   ·cases ile (o8 s.2.2.2.1) d
    ·simp only[l9,o7,D7]
     cases ieq (Dv l k c).2.2 0 <;> rfl
    ·rfl
   ·rfl
def nZ:x9:=([],0,[],[],[])
def I8 (l:J3) (s:x9):x9:=l7 (ile 0 s.2.1) ((lat l.2.2 s.2.1).getD nZ) nZ
def jW (n:Nat):List Bool:=List.replicate n false
theorem a1j {l:J3} {k:Int} {c:aQ} {ex:Bool} {d:Int} (h:(xw l k c ex d).1=0):(P5 l).1=0∧∃s,lat l.2.2 k=some s:=by
 unfold xw at h
 cases h0:ieq (P5 l).1 0 <;> rw[h0]at h
 ·exact absurd (show(1:Int)=0 from h) (by decide)
 refine⟨I9.1 h0,?_⟩
 cases h1:lat l.2.2 k with
 | none=>rw[h1]at h;exact absurd (show(6:Int)=0 from h) (by decide)
 | some s=>exact⟨s,rfl⟩
theorem GR {l:J3} (h:(P5 l).1=0) {i:Nat} {s:x9} (hs:l.2.2[i]? =some s):(vT l i s).1=0:=by
 unfold P5 at h
 cases h1:ieq (yH l).1 0 <;> rw[h1]at h
 ·simp only[l9]at h;rw[E9 h]at h1;cases h1
 cases h2:ieq (zt l).1 0 <;> rw[h2]at h
 ·simp only[o5,l9]at h;rw[E9 h]at h2;cases h2
 simp only[o5]at h
 unfold Gx at h
 cases h3:ilt 4 (o8 l.2.2) <;> rw[h3]at h
 case true=>exact absurd (show(4:Int)=0 from h) (by decide)
 simp only[l9]at h
 have hi:=(J7.1 hs).1
 cases hf:P7 l.2.2.length (BH l)with
 | some r=>
  rw[hf]at h
  simp only at h
  obtain⟨j,hj,hp⟩:=bV hf
  unfold BH at hp
  cases hq:l.2.2[j]? with
  | none=>rw[hq]at hp;cases hp
  | some q=>
   rw[hq]at hp
   simp only at hp
   unfold JZ at hp
   exact absurd h (by
    cases he:ieq (vT l j q).1 0 <;> rw[he]at hp <;> cases hp
    simp only
    intro h4;rw[E9 h4]at he;cases he)
 | none=>
  have hn:=kP hf i hi
  unfold BH at hn
  rw[hs]at hn
  simp only at hn
  unfold JZ at hn
  cases he:ieq (vT l i s).1 0 <;> rw[he]at hn
  ·cases hn
  exact I9.1 he
theorem Dk {l:J3} (h:(P5 l).1=0) {i:Nat} {s:x9} (hs:l.2.2[i]? =some s):yR l i s.2.1=false∧(Iz l s).1=0:=by
 have he:=GR h hs
 unfold vT at he
 cases g1:vg s.1 <;> rw[g1]at he
 ·exact absurd (show(2:Int)=0 from he) (by decide)
 cases g2:DU l 3 i s.1 <;> rw[g2]at he
 case true=>exact absurd (show(7:Int)=0 from he) (by decide)
 cases g3:yR l i s.2.1 <;> rw[g3]at he
 case true=>exact absurd (show(6:Int)=0 from he) (by decide)
 cases g4:ilt 12 (o8 s.2.2.1) <;> rw[g4]at he
 case true=>exact absurd (show(4:Int)=0 from he) (by decide)
 cases g5:ilt 12 (o8 s.2.2.2.1) <;> rw[g5]at he
 case true=>exact absurd (show(4:Int)=0 from he) (by decide)
 exact⟨rfl,he⟩
theorem Rt {l:J3} (h:(P5 l).1=0) {i:Nat} {s:x9} (hs:l.2.2[i]? =some s):yR l i s.2.1=false:=(Dk h hs).1
theorem nz {l:J3} (h:(P5 l).1=0) {k:Int} {s:x9} (hs:lat l.2.2 k=some s):(ile 0 s.2.1=false∧ilt s.2.1 0=true∧I8 l s=nZ)∨(ile 0 s.2.1=true∧ilt s.2.1 0=false∧ile (o8 l.2.2) s.2.1=false∧lat l.2.2 s.2.1=some (I8 l s)∧I8 l s∈l.2.2):=by
 obtain⟨k0,k1,k2,k3⟩:=Z7 hs
 have hm:=Rt h k3
 unfold yR at hm
 by_cases g:0≤s.2.1
 ·right
  rw[D8 (show s.2.1≠-1 by intro e;rw[e]at g;exact absurd g (by decide)),D9 g]at hm
  simp only[l9]at hm
  cases g2:ile ((k.toNat:Nat):Int) s.2.1 <;> rw[g2]at hm
  case true=>cases hm
  rw[uf]at g2
  have hlt:s.2.1<o8 l.2.2:=by
   have:((k.toNat:Nat):Int)=k:=Int.toNat_of_nonneg k0
   rw[this]at g2
   exact Int.lt_trans g2 k1
  obtain⟨q,hq,hqm⟩:=fU g hlt
  have e:I8 l s=q:=by unfold I8;rw[F7 g,hq];rfl
  rw[e]
  exact⟨F7 g,D9 g,F9 hlt,hq,hqm⟩
 ·left
  have g' :=Int.not_le.1 g
  refine⟨F9 g',E8 g',?_⟩
  unfold I8;rw[F9 g'];rfl
theorem Uk {σ ε α β:Type} {f:σ→Option (σ⊕ε)} {mk:List β→Int→σ} {fin:List β→ε} {l:List α} {g:α→β}
  (hs:∀(i:Nat) (a:α) (b:List β),l[i]? =some a→b.length=i→f (mk b (i:Int))=some (.inl (mk (b++[g a]) ((i+1:Nat):Int))))
  (he:∀b,f (mk b (l.length:Int))=some (.inr (fin b))):∀(l2 l1:List α) (k:Nat),l=l1++l2→iC f (k+1+l2.length) (mk (l1.map g) (l1.length:Int))=some (fin (l.map g))
 | [],l1,k,h=>by
  have:l=l1:=by simpa using h
  subst this
  exact xR (he _)
 | a::l2,l1,k,h=>by
  rw[show k+1+(a::l2).length=(k+1+l2.length)+1 by simp;omega,su (hs l1.length a (l1.map g) (by rw[h];simp) (by simp))]
  have:=Uk hs he l2 (l1++[a]) k (by rw[h];simp)
  simpa using this
theorem a7L {σ ε α β:Type} {f:σ→Option (σ⊕ε)} (mk:List β→Int→σ) (fin:List β→ε) (l:List α) (g:α→β) (hn:l.length≤1000000)
  (hs:∀(i:Nat) (a:α) (b:List β),l[i]? =some a→b.length=i→f (mk b (i:Int))=some (.inl (mk (b++[g a]) ((i+1:Nat):Int))))
  (he:∀b,f (mk b (l.length:Int))=some (.inr (fin b))):X5 f (mk [] 0)=some (fin (l.map g)):=by
 unfold X5
 rw[show dN=(dN -l.length -1)+1+l.length by unfold dN;omega]
 exact Uk hs he l [] _ rfl
theorem VD {l:J3} (hL:SmL l) (h:(P5 l).1=0) {k:Int} {s:x9} (hs:lat l.2.2 k=some s):pF l k=some (s,I8 l s,jW s.2.2.2.1.length,jW (I8 l s).2.2.2.1.length):=by
 have hm:=(Z7 hs).2.2.1
 have hnd:=(hL.sc s hm).nd
 unfold pF
 rw[hs,o7,show jH (o8 s.2.2.2.1) false=some (jW s.2.2.2.1.length)from Bq s (hL.sc s hm) false,o7]
 rcases nz h hs with⟨g1,g2,g3⟩ | ⟨g1,g2,g3,g4,g5⟩
 ·rw[g1,g3];rfl
 ·rw[g1,g4]
  simp only[o5,o7]
  rw[show jH (o8 (I8 l s).2.2.2.1) false=some (jW (I8 l s).2.2.2.1.length)from Bq _ (hL.sc _ g5) false,o7]
theorem XP:SmS nZ:=⟨by simp[nZ],by simp[nZ],by simp[nZ],by simp[nZ],⟨by simp[nZ],by simp[nZ]⟩,by simp[nZ]⟩
def Nr (l:J3) (c:aQ) (v:List V3):U9:=(c.1,v,[],[],[],l.2.1)
def mG (l:J3) (c:aQ) (ms:x9) (need:List Bool) (b:List DB) (a:List V3×Nat):List DB⊕E4:=
 match scS ms (Nr l c a.1) (a.2:Int) need with
 | .inl x=> .inl (b++[x])
 | .inr e=> .inr e.1
def mS (l:J3) (c:aQ) (ms:x9) (need:List Bool):List DB⊕E4:=U1 (mG l c ms need) c.2.2.zipIdx []
theorem a4b {l:J3} {c:aQ} {ms:x9} {need:List Bool} (b:List DB) (a:List V3×Nat) (r:E4) (h:mG l c ms need b a= .inr r):r.1≠0:=by
 unfold mG at h
 cases hs:scS ms (Nr l c a.1) (a.2:Int) need with
 | inl x=>rw[hs]at h;cases h
 | inr e=>rw[hs]at h;cases h;exact Gw hs
theorem a9k {l:List (List V3)} {i:Nat} {a:List V3×Nat} (h:l.zipIdx[i]? =some a):l[i]? =some a.1∧a.2=i:=by
 rw[List.getElem?_zipIdx]at h
 cases hl:l[i]? with
 | none=>rw[hl]at h;cases h
 | some v=>rw[hl]at h;cases h;exact⟨rfl,by simp⟩
theorem SB {l:J3} (hT:∀t∈l.2.1,kK t) (c:aQ) (v:List V3):EvOk (Nr l c v):=⟨by simp[Nr],hT⟩
def wX (l:J3) (s:x9) (c:aQ) (b:List DB):U9:=(c.1,c.2.1,[],b.map (·.1),(I8 l s).2.2.2.1.map (·.2),l.2.1)
theorem Nz {l:J3} (hL:SmL l) (h:(P5 l).1=0) {k:Int} {s:x9} (hs:lat l.2.2 k=some s):SmS (I8 l s):=by
 rcases nz h hs with⟨_,_,g3⟩ | ⟨_,_,_,_,g5⟩
 ·rw[g3];exact XP
 ·exact hL.sc _ g5
theorem a4c {l:J3} {c:aQ} {ms:x9} {need:List Bool} {b:List DB} (h:mS l c ms need= .inl b):b.length=c.2.2.length:=by
 have key:∀(L:List (List V3×Nat)) (b0 b:List DB),U1 (mG l c ms need) L b0= .inl b→b.length=b0.length+L.length:=by
  intro L
  induction L with
  | nil=>intro b0 b h;cases h;simp
  | cons a L ih=>
   intro b0 b h
   unfold U1 at h
   cases hg:mG l c ms need b0 a with
   | inr e=>rw[hg]at h;cases h
   | inl b1=>
    rw[hg]at h
    have:=ih b1 b h
    have h1:b1.length=b0.length+1:=by
     unfold mG at hg
     cases hs:scS ms (Nr l c a.1) (a.2:Int) need with
     | inr e=>rw[hs]at hg;cases hg
     | inl x=>rw[hs]at hg;cases hg;simp
    simp only[List.length_cons];omega
 have:=key _ _ _ h
 simpa using this
theorem Oe {l:J3} (hT:∀t∈l.2.1,kK t) (s:x9) (c:aQ) {b:List DB} (hb:b.length≤1000):EvOk (wX l s c b):=⟨by simp[wX];omega,hT⟩
abbrev ZT:Type:=Int×List V3×PUnit×List (List V3)×List (Int×Int)×List ai
def Am (l:J3) (s:x9) (c:aQ) (nS nM:List Bool):DB×List DB⊕E4:=
 match mS l c (I8 l s) nM with
 | .inr e=> .inr e
 | .inl b=>match scS s (wX l s c b) (-1) nS with
  | .inl x=> .inl (x,b)
  | .inr r=> .inr r.1
theorem RU {l:J3} {k:Int} {s:x9} {c:aQ} {nS nM:List Bool} (hS:SmS s) (hM:SmS (I8 l s)) (hC:SmC c) (hT:∀t∈l.2.1,kK t) (h1:nS.length=s.2.2.2.1.length) (h2:nM.length=(I8 l s).2.2.2.1.length):
  pz l k c (s,I8 l s,nS,nM)=some (match Am l s c nS nM with
   | .inl x=>((x.1.1,x.1.2,x.2),tN (wX l s c x.2) x.1.1,(0,0,0,0),(s,I8 l s,nS,nM))
   | .inr e=>(([],[],[]),(0,[],[],[],[],[]),e,(s,I8 l s,nS,nM))):=by
 have hnd:=hM.nd
 have hnm:=hC.nm
 unfold pz
 rw[show(X5 _ _)=some (((c.1,c.2.1,PUnit.unit,PUnit.unit,(I8 l s).2.2.2.1.map (fun f=>f.2),l.2.1)):Int×List V3×PUnit×PUnit×List (Int×Int)×List ai)from ?_,o7]
 rotate_left
 ·refine a7L (fun L i=>(((c.1,c.2.1,PUnit.unit,PUnit.unit,L,l.2.1),i):(Int×List V3×PUnit×PUnit×List (Int×Int)×List ai)×Int)) (fun L=>((c.1,c.2.1,PUnit.unit,PUnit.unit,L,l.2.1):Int×List V3×PUnit×PUnit×List (Int×Int)×List ai)) (I8 l s).2.2.2.1 (fun f=>f.2) (by omega) (fun i a L hi hL=>?_) (fun L=>?_)
  ·have:=(J7.1 hi).1
   simp only[H9 hi,o5,F6,hi,o7]
   rw[lh _ (by omega),o7,X3 (by omega)]
  ·rw[I4];rfl
 have hfold:=Ib (mG l c (I8 l s) nM) (fun b a=>Vr (fun e=>((([],[],[]),(0,[],[],[],[],[]),e,(s,I8 l s,nS,nM)):oW×U9×E4×S9)) (mG l c (I8 l s) nM b a)) (fun e=>((([],[],[]),(0,[],[],[],[],[]),e,(s,I8 l s,nS,nM)):oW×U9×E4×S9)) (fun _ _=>rfl) c.2.2.zipIdx []
 have hzl:c.2.2.zipIdx.length=c.2.2.length:=by simp
 unfold Am mS
 apply fV c.2.2.zipIdx (fun b a=>Vr (fun e=>((([],[],[]),(0,[],[],[],[],[]),e,(s,I8 l s,nS,nM)):oW×U9×E4×S9)) (mG l c (I8 l s) nM b a))
  (fun b i=>((([],[],[]),(0,[],[],[],[],[]),(0,0,0,0),(c.1,c.2.1,PUnit.unit,b.map (·.1),(I8 l s).2.2.2.1.map (fun f=>f.2),l.2.1),([],[],b),i):oW×U9×E4×ZT×oW×Int))
  (fun b=>((([],[],[]),(0,[],[],[],[],[]),(0,0,0,0),(c.1,c.2.1,PUnit.unit,b.map (·.1),(I8 l s).2.2.2.1.map (fun f=>f.2),l.2.1),([],[],b)):oW×U9×E4×ZT×oW))
  (fun i b=>b.length=i) [] (by omega) rfl
 ·intro i a b hi hi' hb
  obtain⟨z1,z2⟩:=a9k hi
  have hil:=(J7.1 z1).1
  unfold mG
  simp only[H9 z1,o5,F6,z1,o7]
  rw[show aU (I8 l s) (c.1,a.1,[],[],[],l.2.1) (i:Int) nM=_ from Fa hM (SB hT c a.1) (i:Int) h2,o7,z2]
  unfold Nr
  cases hq:scS (I8 l s) (c.1,a.1,[],[],[],l.2.1) (i:Int) nM with
  | inr e=>
   simp only[D8 (Gw hq)]
   exact⟨rfl,fun _ h=>by cases h⟩
  | inl x=>
   simp only[E9 (rfl:(0:Int)=0),o9,l9]
   rw[lh _ (by simp;omega),o7,lh _ (by omega),o7,X3 (by omega)]
   exact⟨by simp[Vr,tN],fun _ h=>by cases h;simp[hb]⟩
 ·intro b hb
  rw[hzl,I4];rfl
 ·intro _
  rw[hfold]
  cases hq:U1 (mG l c (I8 l s) nM) c.2.2.zipIdx []with
  | inr e=>rfl
  | inl b=>
   have hbl:b.length=c.2.2.length:=a4c (ms:=I8 l s) (need:=nM) hq
   have hsc:=Fa (need:=nS) hS (Oe hT s c (b:=b) (by omega)) (-1) h1
   unfold wX at hsc
   simp only[Vr,D7]
   rw[show aU s (c.1,c.2.1,[],b.map (·.1),(I8 l s).2.2.2.1.map (fun f=>f.2),l.2.1) (-1) nS=_ from hsc,o7]
   unfold wX
   cases hr:scS s (c.1,c.2.1,[],b.map (·.1),(I8 l s).2.2.2.1.map (fun f=>f.2),l.2.1) (-1) nS with
   | inr e=>simp only[D8 (Gw hr)];rfl
   | inl x=>rfl
theorem bf {α:Type} {n:Nat} {l:List α} (h:ilt (n:Int) (o8 l)=false):l.length≤n:=by
 rw[aT]at h;unfold o8 at h;omega
def Nk (r:J6):Bool:=l7 (ilt 80 (o8 r.1)) true (l7 (ilt 80 (o8 r.2.2.2.2.2.2.2)) true (l7 (ilt 50 (o8 r.2.2.2.2.2.1)) true (ilt 50 (o8 r.2.2.2.2.2.2.1))))
def smS (s:x9):Bool:=l7 (ilt 80 (o8 s.1)) false (l7 (ilt 14 (o8 s.2.2.1)) false (l7 (ilt 14 (o8 s.2.2.2.1)) false (l7 (ilt 60 (o8 s.2.2.2.2)) false
 (l7 (s.2.2.1.any fun f=>ilt 80 (o8 f.1)) false (l7 (s.2.2.2.1.any fun f=>ilt 80 (o8 f.1)) false (E5 (s.2.2.2.2.any Nk)))))))
theorem MJ {fs:List Y9} (h:fs.length≤1000000):U2 (fun(x:Int)=>l7 (ilt x (o8 fs)) (o6 (lat fs x) fun(x_1:Y9)=>l7 (ilt 80 (o8 x_1.1)) (some (Out.rt false)) (some (Out.nx (A7 IntKind.i64 x 1)))) (some (Out.ex PUnit.unit))) 0=some (bif fs.any (fun f=>ilt 80 (o8 f.1))then .inr false else .inl PUnit.unit):=by
 refine BZ fs (fun f=>ilt 80 (o8 f.1)) false PUnit.unit h (fun i a ha=>?_) ?_
 ·simp only[H9 ha,o5,F6,ha,o7]
  cases ilt 80 (o8 a.1) <;> rfl
 ·rw[I4];rfl
theorem PP (s:x9):pU s=some (smS s):=by
 unfold pU smS
 cases h1:ilt 80 (o8 s.1)
 case true=>rfl
 cases h2:ilt 14 (o8 s.2.2.1)
 case true=>rfl
 cases h3:ilt 14 (o8 s.2.2.2.1)
 case true=>rfl
 cases h4:ilt 60 (o8 s.2.2.2.2)
 case true=>rfl
 have l2:=bf (n:=14) h2
 have l3:=bf (n:=14) h3
 have l4:=bf (n:=60) h4
 simp only[l9,o7,D7]
 rw[MJ (by omega),MJ (by omega),o7]
 cases s.2.2.1.any fun f=>ilt 80 (o8 f.1)
 case true=>rfl
 simp only[cond_false,D7,l9,o7]
 cases s.2.2.2.1.any fun f=>ilt 80 (o8 f.1)
 case true=>rfl
 simp only[cond_false,D7,l9]
 refine ak (BZ s.2.2.2.2 Nk false PUnit.unit (by omega) (fun i a ha=>?_) ?_) ?_
 rotate_left 2
 ·cases s.2.2.2.2.any Nk <;> rfl
 ·simp only[H9 ha,o5,F6,ha,o7]
  unfold Nk
  cases ilt 80 (o8 a.1) <;> cases ilt 80 (o8 a.2.2.2.2.2.2.2) <;> cases ilt 50 (o8 a.2.2.2.2.2.1) <;> cases ilt 50 (o8 a.2.2.2.2.2.2.1) <;> rfl
 ·rw[I4];rfl
def ScI (s:x9):Prop:=∀r∈s.2.2.2.2,(∀n∈r.2.2.2.2.2.1,I64 n.2)∧∀n∈r.2.2.2.2.2.2.1,I64 n.2
theorem JW {a b:Bool} (h:l7 a false b=true):a=false∧b=true:=by cases a <;> cases b <;> first | exact⟨rfl,rfl⟩ | cases h
theorem PY {α:Type} {l:List α} {p:α→Bool} (h:l.any p=false):∀a∈l,p a=false:=by
 intro a ha
 rw[List.any_eq_false]at h
 have:=h a ha
 cases hp:p a
 ·rfl
 ·exact absurd hp this
theorem b4J {s:x9} (h:smS s=true) (hI:ScI s):SmS s:=by
 unfold smS at h
 obtain⟨h1,h⟩:=JW h
 obtain⟨h2,h⟩:=JW h
 obtain⟨h3,h⟩:=JW h
 obtain⟨h4,h⟩:=JW h
 obtain⟨h5,h⟩:=JW h
 obtain⟨h6,h⟩:=JW h
 have h7:s.2.2.2.2.any Nk=false:=by cases hq:s.2.2.2.2.any Nk <;> rw[hq]at h <;> first | rfl | cases h
 refine⟨by have:=bf (n:=80) h1;omega,bf (n:=14) h2,bf (n:=14) h3,bf (n:=60) h4,⟨fun f hf=>?_,fun f hf=>?_⟩,fun r hr=>?_⟩
 ·have:=bf (n:=80) (PY h5 f hf);omega
 ·have:=bf (n:=80) (PY h6 f hf);omega
 ·have hl:=PY h7 r hr
  unfold Nk at hl
  cases g1:ilt 80 (o8 r.1) <;> rw[g1]at hl
  case true=>cases hl
  cases g2:ilt 80 (o8 r.2.2.2.2.2.2.2) <;> rw[g2]at hl
  case true=>cases hl
  cases g3:ilt 50 (o8 r.2.2.2.2.2.1) <;> rw[g3]at hl
  case true=>cases hl
  have k1:=bf (n:=80) g1
  have k2:=bf (n:=80) g2
  exact⟨⟨by omega,by omega,(hI r hr).1,(hI r hr).2⟩,bf (n:=50) g3,bf (n:=50) hl⟩
def smC (c:aQ):Bool:=l7 (ilt 14 (o8 c.2.1)) false (l7 (ilt 10 (o8 c.2.2)) false (E5 (c.2.2.any fun v=>ilt 14 (o8 v))))
theorem TP (c:aQ):rf c=some (smC c):=by
 unfold rf smC
 cases h1:ilt 14 (o8 c.2.1)
 case true=>rfl
 cases h2:ilt 10 (o8 c.2.2)
 case true=>rfl
 have l2:=bf (n:=10) h2
 simp only[l9]
 refine ak (BZ c.2.2 (fun v=>ilt 14 (o8 v)) false PUnit.unit (by omega) (fun i a ha=>?_) ?_) ?_
 rotate_left 2
 ·cases c.2.2.any fun v=>ilt 14 (o8 v) <;> rfl
 ·simp only[H9 ha,o5,F6,ha,o7]
  cases ilt 14 (o8 a) <;> rfl
 ·rw[I4];rfl
theorem b4I {c:aQ} (h:smC c=true):SmC c:=by
 unfold smC at h
 obtain⟨h1,h⟩:=JW h
 obtain⟨h2,h⟩:=JW h
 have h3:(c.2.2.any fun v=>ilt 14 (o8 v))=false:=by cases hq:c.2.2.any fun v=>ilt 14 (o8 v) <;> rw[hq]at h <;> first | rfl | cases h
 exact⟨by have:=bf (n:=14) h1;omega,by have:=bf (n:=10) h2;omega,fun v hv=>by have:=bf (n:=14) (PY h3 v hv);omega⟩
theorem Ia {α β ρ:Type} (G:β→α→β⊕ρ) (Inv:β→Prop) (hG:∀b a b',Inv b→G b a= .inl b' →Inv b'):∀(l:List α) (b b' :β),Inv b→U1 G l b= .inl b' →Inv b'
 | [],b,b',hi,h=>by cases h;exact hi
 | a::l,b,b',hi,h=>by
  unfold U1 at h
  cases hg:G b a with
  | inr r=>rw[hg]at h;cases h
  | inl b1=>rw[hg]at h;exact Ia G Inv hG l b1 b' (hG b a b1 hi hg) h
theorem TJ {s:x9} {env:U9} {m:Int} {need:List Bool} {b:DB} (h:scS s env m need= .inl b):b.1.length=s.2.2.2.1.length∧b.2.length=s.2.2.2.1.length:=by
 refine Ia (scG s env m need) (fun b=>b.1.length=s.2.2.2.1.length∧b.2.length=s.2.2.2.1.length) (fun b a b' hi h=>?_) _ _ _ ⟨by simp,by simp⟩ h
 unfold scG at h
 cases hb:(lat need a).getD false <;> rw[hb]at h
 ·cases h;exact hi
 simp only[o5]at h
 cases hd:yC s (tN env b.1) m a with
 | inr e=>rw[hd]at h;cases h
 | inl v=>rw[hd]at h;cases h;exact⟨by simp[hi.1],by simp[hi.2]⟩
def Vo (e:bP):Bool:=l7 (ilt 80 (o8 e.1)) true (l7 (ilt 20 (o8 e.2)) true (e.2.any fun m=>ilt 80 (o8 m)))
def tG (b:Int) (t:ai):Int⊕Bool:=l7 (ilt 80 (o8 t.1)) (.inr false) (l7 (ilt 150 (A7 .i64 b (o8 t.2.2.2))) (.inr false) (.inl (A7 .i64 b (o8 t.2.2.2))))
def sG (b:Int) (s:x9):Int⊕Bool:=l7 (ilt 60 (A7 .i64 b (o8 s.2.2.2.2))) (.inr false) (l7 (smS s) (.inl (A7 .i64 b (o8 s.2.2.2.2))) (.inr false))
def smL (l:J3):Bool:=l7 (ilt 9 (o8 l.1)) false (l7 (ilt 9 (o8 l.2.1)) false (l7 (ilt 5 (o8 l.2.2)) false (l7 (l.1.any Vo) false
 (match U1 tG l.2.1 0 with | .inr _=>false | .inl _=>match U1 sG l.2.2 0 with | .inr _=>false | .inl _=>true))))
theorem b5I:∀(b:Int) (t:ai) (r:Bool),tG b t= .inr r→r=false:=by
 intro b t r h
 unfold tG at h
 cases g0:ilt 80 (o8 t.1) <;> cases g:ilt 150 (A7 .i64 b (o8 t.2.2.2)) <;> simp only[g0,g,o5,l9]at h <;> cases h <;> rfl
theorem b4H:∀(b:Int) (s:x9) (r:Bool),sG b s= .inr r→r=false:=by
 intro b s r h
 unfold sG at h
 cases g:ilt 60 (A7 .i64 b (o8 s.2.2.2.2)) <;> cases g2:smS s <;> simp only[g,g2,o5,l9]at h <;> cases h <;> rfl
theorem JP (l:J3):oP l=some (smL l):=by
 unfold oP smL
 cases h1:ilt 9 (o8 l.1)
 case true=>rfl
 cases h2:ilt 9 (o8 l.2.1)
 case true=>rfl
 cases h3:ilt 5 (o8 l.2.2)
 case true=>rfl
 have l1:=bf (n:=9) h1
 have l2:=bf (n:=9) h2
 have l3:=bf (n:=5) h3
 simp only[l9,o7,D7]
 refine ak (BZ l.1 Vo false PUnit.unit (by omega) (fun i a ha=>?_) ?_) ?_
 ·simp only[H9 ha,o5,F6,ha,o7]
  unfold Vo
  cases ilt 80 (o8 a.1)
  case true=>rfl
  cases h5:ilt 20 (o8 a.2)
  case true=>rfl
  have l5:=bf (n:=20) h5
  simp only[l9]
  refine ak (BZ a.2 (fun m=>ilt 80 (o8 m)) false PUnit.unit (by omega) (fun j m hm=>?_) ?_) ?_
  ·simp only[H9 hm,o5,F6,hm,o7]
   cases ilt 80 (o8 m) <;> rfl
  ·rw[I4];rfl
  ·cases a.2.any fun m=>ilt 80 (o8 m) <;> rfl
 ·rw[I4];rfl
 cases l.1.any Vo
 case true=>rfl
 simp only[cond_false,D7,l9]
 apply fV l.2.1 tG (fun b i=>((b,i):Int×Int)) (fun _=>PUnit.unit) (fun _ _=>True) 0 (by omega) trivial
 ·intro i t b hi hi' _
  refine⟨?_,fun _ _=>trivial⟩
  simp only[H9 hi,o5,F6,hi,o7]
  unfold tG
  rw[X3 (by omega)]
  cases ilt 80 (o8 t.1) <;> cases ilt 150 (A7 .i64 b (o8 t.2.2.2)) <;> rfl
 ·intro b _
  rw[I4];rfl
 ·intro _
  cases ht:U1 tG l.2.1 0 with
  | inr r=>rw[nO tG (fun r=>r=false) b5I _ _ _ ht];rfl
  | inl b=>
   simp only[D7]
   apply fV l.2.2 sG (fun b i=>((b,i):Int×Int)) (fun _=>PUnit.unit) (fun _ _=>True) 0 (by omega) trivial
   ·intro i s b hi hi' _
    refine⟨?_,fun _ _=>trivial⟩
    simp only[H9 hi,o5,F6,hi,o7,PP]
    unfold sG
    rw[X3 (by omega)]
    cases ilt 60 (A7 .i64 b (o8 s.2.2.2.2)) <;> cases smS s <;> rfl
   ·intro b _
    rw[I4];rfl
   ·intro _
    cases hs:U1 sG l.2.2 0 with
    | inr r=>rw[nO sG (fun r=>r=false) b4H _ _ _ hs];rfl
    | inl b=>rfl
structure WfL (l:J3):Prop where
 rl:∀t∈l.2.1,t.2.2.2.length≤4611686018427387904
 ri:∀t∈l.2.1,∀r∈t.2.2.2,Zg r
 sl:∀s∈l.2.2,s.2.2.2.2.length≤4611686018427387904
 si:∀s∈l.2.2,ScI s
theorem a7a:∀(L:List ai) (b b' :Int),0≤b→b≤150→(∀t∈L,t.2.2.2.length≤4611686018427387904)→U1 tG L b= .inl b' →∀t∈L,t.1.length≤80∧t.2.2.2.length≤150
 | [],_,_,_,_,_,_=>by simp
 | t::L,b,b',h0,h1,hw,h=>by
  have hwt:=hw t (by simp)
  have ha:A7 .i64 b (o8 t.2.2.2)=b+o8 t.2.2.2:=J5 (by unfold I64 o8;omega)
  unfold U1 tG at h
  rw[ha]at h
  cases g0:ilt 80 (o8 t.1) <;> rw[g0]at h
  case true=>cases h
  cases g1:ilt 150 (b+o8 t.2.2.2) <;> rw[g1]at h
  case true=>cases h
  rw[aT]at g1
  intro x hx
  rcases List.mem_cons.1 hx with rfl | hx
  ·exact⟨bf (n:=80) g0,by unfold o8 at g1;omega⟩
  ·exact a7a L (b+o8 t.2.2.2) b' (by unfold o8;omega) g1 (fun q hq=>hw q (by simp[hq])) h x hx
theorem a6f:∀(L:List x9) (b b' :Int),0≤b→b≤60→(∀s∈L,s.2.2.2.2.length≤4611686018427387904)→U1 sG L b= .inl b' →∀s∈L,smS s=true
 | [],_,_,_,_,_,_=>by simp
 | s::L,b,b',h0,h1,hw,h=>by
  have hwt:=hw s (by simp)
  have ha:A7 .i64 b (o8 s.2.2.2.2)=b+o8 s.2.2.2.2:=J5 (by unfold I64 o8;omega)
  unfold U1 sG at h
  rw[ha]at h
  cases g1:ilt 60 (b+o8 s.2.2.2.2) <;> rw[g1]at h
  case true=>cases h
  cases g2:smS s <;> rw[g2]at h
  case false=>cases h
  rw[aT]at g1
  intro x hx
  rcases List.mem_cons.1 hx with rfl | hx
  ·exact g2
  ·exact a6f L (b+o8 s.2.2.2.2) b' (by unfold o8;omega) g1 (fun q hq=>hw q (by simp[hq])) h x hx
theorem a6o {l:J3} (h:smL l=true) (hW:WfL l):SmL l∧∀t∈l.2.1,kK t:=by
 unfold smL at h
 obtain⟨h1,h⟩:=JW h
 obtain⟨h2,h⟩:=JW h
 obtain⟨h3,h⟩:=JW h
 obtain⟨h4,h⟩:=JW h
 have l1:=bf (n:=9) h1
 have l2:=bf (n:=9) h2
 have l3:=bf (n:=5) h3
 cases ht:U1 tG l.2.1 0 with
 | inr r=>rw[ht]at h;cases h
 | inl b=>
  rw[ht]at h
  simp only at h
  cases hs:U1 sG l.2.2 0 with
  | inr r=>rw[hs]at h;cases h
  | inl b' =>
   have T:=a7a l.2.1 0 b (by omega) (by omega) hW.rl ht
   have S:=a6f l.2.2 0 b' (by omega) (by omega) hW.sl hs
   refine⟨⟨⟨by omega,by omega,by omega⟩,fun e he=>?_,fun t ht=>by have:=(T t ht).1;omega,fun s hs=>b4J (S s hs) (hW.si s hs)⟩,fun t ht=>⟨by have:=(T t ht).2;omega,hW.ri t ht⟩⟩
   have hl:=PY h4 e he
   unfold Vo at hl
   cases g1:ilt 80 (o8 e.1) <;> rw[g1]at hl
   case true=>cases hl
   cases g2:ilt 20 (o8 e.2) <;> rw[g2]at hl
   case true=>cases hl
   have k1:=bf (n:=80) g1
   exact⟨by omega,fun m hm=>by have:=bf (n:=80) (PY hl m hm);omega⟩
theorem VV:reachBytes≤4611686018427387904:=by decide
theorem b2U {l:J3} (h:wf c7W l):WfL l:=by
 refine⟨fun t ht=>?_,fun t ht r hr=>?_,fun s hs=>?_,fun s hs r hr=>⟨fun n hn=>?_,fun n hn=>?_⟩⟩
 ·have:=(h.2.1.2 t ht).2.2.2.1;exact Nat.le_trans this VV
 ·have:=(h.2.1.2 t ht).2.2.2.2 r hr
  exact⟨OY this.2.1,OY this.2.2.1,OY this.2.2.2⟩
 ·have:=(h.2.2.2 s hs).2.2.2.2.1;exact Nat.le_trans this VV
 ·have:=(h.2.2.2 s hs).2.2.2.2.2 r hr
  exact OY (this.2.2.2.2.2.1.2 n hn).2
 ·have:=(h.2.2.2 s hs).2.2.2.2.2 r hr
  exact OY (this.2.2.2.2.2.2.1.2 n hn).2
def Kr (w:List Bool) (L:List Int):List Bool:=L.foldl (fun w x=>w.set x.toNat true) w
theorem OJ:∀(L:List Int) (w:List Bool),(Kr w L).length=w.length
 | [],w=>rfl
 | x::L,w=>(OJ L (w.set x.toNat true)).trans (by simp)
def zf (s:x9) (w:List Bool) (d:Int):List Bool:=Kr (w.set d.toNat true) (N8 s d)
theorem Gq (s:x9) (w:List Bool) (d:Int):(zf s w d).length=w.length:=by unfold zf;rw[OJ];simp
theorem yx {w:List Bool} {n:Nat} (hw:w.length=n) {x:Int} (h0:0≤x) (h1:x<(n:Int)):∃b,lat w x=some b∧L8 w (toN x)=some b:=by
 have h:x.toNat<w.length:=by omega
 exact⟨w[x.toNat],by unfold lat;rw[if_pos h0];exact Y6 h,Y6 h⟩
theorem oq {s:x9} (h:SmS s) (d:Int):(N8 s d).length≤14:=Ei h (gY s d).1 (fun x hx=>oU hx)
theorem RF {s m:x9} (h:SmS m) {u w:List Bool} (hw:w.length=m.2.2.2.1.length) {d:Int} (h0:0≤d) (h1:d<nD m):dW (s,m,u,w) d=some (s,m,u,zf m w d):=by
 have hn:nD m=((m.2.2.2.1.length:Nat):Int):=rfl
 have hl:=oq h d
 obtain⟨b,e1,e2⟩:=yx hw h0 (by omega)
 unfold dW
 simp only
 rw[e1,o7,e2,o7,jF h h0 h1,o7,bT]
 refine(jB (N8 m d) (fun(w:List Bool) (x:Int)=>w.set x.toNat true) (fun w i=>(((s,m,u,w),i):S9×Int)) (fun w=>((s,m,u,w):S9)) (fun _ w=>w.length=m.2.2.2.1.length) (b:=w.set d.toNat true) (by omega) (by simp[hw]) (fun i x v hx hi hv=>?_) (fun v hv=>?_)).1
 ·have hr:=oU (dG hx)
  obtain⟨b,e1,e2⟩:=yx hv hr.1 (by omega)
  simp only[H9 hx,o5,F6,hx,o7]
  rw[show L8 (N8 m d) (toN (i:Int))=some x from hx,o7,e1,o7,e2,o7,X3 (by omega)]
  exact⟨rfl,by simp[hv]⟩
 ·simp only[I4];rfl
def vG (r:J6):List Int:=(lN r.2.2.2.2.2.1).2.2++(lN r.2.2.2.2.2.2.1).2.2
def mdl (rs:List J6) (C:List Int):List Int:=rs.flatMap fun r=>l7 (lF C r.2.1) (vG r) []
def mbS (s:x9) (d:Int):List Int:=l7 (inD (nD s) d) (zn (mdl s.2.2.2.2 (ins d (N8 s d)))) []
theorem QI {s:x9} (h:SmS s) {r:J6} (hr:r∈s.2.2.2.2):(vG r).length≤100:=by
 obtain⟨_,h1,h2⟩:=h.ro r hr
 have a1:=Di r.2.2.2.2.2.1
 have a2:=Di r.2.2.2.2.2.2.1
 unfold vG;rw[List.length_append];omega
theorem SE {s:x9} (h:SmS s) (C:List Int):∀(rs:List J6),(∀r∈rs,r∈s.2.2.2.2)→(mdl rs C).length≤100*rs.length
 | [],_=>by simp[mdl]
 | r::rs,hr=>by
  have h1:=SE h C rs (fun x hx=>hr x (by simp[hx]))
  have h2:=QI h (hr r (by simp))
  have:mdl (r::rs) C=l7 (lF C r.2.1) (vG r) []++mdl rs C:=rfl
  rw[this,List.length_append,List.length_cons]
  cases lF C r.2.1
  ·simp only[l9,List.length_nil];omega
  ·simp only[o5];omega
theorem ZU {rs:List J6} {C:List Int} {x:Int} :x∈mdl rs C↔∃r∈rs,lF C r.2.1=true∧x∈vG r:=by
 unfold mdl
 rw[List.mem_flatMap]
 constructor
 ·rintro⟨r,h1,h2⟩
  cases h:lF C r.2.1 <;> rw[h]at h2
  ·simp at h2
  ·exact⟨r,h1,h,h2⟩
 ·rintro⟨r,h1,h2,h3⟩
  exact⟨r,h1,by rw[h2];exact h3⟩
theorem SK:∀(L:List Int) (w:List Bool),(∀x∈L,0≤x∧x<o8 w)→∀x,mk (Kr w L) x=true↔mk w x=true∨x∈L
 | [],w,_,x=>by simp[Kr]
 | y::L,w,h,x=>by
  have hy:=h y (by simp)
  have ih:=SK L (w.set y.toNat true) (fun z hz=>by have:=h z (by simp[hz]);simp only[o8,List.length_set]at this ⊢;exact this) x
  rw[show Kr w (y::L)=Kr (w.set y.toNat true) L from rfl,ih,NJ hy.1 hy.2]
  cases hq:ieq x y
  ·have:x≠y:=fun e=>by rw[E9 e]at hq;cases hq
   simp[this]
  ·rw[I9]at hq;simp[hq]
theorem Io (n:Nat) (x:Int):mk (List.replicate n false) x=false:=by
 unfold mk
 split
 ·rw[jZ,List.getElem?_replicate];split <;> rfl
 ·rfl
theorem xE {s:x9} (h:SmS s) {d:Int} (h0:0≤d) (h1:d<nD s):kY s d=some (mbS s d):=by
 have hn:nD s=((s.2.2.2.1.length:Nat):Int):=rfl
 have hnr:=h.nr
 have hnd:=h.nd
 have hl:=oq h d
 have hr:nG ((List.range s.2.2.2.1.length).map fun(d:Nat)=>G9 s (d:Int)) d=some (N8 s d):=by
  obtain⟨L,k1,k2⟩:=Oi (D:=G9 s) h.nd (rQ s) (fun x y hy=>qh hy) h0 (show d<((s.2.2.2.1.length:Nat):Int) by omega)
  rw[k1,Rch.unique k2 (gY s d)]
 obtain⟨b,e1,e2⟩:=yx (w:=List.replicate s.2.2.2.1.length false) (by simp) h0 (show d<((s.2.2.2.1.length:Nat):Int) by omega)
 unfold kY mbS
 rw[show inD (nD s) d=true by unfold inD;rw[F7 h0,E8 h1];rfl,o5]
 change o6 (l7 (ilt d 0) _ (l7 (ile (nD s) d) _ _)) _=_
 rw[D9 h0,l9,F9 h1,l9,o7]
 simp only[D7]
 rw[Bq s h false,o7,e1,o7,e2,o7,yl h,o7,hr,o7]
 refine ak (o' :=some (Kr ((List.replicate s.2.2.2.1.length false).set d.toNat true) (N8 s d))) ?_ ?_
 ·refine(jB (N8 s d) (fun(w:List Bool) (x:Int)=>w.set x.toNat true) (fun w i=>(w,i)) (fun w=>w) (fun _ w=>w.length=s.2.2.2.1.length) (b:=(List.replicate s.2.2.2.1.length false).set d.toNat true) (by omega) (by simp) (fun i x v hx hi hv=>?_) (fun v hv=>?_)).1
  ·have hr:=oU (dG hx)
   obtain⟨b,e1,e2⟩:=yx hv hr.1 (by omega)
   simp only[H9 hx,o5,F6,hx,o7]
   rw[show L8 (N8 s d) (toN (i:Int))=some x from hx,o7,e1,o7,e2,o7,X3 (by omega)]
   exact⟨rfl,by simp[hv]⟩
  ·simp only[I4];rfl
 rw[o7]
 have hW:∀x,0≤x→x<nD s→mk (Kr ((List.replicate s.2.2.2.1.length false).set d.toNat true) (N8 s d)) x=lF (ins d (N8 s d)) x:=fun x x0 x1=>by
  have hm:=SK (N8 s d) ((List.replicate s.2.2.2.1.length false).set d.toNat true) (fun y hy=>by have:=oU hy;simp only[o8,List.length_set,List.length_replicate];omega) x
  have hd:=NJ (S:=List.replicate s.2.2.2.1.length false) (e:=d) h0 (by simp only[o8,List.length_replicate];omega) x
  have hh:lF (ins d (N8 s d)) x=true↔x=d∨x∈N8 s d:=by rw[kZ,yS]
  have key:mk (Kr ((List.replicate s.2.2.2.1.length false).set d.toNat true) (N8 s d)) x=true↔lF (ins d (N8 s d)) x=true:=by
   rw[hm,hh,hd,Io]
   cases hq:ieq x d
   ·have:x≠d:=fun e=>by rw[E9 e]at hq;cases hq
    simp[this]
   ·rw[I9]at hq;simp[hq]
  rcases Bool.eq_false_or_eq_true (lF (ins d (N8 s d)) x)with hb | hb
  ·rw[hb];exact key.2 hb
  ·rw[hb];cases hc:mk (Kr ((List.replicate s.2.2.2.1.length false).set d.toNat true) (N8 s d)) x
   ·rfl
   ·rw[key.1 hc]at hb;cases hb
 have hWl:(Kr ((List.replicate s.2.2.2.1.length false).set d.toNat true) (N8 s d)).length=s.2.2.2.1.length:=by rw[OJ];simp
 have hCin:∀x∈ins d (N8 s d),0≤x∧x<nD s:=fun x hx=>by
  rcases(yS d x _).1 hx with rfl | hx
  ·exact⟨h0,h1⟩
  ·exact oU hx
 generalize Kr ((List.replicate s.2.2.2.1.length false).set d.toNat true) (N8 s d)=W at*
 generalize ins d (N8 s d)=C at*
 refine aJ s.2.2.2.2 (fun(acc:List Int) r=>l7 (lF C r.2.1) (acc++vG r) acc) (fun b i=>(b,i)) (fun b=>b) (fun i acc=>acc.length≤100*i) [] (by omega) (by simp) (fun i r acc ha hi hI=>?_) (fun acc hI=>?_) (fun h2=>?_)
 ·have hlt:=(J7.1 ha).1
  obtain⟨_,h1,h2⟩:=h.ro r (dG ha)
  have a1:=Di r.2.2.2.2.2.1
  have a2:=Di r.2.2.2.2.2.2.1
  have hrl:=QI h (dG ha)
  simp only[H9 ha,o5,F6,ha,o7]
  rw[X3 (by omega)]
  obtain⟨e,he⟩:∃e:Int,r.2.1=e:=⟨_,rfl⟩
  rw[he]
  change l7 (ilt e 0) _ (l7 (ile (nD s) e) _ _)=_∧_
  by_cases q0:0≤e
  case neg=>
   have:lF C e=false:=by
    cases hq:lF C e
    ·rfl
    ·exact absurd (hCin _ (kZ.1 hq)).1 q0
   rw[E8 (show e<0 by omega),this]
   exact⟨rfl,by show acc.length≤_;omega⟩
  by_cases q1:e<nD s
  case neg=>
   have:lF C e=false:=by
    cases hq:lF C e
    ·rfl
    ·exact absurd (hCin _ (kZ.1 hq)).2 q1
   rw[D9 q0,F7 (show nD s≤e by omega),this]
   exact⟨rfl,by show acc.length≤_;omega⟩
  obtain⟨b,f1,f2⟩:=yx hWl q0 (show e<((s.2.2.2.1.length:Nat):Int) by omega)
  have hb:b=lF C e:=by
   have:=XM (S:=W) q0 (by simp only[o8];omega)
   rw[←hW _ q0 q1]
   have e3:W[e.toNat]? =some b:=f2
   rw[this]at e3;exact(Option.some.inj e3).symm
  rw[D9 q0,l9,F9 q1,l9,f1,o7,f2,o7,hb]
  cases lF C e
  ·exact⟨rfl,by show acc.length≤_;omega⟩
  simp only[o9,l9,o5,tq (show r.2.2.2.2.2.1.length≤1000000 by omega),tq (show r.2.2.2.2.2.2.1.length≤1000000 by omega),o7]
  rw[Fv (by omega),o7,Fv (by rw[List.length_append];omega),o7]
  refine⟨by unfold vG;rw[List.append_assoc],by show(acc++vG r).length≤_;rw[List.length_append];omega⟩
 ·simp only[I4];rfl
 ·have hf:∀(l:List J6) (b:List Int),l.foldl (fun(acc:List Int) r=>l7 (lF C r.2.1) (acc++vG r) acc) b=b++mdl l C:=by
   intro l
   induction l with
   | nil=>intro b;simp[mdl]
   | cons a l ih=>
    intro b
    rw[List.foldl_cons,ih,show mdl (a::l) C=l7 (lF C a.2.1) (vG a) []++mdl l C from rfl]
    cases lF C a.2.1 <;> simp
  rw[hf,List.nil_append]
  have hml:=SE h C s.2.2.2.2 (fun _ h=>h)
  rw[Gz (by omega)];rfl
def uh (m:x9) (w:List Bool) (L:List Int):List Bool:=L.foldl (zf m) w
theorem Nu (m:x9):∀(L:List Int) (w:List Bool),(uh m w L).length=w.length
 | [],w=>rfl
 | x::L,w=>(Nu m L (zf m w x)).trans (Gq m w x)
theorem SC {s:x9} (h:SmS s) (d:Int):(mbS s d).length≤6000:=by
 unfold mbS
 cases inD (nD s) d
 ·simp
 ·have h1:=wR (mdl s.2.2.2.2 (ins d (N8 s d)))
  have h2:=SE h (ins d (N8 s d)) s.2.2.2.2 (fun _ h=>h)
  have:=h.nr
  simp only[o5];omega
theorem a1g {s m:x9} (h:SmS s) (hm:SmS m) {u w:List Bool} (hu:u.length=s.2.2.2.1.length) (hw:w.length=m.2.2.2.1.length) {d:Int} (h0:0≤d) (h1:d<nD s) (hr:∀x∈mbS s d,0≤x∧x<nD m):
  jM (s,m,u,w) d=some (s,m,zf s u d,uh m w (mbS s d)):=by
 have hn:nD s=((s.2.2.2.1.length:Nat):Int):=rfl
 have hl:=oq h d
 have hml:=SC h d
 obtain⟨b,e1,e2⟩:=yx hu h0 (by omega)
 unfold jM
 simp only
 rw[e1,o7,e2,o7,jF h h0 h1,o7]
 refine ak (o' :=some ((s,m,zf s u d,w):S9)) ?_ ?_
 ·refine(jB (N8 s d) (fun(v:List Bool) (x:Int)=>v.set x.toNat true) (fun v i=>(((s,m,v,w),i):S9×Int)) (fun v=>((s,m,v,w):S9)) (fun _ v=>v.length=s.2.2.2.1.length) (b:=u.set d.toNat true) (by omega) (by simp[hu]) (fun i x v hx hi hv=>?_) (fun v hv=>?_)).1
  ·have hr:=oU (dG hx)
   obtain⟨b,e1,e2⟩:=yx hv hr.1 (by omega)
   simp only[H9 hx,o5,F6,hx,o7]
   rw[show L8 (N8 s d) (toN (i:Int))=some x from hx,o7,e1,o7,e2,o7,X3 (by omega)]
   exact⟨rfl,by simp[hv]⟩
  ·simp only[I4];rfl
 rw[o7]
 simp only
 rw[xE h h0 h1,o7,bT]
 refine(jB (mbS s d) (zf m) (fun v i=>(((s,m,zf s u d,v),i):S9×Int)) (fun v=>((s,m,zf s u d,v):S9)) (fun _ v=>v.length=m.2.2.2.1.length) (b:=w) (by omega) hw (fun i x v hx hi hv=>?_) (fun v hv=>?_)).1
 ·have hq:=hr x (dG hx)
  simp only[H9 hx,o5,F6,hx,o7]
  rw[show L8 (mbS s d) (toN (i:Int))=some x from hx,o7,RF hm hv hq.1 hq.2,o7,X3 (by omega)]
  exact⟨rfl,(Gq m v x).trans hv⟩
 ·simp only[I4];rfl
theorem b0T {k N:Int} {sg:H7} (hk:c6M k=some true) (h:(Ov (k,N) [] sg).2=0):((RR (k,N) [] sg).getD ((0,0),0)).2=0:=by
 unfold Ov at h
 rw[b2V]at h
 revert h
 cases E5 (ieq N 0)
 ·exact id
 ·rw[show c6M (k,N).1=some true from hk];exact id
theorem a8A {N:Int} {sg:H7} (h:(Ov (8,N) [] sg).2=0):0≤N∧N<o8 sg.2.2.2.1:=by
 have h:=b0T rfl h
 have hf:c7k (8,N) sg=l7 (ile 0 N) (some (ilt N (o8 sg.2.2.2.1))) (some false):=rfl
 unfold RR at h
 rw[hf,show c7g (8,N) sg=some true from rfl]at h
 cases h1:ile 0 N <;> rw[h1]at h
 ·exact absurd (show(6:Int)=0 from h) (by decide)
 cases h2:ilt N (o8 sg.2.2.2.1) <;> rw[h2]at h
 ·exact absurd (show(6:Int)=0 from h) (by decide)
 exact⟨iI.1 h1,bW.1 h2⟩
theorem a8B {k N:Int} {sg:H7} (hk:k=36∨k=37∨k=38∨k=39) (h:(Ov (k,N) [] sg).2=0):0≤N∧N<o8 sg.2.2.2.2.1∧sg.2.2.2.2.2=true:=by
 have h:=b0T (by rcases hk with rfl | rfl | rfl | rfl <;> rfl) h
 have hr:RR (k,N) [] sg=o6 (l7 sg.2.2.2.2.2 (l7 (ile 0 N) (some (ilt N (o8 sg.2.2.2.2.1))) (some false)) (some false)) fun(x:Bool)=>l7 (E5 x) (some ((0,0),6))
   (o6 (c6W (k,N) sg) fun(x:qE×Bool)=>l7 (E5 x.2) (some ((0,0),8)) (some (x.1,0))):=by rcases hk with rfl | rfl | rfl | rfl <;> rfl
 rw[hr]at h
 cases h0:sg.2.2.2.2.2 <;> rw[h0]at h
 ·exact absurd (show(6:Int)=0 from h) (by decide)
 cases h1:ile 0 N <;> rw[h1]at h
 ·exact absurd (show(6:Int)=0 from h) (by decide)
 cases h2:ilt N (o8 sg.2.2.2.2.1) <;> rw[h2]at h
 ·exact absurd (show(6:Int)=0 from h) (by decide)
 exact⟨iI.1 h1,bW.1 h2,rfl⟩
def KU (sg:H7) (n:Int×Int):Prop:=(ieq n.1 8=true→0≤n.2∧n.2<o8 sg.2.2.2.1)∧(isM n.1=true→0≤n.2∧n.2<o8 sg.2.2.2.2.1∧sg.2.2.2.2.2=true)
theorem QC {k:Int} (h:isM k=true):k=36∨k=37∨k=38∨k=39:=by
 unfold isM at h
 cases h1:ile 36 k <;> rw[h1]at h
 ·cases h
 have h2:=iI.1 h1
 have h3:=iI.1 (show ile k 39=true from h)
 omega
theorem a4q {sg:H7} {n:Int×Int} {i:Nat} {t:Int×Int} (h:wU sg n [] i= .inr t):KU sg n:=by
 unfold wU at h
 split at h
 ·rename_i h0
  obtain⟨k,N⟩:=n
  refine⟨fun hk=>?_,fun hk=>a8B (QC hk) h0⟩
  have hk:k=8:=I9.1 hk
  subst hk;exact a8A h0
 ·cases h
theorem NR {sg:H7} {n:Int×Int} (h:arF n.1≠0):KU sg n:=by
 refine⟨fun hk=>absurd ?_ h,fun hk=>absurd ?_ h⟩
 ·rw[I9.1 hk];rfl
 ·rcases QC hk with e | e | e | e <;> rw[e] <;> rfl
theorem zu {sg:H7} :∀(t:XT) (o:Nat) {r:Int×Int},t.wf→dD sg t o= .inr r→∀n∈t.post,KU sg n
 | .l0 n,o,r,hw,h,x,hx=>by
  unfold XT.post at hx
  rw[List.mem_singleton.1 hx]
  unfold dD at h;exact a4q h
 | .l1 n a,o,r,hw,h,x,hx=>by
  unfold XT.wf at hw
  unfold XT.post at hx
  unfold dD at h
  cases ha:dD sg a o with
  | inl e=>rw[ha]at h;cases h
  | inr ta=>
   rcases List.mem_append.1 hx with hx | hx
   ·exact zu a o hw.2 ha x hx
   ·rw[List.mem_singleton.1 hx];exact NR (by rw[hw.1];decide)
 | .l2 n a b,o,r,hw,h,x,hx=>by
  unfold XT.wf at hw
  unfold XT.post at hx
  unfold dD at h
  cases ha:dD sg a o with
  | inl e=>rw[ha]at h;cases h
  | inr ta=>
   rw[ha]at h
   simp only at h
   cases hb:dD sg b (o+a.size)with
   | inl e=>rw[hb]at h;cases h
   | inr tb=>
    rcases List.mem_append.1 hx with hx | hx
    ·rcases List.mem_append.1 hx with hx | hx
     ·exact zu a o hw.2.1 ha x hx
     ·exact zu b _ hw.2.2 hb x hx
    ·rw[List.mem_singleton.1 hx];exact NR (by rw[hw.1];decide)
 | .l3 n a b c,o,r,hw,h,x,hx=>by
  unfold XT.wf at hw
  unfold XT.post at hx
  unfold dD at h
  cases ha:dD sg a o with
  | inl e=>rw[ha]at h;cases h
  | inr ta=>
   rw[ha]at h
   simp only at h
   cases hb:dD sg b (o+a.size)with
   | inl e=>rw[hb]at h;cases h
   | inr tb=>
    rw[hb]at h
    simp only at h
    cases hc:dD sg c (o+a.size+b.size)with
    | inl e=>rw[hc]at h;cases h
    | inr tc=>
     rcases List.mem_append.1 hx with hx | hx
     ·rcases List.mem_append.1 hx with hx | hx
      ·rcases List.mem_append.1 hx with hx | hx
       ·exact zu a o hw.2.1 ha x hx
       ·exact zu b _ hw.2.2.1 hb x hx
      ·exact zu c _ hw.2.2.2 hc x hx
     ·rw[List.mem_singleton.1 hx];exact NR (by rw[hw.1];decide)
theorem yT {sg:H7} {n:Int×Int} {ops:List (Int×Int)} {i:Nat} {x:Int×Int} (h:wU sg n ops i= .inl x):x.2≠0:=by
 unfold wU at h
 split at h
 ·cases h
 ·rename_i h0;cases h;exact h0
theorem sO {sg:H7} :∀(t:XT) (o:Nat) {x:Int×Int},dD sg t o= .inl x→x.2≠0
 | .l0 n,o,x,h=>yT h
 | .l1 n a,o,x,h=>by
  unfold dD at h
  cases ha:dD sg a o with
  | inl e=>rw[ha]at h;cases h;exact sO a o ha
  | inr ta=>rw[ha]at h;exact yT h
 | .l2 n a b,o,x,h=>by
  unfold dD at h
  cases ha:dD sg a o with
  | inl e=>rw[ha]at h;cases h;exact sO a o ha
  | inr ta=>
   rw[ha]at h
   simp only at h
   cases hb:dD sg b (o+a.size)with
   | inl e=>rw[hb]at h;cases h;exact sO b _ hb
   | inr tb=>rw[hb]at h;exact yT h
 | .l3 n a b c,o,x,h=>by
  unfold dD at h
  cases ha:dD sg a o with
  | inl e=>rw[ha]at h;cases h;exact sO a o ha
  | inr ta=>
   rw[ha]at h
   simp only at h
   cases hb:dD sg b (o+a.size)with
   | inl e=>rw[hb]at h;cases h;exact sO b _ hb
   | inr tb=>
    rw[hb]at h
    simp only at h
    cases hc:dD sg c (o+a.size+b.size)with
    | inl e=>rw[hc]at h;cases h;exact sO c _ hc
    | inr tc=>rw[hc]at h;exact yT h
theorem Ro {e:List (Int×Int)} {sg:H7} (h:(jk e sg).2.2=0):∀n∈e,KU sg n:=by
 unfold jk at h
 cases hs:iL e with
 | inl x=>rw[hs]at h;exact absurd h (BJ hs)
 | inr t=>
  rw[hs]at h
  simp only at h
  cases ht:dD sg t 0 with
  | inl x=>
   rw[ht]at h
   exact absurd h (sO t 0 ht)
  | inr r=>
   intro n hn
   rw[(xk hs).1]at hn
   exact zu t 0 (IY hs) ht n hn
theorem Rw {e:List (Int×Int)} {sg:H7} {t:Int×Int} (h:zQ e sg t=0):jk e sg=(t,(jk e sg).2.1,0):=by
 unfold zQ at h
 cases h1:ieq (jk e sg).2.2 0 <;> rw[h1]at h
 ·simp only[l9]at h;rw[E9 h]at h1;cases h1
 cases h2:ieq (jk e sg).1.1 t.1 <;> rw[h2]at h
 ·exact absurd (show(8:Int)=0 from h) (by decide)
 cases h3:ieq (jk e sg).1.2 t.2 <;> rw[h3]at h
 ·exact absurd (show(8:Int)=0 from h) (by decide)
 rw[I9]at h1 h2 h3
 exact Prod.ext (Prod.ext h2 h3) (Prod.ext rfl h1)
theorem EI {l:J3} (h:(P5 l).1=0) {i:Nat} {s:x9} (hs:l.2.2[i]? =some s) {k:Nat} {r:J6} (hr:s.2.2.2.2[k]? =some r):yf s (Dp l s) k r=0:=by
 have hp:=(Dk h hs).2
 unfold Iz at hp
 cases h1:wO l s with
 | some q=>rw[h1]at hp;exact absurd hp (Au h1)
 | none=>
  rw[h1]at hp
  simp only at hp
  cases h2:P7 s.2.2.2.2.length (Gs l s)with
  | some q=>
   rw[h2]at hp
   obtain⟨j,hj,hq⟩:=bV h2
   unfold Gs at hq
   cases h3:s.2.2.2.2[j]? with
   | none=>rw[h3]at hq;cases hq
   | some q2=>rw[h3]at hq;exact absurd hp (CJ hq)
  | none=>
   have hn:=kP h2 k (J7.1 hr).1
   unfold Gs at hn
   rw[hr]at hn
   simp only at hn
   unfold Pv at hn
   cases he:ieq (yf s (Dp l s) k r) 0 <;> rw[he]at hn
   ·cases hn
   ·exact I9.1 he
theorem OB {s:x9} {sg:H7} {k:Nat} {r:J6} (h:yf s sg k r=0):∃d,lat s.2.2.2.1 r.2.1=some d∧MI r sg d.2=0:=by
 unfold yf at h
 cases g1:vg r.1 <;> rw[g1]at h
 ·exact absurd (show(2:Int)=0 from h) (by decide)
 cases g2:(s.2.2.2.2.take k).any fun x=>seq x.1 r.1 <;> rw[g2]at h
 case true=>exact absurd (show(7:Int)=0 from h) (by decide)
 cases g3:lat s.2.2.2.1 r.2.1 with
 | none=>rw[g3]at h;exact absurd (show(6:Int)=0 from h) (by decide)
 | some d=>
  rw[g3]at h
  refine⟨d,rfl,?_⟩
  simp only[o5,l9]at h
  revert h
  generalize l7 (ieq r.2.2.1 (-1)) false (l7 (ilt r.2.2.1 0) true (l7 (ile k r.2.2.1) true (match lat s.2.2.2.2 r.2.2.1 with | some q=>E5 (ieq q.2.1 r.2.1) | none=>true)))=b1
  generalize ilt r.2.2.2.1 0=b2
  generalize ilt 9 r.2.2.2.1=b3
  generalize zU r.2.2.2.2.1=b4
  generalize ieq r.2.2.2.2.1.1 r.2.2.2.2.1.2=b5
  generalize ile 8 (Eb (s.2.2.2.2.take k) r.2.1)=b6
  generalize YO r.2.2.2.2.2.2.2=b7
  intro h
  cases b1
  case true=>exact absurd (show(9:Int)=0 from h) (by decide)
  cases b2
  case true=>exact absurd (show(3:Int)=0 from h) (by decide)
  cases b3
  case true=>exact absurd (show(3:Int)=0 from h) (by decide)
  cases b4
  case false=>exact absurd (show(3:Int)=0 from h) (by decide)
  cases b5
  case true=>exact absurd (show(3:Int)=0 from h) (by decide)
  cases b6
  case true=>exact absurd (show(4:Int)=0 from h) (by decide)
  cases b7
  case false=>exact absurd (show(2:Int)=0 from h) (by decide)
  exact h
theorem JR {l:J3} (h:(P5 l).1=0) {i:Nat} {s:x9} (hs:l.2.2[i]? =some s) {r:J6} (hr:r∈s.2.2.2.2):
  (r.2.2.2.2.2.1=[]∨zQ r.2.2.2.2.2.1 (Dp l s) (1,0)=0)∧∃d,lat s.2.2.2.1 r.2.1=some d∧zQ r.2.2.2.2.2.2.1 (Dp l s) d.2=0:=by
 obtain⟨k,hk,e⟩:=List.getElem_of_mem hr
 obtain⟨d,h1,h2⟩:=OB (EI h hs (r:=r) (k:=k) (by rw[Y6 hk,e]))
 unfold MI at h2
 cases h3:ilt 0 (o8 r.2.2.2.2.2.1) <;> rw[h3]at h2
 ·refine⟨.inl ?_,d,h1,h2⟩
  rw[aT]at h3
  exact List.length_eq_zero_iff.1 (by simp only[o8]at h3;omega)
 ·simp only[o5]at h2
  cases h4:ieq (zQ r.2.2.2.2.2.1 (Dp l s) (1,0)) 0 <;> rw[h4]at h2
  ·simp only[l9]at h2;rw[E9 h2]at h4;cases h4
  ·exact⟨.inr (I9.1 h4),d,h1,h2⟩
theorem a6n (l:J3) (s:x9):(Dp l s).2.2.2.1=s.2.2.2.1.map (·.2):=by unfold Dp;split <;> rfl
theorem a8R {l:J3} {s:x9} (h:(Dp l s).2.2.2.2.2=true):(Dp l s).2.2.2.2.1=(I8 l s).2.2.2.1.map (·.2):=by
 unfold Dp at h ⊢
 unfold I8 lat
 by_cases g:0≤s.2.1
 ·rw[if_pos g]at h ⊢
  rw[F7 g]
  cases hq:l.2.2[s.2.1.toNat]? with
  | none=>rw[hq]at h;cases h
  | some q=>rfl
 ·rw[if_neg g]at h;cases h
theorem IP {l:J3} (h:(P5 l).1=0) {i:Nat} {s:x9} (hs:l.2.2[i]? =some s) {r:J6} (hr:r∈s.2.2.2.2) {e:List (Int×Int)} (he:e=r.2.2.2.2.2.1∨e=r.2.2.2.2.2.2.1):
  (∀x∈(lN e).2.1,0≤x∧x<nD s)∧∀x∈(lN e).2.2,0≤x∧x<nD (I8 l s):=by
 obtain⟨h1,d,h2,h3⟩:=JR h hs hr
 have hn:∀n∈e,KU (Dp l s) n:=by
  rcases he with rfl | rfl
  ·rcases h1 with h1 | h1
   ·rw[h1];simp
   ·exact Ro (by rw[Rw h1])
  ·exact Ro (by rw[Rw h3])
 constructor
 ·intro x hx
  have hx:=(jd x _).1 (show x∈zn (FM (fun o=>ieq o 8) e)from hx)
  obtain⟨n,hn1,rfl⟩:=List.mem_map.1 hx
  obtain⟨hn2,hn3⟩:=List.mem_filter.1 hn1
  have:=(hn n hn2).1 hn3
  rw[a6n]at this
  simpa[o8,nD]using this
 ·intro x hx
  have hx:=(jd x _).1 (show x∈zn (FM isM e)from hx)
  obtain⟨n,hn1,rfl⟩:=List.mem_map.1 hx
  obtain⟨hn2,hn3⟩:=List.mem_filter.1 hn1
  have:=(hn n hn2).2 hn3
  rw[a8R this.2.2]at this
  refine⟨this.1,?_⟩
  have h2:=this.2.1
  simpa[o8,nD]using h2
theorem Em {l:J3} (h:(P5 l).1=0) {i:Nat} {s:x9} (hs:l.2.2[i]? =some s) (d:Int):∀x∈mbS s d,0≤x∧x<nD (I8 l s):=by
 intro x hx
 unfold mbS at hx
 cases hq:inD (nD s) d <;> rw[hq]at hx
 ·simp at hx
 ·obtain⟨r,hr,_,h3⟩:=ZU.1 ((jd x _).1 hx)
  rcases List.mem_append.1 h3 with h3 | h3
  ·exact(IP h hs hr (.inl rfl)).2 x h3
  ·exact(IP h hs hr (.inr rfl)).2 x h3
theorem a3z {l:J3} {s:x9} {c:aQ} {nS nM:List Bool} {e:E4} (h:Am l s c nS nM= .inr e):e.1≠0:=by
 unfold Am at h
 cases hm:mS l c (I8 l s) nM with
 | inr e=>rw[hm]at h;cases h;exact nO _ (fun r=>r.1≠0) a4b _ _ _ hm
 | inl b=>
  rw[hm]at h
  simp only at h
  cases hs:scS s (wX l s c b) (-1) nS with
  | inr r=>rw[hs]at h;cases h;exact Gw hs
  | inl x=>rw[hs]at h;cases h
theorem a3A {l:J3} {s:x9} {c:aQ} {nS nM:List Bool} {x:DB×List DB} (h:Am l s c nS nM= .inl x):x.1.1.length=s.2.2.2.1.length∧x.1.2.length=s.2.2.2.1.length:=by
 unfold Am at h
 cases hm:mS l c (I8 l s) nM with
 | inr e=>rw[hm]at h;cases h
 | inl b=>
  rw[hm]at h
  simp only at h
  cases hs:scS s (wX l s c b) (-1) nS with
  | inr r=>rw[hs]at h;cases h
  | inl y=>rw[hs]at h;cases h;exact TJ hs
theorem a2Y {l:J3} {k:Int} {c:aQ} {d:Int} {s:x9} (h:(xw l k c true d).1=0) (hs:lat l.2.2 k=some s):0≤d∧d<nD s:=by
 unfold xw at h
 cases h0:ieq (P5 l).1 0 <;> rw[h0]at h
 ·exact absurd (show(1:Int)=0 from h) (by decide)
 rw[hs]at h
 simp only[o5]at h
 cases h1:ilt d 0 <;> rw[h1]at h
 case true=>exact absurd (show(6:Int)=0 from h) (by decide)
 cases h2:ile (o8 s.2.2.2.1) d <;> rw[h2]at h
 case true=>exact absurd (show(6:Int)=0 from h) (by decide)
 rw[aT]at h1;rw[uf]at h2
 exact⟨h1,h2⟩
theorem Vg {α:Type} {l:List α} {d:Int} (a:α) (h0:0≤d) (h1:d<(l.length:Int)):lat l d=some (l.getD d.toNat a)∧L8 l (toN d)=some (l.getD d.toNat a):=by
 have h:d.toNat<l.length:=by omega
 have e:l[d.toNat]? =some (l.getD d.toNat a):=by rw[jZ,Y6 h];rfl
 exact⟨by unfold lat;rw[if_pos h0];exact e,e⟩
def c6D (d:Int) (r:DB×List DB⊕E4):V3×Int×E4:=match r with
 | .inr e=>((0,0,0),0,e)
 | .inl x=>(x.1.1.getD d.toNat (0,0,0),x.1.2.getD d.toNat 0,0,0,0,0)
def Hz (l:J3) (s:x9) (c:aQ) (d:Int):V3×Int×E4:=
 c6D d (Am l s c (zf s (jW s.2.2.2.1.length) d) (uh (I8 l s) (jW (I8 l s).2.2.2.1.length) (mbS s d)))
theorem rV (n:Nat):(jW n).length=n:=by simp[jW]
theorem Xu {l:J3} {k:Int} {c:aQ} {d:Int} (hL:SmL l) (hC:SmC c) (hT:∀t∈l.2.1,kK t):
  qM l k c d=some (if(xw l k c true d).1=0 then(match lat l.2.2 k with | some s=>Hz l s c d | none=>((0,0,0),0,0,0,0,0))else((0,0,0),0,xw l k c true d)):=by
 unfold qM
 rw[a7M hL k hC,o7]
 by_cases hA:(xw l k c true d).1=0
 case neg=>rw[if_neg hA,D8 hA];rfl
 rw[if_pos hA,E9 hA]
 obtain⟨h,s,hs⟩:=a1j hA
 obtain⟨h0,h1⟩:=a2Y hA hs
 have hM:=Nz hL h hs
 have hS:=hL.sc s (Z7 hs).2.2.1
 have hn:nD s=((s.2.2.2.1.length:Nat):Int):=rfl
 rw[hs]
 simp only[o9,l9]
 rw[VD hL h hs,o7,a1g hS hM (rV _) (rV _) h0 h1 (Em h (Z7 hs).2.2.2 d),o7,RU hS hM hC hT (by rw[Gq,rV]) (by rw[Nu,rV]),o7]
 unfold Hz
 cases hq:Am l s c (zf s (jW s.2.2.2.1.length) d) (uh (I8 l s) (jW (I8 l s).2.2.2.1.length) (mbS s d))with
 | inr e=>simp only[D8 (a3z hq)];rfl
 | inl x=>
  obtain⟨g1,g2⟩:=a3A hq
  simp only[E9 (rfl:(0:Int)=0),o9,l9]
  rw[(Vg (0,0,0) h0 (by omega)).1,o7,(Vg 0 h0 (by omega)).1];rfl
abbrev BB:Type:=List Bool×List Bool
def BOk (s m:x9) (b:BB):Prop:=b.1.length=s.2.2.2.1.length∧b.2.length=m.2.2.2.1.length
structure Sim (P Q:Int→Prop) (a b:U9):Prop where
 e1:a.1=b.1
 e2:a.2.1=b.2.1
 e3:a.2.2.2.2=b.2.2.2.2
 dl:a.2.2.1.length=b.2.2.1.length
 d:∀x,P x→lat a.2.2.1 x=lat b.2.2.1 x
 ml:a.2.2.2.1.length=b.2.2.2.1.length
 m:∀x,Q x→a.2.2.2.1.map (fun v=>lat v x)=b.2.2.2.1.map (fun v=>lat v x)
def Ug (P Q:Int→Prop) (n:Int×Int):Prop:=(n.1=8→P n.2)∧(isM n.1=true→Q n.2)
theorem Sz {α β:Type} {a:List α} {b:List β} (h:a.length=b.length):o8 a=o8 b:=congrArg (fun(n:Nat)=>(n:Int)) h
theorem a1y {P Q:Int→Prop} {n:Int×Int} {a b:U9} (h:Sim P Q a b) (hn:Ug P Q n):c7B n a=c7B n b:=by
 obtain⟨d,i,D,M,T,B⟩:=a
 obtain⟨d',i',D',M',T',B'⟩:=b
 obtain⟨e1,e2,e3,dl,hd,ml,hm⟩:=h
 cases e1;cases e2;cases e3
 have hD:=Sz dl
 unfold c7B
 simp only at hD hd ⊢
 rw[hD]
 cases hk:ieq n.1 8
 ·rfl
 ·rw[hd _ (hn.1 (I9.1 hk))]
theorem Vk {P Q:Int→Prop} {n:Int×Int} {a b:U9} (h:Sim P Q a b) (hn:Ug P Q n):c6N n a=c6N n b:=by
 obtain⟨d,i,D,M,T,B⟩:=a
 obtain⟨d',i',D',M',T',B'⟩:=b
 obtain⟨e1,e2,e3,dl,hd,ml,hm⟩:=h
 cases e1;cases e2;cases e3
 have hM:=Sz ml
 unfold c6N
 simp only at hM hd ⊢
 rw[hM]
 cases hk:ieq n.1 8
 ·rfl
 ·rw[hd _ (hn.1 (I9.1 hk))]
theorem MN {α γ β ρ:Type} (f:α→γ) (g:β→γ→β⊕ρ):∀(l:List α) (b:β),U1 (fun b a=>g b (f a)) l b=U1 g (l.map f) b
 | [],b=>rfl
 | a::l,b=>by
  rw[List.map_cons]
  unfold U1
  cases g b (f a)with
  | inl b' =>exact MN f g l b'
  | inr r=>rfl
def b7P (k:Int) (t:Int×Int) (b:Int×Bool) (o:Option V3):(Int×Bool)⊕(V3×Int):=
 match(match o with | none=>(.inr 6:V3⊕Int) | some x=>l7 (ieq x.1 0) (.inr 6) (l7 (Ie x t) (.inl x) (.inr 8)))with
 | .inr c=> .inr ((0,0,0),c)
 | .inl x=>l7 (plB (t.1,0,vV k b.1 x.2.2 b.2)) (.inl (vV k b.1 x.2.2 b.2,false)) (.inr ((0,0,0),3))
theorem ZR (k N:Int) (t:Int×Int) (ms:List (List V3)) (b:Int×Bool):U1 (vX k N t) ms b=U1 (b7P k t) (ms.map fun v=>lat v N) b:=MN (fun v=>lat v N) (b7P k t) ms b
theorem Vy {P Q:Int→Prop} {n:Int×Int} {a b:U9} (h:Sim P Q a b) (hn:Q n.2) (ha:EvOk a) (hb:EvOk b):c7c n a=c7c n b:=by
 obtain⟨k,N⟩:=n
 have h3:a.2.2.2.2.1=b.2.2.2.2.1:=by rw[h.e3]
 cases hl:lat a.2.2.2.2.1 N with
 | none=>
  have hl2:lat b.2.2.2.2.1 N=none:=by rw[←h3];exact hl
  unfold c7c
  simp only
  rw[hl,hl2];rfl
 | some t=>
  have hl2:lat b.2.2.2.2.1 N=some t:=by rw[←h3];exact hl
  have h0:=(Z7 hl).1
  rw[Bg k N a t hl h0 ha.ms,Bg k N b t hl2 h0 hb.ms]
  unfold Vx
  rw[ZR,ZR,h.m N hn,Sz h.ml]
theorem Yy {P Q:Int→Prop} {a b:U9} (h:Sim P Q a b) (n:Int×Int) (x:V3):c6Z n x a=c6Z n x b:=by
 obtain⟨d,i,D,M,T,B⟩:=a
 obtain⟨d',i',D',M',T',B'⟩:=b
 obtain⟨e1,e2,e3,dl,hd,ml,hm⟩:=h
 cases e1;cases e2;cases e3
 rfl
theorem Hf {P Q:Int→Prop} {n:Int×Int} {a b:U9} (h:Sim P Q a b) (hn:Ug P Q n) (ha:EvOk a) (hb:EvOk b) (args:List V3):tY n args a=tY n args b:=by
 unfold tY c7l
 simp only[a1y h hn,Vk h hn,Yy h]
 cases h1:ile 36 n.1
 ·rfl
 cases h2:ile n.1 39
 ·rfl
 rw[Vy h (hn.2 (by unfold isM;rw[h1];exact h2)) ha hb]
theorem yJ {P Q:Int→Prop} {a b:U9} (h:Sim P Q a b) (ha:EvOk a) (hb:EvOk b):∀(t:XT),(∀n∈t.post,Ug P Q n)→evT a t=evT b t
 | .l0 n,hn=>Hf h (hn n (by simp[XT.post])) ha hb []
 | .l1 n x,hn=>by
  unfold evT
  rw[yJ h ha hb x (fun m hm=>hn m (by simp[XT.post,hm])),Hf h (hn n (by simp[XT.post])) ha hb]
 | .l2 n x y,hn=>by
  unfold evT
  rw[yJ h ha hb x (fun m hm=>hn m (by simp[XT.post,hm])),yJ h ha hb y (fun m hm=>hn m (by simp[XT.post,hm])),Hf h (hn n (by simp[XT.post])) ha hb]
 | .l3 n x y z,hn=>by
  unfold evT
  rw[yJ h ha hb x (fun m hm=>hn m (by simp[XT.post,hm])),yJ h ha hb y (fun m hm=>hn m (by simp[XT.post,hm])),yJ h ha hb z (fun m hm=>hn m (by simp[XT.post,hm]))]
theorem a2p {P Q:Int→Prop} {e:List (Int×Int)} (h1:∀x∈(lN e).2.1,P x) (h2:∀x∈(lN e).2.2,Q x):∀n∈e,Ug P Q n:=fun n hn=>by
 refine⟨fun hk=>h1 _ ?_,fun hk=>h2 _ ?_⟩
 ·exact(jd _ _).2 (List.mem_map.2 ⟨n,List.mem_filter.2 ⟨hn,by simp[hk,ieq]⟩,rfl⟩)
 ·exact(jd _ _).2 (List.mem_map.2 ⟨n,List.mem_filter.2 ⟨hn,hk⟩,rfl⟩)
theorem Qm {P Q:Int→Prop} {a b:U9} (h:Sim P Q a b) (ha:EvOk a) (hb:EvOk b) {e:List (Int×Int)} (h1:∀x∈(lN e).2.1,P x) (h2:∀x∈(lN e).2.2,Q x):qj e a=qj e b:=by
 unfold qj
 cases hs:iL e with
 | inl x=>rfl
 | inr t=>
  simp only
  exact yJ h ha hb t (fun n hn=>a2p h1 h2 n (by rw[(xk hs).1];exact hn))
def Ph (s:x9) (P Q:Int→Prop) (d:Int):Prop:=∀r∈s.2.2.2.2,r.2.1=d→∀e,e=r.2.2.2.2.2.1∨e=r.2.2.2.2.2.2.1→(∀x∈(lN e).2.1,P x)∧∀x∈(lN e).2.2,Q x
theorem Jc {s:x9} {d t i:Int} (h:i∈(V4 s d t).1):∃r,lat s.2.2.2.2 i=some r∧r∈s.2.2.2.2∧r.2.1=d:=by
 have h:i∈castL (N9 s d t):=h
 obtain⟨k,hk,rfl⟩:=List.mem_map.1 h
 obtain⟨h1,h2⟩:=gW hk
 obtain⟨r,hr,hm⟩:=fU (l:=s.2.2.2.2) (i:=(k:Int)) (by omega) (by unfold o8;omega)
 refine⟨r,hr,hm,?_⟩
 unfold onR at h2
 rw[F6]at hr
 rw[hr]at h2
 simp only at h2
 cases h3:ieq r.2.1 d <;> rw[h3]at h2
 ·cases h2
 ·exact I9.1 h3
theorem Jj {α β ρ:Type} {G H:β→α→β⊕ρ} :∀(l:List α) (b:β),(∀a∈l,∀b,G b a=H b a)→U1 G l b=U1 H l b
 | [],b,h=>rfl
 | a::l,b,h=>by
  unfold U1
  rw[h a (by simp)]
  cases H b a with
  | inl b' =>exact Jj l b' (fun x hx=>h x (by simp[hx]))
  | inr r=>rfl
theorem Uz {s:x9} {P Q:Int→Prop} {a b:U9} (h:Sim P Q a b) (ha:EvOk a) (hb:EvOk b) {d:Int} (hr:∀i∈(V4 s d b.1).1,∀r,lat s.2.2.2.2 i=some r→(∀x∈(lN r.2.2.2.2.2.1).2.1,P x)∧∀x∈(lN r.2.2.2.2.2.1).2.2,Q x) (m:Int):U3 s a m d=U3 s b m d:=by
 unfold U3
 rw[h.e1,Jj (G:=AB s a m d) (H:=AB s b m d) (V4 s d b.1).1 [] (fun i hi ap=>?_)]
 obtain⟨r,h1,h2,h3⟩:=Jc hi
 obtain⟨p1,p2⟩:=hr i hi r h1
 unfold AB
 rw[h1]
 simp only
 rw[Qm h ha hb p1 p2]
theorem Xe {s:x9} {P Q:Int→Prop} {a b:U9} (h:Sim P Q a b) (ha:EvOk a) (hb:EvOk b) {d:Int} (hr:Ph s P Q d) (m:Int):U3 s a m d=U3 s b m d:=
 Uz h ha hb (fun i hi r hl=>by
  obtain⟨q,h1,h2,h3⟩:=Jc hi
  rw[h1]at hl;cases hl
  exact hr r h2 h3 _ (.inl rfl)) m
theorem a1p {s:x9} {env:U9} {m d:Int} (h0:(U3 s env m d).2.1=0) (h1:(U3 s env m d).1≠-1) (h2:(U3 s env m d).1≠-2):(U3 s env m d).1∈(V4 s d env.1).1:=by
 unfold U3 at h0 h1 h2 ⊢
 cases hf:U1 (AB s env m d) (V4 s d env.1).1 []with
 | inr e=>rw[hf]at h0;exact absurd h0 (nO (AB s env m d) (fun r=>r.2.1≠0) (fun b i r h=>UV b i r h) _ _ _ hf)
 | inl ap=>
  rw[hf]at h1 h2
  simp only at h1 h2 ⊢
  have hb:=TK (V4 s d env.1).2.1 (V4 s d env.1).2.2 ap
  have hlo:=a0S (V4 s d env.1).2.1 (V4 s d env.1).2.2 ap
  have hl:=(GL s d env.1).2
  generalize vY (V4 s d env.1).2.1 (V4 s d env.1).2.2 ap=q at h1 h2 hb hlo ⊢
  by_cases g:q<0
  ·rw[E8 g]at h1 h2
   simp only[o5]at h1 h2
   omega
  rw[D9 (Int.not_lt.1 g)]
  have hi:q.toNat<(V4 s d env.1).1.length:=by omega
  simp only[l9,jZ,Y6 hi,Option.getD_some]
  exact List.getElem_mem hi
theorem UD {s:x9} {P Q:Int→Prop} {a b:U9} (h:Sim P Q a b) (ha:EvOk a) (hb:EvOk b) {d:Int} (hr:Ph s P Q d) (m:Int):yC s a m d=yC s b m d:=by
 unfold yC
 rw[Xe h ha hb hr m]
 cases h0:ieq (U3 s b m d).2.1 0
 ·simp only[l9]
 cases h1:ieq (U3 s b m d).1 (-1)
 case true=>simp only[o5]
 cases h2:ieq (U3 s b m d).1 (-2)
 case true=>simp only[o5,l9]
 have hin:=a1p (I9.1 h0) (fun e=>by rw[E9 e]at h1;cases h1) (fun e=>by rw[E9 e]at h2;cases h2)
 obtain⟨r,r1,r2,r3⟩:=Jc hin
 obtain⟨p1,p2⟩:=hr r r2 r3 _ (.inr rfl)
 rw[r1]
 simp only
 rw[Qm h ha hb p1 p2]
def Pj (s:x9) (O:List Int):Prop:=O.Nodup∧(∀d∈O,0≤d∧d<nD s)∧∀(pre:List Int) (d:Int) (suf:List Int),O=pre++d::suf→∀x∈G9 s d,x∈pre
theorem YK {O pre suf:List Int} {d e:Int} (h:O++[e]=pre++d::suf):(suf=[]∧pre=O∧d=e)∨∃suf',suf=suf' ++[e]∧O=pre++d::suf' :=by
 rcases List.eq_nil_or_concat suf with rfl | ⟨suf',z,rfl⟩
 ·have h:O++[e]=pre++[d]:=h
  obtain⟨h1,h2⟩:=List.append_inj' h rfl
  cases h2;exact .inl ⟨rfl,h1.symm,rfl⟩
 ·rw[List.concat_eq_append,←List.cons_append,←List.append_assoc]at h
  obtain⟨h1,h2⟩:=List.append_inj' h rfl
  cases h2;exact .inr ⟨suf',by simp,h1⟩
theorem a2z {s:x9} {O:List Int} {d:Nat} (h:Pj s O) (hd:d<s.2.2.2.1.length) (ho:okN s O d=true):Pj s (O++[(d:Int)]):=by
 obtain⟨h1,h2⟩:=XU.1 ho
 refine⟨?_,fun x hx=>?_,fun pre e suf he x hx=>?_⟩
 ·exact List.nodup_append.2 ⟨h.1,by simp,fun a ha b hb hab=>by simp at hb;subst hb;exact h1 (hab▸ha)⟩
 ·rcases List.mem_append.1 hx with hx | hx
  ·exact h.2.1 x hx
  ·simp at hx;subst hx;unfold nD o8;omega
 ·rcases YK he with⟨_,rfl,rfl⟩ | ⟨suf',_,e2⟩
  ·cases hq:lF pre x
   ·have:x∈Fz s pre (d:Int):=List.mem_filter.2 ⟨hx,by simp[hq]⟩
    rw[h2]at this;cases this
   ·exact kZ.1 hq
  ·exact h.2.2 pre e suf' e2 x hx
theorem a7i {s:x9} {d x:Int} (hx:x∈G9 s d) (hn:x∉N8 s x):(N8 s x).length<(N8 s d).length:=by
 obtain⟨a1,a2,a3,a4⟩:=gY s d
 obtain⟨b1,b2,b3,b4⟩:=gY s x
 have hxd:=a2 x hx
 rcases GI b1 a1 (fun y hy=>b4 (fun z=>z∈N8 s d) (a3 x hxd) (fun z hz=>a3 z hz) y hy)with h | h
 ·rw[←h]at hxd;exact absurd hxd hn
 ·exact h
theorem a5m {s:x9} (hac:∀d,0≤d→d<nD s→d∉N8 s d) (O:List Int):∀(n:Nat) (d:Int),0≤d→d<nD s→d∉O→(N8 s d).length≤n→∃e,0≤e∧e<nD s∧e∉O∧∀x∈G9 s e,x∈O:=by
 intro n
 induction n with
 | zero=>
  intro d h0 h1 h2 hl
  refine⟨d,h0,h1,h2,fun x hx=>?_⟩
  have:=(gY s d).2.1 x hx
  rw[List.length_eq_zero_iff.1 (Nat.le_zero.1 hl)]at this;cases this
 | succ n ih=>
  intro d h0 h1 h2 hl
  by_cases hq:∀x∈G9 s d,x∈O
  ·exact⟨d,h0,h1,h2,hq⟩
  ·obtain⟨x,hx⟩:=Classical.not_forall.1 hq
   obtain⟨hx,hxO⟩:=Classical.not_imp.1 hx
   obtain⟨q0,q1⟩:=qh hx
   have:=a7i hx (hac x q0 q1)
   exact ih x q0 q1 hxO (by omega)
theorem b4m {s:x9} {O:List Int} (hl:O.length<s.2.2.2.1.length):∃d:Int,0≤d∧d<nD s∧d∉O:=by
 refine Classical.byContradiction fun hq=>?_
 have h1:∀x∈castL (List.range s.2.2.2.1.length),x∈zn O:=fun x hx=>by
  obtain⟨j,hj,rfl⟩:=List.mem_map.1 hx
  have:=List.mem_range.1 hj
  exact(jd _ _).2 (Classical.byContradiction fun hn=>hq ⟨(j:Int),by omega,by unfold nD o8;omega,hn⟩)
 have h2:=wR O
 have h3:(castL (List.range s.2.2.2.1.length)).length=s.2.2.2.1.length:=by rw[xI,List.length_range]
 rcases GI (Ls List.pairwise_lt_range) (TN O) h1 with h | h
 ·rw[←h]at h2;omega
 ·omega
theorem QS {s:x9} (hac:∀d,0≤d→d<nD s→d∉N8 s d):∀(k:Nat) (O:List Int),Pj s O→O.length≤s.2.2.2.1.length→s.2.2.2.1.length -O.length≤k→∃O',NV s k O= .inl O' ∧Pj s O' ∧O'.length=s.2.2.2.1.length
 | 0,O,h,hl,hk=>⟨O,rfl,h,by omega⟩
 | k+1,O,h,hl,hk=>by
  unfold NV
  by_cases hq:O.length<s.2.2.2.1.length
  ·rw[if_pos hq]
   cases hn:DI s O with
   | none=>
    obtain⟨d,d0,d1,d2⟩:=b4m hq
    obtain⟨e,e0,e1,e2,e3⟩:=a5m hac O _ d d0 d1 d2 (Nat.le_refl _)
    have hlt:e.toNat<s.2.2.2.1.length:=by unfold nD o8 at e1;omega
    have:=kP hn e.toNat hlt
    have hok:okN s O e.toNat=true:=XU.2 (by
     rw[Int.toNat_of_nonneg e0]
     refine⟨e2,List.filter_eq_nil_iff.2 fun x hx=>by simp[kZ.2 (e3 x hx)]⟩)
    unfold Jt at this
    rw[hok]at this;cases this
   | some d=>
    obtain⟨n1,n2⟩:=NP hn
    exact QS hac k (O++[(d:Int)]) (a2z h n1 n2) (by simp;omega) (by simp;omega)
  ·rw[if_neg hq];exact⟨O,rfl,h,by omega⟩
theorem yV {s:x9} (hs:SmS s) (hac:∀d,0≤d→d<nD s→d∉N8 s d):Pj s (gp s).1∧∀d,0≤d→d<nD s→d∈(gp s).1:=by
 have hnd:=hs.nd
 obtain⟨O,h1,h2,h3⟩:=QS hac 100 [] ⟨by simp,by simp,fun pre d suf h=>by simp at h⟩ (by simp) (by simp;omega)
 have e:(gp s).1=O:=by unfold gp;rw[h1]
 rw[e]
 refine⟨h2,fun d d0 d1=>?_⟩
 refine Classical.byContradiction fun hn=>?_
 have:=Iu (l:=d::O) (n:=s.2.2.2.1.length) (List.nodup_cons.2 ⟨hn,h2.1⟩) (fun x hx=>by
  rcases List.mem_cons.1 hx with rfl | hx
  ·exact⟨d0,d1⟩
  ·exact h2.2.1 x hx)
 simp at this;omega
theorem EH {l:J3} (h:(P5 l).1=0) {i:Nat} {s:x9} (hs:l.2.2[i]? =some s):∀d,0≤d→d<nD s→d∉N8 s d:=by
 intro d d0 d1 hd
 have hp:=(Dk h hs).2
 unfold Iz at hp
 cases h1:wO l s with
 | some q=>rw[h1]at hp;exact absurd hp (Au h1)
 | none=>
  rw[h1]at hp
  simp only at hp
  cases h2:P7 s.2.2.2.2.length (Gs l s)with
  | some q=>
   rw[h2]at hp
   obtain⟨j,hj,hq⟩:=bV h2
   unfold Gs at hq
   cases h3:s.2.2.2.2[j]? with
   | none=>rw[h3]at hq;cases hq
   | some q2=>rw[h3]at hq;exact absurd hp (CJ hq)
  | none=>
   rw[h2]at hp
   simp only at hp
   have key:UC s d.toNat=some (9,((200+d.toNat:Nat):Int)):=by
    unfold UC
    rw[show((N8 s d.toNat).any fun x=>ieq (d.toNat:Int) x)=true from ?_];rfl
    rw[Int.toNat_of_nonneg d0]
    exact List.any_eq_true.2 ⟨d,hd,E9 rfl⟩
   cases h3:P7 s.2.2.2.1.length (UC s)with
   | none=>
    have:=kP h3 d.toNat (by unfold nD o8 at d1;omega)
    rw[key]at this;cases this
   | some q=>
    rw[h3]at hp
    obtain⟨j,hj,hq⟩:=bV h3
    unfold UC at hq
    cases h4:(N8 s (j:Int)).any fun x=>ieq (j:Int) x <;> rw[h4]at hq
    ·cases hq
    ·cases hq;exact absurd (show(9:Int)=0 from hp) (by decide)
theorem Vu {l:J3} (h:(P5 l).1=0) {k:Int} {s:x9} (hs:lat l.2.2 k=some s):∀d,0≤d→d<nD (I8 l s)→d∉N8 (I8 l s) d:=by
 rcases nz h hs with⟨_,_,g⟩ | ⟨_,_,_,g,_⟩
 ·rw[g];intro d d0 d1;exact absurd d1 (by show ¬d<(0:Int);omega)
 ·exact EH h (Z7 g).2.2.2
theorem Qq {α β ρ:Type} (G:β→α→β⊕ρ):∀(l m:List α) (b:β),U1 G (l++m) b=match U1 G l b with | .inl b' =>U1 G m b' | .inr r=> .inr r
 | [],m,b=>rfl
 | a::l,m,b=>by
  rw[List.cons_append]
  simp only[U1]
  cases G b a with
  | inl b' =>exact Qq G l m b'
  | inr r=>rfl
theorem yP {α:Type} {l:List α} {d x:Int} (v:α) (h0:0≤d) (h:x≠d):lat (l.set d.toNat v) x=lat l x:=by
 unfold lat
 split
 ·rw[List.getElem?_set_ne (by omega)]
 ·rfl
theorem Nh {α:Type} {l:List α} {d:Int} (v:α) (h0:0≤d) (h:d<o8 l):lat (l.set d.toNat v) d=some v:=by
 unfold lat
 rw[if_pos h0,List.getElem?_set_self (by unfold o8 at h;omega)]
theorem OE {s:x9} {env:U9} {m:Int} {need:List Bool} {x:Int} :∀(L:List Int) {B X:DB},(∀d∈L,0≤d)→x∉L→U1 (scG s env m need) L B= .inl X→lat X.1 x=lat B.1 x∧lat X.2 x=lat B.2 x
 | [],B,X,_,_,h=>by cases h;exact⟨rfl,rfl⟩
 | d::L,B,X,hL,hx,h=>by
  unfold U1 at h
  cases hg:scG s env m need B d with
  | inr e=>rw[hg]at h;cases h
  | inl B' =>
   rw[hg]at h
   obtain⟨k1,k2⟩:=OE L (fun y hy=>hL y (by simp[hy])) (fun hm:x∈L=>hx (List.mem_cons_of_mem _ hm)) h
   have hd:x≠d:=fun e=>hx (by simp[e])
   unfold scG at hg
   cases h1:(lat need d).getD false <;> rw[h1]at hg
   ·cases hg;exact⟨k1,k2⟩
   simp only[o5]at hg
   cases h2:yC s (tN env B.1) m d with
   | inr e=>rw[h2]at hg;cases hg
   | inl v=>
    rw[h2]at hg;cases hg
    rw[k1,k2,yP _ (hL d (by simp)) hd,yP _ (hL d (by simp)) hd];exact⟨rfl,rfl⟩
theorem a8P {s:x9} {env:U9} {m:Int} {need:List Bool} {n:Nat} (L:List Int) {B X:DB} (hB:B.1.length=n∧B.2.length=n) (h:U1 (scG s env m need) L B= .inl X):X.1.length=n∧X.2.length=n:=by
 refine Ia (scG s env m need) (fun x=>x.1.length=n∧x.2.length=n) (fun b d b' hb hg=>?_) _ _ _ hB h
 unfold scG at hg
 cases h1:(lat need d).getD false <;> rw[h1]at hg
 ·cases hg;exact hb
 simp only[o5]at hg
 cases hd:yC s (tN env b.1) m d with
 | inr e=>rw[hd]at hg;cases hg
 | inl v=>rw[hd]at hg;cases hg;simp[hb]
theorem Ec {l:J3} (h:(P5 l).1=0) {i:Nat} {s:x9} (hs:l.2.2[i]? =some s) (d:Int):Ph s (fun x=>x∈G9 s d) (fun x=>0≤x∧x<nD (I8 l s)) d:=by
 intro r hr hd e he
 obtain⟨p1,p2⟩:=IP h hs hr he
 refine⟨fun x hx=>?_,p2⟩
 obtain⟨q,hq,_⟩:=(JR h hs hr).2
 obtain⟨q0,q1,_⟩:=Z7 hq
 have hin:inD (nD s) d=true:=by
  rw[←hd];unfold inD;rw[F7 q0];exact E8 q1
 unfold G9
 rw[hin]
 refine(jd _ _).2 (Il.2 ⟨r,hr,hd,?_⟩)
 obtain⟨x0,x1⟩:=p1 x hx
 have hxi:inD (nD s) x=true:=by unfold inD;rw[F7 x0];exact E8 x1
 unfold wY
 rcases he with rfl | rfl
 ·exact List.mem_append.2 (.inl (List.mem_filter.2 ⟨hx,hxi⟩))
 ·exact List.mem_append.2 (.inr (List.mem_filter.2 ⟨hx,hxi⟩))
theorem a1N (l:J3) (s:x9) (h:(I8 l s).2.1=-1):I8 l (I8 l s)=nZ:=by
 unfold I8 at h ⊢
 rw[h];rfl
theorem Jh {l:J3} (h:(P5 l).1=0) {k:Int} {s:x9} (hs:lat l.2.2 k=some s) (d:Int):Ph (I8 l s) (fun x=>x∈G9 (I8 l s) d) (fun x=>False) d:=by
 rcases nz h hs with⟨_,_,g⟩ | ⟨g1,g2,g3,g,_⟩
 ·rw[g];intro r hr;cases hr
 ·intro r hr hd e he
  have h2:=Ec h (Z7 g).2.2.2 d r hr hd e he
  refine⟨h2.1,fun x hx=>?_⟩
  have hm:=Rt h (Z7 hs).2.2.2
  unfold yR at hm
  have hne:ieq s.2.1 (-1)=false:=D8 (by rw[iI]at g1;omega)
  rw[hne,g2,g]at hm
  simp only[l9]at hm
  have hm1:(I8 l s).2.1=-1:=by
   cases hq:ile (((k.toNat:Nat)):Int) s.2.1 <;> rw[hq]at hm
   case true=>cases hm
   cases hq2:ieq (I8 l s).2.1 (-1) <;> rw[hq2]at hm
   ·cases hm
   ·exact I9.1 hq2
  have:=h2.2 x hx
  rw[a1N l s hm1]at this
  exact absurd this.2 (by show ¬x<(0:Int);omega)
theorem b3Y {s:x9} {env:U9} {m:Int} {need:List Bool} {X:DB} {Q:Int→Prop} (hE:EvOk env) (ht:Pj s (gp s).1) (hX:scS s env m need= .inl X) {d:Int} (hd:d∈(gp s).1) (hn:(lat need d).getD false=true) (hr:Ph s (fun x=>x∈G9 s d) Q d):
  ∃v r,lat X.1 d=some v∧lat X.2 d=some r∧yC s (tN env X.1) m d= .inl (v,r):=by
 obtain⟨pre,suf,he⟩:=List.append_of_mem hd
 have hlen:=TJ hX
 unfold scS at hX
 rw[he,Qq]at hX
 cases hB:U1 (scG s env m need) pre (List.replicate s.2.2.2.1.length (0,0,0),List.replicate s.2.2.2.1.length 0)with
 | inr r=>rw[hB]at hX;cases hX
 | inl B=>
  rw[hB]at hX
  simp only at hX
  have hBl:=a8P (n:=s.2.2.2.1.length) pre (by simp) hB
  unfold U1 at hX
  cases hg:scG s env m need B d with
  | inr r=>rw[hg]at hX;cases hX
  | inl B' =>
   rw[hg]at hX
   simp only at hX
   obtain⟨d0,d1⟩:=ht.2.1 d hd
   have hnd:=ht.1
   rw[he]at hnd
   obtain⟨n1,n2,n3⟩:=List.nodup_append.1 hnd
   obtain⟨n4,n5⟩:=List.nodup_cons.1 n2
   have hpos:∀y∈suf,0≤y:=fun y hy=>(ht.2.1 y (by rw[he];simp[hy])).1
   unfold scG at hg
   rw[hn]at hg
   simp only[o5]at hg
   cases hv:yC s (tN env B.1) m d with
   | inr e=>rw[hv]at hg;cases hg
   | inl v=>
    rw[hv]at hg
    cases hg
    obtain⟨k1,k2⟩:=OE (x:=d) suf hpos n4 hX
    rw[Nh _ d0 (by unfold nD at d1;unfold o8 at d1 ⊢;omega)]at k1 k2
    refine⟨v.1,v.2,k1,k2,?_⟩
    rw[←hv]
    refine UD (a:=tN env X.1) (b:=tN env B.1) (P:=fun x=>x∈G9 s d) (Q:=Q) ⟨rfl,rfl,rfl,by show X.1.length=B.1.length;omega,fun x hx=>?_,rfl,fun _ _=>rfl⟩ (CE hE _) (CE hE _) hr m
    have hxp:=ht.2.2 pre d suf he x hx
    have hxs:x∉suf:=fun hy=>n3 x hxp x (by simp[hy]) rfl
    have hxd:x≠d:=fun hy=>n3 x hxp d (by simp) hy
    have:=(OE (x:=x) suf hpos hxs hX).1
    rw[yP _ d0 hxd]at this
    exact this
structure SimE (Q:Int→Prop) (a b:U9):Prop where
 e1:a.1=b.1
 e2:a.2.1=b.2.1
 e3:a.2.2.2.2=b.2.2.2.2
 ml:a.2.2.2.1.length=b.2.2.2.1.length
 m:∀x,Q x→a.2.2.2.1.map (fun v=>lat v x)=b.2.2.2.1.map (fun v=>lat v x)
theorem SimE.at {P Q:Int→Prop} {a b:U9} (h:SimE Q a b) {D D' :List V3} (hl:D.length=D'.length) (hd:∀x,P x→lat D x=lat D' x):Sim P Q (tN a D) (tN b D'):=⟨h.e1,h.e2,h.e3,hl,hd,h.ml,h.m⟩
abbrev ND (w:List Bool) (x:Int):Prop:=(lat w x).getD false=true
structure DInv (n:Nat) (need:List Bool) (B B' :DB):Prop where
 l1:B.1.length=n∧B.2.length=n
 l2:B'.1.length=n∧B'.2.length=n
 eq:∀x,ND need x→lat B.1 x=lat B'.1 x∧lat B.2 x=lat B'.2 x
structure MInv (need:List Bool) (b b' :List DB):Prop where
 l:b.length=b'.length
 eq:∀x,ND need x→b.map (fun v=>lat v.1 x)=b'.map (fun v=>lat v.1 x)
theorem a9s (w:List Bool) (x:Int):ND w x↔mk w x=true:=by
 unfold ND mk lat
 split
 ·rw[jZ]
 ·simp
theorem a4h {s:x9} {w:List Bool} (hw:w.length=s.2.2.2.1.length) {d:Int} (h0:0≤d) (h1:d<nD s) (x:Int):mk (zf s w d) x=true↔mk w x=true∨x=d∨x∈N8 s d:=by
 unfold zf
 rw[SK _ _ (fun y hy=>by have:=oU hy;unfold nD at this;simp only[o8,List.length_set]at this ⊢;omega),NJ h0 (by unfold nD at h1;unfold o8 at h1 ⊢;omega)]
 cases hq:ieq x d
 ·have:x≠d:=fun e=>by rw[E9 e]at hq;cases hq
  simp[this]
 ·rw[I9]at hq;simp[hq]
theorem a4g {m:x9} :∀(L:List Int) {w:List Bool},w.length=m.2.2.2.1.length→(∀x∈L,0≤x∧x<nD m)→∀x,mk (uh m w L) x=true↔mk w x=true∨∃z∈L,x=z∨x∈N8 m z
 | [],w,hw,h,x=>by simp[uh]
 | z::L,w,hw,h,x=>by
  obtain⟨z0,z1⟩:=h z (by simp)
  rw[show uh m w (z::L)=uh m (zf m w z) L from rfl,a4g L ((Gq m w z).trans hw) (fun y hy=>h y (by simp[hy])) x,a4h hw z0 z1]
  constructor
  ·rintro((h1 | h1) | ⟨y,hy,h1⟩)
   ·exact .inl h1
   ·exact .inr ⟨z,by simp,h1⟩
   ·exact .inr ⟨y,by simp[hy],h1⟩
  ·rintro(h1 | ⟨y,hy,h1⟩)
   ·exact .inl (.inl h1)
   ·rcases List.mem_cons.1 hy with rfl | hy
    ·exact .inl (.inr h1)
    ·exact .inr ⟨y,hy,h1⟩
def a2I (s:x9) (w:List Bool):Prop:=∀d,mk w d=true→∀x∈G9 s d,mk w x=true
structure NI (l:J3) (s:x9) (B:BB):Prop where
 ok:BOk s (I8 l s) B
 c1:a2I s B.1
 c2:a2I (I8 l s) B.2
 hr:∀e,mk B.1 e=true→Ph s (fun x=>x∈G9 s e) (fun x=>mk B.2 x=true) e
structure Grows (B C:BB):Prop where
 g1:∀x,mk B.1 x=true→mk C.1 x=true
 g2:∀x,mk B.2 x=true→mk C.2 x=true
theorem Grows.refl (B:BB):Grows B B:=⟨fun _ h=>h,fun _ h=>h⟩
theorem Grows.trans {A B C:BB} (h:Grows A B) (k:Grows B C):Grows A C:=⟨fun x hx=>k.g1 x (h.g1 x hx),fun x hx=>k.g2 x (h.g2 x hx)⟩
end Go.GP
namespace Go.GP
open Gt
set_option maxRecDepth 100000
section
variable {en:List bP} {t:Int×Int}
end
end Go.GP
namespace Go.GP
open Gt
set_option maxRecDepth 100000
def PVW (en:List bP) (t:Int×Int) (v:V3):Prop:=v.1=t.1∧v.2.1=t.2∧(v.1=6→inB v.2.2 (bnd t en)=true)
structure TOk (sg:H7) (env:U9):Prop where
 inp:∀i t v,lat sg.2.2.1 i=some t→lat env.2.1 i=some v→PVW sg.1 t v
 dfs:∀i t v,lat sg.2.2.2.1 i=some t→lat env.2.2.1 i=some v→v.1≠0→PVW sg.1 t v
 mty:∀i t u,lat sg.2.2.2.2.1 i=some t→lat env.2.2.2.2.1 i=some u→u=t
 tbs:env.2.2.2.2.2=sg.2.1
 row:∀t∈sg.2.1,∀r∈t.2.2.2,inB r.2.2.2 (bnd t.2.2.1 sg.1)=true
end Go.GP
namespace Go.GP
open Gt
set_option maxRecDepth 100000
section
variable {sg:H7} {env:U9}
end
end Go.GP
namespace Go.GP
open Gt
set_option maxRecDepth 100000
theorem Xw {ρ:Type} {n:Nat} {p:Nat→Option ρ} (h:∀r,P7 n p≠some r):∀i,i<n→p i=none:=by
 cases hf:P7 n p with
 | some r=>exact absurd hf (h r)
 | none=>exact kP hf
theorem a1t {k i:Int} {r:Int×Int} (h:JZ k i r=none):r.1=0:=by
 unfold JZ at h
 cases he:ieq r.1 0 <;> rw[he]at h
 ·cases h
 ·exact I9.1 he
theorem YY {l:J3} (h:(P5 l).1=0):∀e∈l.1,e.2.length≤16:=by
 intro e he
 unfold P5 at h
 cases h1:ieq (yH l).1 0 <;> rw[h1]at h
 ·simp only[l9]at h;rw[E9 h]at h1;cases h1
 have h1:=I9.1 h1
 unfold yH at h1
 cases h2:ilt 8 (o8 l.1) <;> rw[h2]at h1
 case true=>exact absurd (show(4:Int)=0 from h1) (by decide)
 simp only[l9]at h1
 obtain⟨i,hi,e1⟩:=List.getElem_of_mem he
 have hn:=Xw (n:=l.1.length) (p:=MC l) (fun r hf=>by
  rw[hf]at h1
  obtain⟨j,_,hj⟩:=bV hf
  unfold MC at hj
  split at hj
  ·exact Ql hj h1
  ·cases hj) i hi
 unfold MC at hn
 rw[Y6 hi,e1]at hn
 have hz:=a1t hn
 unfold UG at hz
 cases g1:vg e.1 <;> rw[g1]at hz
 ·exact absurd (show(2:Int)=0 from hz) (by decide)
 cases g2:DU l 1 i e.1 <;> rw[g2]at hz
 case true=>exact absurd (show(7:Int)=0 from hz) (by decide)
 cases g3:ieq (o8 e.2) 0 <;> rw[g3]at hz
 case true=>exact absurd (show(5:Int)=0 from hz) (by decide)
 cases g4:ilt 16 (o8 e.2) <;> rw[g4]at hz
 case true=>exact absurd (show(4:Int)=0 from hz) (by decide)
 rw[aT]at g4;unfold o8 at g4;omega
abbrev b5J:Int×Int:=(0,109573)
def onA (s:x9) (T:Int) (i:Nat):Bool:=match s.2.2.2.2[i]? with | some r=>Ho r.2.2.2.2.1 T | none=>false
def b7K (s:x9) (T:Int):List Nat:=onL (onA s T) s.2.2.2.2.length
def rOn (s:x9) (T:Int) (i:Nat):J6:=match s.2.2.2.2[i]? with
 | some r=>(r.1,r.2.1,anc (onA s T) (uj s) i,r.2.2.2.1,b5J,r.2.2.2.2.2.1,r.2.2.2.2.2.2.1,r.2.2.2.2.2.2.2)
 | none=>([],0,0,0,b5J,[],[],[])
def sOn (T:Int) (s:x9):x9:=(s.1,s.2.1,s.2.2.1,s.2.2.2.1,(b7K s T).map (rOn s T))
theorem Vh {α β:Type} (f:α→β) (l:List α) (i:Int):lat (l.map f) i=(lat l i).map f:=by
 unfold lat
 split
 ·rw[List.getElem?_map]
 ·rfl
end Go.GP
namespace Go.GP
open Gt
set_option maxRecDepth 100000
theorem LJ (on:Nat→Bool) (i:Nat):gq on (i+1)=gq on i+(if on i=true then 1 else 0):=by
 unfold gq
 rw[List.range_succ,List.filter_append,List.length_append]
 cases h:on i <;> simp[h]
theorem UA (on:Nat→Bool) {i j:Nat} (h:i≤j):gq on i≤gq on j:=by
 induction j with
 | zero=>
   have:i=0:=by omega
   subst this;omega
 | succ j ih=>
  rw[LJ]
  by_cases e:i=j+1
  ·subst e;rw[LJ];omega
  ·have:=ih (by omega);omega
theorem b3H {on:Nat→Bool} {a i:Nat} (h:a<i) (ha:on a=true):gq on a<gq on i:=by
 have h1:=LJ on a
 rw[if_pos ha]at h1
 have h2:=UA on (show a+1≤i from h)
 omega
section
variable {A R R' :Nat→Bool} {par par' :Nat→Int} {n:Nat} (hRA:∀i,i<n→R i=true→A i=true) (hR:∀i,i<n→A i=true→R' (gq A i)=R i) (hp:∀i,i<n→A i=true→par' (gq A i)=anc A par i)
include hRA hR
omit hR in
omit hR in
include hp
end
end Go.GP
namespace Go.GP
open Gt
set_option maxRecDepth 100000
section
variable {s:x9} {T:Int} (h0:0≤T) (h1:T≤109572)
include h0 h1
omit h0 h1 in
omit h0 h1 in
end
end Go.GP
namespace Go.GP
open Gt
set_option maxRecDepth 100000
structure OnOk (s:x9) (T:Int):Prop where
 h0:0≤T
 h1:T≤109572
 t1:Pj s (gp s).1
 f1:∀d,0≤d→d<nD s→d∈(gp s).1
 t2:Pj (sOn T s) (gp (sOn T s)).1
 f2:∀d,0≤d→d<nD s→d∈(gp (sOn T s)).1
 r1:∀d,Ph s (fun x=>x∈G9 s d) (fun _=>True) d
 r2:∀d,Ph (sOn T s) (fun x=>x∈G9 (sOn T s) d) (fun _=>True) d
def Lj (s:x9) (k:Nat) (r:J6):Bool:=l7 (ieq r.2.2.1 (-1)) false (l7 (ilt r.2.2.1 0) true (l7 (ile k r.2.2.1) true (match lat s.2.2.2.2 r.2.2.1 with | some q=>E5 (ieq q.2.1 r.2.1) | none=>true)))
structure RuleV (s:x9) (sg:H7) (k:Nat) (r:J6):Prop where
 id:vg r.1=true
 nm:((s.2.2.2.2.take k).any fun x=>seq x.1 r.1)=false
 df:∃d,lat s.2.2.2.1 r.2.1=some d∧MI r sg d.2=0
 pa:Lj s k r=false
 p0:ilt r.2.2.2.1 0=false
 p9:ilt 9 r.2.2.2.1=false
 dv:zU r.2.2.2.2.1=true
 ne:ieq r.2.2.2.2.1.1 r.2.2.2.2.1.2=false
 ct:ile 8 (Eb (s.2.2.2.2.take k) r.2.1)=false
 sr:YO r.2.2.2.2.2.2.2=true
theorem RuleV.zero {s:x9} {sg:H7} {k:Nat} {r:J6} (h:RuleV s sg k r):yf s sg k r=0:=by
 obtain⟨d,h1,h2⟩:=h.df
 unfold yf
 rw[h.id,h.nm,h1]
 simp only[o5,l9]
 change l7 (Lj s k r) (9:Int) _=0
 rw[h.pa,h.p0,h.p9,h.dv,h.ne,h.ct,h.sr,h2];rfl
theorem b4p {s:x9} {sg:H7} {k:Nat} {r:J6} (h:yf s sg k r=0):RuleV s sg k r:=by
 obtain⟨d,hd,hx⟩:=OB h
 unfold yf at h
 cases g1:vg r.1 <;> rw[g1]at h
 ·exact absurd (show(2:Int)=0 from h) (by decide)
 cases g2:(s.2.2.2.2.take k).any fun x=>seq x.1 r.1 <;> rw[g2]at h
 case true=>exact absurd (show(7:Int)=0 from h) (by decide)
 rw[hd]at h
 simp only[o5,l9]at h
 change l7 (Lj s k r) (9:Int) _=0 at h
 cases b1:Lj s k r <;> rw[b1]at h
 case true=>exact absurd (show(9:Int)=0 from h) (by decide)
 cases b2:ilt r.2.2.2.1 0 <;> rw[b2]at h
 case true=>exact absurd (show(3:Int)=0 from h) (by decide)
 cases b3:ilt 9 r.2.2.2.1 <;> rw[b3]at h
 case true=>exact absurd (show(3:Int)=0 from h) (by decide)
 cases b4:zU r.2.2.2.2.1 <;> rw[b4]at h
 case false=>exact absurd (show(3:Int)=0 from h) (by decide)
 cases b5:ieq r.2.2.2.2.1.1 r.2.2.2.2.1.2 <;> rw[b5]at h
 case true=>exact absurd (show(3:Int)=0 from h) (by decide)
 cases b6:ile 8 (Eb (s.2.2.2.2.take k) r.2.1) <;> rw[b6]at h
 case true=>exact absurd (show(4:Int)=0 from h) (by decide)
 cases b7:YO r.2.2.2.2.2.2.2 <;> rw[b7]at h
 case false=>exact absurd (show(2:Int)=0 from h) (by decide)
 exact⟨g1,g2,⟨d,hd,hx⟩,b1,b2,b3,b4,b5,b6,b7⟩
def xG {α β:Type} (eq:α→α→Bool) (l:List (α×β)) (f:α→Option β):Prop:=∀k,FD eq l k=(f k).isSome∧∀z,gG eq l k z=(f k).getD z
theorem QG {α β:Type} (eq:α→α→Bool):xG eq ([]:List (α×β)) (fun _=>none):=fun _=>⟨rfl,fun _=>rfl⟩
theorem CV {α β:Type} {eq:α→α→Bool} (hE:∀a b,eq a b=true↔a=b) (k:α) (x:β) (k' :α):∀(l:List (α×β)),AZ eq (zJ eq l k x) k' =(l7 (eq k' k) true (AZ eq l k'))∧∀z,xU eq (zJ eq l k x) k' z=l7 (eq k' k) x (xU eq l k' z)
 | []=>by
  unfold zJ
  simp only[AZ,xU]
  cases eq k' k <;> exact⟨rfl,fun _=>rfl⟩
 | p::r=>by
  have ih:=CV hE k x k' r
  unfold zJ
  cases hp:eq k p.1
  ·simp only[cond_false,AZ,xU]
   cases hq:eq k' p.1
   ·simp only[cond_false];exact ih
   ·simp only[cond_true]
    cases hk:eq k' k
    ·exact⟨rfl,fun _=>rfl⟩
    ·exfalso
     have h1:=(hE _ _).1 hq;have h2:=(hE _ _).1 hk
     rw[←h2,h1]at hp
     rw[(hE p.1 p.1).2 rfl]at hp;cases hp
  ·have hp' :=(hE _ _).1 hp
   subst hp'
   simp only[cond_true,AZ,xU]
   cases eq k' p.1 <;> exact⟨rfl,fun _=>rfl⟩
theorem QH {α β:Type} {eq:α→α→Bool} (hE:∀a b,eq a b=true↔a=b) {l:List (α×β)} {f:α→Option β} (h:xG eq l f) (k:α) (x:β):
  xG eq (qc eq l k x) (fun k' =>l7 (eq k' k) (some x) (f k')):=fun k' =>by
 obtain⟨h1,h2⟩:=CV hE k x k' l
 obtain⟨g1,g2⟩:=h k'
 refine⟨?_,fun z=>?_⟩
 ·show AZ eq (zJ eq l k x) k' =_
  rw[h1,show AZ eq l k' =_ from g1]
  show _=(l7 (eq k' k) (some x) (f k')).isSome
  cases eq k' k <;> rfl
 ·show xU eq (zJ eq l k x) k' z=_
  rw[h2 z,show xU eq l k' z=_ from g2 z]
  show _=(l7 (eq k' k) (some x) (f k')).getD z
  cases eq k' k <;> rfl
theorem xG.has {α β:Type} {eq:α→α→Bool} {l:List (α×β)} {f:α→Option β} (h:xG eq l f) (k:α):FD eq l k=(f k).isSome:=(h k).1
theorem xG.get {α β:Type} {eq:α→α→Bool} {l:List (α×β)} {f:α→Option β} (h:xG eq l f) (k:α) (z:β):gG eq l k z=(f k).getD z:=(h k).2 z
theorem xG.congr {α β:Type} {eq:α→α→Bool} {l:List (α×β)} {f g:α→Option β} (h:xG eq l f) (e:∀k,f k=g k):xG eq l g:=fun k=>by rw[←e k];exact h k
theorem a6i (a b:List UInt8×List UInt8):V8 (seq a.1 b.1) (seq a.2 b.2)=true↔a=b:=by
 unfold V8
 rw[Bool.and_eq_true,bg,bg]
 exact⟨fun h=>Prod.ext h.1 h.2,fun h=>by subst h;exact⟨rfl,rfl⟩⟩
abbrev noS:x9:=([],0,[],[],[])
def lD {α:Type} (p:α→Bool):List α→Nat→Option (α×Int)
 | [],_=>none
 | a::r,i=>l7 (p a) (some (a,(i:Int))) (lD p r (i+1))
theorem Aw {α:Type} (p:α→Bool) (a:α):∀(l:List α) (i:Nat),lD p (l++[a]) i=(match lD p l i with | some x=>some x | none=>l7 (p a) (some (a,((i+l.length:Nat):Int))) none)
 | [],i=>by simp only[List.nil_append,lD,List.length_nil,Nat.add_zero]
 | b::r,i=>by
  simp only[List.cons_append,lD]
  cases p b
  ·simp only[l9]
   rw[Aw p a r (i+1),List.length_cons,show i+1+r.length=i+(r.length+1) by omega]
  ·rfl
def EE (s:x9) (n:List UInt8):Option (J6×Int):=lD (fun r=>seq n r.1) s.2.2.2.2 0
def tu (l:J3) (n:List UInt8):Option (x9×Int):=lD (fun s=>seq n s.1) l.2.2 0
def cpS (l:J3) (sn rn:List UInt8):x9×Int×Bool:=match tu l sn with
 | none=>(noS,0,false)
 | some x=>match EE x.1 rn with
  | none=>(noS,0,false)
  | some y=>(x.1,y.2,true)
def a2L (l:J3) (X:List (List UInt8×aI)):Prop:=
 ∃f:List UInt8→Option aI,xG (fun(a b:List UInt8)=>seq a b) X f∧∀n,match f n with
  | none=>tu l n=none
  | some x=>∃i,tu l n=some (x.1,i)∧xG (fun(a b:List UInt8)=>seq a b) x.2 (fun rn=>(EE x.1 rn).map (·.2))
theorem a7r {α:Type} {l:List α} {i:Nat} {x:α×Nat} (h:l.zipIdx[i]? =some x):l[i]? =some x.1∧x.2=i:=by
 rw[List.getElem?_zipIdx]at h
 cases hl:l[i]? with
 | none=>rw[hl]at h;cases h
 | some a=>
  rw[hl]at h
  simp only[Option.map_some,Option.some.injEq]at h
  subst h
  exact⟨rfl,by simp⟩
def a1F (X:List (List UInt8×Int)) (x:J6×Nat):List (List UInt8×Int):=l7 (FD (fun(a b:List UInt8)=>seq a b) X x.1.1) X (qc (fun(a b:List UInt8)=>seq a b) X x.1.1 (x.2:Int))
theorem Qz (rs:List J6):∀(i:Nat),i≤rs.length→xG (fun(a b:List UInt8)=>seq a b) ((rs.zipIdx.take i).foldl a1F []) (fun rn=>(lD (fun r:J6=>seq rn r.1) (rs.take i) 0).map (·.2))
 | 0,_=>by simpa[lD]using QG _
 | i+1,h=>by
  have ih:=Qz rs i (by omega)
  have hl:i<rs.length:=by omega
  have e1:rs.zipIdx.take (i+1)=rs.zipIdx.take i++[(rs[i],i)]:=by
   rw[List.take_add_one]
   congr 1
   rw[List.getElem?_zipIdx,Y6 hl]
   simp
  have e2:rs.take (i+1)=rs.take i++[rs[i]]:=by
   rw[List.take_add_one,Y6 hl];rfl
  rw[e1,List.foldl_append,e2]
  simp only[List.foldl_cons,List.foldl_nil,Aw,Nat.zero_add,List.length_take,Nat.min_eq_left (Nat.le_of_lt hl)]
  generalize (rs.zipIdx.take i).foldl a1F []=X at*
  unfold a1F
  simp only[ih.has]
  cases hf:lD (fun r:J6=>seq rs[i].1 r.1) (rs.take i) 0 with
  | some x=>
   simp only[Option.map_some,Option.isSome_some,o5]
   refine ih.congr fun k=>?_
   cases hk:lD (fun r:J6=>seq k r.1) (rs.take i) 0 with
   | some y=>rfl
   | none=>
    cases hq:seq k rs[i].1
    ·rfl
    ·have:=bg.1 hq
     subst this
     rw[hk]at hf;cases hf
  | none=>
   simp only[Option.map_none,Option.isSome_none,l9]
   refine(QH (fun a b=>bg) ih _ _).congr fun k=>?_
   cases hq:seq k rs[i].1
   ·simp only[l9]
    cases lD (fun r:J6=>seq k r.1) (rs.take i) 0 <;> rfl
   ·have:=bg.1 hq
    subst this
    rw[hf];rfl
def Qy (X:List (List UInt8×aI)) (s:x9):List (List UInt8×aI):=
 l7 (FD (fun(a b:List UInt8)=>seq a b) X s.1) X (qc (fun(a b:List UInt8)=>seq a b) X s.1 (s,s.2.2.2.2.zipIdx.foldl a1F []))
theorem QA (l:J3):∀(i:Nat),i≤l.2.2.length→a2L (l.1,l.2.1,l.2.2.take i) ((l.2.2.take i).foldl Qy [])
 | 0,_=>⟨fun _=>none,QG _,fun n=>rfl⟩
 | i+1,h=>by
  obtain⟨f,h1,h2⟩:=QA l i (by omega)
  have hl:i<l.2.2.length:=by omega
  have e2:l.2.2.take (i+1)=l.2.2.take i++[l.2.2[i]]:=by
   rw[List.take_add_one,Y6 hl];rfl
  rw[e2,List.foldl_append]
  simp only[List.foldl_cons,List.foldl_nil]
  have hA:∀n,tu (l.1,l.2.1,l.2.2.take i++[l.2.2[i]]) n=(match tu (l.1,l.2.1,l.2.2.take i) n with | some x=>some x | none=>l7 (seq n l.2.2[i].1) (some (l.2.2[i],(i:Int))) none):=fun n=>by
   unfold tu
   simp only[Aw,Nat.zero_add,List.length_take,Nat.min_eq_left (Nat.le_of_lt hl)]
   cases lD (fun s:x9=>seq n s.1) (l.2.2.take i) 0 <;> rfl
  generalize (l.2.2.take i).foldl Qy []=X at*
  unfold Qy
  simp only[h1.has]
  cases hf:f l.2.2[i].1 with
  | some x=>
   simp only[Option.isSome_some,o5]
   refine⟨f,h1,fun n=>?_⟩
   have h3:=h2 n
   rw[hA n]
   cases hn:f n with
   | some y=>
    rw[hn]at h3
    obtain⟨j,h4,h5⟩:=h3
    rw[h4]
    exact⟨j,rfl,h5⟩
   | none=>
    rw[hn]at h3
    simp only at h3 ⊢
    rw[h3]
    cases hq:seq n l.2.2[i].1
    ·rfl
    ·have:=bg.1 hq
     subst this
     rw[hn]at hf;cases hf
  | none=>
   simp only[Option.isSome_none,l9]
   refine⟨_,QH (fun a b=>bg) h1 _ _,fun n=>?_⟩
   have h3:=h2 n
   rw[hA n]
   cases hq:seq n l.2.2[i].1
   ·simp only[l9]
    cases hn:f n with
    | some y=>
     rw[hn]at h3
     obtain⟨j,h4,h5⟩:=h3
     rw[h4]
     exact⟨j,rfl,h5⟩
    | none=>
     rw[hn]at h3
     simp only at h3 ⊢
     rw[h3]
   ·have:=bg.1 hq
    subst this
    rw[hf]at h3
    simp only at h3
    rw[h3]
    simp only[o5]
    refine⟨_,rfl,?_⟩
    have:=Qz l.2.2[i].2.2.2.2 l.2.2[i].2.2.2.2.length (Nat.le_refl _)
    rw[show l.2.2[i].2.2.2.2.zipIdx.take l.2.2[i].2.2.2.2.length=l.2.2[i].2.2.2.2.zipIdx from List.take_of_length_le (by simp),List.take_length]at this
    exact this
theorem Jr {l:J3} (hL:SmL l):∃X,kw l=some X∧a2L l X:=by
 have hf:=hL.few.2.2
 refine⟨l.2.2.foldl Qy [],?_,?_⟩
 ·unfold kw
  refine aJ l.2.2 Qy (fun b i=>(b,i)) (fun b=>b) (fun _ _=>True) [] (by omega) trivial (fun i s b hs hi _=>⟨?_,trivial⟩) (fun b _=>?_) (fun _=>rfl)
  ·have hS:=hL.sc s (dG hs)
   simp only[H9 hs,o5,F6,hs,o7]
   unfold Qy
   cases FD (fun(a b:List UInt8)=>seq a b) b s.1
   ·simp only[l9]
    refine aJ s.2.2.2.2.zipIdx a1F (fun b i=>(b,i)) (fun b=>b) (fun _ _=>True) [] (by have:=hS.nr;simp;omega) trivial (fun j x c hx hj _=>⟨?_,trivial⟩) (fun c _=>?_) (fun _=>?_)
    ·obtain⟨hr,hj2⟩:=a7r hx
     simp only[H9 hr,o5,F6,hr,o7]
     unfold a1F
     rw[hj2]
     cases FD (fun(a b:List UInt8)=>seq a b) c x.1.1 <;> simp only[o9,D6,o5,l9,X3 (show j≤9000000000000000000 by omega)]
    ·simp only[List.length_zipIdx,I4];rfl
    ·simp only[X3 (show i≤9000000000000000000 by omega)]
   ·simp only[o5,X3 (show i≤9000000000000000000 by omega)]
  ·simp only[I4];rfl
 ·have:=QA l l.2.2.length (Nat.le_refl _)
  rwa[List.take_length]at this
theorem Aj {l:J3} {X:List (List UInt8×aI)} (h:a2L l X) (sn rn:List UInt8):bn X sn rn=some (cpS l sn rn):=by
 obtain⟨f,h1,h2⟩:=h
 unfold bn cpS
 rw[h1.has,h1.get]
 have h3:=h2 sn
 cases hf:f sn with
 | none=>
  rw[hf]at h3
  simp only at h3
  rw[h3];rfl
 | some x=>
  rw[hf]at h3
  obtain⟨i,h4,h5⟩:=h3
  rw[h4]
  simp only[Option.isSome_some,o9,l9,Option.getD_some,h5.has,h5.get]
  cases EE x.1 rn <;> rfl
noncomputable def eqB {α:Type} (a b:α):Bool:=@decide (a=b) (Classical.propDecidable _)
theorem nI {α:Type} {a b:α} :eqB a b=true↔a=b:=by unfold eqB;exact @decide_eq_true_iff _ (Classical.propDecidable _)
theorem EX {α:Type} {a b:α} (h:a=b):eqB a b=true:=nI.2 h
theorem uV {α:Type} {a b:α} (h:a≠b):eqB a b=false:=by
 cases he:eqB a b
 ·rfl
 ·exact absurd (nI.1 he) h
theorem EW {α β:Type} {a b:α} {c d:β} (h:a=b↔c=d):eqB a b=eqB c d:=by
 rw[Bool.eq_iff_iff,nI,nI];exact h
theorem CG {α:Type} (a b:List α):eqB (a.map fun x=>x) (b.map fun x=>x)=eqB a b:=by simp
theorem a7s {α β:Type} :∀{a:List α} {b:List β} {i:Nat} {p:α×β},(a.zip b)[i]? =some p→a[i]? =some p.1∧b[i]? =some p.2
 | [],_,i,p,h=>by simp at h
 | _::_,[],i,p,h=>by simp at h
 | x::a,y::b,0,p,h=>by
  simp only[List.zip_cons_cons,List.getElem?_cons_zero,Option.some.injEq]at h
  subst h;exact⟨rfl,rfl⟩
 | x::a,y::b,i+1,p,h=>by
  simp only[List.zip_cons_cons,List.getElem?_cons_succ]at h ⊢
  exact a7s h
noncomputable def eqG {α β:Type} (g:α→β) (_:Unit) (p:α×α):Unit⊕Bool:=l7 (eqB (g p.1) (g p.2)) (.inl ()) (.inr false)
theorem ZF {α β:Type} (g:α→β):∀{a b:List α},a.length=b.length→U1 (eqG g) (a.zip b) ()=l7 (eqB (a.map g) (b.map g)) (.inl ()) (.inr false)
 | [],[],_=>by rw[EX rfl];rfl
 | [],_::_,h=>by cases h
 | _::_,[],h=>by cases h
 | x::a,y::b,h=>by
  have ih:=ZF g (a:=a) (b:=b) (by simpa using h)
  simp only[List.zip_cons_cons,List.map_cons]
  unfold U1
  by_cases e:g x=g y
  ·rw[show eqG g () (x,y)= .inl ()from by unfold eqG;rw[EX e];rfl]
   rw[EW (show(g x::a.map g=g y::b.map g)↔a.map g=b.map g by rw[e];simp)]
   exact ih
  ·rw[show eqG g () (x,y)= .inr false from by unfold eqG;rw[uV e];rfl]
   rw[uV (fun h=>e (List.cons.inj h).1)];rfl
theorem Ef {α β:Type} (g:α→β) (q:α→α→Bool) (hq:∀x y,q x y=true↔g x=g y) {a b:List α} (hl:a.length≤1000000) {f:Int→Option (Out Int PUnit Bool)}
  (hin:∀(i:Nat) x y,a[i]? =some x→b[i]? =some y→f (i:Int)=l7 (E5 (q x y)) (some (.rt false)) (some (.nx (A7 .i64 (i:Int) 1)))) (hend:f (a.length:Int)=some (.ex PUnit.unit)):
  (l7 (E5 (ieq (o8 a) (o8 b))) (some false) (o6 (U2 f 0) fun o=>X6 o (fun _=>some true) fun r=>some r))=some (eqB (a.map g) (b.map g)):=by
 by_cases hab:a.length=b.length
 ·rw[show ieq (o8 a) (o8 b)=true from E9 (by simp[o8,hab]),o9,l9]
  have hz:(a.zip b).length=a.length:=by simp[hab]
  refine fV (a.zip b) (eqG g) (fun _ i=>i) (fun _=>PUnit.unit) (fun _ _=>True) () (by omega) trivial (fun i p _ hp hi _=>⟨?_,fun _ _=>trivial⟩) (fun _ _=>?_) (fun _=>?_)
  ·obtain⟨h1,h2⟩:=a7s hp
   rw[hin i _ _ h1 h2]
   unfold eqG
   cases hqp:q p.1 p.2
   ·have:¬g p.1=g p.2:=fun e=>by rw[(hq _ _).2 e]at hqp;cases hqp
    rw[uV this];rfl
   ·have:=(hq _ _).1 hqp
    rw[EX this,o9,l9,X3 (show i≤9000000000000000000 by omega)];rfl
  ·rw[hz];exact hend
  ·rw[ZF g hab]
   cases eqB (a.map g) (b.map g) <;> rfl
 ·rw[show ieq (o8 a) (o8 b)=false from D8 (by simp only[o8];omega),D6,o5]
  rw[uV (fun e=>hab (by simpa using congrArg List.length e))]
theorem Ad {a b:Bool} :V8 a b=true↔a=true∧b=true:=by simp[V8]
theorem a3x {a:List (List UInt8)} (b:List (List UInt8)) (h:a.length≤1000000):dK a b=some (eqB a b):=by
 unfold dK
 rw[←CG]
 refine Ef (fun x=>x) (fun x y=>seq x y) (fun x y=>bg) h (fun i x y hx hy=>?_) ?_
 ·simp only[H9 hx,o5,F6,hx,hy,o7]
 ·simp only[I4];rfl
theorem a3w {a:List tH} (b:List tH) (h:a.length≤1000000):bY a b=some (eqB a b):=by
 unfold bY
 rw[←CG]
 refine Ef (fun x=>x) (fun(x y:tH)=>V8 (ieq x.1.1 y.1.1) (V8 (ieq x.1.2 y.1.2) (V8 (ieq x.2.1 y.2.1) (V8 (ieq x.2.2.1 y.2.2.1) (ieq x.2.2.2 y.2.2.2)))))
  (fun x y=>by simp only[Ad,I9,Prod.ext_iff,and_assoc]) h (fun i x y hx hy=>?_) ?_
 ·simp only[H9 hx,o5,F6,hx,hy,o7]
 ·simp only[I4];rfl
theorem MF {a:List Y9} (b:List Y9) (h:a.length≤1000000):Z5 a b=some (eqB a b):=by
 unfold Z5
 rw[←CG]
 refine Ef (fun x=>x) (fun(x y:Y9)=>V8 (seq x.1 y.1) (V8 (ieq x.2.1 y.2.1) (ieq x.2.2 y.2.2)))
  (fun x y=>by simp only[Ad,I9,bg,Prod.ext_iff]) h (fun i x y hx hy=>?_) ?_
 ·simp only[H9 hx,o5,F6,hx,hy,o7]
 ·simp only[I4];rfl
theorem Qk {a:List I7} (b:List I7) (h:a.length≤1000000):ax a b=some (eqB a b):=by
 unfold ax
 rw[←CG]
 refine Ef (fun x=>x) (fun(x y:I7)=>V8 (ieq x.1 y.1) (ieq x.2 y.2))
  (fun x y=>by simp only[Ad,I9,Prod.ext_iff]) h (fun i x y hx hy=>?_) ?_
 ·simp only[H9 hx,o5,F6,hx,hy,o7]
 ·simp only[I4];rfl
theorem Ws {x:bP} (y:bP) (h:x.2.length≤1000000):nV x y=some (eqB x y):=by
 unfold nV
 rw[a3x y.2 h,o7]
 by_cases e:x.1=y.1
 ·rw[bg.2 e,o5]
  congr 1
  exact EW ⟨fun h=>Prod.ext e h,fun h=>by rw[h]⟩
 ·rw[OH.2 e,l9,uV (fun h=>e (by rw[h]))]
theorem TG {x:ai} (y:ai) (h:x.2.2.2.length≤1000000):lM x y=some (eqB x y):=by
 unfold lM
 rw[a3w y.2.2.2 h,o7]
 by_cases e:x=y
 ·subst e
  rw[bg.2 rfl,E9 rfl,E9 rfl,E9 rfl,E9 rfl,EX rfl,EX rfl];rfl
 ·rw[uV e]
  by_cases e1:x.1=y.1
  case neg=>rw[OH.2 e1];rfl
  rw[bg.2 e1,o5]
  cases h2:V8 (ieq x.2.1.1 y.2.1.1) (ieq x.2.1.2 y.2.1.2)
  ·rfl
  cases h3:V8 (ieq x.2.2.1.1 y.2.2.1.1) (ieq x.2.2.1.2 y.2.2.1.2)
  ·rfl
  simp only[Ad,I9]at h2 h3
  rw[o5,o5,uV]
  intro h4
  exact e (Prod.ext e1 (Prod.ext (Prod.ext h2.1 h2.2) (Prod.ext (Prod.ext h3.1 h3.2) h4)))
def iw (s:x9):List UInt8×Int×List Y9×List Y9:=(s.1,s.2.1,s.2.2.1,s.2.2.2.1)
theorem TF {x:x9} (y:x9) (h1:x.2.2.1.length≤1000000) (h2:x.2.2.2.1.length≤1000000):lL x y=some (eqB (iw x) (iw y)):=by
 unfold lL
 rw[MF y.2.2.1 h1,o7,MF y.2.2.2.1 h2,o7]
 have key:iw x=iw y↔(x.1=y.1∧x.2.1=y.2.1∧x.2.2.1=y.2.2.1∧x.2.2.2.1=y.2.2.2.1):=by
  unfold iw
  simp only[Prod.mk.injEq]
 by_cases e1:x.1=y.1
 case neg=>rw[OH.2 e1,l9,uV (fun h=>e1 (key.1 h).1)]
 by_cases e2:x.2.1=y.2.1
 case neg=>rw[bg.2 e1,o5,D8 e2,l9,uV (fun h=>e2 (key.1 h).2.1)]
 by_cases e3:x.2.2.1=y.2.2.1
 case neg=>rw[bg.2 e1,o5,E9 e2,o5,uV e3,l9,uV (fun h=>e3 (key.1 h).2.2.1)]
 rw[bg.2 e1,o5,E9 e2,o5,EX e3,o5]
 congr 1
 exact EW ⟨fun h=>key.2 ⟨e1,e2,e3,h⟩,fun h=>(key.1 h).2.2.2⟩
noncomputable def siS (a b:J3):Bool:=eqB a.1 b.1&&(eqB a.2.1 b.2.1&&eqB (a.2.2.map iw) (b.2.2.map iw))
theorem IQ {a:J3} (b:J3) (hA:SmL a) (hT:∀t∈a.2.1,kK t) (hv:(P5 a).1=0):iK a b=some (siS a b):=by
 have hf:=hA.few
 unfold iK
 have h1:O8 a.1 b.1 ()=some (eqB a.1 b.1):=by
  unfold O8
  rw[←CG]
  refine Ef (fun x=>x) (fun(x y:bP)=>eqB x y) (fun x y=>nI) (by have:=hf.1;omega) (fun i x y hx hy=>?_) ?_
  ·have:=YY hv x (dG hx)
   simp only[H9 hx,o5,F6,hx,hy,o7,Ws y (show x.2.length≤1000000 by omega)]
  ·simp only[I4];rfl
 have h2:O6 a.2.1 b.2.1 ()=some (eqB a.2.1 b.2.1):=by
  unfold O6
  rw[←CG]
  refine Ef (fun x=>x) (fun(x y:ai)=>eqB x y) (fun x y=>nI) (by have:=hf.2.1;omega) (fun i x y hx hy=>?_) ?_
  ·have:=(hT x (dG hx)).1
   simp only[H9 hx,o5,F6,hx,hy,o7,TG y (show x.2.2.2.length≤1000000 by omega)]
  ·simp only[I4];rfl
 have h3:O5 a.2.2 b.2.2 ()=some (eqB (a.2.2.map iw) (b.2.2.map iw)):=by
  unfold O5
  refine Ef iw (fun(x y:x9)=>eqB (iw x) (iw y)) (fun x y=>nI) (by have:=hf.2.2;omega) (fun i x y hx hy=>?_) ?_
  ·have hS:=hA.sc x (dG hx)
   have hni:=hS.ni
   have hnd:=hS.nd
   simp only[H9 hx,o5,F6,hx,hy,o7,TF y (show x.2.2.1.length≤1000000 by omega) (show x.2.2.2.1.length≤1000000 by omega)]
  ·simp only[I4];rfl
 rw[h1,o7,h2,o7,h3,o7]
 unfold siS
 cases eqB a.1 b.1 <;> cases eqB a.2.1 b.2.1 <;> rfl
def RQ (s:x9) (d:Int):List UInt8:=match lat s.2.2.2.1 d with | some f=>f.1 | none=>[]
def Yb (s:x9) (d:Int):List UInt8:=match lat s.2.2.2.2 d with | some f=>f.1 | none=>[]
def prS (s:x9) (r:J6):P9:=(RQ s r.2.1,Yb s r.2.2.1,r.2.2.2.1,r.2.2.2.2.1,r.2.2.2.2.2.2.2)
theorem XG {α:Type} {l:List α} {d:Int} (h0:ile 0 d=true) (h1:ilt d (o8 l)=true):∃x,lat l d=some x:=by
 rw[iI]at h0;rw[bW]at h1
 simp only[o8]at h1
 refine⟨l[d.toNat]'(by omega),?_⟩
 unfold lat
 rw[if_pos h0,Y6]
theorem zM (s:x9) (r:J6):eX s r=some (prS s r):=by
 unfold eX
 have h1:(l7 (ile 0 r.2.1) (l7 (ilt r.2.1 (o8 s.2.2.2.1)) (o6 (lat s.2.2.2.1 r.2.1) fun(x:Y9)=>some ((x.1,[],r.2.2.2.1,r.2.2.2.2.1,r.2.2.2.2.2.2.2):P9))
   (some ([],[],r.2.2.2.1,r.2.2.2.2.1,r.2.2.2.2.2.2.2))) (some ([],[],r.2.2.2.1,r.2.2.2.2.1,r.2.2.2.2.2.2.2)))=some ((RQ s r.2.1,[],r.2.2.2.1,r.2.2.2.2.1,r.2.2.2.2.2.2.2):P9):=by
  unfold RQ
  cases h0:ile 0 r.2.1
  ·rw[jc (.inl h0)];rfl
  cases h1:ilt r.2.1 (o8 s.2.2.2.1)
  ·rw[jc (.inr h1)];rfl
  obtain⟨x,hx⟩:=XG h0 h1
  rw[hx];rfl
 rw[h1,o7]
 unfold prS Yb
 cases h0:ile 0 r.2.2.1
 ·rw[jc (.inl h0)];rfl
 cases h1:ilt r.2.2.1 (o8 s.2.2.2.2)
 ·rw[jc (.inr h1)];rfl
 obtain⟨x,hx⟩:=XG h0 h1
 rw[hx];rfl
abbrev trS (s:x9) (p:J6):P9×List I7×List I7:=(prS s p,p.2.2.2.2.2.1,p.2.2.2.2.2.2.1)
noncomputable def srS (s:x9) (p:J6) (t:x9) (q:J6):Bool:=eqB (trS s p) (trS t q)
theorem Wu {s t:x9} {i j:Int} {p q:J6} (hp:lat s.2.2.2.2 i=some p) (hq:lat t.2.2.2.2 j=some q) (h1:p.2.2.2.2.2.1.length≤1000000) (h2:p.2.2.2.2.2.2.1.length≤1000000):
  nX s i t j=some (srS s p t q):=by
 unfold nX
 rw[hp,o7,hq,o7,zM,o7,zM,o7,Qk q.2.2.2.2.2.1 h1,o7,Qk q.2.2.2.2.2.2.1 h2,o7]
 unfold srS trS
 generalize prS s p=x
 generalize prS t q=y
 have hb:V8 (seq x.1 y.1) (V8 (seq x.2.1 y.2.1) (V8 (ieq x.2.2.1 y.2.2.1) (V8 (ieq x.2.2.2.1.1 y.2.2.2.1.1) (V8 (ieq x.2.2.2.1.2 y.2.2.2.1.2) (seq x.2.2.2.2 y.2.2.2.2)))))=eqB x y:=by
  rw[Bool.eq_iff_iff]
  simp only[Ad,I9,bg,nI,Prod.ext_iff,and_assoc]
 rw[hb]
 have key:(x,p.2.2.2.2.2.1,p.2.2.2.2.2.2.1)=(y,q.2.2.2.2.2.1,q.2.2.2.2.2.2.1)↔(x=y∧p.2.2.2.2.2.1=q.2.2.2.2.2.1∧p.2.2.2.2.2.2.1=q.2.2.2.2.2.2.1):=by simp only[Prod.mk.injEq]
 by_cases e:x=y
 case neg=>rw[uV e,l9,uV (fun h=>e (key.1 h).1)]
 by_cases e2:p.2.2.2.2.2.1=q.2.2.2.2.2.1
 case neg=>rw[EX e,o5,uV e2,l9,uV (fun h=>e2 (key.1 h).2.1)]
 rw[EX e,o5,EX e2,o5]
 congr 1
 exact EW ⟨fun h=>key.2 ⟨e,e2,h⟩,fun h=>(key.1 h).2.2⟩
theorem Eg {α:Type} {p:α→Bool} :∀{l:List α} {k:Nat} {a:α} {i:Int},lD p l k=some (a,i)→∃j:Nat,l[j]? =some a∧i=((k+j:Nat):Int)∧p a=true∧∀j' b,j' <j→l[j']? =some b→p b=false
 | [],_,_,_,h=>by cases h
 | b::r,k,a,i,h=>by
  unfold lD at h
  cases hp:p b <;> rw[hp]at h
  ·simp only[l9]at h
   obtain⟨j,h1,h2,h3,h4⟩:=Eg h
   refine⟨j+1,by simpa using h1,by rw[h2];congr 1;omega,h3,fun j' c hj hc=>?_⟩
   cases j' with
   | zero=>simp at hc;subst hc;exact hp
   | succ j' =>exact h4 j' c (by omega) (by simpa using hc)
  ·simp only[o5,Option.some.injEq,Prod.mk.injEq]at h
   obtain⟨rfl,rfl⟩:=h
   exact⟨0,rfl,rfl,hp,fun j' c hj=>by omega⟩
theorem Yp {s:x9} {n:List UInt8} {r:J6} {i:Int} (h:EE s n=some (r,i)):lat s.2.2.2.2 i=some r∧r.1=n∧r∈s.2.2.2.2:=by
 obtain⟨j,h1,h2,h3,_⟩:=Eg h
 refine⟨by rw[h2,Nat.zero_add,F6];exact h1,(bg.1 h3).symm,dG h1⟩
theorem Wy {l:J3} {n:List UInt8} {s:x9} {i:Int} (h:tu l n=some (s,i)):s.1=n∧s∈l.2.2:=by
 obtain⟨j,h1,h2,h3,_⟩:=Eg h
 exact⟨(bg.1 h3).symm,dG h1⟩
def cpR (l:J3) (sn rn:List UInt8):Option (x9×J6):=match tu l sn with
 | none=>none
 | some x=>(EE x.1 rn).map fun y=>(x.1,y.1)
theorem Hq (l:J3) (sn rn:List UInt8):(cpR l sn rn=none∧(cpS l sn rn).2.2=false)∨∃t q j,cpR l sn rn=some (t,q)∧cpS l sn rn=(t,j,true)∧lat t.2.2.2.2 j=some q∧t∈l.2.2∧t.1=sn∧q∈t.2.2.2.2∧q.1=rn:=by
 unfold cpR cpS
 cases hs:tu l sn with
 | none=>exact .inl ⟨rfl,rfl⟩
 | some x=>
  obtain⟨t,i⟩:=x
  obtain⟨h1,h2⟩:=Wy hs
  simp only
  cases hr:EE t rn with
  | none=>exact .inl ⟨rfl,rfl⟩
  | some y=>
   obtain⟨q,j⟩:=y
   obtain⟨h3,h4,h5⟩:=Yp hr
   exact .inr ⟨t,q,j,rfl,rfl,h3,h2,h1,h5,h4⟩
noncomputable def zX (b:J3) (s:x9) (r:J6):List V5:=match cpR b s.1 r.1 with
 | none=>[(s.1,r.1,1)]
 | some x=>l7 (srS s r x.1 x.2) [] [(s.1,r.1,3)]
def DX (a:J3) (s:x9) (r:J6):List V5:=match cpR a s.1 r.1 with
 | none=>[(s.1,r.1,2)]
 | some _=>[]
noncomputable def yB (a b:J3):List V5:=(a.2.2.flatMap fun s=>s.2.2.2.2.flatMap (zX b s))++b.2.2.flatMap fun s=>s.2.2.2.2.flatMap (DX a s)
theorem rW {α β:Type} (g:α→List β):∀(l:List α) (b:List β),l.foldl (fun acc x=>acc++g x) b=b++l.flatMap g
 | [],b=>by simp
 | a::l,b=>by rw[List.foldl_cons,rW g l,List.flatMap_cons,List.append_assoc]
theorem Gn (b:J3) (s:x9) (r:J6):(zX b s r).length≤1:=by
 unfold zX
 split
 ·exact Nat.le_refl _
 ·cases srS s r _ _ <;> simp[l7]
theorem KX (b:J3) (s:x9) (r:J6):(DX b s r).length≤1:=by
 unfold DX
 split <;> simp
theorem mJ {α β:Type} (g:α→List β) (m:Nat):∀{l:List α},(∀a∈l,(g a).length≤m)→(l.flatMap g).length≤m*l.length
 | [],_=>by simp
 | a::l,h=>by
  have h1:=mJ g m (l:=l) fun x hx=>h x (by simp[hx])
  have h2:=h a (by simp)
  rw[List.flatMap_cons,List.length_append,List.length_cons,Nat.mul_add]
  omega
theorem DC {α:Type} {xs ys:List α} (h:xs.length+ys.length≤1073741824):dE xs ys=some (xs++ys):=by unfold dE;rw[if_pos h]
theorem zD {a b:J3} (hA:SmL a) (hB:SmL b):eU a b=some (yB a b):=by
 obtain⟨XA,hXA,iA⟩:=Jr hA
 obtain⟨XB,hXB,iB⟩:=Jr hB
 have fA:=hA.few.2.2
 have fB:=hB.few.2.2
 unfold eU yB
 rw[hXA,o7,hXB,o7]
 have e0:=rW (fun s:x9=>s.2.2.2.2.flatMap (zX b s)) a.2.2 []
 rw[List.nil_append]at e0
 have hlen:(a.2.2.flatMap fun s=>s.2.2.2.2.flatMap (zX b s)).length≤60*a.2.2.length:=mJ _ 60 fun s hs=>by
  have:=mJ (zX b s) 1 (l:=s.2.2.2.2) (fun r _=>Gn b s r)
  have h2:=(hA.sc s hs).nr
  omega
 refine aJ a.2.2 (fun(acc:List V5) s=>acc++s.2.2.2.2.flatMap (zX b s)) (fun b i=>(b,i)) (fun b=>b) (fun i acc=>acc.length≤60*i) [] (by omega) (by simp) (fun i s acc hs hi hI=>?_) (fun acc hI=>?_) (fun _=>?_)
 ·have hS:=hA.sc s (dG hs)
  have hlt:=(J7.1 hs).1
  have hn:=hS.nr
  have hl1:=mJ (zX b s) 1 (l:=s.2.2.2.2) (fun r _=>Gn b s r)
  refine⟨?_,by rw[List.length_append];omega⟩
  simp only[H9 hs,o5,F6,hs,o7]
  have e1:=rW (zX b s) s.2.2.2.2 acc
  refine aJ s.2.2.2.2 (fun(acc:List V5) r=>acc++zX b s r) (fun b i=>(b,i)) (fun b=>b) (fun j c=>c.length≤60*i+j) acc (by omega) (by omega) (fun j r c hr hj hJ=>?_) (fun c hJ=>?_) (fun _=>?_)
  ·have hjl:=(J7.1 hr).1
   obtain⟨_,g1,g2⟩:=hS.ro r (dG hr)
   have hrl:=Gn b s r
   refine⟨?_,by rw[List.length_append];omega⟩
   simp only[H9 hr,o5,F6,hr,o7,Aj iB]
   have e2:=X3 (show j≤9000000000000000000 by omega)
   rcases Hq b s.1 r.1 with⟨q1,q2⟩ | ⟨t,q,k,q1,q2,q3,q4,q5,q6,q7⟩
   ·rw[q2]
    unfold zX
    rw[q1]
    simp only[D6,o5]
    rw[DC (by simp;omega),o7,e2]
   ·rw[q2]
    have hsr:=Wu (s:=s) (t:=t) (i:=(j:Int)) (j:=k) (p:=r) (q:=q) (by rw[F6];exact hr) q3 (by omega) (by omega)
    simp only[o9,l9,hsr,o7]
    unfold zX
    rw[q1]
    simp only
    cases srS s r t q
    ·simp only[D6,o5,l9]
     rw[DC (by simp;omega),o7,e2]
    ·simp only[o9,o5,l9,List.append_nil,e2]
  ·simp only[I4];rfl
  ·rw[e1]
   simp only[X3 (show i≤9000000000000000000 by omega)]
 ·simp only[I4];rfl
 rw[e0]
 generalize (a.2.2.flatMap fun s=>s.2.2.2.2.flatMap (zX b s))=base at*
 have e3:=rW (fun s:x9=>s.2.2.2.2.flatMap (DX a s)) b.2.2 base
 refine aJ b.2.2 (fun(acc:List V5) s=>acc++s.2.2.2.2.flatMap (DX a s)) (fun b i=>(b,i)) (fun b=>b) (fun i acc=>acc.length≤60000+60*i) base (by omega) (by omega) (fun i s acc hs hi hI=>?_) (fun acc hI=>?_) (fun _=>by rw[e3])
 ·have hS:=hB.sc s (dG hs)
  have hlt:=(J7.1 hs).1
  have hn:=hS.nr
  have hl1:=mJ (DX a s) 1 (l:=s.2.2.2.2) (fun r _=>KX a s r)
  refine⟨?_,by rw[List.length_append];omega⟩
  simp only[H9 hs,o5,F6,hs,o7]
  have e1:=rW (DX a s) s.2.2.2.2 acc
  refine aJ s.2.2.2.2 (fun(acc:List V5) r=>acc++DX a s r) (fun b i=>(b,i)) (fun b=>b) (fun j c=>c.length≤60000+60*i+j) acc (by omega) (by omega) (fun j r c hr hj hJ=>?_) (fun c hJ=>?_) (fun _=>?_)
  ·have hjl:=(J7.1 hr).1
   have hrl:=KX a s r
   refine⟨?_,by rw[List.length_append];omega⟩
   simp only[H9 hr,o5,F6,hr,o7,Aj iA]
   have e2:=X3 (show j≤9000000000000000000 by omega)
   rcases Hq a s.1 r.1 with⟨q1,q2⟩ | ⟨t,q,k,q1,q2,q3,q4,q5,q6,q7⟩
   ·rw[q2]
    unfold DX
    rw[q1]
    simp only[D6,o5]
    rw[DC (by simp;omega),o7,e2]
   ·rw[q2]
    unfold DX
    rw[q1]
    simp only[o9,l9,List.append_nil,e2]
  ·simp only[I4];rfl
  ·rw[e1]
   simp only[X3 (show i≤9000000000000000000 by omega)]
 ·simp only[I4];rfl
theorem Uc {l:J3} (h:(P5 l).1=0) {i:Nat} {s:x9} (hs:l.2.2[i]? =some s):∀t∈l.2.2.take i,t.1≠s.1:=by
 have he:=GR h hs
 unfold vT at he
 cases g1:vg s.1 <;> rw[g1]at he
 ·exact absurd (show(2:Int)=0 from he) (by decide)
 simp only[o5]at he
 cases g2:DU l 3 i s.1 <;> rw[g2]at he
 case true=>exact absurd (show(7:Int)=0 from he) (by decide)
 unfold DU at g2
 simp only[Bool.or_eq_false_iff,List.any_eq_false]at g2
 intro t ht e
 exact g2.2 t ht (bg.2 e)
theorem Ub {l:J3} (h:(P5 l).1=0) {s:x9} (hs:s∈l.2.2) {k:Nat} {r:J6} (hr:s.2.2.2.2[k]? =some r):∀q∈s.2.2.2.2.take k,q.1≠r.1:=by
 obtain⟨i,hi,e⟩:=List.mem_iff_getElem.1 hs
 have he:=EI h (i:=i) (s:=s) (by rw[Y6 hi,e]) hr
 unfold yf at he
 cases g1:vg r.1 <;> rw[g1]at he
 ·exact absurd (show(2:Int)=0 from he) (by decide)
 simp only[o5]at he
 cases g2:(s.2.2.2.2.take k).any fun x=>seq x.1 r.1 <;> rw[g2]at he
 case true=>exact absurd (show(7:Int)=0 from he) (by decide)
 rw[List.any_eq_false]at g2
 intro q hq e
 exact g2 q hq (bg.2 e)
theorem MM {α:Type} {p:α→Bool} :∀{l:List α} {j:Nat} {a:α} (k:Nat),l[j]? =some a→p a=true→(∀b∈l.take j,p b=false)→lD p l k=some (a,((k+j:Nat):Int))
 | [],j,a,k,h,_,_=>by simp at h
 | b::r,0,a,k,h,hp,_=>by
  simp only[List.getElem?_cons_zero,Option.some.injEq]at h
  subst h
  unfold lD
  rw[hp];rfl
 | b::r,j+1,a,k,h,hp,hb=>by
  have h1:=hb b (by simp)
  have:=MM (p:=p) (l:=r) (j:=j) (a:=a) (k+1) (by simpa using h) hp fun c hc=>hb c (by simp[hc])
  unfold lD
  rw[h1,l9,this,show k+1+j=k+(j+1) by omega]
theorem BG {l:J3} (h:(P5 l).1=0) {s:x9} (hs:s∈l.2.2):∃i,tu l s.1=some (s,i):=by
 obtain⟨i,hi,e⟩:=List.mem_iff_getElem.1 hs
 have hi' :l.2.2[i]? =some s:=by rw[Y6 hi,e]
 exact⟨_,MM 0 hi' (bg.2 rfl) fun b hb=>OH.2 fun e=>Uc h hi' b hb e.symm⟩
theorem Yq {l:J3} (h:(P5 l).1=0) {s:x9} (hs:s∈l.2.2) {r:J6} (hr:r∈s.2.2.2.2):∃i,EE s r.1=some (r,i):=by
 obtain⟨i,hi,e⟩:=List.mem_iff_getElem.1 hr
 have hi' :s.2.2.2.2[i]? =some r:=by rw[Y6 hi,e]
 exact⟨_,MM 0 hi' (bg.2 rfl) fun b hb=>OH.2 fun e=>Ub h hs hi' b hb e.symm⟩
theorem Ky {l:J3} (h:(P5 l).1=0) {s:x9} (hs:s∈l.2.2) {r:J6} (hr:r∈s.2.2.2.2):cpR l s.1 r.1=some (s,r):=by
 obtain⟨i,h1⟩:=BG h hs
 obtain⟨j,h2⟩:=Yq h hs hr
 unfold cpR
 rw[h1]
 simp only
 rw[h2];rfl
theorem Kw {l:J3} {sn rn:List UInt8} {t:x9} {q:J6} (h:cpR l sn rn=some (t,q)):t∈l.2.2∧q∈t.2.2.2.2∧t.1=sn∧q.1=rn:=by
 rcases Hq l sn rn with⟨q1,_⟩ | ⟨t',q',j,q1,q2,q3,q4,q5,q6,q7⟩
 ·rw[h]at q1;cases q1
 ·rw[h]at q1;cases q1
  exact⟨q4,q6,q5,q7⟩
abbrev eqN:P8→P8→Bool:=fun a b=>V8 (seq a.1 b.1) (seq a.2 b.2)
abbrev wo:=List (P8×Bool)
theorem LM {s:x9} (hS:SmS s) (L:wo) {D:List Int} (hD:D.length≤1000000):∃L',iy L s D=some L' :=by
 have hn:=hS.nr
 refine⟨s.2.2.2.2.foldl (fun(acc:wo) r=>l7 (gG (fun(a b:Int)=>ieq a b) (D.foldl (fun(acc:List (Int×Bool)) d=>qc (fun(a b:Int)=>ieq a b) acc d true) []) r.2.1 false) (qc (fun(a b:P8)=>V8 (seq a.1 b.1) (seq a.2 b.2)) acc (s.1,r.1) true) acc) L,?_⟩
 unfold iy
 refine aJ D (fun(acc:List (Int×Bool)) d=>qc (fun(a b:Int)=>ieq a b) acc d true) (fun b i=>(b,i)) (fun b=>b) (fun _ _=>True) [] hD trivial (fun i d acc hd hi _=>⟨?_,trivial⟩) (fun acc _=>?_) (fun _=>?_)
 ·simp only[H9 hd,o5,F6,hd,o7,X3 (show i≤9000000000000000000 by omega)]
 ·simp only[I4];rfl
 refine aJ s.2.2.2.2 (fun(acc:wo) r=>l7 (gG (fun(a b:Int)=>ieq a b) (D.foldl (fun(acc:List (Int×Bool)) d=>qc (fun(a b:Int)=>ieq a b) acc d true) []) r.2.1 false) (qc (fun(a b:P8)=>V8 (seq a.1 b.1) (seq a.2 b.2)) acc (s.1,r.1) true) acc) (fun b i=>(b,i)) (fun b=>b) (fun _ _=>True) L (by omega) trivial (fun i r acc hr hi _=>⟨?_,trivial⟩) (fun acc _=>?_) (fun _=>rfl)
 ·simp only[H9 hr,o5,F6,hr,o7,X3 (show i≤9000000000000000000 by omega)]
  cases gG (fun(a b:Int)=>ieq a b) (D.foldl (fun(acc:List (Int×Bool)) d=>qc (fun(a b:Int)=>ieq a b) acc d true) []) r.2.1 false <;> rfl
 ·simp only[I4];rfl
theorem JI {l:J3} (hL:SmL l) (hv:(P5 l).1=0) {k:Int} {s:x9} (hs:lat l.2.2 k=some s) {d:Int} (h0:0≤d) (h1:d<nD s):∃L,Y7 l k d=some L:=by
 have hk:=Z7 hs
 have hS:=hL.sc s hk.2.2.1
 have ht:=oq hS d
 obtain⟨L1,hL1⟩:=LM hS [] (D:=N8 s d++[d]) (by rw[List.length_append];simp;omega)
 unfold Y7
 rw[hs,o7,jF hS h0 h1,o7,DC (by simp;omega),o7,hL1,o7]
 rcases nz hv hs with⟨g1,g2,g3⟩ | ⟨g1,g2,g3,g4,g5⟩
 ·rw[g2];exact⟨L1,rfl⟩
 ·rw[g2,g3]
  simp only[l9,o7,D7]
  have hM:=hL.sc _ g5
  have hml:=SC hS d
  rw[g4,o7,xE hS h0 h1,o7]
  obtain⟨L2,hL2⟩:=LM hM L1 (D:=(mbS s d).foldl (fun(acc:List Int) x=>acc++[x]++N8 (I8 l s) x) []) (by
   rw[show(fun(acc:List Int) x=>acc++[x]++N8 (I8 l s) x)=(fun(acc:List Int) x=>acc++([x]++N8 (I8 l s) x)) by funext acc x;rw[List.append_assoc]]
   rw[rW,List.nil_append]
   have:=mJ (fun x=>[x]++N8 (I8 l s) x) 15 (l:=mbS s d) (fun x _=>by have:=oq hM x;rw[List.length_append];simp;omega)
   omega)
  refine⟨L2,?_⟩
  refine aJ (mbS s d) (fun(acc:List Int) x=>acc++[x]++N8 (I8 l s) x) (fun b i=>(b,i)) (fun b=>b) (fun i acc=>acc.length≤15*i) [] (by omega) (by simp) (fun i x acc hx hi hI=>?_) (fun acc _=>?_) (fun _=>?_)
  ·have hlt:=(J7.1 hx).1
   have hin:=Em hv hk.2.2.2 d x (dG hx)
   have htm:=oq hM x
   have hg:L8 (mbS s d) (toN (i:Int))=some x:=by unfold L8 toN;simpa using hx
   refine⟨?_,by simp only[List.length_append,List.length_singleton];omega⟩
   simp only[H9 hx,o5,F6,hx,o7,hg]
   rw[DC (by simp;omega),o7,jF hM hin.1 hin.2,o7,DC (by simp;omega),o7,X3 (show i≤9000000000000000000 by omega)]
  ·simp only[I4];rfl
  ·rw[hL2];rfl
def edS (l:J3) (k:Int) (c:aQ) (d:Int):V3×Int×E4:=if(xw l k c true d).1=0 then(match lat l.2.2 k with | some s=>Hz l s c d | none=>((0,0,0),0,0,0,0,0))else((0,0,0),0,xw l k c true d)
theorem a7V {l:J3} {k:Int} {c:aQ} {d:Int} (h:(edS l k c d).2.2.1≠0):(edS l k c d).1=(0,0,0):=by
 unfold edS at h ⊢
 split
 ·rename_i hA
  rw[if_pos hA]at h
  cases hs:lat l.2.2 k with
  | none=>rfl
  | some s=>
   rw[hs]at h
   simp only at h ⊢
   unfold Hz at h ⊢
   revert h
   generalize Am l s c (zf s (jW s.2.2.2.1.length) d) (uh (I8 l s) (jW (I8 l s).2.2.2.1.length) (mbS s d))=z
   intro h
   cases z with
   | inl x=>exact absurd (show(0:Int)=0 from rfl) h
   | inr e=>rfl
 ·rfl
def evS (l:J3) (k:Int) (c:aQ) (d:Int):V3×Int:=l7 (E5 (ieq (edS l k c d).2.2.1 0)) ((0,0,0),(edS l k c d).2.2.1) ((edS l k c d).1,0)
theorem a3y (l:J3) (k:Int) (c:aQ) (d:Int):evS l k c d=((edS l k c d).1,(edS l k c d).2.2.1):=by
 unfold evS
 by_cases h:(edS l k c d).2.2.1=0
 ·rw[E9 h,h];rfl
 ·rw[D8 h,a7V h];rfl
theorem Fb {l:J3} {k:Int} {c:aQ} {d:Int} (hL:SmL l) (hC:SmC c) (hT:∀t∈l.2.1,kK t):lg l k c d=some (evS l k c d):=by
 unfold lg evS
 rw[Xu hL hC hT,o7]
 show l7 (E5 (ieq (edS l k c d).2.2.1 0)) (some ((0,0,0),(edS l k c d).2.2.1)) (some ((edS l k c d).1,0))=_
 cases E5 (ieq (edS l k c d).2.2.1 0) <;> rfl
abbrev zI:ww:=((0,0,0),(0,0,0),0,0,[])
def a7q (e:Int×Int×Int×Int):Bool:=V8 (ieq e.1 0) (V8 (ieq e.2.1 0) (V8 (ieq e.2.2.1 0) (ieq e.2.2.2 0)))
theorem UO {n:Nat} {p:Nat→Option (Int×Int×Int×Int)} (hp:∀i r,p i=some r→r.1≠0):(match P7 n p with | some r=>r | none=>((0,0,0,0):Int×Int×Int×Int)).1=0→(match P7 n p with | some r=>r | none=>((0,0,0,0):Int×Int×Int×Int))=(0,0,0,0):=by
 cases h:P7 n p with
 | none=>exact fun _=>rfl
 | some r=>
  obtain⟨i,_,hi⟩:=bV h
  exact fun e=>absurd e (hp i r hi)
theorem JS (l:J3):a7q (P5 l)=ieq (P5 l).1 0:=by
 have key:(P5 l).1=0→P5 l=(0,0,0,0):=by
  unfold P5
  cases h1:ieq (yH l).1 0
  ·simp only[l9];exact fun h=>absurd h (lG.1 h1)
  simp only[o5]
  cases h2:ieq (zt l).1 0
  ·simp only[l9];exact fun h=>absurd h (lG.1 h2)
  simp only[o5]
  unfold Gx
  cases ilt 4 (o8 l.2.2)
  ·simp only[l9]
   refine UO fun i r h=>?_
   unfold BH at h
   split at h
   ·exact Ql h
   ·cases h
  ·simp only[o5];exact fun h=>absurd h (by decide)
 by_cases h:(P5 l).1=0
 ·rw[key h];rfl
 ·unfold a7q
  rw[D8 h];rfl
def Ym (a:J3) (k d:Int):Bool:=l7 (ilt k 0) false (l7 (ile (o8 a.2.2) k) false (l7 (ilt d 0) false (match lat a.2.2 k with | some s=>E5 (ile (o8 s.2.2.2.1) d) | none=>false)))
noncomputable def okC (a b:J3) (k d:Int):Bool:=ieq (P5 a).1 0&&(ieq (P5 b).1 0&&(Ym a k d&&siS a b))
def rvS (LA LB:wo) (x:V5):Bool:=
 l7 (E5 (ieq x.2.2 2)) (l7 (gG eqN LA (x.1,x.2.1) false) true (l7 (E5 (ieq x.2.2 1)) (gG eqN LB (x.1,x.2.1) false) false)) (l7 (E5 (ieq x.2.2 1)) (gG eqN LB (x.1,x.2.1) false) false)
theorem Fe {α:Type} (p:α→Bool):∀(l b:List α),l.foldl (fun acc x=>l7 (p x) (acc++[x]) acc) b=b++l.filter p
 | [],b=>by simp
 | a::l,b=>by
  rw[List.foldl_cons,Fe p l,List.filter_cons]
  cases p a <;> simp[l7]
theorem Uu {a b:J3} (hA:SmL a) (hB:SmL b):(yB a b).length≤120000:=by
 unfold yB
 have h1:(a.2.2.flatMap fun s=>s.2.2.2.2.flatMap (zX b s)).length≤60*a.2.2.length:=mJ _ 60 fun s hs=>by
  have:=mJ (zX b s) 1 (l:=s.2.2.2.2) (fun r _=>Gn b s r)
  have h2:=(hA.sc s hs).nr
  omega
 have h2:(b.2.2.flatMap fun s=>s.2.2.2.2.flatMap (DX a s)).length≤60*b.2.2.length:=mJ _ 60 fun s hs=>by
  have:=mJ (DX a s) 1 (l:=s.2.2.2.2) (fun r _=>KX a s r)
  have h2:=(hB.sc s hs).nr
  omega
 have fA:=hA.few.2.2
 have fB:=hB.few.2.2
 rw[List.length_append]
 omega
theorem a5x {a:J3} {k d:Int} (h:Ym a k d=true):∃s,lat a.2.2 k=some s∧0≤d∧d<nD s:=by
 unfold Ym at h
 cases h1:ilt k 0 <;> rw[h1]at h
 case true=>cases h
 cases h2:ile (o8 a.2.2) k <;> rw[h2]at h
 case true=>cases h
 cases h3:ilt d 0 <;> rw[h3]at h
 case true=>cases h
 simp only[l9]at h
 cases hs:lat a.2.2 k with
 | none=>rw[hs]at h;cases h
 | some s=>
  rw[hs]at h
  simp only at h
  refine⟨s,rfl,aT.1 h3,?_⟩
  cases h4:ile (o8 s.2.2.2.1) d <;> rw[h4]at h
  ·exact uf.1 h4
  ·cases h
theorem a6m {a b:J3} (h:siS a b=true) {k:Int} {s:x9} (hs:lat a.2.2 k=some s):∃t,lat b.2.2 k=some t∧iw s=iw t:=by
 unfold siS at h
 simp only[Bool.and_eq_true,nI]at h
 have h3:=h.2.2
 obtain⟨h0,h1,_,h2⟩:=Z7 hs
 have e:=congrArg (fun l=>l[k.toNat]?) h3
 simp only[List.getElem?_map,h2,Option.map_some]at e
 cases ht:b.2.2[k.toNat]? with
 | none=>rw[ht]at e;cases e
 | some t=>
  rw[ht]at e
  simp only[Option.map_some,Option.some.injEq]at e
  refine⟨t,?_,e⟩
  unfold lat
  rw[if_pos h0,ht]
theorem Xh {a b:J3} (hA:SmL a) (hB:SmL b) {c:aQ} (hC:SmC c) (tA:∀t∈a.2.1,kK t) (tB:∀t∈b.2.1,kK t) (k d:Int):
  (okC a b k d=true∧∃LA LB,Y7 a k d=some LA∧Y7 b k d=some LB∧
   jY a b k c d=some (((evS a k c d).1,(evS b k c d).1,(evS a k c d).2,(evS b k c d).2,(yB a b).filter (rvS LA LB)),0))∨
  (okC a b k d=false∧∃e,e≠0∧jY a b k c d=some (zI,e)):=by
 unfold jY okC
 rw[BN hA,o7,BN hB,o7]
 have zA:=JS a
 have zB:=JS b
 unfold a7q at zA zB
 rw[zA,zB]
 cases vA:ieq (P5 a).1 0
 ·exact .inr ⟨rfl,1,by decide,rfl⟩
 cases vB:ieq (P5 b).1 0
 ·exact .inr ⟨rfl,1,by decide,rfl⟩
 simp only[o9,l9,o7,D7,Bool.true_and]
 have hvA:=I9.1 vA
 have hvB:=I9.1 vB
 cases hr:Ym a k d
 ·right
  refine⟨rfl,6,by decide,?_⟩
  unfold Ym at hr
  cases h1:ilt k 0
  case true=>rfl
  rw[h1]at hr
  cases h2:ile (o8 a.2.2) k
  case true=>rfl
  rw[h2]at hr
  cases h3:ilt d 0
  case true=>rfl
  rw[h3]at hr
  simp only[l9]at hr ⊢
  obtain⟨s,hs⟩:∃s,lat a.2.2 k=some s:=XG (iI.2 (aT.1 h1)) (bW.2 (uf.1 h2))
  rw[hs]at hr ⊢
  simp only[o7]at hr ⊢
  cases h4:ile (o8 s.2.2.2.1) d <;> rw[h4]at hr
  ·cases hr
  ·rfl
 obtain⟨s,hs,h0,h1⟩:=a5x hr
 obtain⟨k0,k1,_,_⟩:=Z7 hs
 rw[D9 k0,F9 k1,D9 h0,hs]
 simp only[l9,o7]
 rw[F9 (show d<o8 s.2.2.2.1 from h1)]
 simp only[l9,o7,D7,Bool.true_and]
 rw[IQ b hA tA hvA,o7]
 cases hsi:siS a b
 ·exact .inr ⟨rfl,8,by decide,rfl⟩
 left
 simp only[o9,l9]
 obtain⟨t,ht,e⟩:=a6m hsi hs
 have e4:s.2.2.2.1=t.2.2.2.1:=congrArg (·.2.2.2) e
 obtain⟨LA,hLA⟩:=JI hA hvA hs h0 h1
 obtain⟨LB,hLB⟩:=JI hB hvB ht h0 (by unfold nD at h1 ⊢;rw[←e4];exact h1)
 refine⟨by first | rfl | trivial,LA,LB,hLA,hLB,?_⟩
 rw[Fb hA hC tA,o7,Fb hB hC tB,o7,hLA,o7,hLB,o7,zD hA hB,o7]
 have hcl:=Uu hA hB
 have e0:=Fe (rvS LA LB) (yB a b) []
 rw[List.nil_append]at e0
 refine aJ (yB a b) (fun(acc:List V5) x=>l7 (rvS LA LB x) (acc++[x]) acc) (fun acc i=>(((evS a k c d).1,(evS b k c d).1,(evS a k c d).2,(evS b k c d).2,acc),i)) (fun acc=>((evS a k c d).1,(evS b k c d).1,(evS a k c d).2,(evS b k c d).2,acc)) (fun i acc=>acc.length≤i) [] (by omega) (by simp) (fun i x acc hx hi hI=>?_) (fun acc _=>?_) (fun _=>by rw[e0])
 ·have hg:L8 (yB a b) (toN (i:Int))=some x:=by unfold L8 toN;simpa using hx
  refine⟨?_,by cases rvS LA LB x <;> simp[l7] <;> omega⟩
  simp only[H9 hx,o5,F6,hx,o7,hg,DC (show acc.length+[x].length≤1073741824 by simp;omega),X3 (show i≤9000000000000000000 by omega)]
  unfold rvS
  cases ieq x.2.2 2 <;> cases ieq x.2.2 1 <;> cases gG eqN LA (x.1,x.2.1) false <;> cases gG eqN LB (x.1,x.2.1) false <;> rfl
 ·simp only[I4];rfl
theorem a1E:qo=some true:=by decide+kernel
def icS (i:ww):Bool:=l7 (ieq i.2.2.1 0) (l7 (ieq i.2.2.2.1 0) (E5 (V8 (ieq i.1.1 i.2.1.1) (V8 (ieq i.1.2.1 i.2.1.2.1) (ieq i.1.2.2 i.2.1.2.2)))) true) (ieq i.2.2.2.1 0)
theorem Fj (i:ww):dC i=some (icS i):=by
 unfold dC icS
 cases ieq i.2.2.1 0 <;> cases ieq i.2.2.2.1 0 <;> rfl
theorem YA (a b:J3) (c:aQ):wQ (a,b) c=some (smL a&&(smL b&&smC c)):=by
 unfold wQ
 rw[JP,o7,JP,o7,TP]
 cases smL a <;> cases smL b <;> cases smC c <;> rfl
theorem a8j {a b:J3} (hA:(P5 a).1=0) {x:V5} :(x∈a.2.2.flatMap fun s=>s.2.2.2.2.flatMap (zX b s))↔
  ∃s r,cpR a x.1 x.2.1=some (s,r)∧((cpR b x.1 x.2.1=none∧x.2.2=1)∨∃t q,cpR b x.1 x.2.1=some (t,q)∧srS s r t q=false∧x.2.2=3):=by
 simp only[List.mem_flatMap]
 constructor
 ·rintro⟨s,hs,r,hr,hx⟩
  have hown:=Ky hA hs hr
  unfold zX at hx
  cases hb:cpR b s.1 r.1 with
  | none=>
   rw[hb]at hx
   simp only[List.mem_singleton]at hx
   subst hx
   exact⟨s,r,hown,.inl ⟨hb,rfl⟩⟩
  | some y=>
   obtain⟨t,q⟩:=y
   rw[hb]at hx
   simp only at hx
   cases hq:srS s r t q <;> rw[hq]at hx
   ·simp only[l9,List.mem_singleton]at hx
    subst hx
    exact⟨s,r,hown,.inr ⟨t,q,hb,hq,rfl⟩⟩
   ·cases hx
 ·rintro⟨s,r,h1,h2⟩
  obtain⟨m1,m2,m3,m4⟩:=Kw h1
  refine⟨s,m1,r,m2,?_⟩
  unfold zX
  rw[m3,m4]
  rcases h2 with⟨h2,h3⟩ | ⟨t,q,h2,h3,h4⟩
  ·rw[h2]
   simp only[List.mem_singleton]
   exact Prod.ext rfl (Prod.ext rfl h3)
  ·rw[h2]
   simp only
   rw[h3,l9,List.mem_singleton]
   exact Prod.ext rfl (Prod.ext rfl h4)
theorem a8i {a b:J3} (hB:(P5 b).1=0) {x:V5} :(x∈b.2.2.flatMap fun s=>s.2.2.2.2.flatMap (DX a s))↔∃s r,cpR b x.1 x.2.1=some (s,r)∧cpR a x.1 x.2.1=none∧x.2.2=2:=by
 simp only[List.mem_flatMap]
 constructor
 ·rintro⟨s,hs,r,hr,hx⟩
  have hown:=Ky hB hs hr
  unfold DX at hx
  cases hb:cpR a s.1 r.1 with
  | none=>
   rw[hb]at hx
   simp only[List.mem_singleton]at hx
   subst hx
   exact⟨s,r,hown,hb,rfl⟩
  | some y=>rw[hb]at hx;cases hx
 ·rintro⟨s,r,h1,h2,h3⟩
  obtain⟨m1,m2,m3,m4⟩:=Kw h1
  refine⟨s,m1,r,m2,?_⟩
  unfold DX
  rw[m3,m4,h2]
  simp only[List.mem_singleton]
  exact Prod.ext rfl (Prod.ext rfl h3)
theorem SG {a b:J3} (hA:(P5 a).1=0) (hB:(P5 b).1=0) {x:V5} :x∈yB a b↔
  (∃s r,cpR a x.1 x.2.1=some (s,r)∧((cpR b x.1 x.2.1=none∧x.2.2=1)∨∃t q,cpR b x.1 x.2.1=some (t,q)∧srS s r t q=false∧x.2.2=3))∨
  (∃s r,cpR b x.1 x.2.1=some (s,r)∧cpR a x.1 x.2.1=none∧x.2.2=2):=by
 unfold yB
 rw[List.mem_append,a8j hA,a8i hB]
end Go.GP
namespace Go.GP
open Gt
set_option maxRecDepth 100000
def Zc (oc pr:Int→Int) (seen acc:List Int):Prop:=acc.Nodup∧∀x,x∈acc↔x∈seen∧oc x≠-1∧∀y∈seen,oc y≠-1→pr y≤pr x
theorem b3F {oc pr:Int→Int} {seen acc:List Int} {a:Int} (h:Zc oc pr seen acc) (ha:a∉seen):Zc oc pr (seen++[a]) (bG oc pr acc a):=by
 obtain⟨hn,hi⟩:=h
 unfold bG
 cases h1:ieq (oc a) (-1)
 case true=>
  have e:=I9.1 h1
  refine⟨hn,fun x=>?_⟩
  rw[o5,hi]
  constructor
  ·rintro⟨g1,g2,g3⟩
   refine⟨List.mem_append_left _ g1,g2,fun y hy hy2=>?_⟩
   rcases List.mem_append.1 hy with hy | hy
   ·exact g3 y hy hy2
   ·rw[List.mem_singleton.1 hy]at hy2;exact absurd e hy2
  ·rintro⟨g1,g2,g3⟩
   rcases List.mem_append.1 g1 with g1 | g1
   ·exact⟨g1,g2,fun y hy=>g3 y (List.mem_append_left _ hy)⟩
   ·rw[List.mem_singleton.1 g1]at g2;exact absurd e g2
 have na:oc a≠-1:=lG.1 h1
 rw[l9]
 have hmax:∀b,b∈acc→∀y∈seen,oc y≠-1→pr y≤pr b:=fun b hb=>((hi b).1 hb).2.2
 cases acc with
 | nil=>
  have hnone:∀y∈seen,oc y=-1:=by
   refine fun y hy=>Classical.byContradiction fun hne=>?_
   have:∀(L:List Int),(∀z∈L,z∈seen)→(∃z∈L,oc z≠-1)→∃z∈L,oc z≠-1∧∀w∈L,oc w≠-1→pr w≤pr z:=by
    intro L
    induction L with
    | nil=>rintro _ ⟨z,hz,_⟩;cases hz
    | cons c L ih=>
     intro hL _
     by_cases hc:∃z∈L,oc z≠-1
     ·obtain⟨z,hz,z1,z2⟩:=ih (fun w hw=>hL w (List.mem_cons_of_mem _ hw)) hc
      by_cases hcc:oc c≠-1∧pr z<pr c
      ·refine⟨c,by simp,hcc.1,fun w hw w1=>?_⟩
       rcases List.mem_cons.1 hw with rfl | hw
       ·exact Int.le_refl _
       ·have:=z2 w hw w1;omega
      ·refine⟨z,List.mem_cons_of_mem _ hz,z1,fun w hw w1=>?_⟩
       rcases List.mem_cons.1 hw with rfl | hw
       ·have:=not_and.1 hcc w1;omega
       ·exact z2 w hw w1
     ·rename_i hex
      obtain⟨z,hz,hz1⟩:=hex
      rcases List.mem_cons.1 hz with rfl | hz
      ·refine⟨z,by simp,hz1,fun w hw w1=>?_⟩
       rcases List.mem_cons.1 hw with rfl | hw
       ·exact Int.le_refl _
       ·exact absurd ⟨w,hw,w1⟩ hc
      ·exact absurd ⟨z,hz,hz1⟩ hc
   obtain⟨z,hz,z1,z2⟩:=this seen (fun _ h=>h) ⟨y,hy,hne⟩
   have:=(hi z).2 ⟨hz,z1,z2⟩
   cases this
  refine⟨by simp,fun x=>?_⟩
  simp only[List.mem_singleton]
  constructor
  ·rintro rfl
   refine⟨by simp,na,fun y hy hy2=>?_⟩
   rcases List.mem_append.1 hy with hy | hy
   ·exact absurd (hnone y hy) hy2
   ·rw[List.mem_singleton.1 hy];exact Int.le_refl _
  ·rintro⟨g1,g2,g3⟩
   rcases List.mem_append.1 g1 with g1 | g1
   ·exact absurd (hnone x g1) g2
   ·exact List.mem_singleton.1 g1
 | cons b r=>
  have hb:=(hi b).1 (by simp)
  simp only
  cases h2:ilt (pr b) (pr a)
  ·rw[l9]
   have g2:=aT.1 h2
   cases h3:ieq (pr a) (pr b)
   ·rw[l9]
    have g3:=lG.1 h3
    refine⟨hn,fun x=>?_⟩
    rw[hi]
    constructor
    ·rintro⟨k1,k2,k3⟩
     refine⟨List.mem_append_left _ k1,k2,fun y hy hy2=>?_⟩
     rcases List.mem_append.1 hy with hy | hy
     ·exact k3 y hy hy2
     ·rw[List.mem_singleton.1 hy]
      have:=k3 b hb.1 hb.2.1
      omega
    ·rintro⟨k1,k2,k3⟩
     rcases List.mem_append.1 k1 with k1 | k1
     ·exact⟨k1,k2,fun y hy=>k3 y (List.mem_append_left _ hy)⟩
     ·rw[List.mem_singleton.1 k1]at k3
      have:=k3 b (List.mem_append_left _ hb.1) hb.2.1
      omega
   ·rw[o5]
    have g3:=I9.1 h3
    have hna:a∉b::r:=fun h=>ha ((hi a).1 h).1
    refine⟨List.nodup_append.2 ⟨hn,by simp,fun x hx y hy hxy=>by simp at hy;subst hy;exact hna (hxy▸hx)⟩,fun x=>?_⟩
    constructor
    ·intro hx
     rcases List.mem_append.1 hx with hx | hx
     ·obtain⟨k1,k2,k3⟩:=(hi x).1 hx
      refine⟨List.mem_append_left _ k1,k2,fun y hy hy2=>?_⟩
      rcases List.mem_append.1 hy with hy | hy
      ·exact k3 y hy hy2
      ·rw[List.mem_singleton.1 hy,g3];exact k3 b hb.1 hb.2.1
     ·rw[List.mem_singleton.1 hx]
      refine⟨by simp,na,fun y hy hy2=>?_⟩
      rcases List.mem_append.1 hy with hy | hy
      ·rw[g3];exact hb.2.2 y hy hy2
      ·rw[List.mem_singleton.1 hy];exact Int.le_refl _
    ·rintro⟨k1,k2,k3⟩
     rcases List.mem_append.1 k1 with k1 | k1
     ·exact List.mem_append_left _ ((hi x).2 ⟨k1,k2,fun y hy=>k3 y (List.mem_append_left _ hy)⟩)
     ·exact List.mem_append_right _ k1
  ·rw[o5]
   have g2:=bW.1 h2
   refine⟨by simp,fun x=>?_⟩
   simp only[List.mem_singleton]
   constructor
   ·rintro rfl
    refine⟨by simp,na,fun y hy hy2=>?_⟩
    rcases List.mem_append.1 hy with hy | hy
    ·have:=hb.2.2 y hy hy2;omega
    ·rw[List.mem_singleton.1 hy];exact Int.le_refl _
   ·rintro⟨k1,k2,k3⟩
    rcases List.mem_append.1 k1 with k1 | k1
    ·have h4:=k3 a (by simp) na
     have h5:=hb.2.2 x k1 k2
     omega
    ·exact List.mem_singleton.1 k1
theorem Ur {oc pr:Int→Int} :∀(l seen acc:List Int),Zc oc pr seen acc→(seen++l).Nodup→Zc oc pr (seen++l) (l.foldl (bG oc pr) acc)
 | [],seen,acc,h,_=>by rw[List.append_nil];exact h
 | a::l,seen,acc,h,hn=>by
  have hn' :(seen++[a]++l).Nodup:=by rw[List.append_assoc];exact hn
  have ha:a∉seen:=fun hs=>by
   have:=(List.nodup_append.1 hn).2.2 a hs a (by simp)
   exact this rfl
  have:=Ur l (seen++[a]) (bG oc pr acc a) (b3F h ha) hn'
  rw[List.append_assoc]at this
  exact this
theorem Vw {oc pr:Int→Int} {l:List Int} (hn:l.Nodup):(oz oc pr l).Nodup∧∀x,x∈oz oc pr l↔x∈l∧oc x≠-1∧∀y∈l,oc y≠-1→pr y≤pr x:=
 Ur l [] [] ⟨by simp,fun x=>by simp⟩ (by simpa using hn)
structure TreeR (nA nB:Nat) (par prio:List Int) (ap:List Bool) (par' prio' :List Int) (ap' :List Bool) (R:Int→Int→Prop):Prop where
 v:uq par prio=0
 v' :uq par' prio' =0
 n:par.length=nA
 n' :par'.length=nB
 rng:∀x y,R x y→(0≤x∧x<(nA:Int))∧0≤y∧y<(nB:Int)
 dom:∀x,0≤x→x<(nA:Int)→∃y,R x y
 cod:∀y,0≤y→y<(nB:Int)→∃x,R x y
 fn:∀x y z,R x y→R x z→y=z
 inj:∀x y z,R x z→R y z→x=y
 pr:∀x y,R x y→prF prio x=prF prio' y
 ap:∀x y,R x y→apF ap x=apF ap' y
 pa:∀(x y:Nat) (p q:Int),R (x:Int) (y:Int)→par[x]? =some p→par'[y]? =some q→(p=-1∧q=-1)∨R p q
def RO (R:Int→Int→Prop) (a b:Int):Prop:=(a=-1∧b=-1)∨R a b
def RX (R:Int→Int→Prop) (a b:Int):Prop:=(a=-1∧b=-1)∨(a=-2∧b=-2)∨R a b
section
variable {n n' :Nat} {par prio par' prio' :List Int} {ap ap' :List Bool} {R:Int→Int→Prop}
theorem KA {par:List Int} {at' x:Int} :x∈castL (iM par at')↔∃i:Nat,x=(i:Int)∧par[i]? =some at' :=by
 unfold castL
 constructor
 ·intro h
  obtain⟨i,hi,rfl⟩:=List.mem_map.1 h
  exact⟨i,rfl,(KC hi).2⟩
 ·rintro⟨i,rfl,h⟩
  refine List.mem_map.2 ⟨i,?_,rfl⟩
  unfold iM onL
  refine List.mem_filter.2 ⟨List.mem_range.2 (J7.1 h).1,?_⟩
  unfold Sr
  rw[h];exact E9 rfl
theorem Nc (par:List Int) (at' :Int):(castL (iM par at')).Nodup:=by
 unfold castL iM onL
 refine List.Pairwise.map _ (fun a b h=>?_) ((List.nodup_range (n:=par.length)).filter _)
 omega
theorem TreeR.kid (T:TreeR n n' par prio ap par' prio' ap' R) {a b x y:Int} (hab:RO R a b) (hxy:R x y):x∈castL (iM par a)↔y∈castL (iM par' b):=by
 obtain⟨⟨x0,x1⟩,y0,y1⟩:=T.rng x y hxy
 obtain⟨i,rfl⟩:∃i:Nat,x=(i:Int):=⟨x.toNat,by omega⟩
 obtain⟨j,rfl⟩:∃j:Nat,y=(j:Int):=⟨y.toNat,by omega⟩
 have hi:par[i]? =some (par[i]'(by rw[T.n];omega)):=Y6 _
 have hj:par'[j]? =some (par'[j]'(by rw[T.n'];omega)):=Y6 _
 have hp:=T.pa i j _ _ hxy hi hj
 rw[KA,KA]
 constructor
 ·rintro⟨k,hk,h⟩
  have ek:k=i:=by omega
  subst ek
  rw[hi]at h
  have h:=Option.some.inj h
  refine⟨j,rfl,?_⟩
  rw[hj]
  congr 1
  rw[h]at hp
  rcases hp with⟨p1,p2⟩ | hp <;> rcases hab with⟨q1,q2⟩ | hab
  ·rw[p2,q2]
  ·have:=(T.rng _ _ hab).1.1;omega
  ·have:=(T.rng _ _ hp).1.1;omega
  ·exact T.fn _ _ _ hp hab
 ·rintro⟨k,hk,h⟩
  have ek:k=j:=by omega
  subst ek
  rw[hj]at h
  have h:=Option.some.inj h
  refine⟨i,rfl,?_⟩
  rw[hi]
  congr 1
  rw[h]at hp
  rcases hp with⟨p1,p2⟩ | hp <;> rcases hab with⟨q1,q2⟩ | hab
  ·rw[p1,q1]
  ·have:=(T.rng _ _ hab).2.1;omega
  ·have:=(T.rng _ _ hp).2.1;omega
  ·exact T.inj _ _ _ hp hab
theorem RX.neg (T:TreeR n n' par prio ap par' prio' ap' R) {a b:Int} (h:RX R a b):a=-1↔b=-1:=by
 rcases h with⟨h1,h2⟩ | ⟨h1,h2⟩ | h
 ·omega
 ·omega
 ·have:=T.rng _ _ h;omega
theorem TreeR.ch (T:TreeR n n' par prio ap par' prio' ap' R) {a b:Int} {oc oc' :Int→Int} (hab:RO R a b) (ho:∀x y,R x y→x∈castL (iM par a)→RX R (oc x) (oc' y)):
  RX R (chF oc (prF prio) (castL (iM par a))) (chF oc' (prF prio') (castL (iM par' b))):=by
 obtain⟨n1,m1⟩:=Vw (oc:=oc) (pr:=prF prio) (Nc par a)
 obtain⟨n2,m2⟩:=Vw (oc:=oc') (pr:=prF prio') (Nc par' b)
 have rg:∀x,x∈castL (iM par a)→∃y,R x y:=fun x hx=>by
  obtain⟨i,rfl,h⟩:=KA.1 hx
  have:=(J7.1 h).1
  rw[T.n]at this
  exact T.dom _ (by omega) (by omega)
 have rg' :∀y,y∈castL (iM par' b)→∃x,R x y:=fun y hy=>by
  obtain⟨i,rfl,h⟩:=KA.1 hy
  have:=(J7.1 h).1
  rw[T.n']at this
  exact T.cod _ (by omega) (by omega)
 have key:∀x y,R x y→(x∈oz oc (prF prio) (castL (iM par a))↔y∈oz oc' (prF prio') (castL (iM par' b))):=fun x y hxy=>by
  rw[m1,m2]
  have hk:=T.kid hab hxy
  constructor
  ·rintro⟨g1,g2,g3⟩
   have gy:=hk.1 g1
   refine⟨gy,fun h=>g2 (((ho x y hxy g1).neg T).2 h),fun z hz hz2=>?_⟩
   obtain⟨w,hw⟩:=rg' z hz
   have gw:=(T.kid hab hw).2 hz
   have:=g3 w gw (fun h=>hz2 (((ho w z hw gw).neg T).1 h))
   rw[←T.pr w z hw,←T.pr x y hxy];exact this
  ·rintro⟨g1,g2,g3⟩
   have gx:=hk.2 g1
   refine⟨gx,fun h=>g2 (((ho x y hxy gx).neg T).1 h),fun w hw hw2=>?_⟩
   obtain⟨z,hz⟩:=rg w hw
   have:=g3 z ((T.kid hab hz).1 hw) (fun h=>hw2 (((ho w z hz hw).neg T).2 h))
   rw[T.pr w z hz,T.pr x y hxy];exact this
 have sub1:∀x,x∈oz oc (prF prio) (castL (iM par a))→∃y,R x y∧y∈oz oc' (prF prio') (castL (iM par' b)):=fun x hx=>by
  obtain⟨y,hy⟩:=rg x ((m1 x).1 hx).1
  exact⟨y,hy,(key x y hy).1 hx⟩
 have sub2:∀y,y∈oz oc' (prF prio') (castL (iM par' b))→∃x,R x y∧x∈oz oc (prF prio) (castL (iM par a)):=fun y hy=>by
  obtain⟨x,hx⟩:=rg' y ((m2 y).1 hy).1
  exact⟨x,hx,(key x y hx).2 hy⟩
 have hin:∀x,x∈oz oc (prF prio) (castL (iM par a))→x∈castL (iM par a):=fun x hx=>((m1 x).1 hx).1
 unfold chF
 revert n1 n2 sub1 sub2 hin
 generalize oz oc (prF prio) (castL (iM par a))=B
 generalize oz oc' (prF prio') (castL (iM par' b))=B'
 intro n1 n2 sub1 sub2 hin
 match B,B' with
 | [],[]=>exact .inl ⟨rfl,rfl⟩
 | [],y::_=>
  obtain⟨x,_,hx⟩:=sub2 y (by simp)
  cases hx
 | x::_,[]=>
  obtain⟨y,_,hy⟩:=sub1 x (by simp)
  cases hy
 | [x],[y]=>
  obtain⟨z,hz,hz2⟩:=sub1 x (by simp)
  have:=List.mem_singleton.1 hz2
  subst this
  exact ho x z hz (hin x (by simp))
 | [x],y::z::r=>
  obtain⟨w,hw,hw2⟩:=sub2 y (by simp)
  obtain⟨u,hu,hu2⟩:=sub2 z (by simp)
  have e1:=List.mem_singleton.1 hw2
  have e2:=List.mem_singleton.1 hu2
  subst e1;subst e2
  have e3:=T.fn _ _ _ hw hu
  rw[e3]at n2
  simp at n2
 | x::z::r,[y]=>
  obtain⟨w,hw,hw2⟩:=sub1 x (by simp)
  obtain⟨u,hu,hu2⟩:=sub1 z (by simp)
  have e1:=List.mem_singleton.1 hw2
  have e2:=List.mem_singleton.1 hu2
  subst e1;subst e2
  have e3:=T.inj _ _ _ hw hu
  rw[e3]at n1
  simp at n1
 | x::z::r,y::w::r' =>exact .inr (.inl ⟨rfl,rfl⟩)
theorem TreeR.oc (T:TreeR n n' par prio ap par' prio' ap' R):∀(k:Nat) (x y:Int),(n:Int) -x≤k→R x y→RX R (OC par prio ap x) (OC par' prio' ap' y):=by
 intro k
 induction k with
 | zero=>intro x y hk h;have:=T.rng x y h;omega
 | succ k ih=>
  intro x y hk h
  obtain⟨⟨x0,x1⟩,y0,y1⟩:=T.rng x y h
  rw[a2M par prio ap T.v (by omega) (by rw[T.n];exact x1),a2M par' prio' ap' T.v' (by omega) (by rw[T.n'];exact y1)]
  have hc:RX R (chS par prio ap x) (chS par' prio' ap' y):=T.ch (.inr h) fun u w hu hm=>ih u w (by have:=Ig par prio T.v hm;omega) hu
  have hneg:=hc.neg T
  cases h1:ieq (chS par prio ap x) (-1)
  ·have:ieq (chS par' prio' ap' y) (-1)=false:=D8 fun e=>(lG.1 h1) (hneg.2 e)
   rw[this,l9,l9];exact hc
  ·have:ieq (chS par' prio' ap' y) (-1)=true:=E9 (hneg.1 (I9.1 h1))
   rw[this,o5,o5,T.ap x y h]
   cases apF ap' y
   ·exact .inl ⟨rfl,rfl⟩
   ·exact .inr (.inr h)
theorem TreeR.sel (T:TreeR n n' par prio ap par' prio' ap' R) (ha:ap.length=n) (ha' :ap'.length=n'):RX R (vY par prio ap) (vY par' prio' ap'):=by
 unfold vY
 rw[E9 T.v,E9 T.v',E9 (show o8 ap=o8 par by unfold o8;rw[ha,T.n]),E9 (show o8 ap' =o8 par' by unfold o8;rw[ha',T.n'])]
 rw[o5,o5,o5,o5]
 exact T.ch (.inl ⟨rfl,rfl⟩) fun x y h _=>T.oc ((n:Int) -x).toNat x y (by omega) h
end
end Go.GP
namespace Go.GP
open Gt
set_option maxRecDepth 100000
def VR (s:x9):Prop:=∃sg,∀(j:Nat) (r:J6),s.2.2.2.2[j]? =some r→RuleV s sg j r
theorem VR.uniq {s:x9} (h:VR s) {i j:Nat} {r q:J6} (hr:s.2.2.2.2[i]? =some r) (hq:s.2.2.2.2[j]? =some q) (e:r.1=q.1):i=j:=by
 obtain⟨sg,h⟩:=h
 have key:∀(a b:Nat) (x y:J6),s.2.2.2.2[a]? =some x→s.2.2.2.2[b]? =some y→x.1=y.1→¬a<b:=fun a b x y hx hy he hlt=>by
  have:=List.any_eq_false.1 (h b y hy).nm x (List.mem_take_iff_getElem.2 ⟨a,by have:=(J7.1 hx).1;have:=(J7.1 hy).1;omega,(J7.1 hx).2⟩)
  exact this (bg.2 he)
 have h1:=key i j r q hr hq e
 have h2:=key j i q r hq hr e.symm
 omega
theorem VR.par {s:x9} (h:VR s) {i:Nat} {r:J6} (hr:s.2.2.2.2[i]? =some r):uj s i=-1∨∃(p:Nat) (q:J6),uj s i=(p:Int)∧p<i∧s.2.2.2.2[p]? =some q∧q.2.1=r.2.1:=by
 obtain⟨sg,h⟩:=h
 have hb:=(h i r hr).pa
 have e:uj s i=r.2.2.1:=by unfold uj;rw[hr]
 unfold Lj at hb
 rw[←e]at hb
 generalize uj s i=z at*
 cases h1:ieq z (-1) <;> rw[h1]at hb
 ·rw[l9]at hb
  cases h2:ilt z 0 <;> rw[h2]at hb
  case true=>cases hb
  rw[l9]at hb
  cases h3:ile (i:Int) z <;> rw[h3]at hb
  case true=>cases hb
  rw[l9]at hb
  have g2:=aT.1 h2
  have g3:=uf.1 h3
  right
  obtain⟨p,rfl⟩:∃p:Nat,z=(p:Int):=⟨z.toNat,by omega⟩
  rw[F6]at hb
  cases hq:s.2.2.2.2[p]? with
  | none=>rw[hq]at hb;cases hb
  | some q=>
   rw[hq]at hb
   simp only at hb
   refine⟨p,q,rfl,by omega,hq,?_⟩
   cases g:ieq q.2.1 r.2.1 <;> rw[g]at hb
   ·cases hb
   ·exact I9.1 g
 ·exact .inl (I9.1 h1)
def PaR (s t:x9) (p p' :Int):Prop:=(p=-1∧p' =-1)∨∃(i j:Nat) (r q:J6),p=(i:Int)∧p' =(j:Int)∧s.2.2.2.2[i]? =some r∧t.2.2.2.2[j]? =some q∧r.1=q.1
structure EqR (s t:x9) (r q:J6):Prop where
 nm:r.1=q.1
 df:r.2.1=q.2.1
 rest:r.2.2.2=q.2.2.2
 pa:PaR s t r.2.2.1 q.2.2.1
structure SameR (s t:x9) (d:Int):Prop where
 fwd:∀(i:Nat) (r:J6),s.2.2.2.2[i]? =some r→r.2.1=d→∃(j:Nat) (q:J6),t.2.2.2.2[j]? =some q∧EqR s t r q
 bwd:∀(j:Nat) (q:J6),t.2.2.2.2[j]? =some q→q.2.1=d→∃(i:Nat) (r:J6),s.2.2.2.2[i]? =some r∧EqR s t r q
def Rn (s t:x9) (d:Int) (i j:Nat):Prop:=∃r q,s.2.2.2.2[i]? =some r∧t.2.2.2.2[j]? =some q∧r.1=q.1∧r.2.1=d∧q.2.1=d
section
variable {s t:x9} {d:Int} (hs:VR s) (ht:VR t) (hR:SameR s t d)
include hs ht hR
omit hs in
theorem Wi {i j:Nat} {r q:J6} (h:Rn s t d i j) (hr:s.2.2.2.2[i]? =some r) (hq:t.2.2.2.2[j]? =some q):EqR s t r q:=by
 obtain⟨r',q',h1,h2,h3,h4,h5⟩:=h
 rw[hr]at h1;cases h1
 rw[hq]at h2;cases h2
 obtain⟨j',q'',g1,g2⟩:=hR.fwd i _ hr h4
 have:j' =j:=ht.uniq g1 hq (g2.nm.symm.trans h3)
 subst this
 rw[hq]at g1;cases g1
 exact g2
omit hs in
theorem Wj {i j:Nat} (h:Rn s t d i j) (T:Int):onR s d T i=onR t d T j:=by
 obtain⟨r,q,h1,h2,h3,h4,h5⟩:=id h
 have e:=Wi ht hR h h1 h2
 unfold onR
 rw[h1,h2]
 simp only
 rw[E9 h4,E9 h5,e.rest]
def RP' (s t:x9) (d T:Int) (x y:Int):Prop:=∃i j,Rn s t d i j∧onR s d T i=true∧x=(gq (onR s d T) i:Int)∧y=(gq (onR t d T) j:Int)
theorem a7K (T:Int):∀i j,Rn s t d i j→RO (RP' s t d T) (anc (onR s d T) (uj s) i) (anc (onR t d T) (uj t) j):=by
 intro i
 induction i using Nat.strongRecOn with
 | ind i ih=>
  intro j h
  obtain⟨r,q,h1,h2,h3,h4,h5⟩:=id h
  have e:=Wi ht hR h h1 h2
  have ep:uj s i=r.2.2.1:=by unfold uj;rw[h1]
  have ep' :uj t j=q.2.2.1:=by unfold uj;rw[h2]
  have hpa:=e.pa
  rw[←ep,←ep']at hpa
  unfold anc
  rcases hpa with⟨p1,p2⟩ | ⟨i',j',r',q',p1,p2,p3,p4,p5⟩
  ·rw[if_neg (by omega),if_neg (by omega)];exact .inl ⟨rfl,rfl⟩
  ·rcases hs.par h1 with g | ⟨a,ra,a1,a2,a3,a4⟩
   ·omega
   rcases ht.par h2 with g | ⟨b,rb,b1,b2,b3,b4⟩
   ·omega
   have ea:a=i' :=by omega
   have eb:b=j' :=by omega
   subst ea;subst eb
   rw[p3]at a3;cases a3
   rw[p4]at b3;cases b3
   have hn:Rn s t d a b:=⟨r',q',p3,p4,p5,a4.trans h4,b4.trans h5⟩
   rw[if_pos (by omega),if_pos (by omega),a1,b1,Int.toNat_natCast,Int.toNat_natCast,KF,KF,←Wj ht hR hn T]
   cases ho:onR s d T a
   ·rw[if_neg (by simp),if_neg (by simp)];exact ih a a2 b hn
   ·rw[if_pos rfl,if_pos rfl]
    exact .inr ⟨a,b,hn,ho,rfl,rfl⟩
end
theorem Zw {s:x9} (h:VR s) (d:Int):∀n,n≤s.2.2.2.2.length→Eb (s.2.2.2.2.take n) d≤8
 | 0,_=>by simp[Eb]
 | n+1,hn=>by
  have ih:=Zw h d n (by omega)
  have hlt:n<s.2.2.2.2.length:=by omega
  have hr:s.2.2.2.2[n]? =some s.2.2.2.2[n]:=Y6 hlt
  obtain⟨sg,h⟩:=h
  have hc:=(h n _ hr).ct
  rw[List.take_succ_eq_append_getElem hlt]
  unfold Eb at ih hc ⊢
  rw[List.countP_append]
  rw[uf]at hc
  by_cases e:s.2.2.2.2[n].2.1=d
  ·rw[e]at hc
   have h1:List.countP (fun(o:J6)=>ieq o.2.1 d) [s.2.2.2.2[n]]≤1:=List.countP_le_length
   omega
  ·have h1:List.countP (fun(o:J6)=>ieq o.2.1 d) [s.2.2.2.2[n]]=0:=by
    rw[List.countP_eq_zero]
    intro x hx
    rw[List.mem_singleton.1 hx,D8 e];simp
   omega
theorem a4w (s:x9) (d T:Int):∀n,n≤s.2.2.2.2.length→(onL (onR s d T) n).length≤Eb (s.2.2.2.2.take n) d
 | 0,_=>by simp[onL,Eb]
 | n+1,hn=>by
  have ih:=a4w s d T n (by omega)
  have hlt:n<s.2.2.2.2.length:=by omega
  have hr:s.2.2.2.2[n]? =some s.2.2.2.2[n]:=Y6 hlt
  rw[Be,List.length_append,List.take_succ_eq_append_getElem hlt]
  unfold Eb at ih ⊢
  rw[List.countP_append]
  cases ho:onR s d T n
  ·simp only[cond_false,List.length_nil];omega
  ·have hd:ieq s.2.2.2.2[n].2.1 d=true:=by
    unfold onR at ho
    rw[hr]at ho
    simp only at ho
    cases g:ieq s.2.2.2.2[n].2.1 d
    ·rw[g]at ho;cases ho
    ·rfl
   have h1:List.countP (fun(o:J6)=>ieq o.2.1 d) [s.2.2.2.2[n]]=1:=by simp[hd]
   rw[h1]
   show _+1≤_+1
   omega
theorem b3m (on:Nat→Bool) (par:Nat→Int):∀i,-1≤anc on par i∧anc on par i<(gq on i:Int)∨anc on par i=-1:=by
 intro i
 induction i using Nat.strongRecOn with
 | ind i ih=>
  unfold anc
  by_cases h:0≤par i∧par i<(i:Int)
  ·rw[if_pos h,KF]
   have hlt:(par i).toNat<i:=by omega
   cases ho:on (par i).toNat
   ·rw[if_neg (by simp)]
    rcases ih _ hlt with g | g
    ·have:=UA on (Nat.le_of_lt hlt)
     exact .inl ⟨g.1,by omega⟩
    ·exact .inr g
   ·rw[if_pos rfl]
    have:=b3H hlt ho
    exact .inl ⟨by omega,by omega⟩
  ·rw[if_neg h];exact .inr rfl
theorem OU {s:x9} (h:VR s) (d T:Int):uq (V4 s d T).2.1 (V4 s d T).2.2=0:=by
 have hlen:(N9 s d T).length≤8:=by
  have h1:=a4w s d T s.2.2.2.2.length (Nat.le_refl _)
  have h2:=Zw h d s.2.2.2.2.length (Nat.le_refl _)
  unfold N9;omega
 show uq ((N9 s d T).map (anc (onR s d T) (uj s))) ((N9 s d T).map (xZ s))=0
 unfold uq
 have l1:o8 ((N9 s d T).map (anc (onR s d T) (uj s)))=((N9 s d T).length:Int):=by unfold o8;rw[List.length_map]
 have l2:o8 ((N9 s d T).map (xZ s))=((N9 s d T).length:Int):=by unfold o8;rw[List.length_map]
 rw[l1,l2,E9 rfl,o9,l9,D9 (by omega),l9]
 have:P7 ((N9 s d T).map (anc (onR s d T) (uj s))).length (GK ((N9 s d T).map (anc (onR s d T) (uj s))) ((N9 s d T).map (xZ s)))=none:=by
  unfold P7
  rw[List.findSome?_eq_none_iff]
  intro k hk
  have hk:k<(N9 s d T).length:=by have:=List.mem_range.1 hk;rwa[List.length_map]at this
  have e:=Y6 hk
  unfold GK
  rw[List.getElem?_map,List.getElem?_map,e]
  simp only[Option.map_some]
  obtain⟨i1,i2⟩:=gW (List.getElem_mem hk)
  generalize hi:(N9 s d T)[k]=i at*
  have hcnt:gq (onR s d T) i=k:=QN (SN _ _) (SL _ i1 i2) e
  have hr:s.2.2.2.2[i]? =some s.2.2.2.2[i]:=Y6 i1
  obtain⟨sg,h⟩:=h
  have hv:=h i _ hr
  have hpr:xZ s i=s.2.2.2.2[i].2.2.2.1:=by unfold xZ;rw[hr]
  have p0:=hv.p0
  have p9:=hv.p9
  rw[←hpr]at p0 p9
  have ha:=b3m (onR s d T) (uj s) i
  rw[hcnt]at ha
  rw[D9 (show -1≤anc (onR s d T) (uj s) i by omega),F9 (show anc (onR s d T) (uj s) i<(k:Int) by omega),p0,p9]
  rfl
 rw[this]
end Go.GP
namespace Go.GP
open Gt
set_option maxRecDepth 100000
def gOk (s:x9) (env:U9) (i:Nat):Bool:=match s.2.2.2.2[i]? with | some r=>l7 (ieq (o8 r.2.2.2.2.2.1) 0) true (ieq (qj r.2.2.2.2.2.1 env).2 0) | none=>true
def gAp (s:x9) (env:U9) (i:Nat):Bool:=match s.2.2.2.2[i]? with | some r=>l7 (ieq (o8 r.2.2.2.2.2.1) 0) true (ieq (qj r.2.2.2.2.2.1 env).1.2.2 1) | none=>true
theorem Ff (s:x9) (env:U9) (m d:Int):∀(L:List Nat) (ap:List Bool),(∀i∈L,i<s.2.2.2.2.length)→
  ((∀i∈L,gOk s env i=true)∧U1 (AB s env m d) (castL L) ap= .inl (ap++L.map (gAp s env)))∨((∃i∈L,gOk s env i=false)∧∃e:Int×E4,U1 (AB s env m d) (castL L) ap= .inr e∧e.2.1≠0)
 | [],ap,_=> .inl ⟨fun i hi=>by(cases hi),by simp[castL,U1]⟩
 | i::L,ap,h=>by
  have hr:s.2.2.2.2[i]? =some (s.2.2.2.2[i]'(h i (by simp))):=Y6 _
  have hc:castL (i::L)=(i:Int)::castL L:=rfl
  rw[hc]
  unfold U1
  have hg:AB s env m d ap (i:Int)=l7 (gOk s env i) (.inl (ap++[gAp s env i])) (.inr (0,(qj (s.2.2.2.2[i]'(h i (by simp))).2.2.2.2.2.1 env).2,m,d,(i:Int))):=by
   unfold AB gOk gAp
   rw[F6,hr]
   simp only
   cases ieq (o8 (s.2.2.2.2[i]'(h i (by simp))).2.2.2.2.2.1) 0
   ·cases ieq (qj (s.2.2.2.2[i]'(h i (by simp))).2.2.2.2.2.1 env).2 0 <;> rfl
   ·rfl
  rw[hg]
  cases ho:gOk s env i
  ·refine .inr ⟨⟨i,by simp,ho⟩,_,rfl,?_⟩
   unfold gOk at ho
   rw[hr]at ho
   simp only at ho
   cases h1:ieq (o8 (s.2.2.2.2[i]'(h i (by simp))).2.2.2.2.2.1) 0 <;> rw[h1]at ho
   ·exact lG.1 ho
   ·cases ho
  ·simp only[o5]
   rcases Ff s env m d L (ap++[gAp s env i]) (fun j hj=>h j (by simp[hj]))with⟨g1,g2⟩ | ⟨⟨j,g1,g2⟩,g3⟩
   ·refine .inl ⟨fun j hj=>?_,by rw[g2];simp⟩
    rcases List.mem_cons.1 hj with rfl | hj
    ·exact ho
    ·exact g1 j hj
   ·exact .inr ⟨⟨j,by simp[g1],g2⟩,g3⟩
section
variable {s t:x9} {d:Int} (hs:VR s) (ht:VR t) (hR:SameR s t d)
include ht hR
theorem b4o {i j:Nat} (h:Rn s t d i j) (env:U9):gOk s env i=gOk t env j∧gAp s env i=gAp t env j:=by
 obtain⟨r,q,h1,h2,_⟩:=id h
 have e:=Wi ht hR h h1 h2
 unfold gOk gAp
 rw[h1,h2]
 simp only
 rw[e.rest]
 exact⟨rfl,rfl⟩
theorem a5v {i:Nat} {T:Int} (hi:i∈N9 s d T):∃j,Rn s t d i j∧j∈N9 t d T:=by
 obtain⟨i1,i2⟩:=gW hi
 have hr:s.2.2.2.2[i]? =some s.2.2.2.2[i]:=Y6 i1
 have hd:s.2.2.2.2[i].2.1=d:=by
  have ho:=i2
  unfold onR at ho
  rw[hr]at ho
  simp only at ho
  cases g:ieq s.2.2.2.2[i].2.1 d
  ·rw[g]at ho;cases ho
  ·exact I9.1 g
 obtain⟨j,q,g1,g2⟩:=hR.fwd i _ hr hd
 have hn:Rn s t d i j:=⟨_,q,hr,g1,g2.nm,hd,g2.df.symm.trans hd⟩
 refine⟨j,hn,?_⟩
 unfold N9 onL
 refine List.mem_filter.2 ⟨List.mem_range.2 (J7.1 g1).1,?_⟩
 rw[←Wj ht hR hn T];exact i2
include hs
theorem a5u {j:Nat} {T:Int} (hj:j∈N9 t d T):∃i,Rn s t d i j∧i∈N9 s d T:=by
 obtain⟨i1,i2⟩:=gW hj
 have hr:t.2.2.2.2[j]? =some t.2.2.2.2[j]:=Y6 i1
 have hd:t.2.2.2.2[j].2.1=d:=by
  have ho:=i2
  unfold onR at ho
  rw[hr]at ho
  simp only at ho
  cases g:ieq t.2.2.2.2[j].2.1 d
  ·rw[g]at ho;cases ho
  ·exact I9.1 g
 obtain⟨i,q,g1,g2⟩:=hR.bwd j _ hr hd
 have hn:Rn s t d i j:=⟨q,_,g1,hr,g2.nm,g2.df.trans hd,hd⟩
 refine⟨i,hn,?_⟩
 unfold N9 onL
 refine List.mem_filter.2 ⟨List.mem_range.2 (J7.1 g1).1,?_⟩
 rw[Wj ht hR hn T];exact i2
theorem vM {s:x9} {d T:Int} {i:Nat} (h:i∈N9 s d T):(N9 s d T)[gq (onR s d T) i]? =some i:=by
 obtain⟨i1,i2⟩:=gW h
 exact SL _ i1 i2
theorem a7k (T:Int) (env:U9):TreeR (N9 s d T).length (N9 t d T).length (V4 s d T).2.1 (V4 s d T).2.2 ((N9 s d T).map (gAp s env)) (V4 t d T).2.1 (V4 t d T).2.2 ((N9 t d T).map (gAp t env)) (RP' s t d T):=by
 have mem:∀{i j:Nat},Rn s t d i j→onR s d T i=true→i∈N9 s d T∧j∈N9 t d T:=fun {i j} h ho=>by
  obtain⟨r,q,h1,h2,_⟩:=id h
  unfold N9 onL
  exact⟨List.mem_filter.2 ⟨List.mem_range.2 (J7.1 h1).1,ho⟩,List.mem_filter.2 ⟨List.mem_range.2 (J7.1 h2).1,by rw[←Wj ht hR h T];exact ho⟩⟩
 have at1:∀{s:x9} {i:Nat},i∈N9 s d T→gq (onR s d T) i<(N9 s d T).length:=fun {s i} h=>by
  have:=vM hs ht hR h
  exact(J7.1 this).1
 have eqi:∀{s:x9} {i j:Nat},i∈N9 s d T→j∈N9 s d T→gq (onR s d T) i=gq (onR s d T) j→i=j:=fun {s i j} hi hj e=>by
  have h1:=vM hs ht hR hi
  have h2:=vM hs ht hR hj
  rw[e,h2]at h1
  exact(Option.some.inj h1).symm
 have posn:∀{s:x9} (x:Nat),x<(N9 s d T).length→∃i,i∈N9 s d T∧gq (onR s d T) i=x:=fun {s} x hx=>by
  have e:=Y6 hx
  obtain⟨i1,i2⟩:=gW (List.getElem_mem hx)
  exact⟨_,List.getElem_mem hx,QN (SN _ _) (SL _ i1 i2) e⟩
 have uniqL:∀{i j j' :Nat},Rn s t d i j→Rn s t d i j' →j=j' :=fun {i j j'} h h' =>by
  obtain⟨r,q,h1,h2,h3,_⟩:=h
  obtain⟨r',q',g1,g2,g3,_⟩:=h'
  rw[h1]at g1;cases g1
  exact ht.uniq h2 g2 (h3.symm.trans g3)
 have uniqR:∀{i i' j:Nat},Rn s t d i j→Rn s t d i' j→i=i' :=fun {i i' j} h h' =>by
  obtain⟨r,q,h1,h2,h3,_⟩:=h
  obtain⟨r',q',g1,g2,g3,_⟩:=h'
  rw[h2]at g2;cases g2
  exact hs.uniq h1 g1 (h3.trans g3.symm)
 refine⟨OU hs d T,OU ht d T,?_,?_,?_,?_,?_,?_,?_,?_,?_,?_⟩
 ·show((N9 s d T).map _).length=_;rw[List.length_map]
 ·show((N9 t d T).map _).length=_;rw[List.length_map]
 ·rintro x y ⟨i,j,h,ho,rfl,rfl⟩
  obtain⟨m1,m2⟩:=mem h ho
  have:=at1 m1
  have:=at1 m2
  omega
 ·intro x h0 h1
  obtain⟨a,rfl⟩:∃a:Nat,x=(a:Int):=⟨x.toNat,by omega⟩
  obtain⟨i,hi,rfl⟩:=posn (s:=s) a (by omega)
  obtain⟨j,hj,_⟩:=a5v ht hR hi
  exact⟨_,i,j,hj,(gW hi).2,rfl,rfl⟩
 ·intro y h0 h1
  obtain⟨a,rfl⟩:∃a:Nat,y=(a:Int):=⟨y.toNat,by omega⟩
  obtain⟨j,hj,rfl⟩:=posn (s:=t) a (by omega)
  obtain⟨i,hi,him⟩:=a5u hs ht hR hj
  exact⟨_,i,j,hi,(gW him).2,rfl,rfl⟩
 ·rintro x y z ⟨i,j,h,ho,rfl,rfl⟩ ⟨i',j',h',ho',e,rfl⟩
  have ei:=eqi (mem h ho).1 (mem h' ho').1 (by omega)
  subst ei
  rw[uniqL h h']
 ·rintro x y z ⟨i,j,h,ho,rfl,rfl⟩ ⟨i',j',h',ho',rfl,e⟩
  have ej:=eqi (mem h ho).2 (mem h' ho').2 (by omega)
  subst ej
  rw[uniqR h h']
 ·rintro x y ⟨i,j,h,ho,rfl,rfl⟩
  obtain⟨m1,m2⟩:=mem h ho
  have p1:=vM hs ht hR m1
  have p2:=vM hs ht hR m2
  show((N9 s d T).map (xZ s)).getD ((gq (onR s d T) i:Nat):Int).toNat 0=((N9 t d T).map (xZ t)).getD ((gq (onR t d T) j:Nat):Int).toNat 0
  rw[Int.toNat_natCast,Int.toNat_natCast,jZ,jZ,List.getElem?_map,List.getElem?_map,p1,p2]
  obtain⟨r,q,h1,h2,_⟩:=id h
  have e:=Wi ht hR h h1 h2
  show xZ s i=xZ t j
  unfold xZ
  rw[h1,h2]
  simp only
  rw[e.rest]
 ·rintro x y ⟨i,j,h,ho,rfl,rfl⟩
  obtain⟨m1,m2⟩:=mem h ho
  have p1:=vM hs ht hR m1
  have p2:=vM hs ht hR m2
  unfold apF
  rw[Int.toNat_natCast,Int.toNat_natCast,jZ,jZ,List.getElem?_map,List.getElem?_map,p1,p2]
  show gAp s env i=gAp t env j
  exact(b4o ht hR h env).2
 ·rintro x y p q ⟨i,j,h,ho,ex,ey⟩ hp hq
  have ex:x=gq (onR s d T) i:=by omega
  have ey:y=gq (onR t d T) j:=by omega
  subst ex;subst ey
  obtain⟨m1,m2⟩:=mem h ho
  have p1:=vM hs ht hR m1
  have p2:=vM hs ht hR m2
  have hp:((N9 s d T).map (anc (onR s d T) (uj s)))[gq (onR s d T) i]? =some p:=hp
  have hq:((N9 t d T).map (anc (onR t d T) (uj t)))[gq (onR t d T) j]? =some q:=hq
  rw[List.getElem?_map,p1]at hp
  rw[List.getElem?_map,p2]at hq
  have hp:=Option.some.inj hp
  have hq:=Option.some.inj hq
  rw[←hp,←hq]
  exact a7K hs ht hR T i j h
theorem Uy (env:U9) (m:Int):((U3 s env m d).2.1≠0∧(U3 t env m d).2.1≠0)∨
  ((U3 s env m d).2.1=0∧(U3 t env m d).2.1=0∧(((U3 s env m d).1=-1∧(U3 t env m d).1=-1)∨((U3 s env m d).1=-2∧(U3 t env m d).1=-2)∨∃i j,Rn s t d i j∧(U3 s env m d).1=(i:Int)∧(U3 t env m d).1=(j:Int))):=by
 have T:=a7k hs ht hR env.1 env
 have hsel:=T.sel (by rw[List.length_map]) (by rw[List.length_map])
 have e1:(V4 s d env.1).1=castL (N9 s d env.1):=rfl
 have e2:(V4 t d env.1).1=castL (N9 t d env.1):=rfl
 unfold U3
 rw[e1,e2]
 rcases Ff s env m d (N9 s d env.1) [] (fun i hi=>(gW hi).1)with⟨g1,g2⟩ | ⟨⟨i,g1,g2⟩,e,g3,g4⟩
 ·rcases Ff t env m d (N9 t d env.1) [] (fun i hi=>(gW hi).1)with⟨k1,k2⟩ | ⟨⟨j,k1,k2⟩,_⟩
  ·rw[g2,k2]
   simp only[List.nil_append]
   right
   rcases hsel with⟨q1,q2⟩ | ⟨q1,q2⟩ | ⟨i,j,q1,q2,q3,q4⟩
   ·rw[q1,q2];exact⟨rfl,rfl,.inl ⟨rfl,rfl⟩⟩
   ·rw[q1,q2];exact⟨rfl,rfl,.inr (.inl ⟨rfl,rfl⟩)⟩
   ·obtain⟨r,q,h1,h2,_⟩:=id q1
    have m1:i∈N9 s d env.1:=by unfold N9 onL;exact List.mem_filter.2 ⟨List.mem_range.2 (J7.1 h1).1,q2⟩
    have m2:j∈N9 t d env.1:=by unfold N9 onL;exact List.mem_filter.2 ⟨List.mem_range.2 (J7.1 h2).1,by rw[←Wj ht hR q1 env.1];exact q2⟩
    rw[q3,q4,D9 (show(0:Int)≤(gq (onR s d env.1) i:Nat) by omega),D9 (show(0:Int)≤(gq (onR t d env.1) j:Nat) by omega),l9,l9,Int.toNat_natCast,Int.toNat_natCast]
    refine⟨rfl,rfl,.inr (.inr ⟨i,j,q1,?_,?_⟩)⟩
    ·show(castL (N9 s d env.1)).getD _ 0=_
     rw[jZ,Qe (vM hs ht hR m1)];rfl
    ·show(castL (N9 t d env.1)).getD _ 0=_
     rw[jZ,Qe (vM hs ht hR m2)];rfl
  ·obtain⟨i,hi,him⟩:=a5u hs ht hR k1
   have:=g1 i him
   rw[(b4o ht hR hi env).1,k2]at this
   cases this
 ·left
  obtain⟨j,hj,hjm⟩:=a5v ht hR g1
  rcases Ff t env m d (N9 t d env.1) [] (fun i hi=>(gW hi).1)with⟨k1,k2⟩ | ⟨_,e',k3,k4⟩
  ·have:=k1 j hjm
   rw[←(b4o ht hR hj env).1,g2]at this
   cases this
  ·rw[g3,k3];exact⟨g4,k4⟩
theorem a3o (env:U9) (m:Int):(∃v i j,yC s env m d= .inl (v,i)∧yC t env m d= .inl (v,j))∨(∃e e',yC s env m d= .inr e∧yC t env m d= .inr e'):=by
 unfold yC
 rcases Uy hs ht hR env m with⟨h1,h2⟩ | ⟨h1,h2,h3⟩
 ·rw[D8 h1,D8 h2];exact .inr ⟨_,_,rfl,rfl⟩
 ·rw[E9 h1,E9 h2,o5,o5]
  rcases h3 with⟨k1,k2⟩ | ⟨k1,k2⟩ | ⟨i,j,q1,k1,k2⟩
  ·rw[k1,k2];exact .inr ⟨_,_,rfl,rfl⟩
  ·rw[k1,k2];exact .inr ⟨_,_,rfl,rfl⟩
  ·rw[k1,k2,D8 (show(i:Int)≠-1 by omega),D8 (show(i:Int)≠-2 by omega),D8 (show(j:Int)≠-1 by omega),D8 (show(j:Int)≠-2 by omega),F6,F6]
   obtain⟨r,q,h1,h2,_⟩:=id q1
   have e:=Wi ht hR q1 h1 h2
   rw[h1,h2]
   simp only[l9]
   rw[e.rest]
   cases ieq (qj q.2.2.2.2.2.2.1 env).2 0
   ·exact .inr ⟨_,_,rfl,rfl⟩
   ·exact .inl ⟨_,_,_,rfl,rfl⟩
end
end Go.GP
