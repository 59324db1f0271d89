import Derived.Test.YtaohichhnkhobaaGreatDoorU5
import Derived.Test.YtaohichhnkhobaaGreatDoorU6
set_option linter.all false
namespace Go.GP
open Gt
set_option maxRecDepth 100000
variable {n:Int}
theorem TP(h0:0<=n)(h:n<18446744073709551616):(BitVec.ofInt 64 n).toNat=n.toNat:=by rw[BitVec.toNat_ofInt];have e:((2^64:Nat):Int)=18446744073709551616:=rfl;rw[e,Int.emod_eq_of_lt h0 h]
theorem a0X(h0:0<=n)(h:n<18446744073709551616):a4p .u64 n 4294967295=n % 4294967296:=by unfold a4p;rw[show IntKind.bits .u64=64 from rfl,BitVec.toNat_and,TP h0 h,TP J5 J5];rw[show(4294967295:Int).toNat=2^32 -1 from rfl,Nat.and_two_pow_sub_one_eq_mod];rw[GN l9 l9];omega
theorem b7M{a c:Int}{s:Nat}(ha0:0<=a)(hc0:0<=c)(hc:c<2^s)(h:a*2^s+c<18446744073709551616):ior .u64 (a*2^s) c=a*2^s+c:=by
 have hp:(0:Int)<2^s:=Int.pow_pos l9;have hap:0<=a*2^s:=P9 ha0 l9;unfold ior;rw[show IntKind.bits .u64=64 from rfl,BitVec.toNat_or,TP hap l9,TP hc0 l9];obtain⟨m,rfl⟩:∃m:Nat,a=(m:Int):=⟨a.toNat,l9⟩;obtain⟨k,rfl⟩:∃k:Nat,c=(k:Int):=⟨c.toNat,l9⟩;have hk:k<2^s:=by exact_mod_cast hc
 have e1:((m:Int)*2^s).toNat=m<<<s:=by
  rw[Nat.shiftLeft_eq];have:((m:Int)*2^s)=((m*2^s:Nat):Int):=by rw[uj,uk];rfl
  rw[this];rfl
 rw[e1,U3,←Nat.shiftLeft_add_eq_or_of_lt hk,Nat.shiftLeft_eq];have e2:((m*2^s+k:Nat):Int)=(m:Int)*2^s+(k:Int):=by rw[Int.natCast_add,uj,uk];rfl
 rw[e2];exact GN l9 h
theorem a3Y(a b c d:Int):H9 .u64 (x9 .u64 (Z4 .u64 a 4294967296) b) (Z4 .u64 c d)=(a*4294967296+b -c*d) % 18446744073709551616:=by unfold H9 x9 Z4;rw[Bq,Bq,Bq,Bq];generalize c*d=z;omega
variable {y:Int}
theorem c5Y(h0:0<y)(h:y<18446744073709551616):∃s:Nat,s<=63/\oI y=some (s:Int)/\9223372036854775808<=y*2^s/\y*2^s<18446744073709551616:=by
 obtain⟨k,k1,k2,k3,k4⟩:=b3l (n:=y) l9 h;obtain⟨k5,k6⟩:=k4 h0;refine⟨64 -k,l9,?_,?_,?_⟩
 .unfold oI;rw[k2,o8,U1 O5];congr 1;omega
 .have:=O6 k6 (show(0:Int)<=2^(64 -k)from Int.pow_nonneg l9);rw[←Int.pow_add,show k -1+(64 -k)=63 by omega]at this;exact this
 .have:=Int.mul_lt_mul_of_pos_right k3 (show(0:Int)<2^(64 -k)from Int.pow_pos l9);rw[←Int.pow_add,show k+(64 -k)=64 by omega]at this;exact this
theorem QB{a b:Int}(ha:0<=a)(ha' :a<18446744073709551616)(hb:0<b):qC .u64 a b=some (a / b):=by unfold qC;rw[if_neg l9,kF ha];have h1:=X3 ha (show 0<=b by omega);have h2:=eP b ha;rw[GN h1 l9]
theorem CQ{a b:Int}(ha:0<=a)(hb:0<b):Au a b=some (a % b):=by unfold Au;rw[if_neg l9];congr 1;exact AV ha
theorem YY{hi lo y:Int}(h0:0<=hi)(h1:hi<y)(hy:y<18446744073709551616)(l0:0<=lo)(l1:lo<18446744073709551616):
  nG hi lo y=some ((hi*18446744073709551616+lo) / y,(hi*18446744073709551616+lo) % y):=by
 unfold nG;rw[J8 (show y≠0 by omega),o6,o8,Z5 h1,o6,o8];by_cases hz:hi=0
 .subst hz;rw[O0 rfl,o7,QB l0 l1 l9,o8,CQ l0 l9,o8];simp
 rw[J8 hz,o6];obtain⟨s,s1,s2,s3,s4⟩:=c5Y (y:=y) l9 hy;rw[s2,o8,show wrap .u64 ((s:Nat):Int)=(s:Int)from GN l9 l9,show H9 .u64 64 (s:Int)=((64 -s:Nat):Int) by unfold H9;rw[GN l9 l9];omega];have hshl:∀v:Int,Zp .u64 v (s:Int)=some ((v*2^s) % 18446744073709551616):=λv=>by unfold Zp b3h;rw[if_neg l9,U3,show IntKind.bits .u64=64 from rfl,show min s 64=s by omega,Bq]
 have hshr:∀(v:Int) (k:Nat),k<=64->Zq .u64 v (k:Int)=some (v / 2^k):=λv k hk=>by unfold Zq;rw[if_neg l9,Uh hk]
 rw[hshl,o8,hshl,o8,hshr _ _ l9,o8,hshl,o8];have hpp:(2:Int)^s*2^(64 -s)=18446744073709551616:=by rw[←Int.pow_add,show s+(64 -s)=64 by omega];rfl
 have hp:(0:Int)<2^s:=Int.pow_pos l9;have hp' :(0:Int)<2^(64 -s):=Int.pow_pos l9;have hcb:lo / 2^(64 -s)<2^s:=mO hp' (by rw[hpp];exact l1);have hc0:0<=lo / 2^(64 -s):=X3 l0 l9;have hcd:=V7 lo (2^(64 -s));have he0:=P8 lo (show(2:Int)^(64 -s)≠0 by omega);have he1:=L9 lo hp';have hioP:∀a c:Int,0<=a->0<=c->c<2^s->a*2^s+c<18446744073709551616->ior .u64 (a*2^s) c=a*2^s+c:=λa c a0 c0 c1 h=>b7M a0 c0 c1 h;have hshrs:∀v:Int,Zq .u64 v (s:Int)=some (v / 2^s):=λv=>hshr v s l9;generalize (2:Int)^s=p at*;generalize (2:Int)^(64 -s)=p' at*;generalize lo / p' =c at*;generalize lo % p' =e at*;have hlop:lo*p=c*18446744073709551616+e*p:=by rw[←hcd,iL,Int.mul_assoc,Int.mul_comm p' p,hpp]
 have hep0:0<=e*p:=P9 he0 l9;have hep1:e*p<18446744073709551616:=by have:=Int.mul_lt_mul_of_pos_right he1 hp;rw[Int.mul_comm p' p,hpp]at this;exact this
 rw[show(lo*p) % 18446744073709551616=e*p by omega];have hhp0:0<=hi*p:=P9 h0 l9;have hhp1:hi*p<=y*p -p:=by have:=O6 (show hi<=y -1 by omega) (show 0<=p by omega);rw[lW,fP]at this;exact this
 rw[show(y*p) % 18446744073709551616=y*p by omega,show(hi*p) % 18446744073709551616=hi*p by omega,hioP hi c h0 hc0 hcb l9];have hN:(hi*18446744073709551616+lo)*p=(hi*p+c)*18446744073709551616+e*p:=by rw[iL,hlop,jC];omega
 have hsh32:∀v:Int,uP .u64 v 32=v / 4294967296:=λv=>Uh (k:=32) l9;rw[hsh32,hsh32,a0X l9 s4,a0X hep0 hep1];obtain⟨Y,hY⟩:∃Y,Y=y*p:=⟨_,rfl⟩;obtain⟨N,hNN⟩:∃N,N=hi*18446744073709551616+lo:=⟨_,rfl⟩;rw[←hNN]at hN ⊢;rw[←hY]at s3 s4 hhp1 ⊢;generalize hU:hi*p+c=U at*;generalize e*p=E at*;have hUY:U<Y:=l9;have hU0:0<=U:=l9;obtain⟨Q1,q1,q2,q3,q4,q5⟩:=YX (σ:=Int×Int) (λq r=>(q,r)) (y1:=Y / 4294967296) (y0:=Y % 4294967296) (U:=U) (d:=E / 4294967296) l9 l9 l9 l9 hU0 l9 l9 l9
  (f:=λ(x:Int×Int)=>l7 (J6 4294967296 x.1) (l7 (J6 4294967296 (x9 .u64 x.2 (Y / 4294967296))) (some (.inr (H9 .u64 x.1 1))) (some (.inl (H9 .u64 x.1 1,x9 .u64 x.2 (Y / 4294967296))))) (l7 (D8 (x9 .u64 (Z4 .u64 4294967296 x.2) (E / 4294967296)) (Z4 .u64 x.1 (Y % 4294967296))) (l7 (J6 4294967296 (x9 .u64 x.2 (Y / 4294967296))) (some (.inr (H9 .u64 x.1 1))) (some (.inl (H9 .u64 x.1 1,x9 .u64 x.2 (Y / 4294967296))))) (some (.inr x.1))))
  (λq r _ _ _ _=>rfl)
 have hYe:Y / 4294967296*4294967296+Y % 4294967296=Y:=l9;rw[hYe]at q4 q5;have hst:∀V:Int,0<=V->V<Y->H9 .u64 V (Z4 .u64 (V / (Y / 4294967296)) (Y / 4294967296))=V -V / (Y / 4294967296)*(Y / 4294967296):=λV v0 v1=>by have a1:=V7 V (Y / 4294967296);have a2:=P8 V (show Y / 4294967296≠0 by omega);have a3:=L9 V (show 0<Y / 4294967296 by omega);have a4:=P9 (X3 v0 (show 0<=Y / 4294967296 by omega)) (show 0<=Y / 4294967296 by omega);rw[show Z4 .u64 (V / (Y / 4294967296)) (Y / 4294967296)=V / (Y / 4294967296)*(Y / 4294967296)from GN a4 l9];exact GN l9 l9
 rw[QB hU0 l9 l9,o8,hst U hU0 hUY];refine(lq q1 _).trans ?_;rw[a3Y];have hA1:(Q1+1)*Y=Q1*Y+Y:=by rw[iL,fP]
 rw[hA1]at q5;obtain⟨A1,hAA⟩:∃A1,A1=Q1*Y:=⟨_,rfl⟩;rw[←hAA]at q4 q5 ⊢;rw[show(U*4294967296+E / 4294967296 -A1) % 18446744073709551616=U*4294967296+E / 4294967296 -A1 by omega];generalize hV:U*4294967296+E / 4294967296 -A1=V at*;have hV0:0<=V:=l9;have hVY:V<Y:=l9;obtain⟨Q0,r1,r2,r3,r4,r5⟩:=YX (σ:=Int×Int) (λq r=>(r,q)) (y1:=Y / 4294967296) (y0:=Y % 4294967296) (U:=V) (d:=E % 4294967296) l9 l9 l9 l9 hV0 l9 l9 l9
  (f:=λ(x:Int×Int)=>l7 (J6 4294967296 x.2) (l7 (J6 4294967296 (x9 .u64 x.1 (Y / 4294967296))) (some (.inr (H9 .u64 x.2 1))) (some (.inl (x9 .u64 x.1 (Y / 4294967296),H9 .u64 x.2 1)))) (l7 (D8 (x9 .u64 (Z4 .u64 4294967296 x.1) (E % 4294967296)) (Z4 .u64 x.2 (Y % 4294967296))) (l7 (J6 4294967296 (x9 .u64 x.1 (Y / 4294967296))) (some (.inr (H9 .u64 x.2 1))) (some (.inl (x9 .u64 x.1 (Y / 4294967296),H9 .u64 x.2 1)))) (some (.inr x.2))))
  (λq r _ _ _ _=>rfl)
 rw[hYe]at r4 r5;rw[QB hV0 l9 l9,o8,hst V hV0 hVY];refine(lq r1 _).trans ?_;rw[a3Y];have hA0:(Q0+1)*Y=Q0*Y+Y:=by rw[iL,fP]
 rw[hA0]at r5;have hQY:(Q1*4294967296+Q0)*Y=A1*4294967296+Q0*Y:=by rw[iL,jC,←hAA]
 generalize Q0*Y=A0 at*;rw[show(V*4294967296+E % 4294967296 -A0) % 18446744073709551616=V*4294967296+E % 4294967296 -A0 by omega,hshrs,o8];rw[show Z4 .u64 Q1 4294967296=Q1*4294967296 from GN l9 l9,show x9 .u64 (Q1*4294967296) Q0=Q1*4294967296+Q0 from GN l9 l9];generalize hQ:Q1*4294967296+Q0=Q at*;have hR:V*4294967296+E % 4294967296 -A0=(N -Q*y)*p:=by rw[lW,Int.mul_assoc,←hY,hQY,hN];omega
 rw[hR];have hge:0<=N -Q*y:=by
  rcases Ri (N -Q*y) 0 with h|h
  .have:=O6 (show N -Q*y<=-1 by omega) (show 0<=p by omega);omega
  .exact h
 have hlt:N -Q*y<y:=by
  rcases Ri (N -Q*y) y with h|h
  .exact h
  .have:=O6 h (show 0<=p by omega);omega
 have hq:N / y=Q:=by have e1:N=(N -Q*y)+Q*y:=l9;rw[e1,aH _ _ l9,mf hge hlt];omega
 have hr:N % y=N -Q*y:=by have:=V7 N y;rw[hq]at this;omega
 rw[hq,hr,Int.mul_ediv_cancel _ l9]
def Z8(n:Int):Int:=if n<0 then -n else n
def upS(q r d:Int)(neg:Bool)(mode:Int):Bool:=l7 (x8 r 0) false (l7 (x8 mode 0) neg (l7 (x8 mode 1) (D6 neg) (l7 (x8 mode 3) true (l7 (x8 mode 4) (J6 (d -r) r) (l7 (x8 mode 5) (l7 (D8 (d -r) r) true (l7 (x8 r (d -r)) (x8 (eU q 2) 1) false)) false)))))
def q1(q:Int)(u:Bool):Int:=l7 u (q+1) q
def sg(q:Int)(neg:Bool):Int:=l7 neg (-q) q
def oV(m:Int):Bool:=l7 (J6 0 m) (J6 m 5) false
theorem Ew(m:Int):tN m=some (oV m):=by unfold tN oV;cases J6 0 m<;>rfl
theorem UI(m:Int):Fb m=some (oV m):=Ew m
theorem Xv(m:Int):DX m=some (oV m):=Ew m
def jy(n m:Int):Bool:=l7 (D8 m n) true (D8 n (-m))
variable {m:Int}
theorem vM(n:Int)(h0:0<=m)(h:m<=9000000000000000000):lG n m=some (jy n m):=by unfold lG jy;rw[U1 O5,show(0:Int) -m=-m by omega];cases D8 m n<;>rfl
theorem rX(n:Int)(h0:0<=m)(h:m<=9000000000000000000):iH n m=some (jy n m):=vM n h0 h
theorem AZ(n:Int)(h0:0<=m)(h:m<=9000000000000000000):zg n m=some (jy n m):=vM n h0 h
theorem yY(n:Int)(h0:0<=m)(h:m<=9000000000000000000):ku n m=some (jy n m):=vM n h0 h
theorem nJ(h:jy n m=false):-m<=n/\n<=m:=by
 unfold jy at h;cases h1:D8 m n<;>rw[h1]at h
 .rw[iE]at h1;simp only[o6]at h;rw[iE]at h;omega
 .cases h
theorem a6o(h:jy n m=true):n< -m\/m<n:=by
 unfold jy at h;cases h1:D8 m n<;>rw[h1]at h
 .simp only[o6]at h;rw[jX]at h;omega
 .rw[jX]at h1;omega
theorem TN :jy n m=true↔n< -m\/m<n:=by
 constructor
 .exact a6o
 .intro h;cases hq:jy n m
  .have:=nJ hq;omega
  .rfl
theorem Qq(h:-m<=n/\n<=m):jy n m=false:=by
 cases hq:jy n m
 .rfl
 .have:=a6o hq;omega
theorem DL(h:-9000000000000000000<=n)(h2:n<=9000000000000000000):nH n=some (Z8 n):=by
 unfold nH Z8;by_cases h0:n<0
 .rw[U7 h0,if_pos h0,o7];congr 1;show IntKind.wrap .u64 (0 -IntKind.wrap .u64 n)=_;rw[Bq,Bq];omega
 .rw[L8 l9,if_neg h0,o6,show wrap .u64 n=n from GN l9 l9]
theorem QL(h:-9000000000000000000<=n)(h2:n<=9000000000000000000):zZ n=some (Z8 n):=by
 unfold zZ Z8;by_cases h0:n<0
 .rw[U7 h0,if_pos h0,U1 O5];simp
 .rw[L8 l9,if_neg h0];rfl
variable {q:Int}
theorem a1F(neg:Bool)(h0:0<=q)(h:q<=9000000000000000000):DR q neg=some (sg q neg):=by unfold DR sg;rw[show wrap .i64 q=q from ny O5,U1 O5,show(0:Int) -q=-q by omega];cases neg<;>rfl
theorem XE{q r d:Int}(neg:Bool)(mode:Int)(hq:0<=q)(hq2:q<=9000000000000000000)(hr:0<=r)(hrd:r<d)(hd:d<=9000000000000000000):oZ q r d neg mode=some (q1 q (upS q r d neg mode)):=by
 unfold oZ upS q1;rw[show x9 .u64 q 1=q+1 from GN l9 l9,show H9 .u64 d r=d -r from GN l9 l9];cases x8 r 0
 case true=>rfl
 cases x8 mode 0
 case true=>cases neg<;>rfl
 cases x8 mode 1
 case true=>cases neg<;>rfl
 cases x8 mode 3
 case true=>rfl
 cases x8 mode 4
 case true=>cases J6 (d -r) r<;>rfl
 cases x8 mode 5
 .rfl
 cases D8 (d -r) r
 case true=>rfl
 cases x8 r (d -r)
 .rfl
 cases x8 (eU q 2) 1<;>rfl
theorem a5v{q r d:Int}(neg:Bool)(mode:Int)(hr:0<=r)(hrd:r<d)(hd:d<=9000000000000000000):FC q r d neg mode=some (upS q r d neg mode):=by
 unfold FC upS;rw[show H9 .u64 d r=d -r from GN l9 l9];cases x8 r 0
 case true=>rfl
 cases x8 mode 0
 case true=>rfl
 cases x8 mode 1
 case true=>rfl
 cases x8 mode 3
 case true=>rfl
 cases x8 mode 4
 case true=>rfl
 cases x8 mode 5
 .rfl
 cases D8 (d -r) r
 case true=>rfl
 cases x8 r (d -r)<;>rfl
theorem FY{q r d:Int}(neg:Bool)(mode:Int)(hq:0<=q)(hq2:q<=9000000000000000000)(hr:0<=r)(hrd:r<d)(hd:d<=9000000000000000000):mF q r d neg mode=some (sg (q1 q (upS q r d neg mode)) neg):=by
 unfold mF upS q1 sg;rw[U9 (show jw (q+1) by unfold jw;omega),U1 (show jw (d -r) by unfold jw;omega),U1 (show jw (0 -(q+1)) by unfold jw;omega),U1 (show jw (0 -q) by unfold jw;omega),show(0:Int) -(q+1)=-(q+1) by omega,show(0:Int) -q=-q by omega];by_cases hz:r=0
 .rw[O0 hz,L8 (show r<=0 by omega),Z5 (show r<d -r by omega),L8 (show r<=d -r by omega),J8 (show r≠d -r by omega)];cases x8 mode 0<;>cases x8 mode 1<;>cases x8 mode 3<;>cases x8 mode 4<;>cases x8 mode 5<;>cases neg<;>rfl
 .rw[J8 hz,U7 (show 0<r by omega)];cases x8 mode 0
  case true=>cases neg<;>rfl
  cases x8 mode 1
  case true=>cases neg<;>rfl
  cases x8 mode 3
  case true=>cases neg<;>rfl
  cases x8 mode 4
  case true=>cases J6 (d -r) r<;>cases neg<;>rfl
  cases x8 mode 5
  .cases neg<;>rfl
  cases D8 (d -r) r
  case true=>cases neg<;>rfl
  cases x8 r (d -r)
  .cases neg<;>rfl
  cases x8 (eU q 2) 1<;>cases neg<;>rfl
theorem lV(n:Int):0<=Z8 n:=by unfold Z8;split<;>omega
theorem zS(h:-m<=n/\n<=m):Z8 n<=m:=by unfold Z8;split<;>omega
theorem Ph(h:n≠0):0<Z8 n:=by unfold Z8;split<;>omega
def rnd(n d mode:Int):Int:=sg (q1 (Z8 n / Z8 d) (upS (Z8 n / Z8 d) (Z8 n % Z8 d) (Z8 d) (D6 (jG (D8 n 0) (D8 d 0))) mode)) (D6 (jG (D8 n 0) (D8 d 0)))
def a6z(n d mode:Int):Int×Int:=l7 (oV mode) (l7 (x8 d 0) (0,12) (l7 (jy n 4611686018427387904) (0,3) (l7 (jy d 4611686018427387904) (0,3) (rnd n d mode,0)))) (0,1)
theorem d_(q:Int)(u:Bool):q<=q1 q u/\q1 q u<=q+1:=by unfold q1;cases u<;>simp only[o7,o6]<;>omega
theorem JG(n d mode:Int):jQ n d mode=some (a6z n d mode):=by
 unfold jQ a6z;rw[Ew,o8];cases oV mode
 .rfl
 simp only[D9,o6,o7];cases hd:x8 d 0
 case true=>rfl
 rw[AA]at hd;simp only[o6];rw[vM n l9 l9,o8];cases h1:jy n 4611686018427387904
 case true=>rfl
 simp only[o6];rw[vM d l9 l9,o8];cases h2:jy d 4611686018427387904
 case true=>rfl
 have b1:=nJ h1;have b2:=nJ h2;have a1:=lV n;have a2:=zS b1;have a3:=Ph hd;have a4:=zS b2;have e0:=X3 a1 (show 0<=Z8 d by omega);have e1:=eP (Z8 d) a1;have e2:=P8 (Z8 n) (show Z8 d≠0 by omega);have e3:=L9 (Z8 n) a3;have q:=d_ (Z8 n / Z8 d) (upS (Z8 n / Z8 d) (Z8 n % Z8 d) (Z8 d) (D6 (jG (D8 n 0) (D8 d 0))) mode);simp only[o6];rw[DL l9 l9,o8,DL l9 l9,o8,QB a1 l9 a3,o8,CQ a1 a3,o8,XE _ _ e0 l9 e2 e3 l9,o8,a1F _ l9 l9];rfl
theorem xR{a b:Int}(ha:0<=a)(ha' :a<=9000000000000000000)(hb:0<b):qC .i64 a b=some (a / b):=by unfold qC;rw[if_neg l9,kF ha];have h1:=X3 ha (show 0<=b by omega);have h2:=eP b ha;rw[ny O5]
theorem a2J(n d mode:Int):zh n d mode=some (a6z n d mode):=by
 unfold zh a6z;rw[UI,o8];cases oV mode
 .rfl
 simp only[D9,o6,o7];cases hd:x8 d 0
 case true=>rfl
 rw[AA]at hd;simp only[o6];rw[rX n l9 l9,o8];cases h1:jy n 4611686018427387904
 case true=>rfl
 simp only[o6];rw[rX d l9 l9,o8];cases h2:jy d 4611686018427387904
 case true=>rfl
 have b1:=nJ h1;have b2:=nJ h2;have a1:=lV n;have a2:=zS b1;have a3:=Ph hd;have a4:=zS b2;have e0:=X3 a1 (show 0<=Z8 d by omega);have e1:=eP (Z8 d) a1;have e2:=P8 (Z8 n) (show Z8 d≠0 by omega);have e3:=L9 (Z8 n) a3;simp only[o6];rw[QL l9 l9,o8,QL l9 l9,o8,xR a1 l9 a3,o8,CQ a1 a3,o8,FY _ _ e0 l9 e2 e3 l9];rfl
def toS(c u mode:Int):Int×Int:=l7 (oV mode) (l7 (D8 u 1) (0,12) (l7 (jy c 1000000000000000) (0,3) (l7 (D8 1000000000000000 u) (0,3) (l7 (jy (Z4 .i64 (rnd c u mode) u) 1000000000000000) (0,3) (Z4 .i64 (rnd c u mode) u,0))))) (0,1)
theorem a7A(c u mode:Int):AY c u mode=some (toS c u mode):=by
 unfold AY toS;rw[Ew,o8];cases hm:oV mode
 .rfl
 simp only[D9,o6,o7];cases hu:D8 u 1
 case true=>rfl
 rw[iE]at hu;simp only[o6];rw[vM c l9 l9,o8];cases h1:jy c 1000000000000000
 case true=>rfl
 have b1:=nJ h1;simp only[o6];cases h2:D8 1000000000000000 u
 case true=>rfl
 rw[iE]at h2;simp only[o6];have n1:jy c 4611686018427387904=false:=Qq l9;have n2:jy u 4611686018427387904=false:=Qq l9;rw[JG,o8];unfold a6z;rw[hm,J8 (show u≠0 by omega),n1,n2];simp only[o7,o6,O0 (rfl:(0:Int)=0),D9];rw[vM _ l9 l9,o8];cases jy (Z4 .i64 (rnd c u mode) u) 1000000000000000<;>rfl
theorem a5l(c u mode:Int):Ba c u mode=some (toS c u mode):=by
 unfold Ba toS;rw[UI,o8];cases hm:oV mode
 .rfl
 simp only[D9,o6,o7];cases hu:D8 u 1
 case true=>rfl
 rw[iE]at hu;simp only[o6];rw[rX c l9 l9,o8];cases h1:jy c 1000000000000000
 case true=>rfl
 have b1:=nJ h1;simp only[o6];cases h2:D8 1000000000000000 u
 case true=>rfl
 rw[iE]at h2;simp only[o6];have a1:=lV c;have a2:=zS b1;have hu' :Z8 u=u:=by unfold Z8;rw[if_neg l9]
 have e0:=X3 a1 (show 0<=u by omega);have e1:=eP u a1;have e2:=P8 (Z8 c) (show u≠0 by omega);have e3:=L9 (Z8 c) (show 0<u by omega);rw[QL l9 l9,o8,xR a1 l9 l9,o8,CQ a1 l9,o8,FY _ _ e0 l9 e2 e3 l9,o8];have hr:sg (q1 (Z8 c / u) (upS (Z8 c / u) (Z8 c % u) u (D8 c 0) mode)) (D8 c 0)=rnd c u mode:=by unfold rnd;rw[hu',show D6 (jG (D8 c 0) (D8 u 0))=D8 c 0 by rw[L8 (show(0:Int)<=u by omega)];cases D8 c 0<;>rfl]
 rw[hr,rX _ l9 l9,o8];cases jy (Z4 .i64 (rnd c u mode) u) 1000000000000000<;>rfl
def mdS(c num den mode:Int):Int×Int:=l7 (oV mode) (l7 (x8 den 0) (0,12) (l7 (jy c 1000000000000000) (0,3) (l7 (jy num 1000000000) (0,3) (l7 (jy den 1000000000) (0,3)
 (l7 (D8 1000000000000000 (q1 (Z8 c*Z8 num / Z8 den) (upS (Z8 c*Z8 num / Z8 den) (Z8 c*Z8 num % Z8 den) (Z8 den) (D6 (jG (D6 (jG (D8 c 0) (D8 num 0))) (D8 den 0))) mode))) (0,3)
  (sg (q1 (Z8 c*Z8 num / Z8 den) (upS (Z8 c*Z8 num / Z8 den) (Z8 c*Z8 num % Z8 den) (Z8 den) (D6 (jG (D6 (jG (D8 c 0) (D8 num 0))) (D8 den 0))) mode)) (D6 (jG (D6 (jG (D8 c 0) (D8 num 0))) (D8 den 0))),0)))))) (0,1)
theorem Ut{a b:Int}(a0:0<=a)(a1:a<18446744073709551616)(b0:0<=b)(b1:b<18446744073709551616):vI a b=some (a*b / 18446744073709551616,a*b % 18446744073709551616):=by unfold vI;rw[if_pos ⟨a0,a1,b0,b1⟩]
theorem b0T(c num den mode:Int):Ho c num den mode=some (mdS c num den mode):=by
 unfold Ho mdS;rw[Ew,o8];cases oV mode
 .rfl
 simp only[D9,o6,o7];cases hd:x8 den 0
 case true=>rfl
 rw[AA]at hd;simp only[o6];rw[vM c l9 l9,o8];cases h1:jy c 1000000000000000
 case true=>rfl
 rw[vM num l9 l9];cases h2:jy num 1000000000
 case true=>rfl
 rw[vM den l9 l9];cases h3:jy den 1000000000
 case true=>rfl
 have b1:=nJ h1;have b2:=nJ h2;have b3:=nJ h3;have a1:=lV c;have a2:=zS b1;have x1:=lV num;have x2:=zS b2;have d1:=Ph hd;have d2:=zS b3;simp only[o6,o8,J7];rw[DL l9 l9,o8,DL l9 l9,o8,Ut a1 l9 x1 l9,o8,DL l9 l9,o8];have hA:0<=Z8 c*Z8 num:=P9 a1 x1;generalize Z8 c*Z8 num=A at*;generalize Z8 den=b at*;have hre:A / 18446744073709551616*18446744073709551616+A % 18446744073709551616=A:=l9;have q:=d_ (A / b) (upS (A / b) (A % b) b (D6 (jG (D6 (jG (D8 c 0) (D8 num 0))) (D8 den 0))) mode);have hdm:=V7 A b;have e2:=P8 A (show b≠0 by omega);have e3:=L9 A d1;have e0:=X3 hA (show 0<=b by omega);by_cases hh:b<=A / 18446744073709551616
 .have hge:18446744073709551616<=A / b:=rP d1 l9;rw[Y6 hh,U7 (show(1000000000000000:Int)<q1 (A / b) (upS (A / b) (A % b) b (D6 (jG (D6 (jG (D8 c 0) (D8 num 0))) (D8 den 0))) mode) by omega)];rfl
 .rw[Z5 l9,o6,YY l9 l9 l9 l9 l9,o8,hre];simp only;by_cases hM:1000000000000000<A / b
  .rw[U7 hM,U7 (show(1000000000000000:Int)<q1 (A / b) (upS (A / b) (A % b) b (D6 (jG (D6 (jG (D8 c 0) (D8 num 0))) (D8 den 0))) mode) by omega)];rfl
  .rw[L8 l9,o6,XE _ _ e0 l9 e2 e3 l9,o8];cases hq:D8 1000000000000000 (q1 (A / b) (upS (A / b) (A % b) b (D6 (jG (D6 (jG (D8 c 0) (D8 num 0))) (D8 den 0))) mode))
   .rw[iE]at hq;rw[o6,a1F _ l9 l9];rfl
   .rfl
theorem b2w(h:0<=q)(neg:Bool)(hm:0<=m):jy (sg q neg) m=D8 m q:=by rw[gK,TN,jX];unfold sg;cases neg<;>simp only[o7,o6]<;>omega
theorem a7s(c num den mode:Int):Ht c num den mode=some (mdS c num den mode):=by
 unfold Ht mdS;rw[UI,o8];cases oV mode
 .rfl
 simp only[D9,o6,o7];cases hd:x8 den 0
 case true=>rfl
 rw[AA]at hd;simp only[o6];rw[rX c l9 l9,o8];cases h1:jy c 1000000000000000
 case true=>rfl
 rw[rX num l9 l9];cases h2:jy num 1000000000
 case true=>rfl
 rw[rX den l9 l9];cases h3:jy den 1000000000
 case true=>rfl
 have b1:=nJ h1;have b2:=nJ h2;have b3:=nJ h3;have a1:=lV c;have a2:=zS b1;have x1:=lV num;have x2:=zS b2;have d1:=Ph hd;have d2:=zS b3;simp only[o6,o8,J7];rw[QL l9 l9,o8,QL l9 l9,o8,QL l9 l9,o8];generalize D6 (jG (D6 (jG (D8 c 0) (D8 num 0))) (D8 den 0))=neg;generalize Z8 c=a at*;generalize Z8 num=x at*;generalize Z8 den=b at*;have hdm:=V7 a b;have f0:=X3 a1 (show 0<=b by omega);have f1:=P8 a (show b≠0 by omega);have f2:=L9 a d1;have m1:0<=a % b*x:=P9 f1 x1;have m2:a % b*x<=1000000000*1000000000:=kJ l9 x2 x1 l9;have m3:0<=a / b*x:=P9 f0 x1;have hA:a*x=a / b*x*b+a % b*x:=by
  calc a*x=(a / b*b+a % b)*x:=by rw[hdm]
   _=_:=by rw[iL,jC]
 have hQ:a*x / b=a / b*x+a % b*x / b:=by rw[hA,Int.add_comm,aH _ _ l9,Int.add_comm]
 have hR:a*x % b=a % b*x % b:=by rw[hA,Int.add_comm,bK]
 have g0:=X3 m1 (show 0<=b by omega);have g1:=eP b m1;have g2:=P8 (a % b*x) (show b≠0 by omega);have g3:=L9 (a % b*x) d1;have tail:a / b*x<=1000000000000000->(o5 (Au a b) λ(x_5:Int)=>o5 (some (a / b)) λ(x_8:Int)=>o5 (qC .i64 (Z4 .i64 x_5 x) b) λ(x_6:Int)=>o5 (Au (Z4 .i64 x_5 x) b) λ(x_7:Int)=>
   o5 (mF (x9 .i64 (Z4 .i64 x_8 x) x_6) x_7 b neg mode) λ(x_9:Int)=>o5 (iH x_9 1000000000000000) λ(x_8:Bool)=>l7 x_8 (some ((0:Int),(3:Int))) (some (x_9,0)))=
   some (l7 (D8 1000000000000000 (q1 (a*x / b) (upS (a*x / b) (a*x % b) b neg mode))) (0,3) (sg (q1 (a*x / b) (upS (a*x / b) (a*x % b) b neg mode)) neg,0)):=by
  intro hle;have q:=d_ (a / b*x+a % b*x / b) (upS (a / b*x+a % b*x / b) (a % b*x % b) b neg mode);rw[CQ a1 d1,o8,o8,mM (show jw (a % b*x) by unfold jw;omega),xR m1 l9 d1,o8,CQ m1 d1,o8,mM (show jw (a / b*x) by unfold jw;omega),U9 (show jw (a / b*x+a % b*x / b) by unfold jw;omega),
   FY _ _ l9 l9 g2 g3 l9,o8,rX _ l9 l9,o8,b2w l9 _ l9,hQ,hR]
  cases D8 1000000000000000 (q1 (a / b*x+a % b*x / b) (upS (a / b*x+a % b*x / b) (a % b*x % b) b neg mode))<;>rfl
 by_cases hx:0<x
 .rw[U7 hx,o7,xR a1 l9 d1,o8,xR l9 l9 hx,o8];have hMx:=V7 1000000000000000 x;have hMr:=L9 1000000000000000 hx;have hMr0:=P8 1000000000000000 (show x≠0 by omega);by_cases hc:1000000000000000 / x<a / b
  .have:=O6 (show 1000000000000000 / x+1<=a / b by omega) x1;rw[iL,fP]at this;have q:=d_ (a*x / b) (upS (a*x / b) (a*x % b) b neg mode);rw[U7 hc,U7 (show(1000000000000000:Int)<q1 (a*x / b) (upS (a*x / b) (a*x % b) b neg mode) by omega)];rfl
  .have:=O6 (show a / b<=1000000000000000 / x by omega) x1;rw[L8 l9,o6];exact tail l9
 .have:x=0:=l9;rw[L8 l9,o6,xR a1 l9 d1];exact tail (by subst this;simp)
theorem b2q(c r mode:Int):Jf c r mode=some (mdS c r 1000000 mode):=by unfold Jf;rw[b0T];rfl
theorem b1q(c r mode:Int):FZ c r mode=some (mdS c r 1000000 mode):=by unfold FZ;rw[a7s];rfl
variable {d:Int}
theorem a4i(h1:-9000000000000000000<=n)(h2:n<=9000000000000000000)(hd:0<d)(hd2:d<=9000000000000000000):zi n d=some (n / d,n % d):=by
 unfold zi qC Au;rw[if_neg l9,if_neg l9,o8,o8];by_cases h0:0<=n
 .have e0:=X3 h0 (show 0<=d by omega);have e1:=eP d h0;have e2:=P8 n (show d≠0 by omega);rw[kF h0,fK h0,ny O5,L8 e2];rfl
 .obtain⟨m,hm⟩:∃m,m=-n:=⟨_,rfl⟩;have hn:n=-m:=l9;subst hn;have e0:=X3 (show 0<=m by omega) (show 0<=d by omega);have e1:=eP d (show 0<=m by omega);have e2:=P8 m (show d≠0 by omega);have e3:=L9 m hd;have hdm:=V7 m d;rw[Int.neg_tdiv,Int.neg_tmod,kF l9,fK l9,ny O5];by_cases hz:m % d=0
  .rw[hz,show -(0:Int)=0 from rfl,L8 l9,o6];have hme:-m=0+(-(m / d))*d:=by rw[jZ];omega
   have q1:-m / d=-(m / d):=by rw[hme,aH _ _ l9];simp
   have q2:-m % d=0:=by rw[hme,bK];simp
   rw[q1,q2]
  .rw[U7 l9,o7,U1 O5,U9 O5];have hme:-m=(d -m % d)+(-(m / d) -1)*d:=by rw[lW,jZ,fP];omega
   have q1:-m / d=-(m / d) -1:=by rw[hme,aH _ _ l9,mf l9 l9];omega
   have q2:-m % d=d -m % d:=by rw[hme,bK,Int.emod_eq_of_lt l9 l9]
   rw[q1,q2,show -(m % d)+d=d -m % d by omega]
theorem JR(h:oV m=true):m=0\/m=1\/m=2\/m=3\/m=4\/m=5:=by
 unfold oV at h;cases h0:J6 0 m<;>rw[h0]at h
 .cases h
 .simp only[o7]at h;rw[pO]at h0 h;omega
variable {mode:Int}
theorem Kr(h1:-9000000000000000000<=n / d)(h2:n / d<=9000000000000000000)(hd:0<d)(hd2:d<=9000000000000000000)(hm:oV mode=true):dn (n / d) (n % d) d mode=some (rnd n d mode):=by
 have hdm:=V7 n d;have f0:=P8 n (show d≠0 by omega);have f1:=L9 n hd;have hid:Z8 d=d:=by unfold Z8;rw[if_neg l9]
 have hneg:D6 (jG (D8 n 0) (D8 d 0))=D8 n 0:=by rw[L8 (show(0:Int)<=d by omega)];cases D8 n 0<;>rfl
 unfold rnd;rw[hid,hneg];have R0:∀F R:Int,dn F R d 0=l7 (x8 R 0) (some F) (some F):=λF R=>rfl;have R1:∀F R:Int,dn F R d 1=l7 (x8 R 0) (some F) (some (x9 .i64 F 1)):=λF R=>rfl;have R2:∀F R:Int,dn F R d 2=l7 (x8 R 0) (some F) (o5 (l7 (D8 F 0) (some true) (some false)) λx=>l7 x (some (x9 .i64 F 1)) (some F)):=λF R=>rfl;have R3:∀F R:Int,dn F R d 3=l7 (x8 R 0) (some F) (o5 (some (J6 0 F)) λx=>l7 x (some (x9 .i64 F 1)) (some F)):=λF R=>rfl;have R4:∀F R:Int,dn F R d 4=l7 (x8 R 0) (some F) (l7 (x8 R (H9 .i64 d R)) (l7 (J6 0 F) (some (x9 .i64 F 1)) (some F)) (l7 (D8 (H9 .i64 d R) R) (some (x9 .i64 F 1)) (some F))):=λF R=>rfl;have R5:∀F R:Int,dn F R d 5=l7 (x8 R 0) (some F) (l7 (x8 R (H9 .i64 d R)) (l7 (D6 (x8 (eU F 2) 0)) (some (x9 .i64 F 1)) (some F)) (l7 (D8 (H9 .i64 d R) R) (some (x9 .i64 F 1)) (some F))):=λF R=>rfl;have u0:∀q r:Int,∀b,upS q r d b 0=l7 (x8 r 0) false b:=λq r b=>rfl;have u1:∀q r:Int,∀b,upS q r d b 1=l7 (x8 r 0) false (D6 b):=λq r b=>rfl;have u2:∀q r:Int,∀b,upS q r d b 2=l7 (x8 r 0) false false:=λq r b=>rfl;have u3:∀q r:Int,∀b,upS q r d b 3=l7 (x8 r 0) false true:=λq r b=>rfl;have u4:∀q r:Int,∀b,upS q r d b 4=l7 (x8 r 0) false (J6 (d -r) r):=λq r b=>rfl;have u5:∀q r:Int,∀b,upS q r d b 5=l7 (x8 r 0) false (l7 (D8 (d -r) r) true (l7 (x8 r (d -r)) (x8 (eU q 2) 1) false)):=λq r b=>rfl;by_cases h0:0<=n
 .have e0:=X3 h0 (show 0<=d by omega);have e1:=eP d h0;rw[show Z8 n=n by unfold Z8;rw[if_neg l9],L8 h0];have hi:x9 .i64 (n / d) 1=n / d+1:=U9 O5;have hs:H9 .i64 d (n % d)=d -n % d:=U1 O5;have hir:eU (n / d) 2=(n / d) % 2:=AV e0;generalize n / d=F at*;generalize n % d=R at*;rcases JR hm with rfl|rfl|rfl|rfl|rfl|rfl
  .rw[R0,u0];cases x8 R 0<;>rfl
  .rw[R1,u1,hi];cases x8 R 0<;>rfl
  .rw[R2,u2,hi,L8 e0];cases x8 R 0<;>rfl
  .rw[R3,u3,hi,Y6 e0];cases x8 R 0<;>rfl
  .rw[R4,u4,hi,hs,Y6 e0];cases x8 R 0
   case true=>rfl
   by_cases ht:R=d -R
   .rw[O0 ht,Y6 (show d -R<=R by omega)];rfl
   .rw[J8 ht];by_cases hl:d -R<R
    .rw[U7 hl,Y6 (show d -R<=R by omega)];rfl
    .rw[L8 (show R<=d -R by omega),Z5 (show R<d -R by omega)];rfl
  .rw[R5,u5,hi,hs,hir];cases x8 R 0
   case true=>rfl
   by_cases ht:R=d -R
   .rw[O0 ht,L8 (show R<=d -R by omega)];by_cases hp:F % 2=0
    .rw[O0 hp,J8 (show F % 2≠1 by omega)];rfl
    .rw[J8 hp,O0 (show F % 2=1 by omega)];rfl
   .rw[J8 ht];by_cases hl:d -R<R
    .rw[U7 hl];rfl
    .rw[L8 (show R<=d -R by omega)];rfl
 .obtain⟨m,hmm⟩:∃m,m=-n:=⟨_,rfl⟩;have e0:=X3 (show 0<=m by omega) (show 0<=d by omega);have e1:=eP d (show 0<=m by omega);have e2:=P8 m (show d≠0 by omega);have e3:=L9 m hd;have hdm2:=V7 m d;rw[show Z8 n=m by unfold Z8;rw[if_pos l9];omega,U7 l9];by_cases hz:m % d=0
  .have hne:n=0+(-(m / d))*d:=by rw[jZ];omega
   have q1:n / d=-(m / d):=by rw[hne,aH _ _ l9];simp
   have q2:n % d=0:=by rw[hne,bK];simp
   rw[q1,q2,hz];rcases JR hm with rfl|rfl|rfl|rfl|rfl|rfl<;>rfl
  .have hne:n=(d -m % d)+(-(m / d) -1)*d:=by rw[lW,jZ,fP];omega
   have q1:n / d=-(m / d) -1:=by rw[hne,aH _ _ l9,mf l9 l9];omega
   have q2:n % d=d -m % d:=by rw[hne,bK,Int.emod_eq_of_lt l9 l9]
   rw[q1]at h1 h2;rw[q1,q2];generalize m / d=q at*;generalize m % d=r at*;have hi:x9 .i64 (-q -1) 1=-q:=by rw[U9 O5];omega
   have hs:H9 .i64 d (d -r)=r:=by rw[U1 O5];omega
   have hF:∀k:Int,Go.GP.q1 q false=q/\Go.GP.q1 q true=q+1:=λk=>⟨rfl,rfl⟩;have sg1:sg (Go.GP.q1 q true) true=-q -1:=by show -(q+1)=-q -1;omega
   have sg0:sg (Go.GP.q1 q false) true=-q:=rfl;have hr0:x8 (d -r) 0=false:=J8 l9;have hr1:x8 r 0=false:=J8 hz;rcases JR hm with rfl|rfl|rfl|rfl|rfl|rfl
   .rw[R0,u0,hr0,hr1,o6,o6,sg1]
   .rw[R1,u1,hi,hr0,hr1,o6,o6,D9,sg0]
   .rw[R2,u2,hi,hr0,hr1,o6,o6,sg0,U7 l9];rfl
   .rw[R3,u3,hi,hr0,hr1,o6,o6,sg1,Z5 l9];rfl
   .rw[R4,u4,hi,hs,hr0,hr1,o6,o6,Z5 (show -q -1<0 by omega)];by_cases ht:d -r=r
    .rw[O0 ht,Y6 (show d -r<=r by omega),sg1];rfl
    .rw[J8 ht];by_cases hl:r<d -r
     .rw[U7 hl,Z5 hl,sg0];rfl
     .rw[L8 (show d -r<=r by omega),Y6 (show d -r<=r by omega),sg1];rfl
   .rw[R5,u5,hi,hs,hr0,hr1,o6,o6];by_cases ht:d -r=r
    .rw[O0 ht,L8 (show r<=d -r by omega),O0 ht.symm];have hodd:eU (-q -1) 2=-((q+1) % 2):=by
      unfold eU;rw[show -q -1=-(q+1) by omega,Int.neg_tmod,fK l9]
     have hir:eU q 2=q % 2:=AV e0;rw[hodd,hir];simp only[o7,o6];by_cases hp:q % 2=1
     .rw[O0 (show -((q+1) % 2)=0 by omega),O0 hp,sg1];rfl
     .rw[J8 (show -((q+1) % 2)≠0 by omega),J8 hp,sg0];rfl
    .rw[J8 ht,J8 (show r≠d -r by omega)];by_cases hl:r<d -r
     .rw[U7 hl,L8 (show r<=d -r by omega)];simp only[o7,o6];rw[sg0]
     .rw[L8 (show d -r<=r by omega),U7 (show d -r<r by omega)];simp only[o7,o6];rw[sg1]
def a9Q(a b mode:Int):Int×Int:=l7 (oV mode) (l7 (jy a 1000000000) (0,3) (l7 (jy b 1000000000) (0,3) (l7 (jy (rnd (a*b) 1000000 mode) 1000000000) (0,3) (rnd (a*b) 1000000 mode,0)))) (0,1)
theorem a9H{a b A B:Int}(h1:-A<=a/\a<=A)(h2:-B<=b/\b<=B):-(A*B)<=a*b/\a*b<=A*B:=by
 have hA:0<=A:=l9;have hB:0<=B:=l9;have k1:a*b<=A*B/\-(A*B)<=a*b:=by
  rcases Ri a 0 with ha|ha
  .have e:a*b=-((-a)*b):=by rw[jZ];omega
   rcases Ri b 0 with hb|hb
   .have e2:a*b=(-a)*(-b):=by rw[Int.neg_mul_neg]
    have:=kJ (show -a<=A by omega) (show -b<=B by omega) l9 hA;have:=P9 (show 0<=-a by omega) (show 0<=-b by omega);have:=P9 hA hB;omega
   .have:=kJ (show -a<=A by omega) h2.2 hb hA;have:=P9 (show 0<=-a by omega) hb;have:=P9 hA hB;omega
  .rcases Ri b 0 with hb|hb
   .have e:a*b=-(a*(-b)):=by rw[Int.mul_neg];omega
    have:=kJ h1.2 (show -b<=B by omega) l9 hA;have:=P9 ha (show 0<=-b by omega);have:=P9 hA hB;omega
   .have:=kJ h1.2 h2.2 hb hA;have:=P9 ha hb;have:=P9 hA hB;omega
 exact⟨k1.2,k1.1⟩
theorem b8t(a b mode:Int):PK a b mode=some (a9Q a b mode):=by
 unfold PK a9Q;rw[Xv,o8];cases hm:oV mode
 .rfl
 simp only[D9,o6,o7];rw[AZ a l9 l9,o8];cases h1:jy a 1000000000
 case true=>rfl
 simp only[o6];rw[AZ b l9 l9,o8];cases h2:jy b 1000000000
 case true=>rfl
 simp only[o6];have pb:=a9H (nJ h1) (nJ h2);rw[mM O5,JG,o8];unfold a6z;rw[hm,J8 (show(1000000:Int)≠0 by decide),Qq l9,Qq l9];simp only[o7,o6,O0 (rfl:(0:Int)=0),D9];rw[AZ _ l9 l9,o8];cases jy (rnd (a*b) 1000000 mode) 1000000000<;>rfl
theorem a4G{A B:Option (PUnit⊕(Int×Int))} :l7 (D8 m 0) A (l7 (D8 5 m) A B)=l7 (oV m) B A:=by unfold oV;rw[oG m 0,oG 5 m];cases J6 0 m<;>cases J6 m 5<;>rfl
theorem b4I(a b mode:Int):LY a b mode=some (a9Q a b mode):=by
 unfold LY a9Q;have hmode:∀A B:Option (Int×Int),l7 (D8 mode 0) A (l7 (D8 5 mode) A B)=l7 (oV mode) B A:=λA B=>by unfold oV;rw[oG mode 0,oG 5 mode];cases J6 0 mode<;>cases J6 mode 5<;>rfl
 rw[hmode];cases hm:oV mode
 .rfl
 simp only[o7];rw[yY a l9 l9,o8];cases h1:jy a 1000000000
 case true=>rfl
 simp only[o6];rw[yY b l9 l9,o8];cases h2:jy b 1000000000
 case true=>rfl
 simp only[o6];have pb:=a9H (nJ h1) (nJ h2);rw[mM O5,a4i l9 l9 l9 l9,o8];simp only;rw[Kr l9 l9 l9 l9 hm,o8,yY _ l9 l9,o8];cases jy (rnd (a*b) 1000000 mode) 1000000000<;>rfl
theorem a7z(mode:Int)(hd:0<d):n / d<=rnd n d mode/\rnd n d mode<=n / d+1:=by
 have hid:Z8 d=d:=by unfold Z8;rw[if_neg l9]
 have hneg:D6 (jG (D8 n 0) (D8 d 0))=D8 n 0:=by rw[L8 (show(0:Int)<=d by omega)];cases D8 n 0<;>rfl
 unfold rnd;rw[hid,hneg];by_cases h0:0<=n
 .rw[show Z8 n=n by unfold Z8;rw[if_neg l9],L8 h0];exact d_ _ _
 .obtain⟨m,hmm⟩:∃m,m=-n:=⟨_,rfl⟩;have e2:=P8 m (show d≠0 by omega);have e3:=L9 m hd;have hdm2:=V7 m d;rw[show Z8 n=m by unfold Z8;rw[if_pos l9];omega,U7 l9];have hq:=d_ (m / d) (upS (m / d) (m % d) d true mode);by_cases hz:m % d=0
  .have hne:n=0+(-(m / d))*d:=by rw[jZ];omega
   have q1:n / d=-(m / d):=by rw[hne,aH _ _ l9];simp
   have hu:upS (m / d) (m % d) d true mode=false:=by unfold upS;rw[O0 hz];rfl
   rw[q1,hu];show -(m / d)<=-(m / d)/\-(m / d)<=-(m / d)+1;omega
  .have hne:n=(d -m % d)+(-(m / d) -1)*d:=by rw[lW,jZ,fP];omega
   have q1:n / d=-(m / d) -1:=by rw[hne,aH _ _ l9,mf l9 l9];omega
   rw[q1];show -(m / d) -1<=-(Go.GP.q1 _ _)/\-(Go.GP.q1 _ _)<=_;omega
theorem b8u(n d mode:Int)(hd:d<0):rnd n d mode=rnd (-n) (-d) mode:=by
 have e1:Z8 (-n)=Z8 n:=by unfold Z8;split<;>split<;>omega
 have e2:Z8 (-d)=Z8 d:=by unfold Z8;rw[if_neg l9,if_pos hd]
 unfold rnd;rw[e1,e2,U7 hd,L8 (show 0<=-d by omega)];by_cases h0:n=0
 .subst h0;have hz:Z8 0=0:=rfl;rw[hz,Int.zero_ediv,Int.zero_emod];have hu:∀b,upS 0 0 (Z8 d) b mode=false:=λb=>rfl;rw[hu,hu];rfl
 .by_cases h1:n<0
  .rw[U7 h1,L8 (show 0<=-n by omega)];rfl
  .rw[L8 l9,U7 (show -n<0 by omega)];rfl
def b8k(num den mode:Int):Int×Int:=l7 (oV mode) (l7 (x8 den 0) (0,12) (l7 (jy num 1000000000000000) (0,3) (l7 (jy den 1000000000000000) (0,3) (l7 (jy (rnd (num*1000000) den mode) 1000000000) (0,3) (rnd (num*1000000) den mode,0))))) (0,1)
theorem Ug(h:-9000000000000000000<=n)(h2:n<=9000000000000000000):wrap .u64 (nT n (H9 .i64 0 n))=Z8 n:=by
 rw[U1 O5];unfold nT Z8;by_cases h0:n<0
 .rw[if_pos l9,if_pos h0,show(0:Int) -n=-n by omega];exact GN l9 l9
 .rw[if_neg h0];by_cases hz:n=0
  .subst hz;rfl
  .rw[if_neg l9];exact GN l9 l9
theorem a2h(num den mode:Int):zf num den mode=some (b8k num den mode):=by
 unfold zf b8k;rw[Xv,o8];cases hm:oV mode
 .rfl
 simp only[D9,o6,o7];cases hd:x8 den 0
 case true=>rfl
 rw[AA]at hd;simp only[o6];rw[AZ num l9 l9,o8];cases h1:jy num 1000000000000000
 case true=>rfl
 simp only[o6];rw[AZ den l9 l9,o8];cases h2:jy den 1000000000000000
 case true=>rfl
 simp only[o6];have b1:=nJ h1;have b2:=nJ h2;have a1:=lV num;have a2:=zS b1;have d1:=Ph hd;have d2:=zS b2;rw[Ug l9 l9,Ug l9 l9,Ut a1 l9 l9 l9,o8];have hN:Z8 (num*1000000)=Z8 num*1000000:=by unfold Z8;split<;>split<;>omega
 have hsgn:D8 (num*1000000) 0=D8 num 0:=by
  by_cases h:num<0
  .rw[U7 h,U7 l9]
  .rw[L8 l9,L8 l9]
 have hA:0<=Z8 num*1000000:=l9;have hrn:rnd (num*1000000) den mode=sg (q1 (Z8 num*1000000 / Z8 den) (upS (Z8 num*1000000 / Z8 den) (Z8 num*1000000 % Z8 den) (Z8 den) (D6 (jG (D8 num 0) (D8 den 0))) mode)) (D6 (jG (D8 num 0) (D8 den 0))):=by unfold rnd;rw[hN,hsgn]
 rw[hrn];have hA2:Z8 num*1000000<18446744073709551616*1000:=l9;generalize Z8 num*1000000=A at*;generalize Z8 den=b at*;generalize D6 (jG (D8 num 0) (D8 den 0))=neg at*;have hre:A / 18446744073709551616*18446744073709551616+A % 18446744073709551616=A:=l9;have q:=d_ (A / b) (upS (A / b) (A % b) b neg mode);have e0:=X3 hA (show 0<=b by omega);have e2:=P8 A (show b≠0 by omega);have e3:=L9 A d1;rw[b2w l9 _ l9];by_cases hh:b<=A / 18446744073709551616
 .have hge:18446744073709551616<=A / b:=rP d1 l9;rw[Y6 hh,U7 (show(1000000000:Int)<q1 (A / b) (upS (A / b) (A % b) b neg mode) by omega)];rfl
 .rw[Z5 l9,o6,YY l9 l9 l9 l9 l9,o8,hre];simp only;by_cases hM:1000000000<A / b
  .rw[U7 hM,U7 (show(1000000000:Int)<q1 (A / b) (upS (A / b) (A % b) b neg mode) by omega)];rfl
  .have w1:wrap .i64 (A / b)=A / b:=ny O5;have w2:x9 .i64 (A / b) 1=A / b+1:=U9 O5;have w3:H9 .i64 0 (A / b+1)=-(A / b+1):=by rw[U1 O5];omega
   have w4:H9 .i64 0 (A / b)=-(A / b):=by rw[U1 O5];omega
   rw[L8 l9,o6,a5v _ _ e2 e3 l9,o8,w1,w2,w3,w4];unfold Go.GP.q1 sg;cases upS (A / b) (A % b) b neg mode
   .simp only[o6];cases D8 1000000000 (A / b)<;>cases neg<;>rfl
   .simp only[o7];cases D8 1000000000 (A / b+1)<;>cases neg<;>rfl
theorem m_(h1:-1000000000000000<=n)(h2:n<=1000000000000000)(hd:0<d)(hd2:d<=1000000000000000)(hm:oV mode=true):
  (o5 (zi n d) λ(x:Int×Int)=>o5 (ku x.1 1001) λ(x_1:Bool)=>l7 x_1 (some ((0:Int),(3:Int))) (o5 (qC .i64 (Z4 .i64 x.2 1000) d) λ(x_2:Int)=>o5 (Au (Z4 .i64 x.2 1000) d) λ(x_3:Int)=>
   o5 (qC .i64 (Z4 .i64 x_3 1000) d) λ(x_4:Int)=>o5 (Au (Z4 .i64 x_3 1000) d) λ(x_5:Int)=>o5 (dn (x9 .i64 (x9 .i64 (Z4 .i64 x.1 1000000) (Z4 .i64 x_2 1000)) x_4) x_5 d mode) λ(x:Int)=>
    o5 (ku x 1000000000) λ(x_6:Bool)=>l7 x_6 (some (0,3)) (some (x,0))))=some (l7 (jy (rnd (n*1000000) d mode) 1000000000) (0,3) (rnd (n*1000000) d mode,0)):=by
 have hdm:=V7 n d;have r0:=P8 n (show d≠0 by omega);have r1:=L9 n hd;have hrb:=a7z (n:=n*1000000) mode hd;rw[a4i l9 l9 hd l9,o8];simp only;rw[yY _ l9 l9,o8];have hN:n*1000000=n % d*1000000+(n / d*1000000)*d:=by rw[jC];omega
 have hF:n*1000000 / d=n % d*1000000 / d+n / d*1000000:=by rw[hN,aH _ _ l9]
 have hR:n*1000000 % d=n % d*1000000 % d:=by rw[hN,bK]
 have s0:0<=n % d*1000000 / d:=X3 l9 l9;have s1:n % d*1000000 / d<1000000:=mO hd l9;cases hb:jy (n / d) 1001
 case true=>have hbb:=a6o hb;have:jy (rnd (n*1000000) d mode) 1000000000=true:=TN.2 l9;rw[this];rfl
 have bb:=nJ hb;simp only[o6];generalize n % d=r at*;generalize n / d=q at*;have t1:Z4 .i64 r 1000=r*1000:=mM O5;have e1:=V7 (r*1000) d;have e2:=P8 (r*1000) (show d≠0 by omega);have e3:=L9 (r*1000) hd;have e4:=X3 (show 0<=r*1000 by omega) (show 0<=d by omega);have e5:r*1000 / d<1000:=mO hd l9;rw[t1,xR l9 l9 hd,o8,CQ l9 hd,o8];generalize hr1:r*1000 % d=r1 at*;generalize ha:r*1000 / d=a at*;have t2:Z4 .i64 r1 1000=r1*1000:=mM O5;have f1:=V7 (r1*1000) d;have f2:=P8 (r1*1000) (show d≠0 by omega);have f3:=L9 (r1*1000) hd;have f4:=X3 (show 0<=r1*1000 by omega) (show 0<=d by omega);have f5:r1*1000 / d<1000:=mO hd l9;rw[t2,xR l9 l9 hd,o8,CQ l9 hd,o8];have hr6:r*1000000=r1*1000+(a*1000)*d:=by rw[jC];omega
 have hF2:r*1000000 / d=r1*1000 / d+a*1000:=by rw[hr6,aH _ _ l9]
 have hR2:r*1000000 % d=r1*1000 % d:=by rw[hr6,bK]
 rw[mM (show jw (q*1000000) by unfold jw;omega),mM (show jw (a*1000) by unfold jw;omega),U9 (show jw (q*1000000+a*1000) by unfold jw;omega),U9 (show jw (q*1000000+a*1000+r1*1000 / d) by unfold jw;omega)];rw[show q*1000000+a*1000+r1*1000 / d=n*1000000 / d by rw[hF,hF2];omega,show r1*1000 % d=n*1000000 % d by rw[hR,hR2]];rw[Kr (by rw[hF];omega) (by rw[hF];omega) hd l9 hm,o8,yY _ l9 l9,o8];cases jy (rnd (n*1000000) d mode) 1000000000<;>rfl
theorem a0s(num den mode:Int):xO num den mode=some (b8k num den mode):=by
 unfold xO b8k;rw[a4G];cases hm:oV mode
 .rfl
 simp only[o7,o8,J7];cases hd:x8 den 0
 case true=>rfl
 rw[AA]at hd;simp only[o6];rw[yY num l9 l9,o8];cases h1:jy num 1000000000000000
 case true=>rfl
 simp only[o6];rw[yY den l9 l9,o8];cases h2:jy den 1000000000000000
 case true=>rfl
 simp only[o6];have b1:=nJ h1;have b2:=nJ h2;by_cases hn:den<0
 .rw[U7 hn,o7,U1 (show jw (0 -num) by unfold jw;omega),U1 (show jw (0 -den) by unfold jw;omega),show(0:Int) -num=-num by omega,show(0:Int) -den=-den by omega,b8u _ _ _ hn,show -(num*1000000)=-num*1000000 by rw[jZ]];exact m_ l9 l9 l9 l9 hm
 .rw[L8 l9,o6];exact m_ l9 l9 l9 l9 hm
def FT(len n:Int):Int×Int×Bool:=l7 (D8 1000000000000000 (len*Z8 n / 1000000)) (0,0,false) (l7 (D8 n 0) (-(len*Z8 n / 1000000),-(len*Z8 n % 1000000),true) (len*Z8 n / 1000000,len*Z8 n % 1000000,true))
variable {len:Int}
theorem b7E(h1:1<=len)(h2:len<=1000000000000000)(hn:jw n):xC len n=some (FT len n):=by
 unfold jw at hn;have key:∀m:Int,m=Z8 n->(o5 (vI (wrap .u64 len) m) λ(x:Int×Int)=>l7 (J6 1000000 x.1) (some ((0:Int),(0:Int),false)) (o5 (nG x.1 x.2 1000000) λ(x:Int×Int)=>l7 (D8 1000000000000000 x.1) (some (0,0,false))
   (l7 (D8 n 0) (some (H9 .i64 0 (wrap .i64 x.1),H9 .i64 0 (wrap .i64 x.2),true)) (some (wrap .i64 x.1,wrap .i64 x.2,true)))))=some (FT len n):=by
  intro m hm;have m0:=lV n;have m1:m<=9223372036854775808:=by rw[hm];unfold Z8;split<;>omega
  rw[←hm]at m0;rw[show wrap .u64 len=len from GN l9 l9,Ut l9 l9 m0 l9,o8];unfold FT;rw[←hm];have hA:0<=len*m:=P9 l9 m0;generalize len*m=A at*;have hre:A / 18446744073709551616*18446744073709551616+A % 18446744073709551616=A:=l9;simp only;by_cases hh:1000000<=A / 18446744073709551616
  .rw[Y6 hh,U7 (show(1000000000000000:Int)<A / 1000000 by omega)];rfl
  .rw[Z5 l9,o6,YY l9 l9 l9 l9 l9,o8,hre];simp only;by_cases hM:1000000000000000<A / 1000000
   .rw[U7 hM];rfl
   .rw[L8 l9,o6,o6,show wrap .i64 (A / 1000000)=A / 1000000 from ny O5,show wrap .i64 (A % 1000000)=A % 1000000 from ny O5,U1 O5,U1 O5,
     show(0:Int) -A / 1000000=-(A / 1000000) by omega,show(0:Int) -A % 1000000=-(A % 1000000) by omega]
    cases D8 n 0<;>rfl
 unfold xC;by_cases h0:n<0
 .have hk:=key (H9 .u64 0 (wrap .u64 n)) (by
   show IntKind.wrap .u64 (0 -IntKind.wrap .u64 n)=_;unfold Z8;rw[if_pos h0,Bq,Bq];omega)
  rw[U7 h0]at hk ⊢;exact hk
 .have hk:=key (wrap .u64 n) (by
   show IntKind.wrap .u64 n=_;unfold Z8;rw[if_neg h0,Bq];omega)
  rw[L8 l9]at hk ⊢;exact hk
theorem b4F(h1:1<=len)(h2:len<=1000000000000000)(hn:jw n):xx len n=some (FT len n):=by
 unfold jw at hn;have hm:(l7 (D8 n 0) (some (x9 .u64 (wrap .u64 (H9 .i64 0 (x9 .i64 n 1))) 1)) (some (wrap .u64 n)))=some (Z8 n):=by
  by_cases h0:n<0
  .rw[U7 h0,o7,U9 O5,U1 O5,show wrap .u64 (0 -(n+1))=-n -1 from(GN l9 l9).trans l9,show x9 .u64 (-n -1) 1=-n from(GN l9 l9).trans l9];unfold Z8;rw[if_pos h0]
  .rw[L8 l9,o6,show wrap .u64 n=n from GN l9 l9];unfold Z8;rw[if_neg h0]
 have m0:=lV n;have m1:Z8 n<=9223372036854775808:=by unfold Z8;split<;>omega
 unfold xx FT;rw[hm,o8];generalize Z8 n=m at*;have c1:eH .u64 m 1000000=m / 1000000:=by unfold eH;rw[kF m0,GN l9 l9]
 have c2:eU m 1000000=m % 1000000:=AV m0;have c3:wrap .i64 (m / 1000000)=m / 1000000:=ny O5;have c4:wrap .i64 (m % 1000000)=m % 1000000:=ny O5;have c5:eH .i64 len 1000000=len / 1000000:=by rw[Dz (by rw[kF l9];unfold jw;omega),kF l9]
 have c6:eU len 1000000=len % 1000000:=AV l9;rw[c1,c2,c3,c4,c5,c6];have hmd:m=m / 1000000*1000000+m % 1000000:=l9;have b0:0<=m % 1000000:=l9;have b1:m % 1000000<1000000:=l9;have a0:0<=m / 1000000:=l9;have a1:m / 1000000<=9223372036855:=l9;have hA:len*m=(len*(m / 1000000)+len / 1000000*(m % 1000000))*1000000+len % 1000000*(m % 1000000):=by
  have e1:len*m=len*(m / 1000000)*1000000+len*(m % 1000000):=by
   calc len*m=len*(m / 1000000*1000000+m % 1000000):=by rw[←hmd]
    _=_:=by rw[Int.mul_add,Int.mul_assoc]
  have e2:len*(m % 1000000)=len / 1000000*(m % 1000000)*1000000+len % 1000000*(m % 1000000):=by
   calc len*(m % 1000000)=(len / 1000000*1000000+len % 1000000)*(m % 1000000):=by rw[show len / 1000000*1000000+len % 1000000=len by omega]
    _=_:=by rw[iL,jC]
  rw[e1,e2];omega
 have l0:0<=len % 1000000*(m % 1000000):=P9 l9 b0;have l1:len % 1000000*(m % 1000000)<=1000000*1000000:=kJ l9 l9 b0 l9;have p0:0<=len / 1000000*(m % 1000000):=P9 l9 b0;have p1:len / 1000000*(m % 1000000)<=1000000000*1000000:=kJ l9 l9 b0 l9;have k0:0<=len*(m / 1000000):=P9 l9 a0;have c7:Z4 .i64 (len % 1000000) (m % 1000000)=len % 1000000*(m % 1000000):=mM O5;have c8:Z4 .i64 (len / 1000000) (m % 1000000)=len / 1000000*(m % 1000000):=mM O5;rw[c7,c8];have hdiv:len*m / 1000000=len*(m / 1000000)+len / 1000000*(m % 1000000)+len % 1000000*(m % 1000000) / 1000000:=by rw[hA];omega
 have hmod:len*m % 1000000=len % 1000000*(m % 1000000) % 1000000:=by rw[hA];omega
 rw[hdiv,hmod];have c9:eH .i64 (len % 1000000*(m % 1000000)) 1000000=len % 1000000*(m % 1000000) / 1000000:=by rw[Dz (by rw[kF l0];unfold jw;omega),kF l0]
 have c10:eU (len % 1000000*(m % 1000000)) 1000000=len % 1000000*(m % 1000000) % 1000000:=AV l0;rw[c9,c10];have tail:len*(m / 1000000)<=1000000000000000->l7 (D8 1000000000000000 (x9 .i64 (x9 .i64 (Z4 .i64 len (m / 1000000)) (len / 1000000*(m % 1000000))) (len % 1000000*(m % 1000000) / 1000000))) (some ((0:Int),(0:Int),false))
   (l7 (D8 n 0) (some (H9 .i64 0 (x9 .i64 (x9 .i64 (Z4 .i64 len (m / 1000000)) (len / 1000000*(m % 1000000))) (len % 1000000*(m % 1000000) / 1000000)),H9 .i64 0 (len % 1000000*(m % 1000000) % 1000000),true)) (some (x9 .i64 (x9 .i64 (Z4 .i64 len (m / 1000000)) (len / 1000000*(m % 1000000))) (len % 1000000*(m % 1000000) / 1000000),len % 1000000*(m % 1000000) % 1000000,true)))=
   some (l7 (D8 1000000000000000 (len*(m / 1000000)+len / 1000000*(m % 1000000)+len % 1000000*(m % 1000000) / 1000000)) (0,0,false) (l7 (D8 n 0) (-(len*(m / 1000000)+len / 1000000*(m % 1000000)+len % 1000000*(m % 1000000) / 1000000),-(len % 1000000*(m % 1000000) % 1000000),true) (len*(m / 1000000)+len / 1000000*(m % 1000000)+len % 1000000*(m % 1000000) / 1000000,len % 1000000*(m % 1000000) % 1000000,true))):=by
  intro hle;rw[mM (show jw (len*(m / 1000000)) by unfold jw;omega)];generalize len*(m / 1000000)=K at*;generalize len / 1000000*(m % 1000000)=P at*;generalize len % 1000000*(m % 1000000)=L at*;rw[U9 (show jw (K+P) by unfold jw;omega),U9 (show jw (K+P+L / 1000000) by unfold jw;omega),U1 (show jw (0 -(K+P+L / 1000000)) by unfold jw;omega),U1 (show jw (0 -L % 1000000) by unfold jw;omega),show(0:Int) -(K+P+L / 1000000)=-(K+P+L / 1000000) by omega,show(0:Int) -L % 1000000=-(L % 1000000) by omega];cases D8 1000000000000000 (K+P+L / 1000000)<;>cases D8 n 0<;>rfl
 by_cases ha:0<m / 1000000
 .rw[U7 ha,o7,xR l9 l9 ha,o8];have hMx:=V7 1000000000000000 (m / 1000000);have hMr:=L9 1000000000000000 ha;have hMr0:=P8 1000000000000000 (show m / 1000000≠0 by omega);by_cases hc:1000000000000000 / (m / 1000000)<len
  .have:=O6 (show 1000000000000000 / (m / 1000000)+1<=len by omega) a0;rw[iL,fP]at this;rw[U7 hc,U7 (show(1000000000000000:Int)<len*(m / 1000000)+len / 1000000*(m % 1000000)+len % 1000000*(m % 1000000) / 1000000 by omega)];rfl
  .have:=O6 (show len<=1000000000000000 / (m / 1000000) by omega) a0;rw[L8 l9,o6];exact tail l9
 .have:m / 1000000=0:=l9;rw[L8 l9,o6];exact tail (by rw[this];simp)
theorem w_{F R j:Int}(hm:oV mode=true)(h1:-4000000000000000000<=F)(h2:F<=4000000000000000000)(h3:-2000000000000000000<=j)(h4:j<=2000000000000000000)(hR:0<=R)(hR2:R<1000000)(hs:0<=F↔0<=F+2*j):
  dn (F+2*j) R 1000000 mode=(dn F R 1000000 mode).map λv=>v+2*j:=by
 have R0:∀F R:Int,dn F R 1000000 0=l7 (x8 R 0) (some F) (some F):=λF R=>rfl;have R1:∀F R:Int,dn F R 1000000 1=l7 (x8 R 0) (some F) (some (x9 .i64 F 1)):=λF R=>rfl;have R2:∀F R:Int,dn F R 1000000 2=l7 (x8 R 0) (some F) (o5 (l7 (D8 F 0) (some true) (some false)) λx=>l7 x (some (x9 .i64 F 1)) (some F)):=λF R=>rfl;have R3:∀F R:Int,dn F R 1000000 3=l7 (x8 R 0) (some F) (o5 (some (J6 0 F)) λx=>l7 x (some (x9 .i64 F 1)) (some F)):=λF R=>rfl;have R4:∀F R:Int,dn F R 1000000 4=l7 (x8 R 0) (some F) (l7 (x8 R (H9 .i64 1000000 R)) (l7 (J6 0 F) (some (x9 .i64 F 1)) (some F)) (l7 (D8 (H9 .i64 1000000 R) R) (some (x9 .i64 F 1)) (some F))):=λF R=>rfl;have R5:∀F R:Int,dn F R 1000000 5=l7 (x8 R 0) (some F) (l7 (x8 R (H9 .i64 1000000 R)) (l7 (D6 (x8 (eU F 2) 0)) (some (x9 .i64 F 1)) (some F)) (l7 (D8 (H9 .i64 1000000 R) R) (some (x9 .i64 F 1)) (some F))):=λF R=>rfl;have hi:x9 .i64 F 1=F+1:=U9 O5;have hi2:x9 .i64 (F+2*j) 1=F+1+2*j:=by rw[U9 O5];omega
 have hlt:D8 (F+2*j) 0=D8 F 0:=by
  by_cases h:0<=F
  .rw[L8 h,L8 (hs.1 h)]
  .rw[U7 l9,U7 (by have:=λh' =>h (hs.2 h');omega)]
 have hle:J6 0 (F+2*j)=J6 0 F:=by rw[BA,BA,hlt]
 have hpar:x8 (eU (F+2*j) 2) 0=x8 (eU F 2) 0:=by
  unfold eU x8;congr 1;have e1:∀x:Int,x.tmod 2=0↔x % 2=0:=λx=>by rw[←Int.dvd_iff_tmod_eq_zero,Int.dvd_iff_emod_eq_zero]
  simp only[e1];congr 1;omega
 rcases JR hm with rfl|rfl|rfl|rfl|rfl|rfl
 .rw[R0,R0];cases x8 R 0<;>rfl
 .rw[R1,R1,hi,hi2];cases x8 R 0<;>rfl
 .rw[R2,R2,hi,hi2,hlt];cases x8 R 0<;>cases D8 F 0<;>rfl
 .rw[R3,R3,hi,hi2,hle];cases x8 R 0<;>cases J6 0 F<;>rfl
 .rw[R4,R4,hi,hi2,hle];cases x8 R 0<;>cases x8 R (H9 .i64 1000000 R)<;>cases J6 0 F<;>cases D8 (H9 .i64 1000000 R) R<;>rfl
 .rw[R5,R5,hi,hi2,hpar];cases x8 R 0<;>cases x8 R (H9 .i64 1000000 R)<;>cases x8 (eU F 2) 0<;>cases D8 (H9 .i64 1000000 R) R<;>rfl
variable {j:Int}
theorem b1G(hm:oV mode=true)(h1:-4000000000000000000<=n)(h2:n<=4000000000000000000)(h3:-2000000000000000<=j)(h4:j<=2000000000000000)(hs:0<=n↔0<=n+2*j*1000000):rnd (n+2*j*1000000) 1000000 mode=rnd n 1000000 mode+2*j:=by
 have a1:=Kr (n:=n) (d:=1000000) (mode:=mode) l9 l9 l9 l9 hm;have a2:=Kr (n:=n+2*j*1000000) (d:=1000000) (mode:=mode) l9 l9 l9 l9 hm;rw[show(n+2*j*1000000) / 1000000=n / 1000000+2*j by omega,show(n+2*j*1000000) % 1000000=n % 1000000 by omega,
  w_ hm l9 l9 l9 l9 l9 l9 l9,a1]at a2
 exact(ay a2).symm
def a0A(W L mode:Int):Int×Int:=l7 (jy (rnd (W*1000000+L) 1000000 mode) 1000000000000000) (0,3) (rnd (W*1000000+L) 1000000 mode,0)
theorem M_{V p L j mode:Int}(hm:oV mode=true)(hV:-2000000000000000<=V)(hV2:V<=2000000000000000)(hp:-3<=p)(hp2:p<=3)(hL:-1000000<L)(hL2:L<1000000)(hj:V -p=2*j)(hs:0<=p*1000000+L↔0<=V*1000000+L):
  (o5 (jQ (x9 .i64 (Z4 .i64 p 1000000) L) 1000000 mode) λ(x:Int×Int)=>l7 (D6 (x8 x.2 0)) (some ((0:Int),x.2)) (l7 (D8 (x9 .i64 (H9 .i64 V p) x.1) (-1000000000000000)) (some (0,3)) (l7 (D8 1000000000000000 (x9 .i64 (H9 .i64 V p) x.1)) (some (0,3)) (some (x9 .i64 (H9 .i64 V p) x.1,0)))))=
  some (a0A V L mode):=by
 rw[mM (show jw (p*1000000) by unfold jw;omega),U9 (show jw (p*1000000+L) by unfold jw;omega),U1 (show jw (V -p) by unfold jw;omega),JG,o8];unfold a6z;rw[hm,J8 (show(1000000:Int)≠0 by decide),Qq l9,Qq l9];have hb:=a7z (n:=p*1000000+L) (d:=1000000) mode l9;have hsh:=b1G (n:=p*1000000+L) (j:=j) hm l9 l9 l9 l9 (by rw[show p*1000000+L+2*j*1000000=V*1000000+L by omega];exact hs);rw[show p*1000000+L+2*j*1000000=V*1000000+L by omega]at hsh;simp only[o7,o6,O0 (rfl:(0:Int)=0),D9];unfold a0A jy;rw[hsh,hj,U9 (show jw (2*j+rnd (p*1000000+L) 1000000 mode) by unfold jw;omega),show rnd (p*1000000+L) 1000000 mode+2*j=2*j+rnd (p*1000000+L) 1000000 mode by omega];cases D8 (2*j+rnd (p*1000000+L) 1000000 mode) (-1000000000000000)<;>cases D8 1000000000000000 (2*j+rnd (p*1000000+L) 1000000 mode)<;>rfl
theorem b0a(hd:0<d):(0<=n->0<=n.tmod d/\n.tmod d<d)/\(n<=0->-d<n.tmod d/\n.tmod d<=0):=by
 refine⟨λh=>?_,λh=>?_⟩
 .rw[fK h];exact⟨P8 n l9,L9 n hd⟩
 .obtain⟨m,hm⟩:∃m,n=-m:=⟨-n,l9⟩;subst hm;rw[Int.neg_tmod,fK l9];have:=P8 m (show d≠0 by omega);have:=L9 m hd;omega
theorem a5u{W L mode:Int}(hm:oV mode=true)(hW:-1000000000000000000<=W)(hW2:W<=1000000000000000000)(hL:-1000000000<=L)(hL2:L<=1000000000):Et W L mode=some (a0A W L mode):=by
 unfold Et;have hd:=Int.tdiv_mul_add_tmod L 1000000;have htm:=b0a (n:=L) (d:=1000000) l9;have t1:eH .i64 L 1000000=L.tdiv 1000000:=Dz O5;have t2:eU L 1000000=L.tmod 1000000:=rfl;have hr1:-1000000<L.tmod 1000000:=l9;have hr2:L.tmod 1000000<1000000:=l9;rw[t1,t2,U9 (show jw (W+L.tdiv 1000000) by unfold jw;omega)];have hT:W*1000000+L=(W+L.tdiv 1000000)*1000000+L.tmod 1000000:=l9;have hsum:a0A W L mode=a0A (W+L.tdiv 1000000) (L.tmod 1000000) mode:=by unfold a0A;rw[hT]
 rw[hsum];have hVb:-2000000000000000000<=W+L.tdiv 1000000/\W+L.tdiv 1000000<=2000000000000000000:=l9;generalize W+L.tdiv 1000000=V at*;generalize L.tmod 1000000=M at*;have hb:=a7z (n:=V*1000000+M) (d:=1000000) mode l9;by_cases c1:V< -2000000000000000
 .rw[U7 c1,o7];unfold a0A;rw[TN.2 l9];rfl
 by_cases c2:2000000000000000<V
 .rw[L8 l9,o6,U7 c2,o7];unfold a0A;rw[TN.2 l9];rfl
 rw[L8 l9,o6,L8 l9,o6];have t3:eU V 2=V.tmod 2:=rfl;rw[t3];have hv2:=Int.tdiv_mul_add_tmod V 2;have htv:=b0a (n:=V) (d:=2) l9;by_cases c3:1<V
 .rw[U7 c3,o7,U9 (show jw (V.tmod 2+2) by unfold jw;omega)];exact M_ (j:=V.tdiv 2 -1) hm l9 l9 l9 l9 hr1 hr2 l9 l9
 rw[L8 l9,o6];by_cases c4:V< -1
 .rw[U7 c4,o7,U1 (show jw (V.tmod 2 -2) by unfold jw;omega)];exact M_ (j:=V.tdiv 2+1) hm l9 l9 l9 l9 hr1 hr2 l9 l9
 rw[L8 l9,o6];exact M_ (j:=V.tdiv 2) hm l9 l9 l9 l9 hr1 hr2 l9 l9
theorem a0u{W L mode:Int}(hm:oV mode=true)(hW:-1000000000000000000<=W)(hW2:W<=1000000000000000000)(hL:-1000000000<=L)(hL2:L<=1000000000):FD W L mode=some (rnd (W*1000000+L) 1000000 mode):=by
 unfold FD;obtain⟨e,k1,k2⟩:=iy (f:=λ(x:Int×Int)=>l7 (D8 x.2 0) (some (.inl (H9 .i64 x.1 1,x9 .i64 x.2 1000000))) (some (.inr x)))
  (s:=(W,L)) (λx=>x.1*1000000+x.2=W*1000000+L/\-1000000000<=x.2/\x.2<=1000000000/\-2000000000000000000<=x.1/\x.1<=2000000000000000000) (λx=>x.1*1000000+x.2=W*1000000+L/\0<=x.2/\x.2<=1000000000/\-2000000000000000000<=x.1/\x.1<=2000000000000000000) (λx=>(1000000000 -x.2).toNat) ⟨by rfl,hL,hL2,l9,l9⟩ l9 (by
  rintro⟨a,b⟩ ⟨h1,h2,h3,h4,h5⟩;simp only at h1 h2 h3 h4 h5 ⊢;by_cases hb:b<0
  .left;rw[U7 hb,o7,U1 (show jw (a -1) by unfold jw;omega),U9 (show jw (b+1000000) by unfold jw;omega)];exact⟨_,rfl,⟨by simp only;omega,by simp only;omega,by simp only;omega,by simp only;omega,by simp only;omega⟩,by simp only;omega⟩
  .right;rw[L8 l9];exact⟨(a,b),rfl,h1,l9,h3,h4,h5⟩)
 refine(lq k1 _).trans ?_;obtain⟨a,b⟩:=e;simp only at k2;obtain⟨e,l1,l2⟩:=iy (f:=λ(x:Int×Int)=>l7 (J6 1000000 x.2) (some (.inl (x9 .i64 x.1 1,H9 .i64 x.2 1000000))) (some (.inr x)))
  (s:=(a,b)) (λx=>x.1*1000000+x.2=W*1000000+L/\0<=x.2/\x.2<=1000000000/\-2000000000000000000<=x.1/\x.1<=2000000000000000000) (λx=>x.1=(W*1000000+L) / 1000000/\x.2=(W*1000000+L) % 1000000) (λx=>x.2.toNat) k2 (by simp only;omega) (by
  rintro⟨a,b⟩ ⟨h1,h2,h3,h4,h5⟩;simp only at h1 h2 h3 h4 h5 ⊢;by_cases hb:1000000<=b
  .left;rw[Y6 hb,o7,U9 (show jw (a+1) by unfold jw;omega),U1 (show jw (b -1000000) by unfold jw;omega)];exact⟨_,rfl,⟨by simp only;omega,by simp only;omega,by simp only;omega,by simp only;omega,by simp only;omega⟩,by simp only;omega⟩
  .right;rw[Z5 l9];exact⟨(a,b),rfl,by simp only;omega,by simp only;omega⟩)
 refine(lq l1 _).trans ?_;obtain⟨F,R⟩:=e;simp only at l2 ⊢;obtain⟨rfl,rfl⟩:=l2;generalize hT:W*1000000+L=T at*;have hid:Z8 1000000=1000000:=rfl;have hneg:D6 (jG (D8 T 0) (D8 1000000 0))=D8 T 0:=by rw[L8 (show(0:Int)<=1000000 by omega)];cases D8 T 0<;>rfl
 by_cases h0:0<=T
 .rw[Y6 (show 0<=T / 1000000 by omega),o7,FY _ _ l9 l9 l9 l9 l9,o8];unfold rnd;rw[hid,hneg,L8 h0,show Z8 T=T by unfold Z8;rw[if_neg l9]]
 .rw[Z5 (show T / 1000000<0 by omega),o6];unfold rnd;rw[hid,hneg,U7 l9,show Z8 T=-T by unfold Z8;rw[if_pos l9]];by_cases hz:T % 1000000=0
  .rw[O0 hz,o7];have hu:upS (-T / 1000000) (-T % 1000000) 1000000 true mode=false:=by unfold upS;rw[O0 (show -T % 1000000=0 by omega)];rfl
   rw[hu];show some (T / 1000000)=some (-(-T / 1000000));congr 1;omega
  .rw[J8 hz,o6,U1 (show jw (0 -T / 1000000) by unfold jw;omega),U1 (show jw (0 -T / 1000000 -1) by unfold jw;omega),U1 (show jw (1000000 -T % 1000000) by unfold jw;omega),FY _ _ l9 l9 l9 l9 l9,o8];rw[show 0 -T / 1000000 -1=-T / 1000000 by omega,show 1000000 -T % 1000000=-T % 1000000 by omega]
def a8B(r:xH):Prop:=jw r.2.1/\jw r.2.2.1/\jw r.2.2.2
def pY(t:dC):Prop:=t.2.2.2.length<=200/\∀r∈t.2.2.2,a8B r
theorem a1Z(h:(FT len n).2.2=true)(hl:0<=len):-1000000000000000<=(FT len n).1/\(FT len n).1<=1000000000000000/\-1000000<=(FT len n).2.1/\(FT len n).2.1<=1000000:=by
 have hA:0<=len*Z8 n:=P9 hl (lV n);unfold FT at*;generalize len*Z8 n=A at*;cases h1:D8 1000000000000000 (A / 1000000)<;>rw[h1]at h
 .rw[iE]at h1;cases D8 n 0
  .simp only[o6];omega
  .simp only[o6,o7];omega
 .cases h
def brG(date c:Int)(b:Int×Int)(r:xH):(Int×Int)⊕(Int×Int):=l7 (TT r.1 date) (l7 (J6 (qj r.2.2.1 c) (nT r.2.1 0)) (.inl b)
 (l7 (FT (qj r.2.2.1 c -nT r.2.1 0) r.2.2.2).2.2 (.inl (b.1+(FT (qj r.2.2.1 c -nT r.2.1 0) r.2.2.2).1,b.2+(FT (qj r.2.2.1 c -nT r.2.1 0) r.2.2.2).2.1)) (.inr (0,3)))) (.inl b)
def b7B(t:dC)(date c mode:Int):Int×Int:=l7 (oV mode) (l7 (U6 (x8 t.2.1.1 3) (x8 t.2.1.2 0)) (l7 (U6 (x8 t.2.2.1.1 4) (x8 t.2.2.1.2 0)) (l7 (jy c 1000000000000000) (0,3)
 (match fG (brG date c) t.2.2.2 (0,0)with| .inl b=>a0A b.1 b.2 mode| .inr r=>r)) (0,8)) (0,8)) (0,1)
def Yq(i:Nat)(b:Int×Int):Prop:=-(1000000000000000*(i:Int))<=b.1/\b.1<=1000000000000000*(i:Int)/\-(1000000*(i:Int))<=b.2/\b.2<=1000000*(i:Int)
theorem YH{r:xH}{c:Int}(hr:a8B r)(hc:-1000000000000000<=c)(hc2:c<=1000000000000000)(h:J6 (qj r.2.2.1 c) (nT r.2.1 0)=false):H9 .i64 (qj r.2.2.1 c) (nT r.2.1 0)=qj r.2.2.1 c -nT r.2.1 0/\1<=qj r.2.2.1 c -nT r.2.1 0/\qj r.2.2.1 c -nT r.2.1 0<=1000000000000000:=by
 obtain⟨h1,h2,h3⟩:=hr;obtain⟨lo,hlo⟩:∃lo:Int,r.2.1=lo:=⟨_,rfl⟩;obtain⟨hi,hhi⟩:∃hi:Int,r.2.2.1=hi:=⟨_,rfl⟩;rw[hlo]at h h1 ⊢;rw[hhi]at h h2 ⊢;rw[Gw]at h;have a1:0<=nT lo 0:=by unfold nT;split<;>omega
 have a2:qj hi c<=c:=by unfold qj;split<;>omega
 refine⟨U1 O5,l9,l9⟩
variable {i:Nat}
theorem b2z{date c:Int}{r:xH}{b:Int×Int}(hr:a8B r)(hc:-1000000000000000<=c)(hc2:c<=1000000000000000)(hi:i<=200)(hb:Yq i b):∀b',brG date c b r= .inl b' ->Yq (i+1) b' :=by
 intro b' h;unfold Yq at*;unfold brG at h;cases h1:TT r.1 date<;>rw[h1]at h
 .cases h;omega
 simp only[o7]at h;cases h2:J6 (qj r.2.2.1 c) (nT r.2.1 0)<;>rw[h2]at h
 .obtain⟨_,g1,g2⟩:=YH hr hc hc2 h2;simp only[o6]at h;cases h3:(FT (qj r.2.2.1 c -nT r.2.1 0) r.2.2.2).2.2<;>rw[h3]at h
  .cases h
  .have hbd:=a1Z h3 l9;cases h;simp only;omega
 .cases h;omega
theorem a3Q{t:dC}(date c mode:Int)(ht:pY t):Eo t date c mode=some (b7B t date c mode):=by
 unfold Eo b7B;rw[a4G];cases hm:oV mode
 .rfl
 simp only[o7,o8,J7];cases U6 (x8 t.2.1.1 3) (x8 t.2.1.2 0)
 .rfl
 cases U6 (x8 t.2.2.1.1 4) (x8 t.2.2.1.2 0)
 .rfl
 simp only[D9,o6,o7,o8,J7];have hbey:∀A B:Option (PUnit⊕(Int×Int)),l7 (D8 c (-1000000000000000)) A (l7 (D8 1000000000000000 c) A B)=l7 (jy c 1000000000000000) A B:=λA B=>by unfold jy;cases D8 c (-1000000000000000)<;>cases D8 1000000000000000 c<;>rfl
 rw[hbey];cases hb:jy c 1000000000000000
 case true=>rfl
 have bb:=nJ hb;simp only[o6,o8,J7];refine jq t.2.2.2 (brG date c) (λb i=>(b.1,b.2,i)) (λb=>b) Yq ((0,0):Int×Int) (by have:=ht.1;omega) (by unfold Yq;simp) (λi r b hr hi hI=>?_) (λb hI=>?_) (λhI=>?_)
 .have hro:=ht.2 r (iZ hr);have hlt:=(X0.1 hr).1;have h200:=ht.1;refine⟨?_,b2z hro bb.1 bb.2 l9 hI⟩;simp only[G9 hr,o7,E8,hr,o8,JC];rw[Y1 l9];unfold brG;cases TT r.1 date
  .rfl
  simp only[D9,o6,o7];cases h2:J6 (qj r.2.2.1 c) (nT r.2.1 0)
  case true=>rfl
  obtain⟨g0,g1,g2⟩:=YH hro bb.1 bb.2 h2;rw[g0,b7E g1 g2 hro.2.2];simp only[o6,o8];cases h3:(FT (qj r.2.2.1 c -nT r.2.1 0) r.2.2.2).2.2
  .rfl
  .have hbd:=a1Z h3 l9;unfold Yq at hI;rw[U9 O5,U9 O5];rfl
 .simp only[G6];rfl
 .cases hf:fG (brG date c) t.2.2.2 (0,0)with
  |inr r=>rfl|inl b=>have:=hI b hf;unfold Yq at this;have h200:=ht.1;simp only[J7];rw[a5u hm l9 l9 l9 l9];rfl
theorem a2H{t:dC}(date c mode:Int)(ht:pY t):DY t date c mode=some (b7B t date c mode):=by
 unfold DY b7B;rw[UI,o8];cases hm:oV mode
 .rfl
 simp only[D9,o6,o7];cases U6 (x8 t.2.1.1 3) (x8 t.2.1.2 0)
 .rfl
 cases U6 (x8 t.2.2.1.1 4) (x8 t.2.2.1.2 0)
 .rfl
 simp only[D9,o6,o7,o8,J7];rw[rX c l9 l9,o8];cases hb:jy c 1000000000000000
 case true=>rfl
 have bb:=nJ hb;simp only[o6];refine jq t.2.2.2 (brG date c) (λb i=>(b.1,b.2,i)) (λb=>b) Yq ((0,0):Int×Int) (by have:=ht.1;omega) (by unfold Yq;simp) (λi r b hr hi hI=>?_) (λb hI=>?_) (λhI=>?_)
 .have hro:=ht.2 r (iZ hr);have hlt:=(X0.1 hr).1;have h200:=ht.1;refine⟨?_,b2z hro bb.1 bb.2 l9 hI⟩;simp only[G9 hr,o7,E8,hr,o8,Nk];rw[Y1 l9];unfold brG;cases h2:J6 (qj r.2.2.1 c) (nT r.2.1 0)
  case true=>cases TT r.1 date<;>rfl
  simp only[o6];cases TT r.1 date
  .rfl
  obtain⟨g0,g1,g2⟩:=YH hro bb.1 bb.2 h2;rw[g0,b4F g1 g2 hro.2.2];simp only[D9,o6,o7,o8];cases h3:(FT (qj r.2.2.1 c -nT r.2.1 0) r.2.2.2).2.2
  .rfl
  .have hbd:=a1Z h3 l9;unfold Yq at hI;rw[U9 O5,U9 O5];rfl
 .simp only[G6];rfl
 .cases hf:fG (brG date c) t.2.2.2 (0,0)with
  |inr r=>rfl|inl b=>have:=hI b hf;unfold Yq at this;have h200:=ht.1;simp only[J7];rw[a0u hm l9 l9 l9 l9,o8,rX _ l9 l9,o8];unfold a0A;cases jy (rnd (b.1*1000000+b.2) 1000000 mode) 1000000000000000<;>rfl
def b7R(r:xH)(date key:Int):Bool:=l7 (TT r.1 date) (l7 (J6 r.2.1 key) (D8 key r.2.2.1) false) false
def Xf(rows:List xH)(date key:Int)(i:Nat):Option (Int×Bool):=match rows[i]? with|some r=>l7 (b7R r date key) (some ((i:Int),true)) none|none=>none
def Zy(rows:List xH)(date key:Int):Int×Bool:=match Z7 rows.length (Xf rows date key)with|some x=>x|none=>(0,false)
theorem b0N{t:dC}(date key:Int)(ht:t.2.2.2.length<=1000000):Iq t date key=some (Zy t.2.2.2 date key):=by
 unfold Iq xE Zy;rw[gy];refine V8 (rf (p:=Xf t.2.2.2 date key) t.2.2.2.length ht PUnit.unit (λi hi=>?_) ?_) ?_
 rotate_left 2
 .cases Z7 t.2.2.2.length (Xf t.2.2.2 date key)<;>rfl
 .have e:=fH hi;simp only[G9 e,o7,E8,e,o8,Jt,JC,Xf,b7R];cases TT t.2.2.2[i].1 date
  .rfl
  cases J6 t.2.2.2[i].2.1 key
  .rfl
  cases D8 key t.2.2.2[i].2.2.1<;>rfl
 .simp only[G6];rfl
theorem a7r{t:dC}(date key:Int)(ht:t.2.2.2.length<=1000000):Hy t date key=some (Zy t.2.2.2 date key):=by
 unfold Hy Zy;refine V8 (rf (p:=Xf t.2.2.2 date key) t.2.2.2.length ht PUnit.unit (λi hi=>?_) ?_) ?_
 rotate_left 2
 .cases Z7 t.2.2.2.length (Xf t.2.2.2 date key)<;>rfl
 .have e:=fH hi;simp only[G9 e,o7,E8,e,o8,KT,Nk,Xf,b7R];cases TT t.2.2.2[i].1 date
  .rfl
  cases J6 t.2.2.2[i].2.1 key
  .rfl
  cases D8 key t.2.2.2[i].2.2.1<;>rfl
 .simp only[G6];rfl
theorem b3p{rows:List xH}{date key i:Int}(h:Zy rows date key=(i,true)):0<=i/\i<o9 rows:=by
 unfold Zy at h;split at h
 .rename_i x hx;subst h;obtain⟨k,hk,hp⟩:=jv hx;unfold Xf at hp;split at hp
  .rename_i r hr;cases hmb:b7R r date key<;>rw[hmb]at hp
   .cases hp
   .cases hp;simp only[o9];omega
  .cases hp
 .cases h
abbrev V3:Type:=Int×Int×Int
def IJ(k:Int):Int×Int:=l7 (x8 k 1) (0,1) (l7 (x8 k 2) (-1000000000000,1000000000000) (l7 (x8 k 3) (-1000000000000000,1000000000000000) (l7 (x8 k 4) (-1000000000,1000000000) (l7 (x8 k 5) (0,109572) (l7 (x8 k 6) (0,15) (0,-1))))))
theorem a8O(k:Int):Ae k=some (IJ k):=by unfold Ae IJ;cases x8 k 1<;>cases x8 k 2<;>cases x8 k 3<;>cases x8 k 4<;>cases x8 k 5<;>cases x8 k 6<;>rfl
def plB(v:V3):Bool:=l7 (J6 (IJ v.1).1 v.2.2) (l7 (J6 v.2.2 (IJ v.1).2) (l7 (x8 v.1 6) (l7 (J6 0 v.2.1) (D8 v.2.1 8) false) (x8 v.2.1 0)) false) false
theorem xX(v:V3):gJ v=some (plB v):=by
 unfold gJ plB;rw[a8O,o8,oG,oG];cases J6 (IJ v.1).1 v.2.2
 .rfl
 cases J6 v.2.2 (IJ v.1).2
 .rfl
 cases x8 v.1 6
 .rfl
 cases J6 0 v.2.1<;>rfl
theorem zY(v:V3):iK v=some (plB v):=by
 obtain⟨k,e,n⟩:=v;unfold iK plB;simp only;by_cases h6:k=6
 .subst h6;rw[show IJ 6=(0,15)from rfl,O0 (rfl:(6:Int)=6)];simp only[D9,o6,o8,J7,J8 (show(6:Int)≠1 by decide),J8 (show(6:Int)≠2 by decide),J8 (show(6:Int)≠3 by decide),J8 (show(6:Int)≠4 by decide),J8 (show(6:Int)≠5 by decide),o7];rw[show D8 n 16=J6 n 15 by unfold D8 J6;congr 1;simp;omega];cases J6 0 e<;>cases D8 e 8<;>cases J6 0 n<;>cases J6 n 15<;>rfl
 rw[J8 h6];simp only[aJ,o7,o6];by_cases he:e=0
 case neg=>rw[J8 he];simp only[aJ,o7,o8,wP];cases J6 (IJ k).1 n<;>cases J6 n (IJ k).2<;>rfl
 rw[O0 he];simp only[D9,o6,o8,J7];by_cases h1:k=1
 .subst h1;rw[show IJ 1=(0,1)from rfl];simp only[O0 (rfl:(1:Int)=1),o7];by_cases n0:n=0
  .subst n0;rfl
  by_cases n1:n=1
  .subst n1;rfl
  rw[J8 n0,J8 n1];by_cases g:0<=n
  .rw[Y6 g,Z5 l9];rfl
  .rw[Z5 l9];rfl
 rw[J8 h1,o6];by_cases h2:k=2
 .subst h2;rw[show IJ 2=(-1000000000000,1000000000000)from rfl,O0 (rfl:(2:Int)=2)];simp only[o7];cases J6 (-1000000000000) n<;>cases J6 n 1000000000000<;>rfl
 rw[J8 h2,o6];by_cases h3:k=3
 .subst h3;rw[show IJ 3=(-1000000000000000,1000000000000000)from rfl,O0 (rfl:(3:Int)=3)];simp only[o7];cases J6 (-1000000000000000) n<;>cases J6 n 1000000000000000<;>rfl
 rw[J8 h3,o6];by_cases h4:k=4
 .subst h4;rw[show IJ 4=(-1000000000,1000000000)from rfl,O0 (rfl:(4:Int)=4)];simp only[o7];cases J6 (-1000000000) n<;>cases J6 n 1000000000<;>rfl
 rw[J8 h4,o6];by_cases h5:k=5
 .subst h5;rw[show IJ 5=(0,109572)from rfl,O0 (rfl:(5:Int)=5)];simp only[o7];cases J6 0 n<;>cases J6 n 109572<;>rfl
 rw[J8 h5,o6,show IJ k=(0,-1) by unfold IJ;rw[J8 h1,J8 h2,J8 h3,J8 h4,J8 h5,J8 h6];rfl];simp only[o6];by_cases g:0<=n
 .rw[Y6 g,Z5 (show(-1:Int)<n by omega)];rfl
 .rw[Z5 (show n<0 by omega)];rfl
def PV(v:V3):Prop:=(∃n,v=(1,0,n)/\(n=0\/n=1))\/(∃n,v=(2,0,n)/\-1000000000000<=n/\n<=1000000000000)\/(∃n,v=(3,0,n)/\-1000000000000000<=n/\n<=1000000000000000)\/(∃n,v=(4,0,n)/\-1000000000<=n/\n<=1000000000)\/(∃n,v=(5,0,n)/\0<=n/\n<=109572)\/(∃e n,v=(6,e,n)/\0<=n/\n<=15)
theorem a7n{v:V3}(h:plB v=true):PV v:=by
 obtain⟨k,e,n⟩:=v;unfold plB at h;simp only at h;cases h1:J6 (IJ k).1 n<;>rw[h1]at h
 .cases h
 cases h2:J6 n (IJ k).2<;>rw[h2]at h
 .cases h
 simp only[o7]at h;rw[pO]at h1 h2;unfold PV;by_cases k6:k=6
 .subst k6;rw[show IJ 6=(0,15)from rfl]at h1 h2;exact .inr (.inr (.inr (.inr (.inr ⟨e,n,rfl,h1,h2⟩))))
 rw[J8 k6,o6,Y5]at h;subst h;by_cases k1:k=1
 .subst k1;rw[show IJ 1=(0,1)from rfl]at h1 h2;exact .inl ⟨n,rfl,by simp only at h1 h2;omega⟩
 by_cases k2:k=2
 .subst k2;exact .inr (.inl ⟨n,rfl,h1,h2⟩)
 by_cases k3:k=3
 .subst k3;exact .inr (.inr (.inl ⟨n,rfl,h1,h2⟩))
 by_cases k4:k=4
 .subst k4;exact .inr (.inr (.inr (.inl ⟨n,rfl,h1,h2⟩)))
 by_cases k5:k=5
 .subst k5;exact .inr (.inr (.inr (.inr (.inl ⟨n,rfl,h1,h2⟩))))
 .rw[show IJ k=(0,-1) by unfold IJ;rw[J8 k1,J8 k2,J8 k3,J8 k4,J8 k5,J8 k6];rfl]at h1 h2;simp only at h1 h2;omega
def Jy(v:V3):V3×Int:=l7 (plB v) (v,0) ((0,0,0),3)
def Z_(v:V3)(c:Int):V3×Int:=l7 (x8 c 0) (Jy v) ((0,0,0),c)
theorem Ul(k n:Int):dM k n=some (Jy (k,0,n)):=by unfold dM Jy;rw[xX,o8];cases plB (k,0,n)<;>rfl
theorem b9h(k n c:Int):su k n c=some (Z_ (k,0,n) c):=by
 unfold su Z_;cases x8 c 0
 .rfl
 simp only[D9,o6,o7];rw[Ul];rfl
def d5q(b:Bool):V3×Int:=((1,0,l7 b 1 0),0)
theorem b1y(b:Bool):qZ b=some (d5q b):=by cases b<;>rfl
theorem b7n(b:Bool):rM b=some (1,0,l7 b 1 0):=by cases b<;>rfl
theorem b7m(b:Bool):Jy (1,0,l7 b 1 0)=d5q b:=by cases b<;>rfl
def b0C(c:Option (V3×Int)):Option (V3×Int):=o5 c λ(x:V3×Int)=>l7 (D6 (x8 x.2 0)) (some ((0,0,0),x.2)) (o5 (iK x.1) λ(x_1:Bool)=>l7 (D6 x_1) (some ((0,0,0),3)) (some (x.1,0)))
theorem EM(v:V3)(c:Int):b0C (some (v,c))=some (Z_ v c):=by
 unfold b0C Z_ Jy;simp only[o8];cases x8 c 0
 .rfl
 simp only[D9,o6,o7];rw[zY,o8];cases plB v<;>rfl
theorem Qk(v:V3):Z_ v 0=Jy v:=rfl
def EP(n:Int×Int)(args:List V3)(env:dJ):Option (V3×Int):=o5 (aj n args env) λ(x:Bool)=>l7 (D6 x) (some ((0,0,0),8)) (b0C (ak n args env))
def RP(a0:Int×Int)(a1:List V3)(a2:dJ):Option (V3×Int):=
 l7 (x8 (o9 a1) 0) (l7 (J6 36 a0.1) (l7 (J6 a0.1 39) (o5 (Bc a0 a2) λ(x:V3×Int)=>some x) (o5 (lu a0 a2) λ(x:V3×Int)=>some x)) (o5 (lu a0 a2) λ(x:V3×Int)=>some x))
  (l7 (x8 (o9 a1) 1) (o5 (G8 a1 0) λ(x:V3)=>o5 (uz a0 x a2) λ(x:V3×Int)=>some x)
  (l7 (x8 (o9 a1) 2) (o5 (G8 a1 0) λ(x:V3)=>o5 (G8 a1 1) λ(x_1:V3)=>o5 (jf a0 x x_1) λ(x:V3×Int)=>some x)
  (o5 (G8 a1 0) λ(x:V3)=>o5 (G8 a1 1) λ(x_1:V3)=>o5 (G8 a1 2) λ(x_2:V3)=>l7 (D6 (x8 x.1 1)) (some ((0,0,0),8)) (l7 (D6 (x8 x_1.1 x_2.1)) (some ((0,0,0),8)) (l7 (D6 (x8 x_1.2.1 x_2.2.1)) (some ((0,0,0),8)) (l7 (x8 x.2.2 1) (some (x_1,0)) (some (x_2,0))))))))
def jB(n:Int×Int)(args:List V3)(env:dJ):Prop:=∃r:V3×Int,RP n args env=some r/\EP n args env=some r
theorem ll0:o9 ([]:List V3)=0:=rfl
theorem ll1(a:V3):o9 [a]=1:=rfl
theorem ll2(a b:V3):o9 [a,b]=2:=rfl
theorem ll3(a b c:V3):o9 [a,b,c]=3:=rfl
theorem la0(a:V3)(l:List V3):G8 (a::l) 0=some a:=rfl
theorem la1(a b:V3)(l:List V3):G8 (a::b::l) 1=some b:=rfl
theorem la2(a b c:V3)(l:List V3):G8 (a::b::c::l) 2=some c:=rfl
def bW:=And.intro @O0 (And.intro @J8 (And.intro @Y6 (And.intro @Z5 (And.intro @U7 (And.intro @L8 (And.intro @o7 (And.intro @o6 (And.intro @o8 (And.intro @J7 (And.intro @wP (And.intro @D9 (And.intro @aJ (And.intro @ll0 (And.intro @ll1 (And.intro @ll2 (And.intro @ll3 (And.intro @la0 (And.intro @la1 (And.intro @la2 (And.intro @Ul (And.intro @b9h (And.intro @xX (And.intro @zY (And.intro @EM (And.intro @Qk (And.intro @b1y (And.intro @b7n (@b7m))))))))))))))))))))))))))))
theorem TL(k N:Int)(env:dJ)(hk:k=1\/k=2\/k=3\/k=4\/k=5):jB (k,N) [] env:=by
 rcases hk with rfl|rfl|rfl|rfl|rfl <;>
 .unfold jB RP lu EP aj ak;simp (disch:=decide) only[bW];exact⟨_,rfl,rfl⟩
theorem c5N(N:Int)(env:dJ):jB (6,N) [] env:=by unfold jB RP lu EP aj ak;simp (disch:=decide) only[bW];unfold Jy;cases plB (6,eH IntKind.i64 N 16,eU N 16)<;>exact⟨_,rfl,rfl⟩
theorem c5Q(N:Int)(env:dJ):jB (9,N) [] env:=by unfold jB RP lu EP aj ak;simp (disch:=decide) only[bW];exact⟨_,rfl,rfl⟩
theorem c0B(N:Int)(env:dJ):jB (35,N) [] env:=by unfold jB RP lu EP aj ak;simp (disch:=decide) only[bW];exact⟨_,rfl,rfl⟩
theorem c5O(N:Int)(env:dJ)(h:jJ (7,N) env=some true):jB (7,N) [] env:=by
 unfold jJ at h;simp (disch:=decide) only[O0,J8,o7,o6]at h;by_cases g:0<=N
 case neg=>rw[Z5 l9]at h;cases h
 rw[Y6 g,o7]at h;have h2:=jX.1 (ay h);obtain⟨x,hx,hm⟩:=nN g h2;unfold jB RP lu EP aj ak;simp (disch:=decide) only[bW];rw[hx];simp (disch:=decide) only[bW];unfold Jy;cases plB x<;>exact⟨_,rfl,rfl⟩
theorem c5P(N:Int)(env:dJ)(h:jJ (8,N) env=some true):jB (8,N) [] env:=by
 unfold jJ at h;simp (disch:=decide) only[O0,J8,o7,o6]at h;by_cases g:0<=N
 case neg=>rw[Z5 l9]at h;cases h
 rw[Y6 g,o7]at h;by_cases h2:N<o9 env.2.2.1
 case neg=>rw[L8 l9]at h;cases h
 obtain⟨x,hx,hm⟩:=nN g h2;unfold jB RP lu EP aj ak;simp (disch:=decide) only[bW];rw[hx];simp (disch:=decide) only[bW];unfold Jy;cases plB x<;>exact⟨_,rfl,rfl⟩
def SN(k:Int)(t:Int×Int):Bool:=l7 (x8 t.2 0) (l7 (x8 k 36) (l7 (x8 t.1 2) true (x8 t.1 3)) (l7 (x8 k 39) (l7 (J6 2 t.1) (J6 t.1 5) false) (x8 t.1 1))) false
theorem a2G(k:Int)(t:Int×Int):FH k t=some (SN k t):=by unfold FH SN;cases x8 t.2 0<;>cases x8 k 36<;>cases x8 k 39<;>cases x8 t.1 2<;>cases J6 2 t.1<;>rfl
theorem EX(t:Int):uM t=some (l7 (J6 2 t) (J6 t 4) false):=by
 unfold uM;by_cases h2:t=2
 .subst h2;rfl
 by_cases h3:t=3
 .subst h3;rfl
 by_cases h4:t=4
 .subst h4;rfl
 rw[J8 h2,J8 h3,J8 h4];by_cases g:2<=t
 .rw[Y6 g,Z5 l9];rfl
 .rw[Z5 l9];rfl
theorem Je(t:Int):Ec t=some (l7 (J6 2 t) (J6 t 4) false):=EX t
theorem a0k(k:Int)(t:Int×Int):xg k t=some (SN k t):=by
 unfold xg SN;cases x8 t.2 0
 .rfl
 cases x8 k 36
 .cases x8 k 39
  .rfl
  .rw[EX];simp only[D9,o6,o7,o8];by_cases g:2<=t.1
   .rw[Y6 g];simp only[o7];by_cases g4:t.1<=4
    .rw[Y6 g4,Y6 (show t.1<=5 by omega)];rfl
    .rw[Z5 l9];by_cases g5:t.1=5
     .rw[O0 g5,Y6 l9];rfl
     .rw[J8 g5,Z5 l9];rfl
   .rw[Z5 l9,J8 l9];rfl
 .cases x8 t.1 2<;>rfl
def XU(v:V3)(t:Int×Int):Bool:=l7 (plB v) (l7 (x8 v.1 t.1) (x8 v.2.1 t.2) false) false
theorem Zl(v:V3)(t:Int×Int):Dv v t=some (XU v t):=by unfold Dv XU;rw[zY,o8];cases plB v<;>cases x8 v.1 t.1<;>rfl
theorem b4H(v:V3)(t:Int×Int):QM v t=some (XU v t):=by unfold QM XU;rw[xX,o8];cases plB v<;>cases x8 v.1 t.1<;>rfl
def Lr(k a b:Int)(first:Bool):Int:=l7 (x8 k 36) (x9 .i64 a b) (l7 (x8 k 37) (Z4 .i64 a b) (l7 (x8 k 38) (l7 (D8 a b) b a) (l7 first b (l7 (D8 a b) b a))))
theorem b4G(k a b:Int)(f:Bool):Nw k a b f=some (Lr k a b f):=by unfold Nw Lr;cases x8 k 36<;>cases x8 k 37<;>cases x8 k 38<;>cases f<;>cases D8 a b<;>rfl
def a2t(m:List V3)(N:Int)(t:Int×Int):V3⊕Int:=
 match G8 m N with
 |none=> .inr 6|some x=>l7 (x8 x.1 0) (.inr 6) (l7 (XU x t) (.inl x) (.inr 8))
def KP(k N:Int)(t:Int×Int)(b:Int×Bool)(m:List V3):(Int×Bool)⊕(V3×Int):=
 match a2t m N t with
 | .inr c=> .inr ((0,0,0),c)| .inl x=>l7 (plB (t.1,0,Lr k b.1 x.2.2 b.2)) (.inl (Lr k b.1 x.2.2 b.2,false)) (.inr ((0,0,0),3))
def a9s(k N:Int)(t:Int×Int)(ms:List (List V3)):V3×Int:=
 l7 (SN k t) (match fG (KP k N t) ms (l7 (x8 k 37) 1 0,true)with
  | .inr c=>c
  | .inl a=>l7 (x8 k 39) (l7 (x8 (o9 ms) 0) ((0,0,0),6) (Jy (t.1,0,a.1))) (Jy (t.1,0,a.1))) ((0,0,0),8)
theorem a5i(k N:Int)(env:dJ)(t:Int×Int)(ht:G8 env.2.2.2.2.1 N=some t)(h0:0<=N)(hl:env.2.2.2.1.length<=1000000):Bc (k,N) env=some (a9s k N t env.2.2.2.1):=by
 unfold Bc a9s;simp only[ht,o8,a2G];cases SN k t
 .rfl
 simp only[D9,o6,o7];rw[show l7 (x8 k 37) (some (1:Int)) (some 0)=some (l7 (x8 k 37) 1 0) by cases x8 k 37<;>rfl,o8];apply jq env.2.2.2.1 (KP k N t) (λb i=>(((0,0,0),b.1,i):V3×Int×Int)) (λb=>(((0,0,0),b.1):V3×Int)) (λi b=>b.2=decide (i=0)) (l7 (x8 k 37) 1 0,true) hl rfl
 .intro i m b hi hi' hb;have hm:=E8 env.2.2.2.1 i;rw[hi]at hm;have hlt:(i:Int)<o9 env.2.2.2.1:=by
   have:=X0.1 hi;obtain⟨h,_⟩:=this;unfold o9;omega
  simp only[U7 hlt,o7,hm,o8];refine⟨?_,?_⟩
  .unfold KP a2t;by_cases g:o9 m<=N
   .rw[Y6 g,kD (.inr (L8 g))];rfl
   .rw[Z5 l9];obtain⟨x,hx,_⟩:=nN h0 (show N<o9 m by omega);simp only[o6,hx,o8];cases x8 x.1 0
    case true=>rfl
    simp only[o6,o8,J7,b4H];cases XU x t
    .rfl
    simp only[D9,o6,o7,b4G,o8,Ul];have hz:x8 (i:Int) 0=b.2:=by rw[hb];unfold x8;congr 1;simp
    rw[hz];unfold Jy;cases plB (t.1,0,Lr k b.1 x.2.2 b.2)
    .rfl
    .rw[Y1 l9];rfl
  .intro b' hb';unfold KP at hb';cases hf:a2t m N t with
   |inr c=>rw[hf]at hb';cases hb'|inl x=>rw[hf]at hb';simp only at hb';cases hp:plB (t.1,0,Lr k b.1 x.2.2 b.2)<;>rw[hp]at hb'<;>cases hb';simp
 .intro b hb;rw[L8 (show o9 env.2.2.2.1<=(env.2.2.2.1.length:Int)from iM _)];rfl
 .intro _;cases fG (KP k N t) env.2.2.2.1 (l7 (x8 k 37) 1 0,true)with
  |inr c=>rfl|inl a=>simp only[J7,Ul,o8];cases x8 k 39<;>cases x8 (o9 env.2.2.2.1) 0<;>rfl
theorem a6P{x:V3}{t:Int×Int}(h:XU x t=true):plB x=true/\x.1=t.1/\x.2.1=t.2:=by
 unfold XU at h;cases h1:plB x<;>rw[h1]at h
 .cases h
 cases h2:x8 x.1 t.1<;>rw[h2]at h
 .cases h
 simp only[o7]at h;exact⟨rfl,Y5.1 h2,Y5.1 h⟩
variable {k:Int}
theorem QH(hk:k=1)(h:plB (k,0,n)=true):n=0\/n=1:=by subst hk;rcases a7n h with⟨m,h,g⟩|⟨m,h,g⟩|⟨m,h,g⟩|⟨m,h,g⟩|⟨m,h,g⟩|⟨e',m,h,g⟩<;>cases h;exact g
theorem VN{t:Int×Int}(h:SN k t=true):t.2=0:=by
 unfold SN at h;cases g:x8 t.2 0<;>rw[g]at h
 .cases h
 exact Y5.1 g
theorem a9r{t:Int×Int}(h:SN 37 t=true):t.1=1:=by have:=VN h;unfold SN at h;rw[O0 this]at h;exact Y5.1 h
theorem b1j(k N:Int)(t:Int×Int)(hk:k=36\/k=37\/k=38\/k=39)(ha:SN k t=true)(b:Int×Bool)(x:V3)(hx:XU x t=true)(i:Nat)(hi:i<=1000000)(hb:b.2=decide (i=0))(hp:k=36\/b.2=true/\k=39\/plB (t.1,0,b.1)=true)(v:V3)(hv:v=(0,0,0)):
  (l7 (x8 k 36) (o5 (iK (t.1,t.2,x9 .i64 b.1 x.2.2)) λ(q:Bool)=>l7 (D6 q) (some (Out.rt (((0,0,0),3):V3×Int))) (some (Out.nx ((v,(t.1,t.2,x9 .i64 b.1 x.2.2),x9 .i64 (i:Int) 1):V3×V3×Int))))
   (l7 (x8 k 37) (some (Out.nx (v,(t.1,t.2,qj b.1 x.2.2),x9 .i64 (i:Int) 1)))
    (l7 (x8 k 38) (some (Out.nx (v,(t.1,t.2,nT b.1 x.2.2),x9 .i64 (i:Int) 1)))
     (l7 (x8 k 39) (l7 (x8 (i:Int) 0) (some (Out.nx (v,x,x9 .i64 (i:Int) 1))) (l7 (D8 b.1 x.2.2) (some (Out.nx (v,x,x9 .i64 (i:Int) 1))) (some (Out.nx (v,(t.1,t.2,b.1),x9 .i64 (i:Int) 1)))))
      (some (Out.nx (v,(t.1,t.2,b.1),x9 .i64 (i:Int) 1)))))):Option (Out (V3×V3×Int) (V3×V3) (V3×Int)))=
  some (match(l7 (plB (t.1,0,Lr k b.1 x.2.2 b.2)) (.inl (Lr k b.1 x.2.2 b.2,false)) (.inr ((0,0,0),3)):(Int×Bool)⊕(V3×Int))with| .inl b' => .nx ((0,0,0),(t.1,t.2,b'.1),((i+1:Nat):Int))| .inr r=> .rt r)/\
  (k≠36->plB (t.1,0,Lr k b.1 x.2.2 b.2)=true):=by
 subst hv;have hz:=VN ha;obtain⟨hx1,hx2,hx3⟩:=a6P hx;have hxe:x=(t.1,t.2,x.2.2):=by rw[←hx2,←hx3]
 have hxp:plB (t.1,0,x.2.2)=true:=by rw[←hz,←hxe];exact hx1
 obtain⟨acc,fi⟩:=b;simp only at hb hp ⊢;rw[Y1 l9];rcases hk with rfl|rfl|rfl|rfl
 .refine⟨?_,λh=>absurd rfl h⟩;simp (disch:=decide) only[O0,o7,zY,o8];rw[hz,show Lr 36 acc x.2.2 fi=x9 .i64 acc x.2.2 from rfl];cases plB (t.1,0,x9 .i64 acc x.2.2)<;>rfl
 .have ht1:=a9r ha;have hp' :plB (t.1,0,acc)=true:=by
   rcases hp with h|h|h
   .exact absurd h J5
   .exact absurd h.2 J5
   .exact h
  have e1:=QH ht1 hp';have e2:=QH ht1 hxp;have e3:Lr 37 acc x.2.2 fi=qj acc x.2.2/\plB (t.1,0,Lr 37 acc x.2.2 fi)=true:=by rw[ht1];generalize x.2.2=q at e2 ⊢;rcases e1 with rfl|rfl<;>rcases e2 with rfl|rfl<;>exact⟨rfl,rfl⟩
  refine⟨?_,λ_=>e3.2⟩;simp (disch:=decide) only[O0,J8,o7,o6];rw[e3.2,e3.1,o7]
 .have ht1:t.1=1:=by
   unfold SN at ha;rw[O0 hz]at ha;exact Y5.1 ha
  have hp' :plB (t.1,0,acc)=true:=by
   rcases hp with h|h|h
   .exact absurd h J5
   .exact absurd h.2 J5
   .exact h
  have e1:=QH ht1 hp';have e2:=QH ht1 hxp;have e3:Lr 38 acc x.2.2 fi=nT acc x.2.2/\plB (t.1,0,Lr 38 acc x.2.2 fi)=true:=by rw[ht1];generalize x.2.2=q at e2 ⊢;rcases e1 with rfl|rfl<;>rcases e2 with rfl|rfl<;>exact⟨rfl,rfl⟩
  refine⟨?_,λ_=>e3.2⟩;simp (disch:=decide) only[O0,J8,o7,o6];rw[e3.2,e3.1,o7]
 .have hf:Lr 39 acc x.2.2 fi=l7 fi x.2.2 (l7 (D8 acc x.2.2) x.2.2 acc):=rfl;simp (disch:=decide) only[O0,J8,o7,o6];rw[hf];have hz' :x8 (i:Int) 0=fi:=by rw[hb];unfold x8;congr 1;simp
  rw[hz'];cases fi
  case true=>simp only[o7,hxp];exact⟨by rw[←hxe],λ_=>trivial⟩
  case false=>
   have hp' :plB (t.1,0,acc)=true:=by
    rcases hp with h|h|h
    .exact absurd h J5
    .exact absurd h.1 A7
    .exact h
   simp only[o6];cases D8 acc x.2.2
   .simp only[o6,hp',o7];exact⟨trivial,λ_=>trivial⟩
   .simp only[o7,hxp];exact⟨by rw[←hxe],λ_=>trivial⟩
theorem b0D{γ:Type}(c:Option γ)(K:γ->Option (V3×Int)):b0C (o5 c K)=o5 c λo=>b0C (K o):=by cases c<;>rfl
theorem CP{α β ρ:Type}(G:β->α->β⊕ρ)(P:ρ->Prop)(hG:∀b a r,G b a= .inr r->P r):∀(l:List α) (b:β) (r:ρ),fG G l b= .inr r->P r
 |[],b,r,h=>by cases h|a::l,b,r,h=>by
  unfold fG at h;cases hg:G b a with
  |inr r' =>rw[hg]at h;simp only at h;cases h;exact hG _ _ _ hg|inl b' =>rw[hg]at h;exact CP G P hG l b' r h
theorem b3v(k N:Int)(t:Int×Int)(b:Int×Bool)(m:List V3)(r:V3×Int)(h:KP k N t b m= .inr r):r=((0,0,0),6)\/r=((0,0,0),8)\/r=((0,0,0),3):=by
 unfold KP at h;cases hf:a2t m N t with
 |inr c=>
  rw[hf]at h;simp only at h;cases h;unfold a2t at hf;cases hm:G8 m N with
  |none=>rw[hm]at hf;cases hf;exact .inl rfl|some x=>
   rw[hm]at hf;simp only at hf;cases h1:x8 x.1 0<;>rw[h1]at hf
   .cases h2:XU x t<;>rw[h2]at hf<;>cases hf;exact .inr (.inl rfl)
   .cases hf;exact .inl rfl
 |inl x=>rw[hf]at h;simp only at h;cases h1:plB (t.1,0,Lr k b.1 x.2.2 b.2)<;>rw[h1]at h<;>cases h;exact .inr (.inr rfl)
theorem Yc(k N:Int)(env:dJ)(hk:k=36\/k=37\/k=38\/k=39)(he:jJ (k,N) env=some true)(hl:env.2.2.2.1.length<=1000000):jB (k,N) [] env:=by
 have hN:0<=N/\N<o9 env.2.2.2.2.1:=by
  unfold jJ at he;rcases hk with rfl|rfl|rfl|rfl <;>
  .simp (disch:=decide) only[O0,J8,o7,o6,o8]at he;by_cases g:0<=N
   case neg=>rw[Z5 l9]at he;cases he
   rw[Y6 g,o7]at he;exact⟨g,jX.1 (ay he)⟩
 obtain⟨t,ht,_⟩:=nN hN.1 hN.2;refine⟨a9s k N t env.2.2.2.1,?_,?_⟩
 .unfold RP;rw[ll0,show J6 36 k=true from Y6 l9,show J6 k 39=true from Y6 l9,a5i k N env t ht hN.1 hl];rfl
 have hA:aj (k,N) [] env=some (SN k t):=by
  unfold aj;rcases hk with rfl|rfl|rfl|rfl <;>
  .simp (disch:=decide) only[O0,J8,o7,o6,o8,ht,a0k,wP]
 have hC:ak (k,N) [] env=vP (k,N) env:=by
  unfold ak;rcases hk with rfl|rfl|rfl|rfl <;>
  .simp (disch:=decide) only[O0,J8,o7,o6,o8];generalize vP _ env=o;cases o<;>rfl
 unfold EP;rw[hA,o8,hC];unfold a9s;cases ha:SN k t
 .rfl
 simp only[D9,o6,o7];have hz:=VN ha;unfold vP;simp only[ht,o8];rw[show l7 (x8 k 37) (some (t.1,t.2,(1:Int))) (some (t.1,t.2,0))=some (t.1,t.2,l7 (x8 k 37) 1 0) by cases x8 k 37<;>rfl,o8];have hinit:k=36\/(true=true/\k=39)\/plB (t.1,0,l7 (x8 k 37) 1 0)=true:=by
  rcases hk with rfl|rfl|rfl|rfl
  .exact .inl rfl
  .right;right;rw[a9r ha];rfl
  .right;right;have ht1:t.1=1:=by
    unfold SN at ha;rw[O0 hz]at ha;exact Y5.1 ha
   rw[ht1];rfl
  .exact .inr (.inl ⟨rfl,rfl⟩)
 by_cases hz0:k=39/\o9 env.2.2.2.1=0
 .rw[O0 hz0.1,O0 hz0.2];have:env.2.2.2.1=[]:=by have:=hz0.2;unfold o9 at this;exact O9.1 l9
  rw[this];rfl
 rw[show(l7 (x8 k 39) (l7 (x8 (o9 env.2.2.2.1) 0) (some (Sum.inr (((0,0,0),6):V3×Int))) (some (Sum.inl ((0,0,0):V3)))) (some (Sum.inl (0,0,0))))=some (.inl (0,0,0)) by
  by_cases h1:k=39
  .rw[O0 h1,J8 (λh=>hz0 ⟨h1,h⟩)];rfl
  .rw[J8 h1];rfl]
 simp only[o8,J7];have hend:(match fG (KP k N t) env.2.2.2.1 (l7 (x8 k 37) 1 0,true)with
  | .inr c=>c
  | .inl a=>l7 (x8 k 39) (l7 (x8 (o9 env.2.2.2.1) 0) ((0,0,0),6) (Jy (t.1,0,a.1))) (Jy (t.1,0,a.1)))=(match fG (KP k N t) env.2.2.2.1 (l7 (x8 k 37) 1 0,true)with
  | .inr c=>c
  | .inl a=>Jy (t.1,0,a.1)):=by
  cases fG (KP k N t) env.2.2.2.1 (l7 (x8 k 37) 1 0,true)with
  |inr c=>rfl|inl a=>
   by_cases h1:k=39
   .rw[O0 h1,J8 (λh=>hz0 ⟨h1,h⟩)];rfl
   .rw[J8 h1];rfl
 refine Eq.trans ?_ (congrArg some hend.symm);rw[b0D];apply jq env.2.2.2.1 (KP k N t) (λb i=>(((0,0,0),(t.1,t.2,b.1),i):V3×V3×Int)) (λb=>(((0,0,0),(t.1,t.2,b.1)):V3×V3)) (λi b=>b.2=decide (i=0)/\(k=36\/(b.2=true/\k=39)\/plB (t.1,0,b.1)=true)) (l7 (x8 k 37) 1 0,true) hl ⟨rfl,hinit⟩
 .intro i m b hi hi' hb;have hm:=E8 env.2.2.2.1 i;rw[hi]at hm;have hlt:(i:Int)<o9 env.2.2.2.1:=by
   have:=X0.1 hi;obtain⟨h,_⟩:=this;unfold o9;omega
  simp only[U7 hlt,o7,hm,o8];by_cases g:o9 m<=N
  .have e:KP k N t b m= .inr ((0,0,0),6):=by unfold KP a2t;rw[kD (.inr (L8 g))]
   rw[e];refine⟨?_,λ_ h=>by cases h⟩;rw[Y6 g];rfl
  rw[Z5 l9];obtain⟨x,hx,_⟩:=nN hN.1 (show N<o9 m by omega);simp only[o6,hx,o8];cases h0:x8 x.1 0
  case true=>
   have e:KP k N t b m= .inr ((0,0,0),6):=by unfold KP a2t;rw[hx];simp only[h0];rfl
   rw[e];exact⟨rfl,λ_ h=>by cases h⟩
  simp only[o6,o8,J7,Zl];cases hh:XU x t
  .have e:KP k N t b m= .inr ((0,0,0),8):=by unfold KP a2t;rw[hx];simp only[h0,hh];rfl
   rw[e];exact⟨rfl,λ_ h=>by cases h⟩
  have e:KP k N t b m=l7 (plB (t.1,0,Lr k b.1 x.2.2 b.2)) (.inl (Lr k b.1 x.2.2 b.2,false)) (.inr ((0,0,0),3)):=by unfold KP a2t;rw[hx];simp only[h0,hh,o7,o6]
  obtain⟨s1,s2⟩:=b1j k N t hk ha b x hh i hi' hb.1 hb.2 (0,0,0) rfl;refine⟨?_,?_⟩
  .rw[e,D9,o6];refine Eq.trans (Eq.trans ?_ s1) ?_
   .rfl
   .cases plB (t.1,0,Lr k b.1 x.2.2 b.2)<;>rfl
  .intro b' hb';rw[e]at hb';cases hp:plB (t.1,0,Lr k b.1 x.2.2 b.2)<;>rw[hp]at hb'<;>cases hb';exact⟨A7,.inr (.inr hp)⟩
 .intro b hb;rw[L8 (show o9 env.2.2.2.1<=(env.2.2.2.1.length:Int)from iM _)];rfl
 .intro hf;cases hq:fG (KP k N t) env.2.2.2.1 (l7 (x8 k 37) 1 0,true)with
  |inr c=>rcases CP (KP k N t) (λr=>r=((0,0,0),6)\/r=((0,0,0),8)\/r=((0,0,0),3)) (b3v k N t) _ _ _ hq with rfl|rfl|rfl<;>rfl
  |inl a=>simp only[J7,EM,Qk,hz]
theorem a9F{k e n:Int}(hk:k=5)(h:plB (k,e,n)=true):0<=n/\n<=109572:=by subst hk;rcases a7n h with⟨m,h,g⟩|⟨m,h,g⟩|⟨m,h,g⟩|⟨m,h,g⟩|⟨m,h,g⟩|⟨e',m,h,g⟩<;>cases h;exact g
theorem c0o(N:Int)(x:V3)(env:dJ):jB (10,N) [x] env:=by
 unfold jB RP EP uz aj ak IP ui;simp (disch:=decide) only[bW];simp only[Je,EX,o8];cases l7 (J6 2 x.1) (J6 x.1 4) false
 .exact⟨_,rfl,rfl⟩
 .simp (disch:=decide) only[bW];exact⟨_,rfl,rfl⟩
theorem c0t(N:Int)(x:V3)(env:dJ):jB (25,N) [x] env:=by
 unfold jB RP EP uz aj ak IP ui;simp (disch:=decide) only[bW];cases x8 x.1 1
 .exact⟨_,rfl,rfl⟩
 .simp (disch:=decide) only[bW];exact⟨_,rfl,rfl⟩
theorem a8J(k N:Int)(x:V3)(env:dJ)(hk:k=31\/k=32)(hx:plB x=true):jB (k,N) [x] env:=by
 have hAB:∃q:Int×Int×Int,x.1=5->wY x.2.2=some q/\CY x.2.2=some q:=⟨_,λh=>⟨Fp (a9F h hx).1 (a9F h hx).2,PL (a9F h hx).1 (a9F h hx).2⟩⟩;obtain⟨q,hAB⟩:=hAB;rcases hk with rfl|rfl
 all_goals
  unfold jB RP EP uz aj ak IP ui;simp (disch:=decide) only[bW];cases h5:x8 x.1 5
  .simp only[aJ,o7,o8,wP];exact⟨_,rfl,rfl⟩
  rw[(hAB (Y5.1 h5)).1,(hAB (Y5.1 h5)).2];simp (disch:=decide) only[bW];exact⟨_,rfl,rfl⟩
theorem c0z(N:Int)(x:V3)(env:dJ)(hx:plB x=true)(he:jJ (33,N) env=some true)(ht:∀t∈env.2.2.2.2.2,pY t):jB (33,N) [x] env:=by
 unfold jJ at he;simp (disch:=decide) only[O0,J8,o7,o6,o8]at he;by_cases g:0<=N
 case neg=>rw[Z5 l9]at he;cases he
 rw[Y6 g,o7]at he;obtain⟨t,hq,hm⟩:=nN g (jX.1 (ay he));have hr:=ht t hm;unfold jB RP EP uz aj ak Ny;simp (disch:=decide) only[bW];simp only[hq,o8,Zl,XU,hx,o7];by_cases h1:x.1=t.2.1.1
 case neg=>rw[J8 h1];exact⟨_,rfl,rfl⟩
 rw[O0 h1];by_cases h2:x.2.1=t.2.1.2
 case neg=>rw[J8 h2];exact⟨_,rfl,rfl⟩
 rw[O0 h2];by_cases h3:1<=t.2.2.1.1
 case neg=>rw[Z5 (lD.1 h3),U7 (lD.1 h3)];exact⟨_,rfl,rfl⟩
 rw[Y6 h3,L8 h3];by_cases h4:t.2.2.1.1<=6
 case neg=>rw[Z5 (lD.1 h4),U7 (lD.1 h4)];exact⟨_,rfl,rfl⟩
 rw[Y6 h4,L8 h4];simp (disch:=decide) only[bW];rw[b0N _ _ (by have:=hr.1;omega),a7r _ _ (by have:=hr.1;omega)];simp (disch:=decide) only[bW];cases hl:Zy t.2.2.2 env.1 x.2.2 with
 |mk i b=>
  cases b
  .exact⟨_,rfl,rfl⟩
  .obtain⟨l1,l2⟩:=b3p hl;obtain⟨row,hrow,_⟩:=nN l1 l2;simp (disch:=decide) only[bW];rw[hrow];simp (disch:=decide) only[bW];unfold Jy;cases plB (t.2.2.1.1,t.2.2.1.2,row.2.2.2)<;>exact⟨_,rfl,rfl⟩
theorem c0A(N:Int)(x:V3)(env:dJ)(h0:0<=N)(hI:N<=9223372036854775807)(he:jJ (34,N) env=some true)(ht:∀t∈env.2.2.2.2.2,pY t):jB (34,N) [x] env:=by
 unfold jJ at he;simp (disch:=decide) only[O0,J8,o7,o6,o8]at he;have hq0:0<=eH .i64 N 8:=by
  rw[show eH .i64 N 8=N / 8 by unfold eH;rw[Int.tdiv_eq_ediv_of_nonneg h0];exact ny O5]
  omega
 obtain⟨t,hq,hm⟩:=nN hq0 (jX.1 (ay he));have hr:=ht t hm;unfold jB RP EP uz aj ak;simp (disch:=decide) only[bW];simp only[hq,o8];cases x8 x.1 3
 .exact⟨_,rfl,rfl⟩
 cases x8 t.2.1.1 3
 .exact⟨_,rfl,rfl⟩
 cases x8 t.2.1.2 0
 .exact⟨_,rfl,rfl⟩
 cases x8 t.2.2.1.1 4
 .exact⟨_,rfl,rfl⟩
 cases x8 t.2.2.1.2 0
 .exact⟨_,rfl,rfl⟩
 simp (disch:=decide) only[bW];rw[show U6 true true=true from rfl];simp (disch:=decide) only[bW];rw[a3Q _ _ _ hr,a2H _ _ _ hr];simp (disch:=decide) only[bW];exact⟨_,rfl,rfl⟩
theorem Yl(x y:V3):uN x y=some (l7 (x8 x.1 y.1) (x8 x.2.1 y.2.1) false):=by unfold uN;cases x8 x.1 y.1<;>rfl
theorem a8G(k N:Int)(x y:V3)(env:dJ)(hk:k=11\/k=12):jB (k,N) [x,y] env:=by
 rcases hk with rfl|rfl
 all_goals
  (unfold jB RP EP aj ak kP bJ jf;simp (disch:=decide) only[bW])
  unfold rZ;simp (disch:=decide) only[bW];simp only[Yl,EX,Je,o8];cases x8 x.1 y.1
  .exact⟨_,rfl,rfl⟩
  cases x8 x.2.1 y.2.1
  .exact⟨_,rfl,rfl⟩
  cases l7 (J6 2 x.1) (J6 x.1 4) false
  .exact⟨_,rfl,rfl⟩
  simp (disch:=decide) only[bW];exact⟨_,rfl,rfl⟩
theorem b2p(k N:Int)(x y:V3)(env:dJ)(hk:k=19\/k=20):jB (k,N) [x,y] env:=by
 rcases hk with rfl|rfl
 all_goals
  (unfold jB RP EP aj ak kP bJ jf;simp (disch:=decide) only[bW])
  unfold rZ;simp (disch:=decide) only[bW];simp only[Yl,EX,Je,o8];cases x8 x.1 y.1
  .exact⟨_,rfl,rfl⟩
  cases x8 x.2.1 y.2.1
  .exact⟨_,rfl,rfl⟩
  simp (disch:=decide) only[bW];exact⟨_,rfl,rfl⟩
theorem a8I(k N:Int)(x y:V3)(env:dJ)(hk:k=21\/k=22):jB (k,N) [x,y] env:=by
 rcases hk with rfl|rfl
 all_goals
  (unfold jB RP EP aj ak kP bJ jf;simp (disch:=decide) only[bW])
  unfold rZ;simp (disch:=decide) only[bW];simp only[Yl,EX,Je,o8];cases x8 x.1 y.1
  .exact⟨_,rfl,rfl⟩
  cases x8 x.2.1 y.2.1
  .exact⟨_,rfl,rfl⟩
  simp (disch:=decide) only[bW];cases l7 (J6 2 x.1) (J6 x.1 4) false
  .simp (disch:=decide) only[bW];cases x8 x.1 5
   .exact⟨_,rfl,rfl⟩
   simp (disch:=decide) only[bW];exact⟨_,rfl,rfl⟩
  simp (disch:=decide) only[bW];exact⟨_,rfl,rfl⟩
theorem YC(k N:Int)(x y:V3)(env:dJ)(hk:k=17\/k=18)(hx:plB x=true)(hy:plB y=true):jB (k,N) [x,y] env:=by
 have mx:Jy x=(x,0):=by unfold Jy;rw[hx];rfl
 have my:Jy y=(y,0):=by unfold Jy;rw[hy];rfl
 have hE:x.1=y.1->x.2.1=y.2.1->x.2.2=y.2.2->x=y:=λh1 h2 h3=>by rw[show x=(x.1,x.2.1,x.2.2)from rfl,h1,h2,h3]
 have fin:x.1=y.1->x.2.1=y.2.1->∀b:Bool,(∃r:V3×Int,l7 (jG b (D8 x.2.2 y.2.2)) (some (x,0)) (some (y,0))=some r/\b0C (l7 (jG b (D8 y.2.2 x.2.2)) (some (y,0)) (some (x,0)))=some r):=by
  intro h1 h2 b;by_cases g:x.2.2<y.2.2
  .rw[U7 g,L8 (Int.le_of_lt g)];cases b
   .exact⟨(y,0),rfl,by rw[show l7 (jG false false) (some (y,(0:Int))) (some (x,0))=some (y,0)from rfl,EM,Qk,my]⟩
   .exact⟨(x,0),rfl,by rw[show l7 (jG true false) (some (y,(0:Int))) (some (x,0))=some (x,0)from rfl,EM,Qk,mx]⟩
  by_cases g' :y.2.2<x.2.2
  .rw[U7 g',L8 (Int.le_of_lt g')];cases b
   .exact⟨(x,0),rfl,by rw[show l7 (jG false true) (some (y,(0:Int))) (some (x,0))=some (x,0)from rfl,EM,Qk,mx]⟩
   .exact⟨(y,0),rfl,by rw[show l7 (jG true true) (some (y,(0:Int))) (some (x,0))=some (y,0)from rfl,EM,Qk,my]⟩
  have e:=hE h1 h2 (Int.le_antisymm (jg.1 g') (jg.1 g));refine⟨(x,0),?_,?_⟩
  .rw[e];cases jG b (D8 y.2.2 y.2.2)<;>rfl
  .rw[←e];rw[show l7 (jG b (D8 x.2.2 x.2.2)) (some (x,(0:Int))) (some (x,0))=some (x,0) by cases jG b (D8 x.2.2 x.2.2)<;>rfl,EM,Qk,mx]
 have osum:∀(c:Bool),(o5 (l7 c (some (Sum.inr (y,(0:Int)):V3⊕(V3×Int))) (some (.inr (x,0)))) λo=>V5 o (λ_=>o5 (pM x.2.2 y.2.2) λ(q:Int)=>some ((2,0,q),(0:Int))) λr=>some r)=l7 c (some (y,0)) (some (x,0)):=λc=>by cases c<;>rfl
 rcases hk with rfl|rfl
 all_goals
  (unfold jB RP EP aj ak kP bJ jf;simp (disch:=decide) only[bW])
  unfold rZ;simp (disch:=decide) only[bW];simp only[Yl,EX,Je,o8];cases g1:x8 x.1 y.1
  .exact⟨_,rfl,rfl⟩
  cases g2:x8 x.2.1 y.2.1
  .exact⟨_,rfl,rfl⟩
  simp (disch:=decide) only[bW];have F:=fin (Y5.1 g1) (Y5.1 g2);rw[osum];cases l7 (J6 2 x.1) (J6 x.1 4) false
  .simp (disch:=decide) only[bW];cases x8 x.1 5
   .exact⟨_,rfl,rfl⟩
   simp (disch:=decide) only[bW];simp only[gy];first|exact F true|exact F false
  simp (disch:=decide) only[bW];simp only[gy];first|exact F true|exact F false
theorem c0u(N:Int)(x y:V3)(env:dJ):jB (27,N) [x,y] env:=by
 (unfold jB RP EP aj ak kP bJ jf;simp (disch:=decide) only[bW])
 unfold zn;simp (disch:=decide) only[bW];cases g1:x8 x.1 5
 .exact⟨_,rfl,rfl⟩
 cases x8 y.1 2
 .exact⟨_,rfl,rfl⟩
 simp (disch:=decide) only[bW];rw[Y5.1 g1];exact⟨_,rfl,rfl⟩
theorem c0w(N:Int)(x y:V3)(env:dJ):jB (28,N) [x,y] env:=by
 have hA:∃q,vN x.2.2 y.2.2=some q/\nI x.2.2 y.2.2=some q:=⟨_,TK _ _,RS _ _⟩;obtain⟨q,h1,h2⟩:=hA
 (unfold jB RP EP aj ak kP bJ jf;simp (disch:=decide) only[bW])
 unfold zn;simp (disch:=decide) only[bW];cases g1:x8 x.1 5
 .exact⟨_,rfl,rfl⟩
 cases x8 y.1 2
 .exact⟨_,rfl,rfl⟩
 simp (disch:=decide) only[bW];rw[h1,h2];simp (disch:=decide) only[bW];exact⟨_,rfl,rfl⟩
theorem c0x(N:Int)(x y:V3)(env:dJ):jB (29,N) [x,y] env:=by
 (unfold jB RP EP aj ak kP bJ jf;simp (disch:=decide) only[bW])
 unfold zn;simp (disch:=decide) only[bW];cases g1:x8 x.1 5
 .exact⟨_,rfl,rfl⟩
 cases x8 y.1 5
 .exact⟨_,rfl,rfl⟩
 simp (disch:=decide) only[bW];exact⟨_,rfl,rfl⟩
theorem c0y(N:Int)(x y:V3)(env:dJ):jB (30,N) [x,y] env:=by
 have hA:∃q,pM x.2.2 y.2.2=some q/\rY x.2.2 y.2.2=some q:=⟨_,Ya _ _,VW _ _⟩;obtain⟨q,h1,h2⟩:=hA
 (unfold jB RP EP aj ak kP bJ jf;simp (disch:=decide) only[bW])
 unfold zn;simp (disch:=decide) only[bW];cases g1:x8 x.1 5
 .exact⟨_,rfl,rfl⟩
 cases x8 y.1 5
 .exact⟨_,rfl,rfl⟩
 simp (disch:=decide) only[bW];rw[h1,h2];simp (disch:=decide) only[bW];exact⟨_,rfl,rfl⟩
theorem c0q(N:Int)(x y:V3)(env:dJ):jB (14,N) [x,y] env:=by
 have hA:∃q,Jf x.2.2 y.2.2 N=some q/\FZ x.2.2 y.2.2 N=some q:=⟨_,b2q _ _ _,b1q _ _ _⟩;have hB:∃q,PK x.2.2 y.2.2 N=some q/\LY x.2.2 y.2.2 N=some q:=⟨_,b8t _ _ _,b4I _ _ _⟩;obtain⟨q,h1,h2⟩:=hA;obtain⟨q',h3,h4⟩:=hB
 (unfold jB RP EP aj ak kP bJ jf;simp (disch:=decide) only[bW])
 unfold Af CO;simp (disch:=decide) only[bW];rw[h1,h2,h3,h4];cases x8 y.1 4
 .exact⟨_,rfl,rfl⟩
 by_cases g3:x.1=3
 .rw[O0 g3];simp (disch:=decide) only[bW];exact⟨_,rfl,rfl⟩
 rw[J8 g3];simp (disch:=decide) only[bW];cases x8 x.1 4
 .exact⟨_,rfl,rfl⟩
 simp (disch:=decide) only[bW];exact⟨_,rfl,rfl⟩
theorem c0s(N:Int)(x y:V3)(env:dJ):jB (16,N) [x,y] env:=by
 have hA:∃q,AY x.2.2 y.2.2 N=some q/\Ba x.2.2 y.2.2 N=some q:=⟨_,a7A _ _ _,a5l _ _ _⟩;obtain⟨q,h1,h2⟩:=hA
 (unfold jB RP EP aj ak kP bJ jf;simp (disch:=decide) only[bW])
 unfold Af CO;simp (disch:=decide) only[bW];rw[h1,h2];cases x8 x.1 3
 .exact⟨_,rfl,rfl⟩
 cases x8 y.1 3
 .exact⟨_,rfl,rfl⟩
 simp (disch:=decide) only[bW];exact⟨_,rfl,rfl⟩
theorem c0r(N:Int)(x y:V3)(env:dJ):jB (15,N) [x,y] env:=by
 have hA:∃q,jQ x.2.2 y.2.2 N=some q/\zh x.2.2 y.2.2 N=some q:=⟨_,JG _ _ _,a2J _ _ _⟩;have hB:∃q,zf x.2.2 y.2.2 N=some q/\xO x.2.2 y.2.2 N=some q:=⟨_,a2h _ _ _,a0s _ _ _⟩;obtain⟨q,h1,h2⟩:=hA;obtain⟨q',h3,h4⟩:=hB
 (unfold jB RP EP aj ak kP bJ jf;simp (disch:=decide) only[bW])
 unfold Af CO;simp (disch:=decide) only[bW];rw[h1,h2,h3,h4];by_cases g2:y.1=2
 .rw[O0 g2,J8 (show y.1≠3 by rw[g2];decide)];simp (disch:=decide) only[bW];by_cases g3:x.1=3
  .rw[O0 g3,J8 (show x.1≠2 by rw[g3];decide)];simp (disch:=decide) only[bW];exact⟨_,rfl,rfl⟩
  rw[J8 g3];cases x8 x.1 2
  .exact⟨_,rfl,rfl⟩
  simp (disch:=decide) only[bW];exact⟨_,rfl,rfl⟩
 rw[J8 g2];simp (disch:=decide) only[bW];cases x8 x.1 3
 .exact⟨_,rfl,rfl⟩
 simp (disch:=decide) only[bW];cases x8 y.1 3
 .exact⟨_,rfl,rfl⟩
 simp (disch:=decide) only[bW];exact⟨_,rfl,rfl⟩
theorem Cj(n:Int):(n<0/\Z8 n=-n)\/(0<=n/\Z8 n=n):=by
 unfold Z8;by_cases h:n<0
 .left;exact⟨h,if_pos h⟩
 .right;exact⟨l9,if_neg h⟩
theorem a8D(a b:Int):(l7 (D6 (jG (D8 a 0) (D8 b 0))) (-(Z8 a*Z8 b)) (Z8 a*Z8 b))=a*b:=by
 rcases Cj a with⟨h1,e1⟩|⟨h1,e1⟩<;>rcases Cj b with⟨h2,e2⟩|⟨h2,e2⟩<;>rw[e1,e2]
 .rw[U7 h1,U7 h2];show -a*-b=a*b;rw[Int.neg_mul_neg]
 .rw[U7 h1,L8 h2];show -(-a*b)=a*b;rw[jZ,Int.neg_neg]
 .rw[L8 h1,U7 h2];show -(a*-b)=a*b;rw[Int.mul_neg,Int.neg_neg]
 .rw[L8 h1,L8 h2];rfl
theorem a7o{a b:Int}(ha:-1000000000000000<=a/\a<=1000000000000000)(hb:-1000000000000<=b/\b<=1000000000000):zN a b=some (l7 (D8 1000000000000000 (Z8 a*Z8 b)) (0,3) (a*b,0)):=by
 unfold zN;rw[Ug l9 l9,Ug l9 l9];have A0:0<=Z8 a/\Z8 a<=1000000000000000:=by rcases Cj a with⟨h1,e1⟩|⟨h1,e1⟩<;>omega
 have B0:0<=Z8 b/\Z8 b<=1000000000000:=by rcases Cj b with⟨h1,e1⟩|⟨h1,e1⟩<;>omega
 rw[Ut A0.1 l9 B0.1 l9,o8];have hm:=a8D a b;have hp:0<=Z8 a*Z8 b:=P9 A0.1 B0.1;generalize Z8 a*Z8 b=p at hm hp ⊢;simp only;by_cases g:p / 18446744073709551616=0
 case neg=>rw[J8 g,U7 (show(1000000000000000:Int)<p by omega)];rfl
 rw[O0 g,show p % 18446744073709551616=p by omega];by_cases g2:1000000000000000<p
 .rw[U7 g2];rfl
 rw[L8 l9];simp only[D9,o6];rw[show wrap .i64 p=p from ny O5,U1 O5,show(0:Int) -p=-p by omega];rw[←hm];cases D6 (jG (D8 a 0) (D8 b 0))<;>rfl
theorem ND{x y M:Int}(W:V3×Int)(hy:0<=y)(hM:0<=M)(hM2:M<=1000000000000000):l7 (D6 (x8 y 0)) (o5 (qC .i64 M y) λ(q:Int)=>l7 (D8 q x) (some ((0,0,0),3)) (some W)) (some W)=some (l7 (D8 M (x*y)) ((0,0,0),3) W):=by
 by_cases h:y=0
 .subst h;rw[O0 rfl,Int.mul_zero,L8 hM];rfl
 rw[J8 h];simp only[aJ,o7];rw[xR hM l9 l9,o8];have e:M / y<x↔M<x*y:=Int.ediv_lt_iff_lt_mul l9;by_cases g:M / y<x
 .rw[U7 g,U7 (e.1 g)];rfl
 .rw[L8 (jg.1 g),L8 (jg.1 λh=>g (e.2 h))];rfl
theorem a5k{k a b M:Int}(hM:Ae k=some (-M,M))(hM0:0<=M)(hM2:M<=1000000000000000)(ha:-1000000000000000<=a/\a<=1000000000000000)(hb:-1000000000000<=b/\b<=1000000000000):xZ k a b=some (l7 (D8 M (Z8 a*Z8 b)) ((0,0,0),3) (Jy (k,0,Z4 .i64 a b))):=by
 unfold xZ;rw[hM,o8];simp only[Ul,o8];have sa:H9 .i64 0 a=-a:=by rw[U1 O5];omega
 have sb:H9 .i64 0 b=-b:=by rw[U1 O5];omega
 rw[sa,sb];rcases Cj a with⟨h1,e1⟩|⟨h1,e1⟩<;>rcases Cj b with⟨h2,e2⟩|⟨h2,e2⟩<;>rw[e1,e2]
 .rw[U7 h1,U7 h2];exact ND _ l9 hM0 hM2
 .rw[U7 h1,L8 h2];exact ND _ l9 hM0 hM2
 .rw[L8 h1,U7 h2];exact ND _ l9 hM0 hM2
 .rw[L8 h1,L8 h2];exact ND _ l9 hM0 hM2
theorem b_{k a b M:Int}(hk:IJ k=(-M,M))(hM0:0<=M)(hM2:M<=1000000000000000)(ha:-1000000000000000<=a/\a<=1000000000000000)(hb:-1000000000000<=b/\b<=1000000000000):∃r:V3×Int,xZ k a b=some r/\∃q:Int×Int,zN a b=some q/\Z_ (k,0,q.1) q.2=r:=by
 refine⟨_,a5k (by rw[a8O,hk]) hM0 hM2 ha hb,_,a7o ha hb,?_⟩;have hm:=a8D a b;have hmd:Z8 a*Z8 b=Z8 (a*b):=by rcases Cj (a*b)with⟨h,e⟩|⟨h,e⟩<;>(have hn:=P9 (lV a) (lV b);cases hq:D6 (jG (D8 a 0) (D8 b 0))<;>rw[hq]at hm<;>simp only[o7,o6]at hm<;>omega)
 rw[hmd];have habs:=Cj (a*b);have hI:Z8 (a*b)<=1000000000000000->Z4 .i64 a b=a*b:=λh=>mM O5;have hpl:M<Z8 (a*b)->plB (k,0,a*b)=false:=by
  intro h;unfold plB;rw[hk];simp only;by_cases g:-M<=a*b
  .rw[Y6 g,Z5 (show M<a*b by omega)];rfl
  .rw[Z5 l9];rfl
 generalize a*b=p at*;by_cases g:1000000000000000<Z8 p
 .rw[U7 g,U7 l9];rfl
 rw[L8 l9,hI l9];simp only[o6,Qk];by_cases g2:M<Z8 p
 .rw[U7 g2];unfold Jy;rw[hpl g2];rfl
 .rw[L8 l9];rfl
theorem a9G{k e n:Int}(h:plB (k,e,n)=true):(k=2->-1000000000000<=n/\n<=1000000000000)/\(k=3->-1000000000000000<=n/\n<=1000000000000000):=by rcases a7n h with⟨m,h,g⟩|⟨m,h,g⟩|⟨m,h,g⟩|⟨m,h,g⟩|⟨m,h,g⟩|⟨e',m,h,g⟩<;>cases h<;>exact⟨λh=>by first|exact g|exact absurd h J5,λh=>by first|exact g|exact absurd h J5⟩
theorem c0p(N:Int)(x y:V3)(env:dJ)(hx:plB x=true)(hy:plB y=true):jB (13,N) [x,y] env:=by
 have hX:=a9G (k:=x.1) (e:=x.2.1) (n:=x.2.2) hx;have hY:=a9G (k:=y.1) (e:=y.2.1) (n:=y.2.2) hy;have key:y.1=2->x.1=2\/x.1=3->∃r:V3×Int,xZ x.1 x.2.2 y.2.2=some r/\∃q:Int×Int,zN x.2.2 y.2.2=some q/\Z_ (x.1,0,q.1) q.2=r:=by
  intro h2 h;have hb:=hY.1 h2;rcases h with h|h
  .have ha:=hX.1 h;exact b_ (M:=1000000000000) (by rw[h];rfl) J5 J5 ⟨Int.le_trans J5 ha.1,Int.le_trans ha.2 J5⟩ hb
  .have ha:=hX.2 h;exact b_ (M:=1000000000000000) (by rw[h];rfl) J5 J5 ha hb
 (unfold jB RP EP aj ak kP bJ jf;simp (disch:=decide) only[bW])
 unfold Af CO;simp (disch:=decide) only[bW];cases g2:x8 y.1 2
 .exact⟨_,rfl,rfl⟩
 by_cases g3:x.1=3
 .obtain⟨r,e1,q,e2,e3⟩:=key (Y5.1 g2) (.inr g3);rw[O0 g3,J8 (show x.1≠2 by rw[g3];decide)];simp (disch:=decide) only[bW];rw[e1,e2];simp (disch:=decide) only[bW];exact⟨_,rfl,congrArg some e3⟩
 rw[J8 g3];cases g4:x8 x.1 2
 .exact⟨_,rfl,rfl⟩
 obtain⟨r,e1,q,e2,e3⟩:=key (Y5.1 g2) (.inl (Y5.1 g4));simp (disch:=decide) only[bW];rw[e1,e2];simp (disch:=decide) only[bW];exact⟨_,rfl,congrArg some e3⟩
theorem b2a:∀i:Fin 40,lK ((i.1:Nat):Int)=uV ((i.1:Nat):Int):=by decide+kernel
theorem b2r:∀i:Fin 40,(arF ((i.1:Nat):Int)=0->i.1∈[1,2,3,4,5,6,7,8,9,35,36,37,38,39])/\(arF ((i.1:Nat):Int)=1->i.1∈[10,25,31,32,33,34])/\(arF ((i.1:Nat):Int)=2->i.1∈[11,12,13,14,15,16,17,18,19,20,21,22,23,24,27,28,29,30])/\(arF ((i.1:Nat):Int)=3->i.1=26):=by decide+kernel
theorem c5R(h:k<1\/39<k):arF k=-1:=by
 unfold arF jo;rw[J8 (show k≠10 by omega),J8 (show k≠25 by omega),J8 (show k≠31 by omega),J8 (show k≠32 by omega),J8 (show k≠33 by omega),J8 (show k≠34 by omega),J8 (show k≠26 by omega)];rcases h with h|h
 .rw[Z5 (show k<1 by omega),Z5 (show k<35 by omega),Z5 (show k<11 by omega)];rfl
 .rw[Y6 (show 1<=k by omega),Z5 (show 9<k by omega),Y6 (show 35<=k by omega),Z5 (show 39<k by omega),Y6 (show 11<=k by omega),Z5 (show 30<k by omega)];rfl
theorem c0C(h:arF k≠-1):∃i:Fin 40,k=((i.1:Nat):Int):=by
 by_cases g:1<=k/\k<=39
 .exact⟨⟨k.toNat,l9⟩,by simp;omega⟩
 .exact absurd (c5R l9) h
theorem b7o(h:arF k≠-1):lK k=uV k:=by obtain⟨i,rfl⟩:=c0C h;exact b2a i
theorem a1k(k:Int):∃b,uV k=some b:=by unfold uV;cases J6 1 k<;>cases J6 k 8<;>cases J6 36 k<;>cases J6 k 39<;>cases x8 k 14<;>cases x8 k 15<;>cases x8 k 16<;>cases x8 k 33<;>exact⟨_,rfl⟩
def b0G(k N:Int):Bool:=l7 (l7 (x8 k 14) true (l7 (x8 k 15) true (x8 k 16))) (l7 (J6 0 N) (J6 N 5) false) (l7 (x8 k 34) (l7 (J6 0 N) (J6 (eU N 8) 5) false) (l7 (x8 k 6) (J6 0 N) true))
theorem a4j(k N:Int):(o5 (l7 (x8 k 14) (some (x8 k 14)) (l7 (x8 k 15) (some (x8 k 15)) (some (x8 k 16)))) λ(x:Bool)=>l7 x (l7 (J6 0 N) (some (J6 N 5)) (some false)) (l7 (x8 k 34) (l7 (J6 0 N) (some (J6 (eU N 8) 5)) (some false)) (l7 (x8 k 6) (some (J6 0 N)) (some true))))=some (b0G k N):=by unfold b0G;cases x8 k 14<;>cases x8 k 15<;>cases x8 k 16<;>cases J6 0 N<;>cases x8 k 34<;>cases x8 k 6<;>rfl
def a6L(k N:Int):Bool:=l7 (x8 N 0) (b0G k N) (l7 ((uV k).getD false) (b0G k N) false)
theorem b0F{k N c:Int}(h:arF k=c):Eb (k,N) c=some (a6L k N):=by unfold Eb a6L;rw[l_,o8,O0 h];simp only[D9,o6,a4j];obtain⟨b,hb⟩:=a1k k;rw[hb];cases x8 N 0<;>cases b<;>rfl
variable {N:Int}
theorem a6f(h:arF k≠-1):tH (k,N)=some (a6L k N):=by unfold tH a6L;rw[YE,o8,L8 (show 0<=arF k by have:=(La k).2.2;omega)];simp only[o6,a4j];rw[b7o h];obtain⟨b,hb⟩:=a1k k;rw[hb];cases x8 N 0<;>cases b<;>rfl
theorem a8x(k N:Int):∃b,tH (k,N)=some b:=by
 by_cases h:arF k=-1
 .refine⟨false,?_⟩;unfold tH;rw[YE,o8,h];rfl
 .exact⟨_,a6f h⟩
theorem a4f(n:Int×Int)(env:dJ):∃b,jJ n env=some b:=by
 unfold jJ;by_cases h7:n.1=7
 .rw[O0 h7,o7];cases J6 0 n.2<;>exact⟨_,rfl⟩
 rw[J8 h7,o6];by_cases h8:n.1=8
 .rw[O0 h8,o7];by_cases g:0<=n.2
  case neg=>rw[Z5 (lD.1 g)];exact⟨_,rfl⟩
  by_cases g2:n.2<o9 env.2.2.1
  case neg=>rw[Y6 g,L8 (jg.1 g2)];exact⟨_,rfl⟩
  obtain⟨x,hx,_⟩:=nN g g2;rw[Y6 g,U7 g2,hx];exact⟨_,rfl⟩
 rw[J8 h8,o6];cases x8 n.1 33
 .cases x8 n.1 34
  .cases x8 n.1 36<;>cases x8 n.1 37<;>cases x8 n.1 38<;>cases x8 n.1 39<;>cases J6 0 n.2<;>exact⟨_,rfl⟩
  .exact⟨_,rfl⟩
 .cases J6 0 n.2<;>exact⟨_,rfl⟩
variable {α:Type}
theorem b7y(l:List α)(p:α->Bool):l.all p= !l.any λv=> !p v:=by
 induction l with
 |nil=>rfl|cons a l ih=>rw[List.all_cons,lM,Bool.not_or,Bool.not_not,ih]
theorem b2o(l:List V3)(hl:l.length<=1000000):yA l=some (l.all plB):=by
 unfold yA;have e:=wX l (λv=> !plB v) false PUnit.unit (f:=λ(x:Int)=>l7 (D8 x (o9 l)) (o5 (G8 l x) λ(x_1:V3)=>o5 (iK x_1) λ(x_2:Bool)=>l7 (D6 x_2) (some (Out.rt false)) (some (Out.nx (x9 IntKind.i64 x 1)))) (some (Out.ex PUnit.unit))) hl
  (λi a hi=>by
   have hlt:(i:Int)<o9 l:=by have:=X0.1 hi;obtain⟨h,_⟩:=this;unfold o9;omega
   have hm:=E8 l i;rw[hi]at hm;simp only[U7 hlt,o7,hm,o8,zY];cases plB a<;>rfl) (by rw[L8 (show o9 l<=(l.length:Int)from iM _)];rfl)
 rw[show U0 _ _=_ from e];rw[b7y l plB];cases l.any λv=> !plB v<;>rfl
theorem b1p(l:List V3)(hl:l.length<=1000000){γ:Type}{K:V3⊕(V3×Int)->Option γ} :(o5 (U0
      (λ(x:V3×Int)=>
       l7 (D8 x.2 (o9 l))
        (o5 (G8 l x.2) λ(x_1:V3)=>
         o5 (gJ x_1) λ(x_2:Bool)=>
          l7 (D6 x_2) (some (Out.rt (((0,0,0),8):V3×Int))) (some (Out.nx (x.1,x9 IntKind.i64 x.2 1))))
        (some (Out.ex x.1)))
      ((0,0,0),0)) K)=K (l7 (l.all plB) (.inl (0,0,0)) (.inr ((0,0,0),8))):=by
 have hf:∀(l:List V3) (u:V3),fG (λ(_:V3) (v:V3)=>(l7 (plB v) (.inl ((0,0,0):V3)) (.inr (((0,0,0),8):V3×Int)):V3⊕(V3×Int))) l (0,0,0)=l7 (l.all plB) (.inl (0,0,0)) (.inr ((0,0,0),8)):=by
  intro l u;induction l with
  |nil=>rfl|cons a l ih=>
   unfold fG;rw[List.all_cons];cases plB a
   .rfl
   .exact ih
 apply jq l (λ(_:V3) (v:V3)=>(l7 (plB v) (.inl ((0,0,0):V3)) (.inr (((0,0,0),8):V3×Int)):V3⊕(V3×Int))) (λb i=>((b,i):V3×Int)) (λb=>b) (λi b=>b=(0,0,0)) (0,0,0) hl rfl
 .intro i a b hi hi' hb;subst hb;have hlt:(i:Int)<o9 l:=by
   have:=X0.1 hi;obtain⟨h,_⟩:=this;unfold o9;omega
  have hm:=E8 l i;rw[hi]at hm;simp only[U7 hlt,o7,hm,o8,xX];cases plB a
  .exact⟨rfl,λ_ h=>by cases h⟩
  .exact⟨by rw[Y1 l9];rfl,λ_ h=>by cases h;rfl⟩
 .intro b hb;simp only[L8 (show o9 l<=(l.length:Int)from iM _),o6]
 .intro _;rw[hf l (0,0,0)];cases l.all plB<;>rfl
structure EvOk (env:dJ):Prop where
 ms:env.2.2.2.1.length<=1000000
 tb:∀t∈env.2.2.2.2.2,pY t
theorem c0n(k N:Int)(args:List V3)(env:dJ)(hE:EvOk env)(hN:-9223372036854775808<=N/\N<=9223372036854775807)(hk:k≠23/\k≠24/\k≠26)(ha:arF k=o9 args)(hf:a6L k N=true)(he:jJ (k,N) env=some true)(hp:args.all plB=true):jB (k,N) args env:=by
 have hne:arF k≠-1:=by rw[ha];unfold o9;omega
 have hN34:k=34->0<=N:=by
  rintro rfl;unfold a6L at hf;have:b0G 34 N=true:=by
   cases g:x8 N 0<;>rw[g]at hf
   .exact hf
   .exact hf
  unfold b0G at this;by_cases g:0<=N
  .exact g
  .rw[Z5 l9]at this;cases this
 obtain⟨i,hi⟩:=c0C hne;obtain⟨a0,a1,a2,a3⟩:=b2r i;rw[←hi,ha]at a0 a1 a2 a3;match args,ha,hp with
 |[],ha,hp=>
  have:=a0 rfl;simp only[D5,sQ,or_false]at this;rcases this with h|h|h|h|h|h|h|h|h|h|h|h|h|h<;>rw[h]at hi<;>subst hi
  .exact TL _ _ _ J5
  .exact TL _ _ _ J5
  .exact TL _ _ _ J5
  .exact TL _ _ _ J5
  .exact TL _ _ _ J5
  .exact c5N _ _
  .exact c5O _ _ he
  .exact c5P _ _ he
  .exact c5Q _ _
  .exact c0B _ _
  .exact Yc _ _ _ J5 he hE.ms
  .exact Yc _ _ _ J5 he hE.ms
  .exact Yc _ _ _ J5 he hE.ms
  .exact Yc _ _ _ J5 he hE.ms
 |[x],ha,hp=>
  have hx:plB x=true:=by simpa using hp
  have:=a1 rfl;simp only[D5,sQ,or_false]at this;rcases this with h|h|h|h|h|h<;>rw[h]at hi<;>subst hi
  .exact c0o _ _ _
  .exact c0t _ _ _
  .exact a8J _ _ _ _ J5 hx
  .exact a8J _ _ _ _ J5 hx
  .exact c0z _ _ _ hx he hE.tb
  .exact c0A _ _ _ (hN34 rfl) hN.2 he hE.tb
 |[x,y],ha,hp=>
  have hxy:plB x=true/\plB y=true:=by simpa using hp
  have:=a2 rfl;simp only[D5,sQ,or_false]at this;rcases this with h|h|h|h|h|h|h|h|h|h|h|h|h|h|h|h|h|h<;>rw[h]at hi<;>subst hi
  .exact a8G _ _ _ _ _ J5
  .exact a8G _ _ _ _ _ J5
  .exact c0p _ _ _ _ hxy.1 hxy.2
  .exact c0q _ _ _ _
  .exact c0r _ _ _ _
  .exact c0s _ _ _ _
  .exact YC _ _ _ _ _ J5 hxy.1 hxy.2
  .exact YC _ _ _ _ _ J5 hxy.1 hxy.2
  .exact b2p _ _ _ _ _ J5
  .exact b2p _ _ _ _ _ J5
  .exact a8I _ _ _ _ _ J5
  .exact a8I _ _ _ _ _ J5
  .exact absurd rfl hk.1
  .exact absurd rfl hk.2.1
  .exact c0u _ _ _ _
  .exact c0w _ _ _ _
  .exact c0x _ _ _ _
  .exact c0y _ _ _ _
 |[x,y,z],ha,hp=>have h:=a3 rfl;rw[h]at hi;exact absurd hi hk.2.2|x::y::z::w::l,ha,hp=>
  have h1:=(La k).2.2;have:o9 (x::y::z::w::l)=(l.length:Int)+4:=by unfold o9;simp<;>omega
  rw[this]at ha;omega
theorem a3J(k N:Int)(args:List V3)(env:dJ)(hE:EvOk env)(hN:-9223372036854775808<=N/\N<=9223372036854775807)(hk:k≠23/\k≠24/\k≠26)(hl:args.length<=1000000):∃r:V3×Int,uy (k,N) args env=some r/\BX (k,N) args env=some r:=by
 by_cases ha:arF k=o9 args
 case neg=>
  refine⟨((0,0,0),2),?_,?_⟩
  .unfold uy Eb;rw[l_,o8,J8 ha];rfl
  .unfold BX;obtain⟨b,hb⟩:=a8x k N;rw[hb,o8];cases b
   .rfl
   .rw[YE,o8,J8 (λh=>ha h.symm)];rfl
 have hne:arF k≠-1:=by rw[ha];unfold o9;omega
 unfold uy BX;rw[b0F ha,a6f hne,YE];simp only[o8,O0 ha.symm];cases hf:a6L k N
 .exact⟨_,rfl,rfl⟩
 simp only[D9,o6,o8,J7];obtain⟨b,hb⟩:=a4f (k,N) env;rw[show PN (k,N) env=some b from hb,hb];cases b
 .exact⟨_,rfl,rfl⟩
 simp only[o8,D9,o6];rw[b1p args hl,b2o args hl,o8];cases hp:args.all plB
 .exact⟨_,rfl,rfl⟩
 exact c0n k N args env hE hN hk ha hf hb hp
def XT.node:XT->Int×Int
 | .l0 n=>n| .l1 n _=>n| .l2 n _ _=>n| .l3 n _ _ _=>n
def rtI(t:XT)(o:Nat):Nat:=o+t.size -1
def At(e:List (Int×Int))(S:d5Y)(t:XT)(o:Nat):Prop:=∃pre suf S1 S2,e=pre++t.post++suf/\S=S1++t.sts o++S2/\pre.length=o/\S1.length=o
variable {e:List (Int×Int)}{S:d5Y}{o:Nat}
theorem b2u{n:Int×Int}{a:XT}(h:At e S (.l1 n a) o):At e S a o:=by obtain⟨p,s,S1,S2,h1,h2,h3,h4⟩:=h;exact⟨p,[n]++s,S1,[(o:Int)]++S2,by rw[h1];simp[XT.post],by rw[h2];simp[XT.sts],h3,h4⟩
theorem Rx{n:Int×Int}{a b:XT}(h:At e S (.l2 n a b) o):At e S a o/\At e S b (o+a.size):=by
 obtain⟨p,s,S1,S2,h1,h2,h3,h4⟩:=h;exact⟨⟨p,b.post++[n]++s,S1,b.sts (o+a.size)++[(o:Int)]++S2,by rw[h1];simp[XT.post],by rw[h2];simp[XT.sts],h3,h4⟩,
  ⟨p++a.post,[n]++s,S1++a.sts o,[(o:Int)]++S2,by rw[h1];simp[XT.post],by rw[h2];simp[XT.sts],by simp[XT.post_len,h3],by simp[XT.sts_len,h4]⟩⟩
theorem TM{n:Int×Int}{a b c:XT}(h:At e S (.l3 n a b c) o):At e S a o/\At e S b (o+a.size)/\At e S c (o+a.size+b.size):=by
 obtain⟨p,s,S1,S2,h1,h2,h3,h4⟩:=h;exact⟨⟨p,b.post++c.post++[n]++s,S1,b.sts (o+a.size)++c.sts (o+a.size+b.size)++[(o:Int)]++S2,by rw[h1];simp[XT.post],by rw[h2];simp[XT.sts],h3,h4⟩,
  ⟨p++a.post,c.post++[n]++s,S1++a.sts o,c.sts (o+a.size+b.size)++[(o:Int)]++S2,by rw[h1];simp[XT.post],by rw[h2];simp[XT.sts],by simp[XT.post_len,h3],by simp[XT.sts_len,h4]⟩,
  ⟨p++a.post++b.post,[n]++s,S1++a.sts o++b.sts (o+a.size),[(o:Int)]++S2,by rw[h1];simp[XT.post],by rw[h2];simp[XT.sts],by simp[XT.post_len,h3];try omega,by simp[XT.sts_len,h4];try omega⟩⟩
theorem b1n(t:XT):∃p,t.post=p++[t.node]/\p.length+1=t.size:=by
 have hl:=t.post_len;cases t with
 |l0 n=>exact⟨[],rfl,rfl⟩|l1 n a=>refine⟨a.post,rfl,?_⟩;simp only[XT.post,E5,dY]at hl;exact hl|l2 n a b=>refine⟨a.post++b.post,rfl,?_⟩;simp only[XT.post,E5,dY]at hl ⊢;exact hl|l3 n a b c=>refine⟨a.post++b.post++c.post,rfl,?_⟩;simp only[XT.post,E5,dY]at hl ⊢;exact hl
theorem b7a(t:XT)(o:Nat):∃p,t.sts o=p++[(o:Int)]/\p.length+1=t.size:=by
 have hl:=t.sts_len o;cases t with
 |l0 n=>exact⟨[],rfl,rfl⟩|l1 n a=>refine⟨a.sts o,rfl,?_⟩;simp only[XT.sts,E5,dY]at hl;exact hl|l2 n a b=>refine⟨a.sts o++b.sts (o+a.size),rfl,?_⟩;simp only[XT.sts,E5,dY]at hl ⊢;exact hl|l3 n a b c=>refine⟨a.sts o++b.sts (o+a.size)++c.sts (o+a.size+b.size),rfl,?_⟩;simp only[XT.sts,E5,dY]at hl ⊢;exact hl
variable {t:XT}
theorem uf(h:At e S t o):e[rtI t o]? =some t.node/\S[rtI t o]? =some (o:Int)/\rtI t o<e.length:=by
 obtain⟨p,s,S1,S2,h1,h2,h3,h4⟩:=h;obtain⟨q,e1,e2⟩:=b1n t;obtain⟨q',e1',e2'⟩:=b7a t o;have hp:=t.size_pos;have a1:e[rtI t o]? =some t.node:=by rw[h1,e1,F8,F8,←F8 p,I7 (by simp[rtI];omega)];rw[show rtI t o -(p++q).length=0 by simp[rtI];omega];rfl
 refine⟨a1,?_,(X0.1 a1).1⟩;rw[h2,e1',F8,F8,←F8 S1,I7 (by simp[rtI];omega)];rw[show rtI t o -(S1++q').length=0 by simp[rtI];omega];rfl
def Nb:XT->Nat->d5Y
 | .l0 _,_=>[]| .l1 _ a,o=>[(rtI a o:Int)]| .l2 _ a b,o=>[(rtI a o:Int),(rtI b (o+a.size):Int)]| .l3 _ a b c,o=>[(rtI a o:Int),(rtI b (o+a.size):Int),(rtI c (o+a.size+b.size):Int)]
structure OStep (S:d5Y) (f:d5Y×Int×Int->Option ((d5Y×Int×Int)⊕d5Y)):Prop where
 step:∀(l:d5Y) (c:Nat) (j:Nat) (x:Nat),j<l.length->l.length<=3->S[c]? =some ((x:Nat):Int)->x<=100->f (l,(c:Int),(j:Int))=some (.inl (l.set j (c:Int),(x:Int) -1,(j:Int) -1))
 stop:∀(l:d5Y) (c:Int),f (l,c,-1)=some (.inr l)
variable {σ:Type}{ε:Type}
theorem EU{f:σ->Option (σ⊕ε)}{s s' :σ}{n:Nat}(h:f s=some (.inl s')):uS f (n+1) s=uS f n s' :=by rw[uS,h]
theorem LJ{f:σ->Option (σ⊕ε)}{s:σ}{e:ε}{n:Nat}(h:f s=some (.inr e)):uS f (n+1) s=some e:=by rw[uS,h]
theorem a4W{f:d5Y×Int×Int->Option ((d5Y×Int×Int)⊕d5Y)}(hs:OStep S f)(h:At e S t o)(he:e.length<=48)(hw:t.wf):
  Y8 f (List.replicate (arF t.node.1).toNat 0,(rtI t o:Int) -1,arF t.node.1 -1)=some (Nb t o):=by
 obtain⟨k,hk⟩:∃k,kH=k+1+1+1+1:=⟨kH -4,by unfold kH;omega⟩;unfold Y8;rw[hk];have hr:=uf h;cases t with
 |l0 n=>rw[show arF (XT.l0 n).node.1=0 from hw];exact LJ (hs.stop _ _)|l1 n a=>rw[show arF (XT.l1 n a).node.1=1 from hw.1];have ha:=uf (b2u h);have p1:=a.size_pos;rw[show((rtI (.l1 n a) o:Nat):Int) -1=((rtI a o:Nat):Int) by simp only[rtI,XT.size];omega];rw[show((1:Int) -1)=((0:Nat):Int)from rfl,EU (hs.step _ _ 0 o A7 A7 ha.2.1 (by unfold rtI at hr;omega))];rw[show(((0:Nat):Int) -1)=-1 from rfl,LJ (hs.stop _ _)];rfl|l2 n a b=>rw[show arF (XT.l2 n a b).node.1=2 from hw.1];have ha:=uf (Rx h).1;have hb:=uf (Rx h).2;have p1:=a.size_pos;have p2:=b.size_pos;rw[show((rtI (.l2 n a b) o:Nat):Int) -1=((rtI b (o+a.size):Nat):Int) by simp only[rtI,XT.size];omega];rw[show((2:Int) -1)=((1:Nat):Int)from rfl,EU (hs.step _ _ 1 (o+a.size) A7 A7 hb.2.1 (by unfold rtI at hb;omega))];rw[show((o+a.size:Nat):Int) -1=((rtI a o:Nat):Int) by unfold rtI;omega,show(((1:Nat):Int) -1)=((0:Nat):Int)from rfl];rw[EU (hs.step _ _ 0 o A7 A7 ha.2.1 (by unfold rtI at hr;omega))];rw[show(((0:Nat):Int) -1)=-1 from rfl,LJ (hs.stop _ _)];rfl|l3 n a b c=>rw[show arF (XT.l3 n a b c).node.1=3 from hw.1];have ha:=uf (TM h).1;have hb:=uf (TM h).2.1;have hc:=uf (TM h).2.2;have p1:=a.size_pos;have p2:=b.size_pos;have p3:=c.size_pos;rw[show((rtI (.l3 n a b c) o:Nat):Int) -1=((rtI c (o+a.size+b.size):Nat):Int) by simp only[rtI,XT.size];omega];rw[show((3:Int) -1)=((2:Nat):Int)from rfl,EU (hs.step _ _ 2 (o+a.size+b.size) A7 A7 hc.2.1 (by unfold rtI at hc;omega))];rw[show((o+a.size+b.size:Nat):Int) -1=((rtI b (o+a.size):Nat):Int) by unfold rtI;omega,show(((2:Nat):Int) -1)=((1:Nat):Int)from rfl];rw[EU (hs.step _ _ 1 (o+a.size) A7 A7 hb.2.1 (by unfold rtI at hb;omega))];rw[show((o+a.size:Nat):Int) -1=((rtI a o:Nat):Int) by unfold rtI;omega,show(((1:Nat):Int) -1)=((0:Nat):Int)from rfl];rw[EU (hs.step _ _ 0 o A7 A7 ha.2.1 (by unfold rtI at hr;omega))];rw[show(((0:Nat):Int) -1)=-1 from rfl,LJ (hs.stop _ _)];rfl
theorem c0i(h:t.wf):0<=arF t.node.1/\arF t.node.1<=3:=by
 cases t with
 |l0 n=>rw[show arF (XT.l0 n).node.1=0 from h];decide|l1 n a=>rw[show arF (XT.l1 n a).node.1=1 from h.1];decide|l2 n a b=>rw[show arF (XT.l2 n a b).node.1=2 from h.1];decide|l3 n a b c=>rw[show arF (XT.l3 n a b c).node.1=3 from h.1];decide
theorem LK(h:0<=k)(h2:k<=1000000)(x:α):qo k x=some (List.replicate k.toNat x):=if_pos ⟨h,l9⟩
theorem JS(env:dJ)(h:At e S t o)(he:e.length<=48)(hw:t.wf):lT (e,S,env) (rtI t o:Int)=some (Nb t o):=by
 have hr:=uf h;have ha:=c0i hw;unfold lT;simp only[E8,hr.1,o8,YE];rw[LK ha.1 l9,o8,gy];rw[show H9 .i64 ((rtI t o:Nat):Int) 1=(rtI t o:Int) -1 from U1 O5];rw[show H9 .i64 (o9 (List.replicate (arF t.node.1).toNat (0:Int))) 1=arF t.node.1 -1 by rw[show o9 (List.replicate (arF t.node.1).toNat (0:Int))=arF t.node.1 by unfold o9;rw[rV];omega];exact U1 O5]
 refine a4W ⟨λl c j x hj hl hx hx2=>?_,λl c=>?_⟩ h he hw
 .have hjl:l[j]? =some l[j]:=fH hj;simp only[Y6 (show(0:Int)<=(j:Int) by omega),o7,E8,hjl,o8,hx,P7,U8,U3,aW];rw[U1 O5,U1 O5]
 .rfl
theorem Hr{T t:XT}(hT:ng e= .inr T)(h:At e (T.sts 0) t o)(hw:t.wf):zl e (rtI t o:Int)=some (Nb t o):=by
 obtain⟨hp,he⟩:=Gl hT;have hr:=uf h;have ha:=c0i hw;unfold zl;rw[KR,o8];unfold yM;rw[hT];simp only[E8,hr.1,o8,l_,O0 (rfl:(0:Int)=0),D9,o6];rw[L8 (show(0:Int)<=((rtI t o:Nat):Int) by omega),Z5 (show((rtI t o:Nat):Int)<o9 e by unfold o9;omega)];simp only[o6,o8,J7];rw[LK ha.1 l9,o8,gy];rw[show H9 .i64 ((rtI t o:Nat):Int) 1=(rtI t o:Int) -1 from U1 O5];rw[show H9 .i64 (arF t.node.1) 1=arF t.node.1 -1 from U1 O5];refine a4W ⟨λl c j x hj hl hx hx2=>?_,λl c=>?_⟩ h he hw
 .have hjl:l[j]? =some l[j]:=fH hj;simp only[Y6 (show(0:Int)<=(j:Int) by omega),o7,E8,hjl,o8,hx,P7,U8,U3,aW];rw[U1 O5,U1 O5]
 .rfl
def II(n:Int×Int)(args:List V3)(env:dJ):V3×Int:=(uy n args env).getD ((0,0,0),0)
variable {env:dJ}
theorem Ir{n:Int×Int}(args:List V3)(hE:EvOk env)(hI:jw n.2)(hk:n.1≠23/\n.1≠24/\n.1≠26)(hl:args.length<=3):uy n args env=some (II n args env)/\BX n args env=some (II n args env):=by
 obtain⟨r,h1,h2⟩:=a3J n.1 n.2 args env hE (by unfold jw at hI;omega) hk l9;have e:II n args env=r:=by unfold II;rw[show uy n args env=some r from h1];rfl
 rw[e];exact⟨h1,h2⟩
def lzB(k:Int):Bool:=l7 (x8 k 23) true (l7 (x8 k 24) true (x8 k 26))
theorem b9w(h:lzB k=false):k≠23/\k≠24/\k≠26:=by refine⟨?_,?_,?_⟩<;>(rintro rfl;revert h;decide)
def Dk(r:V3×Int):V3×Int:=l7 (x8 r.2 0) (l7 (x8 r.1.1 1) (l7 (plB r.1) (r.1,0) ((0,0,0),8)) ((0,0,0),8)) ((0,0,0),r.2)
def Zu(n:Int×Int)(ra rb:V3×Int):V3×Int:=l7 (x8 n.2 0) (l7 (x8 (Dk ra).2 0) (l7 (jG (x8 n.1 23) (x8 (Dk ra).1.2.2 0)) ((Dk ra).1,0) (Dk rb)) ((0,0,0),(Dk ra).2)) ((0,0,0),2)
def a4x(n:Int×Int)(ra rb rc:V3×Int):V3×Int:=l7 (x8 n.2 0) (l7 (x8 (Dk ra).2 0) (l7 (x8 (Dk ra).1.2.2 1) rb rc) ((0,0,0),(Dk ra).2)) ((0,0,0),2)
def evT(env:dJ):XT->V3×Int
 | .l0 n=>II n [] env| .l1 n a=>l7 (x8 (evT env a).2 0) (II n [(evT env a).1] env) ((0,0,0),(evT env a).2)| .l2 n a b=>l7 (lzB n.1) (Zu n (evT env a) (evT env b)) (l7 (x8 (evT env a).2 0) (l7 (x8 (evT env b).2 0) (II n [(evT env a).1,(evT env b).1] env) ((0,0,0),(evT env b).2)) ((0,0,0),(evT env a).2))| .l3 n a b c=>a4x n (evT env a) (evT env b) (evT env c)
abbrev VSt:Type:=V3×List V3×Int
structure VStep (ops:d5Y) (ev:Int->Option (V3×Int)) (pad:List V3->List V3) (f:VSt->Option (Out VSt (V3×List V3) (V3×Int))):Prop where
 step:∀(l:List V3) (c:Int) (r:V3×Int),ops[l.length]? =some c->ev c=some r->f ((0,0,0),pad l,(l.length:Int))=some (l7 (x8 r.2 0) (.nx ((0,0,0),pad (l++[r.1]),((l.length+1:Nat):Int))) (.rt ((0,0,0),r.2)))
 stop:∀(l:List V3),l.length=ops.length->f ((0,0,0),pad l,(l.length:Int))=some (.ex ((0,0,0),l))
section
variable {ev:Int->Option (V3×Int)} {pad:List V3->List V3} {f:VSt->Option (Out VSt (V3×List V3) (V3×Int))}
theorem v0(h:VStep [] ev pad f):U0 f ((0,0,0),pad [],0)=some (.inl ((0,0,0),[])):=by obtain⟨k,hk⟩:∃k,kH=k+1:=⟨kH -1,by unfold kH;omega⟩;unfold U0;rw[hk,qH,show f ((0,0,0),pad [],0)=some (.ex ((0,0,0),[]))from h.stop [] rfl]
theorem v1{c:Int}{r:V3×Int}(h:VStep [c] ev pad f)(h1:ev c=some r):U0 f ((0,0,0),pad [],0)=some (l7 (x8 r.2 0) (.inl ((0,0,0),[r.1])) (.inr ((0,0,0),r.2))):=by
 obtain⟨k,hk⟩:∃k,kH=k+1+1:=⟨kH -2,by unfold kH;omega⟩;unfold U0;rw[hk,qH,show f ((0,0,0),pad [],0)=_ from h.step [] c r rfl h1];cases x8 r.2 0
 .rfl
 .simp only[o7];rw[qH,show f ((0,0,0),pad ([]++[r.1]),(([].length+1:Nat):Int))=_ from h.stop [r.1] rfl]
theorem v2{c d:Int}{r q:V3×Int}(h:VStep [c,d] ev pad f)(h1:ev c=some r)(h2:ev d=some q):U0 f ((0,0,0),pad [],0)=some (l7 (x8 r.2 0) (l7 (x8 q.2 0) (.inl ((0,0,0),[r.1,q.1])) (.inr ((0,0,0),q.2))) (.inr ((0,0,0),r.2))):=by
 obtain⟨k,hk⟩:∃k,kH=k+1+1+1:=⟨kH -3,by unfold kH;omega⟩;unfold U0;rw[hk,qH,show f ((0,0,0),pad [],0)=_ from h.step [] c r rfl h1];cases x8 r.2 0
 .rfl
 .simp only[o7];rw[qH,show f ((0,0,0),pad ([]++[r.1]),(([].length+1:Nat):Int))=_ from h.step [r.1] d q rfl h2];cases x8 q.2 0
  .rfl
  .simp only[o7];rw[qH,show f ((0,0,0),pad ([r.1]++[q.1]),(([r.1].length+1:Nat):Int))=_ from h.stop [r.1,q.1] rfl]
end
theorem a1S(h:arF k=0\/arF k=1):k≠23/\k≠24/\k≠26:=by refine⟨?_,?_,?_⟩<;>(rintro rfl;revert h;decide)
theorem b2s(h:arF k=2):k≠26:=by rintro rfl;revert h;decide
theorem b2t(h:arF k=3):k=26:=by obtain⟨i,rfl⟩:=c0C (by rw[h];decide);rw[(b2r i).2.2.2 h];rfl
theorem d3Y(n:Nat)(E:aI)(i:Int):(C9 (n+1)).1 E i=qL (C9 n).1 (C9 n).2.1 (C9 n).2.2 E i:=rfl
theorem d3Z(n:Nat)(E:aI)(i:Int):(C9 (n+1)).2.1 E i=uK (C9 n).1 (C9 n).2.1 (C9 n).2.2 E i:=rfl
theorem b9U(n:Nat)(E:aI)(x:Int×Int)(l:d5Y):(C9 (n+1)).2.2 E x l=oC (C9 n).1 (C9 n).2.1 (C9 n).2.2 E x l:=rfl
variable {E:aI}
theorem Su{n:Nat}{i:Int}{r:V3×Int}(h:(C9 n).2.1 E i=some r):(C9 (n+1)).1 E i=some (Dk r):=by
 rw[d3Y];unfold qL Dk;rw[h,o8];cases x8 r.2 0
 .rfl
 cases x8 r.1.1 1
 .rfl
 simp only[D9,o6,o7];rw[zY,o8];cases plB r.1<;>rfl
variable {x:Int×Int}{ra:V3×Int}{rb:V3×Int}
theorem b3j{n:Nat}{i j:Int}(hx:x.1≠26)(h1:(C9 n).2.1 E i=some ra)(h2:(C9 n).2.1 E j=some rb):(C9 (n+2)).2.2 E x [i,j]=some (Zu x ra rb):=by
 rw[show n+2=(n+1)+1 from rfl,b9U];unfold oC Zu;rw[show G8 [i,j] 0=some i from rfl,show G8 [i,j] 1=some j from rfl];simp only[o8];rw[Su h1,Su h2,J8 hx];cases x8 x.2 0
 .rfl
 simp only[o8,D9,o6,o7];cases x8 (Dk ra).2 0
 .rfl
 simp only[D9,o6,o7];cases jG (x8 x.1 23) (x8 (Dk ra).1.2.2 0)<;>rfl
theorem b3k{n:Nat}{i j l:Int}{ra rb rc:V3×Int}(hx:x.1=26)(h1:(C9 n).2.1 E i=some ra)(h2:(C9 (n+1)).2.1 E j=some rb)(h3:(C9 (n+1)).2.1 E l=some rc):(C9 (n+2)).2.2 E x [i,j,l]=some (a4x x ra rb rc):=by
 rw[show n+2=(n+1)+1 from rfl,b9U];unfold oC a4x;rw[show G8 [i,j,l] 0=some i from rfl,show G8 [i,j,l] 1=some j from rfl,show G8 [i,j,l] 2=some l from rfl];simp only[o8];rw[Su h1,h2,h3,O0 hx];cases x8 x.2 0
 .rfl
 simp only[o8,D9,o6,o7];cases x8 (Dk ra).2 0
 .rfl
 simp only[D9,o6,o7];cases x8 (Dk ra).1.2.2 1<;>rfl
def a0q(m:Nat)(l:List V3):List V3:=l++List.replicate (m -l.length) (0,0,0)
theorem b3V{m:Nat}{l:List V3}(h:l.length<m):(a0q m l)[l.length]? =some (0,0,0):=by unfold a0q;rw[I7 (F5 _),dI,lF,if_pos l9]
theorem b3W{m:Nat}{l:List V3}(v:V3)(h:l.length<m):(a0q m l).set l.length v=a0q m (l++[v]):=by unfold a0q;obtain⟨k,hk⟩:∃k,m -l.length=k+1:=⟨m -l.length -1,l9⟩;rw[jP _ _ (F5 _),dI,hk,lm,vX];rw[show m -(l++[v]).length=k by simp;omega];simp
theorem b1l{m:Nat}{l:List V3}(h:l.length=m):a0q m l=l:=by unfold a0q;rw[h,dI];simp
def a9A(ev:Int->Option (V3×Int))(ops:d5Y)(x:VSt):Option (Out VSt (V3×List V3) (V3×Int)):=
 l7 (D8 x.2.2 (o9 ops))
  (o5 (G8 ops x.2.2) λ(x_4:Int)=>
   o5 (P7 ops (U8 x.2.2)) λ(x_5:Int)=>
    o5 (ev x_5) λ(x_6:V3×Int)=>
     l7 (D6 (x8 x_6.2 0)) (some (Out.rt ((0,0,0),x_6.2)))
      (o5 (G8 x.2.1 x.2.2) λ(x_7:V3)=>
       o5 (P7 x.2.1 (U8 x.2.2)) λ(x_8:V3)=>
        some (Out.nx (x.1,aW x.2.1 (U8 x.2.2) x_6.1,x9 IntKind.i64 x.2.2 1))))
  (some (Out.ex (x.1,x.2.1)))
theorem Td(ev:Int->Option (V3×Int))(ops:d5Y)(ho:ops.length<=3):VStep ops ev (a0q ops.length) (a9A ev ops):=by
 refine⟨λl c r h1 h2=>?_,λl h=>?_⟩
 .have hl:=(X0.1 h1).1;unfold a9A;simp only[G9 h1,o7,E8,h1,o8,P7,U8,U3,h2,b3V hl,aW,b3W _ hl];cases x8 r.2 0
  .rfl
  .simp only[D9,o6,o7];rw[Y1 l9]
 .unfold a9A;rw[b1l h,h,G6];rfl
theorem Yg(n:Nat)(E:aI)(i:Int)(x:Int×Int)(ops:d5Y)(h1:G8 E.1 i=some x)(h2:lT E i=some ops)(ho:ops.length<=3):
  (C9 (n+1)).2.1 E i=l7 (lzB x.1) ((C9 n).2.2 E x ops)
   (o5 (U0 (a9A ((C9 n).2.1 E) ops) ((0,0,0),a0q ops.length [],0)) λ(o:V3×List V3⊕V3×Int)=>V5 o (λ(y:V3×List V3)=>BX x y.2 E.2.2) λ(r:V3×Int)=>some r):=by
 rw[d3Z];unfold uK lzB;simp only[h1,h2,o8,gy];rw[show o9 ops=(ops.length:Int)from rfl];have hp:qo (ops.length:Int) (((0,0,0):Int×Int×Int))=some (a0q ops.length []):=by rw[LK l9 l9];rfl
 cases g1:x8 x.1 23
 .cases g2:x8 x.1 24
  .cases g3:x8 x.1 26
   .simp only[o6,o8,J7];rw[show qo (ops.length:Int) _=_ from hp,o8];rfl
   .simp only[o6,o7];generalize (C9 n).2.2 E x ops=q;cases q<;>rfl
  .simp only[o6,o7];generalize (C9 n).2.2 E x ops=q;cases q<;>rfl
 .simp only[o7];generalize (C9 n).2.2 E x ops=q;cases q<;>rfl
theorem UE(t:XT)(o:Nat):(Nb t o).length<=3:=by cases t<;>simp[Nb]
theorem a4c(hE:EvOk env)(he:e.length<=48)(hI:∀n∈e,jw n.2):∀(t:XT) (o k:Nat),At e S t o->t.wf->3*t.size<=k->(C9 k).2.1 (e,S,env) (rtI t o:Int)=some (evT env t):=by
 intro t;induction t with
 |l0 n=>intro o k h hw hk;have hr:=uf h;obtain⟨k,rfl⟩:∃m,k=m+3:=⟨k -3,by simp only[XT.size]at hk;omega⟩;have hz:=a1S (.inl (show arF n.1=0 from hw));rw[show k+3=(k+2)+1 from rfl,Yg _ _ _ n (Nb (.l0 n) o) (by rw[E8];exact hr.1) (JS env h he hw) (UE _ _)];rw[show lzB n.1=false by unfold lzB;rw[J8 hz.1,J8 hz.2.1,J8 hz.2.2];rfl,o6];rw[show Nb (.l0 n) o=[]from rfl,v0 (Td _ _ A7),o8,J7];exact(Ir [] hE (hI n (iZ hr.1)) hz A7).2
 |l1 n a iha=>
  intro o k h hw hk;have hr:=uf h;simp only[XT.size]at hk;obtain⟨k,rfl⟩:∃m,k=m+3:=⟨k -3,l9⟩;have hz:=a1S (.inr (show arF n.1=1 from hw.1));rw[show k+3=(k+2)+1 from rfl,Yg _ _ _ n (Nb (.l1 n a) o) (by rw[E8];exact hr.1) (JS env h he hw) (UE _ _)];rw[show lzB n.1=false by unfold lzB;rw[J8 hz.1,J8 hz.2.1,J8 hz.2.2];rfl,o6];rw[show Nb (.l1 n a) o=[(rtI a o:Int)]from rfl,v1 (Td _ _ A7) (iha o (k+2) (b2u h) hw.2 l9),o8];rw[show evT env (.l1 n a)=l7 (x8 (evT env a).2 0) (II n [(evT env a).1] env) ((0,0,0),(evT env a).2)from rfl];cases x8 (evT env a).2 0
  .rfl
  exact(Ir [(evT env a).1] hE (hI n (iZ hr.1)) hz A7).2
 |l2 n a b iha ihb=>
  intro o k h hw hk;have hr:=uf h;simp only[XT.size]at hk;obtain⟨k,rfl⟩:∃m,k=m+3:=⟨k -3,l9⟩;have hz:=b2s (show arF n.1=2 from hw.1);rw[show k+3=(k+2)+1 from rfl,Yg _ _ _ n (Nb (.l2 n a b) o) (by rw[E8];exact hr.1) (JS env h he hw) (UE _ _)];rw[show Nb (.l2 n a b) o=[(rtI a o:Int),(rtI b (o+a.size):Int)]from rfl];rw[show evT env (.l2 n a b)=l7 (lzB n.1) (Zu n (evT env a) (evT env b)) (l7 (x8 (evT env a).2 0) (l7 (x8 (evT env b).2 0) (II n [(evT env a).1,(evT env b).1] env) ((0,0,0),(evT env b).2)) ((0,0,0),(evT env a).2))from rfl];cases hl:lzB n.1
  .have hz:=b9w hl;simp only[o6];rw[v2 (Td _ _ A7) (iha o (k+2) (Rx h).1 hw.2.1 l9) (ihb (o+a.size) (k+2) (Rx h).2 hw.2.2 l9),o8];cases x8 (evT env a).2 0
   .rfl
   cases x8 (evT env b).2 0
   .rfl
   exact(Ir [(evT env a).1,(evT env b).1] hE (hI n (iZ hr.1)) hz A7).2
  .simp only[o7];exact b3j hz (iha o k (Rx h).1 hw.2.1 l9) (ihb (o+a.size) k (Rx h).2 hw.2.2 l9)
 |l3 n a b c iha ihb ihc=>intro o k h hw hk;have hr:=uf h;simp only[XT.size]at hk;obtain⟨k,rfl⟩:∃m,k=m+3:=⟨k -3,l9⟩;have hz:=b2t (show arF n.1=3 from hw.1);rw[show k+3=(k+2)+1 from rfl,Yg _ _ _ n (Nb (.l3 n a b c) o) (by rw[E8];exact hr.1) (JS env h he hw) (UE _ _)];rw[show lzB n.1=true by rw[hz];decide,o7];exact b3k hz (iha o k (TM h).1 hw.2.1 l9) (ihb (o+a.size) (k+1) (TM h).2.1 hw.2.2.1 l9) (ihc (o+a.size+b.size) (k+1) (TM h).2.2 hw.2.2.2 l9)
theorem c0W(n:Nat)(e:List (Int×Int))(i:Int)(env:dJ):(U5 (n+1)).1 e i env=Fe (U5 n).1 (U5 n).2 e i env:=rfl
theorem b4U(n:Nat)(e:List (Int×Int))(i:Int)(l:d5Y)(env:dJ):(U5 (n+1)).2 e i l env=BK (U5 n).1 (U5 n).2 e i l env:=rfl
def a2Z(ev:Int->Option (V3×Int))(ops:d5Y)(x:VSt):Option (Out VSt (V3×List V3) (V3×Int)):=
 l7 (D8 x.2.2 (o9 ops))
  (o5 (G8 ops x.2.2) λ(x_4:Int)=>
   o5 (P7 ops (U8 x.2.2)) λ(x_5:Int)=>
    o5 (ev x_5) λ(x_6:V3×Int)=>
     l7 (D6 (x8 x_6.2 0)) (some (Out.rt ((0,0,0),x_6.2)))
      (o5 (bz x.2.1 [x_6.1]) λ(y:List V3)=>some (Out.nx (x.1,y,x9 IntKind.i64 x.2.2 1))))
  (some (Out.ex (x.1,x.2.1)))
theorem PU(ev:Int->Option (V3×Int))(ops:d5Y)(ho:ops.length<=3):VStep ops ev (λl=>l) (a2Z ev ops):=by
 refine⟨λl c r h1 h2=>?_,λl h=>?_⟩
 .have hl:=(X0.1 h1).1;unfold a2Z;simp only[G9 h1,o7,E8,h1,o8,P7,U8,U3,h2];cases x8 r.2 0
  .rfl
  .simp only[D9,o6,o7];rw[jh _ l9,o8,Y1 l9]
 .unfold a2Z;rw[h,G6];rfl
theorem UW(n:Nat)(e:List (Int×Int))(env:dJ)(i:Int)(x:Int×Int)(ops:d5Y)(h1:G8 e i=some x)(h2:zl e i=some ops):
  (U5 (n+1)).1 e i env=l7 (lzB x.1) ((U5 n).2 e i ops env)
   (o5 (U0 (a2Z (λc=>(U5 n).1 e c env) ops) ((0,0,0),[],0)) λ(o:V3×List V3⊕V3×Int)=>V5 o (λ(y:V3×List V3)=>uy x y.2 env) λ(r:V3×Int)=>some r):=by
 rw[c0W];unfold Fe lzB;simp only[h1,h2,o8,gy];cases g1:x8 x.1 23
 .cases g2:x8 x.1 24
  .cases g3:x8 x.1 26
   .rfl
   .simp only[o6,o7];generalize (U5 n).2 e i ops env=q;cases q<;>rfl
  .simp only[o6,o7];generalize (U5 n).2 e i ops env=q;cases q<;>rfl
 .simp only[o7];generalize (U5 n).2 e i ops env=q;cases q<;>rfl
theorem OD(r:V3×Int):(x8 r.2 0=false/\(Dk r)=((0,0,0),r.2))\/(x8 r.2 0=true/\x8 r.1.1 1=false/\Dk r=((0,0,0),8))\/(x8 r.2 0=true/\x8 r.1.1 1=true/\plB r.1=false/\Dk r=((0,0,0),8))\/(x8 r.2 0=true/\x8 r.1.1 1=true/\plB r.1=true/\Dk r=(r.1,0)):=by
 unfold Dk;cases x8 r.2 0
 .exact .inl ⟨rfl,rfl⟩
 cases x8 r.1.1 1
 .exact .inr (.inl ⟨rfl,rfl,rfl⟩)
 cases plB r.1
 .exact .inr (.inr (.inl ⟨rfl,rfl,rfl,rfl⟩))
 .exact .inr (.inr (.inr ⟨rfl,rfl,rfl,rfl⟩))
theorem b1E{n:Nat}{c:Int}{i j:Int}(hc:G8 e c=some x)(hx:x.1≠26)(h1:(U5 n).1 e i env=some ra)(h2:(U5 n).1 e j env=some rb):(U5 (n+1)).2 e c [i,j] env=some (Zu x ra rb):=by
 rw[b4U];unfold BK Zu;rw[show G8 [i,j] 0=some i from rfl,show G8 [i,j] 1=some j from rfl];simp only[hc,o8,h1,h2,xX,J8 hx];cases x8 x.2 0
 .rfl
 rcases OD ra with⟨g1,g2⟩|⟨g1,g2,g3⟩|⟨g1,g2,g3,g4⟩|⟨g1,g2,g3,g4⟩
 .rw[g2,g1];rfl
 .rw[g1,g2,g3];rfl
 .rw[g1,g2,g3,g4];rfl
 .rw[g1,g2,g3,g4];simp only[D9,o6,o7,o8,J7,O0 (rfl:(0:Int)=0)];cases jG (x8 x.1 23) (x8 ra.1.2.2 0)
  .rcases OD rb with⟨g1,g2⟩|⟨g1,g2,g3⟩|⟨g1,g2,g3,g4⟩|⟨g1,g2,g3,g4⟩
   .rw[g2,g1];rfl
   .rw[g1,g2,g3];rfl
   .rw[g1,g2,g3,g4];rfl
   .rw[g1,g2,g3,g4];rfl
  .rfl
theorem b1F{n:Nat}{c:Int}{i j l:Int}{ra rb rc:V3×Int}(hc:G8 e c=some x)(hx:x.1=26)(h1:(U5 n).1 e i env=some ra)(h2:(U5 n).1 e j env=some rb)(h3:(U5 n).1 e l env=some rc):(U5 (n+1)).2 e c [i,j,l] env=some (a4x x ra rb rc):=by
 rw[b4U];unfold BK a4x;rw[show G8 [i,j,l] 0=some i from rfl,show G8 [i,j,l] 1=some j from rfl,show G8 [i,j,l] 2=some l from rfl];simp only[hc,o8,h1,h2,h3,xX,O0 hx];cases x8 x.2 0
 .rfl
 rcases OD ra with⟨g1,g2⟩|⟨g1,g2,g3⟩|⟨g1,g2,g3,g4⟩|⟨g1,g2,g3,g4⟩
 .rw[g2,g1];rfl
 .rw[g1,g2,g3];rfl
 .rw[g1,g2,g3,g4];rfl
 .rw[g1,g2,g3,g4];simp only[D9,o6,o7,o8,J7,O0 (rfl:(0:Int)=0)];cases x8 ra.1.2.2 1<;>rfl
theorem a2K{T:XT}(hE:EvOk env)(hT:ng e= .inr T)(hI:∀n∈e,jw n.2):∀(t:XT) (o k:Nat),At e (T.sts 0) t o->t.wf->3*t.size<=k->(U5 k).1 e (rtI t o:Int) env=some (evT env t):=by
 intro t;induction t with
 |l0 n=>intro o k h hw hk;have hr:=uf h;obtain⟨k,rfl⟩:∃m,k=m+3:=⟨k -3,by simp only[XT.size]at hk;omega⟩;have hz:=a1S (.inl (show arF n.1=0 from hw));rw[show k+3=(k+2)+1 from rfl,UW _ _ _ _ n (Nb (.l0 n) o) (by rw[E8];exact hr.1) (Hr hT h hw)];rw[show lzB n.1=false by unfold lzB;rw[J8 hz.1,J8 hz.2.1,J8 hz.2.2];rfl,o6];rw[show Nb (.l0 n) o=[]from rfl,v0 (PU _ _ A7),o8,J7];exact(Ir [] hE (hI n (iZ hr.1)) hz A7).1
 |l1 n a iha=>
  intro o k h hw hk;have hr:=uf h;simp only[XT.size]at hk;obtain⟨k,rfl⟩:∃m,k=m+3:=⟨k -3,l9⟩;have hz:=a1S (.inr (show arF n.1=1 from hw.1));rw[show k+3=(k+2)+1 from rfl,UW _ _ _ _ n (Nb (.l1 n a) o) (by rw[E8];exact hr.1) (Hr hT h hw)];rw[show lzB n.1=false by unfold lzB;rw[J8 hz.1,J8 hz.2.1,J8 hz.2.2];rfl,o6];rw[show Nb (.l1 n a) o=[(rtI a o:Int)]from rfl,v1 (PU _ _ A7) (iha o (k+2) (b2u h) hw.2 l9),o8];rw[show evT env (.l1 n a)=l7 (x8 (evT env a).2 0) (II n [(evT env a).1] env) ((0,0,0),(evT env a).2)from rfl];cases x8 (evT env a).2 0
  .rfl
  exact(Ir [(evT env a).1] hE (hI n (iZ hr.1)) hz A7).1
 |l2 n a b iha ihb=>
  intro o k h hw hk;have hr:=uf h;simp only[XT.size]at hk;obtain⟨k,rfl⟩:∃m,k=m+3:=⟨k -3,l9⟩;have hz:=b2s (show arF n.1=2 from hw.1);rw[show k+3=(k+2)+1 from rfl,UW _ _ _ _ n (Nb (.l2 n a b) o) (by rw[E8];exact hr.1) (Hr hT h hw)];rw[show Nb (.l2 n a b) o=[(rtI a o:Int),(rtI b (o+a.size):Int)]from rfl];rw[show evT env (.l2 n a b)=l7 (lzB n.1) (Zu n (evT env a) (evT env b)) (l7 (x8 (evT env a).2 0) (l7 (x8 (evT env b).2 0) (II n [(evT env a).1,(evT env b).1] env) ((0,0,0),(evT env b).2)) ((0,0,0),(evT env a).2))from rfl];cases hl:lzB n.1
  .have hz:=b9w hl;simp only[o6];rw[v2 (PU _ _ A7) (iha o (k+2) (Rx h).1 hw.2.1 l9) (ihb (o+a.size) (k+2) (Rx h).2 hw.2.2 l9),o8];cases x8 (evT env a).2 0
   .rfl
   cases x8 (evT env b).2 0
   .rfl
   exact(Ir [(evT env a).1,(evT env b).1] hE (hI n (iZ hr.1)) hz A7).1
  .simp only[o7];exact b1E (by rw[E8];exact hr.1) hz (iha o (k+1) (Rx h).1 hw.2.1 l9) (ihb (o+a.size) (k+1) (Rx h).2 hw.2.2 l9)
 |l3 n a b c iha ihb ihc=>intro o k h hw hk;have hr:=uf h;simp only[XT.size]at hk;obtain⟨k,rfl⟩:∃m,k=m+3:=⟨k -3,l9⟩;have hz:=b2t (show arF n.1=3 from hw.1);rw[show k+3=(k+2)+1 from rfl,UW _ _ _ _ n (Nb (.l3 n a b c) o) (by rw[E8];exact hr.1) (Hr hT h hw)];rw[show lzB n.1=true by rw[hz];decide,o7];exact b1F (by rw[E8];exact hr.1) hz (iha o (k+1) (TM h).1 hw.2.1 l9) (ihb (o+a.size) (k+1) (TM h).2.1 hw.2.2.1 l9) (ihc (o+a.size+b.size) (k+1) (TM h).2.2 hw.2.2.2 l9)
def GU(e:List (Int×Int))(env:dJ):V3×Int:=match ng e with
 | .inl x=>((0,0,0),x.2)| .inr t=>evT env t
theorem a3O(h:ng e= .inr t):At e (t.sts 0) t 0/\e.length<=48/\e.length=t.size/\H9 .i64 (o9 e) 1=(rtI t 0:Int):=by
 obtain⟨hp,h48⟩:=Gl h;have hsz:e.length=t.size:=by rw[hp,XT.post_len]
 have hpos:=t.size_pos;refine⟨⟨[],[],[],[],by simp[←hp],A7,rfl,rfl⟩,h48,hsz,?_⟩;rw[U1 (by unfold jw o9;omega)];unfold o9 rtI;omega
theorem a8X(hE:EvOk env)(hI:∀n∈e,jw n.2):Lm e env=some (GU e env):=by
 unfold Lm OU GU;rw[Va];unfold yM;cases h:ng e with
 |inl x=>simp only[o8,J8 (Dh h)];rfl|inr t=>obtain⟨h1,h2,h3,h4⟩:=a3O h;simp only[o8,O0 (rfl:(0:Int)=0),D9,o6,gy];rw[h4,show Az (e,t.sts 0,env) ((rtI t 0:Nat):Int)=some (evT env t)from a4c hE h2 hI t 0 kH h1 (QY h) (by unfold kH;omega)]<;>rfl
theorem a5g(hE:EvOk env)(hI:∀n∈e,jw n.2):Jh e env=some (GU e env):=by
 unfold Jh Nu GU;rw[KR];unfold yM;cases h:ng e with
 |inl x=>simp only[o8,J8 (Dh h)];rfl|inr t=>obtain⟨h1,h2,h3,h4⟩:=a3O h;simp only[o8,O0 (rfl:(0:Int)=0),D9,o6,gy];rw[h4,show PO e ((rtI t 0:Nat):Int) env=some (evT env t)from a2K hE h hI t 0 kH h1 (QY h) (by unfold kH;omega)]<;>rfl
abbrev E4:Type:=Int×Int×Int×Int
def Zk(s:D7)(env:dJ)(m d:Int)(ap:List Bool)(i:Int):List Bool⊕(Int×E4):=
 match G8 s.2.2.2.2 i with
 |none=> .inl ap|some r=>l7 (x8 (o9 r.2.2.2.2.2.1) 0) (.inl (ap++[true])) (l7 (x8 (GU r.2.2.2.2.2.1 env).2 0) (.inl (ap++[x8 (GU r.2.2.2.2.2.1 env).1.2.2 1])) (.inr (0,(GU r.2.2.2.2.2.1 env).2,m,d,i)))
def kN(s:D7)(env:dJ)(m d:Int):Int×E4:=
 match fG (Zk s env m d) (iY s d env.1).1 []with
 | .inr e=>e| .inl ap=>l7 (D8 (Mc (iY s d env.1).2.1 (iY s d env.1).2.2 ap) 0) (Mc (iY s d env.1).2.1 (iY s d env.1).2.2 ap,0,0,0,0) (((iY s d env.1).1.getD (Mc (iY s d env.1).2.1 (iY s d env.1).2.2 ap).toNat 0),0,0,0,0)
variable {s:D7}
theorem Q_{d t i:Int}(h:i∈(iY s d t).1):∃r,G8 s.2.2.2.2 i=some r/\r∈s.2.2.2.2:=by have h:i∈castL (qw s d t):=h;obtain⟨k,hk,rfl⟩:=bM.1 h;have:=(Ws hk).1;exact nN l9 (by unfold o9;omega)
theorem Vd(s:D7)(d t:Int):(iY s d t).1.length<=s.2.2.2.2.length/\(iY s d t).2.1.length=(iY s d t).1.length:=by
 refine⟨?_,?_⟩
 .show(castL (qw s d t)).length<=_;rw[Qu];exact FB _ _
 .show((qw s d t).map _).length=(castL (qw s d t)).length;rw[Qu,X4]
theorem b2B{oc pr:Int->Int}{l:d5Y}(hn:0<=n)(h:∀x∈l,oc x<n):chF oc pr l<n:=by
 unfold chF;cases hb:JA oc pr l with
 |nil=>show(-1:Int)<n;omega|cons b r=>
  cases r with
  |nil=>exact h b (Ld (oc:=oc) (pr:=pr) (by rw[hb];simp))|cons c r=>show(-2:Int)<n;omega
theorem b3F(par prio:d5Y)(ap:List Bool):∀(k:Nat) (i:Int),i<par.length->ocF par prio ap k i<par.length
 |0,i,h=>by show(-1:Int)<_;omega|k+1,i,h=>by
  unfold ocF;have hb:chF (ocF par prio ap k) (prF prio) (castL (Cb par i))<(par.length:Int):=b2B l9 λx hx=>by unfold castL at hx;obtain⟨j,hj,rfl⟩:=bM.1 hx;have:=(a2o hj).1;exact b3F par prio ap k _ l9
  cases x8 (chF (ocF par prio ap k) (prF prio) (castL (Cb par i))) (-1)
  .exact hb
  .cases apF ap i
   .show(-1:Int)<_;omega
   .exact h
theorem a9T(par prio:d5Y)(ap:List Bool):Mc par prio ap<par.length:=by
 unfold Mc;cases x8 (KC par prio) 0
 .show(-1:Int)<_;omega
 cases x8 (o9 ap) (o9 par)
 .show(-1:Int)<_;omega
 show chS par prio ap (-1)<_;unfold chS;refine b2B l9 λx hx=>?_;unfold castL at hx;obtain⟨j,hj,rfl⟩:=bM.1 hx;have:=(a2o hj).1;unfold OC;exact b3F par prio ap _ _ l9
def a2B(m:Nat)(l:List Bool):List Bool:=l++List.replicate (m -l.length) false
theorem b3T{m:Nat}{l:List Bool}(h:l.length<m):(a2B m l)[l.length]? =some false:=by unfold a2B;rw[I7 (F5 _),dI,lF,if_pos l9]
theorem b3U{m:Nat}{l:List Bool}(v:Bool)(h:l.length<m):(a2B m l).set l.length v=a2B m (l++[v]):=by unfold a2B;obtain⟨k,hk⟩:∃k,m -l.length=k+1:=⟨m -l.length -1,l9⟩;rw[jP _ _ (F5 _),dI,hk,lm,vX];rw[show m -(l++[v]).length=k by simp;omega];simp
theorem b1k{m:Nat}{l:List Bool}(h:l.length=m):a2B m l=l:=by unfold a2B;rw[h,dI];simp
theorem YR(s:D7)(env:dJ)(m d:Int)(ap:List Bool):
  l7 (D8 (Mc (iY s d env.1).2.1 (iY s d env.1).2.2 ap) 0) (some ((Mc (iY s d env.1).2.1 (iY s d env.1).2.2 ap,0,0,0,0):Int×E4))
   (o5 (G8 (iY s d env.1).1 (Mc (iY s d env.1).2.1 (iY s d env.1).2.2 ap)) λ(x_3:Int)=>o5 (P7 (iY s d env.1).1 (U8 (Mc (iY s d env.1).2.1 (iY s d env.1).2.2 ap))) λ(x:Int)=>some (x,0,0,0,0))=
  some (l7 (D8 (Mc (iY s d env.1).2.1 (iY s d env.1).2.2 ap) 0) (Mc (iY s d env.1).2.1 (iY s d env.1).2.2 ap,0,0,0,0) (((iY s d env.1).1.getD (Mc (iY s d env.1).2.1 (iY s d env.1).2.2 ap).toNat 0),0,0,0,0)):=by
 have hb:=a9T (iY s d env.1).2.1 (iY s d env.1).2.2 ap;have hl:=(Vd s d env.1).2;generalize Mc (iY s d env.1).2.1 (iY s d env.1).2.2 ap=q at*;generalize (iY s d env.1).1=L at*;by_cases g:q<0
 .rw[U7 g];rfl
 rw[L8 (jg.1 g)];obtain⟨i,rfl⟩:∃i:Nat,q=(i:Int):=⟨q.toNat,l9⟩;have hi:i<L.length:=l9;have e:=fH hi;simp only[o6,E8,e,o8,P7,U8,U3,AB,dG]
theorem a5G(hs:SmS s)(hE:EvOk env)(m d:Int):BD s env m d=some (kN s env m d):=by
 have hnr:=hs.nr;have hlen:=(Vd s d env.1).1;unfold BD;rw[b1X l9,o8];rw[show qo (o9 (iY s d env.1).1) false=some (a2B (iY s d env.1).1.length []) by rw[show o9 (iY s d env.1).1=((iY s d env.1).1.length:Int)from rfl,LK l9 l9];rfl,o8];unfold kN;apply jq (iY s d env.1).1 (Zk s env m d) (λb i=>(((0,0,0,0),a2B (iY s d env.1).1.length b,i):E4×List Bool×Int)) (λb=>(((0,0,0,0),b):E4×List Bool)) (λi b=>b.length=i) [] l9 rfl
 .intro i a b hi hi' hb;obtain⟨r,hr,hm⟩:=Q_ (iZ hi);have hlt:=(X0.1 hi).1;have hI:=(hs.ro r hm).1.2.2;subst hb;simp only[G9 hi,o7,E8,hi,o8,P7,U8,U3,hr,b3T hlt,aW,b3U _ hlt];unfold Zk;rw[hr];simp only;cases x8 (o9 r.2.2.2.2.2.1) 0
  .simp only[o6];rw[a8X hE hI.1,o8];cases x8 (GU r.2.2.2.2.2.1 env).2 0
   .exact⟨rfl,λ_ h=>by cases h⟩
   .simp only[D9,o6,o7];rw[Y1 l9];exact⟨rfl,λ_ h=>by cases h;simp⟩
  .simp only[o7];rw[Y1 l9];exact⟨rfl,λ_ h=>by cases h;simp⟩
 .intro b hb;rw[G6,b1k hb];rfl
 .intro _;cases fG (Zk s env m d) (iY s d env.1).1 []with
  |inr e=>rfl|inl ap=>simp only[J7,b1P,o8];exact YR s env m d ap
theorem b0t(hs:SmS s)(hE:EvOk env)(m d:Int):Ib s env m d=some (kN s env m d):=by
 have hnr:=hs.nr;have hlen:=(Vd s d env.1).1;unfold Ib;rw[a7w l9,o8];unfold kN;apply jq (iY s d env.1).1 (Zk s env m d) (λb i=>(((0,0,0,0),b,i):E4×List Bool×Int)) (λb=>(((0,0,0,0),b):E4×List Bool)) (λi b=>b.length=i) [] l9 rfl
 .intro i a b hi hi' hb;obtain⟨r,hr,hm⟩:=Q_ (iZ hi);have hlt:=(X0.1 hi).1;have hI:=(hs.ro r hm).1.2.2;subst hb;simp only[G9 hi,o7,E8,hi,o8,P7,U8,U3,hr];unfold Zk;rw[hr];simp only;cases x8 (o9 r.2.2.2.2.2.1) 0
  .simp only[o6];rw[a5g hE hI.1,o8];cases x8 (GU r.2.2.2.2.2.1 env).2 0
   .exact⟨rfl,λ_ h=>by cases h⟩
   .simp only[D9,o6,o7];rw[jh _ l9,o8,Y1 l9];exact⟨rfl,λ_ h=>by cases h;simp⟩
  .simp only[o7];rw[jh _ l9,o8,Y1 l9];exact⟨rfl,λ_ h=>by cases h;simp⟩
 .intro b hb;rw[G6];rfl
 .intro _;cases fG (Zk s env m d) (iY s d env.1).1 []with
  |inr e=>rfl|inl ap=>simp only[J7,a7v,o8];exact YR s env m d ap
theorem b2C{oc pr:Int->Int}{l:d5Y}(h:∀x∈l,-2<=oc x):-2<=chF oc pr l:=by
 unfold chF;cases hb:JA oc pr l with
 |nil=>show -2<=(-1:Int);omega|cons b r=>
  cases r with
  |nil=>exact h b (Ld (oc:=oc) (pr:=pr) (by rw[hb];simp))|cons c r=>show -2<=(-2:Int);omega
theorem b3G(par prio:d5Y)(ap:List Bool):∀(k:Nat) (i:Int),0<=i->-2<=ocF par prio ap k i
 |0,i,h=>by show -2<=(-1:Int);omega|k+1,i,h=>by
  unfold ocF;have hb:-2<=chF (ocF par prio ap k) (prF prio) (castL (Cb par i)):=b2C λx hx=>by unfold castL at hx;obtain⟨j,hj,rfl⟩:=bM.1 hx;exact b3G par prio ap k _ l9
  cases x8 (chF (ocF par prio ap k) (prF prio) (castL (Cb par i))) (-1)
  .exact hb
  .cases apF ap i
   .show -2<=(-1:Int);omega
   .show -2<=i;omega
theorem b8T(par prio:d5Y)(ap:List Bool):-2<=Mc par prio ap:=by
 unfold Mc;cases x8 (KC par prio) 0
 .show -2<=(-1:Int);omega
 cases x8 (o9 ap) (o9 par)
 .show -2<=(-1:Int);omega
 show -2<=chS par prio ap (-1);unfold chS;refine b2C λx hx=>?_;unfold castL at hx;obtain⟨j,hj,rfl⟩:=bM.1 hx;unfold OC;exact b3G par prio ap _ _ l9
theorem b3a(b:List Bool)(i:Int)(r:Int×E4)(h:Zk s env m d b i= .inr r):r.2.1≠0:=by
 unfold Zk at h;cases hl:G8 s.2.2.2.2 i with
 |none=>rw[hl]at h;cases h|some q=>
  rw[hl]at h;simp only at h;cases h1:x8 (o9 q.2.2.2.2.2.1) 0<;>rw[h1]at h
  .cases h2:x8 (GU q.2.2.2.2.2.1 env).2 0<;>rw[h2]at h<;>cases h;simp only;intro h3;rw[O0 h3]at h2;cases h2
  .cases h
theorem WP(h0:(kN s env m d).2.1=0)(h1:(kN s env m d).1≠-1)(h2:(kN s env m d).1≠-2):∃r,G8 s.2.2.2.2 (kN s env m d).1=some r/\r∈s.2.2.2.2:=by
 unfold kN at*;cases hf:fG (Zk s env m d) (iY s d env.1).1 []with
 |inr e=>rw[hf]at h0;exact absurd h0 (CP (Zk s env m d) (λr=>r.2.1≠0) b3a _ _ _ hf)|inl ap=>
  rw[hf]at h0 h1 h2;simp only at*;have hb:=a9T (iY s d env.1).2.1 (iY s d env.1).2.2 ap;have hlo:=b8T (iY s d env.1).2.1 (iY s d env.1).2.2 ap;have hl:=(Vd s d env.1).2;generalize Mc (iY s d env.1).2.1 (iY s d env.1).2.2 ap=q at*;by_cases g:q<0
  .rw[U7 g]at h1 h2;simp only[o7]at h1 h2;omega
  rw[L8 (jg.1 g)];have hi:q.toNat<(iY s d env.1).1.length:=l9;simp only[o6,AB,fH hi,dG];exact Q_ (N7 hi)
def a2b(s:D7)(env:dJ)(m d:Int):(V3×Int)⊕E4:=
 l7 (x8 (kN s env m d).2.1 0) (l7 (x8 (kN s env m d).1 (-1)) (.inr (10,m,d,-1)) (l7 (x8 (kN s env m d).1 (-2)) (.inr (11,m,d,-1))
  (match G8 s.2.2.2.2 (kN s env m d).1 with
  |none=> .inr (1,0,0,0)
  |some r=>l7 (x8 (GU r.2.2.2.2.2.2.1 env).2 0) (.inl ((GU r.2.2.2.2.2.2.1 env).1,(kN s env m d).1)) (.inr ((GU r.2.2.2.2.2.2.1 env).2,m,d,(kN s env m d).1))))) (.inr (kN s env m d).2)
theorem a3V{e:E4}(h:a2b s env m d= .inr e):e.1≠0:=by
 unfold a2b at h;cases h0:x8 (kN s env m d).2.1 0<;>rw[h0]at h
 .cases h;intro h3;rw[O0 h3]at h0;cases h0
 cases h1:x8 (kN s env m d).1 (-1)<;>rw[h1]at h
 case true=>cases h;show(10:Int)≠0;decide
 cases h2:x8 (kN s env m d).1 (-2)<;>rw[h2]at h
 case true=>cases h;show(11:Int)≠0;decide
 simp only[o7,o6]at h;cases hl:G8 s.2.2.2.2 (kN s env m d).1 with
 |none=>rw[hl]at h;cases h;show(1:Int)≠0;decide|some r=>rw[hl]at h;simp only at h;cases h4:x8 (GU r.2.2.2.2.2.2.1 env).2 0<;>rw[h4]at h<;>cases h;simp only;intro h3;rw[O0 h3]at h4;cases h4
theorem b0w(hs:SmS s)(hE:EvOk env)(m d:Int):Ic s env m d=some (match a2b s env m d with| .inl v=>(v.1,v.2,0,0,0,0)| .inr e=>((0,0,0),0,e)):=by
 unfold Ic a2b;rw[b0t hs hE,o8];cases h0:x8 (kN s env m d).2.1 0
 .rfl
 cases h1:x8 (kN s env m d).1 (-1)
 case true=>rfl
 cases h2:x8 (kN s env m d).1 (-2)
 case true=>rfl
 obtain⟨r,hr,hm⟩:=WP (Y5.1 h0) (λh=>by rw[O0 h]at h1;cases h1) (λh=>by rw[O0 h]at h2;cases h2);simp only[D9,o6,o7,hr,o8];rw[a5g hE (hs.ro r hm).1.2.2.2,o8];cases x8 (GU r.2.2.2.2.2.2.1 env).2 0<;>rfl
theorem a1s{s:D7} :∀(k:Nat) (O:d5Y),(∀d∈O,0<=d/\d<nD s)->match XW s k O with| .inl O' =>(∀d∈O',0<=d/\d<nD s)/\O'.length<=O.length+k| .inr x=>x.1=[]
 |0,O,h=>⟨h,l9⟩|k+1,O,h=>by
  unfold XW;by_cases hc:O.length<s.2.2.2.1.length
  .rw[if_pos hc];cases hn:Pz s O with
   |none=>rfl|some d=>
    have hd:=(a7a hn).1;have:=a1s k (O++[(d:Int)]) (λx hx=>by
     rcases F7.1 hx with hx|hx
     .exact h x hx
     .rw[dh]at hx;subst hx;unfold nD o9;omega)
    simp only;cases ho:XW s k (O++[(d:Int)])with
    |inl O' =>rw[ho]at this;exact⟨this.1,by have:=this.2;simp at this;omega⟩|inr x=>rw[ho]at this;exact this
  .rw[if_neg hc];exact⟨h,l9⟩
theorem Xo(s:D7):(∀d∈(DV s).1,0<=d/\d<nD s)/\(DV s).1.length<=100:=by
 have:=a1s (s:=s) 100 [] A7;unfold DV;cases ho:XW s 100 []with
 |inl O=>rw[ho]at this;exact⟨this.1,by have:=this.2;simp at this;exact this⟩|inr x=>rw[ho]at this;simp only at this ⊢;rw[this];simp
abbrev DB:Type:=List V3×d5Y
def Ol(env:dJ)(ds:List V3):dJ:=(env.1,env.2.1,ds,env.2.2.2)
theorem a2d(h:EvOk env)(ds:List V3):EvOk (Ol env ds):=⟨h.ms,h.tb⟩
def scG(s:D7)(env:dJ)(m:Int)(need:List Bool)(b:DB)(d:Int):DB⊕(E4×List V3):=
 l7 ((G8 need d).getD false) (match a2b s (Ol env b.1) m d with
  | .inl v=> .inl (b.1.set d.toNat v.1,b.2.set d.toNat v.2)
  | .inr e=> .inr (e,b.1)) (.inl b)
def scS(s:D7)(env:dJ)(m:Int)(need:List Bool):DB⊕(E4×List V3):=fG (scG s env m need) (DV s).1 (List.replicate s.2.2.2.1.length (0,0,0),List.replicate s.2.2.2.1.length 0)
variable {need:List Bool}
theorem b8R(b:DB)(d:Int)(r:E4×List V3)(h:scG s env m need b d= .inr r):r.1.1≠0:=by
 unfold scG at h;cases hb:(G8 need d).getD false<;>rw[hb]at h
 .cases h
 simp only[o7]at h;cases hd:a2b s (Ol env b.1) m d with
 |inl v=>rw[hd]at h;cases h|inr e=>rw[hd]at h;cases h;exact a3V hd
theorem QU{r:E4×List V3}(h:scS s env m need= .inr r):r.1.1≠0:=CP (scG s env m need) (λr=>r.1.1≠0) b8R _ _ _ h
def VK{β ρ ρ' :Type}(h:ρ->ρ'):β⊕ρ->β⊕ρ'| .inl b=> .inl b| .inr r=> .inr (h r)
theorem Ls{α β ρ ρ' :Type}(G:β->α->β⊕ρ)(G' :β->α->β⊕ρ')(h:ρ->ρ')(hG:∀b a,G' b a=VK h (G b a)):∀(l:List α) (b:β),fG G' l b=VK h (fG G l b)
 |[],b=>rfl|a::l,b=>by
  unfold fG;rw[hG b a];cases G b a with
  |inl b' =>exact Ls G G' h hG l b'|inr r=>rfl
theorem Eh(s:D7)(hs:SmS s)(x:α):qo (o9 s.2.2.2.1) x=some (List.replicate s.2.2.2.1.length x):=by have:=hs.nd;rw[show o9 s.2.2.2.1=(s.2.2.2.1.length:Int)from rfl,LK l9 l9];rfl
def scP(env:dJ):E4×List V3->d5Y×E4×dJ:=λr=>([],r.1,Ol env r.2)
theorem TY(hs:SmS s)(hE:EvOk env)(m:Int)(hn:need.length=s.2.2.2.1.length):jK s env m need=some (match scS s env m need with| .inl b=>(b.2,(0,0,0,0),Ol env b.1)| .inr r=>([],r.1,Ol env r.2)):=by
 obtain⟨o1,o2⟩:=Xo s;unfold jK;rw[Eh s hs,o8,Eh s hs,o8,b3R hs,o8];have hfold:=Ls (scG s env m need) (λb d=>VK (scP env) (scG s env m need b d)) (scP env) (λ_ _=>rfl) (DV s).1 (List.replicate s.2.2.2.1.length (0,0,0),List.replicate s.2.2.2.1.length 0);unfold scS;apply jq (DV s).1 (λb d=>VK (scP env) (scG s env m need b d)) (λb i=>((Ol env b.1,(0,0,0,0),b.2,i):dJ×E4×d5Y×Int)) (λb=>((Ol env b.1,(0,0,0,0),b.2):dJ×E4×d5Y)) (λi b=>b.1.length=s.2.2.2.1.length/\b.2.length=s.2.2.2.1.length) (List.replicate s.2.2.2.1.length (0,0,0),List.replicate s.2.2.2.1.length 0) l9 ⟨A7,A7⟩
 .intro i d b hi hi' hb;have hr:=o1 d (iZ hi);have hnd:nD s=(s.2.2.2.1.length:Int):=rfl;obtain⟨k,rfl⟩:∃k:Nat,d=(k:Int):=⟨d.toNat,l9⟩;have hk:k<s.2.2.2.1.length:=l9;have e1:=fH (show k<need.length by omega);have e2:=fH (show k<b.1.length by omega);have e3:=fH (show k<b.2.length by omega);unfold scG;simp only[G9 hi,o7,E8,hi,o8,P7,U8,U3,e1,dG];cases need[k]
  .simp only[aJ,o7,o6];rw[Y1 l9];exact⟨rfl,λ_ h=>by cases h;exact hb⟩
  simp only[D9,o7,o6];rw[a5G hs (a2d hE b.1),o8];unfold a2b;cases h0:x8 (kN s (Ol env b.1) m (k:Int)).2.1 0
  .exact⟨rfl,λ_ h=>by cases h⟩
  cases h1:x8 (kN s (Ol env b.1) m (k:Int)).1 (-1)
  case true=>exact⟨rfl,λ_ h=>by cases h⟩
  cases h2:x8 (kN s (Ol env b.1) m (k:Int)).1 (-2)
  case true=>exact⟨rfl,λ_ h=>by cases h⟩
  obtain⟨r,hr,hm⟩:=WP (Y5.1 h0) (λh=>by rw[O0 h]at h1;cases h1) (λh=>by rw[O0 h]at h2;cases h2);simp only[D9,o6,o7,hr,o8];rw[a8X (a2d hE b.1) (hs.ro r hm).1.2.2.2,o8];cases h3:x8 (GU r.2.2.2.2.2.2.1 (Ol env b.1)).2 0
  .exact⟨rfl,λ_ h=>by cases h⟩
  .simp only[D9,o6,o7];refine⟨?_,λ_ h=>by cases h;exact⟨by simp[hb.1],by simp[hb.2]⟩⟩;rw[Y1 l9];have e2' :(Ol env b.1).2.2.1[k]? =some (b.1[k]'l9):=e2;simp only[e2',e3,o8];rfl
 .intro b hb;rw[G6];rfl
 .intro _;rw[hfold];cases fG (scG s env m need) (DV s).1 (List.replicate s.2.2.2.1.length (0,0,0),List.replicate s.2.2.2.1.length 0)<;>rfl
theorem WU(hs:SmS s)(hE:EvOk env)(m:Int)(hn:need.length=s.2.2.2.1.length):wJ s env m need=some (match scS s env m need with| .inl b=>(b.1,b.2,0,0,0,0)| .inr r=>([],[],r.1)):=by
 obtain⟨o1,o2⟩:=Xo s;unfold wJ;rw[Eh s hs,o8,Eh s hs,o8,b1u hs,o8];have hfold:=Ls (scG s env m need) (λb d=>VK (λr=>(([],[],r.1):List V3×d5Y×E4)) (scG s env m need b d)) (λr=>(([],[],r.1):List V3×d5Y×E4)) (λ_ _=>rfl) (DV s).1 (List.replicate s.2.2.2.1.length (0,0,0),List.replicate s.2.2.2.1.length 0);unfold scS;apply jq (DV s).1 (λb d=>VK (λr=>(([],[],r.1):List V3×d5Y×E4)) (scG s env m need b d)) (λb i=>(((env.1,env.2.1,PUnit.unit,env.2.2.2),(0,0,0,0),b.1,b.2,i):(Int×List V3×PUnit×List (List V3)×List AP×List dC)×E4×List V3×d5Y×Int)) (λb=>(((0,0,0,0),b.1,b.2):E4×List V3×d5Y)) (λi b=>b.1.length=s.2.2.2.1.length/\b.2.length=s.2.2.2.1.length) (List.replicate s.2.2.2.1.length (0,0,0),List.replicate s.2.2.2.1.length 0) l9 ⟨A7,A7⟩
 .intro i d b hi hi' hb;have hr:=o1 d (iZ hi);have hnd:nD s=(s.2.2.2.1.length:Int):=rfl;obtain⟨k,rfl⟩:∃k:Nat,d=(k:Int):=⟨d.toNat,l9⟩;have hk:k<s.2.2.2.1.length:=l9;have e1:=fH (show k<need.length by omega);have e2:=fH (show k<b.1.length by omega);have e3:=fH (show k<b.2.length by omega);have hd:=b0w hs (a2d hE b.1) m (k:Int);unfold Ol at hd;unfold scG;simp only[G9 hi,o7,E8,hi,o8,P7,U8,U3,e1,dG];cases need[k]
  .simp only[aJ,o7,o6];rw[Y1 l9];exact⟨rfl,λ_ h=>by cases h;exact hb⟩
  simp only[D9,o7,o6];rw[hd,o8];unfold Ol;cases hq:a2b s (env.1,env.2.1,b.1,env.2.2.2) m (k:Int)with
  |inr e=>simp only[J8 (a3V hq)];exact⟨rfl,λ_ h=>by cases h⟩|inl v=>refine⟨?_,λ_ h=>by cases h;exact⟨by simp[hb.1],by simp[hb.2]⟩⟩;simp only[e2,e3,o8,O0 (rfl:(0:Int)=0),D9,o6];rw[Y1 l9];rfl
 .intro b hb;rw[G6];rfl
 .intro _;rw[hfold];cases fG (scG s env m need) (DV s).1 (List.replicate s.2.2.2.1.length (0,0,0),List.replicate s.2.2.2.1.length 0)<;>rfl
def Rh(l:U4)(k:Int)(c:fM)(ex:Bool)(d:Int):E4:=
 l7 (x8 (ja l).1 0) (match G8 l.2.2 k with
  |none=>(6,-1,-1,-1)
  |some s=>l7 (l7 ex (l7 (D8 d 0) true (J6 (o9 s.2.2.2.1) d)) false) (6,-1,-1,-1) (l7 (x8 (OH l k c).2.2 0) (0,0,0,0) ((OH l k c).2.2,(OH l k c).1,-1,-1))) (1,-1,-1,-1)
theorem a4w(l:List D7)(k:Int):(D8 k 0=true/\G8 l k=none)\/(D8 k 0=false/\J6 (o9 l) k=true/\G8 l k=none)\/(D8 k 0=false/\J6 (o9 l) k=false/\∃s,G8 l k=some s/\s∈l):=by
 by_cases h:k<0
 .exact .inl ⟨U7 h,kD (.inl (Z5 h))⟩
 by_cases h2:o9 l<=k
 .exact .inr (.inl ⟨L8 l9,Y6 h2,kD (.inr (L8 h2))⟩)
 .exact .inr (.inr ⟨L8 l9,Z5 l9,nN l9 l9⟩)
variable {l:U4}{c:fM}
theorem b7A(hL:SmL l)(k:Int)(hc:SmC c)(ex:Bool)(d:Int):sK l k c ex d=some (Rh l k c ex d):=by
 unfold sK Rh;rw[Qh hL,o8,b7C l k hc];cases x8 (ja l).1 0
 .rfl
 simp only[D9,o6,o7];rcases a4w l.2.2 k with⟨h1,h2⟩|⟨h1,h2,h3⟩|⟨h1,h2,s,h3,_⟩
 .rw[h1,h2];rfl
 .rw[h1,h2,h3];rfl
 .rw[h1,h2,h3];simp only[o6,o8];cases ex
  .simp only[o6,o8,J7];cases x8 (OH l k c).2.2 0<;>rfl
  .simp only[o7];cases D8 d 0
   .cases J6 (o9 s.2.2.2.1) d
    .simp only[o6,o8,J7];cases x8 (OH l k c).2.2 0<;>rfl
    .rfl
   .rfl
theorem b4D(hL:SmL l)(k:Int)(hc:SmC c)(ex:Bool)(d:Int):Ef l k c d ex=some (Rh l k c ex d):=by
 unfold Ef Rh KU;rw[Np hL,o8,o8,b4E l k hc];cases x8 (ja l).1 0
 .rfl
 simp only[D9,o6,o7];rcases a4w l.2.2 k with⟨h1,h2⟩|⟨h1,h2,h3⟩|⟨h1,h2,s,h3,_⟩
 .rw[h1,h2];rfl
 .rw[h1,h2,h3];rfl
 .rw[h1,h2,h3];simp only[o6,o8];cases ex
  .simp only[o6,o8,J7];cases x8 (OH l k c).2.2 0<;>rfl
  .simp only[o7];cases D8 d 0
   .cases J6 (o9 s.2.2.2.1) d
    .simp only[o6,o8,J7];cases x8 (OH l k c).2.2 0<;>rfl
    .rfl
   .rfl
def DU:D7:=([],0,[],[],[])
def bY(l:U4)(s:D7):D7:=l7 (J6 0 s.2.1) ((G8 l.2.2 s.2.1).getD DU) DU
def EL(n:Nat):List Bool:=List.replicate n false
theorem a0H{ex:Bool}(h:(Rh l k c ex d).1=0):(ja l).1=0/\∃s,G8 l.2.2 k=some s:=by
 unfold Rh at h;cases h0:x8 (ja l).1 0<;>rw[h0]at h
 .exact absurd (show(1:Int)=0 from h) J5
 refine⟨Y5.1 h0,?_⟩;cases h1:G8 l.2.2 k with
 |none=>rw[h1]at h;exact absurd (show(6:Int)=0 from h) J5|some s=>exact⟨s,rfl⟩
theorem b7q(h:(ja l).1=0)(hs:l.2.2[i]? =some s):(GK l i s).1=0:=by
 unfold ja at h;cases h1:x8 (KG l).1 0<;>rw[h1]at h
 .simp only[o6]at h;rw[O0 h]at h1;cases h1
 cases h2:x8 (Ky l).1 0<;>rw[h2]at h
 .simp only[o7,o6]at h;rw[O0 h]at h2;cases h2
 simp only[o7]at h;unfold QV at h;cases h3:D8 4 (o9 l.2.2)<;>rw[h3]at h
 case true=>exact absurd (show(4:Int)=0 from h) J5
 simp only[o6]at h;have hi:=(X0.1 hs).1;cases hf:Z7 l.2.2.length (Jq l)with
 |some r=>
  rw[hf]at h;simp only at h;obtain⟨j,hj,hp⟩:=jv hf;unfold Jq at hp;cases hq:l.2.2[j]? with
  |none=>rw[hq]at hp;cases hp|some q=>
   rw[hq]at hp;simp only at hp;unfold SB at hp;exact absurd h (by cases he:x8 (GK l j q).1 0<;>rw[he]at hp<;>cases hp;simp only;intro h4;rw[O0 h4]at he;cases he)
 |none=>
  have hn:=Dw hf i hi;unfold Jq at hn;rw[hs]at hn;simp only at hn;unfold SB at hn;cases he:x8 (GK l i s).1 0<;>rw[he]at hn
  .cases hn
  exact Y5.1 he
theorem a1J(h:(ja l).1=0)(hs:l.2.2[i]? =some s):IX l i s.2.1=false/\(ZX l s).1=0:=by
 have he:=b7q h hs;unfold GK at he;cases g1:Ez s.1<;>rw[g1]at he
 .exact absurd (show(2:Int)=0 from he) J5
 cases g2:Gn l 3 i s.1<;>rw[g2]at he
 case true=>exact absurd (show(7:Int)=0 from he) J5
 cases g3:IX l i s.2.1<;>rw[g3]at he
 case true=>exact absurd (show(6:Int)=0 from he) J5
 cases g4:D8 12 (o9 s.2.2.1)<;>rw[g4]at he
 case true=>exact absurd (show(4:Int)=0 from he) J5
 cases g5:D8 12 (o9 s.2.2.2.1)<;>rw[g5]at he
 case true=>exact absurd (show(4:Int)=0 from he) J5
 exact⟨rfl,he⟩
theorem b2b(h:(ja l).1=0)(hs:l.2.2[i]? =some s):IX l i s.2.1=false:=(a1J h hs).1
theorem Gq(h:(ja l).1=0)(hs:G8 l.2.2 k=some s):(J6 0 s.2.1=false/\D8 s.2.1 0=true/\bY l s=DU)\/(J6 0 s.2.1=true/\D8 s.2.1 0=false/\J6 (o9 l.2.2) s.2.1=false/\G8 l.2.2 s.2.1=some (bY l s)/\bY l s∈l.2.2):=by
 obtain⟨k0,k1,k2,k3⟩:=pV hs;have hm:=b2b h k3;unfold IX at hm;by_cases g:0<=s.2.1
 .right;rw[J8 (show s.2.1≠-1 by intro e;rw[e]at g;exact absurd g J5),L8 g]at hm;simp only[o6]at hm;cases g2:J6 ((k.toNat:Nat):Int) s.2.1<;>rw[g2]at hm
  case true=>cases hm
  rw[Gw]at g2;have hlt:s.2.1<o9 l.2.2:=by have:((k.toNat:Nat):Int)=k:=az k0;rw[this]at g2;exact Int.lt_trans g2 k1
  obtain⟨q,hq,hqm⟩:=nN g hlt;have e:bY l s=q:=by unfold bY;rw[Y6 g,hq];rfl
  rw[e];exact⟨Y6 g,L8 g,Z5 hlt,hq,hqm⟩
 .left;have g' :=lD.1 g;refine⟨Z5 g',U7 g',?_⟩;unfold bY;rw[Z5 g'];rfl
theorem a3I{σ ε α β:Type}{f:σ->Option (σ⊕ε)}{mk:List β->Int->σ}{fin:List β->ε}{l:List α}{g:α->β}
  (hs:∀(i:Nat) (a:α) (b:List β),l[i]? =some a->b.length=i->f (mk b (i:Int))=some (.inl (mk (b++[g a]) ((i+1:Nat):Int))))
  (he:∀b,f (mk b (l.length:Int))=some (.inr (fin b))):∀(l2 l1:List α) (k:Nat),l=l1++l2->uS f (k+1+l2.length) (mk (l1.map g) (l1.length:Int))=some (fin (l.map g))
 |[],l1,k,h=>by
  have:l=l1:=by simpa using h
  subst this;exact LJ (he _)
 |a::l2,l1,k,h=>by rw[show k+1+(a::l2).length=(k+1+l2.length)+1 by simp;omega,EU (hs l1.length a (l1.map g) (by rw[h];simp) A7)];have:=a3I hs he l2 (l1++[a]) k (by rw[h];simp);simpa using this
variable {β:Type}
theorem a8H{f:σ->Option (σ⊕ε)}(mk:List β->Int->σ)(fin:List β->ε)(l:List α)(g:α->β)(hn:l.length<=1000000)
  (hs:∀(i:Nat) (a:α) (b:List β),l[i]? =some a->b.length=i->f (mk b (i:Int))=some (.inl (mk (b++[g a]) ((i+1:Nat):Int))))
  (he:∀b,f (mk b (l.length:Int))=some (.inr (fin b))):Y8 f (mk [] 0)=some (fin (l.map g)):=by
 unfold Y8;rw[show kH=(kH -l.length -1)+1+l.length by unfold kH;omega];exact a3I hs he l [] _ rfl
theorem DN(h:(ja l).1=0)(hs:G8 l.2.2 k=some s):mY l k=some (bY l s):=by
 unfold mY;rw[hs,o8];rcases Gq h hs with⟨g1,g2,g3⟩|⟨g1,g2,g3,g4,g5⟩
 .rw[g2,g3];rfl
 .rw[g2,g3,g4];rfl
theorem a4L(hL:SmL l)(h:(ja l).1=0)(hs:G8 l.2.2 k=some s):BC l k=some (s,bY l s,EL s.2.2.2.1.length,EL (bY l s).2.2.2.1.length):=by
 have hm:=(pV hs).2.2.1;have hnd:=(hL.sc s hm).nd;unfold BC;rw[hs,o8,show qo (o9 s.2.2.2.1) false=some (EL s.2.2.2.1.length)from Eh s (hL.sc s hm) false,o8];rcases Gq h hs with⟨g1,g2,g3⟩|⟨g1,g2,g3,g4,g5⟩
 .rw[g1,g3];rfl
 .rw[g1,g4];simp only[o7,o8];rw[show qo (o9 (bY l s).2.2.2.1) false=some (EL (bY l s).2.2.2.1.length)from Eh _ (hL.sc _ g5) false,o8]
theorem a7b:SmS DU:=⟨by simp[DU],by simp[DU],by simp[DU],by simp[DU],⟨by simp[DU],by simp[DU]⟩,by simp[DU]⟩
def a6V(l:U4)(c:fM)(v:List V3):dJ:=(c.1,v,[],[],[],l.2.1)
def mG(l:U4)(c:fM)(ms:D7)(need:List Bool)(b:List DB)(a:List V3×Nat):List DB⊕E4:=
 match scS ms (a6V l c a.1) (a.2:Int) need with
 | .inl x=> .inl (b++[x])| .inr e=> .inr e.1
def mS(l:U4)(c:fM)(ms:D7)(need:List Bool):List DB⊕E4:=fG (mG l c ms need) c.2.2.zipIdx []
theorem b3q{ms:D7}(b:List DB)(a:List V3×Nat)(r:E4)(h:mG l c ms need b a= .inr r):r.1≠0:=by
 unfold mG at h;cases hs:scS ms (a6V l c a.1) (a.2:Int) need with
 |inl x=>rw[hs]at h;cases h|inr e=>rw[hs]at h;cases h;exact QU hs
theorem b0f{l:List (List V3)}{a:List V3×Nat}(h:l.zipIdx[i]? =some a):l[i]? =some a.1/\a.2=i:=by
 rw[tq]at h;cases hl:l[i]? with
 |none=>rw[hl]at h;cases h|some v=>rw[hl]at h;cases h;exact⟨rfl,A7⟩
theorem a9o(hT:∀t∈l.2.1,pY t)(c:fM)(v:List V3):EvOk (a6V l c v):=⟨by simp[a6V],hT⟩
theorem Zd(h:(ja l).1=0)(hs:G8 l.2.2 k=some s)(hc:c.2.2.length<=1000)(hM:SmS (bY l s))(hT:∀t∈l.2.1,pY t)(hn:need.length=(bY l s).2.2.2.1.length):
  sV l k c need=some (match mS l c (bY l s) need with| .inl b=>(b.map (·.1),b.map (·.2),0,0,0,0)| .inr e=>([],[],e)):=by
 unfold sV;rw[DN h hs,o8];have hfold:=Ls (mG l c (bY l s) need) (λb a=>VK (λe=>(([],[],e):List (List V3)×List d5Y×E4)) (mG l c (bY l s) need b a)) (λe=>(([],[],e):List (List V3)×List d5Y×E4)) (λ_ _=>rfl) c.2.2.zipIdx [];unfold mS;have hzl:c.2.2.zipIdx.length=c.2.2.length:=A7;apply jq c.2.2.zipIdx (λb a=>VK (λe=>(([],[],e):List (List V3)×List d5Y×E4)) (mG l c (bY l s) need b a)) (λb i=>(((0,0,0,0),b.map (·.1),b.map (·.2),i):E4×List (List V3)×List d5Y×Int)) (λb=>(((0,0,0,0),b.map (·.1),b.map (·.2)):E4×List (List V3)×List d5Y)) (λi b=>b.length=i) [] l9 rfl
 .intro i a b hi hi' hb;obtain⟨z1,z2⟩:=b0f hi;unfold GG mG;simp only[G9 z1,o7,E8,z1,o8];rw[show wJ (bY l s) (c.1,a.1,[],[],[],l.2.1) (i:Int) need=_ from WU hM (a9o hT c a.1) (i:Int) hn,o8,z2];unfold a6V;cases hq:scS (bY l s) (c.1,a.1,[],[],[],l.2.1) (i:Int) need with
  |inr e=>simp only[J8 (QU hq)];exact⟨rfl,λ_ h=>by cases h⟩|inl x=>simp only[O0 (rfl:(0:Int)=0),D9,o6];rw[jh _ X5,o8,jh _ X5,o8,Y1 l9];exact⟨by simp[VK],λ_ h=>by cases h;simp[hb]⟩
 .intro b hb;rw[hzl,G6];rfl
 .intro _;rw[hfold];cases fG (mG l c (bY l s) need) c.2.2.zipIdx []<;>rfl
def RU(l:U4)(s:D7)(c:fM)(b:List DB):dJ:=(c.1,c.2.1,[],b.map (·.1),(bY l s).2.2.2.1.map (·.2),l.2.1)
theorem a4E(hL:SmL l)(h:(ja l).1=0)(hs:G8 l.2.2 k=some s):SmS (bY l s):=by
 rcases Gq h hs with⟨_,_,g3⟩|⟨_,_,_,_,g5⟩
 .rw[g3];exact a7b
 .exact hL.sc _ g5
theorem b3r{ms:D7}{b:List DB}(h:mS l c ms need= .inl b):b.length=c.2.2.length:=by
 have key:∀(L:List (List V3×Nat)) (b0 b:List DB),fG (mG l c ms need) L b0= .inl b->b.length=b0.length+L.length:=by
  intro L;induction L with
  |nil=>intro b0 b h;cases h;simp|cons a L ih=>
   intro b0 b h;unfold fG at h;cases hg:mG l c ms need b0 a with
   |inr e=>rw[hg]at h;cases h|inl b1=>
    rw[hg]at h;have:=ih b1 b h;have h1:b1.length=b0.length+1:=by
     unfold mG at hg;cases hs:scS ms (a6V l c a.1) (a.2:Int) need with
     |inr e=>rw[hs]at hg;cases hg|inl x=>rw[hs]at hg;cases hg;simp
    simp only[H5];omega
 have:=key _ _ _ h;simpa using this
theorem a5f(hT:∀t∈l.2.1,pY t)(s:D7)(c:fM){b:List DB}(hb:b.length<=1000):EvOk (RU l s c b):=⟨by simp[RU];omega,hT⟩
theorem b8j(c:fM)(b:List DB)(h:(ja l).1=0)(hs:G8 l.2.2 k=some s)(hM:SmS (bY l s)):QN l k c (b.map (·.1))=some (RU l s c b):=by
 have hnd:=hM.nd;unfold QN;rw[DN h hs,o8,gy];refine a8H (λL i=>(((c.1,c.2.1,[],b.map (·.1),L,l.2.1),i):dJ×Int)) (λL=>((c.1,c.2.1,[],b.map (·.1),L,l.2.1):dJ)) (bY l s).2.2.2.1 (λf=>f.2) l9 (λi a L hi hL=>?_) (λL=>?_)
 .have:=(X0.1 hi).1;simp only[G9 hi,o7,E8,hi,o8];rw[jh _ l9,o8,Y1 l9]
 .rw[G6];rfl
abbrev ZT:Type:=Int×List V3×PUnit×List (List V3)×List (Int×Int)×List dC
def a0g(l:U4)(s:D7)(c:fM)(nS nM:List Bool):DB×List DB⊕E4:=
 match mS l c (bY l s) nM with
 | .inr e=> .inr e
 | .inl b=>match scS s (RU l s c b) (-1) nS with
  | .inl x=> .inl (x,b)| .inr r=> .inr r.1
variable {nS:List Bool}{nM:List Bool}
theorem a2f(hS:SmS s)(hM:SmS (bY l s))(hC:SmC c)(hT:∀t∈l.2.1,pY t)(h1:nS.length=s.2.2.2.1.length)(h2:nM.length=(bY l s).2.2.2.1.length):
  BB l k c (s,bY l s,nS,nM)=some (match a0g l s c nS nM with
   | .inl x=>((x.1.1,x.1.2,x.2),Ol (RU l s c x.2) x.1.1,(0,0,0,0),(s,bY l s,nS,nM))
   | .inr e=>(([],[],[]),(0,[],[],[],[],[]),e,(s,bY l s,nS,nM))):=by
 have hnd:=hM.nd;have hnm:=hC.nm;unfold BB;rw[show(Y8 _ _)=some (((c.1,c.2.1,PUnit.unit,PUnit.unit,(bY l s).2.2.2.1.map (λf=>f.2),l.2.1)):Int×List V3×PUnit×PUnit×List (Int×Int)×List dC)from ?_,o8]
 rotate_left
 .refine a8H (λL i=>(((c.1,c.2.1,PUnit.unit,PUnit.unit,L,l.2.1),i):(Int×List V3×PUnit×PUnit×List (Int×Int)×List dC)×Int)) (λL=>((c.1,c.2.1,PUnit.unit,PUnit.unit,L,l.2.1):Int×List V3×PUnit×PUnit×List (Int×Int)×List dC)) (bY l s).2.2.2.1 (λf=>f.2) l9 (λi a L hi hL=>?_) (λL=>?_)
  .have:=(X0.1 hi).1;simp only[G9 hi,o7,E8,hi,o8];rw[jh _ l9,o8,Y1 l9]
  .rw[G6];rfl
 have hfold:=Ls (mG l c (bY l s) nM) (λb a=>VK (λe=>((([],[],[]),(0,[],[],[],[],[]),e,(s,bY l s,nS,nM)):Bv×dJ×E4×cO)) (mG l c (bY l s) nM b a)) (λe=>((([],[],[]),(0,[],[],[],[],[]),e,(s,bY l s,nS,nM)):Bv×dJ×E4×cO)) (λ_ _=>rfl) c.2.2.zipIdx [];have hzl:c.2.2.zipIdx.length=c.2.2.length:=A7;unfold a0g mS;apply jq c.2.2.zipIdx (λb a=>VK (λe=>((([],[],[]),(0,[],[],[],[],[]),e,(s,bY l s,nS,nM)):Bv×dJ×E4×cO)) (mG l c (bY l s) nM b a))
  (λb i=>((([],[],[]),(0,[],[],[],[],[]),(0,0,0,0),(c.1,c.2.1,PUnit.unit,b.map (·.1),(bY l s).2.2.2.1.map (λf=>f.2),l.2.1),([],[],b),i):Bv×dJ×E4×ZT×Bv×Int))
  (λb=>((([],[],[]),(0,[],[],[],[],[]),(0,0,0,0),(c.1,c.2.1,PUnit.unit,b.map (·.1),(bY l s).2.2.2.1.map (λf=>f.2),l.2.1),([],[],b)):Bv×dJ×E4×ZT×Bv))
  (λi b=>b.length=i) [] l9 rfl
 .intro i a b hi hi' hb;obtain⟨z1,z2⟩:=b0f hi;have hil:=(X0.1 z1).1;unfold mG;simp only[G9 z1,o7,E8,z1,o8];rw[show jK (bY l s) (c.1,a.1,[],[],[],l.2.1) (i:Int) nM=_ from TY hM (a9o hT c a.1) (i:Int) h2,o8,z2];unfold a6V;cases hq:scS (bY l s) (c.1,a.1,[],[],[],l.2.1) (i:Int) nM with
  |inr e=>simp only[J8 (QU hq)];exact⟨rfl,λ_ h=>by cases h⟩|inl x=>simp only[O0 (rfl:(0:Int)=0),D9,o6];rw[jh _ X5,o8,jh _ l9,o8,Y1 l9];exact⟨by simp[VK,Ol],λ_ h=>by cases h;simp[hb]⟩
 .intro b hb;rw[hzl,G6];rfl
 .intro _;rw[hfold];cases hq:fG (mG l c (bY l s) nM) c.2.2.zipIdx []with
  |inr e=>rfl|inl b=>
   have hbl:b.length=c.2.2.length:=b3r (ms:=bY l s) (need:=nM) hq;have hsc:=TY (need:=nS) hS (a5f hT s c (b:=b) l9) (-1) h1;unfold RU at hsc;simp only[VK,J7];rw[show jK s (c.1,c.2.1,[],b.map (·.1),(bY l s).2.2.2.1.map (λf=>f.2),l.2.1) (-1) nS=_ from hsc,o8];unfold RU;cases hr:scS s (c.1,c.2.1,[],b.map (·.1),(bY l s).2.2.2.1.map (λf=>f.2),l.2.1) (-1) nS with
   |inr e=>simp only[J8 (QU hr)];rfl|inl x=>rfl
theorem jY{n:Nat}{l:List α}(h:D8 (n:Int) (o9 l)=false):l.length<=n:=by rw[iE]at h;unfold o9 at h;omega
def Zx(r:aC):Bool:=l7 (D8 80 (o9 r.1)) true (l7 (D8 80 (o9 r.2.2.2.2.2.2.2)) true (l7 (D8 50 (o9 r.2.2.2.2.2.1)) true (D8 50 (o9 r.2.2.2.2.2.2.1))))
def smS(s:D7):Bool:=l7 (D8 80 (o9 s.1)) false (l7 (D8 14 (o9 s.2.2.1)) false (l7 (D8 14 (o9 s.2.2.2.1)) false (l7 (D8 60 (o9 s.2.2.2.2)) false
 (l7 (s.2.2.1.any λf=>D8 80 (o9 f.1)) false (l7 (s.2.2.2.1.any λf=>D8 80 (o9 f.1)) false (D6 (s.2.2.2.2.any Zx)))))))
theorem Zf{fs:List gu}(h:fs.length<=1000000):U0 (λ(x:Int)=>l7 (D8 x (o9 fs)) (o5 (G8 fs x) λ(x_1:gu)=>l7 (D8 80 (o9 x_1.1)) (some (Out.rt false)) (some (Out.nx (x9 IntKind.i64 x 1)))) (some (Out.ex PUnit.unit))) 0=some (bif fs.any (λf=>D8 80 (o9 f.1))then .inr false else .inl PUnit.unit):=by
 refine wX fs (λf=>D8 80 (o9 f.1)) false PUnit.unit h (λi a ha=>?_) ?_
 .simp only[G9 ha,o7,E8,ha,o8];cases D8 80 (o9 a.1)<;>rfl
 .rw[G6];rfl
theorem a0z(s:D7):BR s=some (smS s):=by
 unfold BR smS;cases h1:D8 80 (o9 s.1)
 case true=>rfl
 cases h2:D8 14 (o9 s.2.2.1)
 case true=>rfl
 cases h3:D8 14 (o9 s.2.2.2.1)
 case true=>rfl
 cases h4:D8 60 (o9 s.2.2.2.2)
 case true=>rfl
 have l2:=jY (n:=14) h2;have l3:=jY (n:=14) h3;have l4:=jY (n:=60) h4;simp only[o6,o8,J7];rw[Zf l9,Zf l9,o8];cases s.2.2.1.any λf=>D8 80 (o9 f.1)
 case true=>rfl
 simp only[cond_false,J7,o6,o8];cases s.2.2.2.1.any λf=>D8 80 (o9 f.1)
 case true=>rfl
 simp only[cond_false,J7,o6];refine V8 (wX s.2.2.2.2 Zx false PUnit.unit l9 (λi a ha=>?_) ?_) ?_
 rotate_left 2
 .cases s.2.2.2.2.any Zx<;>rfl
 .simp only[G9 ha,o7,E8,ha,o8];unfold Zx;cases D8 80 (o9 a.1)<;>cases D8 80 (o9 a.2.2.2.2.2.2.2)<;>cases D8 50 (o9 a.2.2.2.2.2.1)<;>cases D8 50 (o9 a.2.2.2.2.2.2.1)<;>rfl
 .rw[G6];rfl
def ScI(s:D7):Prop:=∀r∈s.2.2.2.2,(∀n∈r.2.2.2.2.2.1,jw n.2)/\∀n∈r.2.2.2.2.2.2.1,jw n.2
theorem XN{a b:Bool}(h:l7 a false b=true):a=false/\b=true:=by cases a<;>cases b<;>first|exact⟨rfl,rfl⟩|cases h
theorem a0G{l:List α}{p:α->Bool}(h:l.any p=false):∀a∈l,p a=false:=by
 intro a ha;rw[jd]at h;have:=h a ha;cases hp:p a
 .rfl
 .exact absurd hp this
theorem c1R(h:smS s=true)(hI:ScI s):SmS s:=by
 unfold smS at h;obtain⟨h1,h⟩:=XN h;obtain⟨h2,h⟩:=XN h;obtain⟨h3,h⟩:=XN h;obtain⟨h4,h⟩:=XN h;obtain⟨h5,h⟩:=XN h;obtain⟨h6,h⟩:=XN h;have h7:s.2.2.2.2.any Zx=false:=by cases hq:s.2.2.2.2.any Zx<;>rw[hq]at h<;>first|rfl|cases h
 refine⟨by have:=jY (n:=80) h1;omega,jY (n:=14) h2,jY (n:=14) h3,fV (jY (n:=60) h4) l9,⟨λf hf=>?_,λf hf=>?_⟩,λr hr=>?_⟩
 .have:=jY (n:=80) (a0G h5 f hf);omega
 .have:=jY (n:=80) (a0G h6 f hf);omega
 .have hl:=a0G h7 r hr;unfold Zx at hl;cases g1:D8 80 (o9 r.1)<;>rw[g1]at hl
  case true=>cases hl
  cases g2:D8 80 (o9 r.2.2.2.2.2.2.2)<;>rw[g2]at hl
  case true=>cases hl
  cases g3:D8 50 (o9 r.2.2.2.2.2.1)<;>rw[g3]at hl
  case true=>cases hl
  have k1:=jY (n:=80) g1;have k2:=jY (n:=80) g2;exact⟨⟨l9,l9,(hI r hr).1,(hI r hr).2⟩,jY (n:=50) g3,jY (n:=50) hl⟩
def smC(c:fM):Bool:=l7 (D8 14 (o9 c.2.1)) false (l7 (D8 10 (o9 c.2.2)) false (D6 (c.2.2.any λv=>D8 14 (o9 v))))
theorem a3e(c:fM):Ej c=some (smC c):=by
 unfold Ej smC;cases h1:D8 14 (o9 c.2.1)
 case true=>rfl
 cases h2:D8 10 (o9 c.2.2)
 case true=>rfl
 have l2:=jY (n:=10) h2;simp only[o6];refine V8 (wX c.2.2 (λv=>D8 14 (o9 v)) false PUnit.unit l9 (λi a ha=>?_) ?_) ?_
 rotate_left 2
 .cases c.2.2.any λv=>D8 14 (o9 v)<;>rfl
 .simp only[G9 ha,o7,E8,ha,o8];cases D8 14 (o9 a)<;>rfl
 .rw[G6];rfl
theorem c1Q(h:smC c=true):SmC c:=by
 unfold smC at h;obtain⟨h1,h⟩:=XN h;obtain⟨h2,h⟩:=XN h;have h3:(c.2.2.any λv=>D8 14 (o9 v))=false:=by cases hq:c.2.2.any λv=>D8 14 (o9 v)<;>rw[hq]at h<;>first|rfl|cases h
 exact⟨by have:=jY (n:=14) h1;omega,by have:=jY (n:=10) h2;omega,λv hv=>by have:=jY (n:=14) (a0G h3 v hv);omega⟩
theorem a0R{α β ρ:Type}(G:β->α->β⊕ρ)(Inv:β->Prop)(hG:∀b a b',Inv b->G b a= .inl b' ->Inv b'):∀(l:List α) (b b' :β),Inv b->fG G l b= .inl b' ->Inv b'
 |[],b,b',hi,h=>by cases h;exact hi|a::l,b,b',hi,h=>by
  unfold fG at h;cases hg:G b a with
  |inr r=>rw[hg]at h;cases h|inl b1=>rw[hg]at h;exact a0R G Inv hG l b1 b' (hG b a b1 hi hg) h
theorem a9S{b:DB}(h:scS s env m need= .inl b):b.1.length=s.2.2.2.1.length/\b.2.length=s.2.2.2.1.length:=by
 refine a0R (scG s env m need) (λb=>b.1.length=s.2.2.2.1.length/\b.2.length=s.2.2.2.1.length) (λb a b' hi h=>?_) _ _ _ ⟨A7,A7⟩ h;unfold scG at h;cases hb:(G8 need a).getD false<;>rw[hb]at h
 .cases h;exact hi
 simp only[o7]at h;cases hd:a2b s (Ol env b.1) m a with
 |inr e=>rw[hd]at h;cases h|inl v=>rw[hd]at h;cases h;exact⟨by simp[hi.1],by simp[hi.2]⟩
def a4z(e:gI):Bool:=l7 (D8 80 (o9 e.1)) true (l7 (D8 20 (o9 e.2)) true (e.2.any λm=>D8 80 (o9 m)))
def tG(b:Int)(t:dC):Int⊕Bool:=l7 (D8 80 (o9 t.1)) (.inr false) (l7 (D8 150 (x9 .i64 b (o9 t.2.2.2))) (.inr false) (.inl (x9 .i64 b (o9 t.2.2.2))))
def sG(b:Int)(s:D7):Int⊕Bool:=l7 (D8 60 (x9 .i64 b (o9 s.2.2.2.2))) (.inr false) (l7 (smS s) (.inl (x9 .i64 b (o9 s.2.2.2.2))) (.inr false))
def smL(l:U4):Bool:=l7 (D8 9 (o9 l.1)) false (l7 (D8 9 (o9 l.2.1)) false (l7 (D8 5 (o9 l.2.2)) false (l7 (l.1.any a4z) false
 (match fG tG l.2.1 0 with| .inr _=>false| .inl _=>match fG sG l.2.2 0 with| .inr _=>false| .inl _=>true))))
theorem c5s:∀(b:Int) (t:dC) (r:Bool),tG b t= .inr r->r=false:=by intro b t r h;unfold tG at h;cases g0:D8 80 (o9 t.1)<;>cases g:D8 150 (x9 .i64 b (o9 t.2.2.2))<;>simp only[g0,g,o7,o6]at h<;>cases h<;>rfl
theorem c1P:∀(b:Int) (s:D7) (r:Bool),sG b s= .inr r->r=false:=by intro b s r h;unfold sG at h;cases g:D8 60 (x9 .i64 b (o9 s.2.2.2.2))<;>cases g2:smS s<;>simp only[g,g2,o7,o6]at h<;>cases h<;>rfl
theorem a5H(l:U4):Bl l=some (smL l):=by
 unfold Bl smL;cases h1:D8 9 (o9 l.1)
 case true=>rfl
 cases h2:D8 9 (o9 l.2.1)
 case true=>rfl
 cases h3:D8 5 (o9 l.2.2)
 case true=>rfl
 have l1:=jY (n:=9) h1;have l2:=jY (n:=9) h2;have l3:=jY (n:=5) h3;simp only[o6,o8,J7];refine V8 (wX l.1 a4z false PUnit.unit l9 (λi a ha=>?_) ?_) ?_
 .simp only[G9 ha,o7,E8,ha,o8];unfold a4z;cases D8 80 (o9 a.1)
  case true=>rfl
  cases h5:D8 20 (o9 a.2)
  case true=>rfl
  have l5:=jY (n:=20) h5;simp only[o6];refine V8 (wX a.2 (λm=>D8 80 (o9 m)) false PUnit.unit l9 (λj m hm=>?_) ?_) ?_
  .simp only[G9 hm,o7,E8,hm,o8];cases D8 80 (o9 m)<;>rfl
  .rw[G6];rfl
  .cases a.2.any λm=>D8 80 (o9 m)<;>rfl
 .rw[G6];rfl
 cases l.1.any a4z
 case true=>rfl
 simp only[cond_false,J7,o6];apply jq l.2.1 tG (λb i=>((b,i):Int×Int)) (λ_=>PUnit.unit) (λ_ _=>True) 0 l9 trivial
 .intro i t b hi hi' _;refine⟨?_,λ_ _=>trivial⟩;simp only[G9 hi,o7,E8,hi,o8];unfold tG;rw[Y1 l9];cases D8 80 (o9 t.1)<;>cases D8 150 (x9 .i64 b (o9 t.2.2.2))<;>rfl
 .intro b _;rw[G6];rfl
 .intro _;cases ht:fG tG l.2.1 0 with
  |inr r=>rw[CP tG (λr=>r=false) c5s _ _ _ ht];rfl|inl b=>
   simp only[J7];apply jq l.2.2 sG (λb i=>((b,i):Int×Int)) (λ_=>PUnit.unit) (λ_ _=>True) 0 l9 trivial
   .intro i s b hi hi' _;refine⟨?_,λ_ _=>trivial⟩;simp only[G9 hi,o7,E8,hi,o8,a0z];unfold sG;rw[Y1 l9];cases D8 60 (x9 .i64 b (o9 s.2.2.2.2))<;>cases smS s<;>rfl
   .intro b _;rw[G6];rfl
   .intro _;cases hs:fG sG l.2.2 0 with
    |inr r=>rw[CP sG (λr=>r=false) c1P _ _ _ hs];rfl|inl b=>rfl
structure WfL (l:U4):Prop where
 rl:∀t∈l.2.1,t.2.2.2.length<=4611686018427387904
 ri:∀t∈l.2.1,∀r∈t.2.2.2,a8B r
 sl:∀s∈l.2.2,s.2.2.2.2.length<=4611686018427387904
 si:∀s∈l.2.2,ScI s
theorem b7d:∀(L:List dC) (b b' :Int),0<=b->b<=150->(∀t∈L,t.2.2.2.length<=4611686018427387904)->fG tG L b= .inl b' ->∀t∈L,t.1.length<=80/\t.2.2.2.length<=150
 |[],_,_,_,_,_,_=>by simp|t::L,b,b',h0,h1,hw,h=>by
  have hwt:=hw t A7;have ha:x9 .i64 b (o9 t.2.2.2)=b+o9 t.2.2.2:=U9 (by unfold jw o9;omega);unfold fG tG at h;rw[ha]at h;cases g0:D8 80 (o9 t.1)<;>rw[g0]at h
  case true=>cases h
  cases g1:D8 150 (b+o9 t.2.2.2)<;>rw[g1]at h
  case true=>cases h
  rw[iE]at g1;intro x hx;rcases D5.1 hx with rfl|hx
  .exact⟨jY (n:=80) g0,by unfold o9 at g1;omega⟩
  .exact b7d L (b+o9 t.2.2.2) b' (by unfold o9;omega) g1 (λq hq=>hw q (by simp[hq])) h x hx
theorem b5B:∀(L:List D7) (b b' :Int),0<=b->b<=60->(∀s∈L,s.2.2.2.2.length<=4611686018427387904)->fG sG L b= .inl b' ->∀s∈L,smS s=true
 |[],_,_,_,_,_,_=>by simp|s::L,b,b',h0,h1,hw,h=>by
  have hwt:=hw s A7;have ha:x9 .i64 b (o9 s.2.2.2.2)=b+o9 s.2.2.2.2:=U9 (by unfold jw o9;omega);unfold fG sG at h;rw[ha]at h;cases g1:D8 60 (b+o9 s.2.2.2.2)<;>rw[g1]at h
  case true=>cases h
  cases g2:smS s<;>rw[g2]at h
  case false=>cases h
  rw[iE]at g1;intro x hx;rcases D5.1 hx with rfl|hx
  .exact g2
  .exact b5B L (b+o9 s.2.2.2.2) b' (by unfold o9;omega) g1 (λq hq=>hw q (by simp[hq])) h x hx
theorem b5M(h:smL l=true)(hW:WfL l):SmL l/\∀t∈l.2.1,pY t:=by
 unfold smL at h;obtain⟨h1,h⟩:=XN h;obtain⟨h2,h⟩:=XN h;obtain⟨h3,h⟩:=XN h;obtain⟨h4,h⟩:=XN h;have l1:=jY (n:=9) h1;have l2:=jY (n:=9) h2;have l3:=jY (n:=5) h3;cases ht:fG tG l.2.1 0 with
 |inr r=>rw[ht]at h;cases h|inl b=>
  rw[ht]at h;simp only at h;cases hs:fG sG l.2.2 0 with
  |inr r=>rw[hs]at h;cases h|inl b' =>
   have T:=b7d l.2.1 0 b l9 l9 hW.rl ht;have S:=b5B l.2.2 0 b' l9 l9 hW.sl hs;refine⟨⟨⟨l9,l9,l9⟩,λe he=>?_,λt ht=>by have:=(T t ht).1;omega,λs hs=>c1R (S s hs) (hW.si s hs),l9⟩,λt ht=>⟨by have:=(T t ht).2;omega,hW.ri t ht⟩⟩;have hl:=a0G h4 e he;unfold a4z at hl;cases g1:D8 80 (o9 e.1)<;>rw[g1]at hl
   case true=>cases hl
   cases g2:D8 20 (o9 e.2)<;>rw[g2]at hl
   case true=>cases hl
   have k1:=jY (n:=80) g1;exact⟨l9,λm hm=>by have:=jY (n:=80) (a0G hl m hm);omega⟩
theorem a5o:reachBytes<=4611686018427387904:=by decide
theorem c0h(h:wf d5W l):WfL l:=by
 refine⟨λt ht=>?_,λt ht r hr=>?_,λs hs=>?_,λs hs r hr=>⟨λn hn=>?_,λn hn=>?_⟩⟩
 .have:=(h.2.1.2 t ht).2.2.2.1;exact fV this a5o
 .have:=(h.2.1.2 t ht).2.2.2.2 r hr;exact⟨Y_ this.2.1,Y_ this.2.2.1,Y_ this.2.2.2⟩
 .have:=(h.2.2.2 s hs).2.2.2.2.1;exact fV this a5o
 .have:=(h.2.2.2 s hs).2.2.2.2.2 r hr;exact Y_ (this.2.2.2.2.2.1.2 n hn).2
 .have:=(h.2.2.2 s hs).2.2.2.2.2 r hr;exact Y_ (this.2.2.2.2.2.2.1.2 n hn).2
def XY(w:List Bool)(L:d5Y):List Bool:=L.foldl (λw x=>w.set x.toNat true) w
theorem D_:∀(L:d5Y) (w:List Bool),(XY w L).length=w.length
 |[],w=>rfl|x::L,w=>(D_ L (w.set x.toNat true)).trans A7
def Rk(s:D7)(w:List Bool)(d:Int):List Bool:=XY (w.set d.toNat true) (cu s d)
theorem PS(s:D7)(w:List Bool)(d:Int):(Rk s w d).length=w.length:=by unfold Rk;rw[D_];simp
variable {w:List Bool}
theorem He{n:Nat}(hw:w.length=n){x:Int}(h0:0<=x)(h1:x<(n:Int)):∃b,G8 w x=some b/\P7 w (U8 x)=some b:=by have h:x.toNat<w.length:=l9;exact⟨w[x.toNat],by unfold G8;rw[if_pos h0];exact fH h,fH h⟩
theorem yh(h:SmS s)(d:Int):(cu s d).length<=14:=ER h (MB s d).1 (λx hx=>Eu hx)
theorem v_(h:SmS s)(hw:w.length=s.2.2.2.1.length)(h0:0<=d)(h1:d<nD s):Be s w d=some (Rk s w d):=by
 have hn:nD s=((s.2.2.2.1.length:Nat):Int):=rfl;have hl:=yh h d;obtain⟨b,e1,e2⟩:=He hw h0 l9;unfold Be;rw[e1,o8,e2,o8,yZ h,o8,gy];refine(mQ (cu s d) (λ(w:List Bool) (x:Int)=>w.set x.toNat true) (λw i=>(w,i)) (λw=>w) (λ_ w=>w.length=s.2.2.2.1.length) (b:=w.set d.toNat true) l9 (by simp[hw]) (λi x v hx hi hv=>?_) (λv hv=>?_)).1
 .have hr:=Eu (iZ hx);obtain⟨b,e1,e2⟩:=He hv hr.1 l9;simp only[G9 hx,o7,E8,hx,o8];rw[e1,o8,e2,o8,Y1 l9];exact⟨rfl,by simp[hv]⟩
 .simp only[G6];rfl
theorem a1R{s m:D7}(h:SmS m){u w:List Bool}(hw:w.length=m.2.2.2.1.length)(h0:0<=d)(h1:d<nD m):nP (s,m,u,w) d=some (s,m,u,Rk m w d):=by
 have hn:nD m=((m.2.2.2.1.length:Nat):Int):=rfl;have hl:=yh h d;obtain⟨b,e1,e2⟩:=He hw h0 l9;unfold nP;simp only;rw[e1,o8,e2,o8,Bo h h0 h1,o8,gy];refine(mQ (cu m d) (λ(w:List Bool) (x:Int)=>w.set x.toNat true) (λw i=>(((s,m,u,w),i):cO×Int)) (λw=>((s,m,u,w):cO)) (λ_ w=>w.length=m.2.2.2.1.length) (b:=w.set d.toNat true) l9 (by simp[hw]) (λi x v hx hi hv=>?_) (λv hv=>?_)).1
 .have hr:=Eu (iZ hx);obtain⟨b,e1,e2⟩:=He hv hr.1 l9;simp only[G9 hx,o7,E8,hx,o8];rw[show P7 (cu m d) (U8 (i:Int))=some x from hx,o8,e1,o8,e2,o8,Y1 l9];exact⟨rfl,by simp[hv]⟩
 .simp only[G6];rfl
def GV(r:aC):d5Y:=(uZ r.2.2.2.2.2.1).2.2++(uZ r.2.2.2.2.2.2.1).2.2
def mdl(rs:List aC)(C:d5Y):d5Y:=rs.flatMap λr=>l7 (qA C r.2.1) (GV r) []
def mbS(s:D7)(d:Int):d5Y:=l7 (inD (nD s) d) (Oo (mdl s.2.2.2.2 (ins d (cu s d)))) []
variable {r:aC}
theorem VM(h:SmS s)(hr:r∈s.2.2.2.2):(GV r).length<=100:=by obtain⟨_,h1,h2⟩:=h.ro r hr;have a1:=IA r.2.2.2.2.2.1;have a2:=IA r.2.2.2.2.2.2.1;unfold GV;rw[E5];omega
theorem a2s{s:D7}(h:SmS s)(C:d5Y):∀(rs:List aC),(∀r∈rs,r∈s.2.2.2.2)->(mdl rs C).length<=100*rs.length
 |[],_=>by simp[mdl]|r::rs,hr=>by
  have h1:=a2s h C rs (λx hx=>hr x (by simp[hx]));have h2:=VM h (hr r A7);have:mdl (r::rs) C=l7 (qA C r.2.1) (GV r) []++mdl rs C:=rfl;rw[this,E5,H5];cases qA C r.2.1
  .simp only[o6,dX];omega
  .simp only[o7];omega
theorem b7T{rs:List aC}{C:d5Y}{x:Int} :x∈mdl rs C↔∃r∈rs,qA C r.2.1=true/\x∈GV r:=by
 unfold mdl;rw[ED];constructor
 .rintro⟨r,h1,h2⟩;cases h:qA C r.2.1<;>rw[h]at h2
  .simp at h2
  .exact⟨r,h1,h,h2⟩
 .rintro⟨r,h1,h2,h3⟩;exact⟨r,h1,by rw[h2];exact h3⟩
theorem a9h{f:d5Y×Int->Option ((d5Y×Int)⊕d5Y)}(l b:d5Y)(hl:l.length<=1000)(hb:b.length<=100000)
  (hin:∀(i:Nat) (a:Int) (acc:d5Y),l[i]? =some a->i<=1000000->f (acc,(i:Int))=o5 (lH acc a) λx=>some (.inl (x,x9 .i64 (i:Int) 1)))
  (hend:∀acc,f (acc,(l.length:Int))=some (.inr acc)):Y8 f (b,0)=some (FV l b):=by
 refine(mQ l (λ(acc:d5Y) x=>ins x acc) (λb i=>(b,i)) (λb=>b) (λi acc=>acc.length<=100000+i) (f:=f) (b:=b) l9 l9 (λi a acc ha hi hI=>?_) (λacc hI=>hend acc)).1;have hlt:=(X0.1 ha).1;have h2:=xn a acc;rw[hin i a acc ha hi,Y1 l9,Ce _ l9];exact⟨rfl,by show(ins a acc).length<=_;omega⟩
theorem PI(h:SmS s)(d:Int):wG s d=some (mbS s d):=by
 have hnr:=h.nr;have hl:=yh h d;have hli:=xn d (cu s d);unfold wG mbS;rw[a7q,o8];change l7 (D6 (inD (nD s) d)) _ _=_;cases inD (nD s) d
 .rfl
 simp only[D9,o6,o7];rw[yZ h,o8,Ce _ l9,o8];generalize hC:ins d (cu s d)=C at*;refine aK s.2.2.2.2 (λ(acc:d5Y) r=>l7 (qA C r.2.1) (FV (GV r) acc) acc) (λb i=>(b,i)) (λb=>b) (λi acc=>acc.length<=100*i) [] l9 A7 (λi r acc ha hi hI=>?_) (λacc hI=>?_) (λh2=>?_)
 .have hlt:=(X0.1 ha).1;obtain⟨_,h1,h2⟩:=h.ro r (iZ ha);have a1:=IA r.2.2.2.2.2.1;have a2:=IA r.2.2.2.2.2.2.1;have hlen:=CV (GV r) acc;have hrl:=VM h (iZ ha);simp only[G9 ha,o7,E8,ha,o8];rw[Y1 l9,a2L l9,o8];cases qA C r.2.1
  .exact⟨rfl,by show acc.length<=_;omega⟩
  simp only[D9,o6,o7,DW (show r.2.2.2.2.2.1.length<=500000 by omega),DW (show r.2.2.2.2.2.2.1.length<=500000 by omega),o8];refine⟨?_,by show(FV (GV r) acc).length<=_;omega⟩;refine V8 (a9h (uZ r.2.2.2.2.2.1).2.2 acc l9 l9 (λi a acc ha hi=>?_) (λacc=>?_)) ?_
  rotate_left 2
  .rw[o8];have hl2:=CV (uZ r.2.2.2.2.2.1).2.2 acc;refine V8 (a9h (uZ r.2.2.2.2.2.2.1).2.2 _ l9 l9 (λi a acc ha hi=>?_) (λacc=>?_)) ?_
   rotate_left 2
   .rw[o8];unfold GV;rw[JL]
   .simp only[G9 ha,o7,E8,ha,o8];rw[show P7 (uZ r.2.2.2.2.2.2.1).2.2 (U8 (i:Int))=some a from ha];rfl
   .simp only[G6];rfl
  .simp only[G9 ha,o7,E8,ha,o8];rw[show P7 (uZ r.2.2.2.2.2.1).2.2 (U8 (i:Int))=some a from ha];rfl
  .simp only[G6];rfl
 .simp only[G6];rfl
 .have hf:∀(l:List aC) (b:d5Y),l.foldl (λ(acc:d5Y) r=>l7 (qA C r.2.1) (FV (GV r) acc) acc) b=FV (mdl l C) b:=by
   intro l;induction l with
   |nil=>intro b;rfl|cons a l ih=>intro b;rw[J9,ih,show mdl (a::l) C=l7 (qA C a.2.1) (GV a) []++mdl l C from rfl,JL];cases qA C a.2.1<;>rfl
  rw[hf];rfl
theorem a9v:∀(L:d5Y) (w:List Bool),(∀x∈L,0<=x/\x<o9 w)->∀x,mk (XY w L) x=true↔mk w x=true\/x∈L
 |[],w,_,x=>by simp[XY]|y::L,w,h,x=>by
  have hy:=h y A7;have ih:=a9v L (w.set y.toNat true) (λz hz=>by have:=h z (by simp[hz]);simp only[o9,um]at this ⊢;exact this) x;rw[show XY w (y::L)=XY (w.set y.toNat true) L from rfl,ih,a2u hy.1 hy.2];cases hq:x8 x y
  .have:x≠y:=λe=>by rw[O0 e]at hq;cases hq
   simp[this]
  .rw[Y5]at hq;simp[hq]
theorem b0R(n:Nat)(x:Int):mk (List.replicate n false) x=false:=by
 unfold mk;split
 .rw[AB,lF];split<;>rfl
 .rfl
theorem RJ(h:SmS s)(h0:0<=d)(h1:d<nD s):xJ s d=some (mbS s d):=by
 have hn:nD s=((s.2.2.2.1.length:Nat):Int):=rfl;have hnr:=h.nr;have hnd:=h.nd;have hl:=yh h d;have hr:zG ((List.range s.2.2.2.1.length).map λ(d:Nat)=>V4 s (d:Int)) d=some (cu s d):=by obtain⟨L,k1,k2⟩:=n_ (D:=V4 s) h.nd (CG s) (λx y hy=>zH hy) h0 (show d<((s.2.2.2.1.length:Nat):Int) by omega);rw[k1,Rch.unique k2 (MB s d)]
 obtain⟨b,e1,e2⟩:=He (w:=List.replicate s.2.2.2.1.length false) A7 h0 (show d<((s.2.2.2.1.length:Nat):Int) by omega);unfold xJ mbS;rw[show inD (nD s) d=true by unfold inD;rw[Y6 h0,U7 h1];rfl,o7];change o5 (l7 (D8 d 0) _ (l7 (J6 (nD s) d) _ _)) _=_;rw[L8 h0,o6,Z5 h1,o6,o8];simp only[J7];rw[Eh s h false,o8,e1,o8,e2,o8,MF h,o8,hr,o8];refine V8 (o' :=some (XY ((List.replicate s.2.2.2.1.length false).set d.toNat true) (cu s d))) ?_ ?_
 .refine(mQ (cu s d) (λ(w:List Bool) (x:Int)=>w.set x.toNat true) (λw i=>(w,i)) (λw=>w) (λ_ w=>w.length=s.2.2.2.1.length) (b:=(List.replicate s.2.2.2.1.length false).set d.toNat true) l9 A7 (λi x v hx hi hv=>?_) (λv hv=>?_)).1
  .have hr:=Eu (iZ hx);obtain⟨b,e1,e2⟩:=He hv hr.1 l9;simp only[G9 hx,o7,E8,hx,o8];rw[show P7 (cu s d) (U8 (i:Int))=some x from hx,o8,e1,o8,e2,o8,Y1 l9];exact⟨rfl,by simp[hv]⟩
  .simp only[G6];rfl
 rw[o8];have hW:∀x,0<=x->x<nD s->mk (XY ((List.replicate s.2.2.2.1.length false).set d.toNat true) (cu s d)) x=qA (ins d (cu s d)) x:=λx x0 x1=>by
  have hm:=a9v (cu s d) ((List.replicate s.2.2.2.1.length false).set d.toNat true) (λy hy=>by have:=Eu hy;simp only[o9,um,rV];omega) x;have hd:=a2u (S:=List.replicate s.2.2.2.1.length false) (e:=d) h0 (by simp only[o9,rV];omega) x;have hh:qA (ins d (cu s d)) x=true↔x=d\/x∈cu s d:=by rw[FU,Uo]
  have key:mk (XY ((List.replicate s.2.2.2.1.length false).set d.toNat true) (cu s d)) x=true↔qA (ins d (cu s d)) x=true:=by
   rw[hm,hh,hd,b0R];cases hq:x8 x d
   .have:x≠d:=λe=>by rw[O0 e]at hq;cases hq
    simp[this]
   .rw[Y5]at hq;simp[hq]
  rcases Bool.eq_false_or_eq_true (qA (ins d (cu s d)) x)with hb|hb
  .rw[hb];exact key.2 hb
  .rw[hb];cases hc:mk (XY ((List.replicate s.2.2.2.1.length false).set d.toNat true) (cu s d)) x
   .rfl
   .rw[key.1 hc]at hb;cases hb
 have hWl:(XY ((List.replicate s.2.2.2.1.length false).set d.toNat true) (cu s d)).length=s.2.2.2.1.length:=by rw[D_];simp
 have hCin:∀x∈ins d (cu s d),0<=x/\x<nD s:=λx hx=>by
  rcases(Uo d x _).1 hx with rfl|hx
  .exact⟨h0,h1⟩
  .exact Eu hx
 generalize XY ((List.replicate s.2.2.2.1.length false).set d.toNat true) (cu s d)=W at*;generalize ins d (cu s d)=C at*;refine aK s.2.2.2.2 (λ(acc:d5Y) r=>l7 (qA C r.2.1) (acc++GV r) acc) (λb i=>(b,i)) (λb=>b) (λi acc=>acc.length<=100*i) [] l9 A7 (λi r acc ha hi hI=>?_) (λacc hI=>?_) (λh2=>?_)
 .have hlt:=(X0.1 ha).1;obtain⟨_,h1,h2⟩:=h.ro r (iZ ha);have a1:=IA r.2.2.2.2.2.1;have a2:=IA r.2.2.2.2.2.2.1;have hrl:=VM h (iZ ha);simp only[G9 ha,o7,E8,ha,o8];rw[Y1 l9];obtain⟨e,he⟩:∃e:Int,r.2.1=e:=⟨_,rfl⟩;rw[he];change l7 (D8 e 0) _ (l7 (J6 (nD s) e) _ _)=_/\_;by_cases q0:0<=e
  case neg=>
   have:qA C e=false:=by
    cases hq:qA C e
    .rfl
    .exact absurd (hCin _ (FU.1 hq)).1 q0
   rw[U7 (show e<0 by omega),this];exact⟨rfl,by show acc.length<=_;omega⟩
  by_cases q1:e<nD s
  case neg=>
   have:qA C e=false:=by
    cases hq:qA C e
    .rfl
    .exact absurd (hCin _ (FU.1 hq)).2 q1
   rw[L8 q0,Y6 (show nD s<=e by omega),this];exact⟨rfl,by show acc.length<=_;omega⟩
  obtain⟨b,f1,f2⟩:=He hWl q0 (show e<((s.2.2.2.1.length:Nat):Int) by omega);have hb:b=qA C e:=by have:=a6Y (S:=W) q0 (by simp only[o9];omega);rw[←hW _ q0 q1];have e3:W[e.toNat]? =some b:=f2;rw[this]at e3;exact(ay e3).symm
  rw[L8 q0,o6,Z5 q1,o6,f1,o8,f2,o8,hb];cases qA C e
  .exact⟨rfl,by show acc.length<=_;omega⟩
  simp only[D9,o6,o7,FN (show r.2.2.2.2.2.1.length<=1000000 by omega),FN (show r.2.2.2.2.2.2.1.length<=1000000 by omega),o8];rw[MX l9,o8,MX (by rw[E5];omega),o8];refine⟨by unfold GV;rw[F8],by show(acc++GV r).length<=_;rw[E5];omega⟩
 .simp only[G6];rfl
 .have hf:∀(l:List aC) (b:d5Y),l.foldl (λ(acc:d5Y) r=>l7 (qA C r.2.1) (acc++GV r) acc) b=b++mdl l C:=by
   intro l;induction l with
   |nil=>intro b;simp[mdl]|cons a l ih=>intro b;rw[J9,ih,show mdl (a::l) C=l7 (qA C a.2.1) (GV a) []++mdl l C from rfl];cases qA C a.2.1<;>simp
  rw[hf,H8];have hml:=a2s h C s.2.2.2.2 (λ_ h=>h);rw[UZ l9];rfl
def SQ(m:D7)(w:List Bool)(L:d5Y):List Bool:=L.foldl (Rk m) w
theorem SS(m:D7):∀(L:d5Y) (w:List Bool),(SQ m w L).length=w.length
 |[],w=>rfl|x::L,w=>(SS m L (Rk m w x)).trans (PS m w x)
theorem Un(h:SmS s)(d:Int):(mbS s d).length<=9600:=by
 unfold mbS;cases inD (nD s) d
 .simp
 .have h1:=Pm (mdl s.2.2.2.2 (ins d (cu s d)));have h2:=a2s h (ins d (cu s d)) s.2.2.2.2 (λ_ h=>h);have:=h.nr;simp only[o7];omega
theorem b0j{s m:D7}(h:SmS s)(hm:SmS m){u w:List Bool}(hu:u.length=s.2.2.2.1.length)(hw:w.length=m.2.2.2.1.length)(h0:0<=d)(h1:d<nD s)(hr:∀x∈mbS s d,0<=x/\x<nD m):
  vF (s,m,u,w) d=some (s,m,Rk s u d,SQ m w (mbS s d)):=by
 have hn:nD s=((s.2.2.2.1.length:Nat):Int):=rfl;have hl:=yh h d;have hml:=Un h d;obtain⟨b,e1,e2⟩:=He hu h0 l9;unfold vF;simp only;rw[e1,o8,e2,o8,Bo h h0 h1,o8];refine V8 (o' :=some ((s,m,Rk s u d,w):cO)) ?_ ?_
 .refine(mQ (cu s d) (λ(v:List Bool) (x:Int)=>v.set x.toNat true) (λv i=>(((s,m,v,w),i):cO×Int)) (λv=>((s,m,v,w):cO)) (λ_ v=>v.length=s.2.2.2.1.length) (b:=u.set d.toNat true) l9 (by simp[hu]) (λi x v hx hi hv=>?_) (λv hv=>?_)).1
  .have hr:=Eu (iZ hx);obtain⟨b,e1,e2⟩:=He hv hr.1 l9;simp only[G9 hx,o7,E8,hx,o8];rw[show P7 (cu s d) (U8 (i:Int))=some x from hx,o8,e1,o8,e2,o8,Y1 l9];exact⟨rfl,by simp[hv]⟩
  .simp only[G6];rfl
 rw[o8];simp only;rw[RJ h h0 h1,o8,gy];refine(mQ (mbS s d) (Rk m) (λv i=>(((s,m,Rk s u d,v),i):cO×Int)) (λv=>((s,m,Rk s u d,v):cO)) (λ_ v=>v.length=m.2.2.2.1.length) (b:=w) l9 hw (λi x v hx hi hv=>?_) (λv hv=>?_)).1
 .have hq:=hr x (iZ hx);simp only[G9 hx,o7,E8,hx,o8];rw[show P7 (mbS s d) (U8 (i:Int))=some x from hx,o8,a1R hm hv hq.1 hq.2,o8,Y1 l9];exact⟨rfl,(PS m v x).trans hv⟩
 .simp only[G6];rfl
theorem UV(hv:(ja l).1=0)(hs:G8 l.2.2 k=some s)(h:SmS s)(hm:SmS (bY l s))(hw:w.length=(bY l s).2.2.2.1.length)(d:Int)(hr:∀x∈mbS s d,0<=x/\x<nD (bY l s)):
  uA l k w d=some (SQ (bY l s) w (mbS s d)):=by
 have hml:=Un h d;unfold uA;rw[hs,o8,PI h,o8,gy];refine(mQ (mbS s d) (Rk (bY l s)) (λv i=>(v,i)) (λv=>v) (λ_ v=>v.length=(bY l s).2.2.2.1.length) (b:=w) l9 hw (λi x v hx hi hq=>?_) (λv hv=>?_)).1
 .have hx2:=hr x (iZ hx);simp only[G9 hx,o7,E8,hx,o8];rw[DN hv hs,o8,show P7 (mbS s d) (U8 (i:Int))=some x from hx,o8,v_ hm hq hx2.1 hx2.2,o8,Y1 l9];exact⟨rfl,(PS _ v x).trans hq⟩
 .simp only[G6];rfl
variable {sg:N8}
theorem b9G(hk:iV k=some true)(h:(Wq (k,N) [] sg).2=0):((RR (k,N) [] sg).getD ((0,0),0)).2=0:=by
 unfold Wq at h;rw[c0j]at h;revert h;cases D6 (x8 N 0)
 .exact id
 .rw[show iV (k,N).1=some true from hk];exact id
theorem b8p(h:(Wq (8,N) [] sg).2=0):0<=N/\N<o9 sg.2.2.2.1:=by
 have h:=b9G rfl h;have hf:wV (8,N) sg=l7 (J6 0 N) (some (D8 N (o9 sg.2.2.2.1))) (some false):=rfl;unfold RR at h;rw[hf,show uw (8,N) sg=some true from rfl]at h;cases h1:J6 0 N<;>rw[h1]at h
 .exact absurd (show(6:Int)=0 from h) J5
 cases h2:D8 N (o9 sg.2.2.2.1)<;>rw[h2]at h
 .exact absurd (show(6:Int)=0 from h) J5
 exact⟨pO.1 h1,jX.1 h2⟩
theorem b8q(hk:k=36\/k=37\/k=38\/k=39)(h:(Wq (k,N) [] sg).2=0):0<=N/\N<o9 sg.2.2.2.2.1/\sg.2.2.2.2.2=true:=by
 have h:=b9G (by rcases hk with rfl|rfl|rfl|rfl<;>rfl) h;have hr:RR (k,N) [] sg=o5 (l7 sg.2.2.2.2.2 (l7 (J6 0 N) (some (D8 N (o9 sg.2.2.2.2.1))) (some false)) (some false)) λ(x:Bool)=>l7 (D6 x) (some ((0,0),6))
   (o5 (mX (k,N) sg) λ(x:AP×Bool)=>l7 (D6 x.2) (some ((0,0),8)) (some (x.1,0))):=by rcases hk with rfl|rfl|rfl|rfl<;>rfl
 rw[hr]at h;cases h0:sg.2.2.2.2.2<;>rw[h0]at h
 .exact absurd (show(6:Int)=0 from h) J5
 cases h1:J6 0 N<;>rw[h1]at h
 .exact absurd (show(6:Int)=0 from h) J5
 cases h2:D8 N (o9 sg.2.2.2.2.1)<;>rw[h2]at h
 .exact absurd (show(6:Int)=0 from h) J5
 exact⟨pO.1 h1,jX.1 h2,rfl⟩
def Yu(sg:N8)(n:Int×Int):Prop:=(x8 n.1 8=true->0<=n.2/\n.2<o9 sg.2.2.2.1)/\(isM n.1=true->0<=n.2/\n.2<o9 sg.2.2.2.2.1/\sg.2.2.2.2.2=true)
theorem a1d(h:isM k=true):k=36\/k=37\/k=38\/k=39:=by
 unfold isM at h;cases h1:J6 36 k<;>rw[h1]at h
 .cases h
 have h2:=pO.1 h1;have h3:=pO.1 (show J6 k 39=true from h);omega
theorem b3C{n:Int×Int}{t:Int×Int}(h:Ja sg n [] i= .inr t):Yu sg n:=by
 unfold Ja at h;split at h
 .rename_i h0;obtain⟨k,N⟩:=n;refine⟨λhk=>?_,λhk=>b8q (a1d hk) h0⟩;have hk:k=8:=Y5.1 hk;subst hk;exact b8p h0
 .cases h
theorem ZP{n:Int×Int}(h:arF n.1≠0):Yu sg n:=by
 refine⟨λhk=>absurd ?_ h,λhk=>absurd ?_ h⟩
 .rw[Y5.1 hk];rfl
 .rcases a1d hk with e|e|e|e<;>rw[e]<;>rfl
theorem NR{sg:N8} :∀(t:XT) (o:Nat) {r:Int×Int},t.wf->lY sg t o= .inr r->∀n∈t.post,Yu sg n
 | .l0 n,o,r,hw,h,x,hx=>by unfold XT.post at hx;rw[dh.1 hx];unfold lY at h;exact b3C h| .l1 n a,o,r,hw,h,x,hx=>by
  unfold XT.wf at hw;unfold XT.post at hx;unfold lY at h;cases ha:lY sg a o with
  |inl e=>rw[ha]at h;cases h|inr ta=>
   rcases F7.1 hx with hx|hx
   .exact NR a o hw.2 ha x hx
   .rw[dh.1 hx];exact ZP (by rw[hw.1];decide)
 | .l2 n a b,o,r,hw,h,x,hx=>by
  unfold XT.wf at hw;unfold XT.post at hx;unfold lY at h;cases ha:lY sg a o with
  |inl e=>rw[ha]at h;cases h|inr ta=>
   rw[ha]at h;simp only at h;cases hb:lY sg b (o+a.size)with
   |inl e=>rw[hb]at h;cases h|inr tb=>
    rcases F7.1 hx with hx|hx
    .rcases F7.1 hx with hx|hx
     .exact NR a o hw.2.1 ha x hx
     .exact NR b _ hw.2.2 hb x hx
    .rw[dh.1 hx];exact ZP (by rw[hw.1];decide)
 | .l3 n a b c,o,r,hw,h,x,hx=>by
  unfold XT.wf at hw;unfold XT.post at hx;unfold lY at h;cases ha:lY sg a o with
  |inl e=>rw[ha]at h;cases h|inr ta=>
   rw[ha]at h;simp only at h;cases hb:lY sg b (o+a.size)with
   |inl e=>rw[hb]at h;cases h|inr tb=>
    rw[hb]at h;simp only at h;cases hc:lY sg c (o+a.size+b.size)with
    |inl e=>rw[hc]at h;cases h|inr tc=>
     rcases F7.1 hx with hx|hx
     .rcases F7.1 hx with hx|hx
      .rcases F7.1 hx with hx|hx
       .exact NR a o hw.2.1 ha x hx
       .exact NR b _ hw.2.2.1 hb x hx
      .exact NR c _ hw.2.2.2 hc x hx
     .rw[dh.1 hx];exact ZP (by rw[hw.1];decide)
theorem Na{n:Int×Int}{ops:List (Int×Int)}(h:Ja sg n ops i= .inl x):x.2≠0:=by
 unfold Ja at h;split at h
 .cases h
 .rename_i h0;cases h;exact h0
theorem Fh{sg:N8} :∀(t:XT) (o:Nat) {x:Int×Int},lY sg t o= .inl x->x.2≠0
 | .l0 n,o,x,h=>Na h| .l1 n a,o,x,h=>by
  unfold lY at h;cases ha:lY sg a o with
  |inl e=>rw[ha]at h;cases h;exact Fh a o ha|inr ta=>rw[ha]at h;exact Na h
 | .l2 n a b,o,x,h=>by
  unfold lY at h;cases ha:lY sg a o with
  |inl e=>rw[ha]at h;cases h;exact Fh a o ha|inr ta=>
   rw[ha]at h;simp only at h;cases hb:lY sg b (o+a.size)with
   |inl e=>rw[hb]at h;cases h;exact Fh b _ hb|inr tb=>rw[hb]at h;exact Na h
 | .l3 n a b c,o,x,h=>by
  unfold lY at h;cases ha:lY sg a o with
  |inl e=>rw[ha]at h;cases h;exact Fh a o ha|inr ta=>
   rw[ha]at h;simp only at h;cases hb:lY sg b (o+a.size)with
   |inl e=>rw[hb]at h;cases h;exact Fh b _ hb|inr tb=>
    rw[hb]at h;simp only at h;cases hc:lY sg c (o+a.size+b.size)with
    |inl e=>rw[hc]at h;cases h;exact Fh c _ hc|inr tc=>rw[hc]at h;exact Na h
theorem a1I(h:(nR e sg).2.2=0):∀n∈e,Yu sg n:=by
 unfold nR at h;cases hs:ng e with
 |inl x=>rw[hs]at h;exact absurd h (Dh hs)|inr t=>
  rw[hs]at h;simp only at h;cases ht:lY sg t 0 with
  |inl x=>rw[ht]at h;exact absurd h (Fh t 0 ht)|inr r=>intro n hn;rw[(Gl hs).1]at hn;exact NR t 0 (QY hs) ht n hn
theorem a1L{t:Int×Int}(h:EE e sg t=0):nR e sg=(t,(nR e sg).2.1,0):=by
 unfold EE at h;cases h1:x8 (nR e sg).2.2 0<;>rw[h1]at h
 .simp only[o6]at h;rw[O0 h]at h1;cases h1
 cases h2:x8 (nR e sg).1.1 t.1<;>rw[h2]at h
 .exact absurd (show(8:Int)=0 from h) J5
 cases h3:x8 (nR e sg).1.2 t.2<;>rw[h3]at h
 .exact absurd (show(8:Int)=0 from h) J5
 rw[Y5]at h1 h2 h3;exact aZ (aZ h2 h3) (aZ rfl h1)
theorem a8w(h:(ja l).1=0)(hs:l.2.2[i]? =some s){k:Nat}(hr:s.2.2.2.2[k]? =some r):Jm s (Js l s) k r=0:=by
 have hp:=(a1J h hs).2;unfold ZX at hp;cases h1:JJ l s with
 |some q=>rw[h1]at hp;exact absurd hp (WW h1)|none=>
  rw[h1]at hp;simp only at hp;cases h2:Z7 s.2.2.2.2.length (LZ l s)with
  |some q=>
   rw[h2]at hp;obtain⟨j,hj,hq⟩:=jv h2;unfold LZ at hq;cases h3:s.2.2.2.2[j]? with
   |none=>rw[h3]at hq;cases hq|some q2=>rw[h3]at hq;exact absurd hp (Qy hq)
  |none=>
   have hn:=Dw h2 k (X0.1 hr).1;unfold LZ at hn;rw[hr]at hn;simp only at hn;unfold VD at hn;cases he:x8 (Jm s (Js l s) k r) 0<;>rw[he]at hn
   .cases hn
   .exact Y5.1 he
theorem a7C{k:Nat}(h:Jm s sg k r=0):∃d,G8 s.2.2.2.1 r.2.1=some d/\OV r sg d.2=0:=by
 unfold Jm at h;cases g1:Ez r.1<;>rw[g1]at h
 .exact absurd (show(2:Int)=0 from h) J5
 cases g2:(s.2.2.2.2.take k).any λx=>seq x.1 r.1<;>rw[g2]at h
 case true=>exact absurd (show(7:Int)=0 from h) J5
 cases g3:G8 s.2.2.2.1 r.2.1 with
 |none=>rw[g3]at h;exact absurd (show(6:Int)=0 from h) J5|some d=>
  rw[g3]at h;refine⟨d,rfl,?_⟩;simp only[o7,o6]at h;revert h;generalize l7 (x8 r.2.2.1 (-1)) false (l7 (D8 r.2.2.1 0) true (l7 (J6 k r.2.2.1) true (match G8 s.2.2.2.2 r.2.2.1 with|some q=>D6 (x8 q.2.1 r.2.1)|none=>true)))=b1;generalize D8 r.2.2.2.1 0=b2;generalize D8 9 r.2.2.2.1=b3;generalize Ju r.2.2.2.2.1=b4;generalize x8 r.2.2.2.2.1.1 r.2.2.2.2.1.2=b5;generalize J6 8 (Sz (s.2.2.2.2.take k) r.2.1)=b6;generalize a3r r.2.2.2.2.2.2.2=b7;intro h;cases b1
  case true=>exact absurd (show(9:Int)=0 from h) J5
  cases b2
  case true=>exact absurd (show(3:Int)=0 from h) J5
  cases b3
  case true=>exact absurd (show(3:Int)=0 from h) J5
  cases b4
  case false=>exact absurd (show(3:Int)=0 from h) J5
  cases b5
  case true=>exact absurd (show(3:Int)=0 from h) J5
  cases b6
  case true=>exact absurd (show(4:Int)=0 from h) J5
  cases b7
  case false=>exact absurd (show(2:Int)=0 from h) J5
  exact h
theorem a6e(h:(ja l).1=0)(hs:l.2.2[i]? =some s)(hr:r∈s.2.2.2.2):
  (r.2.2.2.2.2.1=[]\/EE r.2.2.2.2.2.1 (Js l s) (1,0)=0)/\∃d,G8 s.2.2.2.1 r.2.1=some d/\EE r.2.2.2.2.2.2.1 (Js l s) d.2=0:=by
 obtain⟨k,hk,e⟩:=X9 hr;obtain⟨d,h1,h2⟩:=a7C (a8w h hs (r:=r) (k:=k) (by rw[fH hk,e]));unfold OV at h2;cases h3:D8 0 (o9 r.2.2.2.2.2.1)<;>rw[h3]at h2
 .refine⟨.inl ?_,d,h1,h2⟩;rw[iE]at h3;exact O9.1 (by simp only[o9]at h3;omega)
 .simp only[o7]at h2;cases h4:x8 (EE r.2.2.2.2.2.1 (Js l s) (1,0)) 0<;>rw[h4]at h2
  .simp only[o6]at h2;rw[O0 h2]at h4;cases h4
  .exact⟨.inr (Y5.1 h4),d,h1,h2⟩
theorem b5L(l:U4)(s:D7):(Js l s).2.2.2.1=s.2.2.2.1.map (·.2):=by unfold Js;split<;>rfl
theorem b8U(h:(Js l s).2.2.2.2.2=true):(Js l s).2.2.2.2.1=(bY l s).2.2.2.1.map (·.2):=by
 unfold Js at h ⊢;unfold bY G8
 by_cases g:0<=s.2.1
 .rw[if_pos g]at h ⊢;rw[Y6 g];cases hq:l.2.2[s.2.1.toNat]? with
  |none=>rw[hq]at h;cases h|some q=>rfl
 .rw[if_neg g]at h;cases h
theorem a1B(h:(ja l).1=0)(hs:l.2.2[i]? =some s)(hr:r∈s.2.2.2.2)(he:e=r.2.2.2.2.2.1\/e=r.2.2.2.2.2.2.1):
  (∀x∈(uZ e).2.1,0<=x/\x<nD s)/\∀x∈(uZ e).2.2,0<=x/\x<nD (bY l s):=by
 obtain⟨h1,d,h2,h3⟩:=a6e h hs hr;have hn:∀n∈e,Yu (Js l s) n:=by
  rcases he with rfl|rfl
  .rcases h1 with h1|h1
   .rw[h1];simp
   .exact a1I (by rw[a1L h1])
  .exact a1I (by rw[a1L h3])
 constructor
 .intro x hx;have hx:=(Pq x _).1 (show x∈Oo (Uw (λo=>x8 o 8) e)from hx);obtain⟨n,hn1,rfl⟩:=bM.1 hx;obtain⟨hn2,hn3⟩:=gV.1 hn1;have:=(hn n hn2).1 hn3;rw[b5L]at this;simpa[o9,nD]using this
 .intro x hx;have hx:=(Pq x _).1 (show x∈Oo (Uw isM e)from hx);obtain⟨n,hn1,rfl⟩:=bM.1 hx;obtain⟨hn2,hn3⟩:=gV.1 hn1;have:=(hn n hn2).2 hn3;rw[b8U this.2.2]at this;refine⟨this.1,?_⟩;have h2:=this.2.1;simpa[o9,nD]using h2
theorem a6X(h:(ja l).1=0)(hs:l.2.2[i]? =some s)(d:Int):∀x∈mbS s d,0<=x/\x<nD (bY l s):=by
 intro x hx;unfold mbS at hx;cases hq:inD (nD s) d<;>rw[hq]at hx
 .simp at hx
 .obtain⟨r,hr,_,h3⟩:=b7T.1 ((Pq x _).1 hx);rcases F7.1 h3 with h3|h3
  .exact(a1B h hs hr (.inl rfl)).2 x h3
  .exact(a1B h hs hr (.inr rfl)).2 x h3
theorem b2Q{e:E4}(h:a0g l s c nS nM= .inr e):e.1≠0:=by
 unfold a0g at h;cases hm:mS l c (bY l s) nM with
 |inr e=>rw[hm]at h;cases h;exact CP _ (λr=>r.1≠0) b3q _ _ _ hm|inl b=>
  rw[hm]at h;simp only at h;cases hs:scS s (RU l s c b) (-1) nS with
  |inr r=>rw[hs]at h;cases h;exact QU hs|inl x=>rw[hs]at h;cases h
theorem b2R{x:DB×List DB}(h:a0g l s c nS nM= .inl x):x.1.1.length=s.2.2.2.1.length/\x.1.2.length=s.2.2.2.1.length:=by
 unfold a0g at h;cases hm:mS l c (bY l s) nM with
 |inr e=>rw[hm]at h;cases h|inl b=>
  rw[hm]at h;simp only at h;cases hs:scS s (RU l s c b) (-1) nS with
  |inr r=>rw[hs]at h;cases h|inl y=>rw[hs]at h;cases h;exact a9S hs
theorem a3K(h:(Rh l k c true d).1=0)(hs:G8 l.2.2 k=some s):0<=d/\d<nD s:=by
 unfold Rh at h;cases h0:x8 (ja l).1 0<;>rw[h0]at h
 .exact absurd (show(1:Int)=0 from h) J5
 rw[hs]at h;simp only[o7]at h;cases h1:D8 d 0<;>rw[h1]at h
 case true=>exact absurd (show(6:Int)=0 from h) J5
 cases h2:J6 (o9 s.2.2.2.1) d<;>rw[h2]at h
 case true=>exact absurd (show(6:Int)=0 from h) J5
 rw[iE]at h1;rw[Gw]at h2;exact⟨h1,h2⟩
theorem Uj{l:List α}(a:α)(h0:0<=d)(h1:d<(l.length:Int)):G8 l d=some (l.getD d.toNat a)/\P7 l (U8 d)=some (l.getD d.toNat a):=by
 have h:d.toNat<l.length:=l9;have e:l[d.toNat]? =some (l.getD d.toNat a):=by rw[AB,fH h];rfl
 exact⟨by unfold G8;rw[if_pos h0];exact e,e⟩
def d5L(d:Int)(r:DB×List DB⊕E4):V3×Int×E4:=match r with
 | .inr e=>((0,0,0),0,e)| .inl x=>(x.1.1.getD d.toNat (0,0,0),x.1.2.getD d.toNat 0,0,0,0,0)
def b0A(l:U4)(s:D7)(c:fM)(d:Int):V3×Int×E4:=
 d5L d (a0g l s c (Rk s (EL s.2.2.2.1.length) d) (SQ (bY l s) (EL (bY l s).2.2.2.1.length) (mbS s d)))
theorem MS(n:Nat):(EL n).length=n:=by simp[EL]
theorem a6G(hL:SmL l)(hC:SmC c)(hT:∀t∈l.2.1,pY t):
  Dy l k c d=some (if(Rh l k c true d).1=0 then(match G8 l.2.2 k with|some s=>b0A l s c d|none=>((0,0,0),0,0,0,0,0))else((0,0,0),0,Rh l k c true d)):=by
 unfold Dy;rw[b7A hL k hC,o8];by_cases hA:(Rh l k c true d).1=0
 case neg=>rw[if_neg hA,J8 hA];rfl
 rw[if_pos hA,O0 hA];obtain⟨h,s,hs⟩:=a0H hA;obtain⟨h0,h1⟩:=a3K hA hs;have hM:=a4E hL h hs;have hS:=hL.sc s (pV hs).2.2.1;have hn:nD s=((s.2.2.2.1.length:Nat):Int):=rfl;rw[hs];simp only[D9,o6];rw[a4L hL h hs,o8,b0j hS hM (MS _) (MS _) h0 h1 (a6X h (pV hs).2.2.2 d),o8,a2f hS hM hC hT (by rw[PS,MS]) (by rw[SS,MS]),o8];unfold b0A;cases hq:a0g l s c (Rk s (EL s.2.2.2.1.length) d) (SQ (bY l s) (EL (bY l s).2.2.2.1.length) (mbS s d))with
 |inr e=>simp only[J8 (b2Q hq)];rfl|inl x=>obtain⟨g1,g2⟩:=b2R hq;simp only[O0 (rfl:(0:Int)=0),D9,o6];rw[(Uj (0,0,0) h0 l9).1,o8,(Uj 0 h0 l9).1];rfl
theorem Xu(hL:SmL l)(hC:SmC c)(hT:∀t∈l.2.1,pY t):
  Bd l k c d=some (if(Rh l k c true d).1=0 then(match G8 l.2.2 k with|some s=>b0A l s c d|none=>((0,0,0),0,0,0,0,0))else((0,0,0),0,Rh l k c true d)):=by
 unfold Bd;rw[b4D hL k hC,o8];by_cases hA:(Rh l k c true d).1=0
 case neg=>rw[if_neg hA,J8 hA];rfl
 rw[if_pos hA,O0 hA];obtain⟨h,s,hs⟩:=a0H hA;obtain⟨h0,h1⟩:=a3K hA hs;have hM:=a4E hL h hs;have hS:=hL.sc s (pV hs).2.2.1;have hn:nD s=((s.2.2.2.1.length:Nat):Int):=rfl;have hcm:=hC.nm;simp only[D9,o6];rw[gy];unfold Ci;rw[hs,o8,Eh s hS false,o8,v_ hS A7 h0 h1,o8,DN h hs,o8,Eh (bY l s) hM false,o8,UV h hs hS hM A7 d (a6X h (pV hs).2.2.2 d),o8,Zd h hs hC.nm hM hT (by rw[SS];simp),o8];dsimp only;unfold b0A a0g EL;cases hq:mS l c (bY l s) (SQ (bY l s) (List.replicate (bY l s).2.2.2.1.length false) (mbS s d))with
 |inr e=>simp only[J8 (CP _ (λr=>r.1≠0) b3q _ _ _ hq)];rfl|inl b=>
  have hbl:=b3r hq;simp only[O0 (rfl:(0:Int)=0),D9,o6];rw[b8j c b h hs hM,o8,WU hS (a5f hT s c l9) (-1) (by rw[PS];simp),o8];cases hr:scS s (RU l s c b) (-1) (Rk s (List.replicate s.2.2.2.1.length false) d)with
  |inr e=>simp only[J8 (QU hr)];rfl|inl x=>obtain⟨g1,g2⟩:=a9S hr;have k1:=Uj (l:=x.1) (0,0,0) h0 l9;have k2:=Uj (l:=x.2) 0 h0 l9;simp only[O0 (rfl:(0:Int)=0),D9,o6];rw[k1.1,o8,k1.2,o8,k2.1,o8,k2.2];rfl
theorem a6K{ρ:Type}{n:Nat}{p:Nat->Option ρ}(h:∀r,Z7 n p≠some r):∀i,i<n->p i=none:=by
 cases hf:Z7 n p with
 |some r=>exact absurd hf (h r)|none=>exact Dw hf
theorem b0z{k i:Int}{r:Int×Int}(h:SB k i r=none):r.1=0:=by
 unfold SB at h;cases he:x8 r.1 0<;>rw[he]at h
 .cases h
 .exact Y5.1 he
theorem V_(h:(ja l).1=0):∀e∈l.1,e.2.length<=16:=by
 intro e he;unfold ja at h;cases h1:x8 (KG l).1 0<;>rw[h1]at h
 .simp only[o6]at h;rw[O0 h]at h1;cases h1
 have h1:=Y5.1 h1;unfold KG at h1;cases h2:D8 8 (o9 l.1)<;>rw[h2]at h1
 case true=>exact absurd (show(4:Int)=0 from h1) J5
 simp only[o6]at h1;obtain⟨i,hi,e1⟩:=X9 he;have hn:=a6K (n:=l.1.length) (p:=OT l) (λr hf=>by
  rw[hf]at h1;obtain⟨j,_,hj⟩:=jv hf;unfold OT at hj;split at hj
  .exact Qz hj h1
  .cases hj) i hi
 unfold OT at hn;rw[fH hi,e1]at hn;have hz:=b0z hn;unfold WT at hz;cases g1:Ez e.1<;>rw[g1]at hz
 .exact absurd (show(2:Int)=0 from hz) J5
 cases g2:Gn l 1 i e.1<;>rw[g2]at hz
 case true=>exact absurd (show(7:Int)=0 from hz) J5
 cases g3:x8 (o9 e.2) 0<;>rw[g3]at hz
 case true=>exact absurd (show(5:Int)=0 from hz) J5
 cases g4:D8 16 (o9 e.2)<;>rw[g4]at hz
 case true=>exact absurd (show(4:Int)=0 from hz) J5
 rw[iE]at g4;unfold o9 at g4;omega
def KY(eq:α->α->Bool)(l:List (α×β))(f:α->Option β):Prop:=∀k,Tc eq l k=(f k).isSome/\∀z,sW eq l k z=(f k).getD z
theorem a1i(eq:α->α->Bool):KY eq ([]:List (α×β)) (λ_=>none):=λ_=>⟨rfl,λ_=>rfl⟩
theorem VO{α β:Type}{eq:α->α->Bool}(hE:∀a b,eq a b=true↔a=b)(k:α)(x:β)(k' :α):∀(l:List (α×β)),Pv eq (Px eq l k x) k' =(l7 (eq k' k) true (Pv eq l k'))/\∀z,JQ eq (Px eq l k x) k' z=l7 (eq k' k) x (JQ eq l k' z)
 |[]=>by unfold Px;simp only[Pv,JQ];cases eq k' k<;>exact⟨rfl,λ_=>rfl⟩|p::r=>by
  have ih:=VO hE k x k' r;unfold Px;cases hp:eq k p.1
  .simp only[cond_false,Pv,JQ];cases hq:eq k' p.1
   .simp only[cond_false];exact ih
   .simp only[cond_true];cases hk:eq k' k
    .exact⟨rfl,λ_=>rfl⟩
    .exfalso;have h1:=(hE _ _).1 hq;have h2:=(hE _ _).1 hk;rw[←h2,h1]at hp;rw[(hE p.1 p.1).2 rfl]at hp;cases hp
  .have hp' :=(hE _ _).1 hp;subst hp';simp only[cond_true,Pv,JQ];cases eq k' p.1<;>exact⟨rfl,λ_=>rfl⟩
variable {eq:α->α->Bool}{f:α->Option β}
theorem a1j(hE:∀a b,eq a b=true↔a=b){l:List (α×β)}(h:KY eq l f)(k:α)(x:β):
  KY eq (Gy eq l k x) (λk' =>l7 (eq k' k) (some x) (f k')):=λk' =>by
 obtain⟨h1,h2⟩:=VO hE k x k' l;obtain⟨g1,g2⟩:=h k';refine⟨?_,λz=>?_⟩
 .show Pv eq (Px eq l k x) k' =_;rw[h1,show Pv eq l k' =_ from g1];show _=(l7 (eq k' k) (some x) (f k')).isSome;cases eq k' k<;>rfl
 .show JQ eq (Px eq l k x) k' z=_;rw[h2 z,show JQ eq l k' z=_ from g2 z];show _=(l7 (eq k' k) (some x) (f k')).getD z;cases eq k' k<;>rfl
theorem KY.has{l:List (α×β)}(h:KY eq l f)(k:α):Tc eq l k=(f k).isSome:=(h k).1
theorem KY.get{l:List (α×β)}(h:KY eq l f)(k:α)(z:β):sW eq l k z=(f k).getD z:=(h k).2 z
theorem KY.congr{l:List (α×β)}{f g:α->Option β}(h:KY eq l f)(e:∀k,f k=g k):KY eq l g:=λk=>by rw[←e k];exact h k
theorem b5F(a b:d5X×d5X):U6 (seq a.1 b.1) (seq a.2 b.2)=true↔a=b:=by unfold U6;rw[A8,gz,gz];exact⟨λh=>aZ h.1 h.2,λh=>by subst h;exact⟨rfl,rfl⟩⟩
abbrev noS:D7:=([],0,[],[],[])
def sZ{α:Type}(p:α->Bool):List α->Nat->Option (α×Int)
 |[],_=>none|a::r,i=>l7 (p a) (some (a,(i:Int))) (sZ p r (i+1))
theorem OY{α:Type}(p:α->Bool)(a:α):∀(l:List α) (i:Nat),sZ p (l++[a]) i=(match sZ p l i with|some x=>some x|none=>l7 (p a) (some (a,((i+l.length:Nat):Int))) none)
 |[],i=>by simp only[H8,sZ,dX,aB]|b::r,i=>by
  simp only[ae,sZ];cases p b
  .simp only[o6];rw[OY p a r (i+1),H5,show i+1+r.length=i+(r.length+1) by omega]
  .rfl
def NE(s:D7)(n:d5X):Option (aC×Int):=sZ (λr=>seq n r.1) s.2.2.2.2 0
def BU(l:U4)(n:d5X):Option (D7×Int):=sZ (λs=>seq n s.1) l.2.2 0
def cpS(l:U4)(sn rn:d5X):D7×Int×Bool:=match BU l sn with
 |none=>(noS,0,false)
 |some x=>match NE x.1 rn with
  |none=>(noS,0,false)|some y=>(x.1,y.2,true)
def b2h(l:U4)(X:List (d5X×jl)):Prop:=
 ∃f:d5X->Option jl,KY (λ(a b:d5X)=>seq a b) X f/\∀n,match f n with
  |none=>BU l n=none|some x=>∃i,BU l n=some (x.1,i)/\KY (λ(a b:d5X)=>seq a b) x.2 (λrn=>(NE x.1 rn).map (·.2))
theorem b7v{l:List α}{x:α×Nat}(h:l.zipIdx[i]? =some x):l[i]? =some x.1/\x.2=i:=by
 rw[tq]at h;cases hl:l[i]? with
 |none=>rw[hl]at h;cases h|some a=>rw[hl]at h;simp only[aN,F9]at h;subst h;exact⟨rfl,A7⟩
def b0K(X:List (d5X×Int))(x:aC×Nat):List (d5X×Int):=l7 (Tc (λ(a b:d5X)=>seq a b) X x.1.1) X (Gy (λ(a b:d5X)=>seq a b) X x.1.1 (x.2:Int))
theorem a0Z(rs:List aC):∀(i:Nat),i<=rs.length->KY (λ(a b:d5X)=>seq a b) ((rs.zipIdx.take i).foldl b0K []) (λrn=>(sZ (λr:aC=>seq rn r.1) (rs.take i) 0).map (·.2))
 |0,_=>by simpa[sZ]using a1i _|i+1,h=>by
  have ih:=a0Z rs i l9;have hl:i<rs.length:=l9;have e1:rs.zipIdx.take (i+1)=rs.zipIdx.take i++[(rs[i],i)]:=by rw[xk];congr 1;rw[tq,fH hl];simp
  have e2:rs.take (i+1)=rs.take i++[rs[i]]:=by rw[xk,fH hl];rfl
  rw[e1,xh,e2];simp only[J9,List.foldl_nil,OY,bP,Y9,bg (Nat.le_of_lt hl)];generalize (rs.zipIdx.take i).foldl b0K []=X at*;unfold b0K;simp only[ih.has];cases hf:sZ (λr:aC=>seq rs[i].1 r.1) (rs.take i) 0 with
  |some x=>
   simp only[aN,wo,o7];refine ih.congr λk=>?_;cases hk:sZ (λr:aC=>seq k r.1) (rs.take i) 0 with
   |some y=>rfl|none=>
    cases hq:seq k rs[i].1
    .rfl
    .have:=gz.1 hq;subst this;rw[hk]at hf;cases hf
  |none=>
   simp only[yV,vZ,o6];refine(a1j (λa b=>gz) ih _ _).congr λk=>?_;cases hq:seq k rs[i].1
   .simp only[o6];cases sZ (λr:aC=>seq k r.1) (rs.take i) 0<;>rfl
   .have:=gz.1 hq;subst this;rw[hf];rfl
def a0Y(X:List (d5X×jl))(s:D7):List (d5X×jl):=
 l7 (Tc (λ(a b:d5X)=>seq a b) X s.1) X (Gy (λ(a b:d5X)=>seq a b) X s.1 (s,s.2.2.2.2.zipIdx.foldl b0K []))
theorem a1a(l:U4):∀(i:Nat),i<=l.2.2.length->b2h (l.1,l.2.1,l.2.2.take i) ((l.2.2.take i).foldl a0Y [])
 |0,_=>⟨λ_=>none,a1i _,λn=>rfl⟩|i+1,h=>by
  obtain⟨f,h1,h2⟩:=a1a l i l9;have hl:i<l.2.2.length:=l9;have e2:l.2.2.take (i+1)=l.2.2.take i++[l.2.2[i]]:=by rw[xk,fH hl];rfl
  rw[e2,xh];simp only[J9,List.foldl_nil];have hA:∀n,BU (l.1,l.2.1,l.2.2.take i++[l.2.2[i]]) n=(match BU (l.1,l.2.1,l.2.2.take i) n with|some x=>some x|none=>l7 (seq n l.2.2[i].1) (some (l.2.2[i],(i:Int))) none):=λn=>by unfold BU;simp only[OY,bP,Y9,bg (Nat.le_of_lt hl)];cases sZ (λs:D7=>seq n s.1) (l.2.2.take i) 0<;>rfl
  generalize (l.2.2.take i).foldl a0Y []=X at*;unfold a0Y;simp only[h1.has];cases hf:f l.2.2[i].1 with
  |some x=>
   simp only[wo,o7];refine⟨f,h1,λn=>?_⟩;have h3:=h2 n;rw[hA n];cases hn:f n with
   |some y=>rw[hn]at h3;obtain⟨j,h4,h5⟩:=h3;rw[h4];exact⟨j,rfl,h5⟩
   |none=>
    rw[hn]at h3;simp only at h3 ⊢;rw[h3];cases hq:seq n l.2.2[i].1
    .rfl
    .have:=gz.1 hq;subst this;rw[hn]at hf;cases hf
  |none=>
   simp only[vZ,o6];refine⟨_,a1j (λa b=>gz) h1 _ _,λn=>?_⟩;have h3:=h2 n;rw[hA n];cases hq:seq n l.2.2[i].1
   .simp only[o6];cases hn:f n with
    |some y=>rw[hn]at h3;obtain⟨j,h4,h5⟩:=h3;rw[h4];exact⟨j,rfl,h5⟩
    |none=>rw[hn]at h3;simp only at h3 ⊢;rw[h3]
   .have:=gz.1 hq;subst this;rw[hf]at h3;simp only at h3;rw[h3];simp only[o7];refine⟨_,rfl,?_⟩;have:=a0Z l.2.2[i].2.2.2.2 l.2.2[i].2.2.2.2.length (F5 _);rw[show l.2.2[i].2.2.2.2.zipIdx.take l.2.2[i].2.2.2.2.length=l.2.2[i].2.2.2.2.zipIdx from S9 A7,aA]at this;exact this
theorem Xi(hL:SmL l):∃X,ww l=some X/\b2h l X:=by
 have hf:=hL.few.2.2;refine⟨l.2.2.foldl a0Y [],?_,?_⟩
 .unfold ww;refine aK l.2.2 a0Y (λb i=>(b,i)) (λb=>b) (λ_ _=>True) [] l9 trivial (λi s b hs hi _=>⟨?_,trivial⟩) (λb _=>?_) (λ_=>rfl)
  .have hS:=hL.sc s (iZ hs);simp only[G9 hs,o7,E8,hs,o8];unfold a0Y;cases Tc (λ(a b:d5X)=>seq a b) b s.1
   .simp only[o6];refine aK s.2.2.2.2.zipIdx b0K (λb i=>(b,i)) (λb=>b) (λ_ _=>True) [] (by have:=hS.nr;simp;omega) trivial (λj x c hx hj _=>⟨?_,trivial⟩) (λc _=>?_) (λ_=>?_)
    .obtain⟨hr,hj2⟩:=b7v hx;simp only[G9 hr,o7,E8,hr,o8];unfold b0K;rw[hj2];cases Tc (λ(a b:d5X)=>seq a b) c x.1.1<;>simp only[D9,aJ,o7,o6,Y1 (show j<=9000000000000000000 by omega)]
    .simp only[List.length_zipIdx,G6];rfl
    .simp only[Y1 (show i<=9000000000000000000 by omega)]
   .simp only[o7,Y1 (show i<=9000000000000000000 by omega)]
  .simp only[G6];rfl
 .have:=a1a l l.2.2.length (F5 _);rwa[aA]at this
theorem OM{X:List (d5X×jl)}(h:b2h l X)(sn rn:d5X):kE X sn rn=some (cpS l sn rn):=by
 obtain⟨f,h1,h2⟩:=h;unfold kE cpS;rw[h1.has,h1.get];have h3:=h2 sn;cases hf:f sn with
 |none=>rw[hf]at h3;simp only at h3;rw[h3];rfl|some x=>rw[hf]at h3;obtain⟨i,h4,h5⟩:=h3;rw[h4];simp only[wo,D9,o6,dG,h5.has,h5.get];cases NE x.1 rn<;>rfl
noncomputable def eqB {α:Type} (a b:α):Bool:=@decide (a=b) (Classical.propDecidable _)
theorem zK{a b:α} :eqB a b=true↔a=b:=by unfold eqB;exact @decide_eq_true_iff _ (Classical.propDecidable _)
theorem Dt{a b:α}(h:a=b):eqB a b=true:=zK.2 h
theorem xK{a b:α}(h:a≠b):eqB a b=false:=by
 cases he:eqB a b
 .rfl
 .exact absurd (zK.1 he) h
theorem Ll{a b:α}{c d:β}(h:a=b↔c=d):eqB a b=eqB c d:=by rw[gK,zK,zK];exact h
theorem zM(a b:List α):eqB (a.map λx=>x) (b.map λx=>x)=eqB a b:=A7
theorem b7w{α β:Type} :∀{a:List α} {b:List β} {i:Nat} {p:α×β},(a.zip b)[i]? =some p->a[i]? =some p.1/\b[i]? =some p.2
 |[],_,i,p,h=>by simp at h|_::_,[],i,p,h=>by simp at h|x::a,y::b,0,p,h=>by simp only[di,eX,F9]at h;subst h;exact⟨rfl,rfl⟩|x::a,y::b,i+1,p,h=>by simp only[di,ql]at h ⊢;exact b7w h
noncomputable def eqG {α β:Type} (g:α->β) (_:Unit) (p:α×α):Unit⊕Bool:=l7 (eqB (g p.1) (g p.2)) (.inl ()) (.inr false)
theorem a9b{α β:Type}(g:α->β):∀{a b:List α},a.length=b.length->fG (eqG g) (a.zip b) ()=l7 (eqB (a.map g) (b.map g)) (.inl ()) (.inr false)
 |[],[],_=>by rw[Dt rfl];rfl|[],_::_,h=>by cases h|_::_,[],h=>by cases h|x::a,y::b,h=>by
  have ih:=a9b g (a:=a) (b:=b) (by simpa using h);simp only[di,je];unfold fG;by_cases e:g x=g y
  .rw[show eqG g () (x,y)= .inl ()from by unfold eqG;rw[Dt e];rfl];rw[Ll (show(g x::a.map g=g y::b.map g)↔a.map g=b.map g by rw[e];simp)];exact ih
  .rw[show eqG g () (x,y)= .inr false from by unfold eqG;rw[xK e];rfl];rw[xK (λh=>e (X8 h).1)];rfl
theorem MP(g:α->β)(q:α->α->Bool)(hq:∀x y,q x y=true↔g x=g y){a b:List α}(hl:a.length<=1000000){f:Int->Option (Out Int PUnit Bool)}
  (hin:∀(i:Nat) x y,a[i]? =some x->b[i]? =some y->f (i:Int)=l7 (D6 (q x y)) (some (.rt false)) (some (.nx (x9 .i64 (i:Int) 1)))) (hend:f (a.length:Int)=some (.ex PUnit.unit)):
  (l7 (D6 (x8 (o9 a) (o9 b))) (some false) (o5 (U0 f 0) λo=>V5 o (λ_=>some true) λr=>some r))=some (eqB (a.map g) (b.map g)):=by
 by_cases hab:a.length=b.length
 .rw[show x8 (o9 a) (o9 b)=true from O0 (by simp[o9,hab]),D9,o6];have hz:(a.zip b).length=a.length:=by simp[hab]
  refine jq (a.zip b) (eqG g) (λ_ i=>i) (λ_=>PUnit.unit) (λ_ _=>True) () l9 trivial (λi p _ hp hi _=>⟨?_,λ_ _=>trivial⟩) (λ_ _=>?_) (λ_=>?_)
  .obtain⟨h1,h2⟩:=b7w hp;rw[hin i _ _ h1 h2];unfold eqG;cases hqp:q p.1 p.2
   .have:¬g p.1=g p.2:=λe=>by rw[(hq _ _).2 e]at hqp;cases hqp
    rw[xK this];rfl
   .have:=(hq _ _).1 hqp;rw[Dt this,D9,o6,Y1 (show i<=9000000000000000000 by omega)];rfl
  .rw[hz];exact hend
  .rw[a9b g hab];cases eqB (a.map g) (b.map g)<;>rfl
 .rw[show x8 (o9 a) (o9 b)=false from J8 (by simp only[o9];omega),aJ,o7];rw[xK (λe=>hab (by simpa using congrArg List.length e))]
theorem vK{a b:Bool} :U6 a b=true↔a=true/\b=true:=by simp[U6]
theorem b2O{a:List d5X}(b:List d5X)(h:a.length<=1000000):mZ a b=some (eqB a b):=by
 unfold mZ;rw[←zM];refine MP (λx=>x) (λx y=>seq x y) (λx y=>gz) h (λi x y hx hy=>?_) ?_
 .simp only[G9 hx,o7,E8,hx,hy,o8]
 .simp only[G6];rfl
theorem b2N{a:List xH}(b:List xH)(h:a.length<=1000000):lI a b=some (eqB a b):=by
 unfold lI;rw[←zM];refine MP (λx=>x) (λ(x y:xH)=>U6 (x8 x.1.1 y.1.1) (U6 (x8 x.1.2 y.1.2) (U6 (x8 x.2.1 y.2.1) (U6 (x8 x.2.2.1 y.2.2.1) (x8 x.2.2.2 y.2.2.2)))))
  (λx y=>by simp only[vK,Y5,kQ,and_assoc]) h (λi x y hx hy=>?_) ?_
 .simp only[G9 hx,o7,E8,hx,hy,o8]
 .simp only[G6];rfl
theorem Zc{a:List gu}(b:List gu)(h:a.length<=1000000):gZ a b=some (eqB a b):=by
 unfold gZ;rw[←zM];refine MP (λx=>x) (λ(x y:gu)=>U6 (seq x.1 y.1) (U6 (x8 x.2.1 y.2.1) (x8 x.2.2 y.2.2)))
  (λx y=>by simp only[vK,Y5,gz,kQ]) h (λi x y hx hy=>?_) ?_
 .simp only[G9 hx,o7,E8,hx,hy,o8]
 .simp only[G6];rfl
theorem a0N{a:List I9}(b:List I9)(h:a.length<=1000000):iT a b=some (eqB a b):=by
 unfold iT;rw[←zM];refine MP (λx=>x) (λ(x y:I9)=>U6 (x8 x.1 y.1) (x8 x.2 y.2))
  (λx y=>by simp only[vK,Y5,kQ]) h (λi x y hx hy=>?_) ?_
 .simp only[G9 hx,o7,E8,hx,hy,o8]
 .simp only[G6];rfl
theorem a5C{x:gI}(y:gI)(h:x.2.length<=1000000):zU x y=some (eqB x y):=by
 unfold zU;rw[b2O y.2 h,o8];by_cases e:x.1=y.1
 .rw[gz.2 e,o7];congr 1;exact Ll ⟨λh=>aZ e h,λh=>by rw[h]⟩
 .rw[NJ.2 e,o6,xK (λh=>e (by rw[h]))]
theorem a3c{x:dC}(y:dC)(h:x.2.2.2.length<=1000000):yG x y=some (eqB x y):=by
 unfold yG;rw[b2N y.2.2.2 h,o8];by_cases e:x=y
 .subst e;rw[gz.2 rfl,O0 rfl,O0 rfl,O0 rfl,O0 rfl,Dt rfl,Dt rfl];rfl
 .rw[xK e];by_cases e1:x.1=y.1
  case neg=>rw[NJ.2 e1];rfl
  rw[gz.2 e1,o7];cases h2:U6 (x8 x.2.1.1 y.2.1.1) (x8 x.2.1.2 y.2.1.2)
  .rfl
  cases h3:U6 (x8 x.2.2.1.1 y.2.2.1.1) (x8 x.2.2.1.2 y.2.2.1.2)
  .rfl
  simp only[vK,Y5]at h2 h3;rw[o7,o7,xK];intro h4;exact e (aZ e1 (aZ (aZ h2.1 h2.2) (aZ (aZ h3.1 h3.2) h4)))
def Jv(s:D7):d5X×Int×List gu×List gu:=(s.1,s.2.1,s.2.2.1,s.2.2.2.1)
theorem a3b{x:D7}(y:D7)(h1:x.2.2.1.length<=1000000)(h2:x.2.2.2.1.length<=1000000):yF x y=some (eqB (Jv x) (Jv y)):=by
 unfold yF;rw[Zc y.2.2.1 h1,o8,Zc y.2.2.2.1 h2,o8];have key:Jv x=Jv y↔(x.1=y.1/\x.2.1=y.2.1/\x.2.2.1=y.2.2.1/\x.2.2.2.1=y.2.2.2.1):=by unfold Jv;simp only[bQ]
 by_cases e1:x.1=y.1
 case neg=>rw[NJ.2 e1,o6,xK (λh=>e1 (key.1 h).1)]
 by_cases e2:x.2.1=y.2.1
 case neg=>rw[gz.2 e1,o7,J8 e2,o6,xK (λh=>e2 (key.1 h).2.1)]
 by_cases e3:x.2.2.1=y.2.2.1
 case neg=>rw[gz.2 e1,o7,O0 e2,o7,xK e3,o6,xK (λh=>e3 (key.1 h).2.2.1)]
 rw[gz.2 e1,o7,O0 e2,o7,Dt e3,o7];congr 1;exact Ll ⟨λh=>key.2 ⟨e1,e2,e3,h⟩,λh=>(key.1 h).2.2.2⟩
noncomputable def siS (a b:U4):Bool:=eqB a.1 b.1&&(eqB a.2.1 b.2.1&&eqB (a.2.2.map Jv) (b.2.2.map Jv))
variable {a:U4}
theorem Wv(b:U4)(hA:SmL a)(hT:∀t∈a.2.1,pY t)(hv:(ja a).1=0):sS a b=some (siS a b):=by
 have hf:=hA.few;unfold sS;have h1:bn a.1 b.1 ()=some (eqB a.1 b.1):=by
  unfold bn;rw[←zM];refine MP (λx=>x) (λ(x y:gI)=>eqB x y) (λx y=>zK) (by have:=hf.1;omega) (λi x y hx hy=>?_) ?_
  .have:=V_ hv x (iZ hx);simp only[G9 hx,o7,E8,hx,hy,o8,a5C y (show x.2.length<=1000000 by omega)]
  .simp only[G6];rfl
 have h2:aP a.2.1 b.2.1 ()=some (eqB a.2.1 b.2.1):=by
  unfold aP;rw[←zM];refine MP (λx=>x) (λ(x y:dC)=>eqB x y) (λx y=>zK) (by have:=hf.2.1;omega) (λi x y hx hy=>?_) ?_
  .have:=(hT x (iZ hx)).1;simp only[G9 hx,o7,E8,hx,hy,o8,a3c y (show x.2.2.2.length<=1000000 by omega)]
  .simp only[G6];rfl
 have h3:aO a.2.2 b.2.2 ()=some (eqB (a.2.2.map Jv) (b.2.2.map Jv)):=by
  unfold aO;refine MP Jv (λ(x y:D7)=>eqB (Jv x) (Jv y)) (λx y=>zK) (by have:=hf.2.2;omega) (λi x y hx hy=>?_) ?_
  .have hS:=hA.sc x (iZ hx);have hni:=hS.ni;have hnd:=hS.nd;simp only[G9 hx,o7,E8,hx,hy,o8,a3b y (show x.2.2.1.length<=1000000 by omega) (show x.2.2.2.1.length<=1000000 by omega)]
  .simp only[G6];rfl
 rw[h1,o8,h2,o8,h3,o8];unfold siS;cases eqB a.1 b.1<;>cases eqB a.2.1 b.2.1<;>rfl
def a2a(s:D7)(d:Int):d5X:=match G8 s.2.2.2.1 d with|some f=>f.1|none=>[]
def a4Y(s:D7)(d:Int):d5X:=match G8 s.2.2.2.2 d with|some f=>f.1|none=>[]
def prS(s:D7)(r:aC):qx:=(a2a s r.2.1,a4Y s r.2.2.1,r.2.2.2.1,r.2.2.2.2.1,r.2.2.2.2.2.2.2)
theorem Zt{l:List α}(h0:J6 0 d=true)(h1:D8 d (o9 l)=true):∃x,G8 l d=some x:=by
 rw[pO]at h0;rw[jX]at h1;simp only[o9]at h1;refine⟨l[d.toNat]'l9,?_⟩;unfold G8
 rw[if_pos h0,fH]
theorem Ob(s:D7)(r:aC):oQ s r=some (prS s r):=by
 unfold oQ;have h1:(l7 (J6 0 r.2.1) (l7 (D8 r.2.1 (o9 s.2.2.2.1)) (o5 (G8 s.2.2.2.1 r.2.1) λ(x:gu)=>some ((x.1,[],r.2.2.2.1,r.2.2.2.2.1,r.2.2.2.2.2.2.2):qx))
   (some ([],[],r.2.2.2.1,r.2.2.2.2.1,r.2.2.2.2.2.2.2))) (some ([],[],r.2.2.2.1,r.2.2.2.2.1,r.2.2.2.2.2.2.2)))=some ((a2a s r.2.1,[],r.2.2.2.1,r.2.2.2.2.1,r.2.2.2.2.2.2.2):qx):=by
  unfold a2a;cases h0:J6 0 r.2.1
  .rw[kD (.inl h0)];rfl
  cases h1:D8 r.2.1 (o9 s.2.2.2.1)
  .rw[kD (.inr h1)];rfl
  obtain⟨x,hx⟩:=Zt h0 h1;rw[hx];rfl
 rw[h1,o8];unfold prS a4Y;cases h0:J6 0 r.2.2.1
 .rw[kD (.inl h0)];rfl
 cases h1:D8 r.2.2.1 (o9 s.2.2.2.2)
 .rw[kD (.inr h1)];rfl
 obtain⟨x,hx⟩:=Zt h0 h1;rw[hx];rfl
abbrev trS(s:D7)(p:aC):qx×List I9×List I9:=(prS s p,p.2.2.2.2.2.1,p.2.2.2.2.2.2.1)
noncomputable def srS (s:D7) (p:aC) (t:D7) (q:aC):Bool:=eqB (trS s p) (trS t q)
theorem a5D{s t:D7}{i j:Int}{p q:aC}(hp:G8 s.2.2.2.2 i=some p)(hq:G8 t.2.2.2.2 j=some q)(h1:p.2.2.2.2.2.1.length<=1000000)(h2:p.2.2.2.2.2.2.1.length<=1000000):
  zW s i t j=some (srS s p t q):=by
 unfold zW;rw[hp,o8,hq,o8,Ob,o8,Ob,o8,a0N q.2.2.2.2.2.1 h1,o8,a0N q.2.2.2.2.2.2.1 h2,o8];unfold srS trS;generalize prS s p=x;generalize prS t q=y;have hb:U6 (seq x.1 y.1) (U6 (seq x.2.1 y.2.1) (U6 (x8 x.2.2.1 y.2.2.1) (U6 (x8 x.2.2.2.1.1 y.2.2.2.1.1) (U6 (x8 x.2.2.2.1.2 y.2.2.2.1.2) (seq x.2.2.2.2 y.2.2.2.2)))))=eqB x y:=by rw[gK];simp only[vK,Y5,gz,zK,kQ,and_assoc]
 rw[hb];have key:(x,p.2.2.2.2.2.1,p.2.2.2.2.2.2.1)=(y,q.2.2.2.2.2.1,q.2.2.2.2.2.2.1)↔(x=y/\p.2.2.2.2.2.1=q.2.2.2.2.2.1/\p.2.2.2.2.2.2.1=q.2.2.2.2.2.2.1):=by simp only[bQ]
 by_cases e:x=y
 case neg=>rw[xK e,o6,xK (λh=>e (key.1 h).1)]
 by_cases e2:p.2.2.2.2.2.1=q.2.2.2.2.2.1
 case neg=>rw[Dt e,o7,xK e2,o6,xK (λh=>e2 (key.1 h).2.1)]
 rw[Dt e,o7,Dt e2,o7];congr 1;exact Ll ⟨λh=>key.2 ⟨e,e2,h⟩,λh=>(key.1 h).2.2⟩
theorem EO{α:Type}{p:α->Bool} :∀{l:List α} {k:Nat} {a:α} {i:Int},sZ p l k=some (a,i)->∃j:Nat,l[j]? =some a/\i=((k+j:Nat):Int)/\p a=true/\∀j' b,j' <j->l[j']? =some b->p b=false
 |[],_,_,_,h=>by cases h|b::r,k,a,i,h=>by
  unfold sZ at h;cases hp:p b<;>rw[hp]at h
  .simp only[o6]at h;obtain⟨j,h1,h2,h3,h4⟩:=EO h;refine⟨j+1,by simpa using h1,by rw[h2];congr 1;omega,h3,λj' c hj hc=>?_⟩;cases j' with
   |zero=>simp at hc;subst hc;exact hp|succ j' =>exact h4 j' c l9 (by simpa using hc)
  .simp only[o7,F9,bQ]at h;obtain⟨rfl,rfl⟩:=h;exact⟨0,rfl,rfl,hp,λj' c hj=>by omega⟩
theorem WX{α:Type}{p:α->Bool} :∀{l:List α} {k:Nat},sZ p l k=none->∀a∈l,p a=false
 |[],_,_,_,h=>by cases h|b::r,k,h,a,ha=>by
  unfold sZ at h;cases hp:p b<;>rw[hp]at h
  .rcases D5.1 ha with rfl|ha
   .exact hp
   .exact WX (show sZ p r (k+1)=none from h) a ha
  .cases h
theorem a7B{n:d5X}{i:Int}(h:NE s n=some (r,i)):G8 s.2.2.2.2 i=some r/\r.1=n/\r∈s.2.2.2.2:=by obtain⟨j,h1,h2,h3,_⟩:=EO h;refine⟨by rw[h2,bP,E8];exact h1,(gz.1 h3).symm,iZ h1⟩
theorem a5E{n:d5X}{i:Int}(h:BU l n=some (s,i)):s.1=n/\s∈l.2.2:=by obtain⟨j,h1,h2,h3,_⟩:=EO h;exact⟨(gz.1 h3).symm,iZ h1⟩
def cpR(l:U4)(sn rn:d5X):Option (D7×aC):=match BU l sn with
 |none=>none
 |some x=>(NE x.1 rn).map λy=>(x.1,y.1)
theorem Qv(l:U4)(sn rn:d5X):(cpR l sn rn=none/\(cpS l sn rn).2.2=false)\/∃t q j,cpR l sn rn=some (t,q)/\cpS l sn rn=(t,j,true)/\G8 t.2.2.2.2 j=some q/\t∈l.2.2/\t.1=sn/\q∈t.2.2.2.2/\q.1=rn:=by
 unfold cpR cpS;cases hs:BU l sn with
 |none=>exact .inl ⟨rfl,rfl⟩|some x=>
  obtain⟨t,i⟩:=x;obtain⟨h1,h2⟩:=a5E hs;simp only;cases hr:NE t rn with
  |none=>exact .inl ⟨rfl,rfl⟩|some y=>obtain⟨q,j⟩:=y;obtain⟨h3,h4,h5⟩:=a7B hr;exact .inr ⟨t,q,j,rfl,rfl,h3,h2,h1,h5,h4⟩
noncomputable def GI (b:U4) (s:D7) (r:aC):List aS:=match cpR b s.1 r.1 with
 |none=>[(s.1,r.1,1)]|some x=>l7 (srS s r x.1 x.2) [] [(s.1,r.1,3)]
def MC(a:U4)(s:D7)(r:aC):List aS:=match cpR a s.1 r.1 with
 |none=>[(s.1,r.1,2)]|some _=>[]
noncomputable def XP (a b:U4):List aS:=(a.2.2.flatMap λs=>s.2.2.2.2.flatMap (GI b s))++b.2.2.flatMap λs=>s.2.2.2.2.flatMap (MC a s)
theorem tK{α β:Type}(g:α->List β):∀(l:List α) (b:List β),l.foldl (λacc x=>acc++g x) b=b++l.flatMap g
 |[],b=>by simp|a::l,b=>by rw[J9,tK g l,qP,F8]
theorem Jl(b:U4)(s:D7)(r:aC):(GI b s r).length<=1:=by
 unfold GI;split
 .exact F5 _
 .cases srS s r _ _<;>simp[l7]
theorem Oz(b:U4)(s:D7)(r:aC):(MC b s r).length<=1:=by unfold MC;split<;>simp
theorem qy{α β:Type}(g:α->List β)(m:Nat):∀{l:List α},(∀a∈l,(g a).length<=m)->(l.flatMap g).length<=m*l.length
 |[],_=>by simp
 |a::l,h=>by have h1:=qy g m (l:=l) λx hx=>h x (by simp[hx]);have h2:=h a A7;rw[qP,E5,H5,Nat.mul_add];omega
theorem CS{xs ys:List α}(h:xs.length+ys.length<=1073741824):bz xs ys=some (xs++ys):=by unfold bz;rw[if_pos h]
variable {b:U4}
theorem XO(hA:SmL a)(hB:SmL b):uq a b=some (XP a b):=by
 obtain⟨XA,hXA,iA⟩:=Xi hA;obtain⟨XB,hXB,iB⟩:=Xi hB;have fA:=hA.fs;have fB:=hB.fs;unfold uq XP;rw[hXA,o8,hXB,o8];have e0:=tK (λs:D7=>s.2.2.2.2.flatMap (GI b s)) a.2.2 [];rw[H8]at e0;have hlen:(a.2.2.flatMap λs=>s.2.2.2.2.flatMap (GI b s)).length<=96*a.2.2.length:=qy _ 96 λs hs=>by have:=qy (GI b s) 1 (l:=s.2.2.2.2) (λr _=>Jl b s r);have h2:=(hA.sc s hs).nr;omega
 refine aK a.2.2 (λ(acc:List aS) s=>acc++s.2.2.2.2.flatMap (GI b s)) (λb i=>(b,i)) (λb=>b) (λi acc=>acc.length<=96*i) [] l9 A7 (λi s acc hs hi hI=>?_) (λacc hI=>?_) (λ_=>?_)
 .have hS:=hA.sc s (iZ hs);have hlt:=(X0.1 hs).1;have hn:=hS.nr;have hl1:=qy (GI b s) 1 (l:=s.2.2.2.2) (λr _=>Jl b s r);refine⟨?_,by rw[E5];omega⟩;simp only[G9 hs,o7,E8,hs,o8];have e1:=tK (GI b s) s.2.2.2.2 acc;refine aK s.2.2.2.2 (λ(acc:List aS) r=>acc++GI b s r) (λb i=>(b,i)) (λb=>b) (λj c=>c.length<=96*i+j) acc l9 l9 (λj r c hr hj hJ=>?_) (λc hJ=>?_) (λ_=>?_)
  .have hjl:=(X0.1 hr).1;obtain⟨_,g1,g2⟩:=hS.ro r (iZ hr);have hrl:=Jl b s r;refine⟨?_,by rw[E5];omega⟩;simp only[G9 hr,o7,E8,hr,o8,OM iB];have e2:=Y1 (show j<=9000000000000000000 by omega);rcases Qv b s.1 r.1 with⟨q1,q2⟩|⟨t,q,k,q1,q2,q3,q4,q5,q6,q7⟩
   .rw[q2];unfold GI;rw[q1];simp only[aJ,o7];rw[CS X5,o8,e2]
   .rw[q2];have hsr:=a5D (s:=s) (t:=t) (i:=(j:Int)) (j:=k) (p:=r) (q:=q) (by rw[E8];exact hr) q3 l9 l9;simp only[D9,o6,hsr,o8];unfold GI;rw[q1];simp only;cases srS s r t q
    .simp only[aJ,o7,o6];rw[CS X5,o8,e2]
    .simp only[D9,o7,o6,G5,e2]
  .simp only[G6];rfl
  .rw[e1];simp only[Y1 (show i<=9000000000000000000 by omega)]
 .simp only[G6];rfl
 rw[e0];generalize (a.2.2.flatMap λs=>s.2.2.2.2.flatMap (GI b s))=base at*;have e3:=tK (λs:D7=>s.2.2.2.2.flatMap (MC a s)) b.2.2 base;refine aK b.2.2 (λ(acc:List aS) s=>acc++s.2.2.2.2.flatMap (MC a s)) (λb i=>(b,i)) (λb=>b) (λi acc=>acc.length<=96000+96*i) base l9 l9 (λi s acc hs hi hI=>?_) (λacc hI=>?_) (λ_=>by rw[e3])
 .have hS:=hB.sc s (iZ hs);have hlt:=(X0.1 hs).1;have hn:=hS.nr;have hl1:=qy (MC a s) 1 (l:=s.2.2.2.2) (λr _=>Oz a s r);refine⟨?_,by rw[E5];omega⟩;simp only[G9 hs,o7,E8,hs,o8];have e1:=tK (MC a s) s.2.2.2.2 acc;refine aK s.2.2.2.2 (λ(acc:List aS) r=>acc++MC a s r) (λb i=>(b,i)) (λb=>b) (λj c=>c.length<=96000+96*i+j) acc l9 l9 (λj r c hr hj hJ=>?_) (λc hJ=>?_) (λ_=>?_)
  .have hjl:=(X0.1 hr).1;have hrl:=Oz a s r;refine⟨?_,by rw[E5];omega⟩;simp only[G9 hr,o7,E8,hr,o8,OM iA];have e2:=Y1 (show j<=9000000000000000000 by omega);rcases Qv a s.1 r.1 with⟨q1,q2⟩|⟨t,q,k,q1,q2,q3,q4,q5,q6,q7⟩
   .rw[q2];unfold MC;rw[q1];simp only[aJ,o7];rw[CS X5,o8,e2]
   .rw[q2];unfold MC;rw[q1];simp only[D9,o6,G5,e2]
  .simp only[G6];rfl
  .rw[e1];simp only[Y1 (show i<=9000000000000000000 by omega)]
 .simp only[G6];rfl
abbrev eqN:dK->dK->Bool:=λa b=>U6 (seq a.1 b.1) (seq a.2 b.2)
abbrev a3E:=List (dK×Bool)
def edS(l:U4)(k:Int)(c:fM)(d:Int):V3×Int×E4:=if(Rh l k c true d).1=0 then(match G8 l.2.2 k with|some s=>b0A l s c d|none=>((0,0,0),0,0,0,0,0))else((0,0,0),0,Rh l k c true d)
theorem b7J(h:(edS l k c d).2.2.1≠0):(edS l k c d).1=(0,0,0):=by
 unfold edS at h ⊢;split
 .rename_i hA;rw[if_pos hA]at h;cases hs:G8 l.2.2 k with
  |none=>rfl|some s=>
   rw[hs]at h;simp only at h ⊢;unfold b0A at h ⊢;revert h;generalize a0g l s c (Rk s (EL s.2.2.2.1.length) d) (SQ (bY l s) (EL (bY l s).2.2.2.1.length) (mbS s d))=z;intro h;cases z with
   |inl x=>exact absurd (show(0:Int)=0 from rfl) h|inr e=>rfl
 .rfl
def evS(l:U4)(k:Int)(c:fM)(d:Int):V3×Int:=l7 (D6 (x8 (edS l k c d).2.2.1 0)) ((0,0,0),(edS l k c d).2.2.1) ((edS l k c d).1,0)
theorem b2P(l:U4)(k:Int)(c:fM)(d:Int):evS l k c d=((edS l k c d).1,(edS l k c d).2.2.1):=by
 unfold evS;by_cases h:(edS l k c d).2.2.1=0
 .rw[O0 h,h];rfl
 .rw[J8 h,b7J h];rfl
theorem TZ(hL:SmL l)(hC:SmC c)(hT:∀t∈l.2.1,pY t):xM l k c d=some (evS l k c d):=by unfold xM evS;rw[a6G hL hC hT,o8];show l7 (D6 (x8 (edS l k c d).2.2.1 0)) (some ((0,0,0),(edS l k c d).2.2.1)) (some ((edS l k c d).1,0))=_;cases D6 (x8 (edS l k c d).2.2.1 0)<;>rfl
abbrev zI:W9:=((0,0,0),(0,0,0),0,0,[])
def b7u(e:Int×Int×Int×Int):Bool:=U6 (x8 e.1 0) (U6 (x8 e.2.1 0) (U6 (x8 e.2.2.1 0) (x8 e.2.2.2 0)))
theorem a4h{n:Nat}{p:Nat->Option (Int×Int×Int×Int)}(hp:∀i r,p i=some r->r.1≠0):(match Z7 n p with|some r=>r|none=>((0,0,0,0):Int×Int×Int×Int)).1=0->(match Z7 n p with|some r=>r|none=>((0,0,0,0):Int×Int×Int×Int))=(0,0,0,0):=by
 cases h:Z7 n p with
 |none=>exact λ_=>rfl
 |some r=>obtain⟨i,_,hi⟩:=jv h;exact λe=>absurd e (hp i r hi)
theorem XK(l:U4):b7u (ja l)=x8 (ja l).1 0:=by
 have key:(ja l).1=0->ja l=(0,0,0,0):=by
  unfold ja;cases h1:x8 (KG l).1 0
  .simp only[o6];exact λh=>absurd h (AA.1 h1)
  simp only[o7];cases h2:x8 (Ky l).1 0
  .simp only[o6];exact λh=>absurd h (AA.1 h2)
  simp only[o7];unfold QV;cases D8 4 (o9 l.2.2)
  .simp only[o6];refine a4h λi r h=>?_;unfold Jq at h;split at h
   .exact Qz h
   .cases h
  .simp only[o7];exact λh=>absurd h J5
 by_cases h:(ja l).1=0
 .rw[key h];rfl
 .unfold b7u;rw[J8 h];rfl
def b8v(a:U4)(k d:Int):Bool:=l7 (D8 k 0) false (l7 (J6 (o9 a.2.2) k) false (l7 (D8 d 0) false (match G8 a.2.2 k with|some s=>D6 (J6 (o9 s.2.2.2.1) d)|none=>false)))
theorem Uc{α:Type}(p:α->Bool):∀(l b:List α),l.foldl (λacc x=>l7 (p x) (acc++[x]) acc) b=b++l.filter p
 |[],b=>by simp|a::l,b=>by rw[J9,Uc p l,dF];cases p a<;>simp[l7]
theorem b2D(hA:SmL a)(hB:SmL b):(XP a b).length<=120000:=by
 unfold XP;have h1:(a.2.2.flatMap λs=>s.2.2.2.2.flatMap (GI b s)).length<=96*a.2.2.length:=qy _ 96 λs hs=>by have:=qy (GI b s) 1 (l:=s.2.2.2.2) (λr _=>Jl b s r);have h2:=(hA.sc s hs).nr;omega
 have h2:(b.2.2.flatMap λs=>s.2.2.2.2.flatMap (MC a s)).length<=96*b.2.2.length:=qy _ 96 λs hs=>by have:=qy (MC a s) 1 (l:=s.2.2.2.2) (λr _=>Oz a s r);have h2:=(hB.sc s hs).nr;omega
 have fA:=hA.fs;have fB:=hB.fs;rw[E5];omega
theorem b4R(h:b8v a k d=true):∃s,G8 a.2.2 k=some s/\0<=d/\d<nD s:=by
 unfold b8v at h;cases h1:D8 k 0<;>rw[h1]at h
 case true=>cases h
 cases h2:J6 (o9 a.2.2) k<;>rw[h2]at h
 case true=>cases h
 cases h3:D8 d 0<;>rw[h3]at h
 case true=>cases h
 simp only[o6]at h;cases hs:G8 a.2.2 k with
 |none=>rw[hs]at h;cases h|some s=>
  rw[hs]at h;simp only at h;refine⟨s,rfl,iE.1 h3,?_⟩;cases h4:J6 (o9 s.2.2.2.1) d<;>rw[h4]at h
  .exact Gw.1 h4
  .cases h
theorem b5K(h:siS a b=true)(hs:G8 a.2.2 k=some s):∃t,G8 b.2.2 k=some t/\Jv s=Jv t:=by
 unfold siS at h;simp only[A8,zK]at h;have h3:=h.2.2;obtain⟨h0,h1,_,h2⟩:=pV hs;have e:=congrArg (λl=>l[k.toNat]?) h3;simp only[fO,h2,aN]at e;cases ht:b.2.2[k.toNat]? with
 |none=>rw[ht]at e;cases e|some t=>
  rw[ht]at e;simp only[aN,F9]at e;refine⟨t,?_,e⟩;unfold G8
  rw[if_pos h0,ht]
def icS(i:W9):Bool:=l7 (x8 i.2.2.1 0) (l7 (x8 i.2.2.2.1 0) (D6 (U6 (x8 i.1.1 i.2.1.1) (U6 (x8 i.1.2.1 i.2.1.2.1) (x8 i.1.2.2 i.2.1.2.2)))) true) (x8 i.2.2.2.1 0)
theorem a2n(i:W9):rq i=some (icS i):=by unfold rq icS;cases x8 i.2.2.1 0<;>cases x8 i.2.2.2.1 0<;>rfl
theorem a0t(i:W9):BP i=some (icS i):=by unfold BP icS;cases x8 i.2.2.1 0<;>cases x8 i.2.2.2.1 0<;>rfl
theorem JH(g:α->β)(q:α->α->Bool)(hq:∀x y,q x y=true↔g x=g y){a b:List α}(hl:a.length<=1000000){f:Int->Option (Out Int PUnit Bool)}
  (hin:∀(i:Nat) x y,a[i]? =some x->b[i]? =some y->f (i:Int)=l7 (D8 (i:Int) (o9 a)) (l7 (D8 (i:Int) (o9 b)) (l7 (D6 (q x y)) (some (.rt false)) (some (.nx (x9 .i64 (i:Int) 1)))) (some (.ex PUnit.unit))) (some (.ex PUnit.unit))) (hend:f (a.length:Int)=some (.ex PUnit.unit)):
  (l7 (D6 (x8 (o9 a) (o9 b))) (some false) (o5 (U0 f 0) λo=>V5 o (λ_=>some true) λr=>some r))=some (eqB (a.map g) (b.map g)):=
 MP g q hq hl (λi x y hx hy=>by rw[hin i x y hx hy,G9 hx,o7,G9 hy,o7]) hend
theorem a5B{a:List d5X}(b:List d5X)(h:a.length<=1000000):Il a b=some (eqB a b):=by
 unfold Il;rw[←zM];refine JH (λx=>x) (λx y=>seq x y) (λx y=>gz) h (λi x y hx hy=>?_) ?_
 .simp only[E8,hx,hy,o8]
 .simp only[G6];rfl
theorem b5C{a:List xH}(b:List xH)(h:a.length<=1000000):QT a b=some (eqB a b):=by
 unfold QT;rw[←zM];refine JH (λx=>x) (λ(x y:xH)=>U6 (x8 x.1.1 y.1.1) (U6 (x8 x.1.2 y.1.2) (U6 (x8 x.2.1 y.2.1) (U6 (x8 x.2.2.1 y.2.2.1) (x8 x.2.2.2 y.2.2.2)))))
  (λx y=>by simp only[vK,Y5,kQ,and_assoc]) h (λi x y hx hy=>?_) ?_
 .simp only[E8,hx,hy,o8]
 .simp only[G6];rfl
theorem B_{a:List gu}(b:List gu)(h:a.length<=1000000):zx a b=some (eqB a b):=by
 unfold zx;rw[←zM];refine JH (λx=>x) (λ(x y:gu)=>U6 (seq x.1 y.1) (U6 (x8 x.2.1 y.2.1) (x8 x.2.2 y.2.2)))
  (λx y=>by simp only[vK,Y5,gz,kQ]) h (λi x y hx hy=>?_) ?_
 .simp only[E8,hx,hy,o8]
 .simp only[G6];rfl
theorem a1C{a:List I9}(b:List I9)(h:a.length<=1000000):Jp a b=some (eqB a b):=by
 unfold Jp;rw[←zM];refine JH (λx=>x) (λ(x y:I9)=>U6 (x8 x.1 y.1) (x8 x.2 y.2))
  (λx y=>by simp only[vK,Y5,kQ]) h (λi x y hx hy=>?_) ?_
 .simp only[E8,hx,hy,o8]
 .simp only[G6];rfl
theorem b5A{x:gI}(y:gI)(h:x.2.length<=1000000):QS x y=some (eqB x y):=by
 unfold QS;rw[a5B y.2 h,o8];by_cases e:x.1=y.1
 .rw[gz.2 e,o7];congr 1;exact Ll ⟨λh=>aZ e h,λh=>by rw[h]⟩
 .rw[NJ.2 e,o6,xK (λh=>e (by rw[h]))]
theorem b1O{x:dC}(y:dC)(h:x.2.2.2.length<=1000000):NH x y=some (eqB x y):=by
 unfold NH;rw[b5C y.2.2.2 h,o8];by_cases e:x=y
 .subst e;rw[gz.2 rfl,O0 rfl,O0 rfl,O0 rfl,O0 rfl,Dt rfl,Dt rfl];rfl
 .rw[xK e];by_cases e1:x.1=y.1
  case neg=>rw[NJ.2 e1];rfl
  rw[gz.2 e1,o7];cases h2:U6 (x8 x.2.1.1 y.2.1.1) (x8 x.2.1.2 y.2.1.2)
  .rfl
  cases h3:U6 (x8 x.2.2.1.1 y.2.2.1.1) (x8 x.2.2.1.2 y.2.2.1.2)
  .rfl
  simp only[vK,Y5]at h2 h3;rw[o7,o7,xK];intro h4;exact e (aZ e1 (aZ (aZ h2.1 h2.2) (aZ (aZ h3.1 h3.2) h4)))
theorem UK(b:U4)(hA:SmL a)(hT:∀t∈a.2.1,pY t)(hv:(ja a).1=0):vG a b=some (siS a b):=by
 have hf:=hA.few;have h1:NG a.1 b.1=some (eqB a.1 b.1):=by
  unfold NG;rw[←zM];refine JH (λx=>x) (λ(x y:gI)=>eqB x y) (λx y=>zK) (by have:=hf.1;omega) (λi x y hx hy=>?_) ?_
  .have:=V_ hv x (iZ hx);simp only[E8,hx,hy,o8,b5A y (show x.2.length<=1000000 by omega)]
  .simp only[G6];rfl
 have h2:Kt a.2.1 b.2.1=some (eqB a.2.1 b.2.1):=by
  unfold Kt;rw[←zM];refine JH (λx=>x) (λ(x y:dC)=>eqB x y) (λx y=>zK) (by have:=hf.2.1;omega) (λi x y hx hy=>?_) ?_
  .have:=(hT x (iZ hx)).1;simp only[E8,hx,hy,o8,b1O y (show x.2.2.2.length<=1000000 by omega)]
  .simp only[G6];rfl
 have h3:=MP (f:=λ(x:Int)=>
      l7 (D8 x (o9 a.2.2))
       (o5 (G8 a.2.2 x) λ(x_1:D7)=>
        o5 (G8 b.2.2 x) λ(x_2:D7)=>
         l7 (D6 (seq x_1.1 x_2.1)) (some (Out.rt false))
          (l7 (D6 (x8 x_1.2.1 x_2.2.1)) (some (Out.rt false))
           (o5 (zx x_1.2.2.1 x_2.2.2.1) λ(x_3:Bool)=>
            l7 (D6 x_3) (some (Out.rt false))
             (o5 (zx x_1.2.2.2.1 x_2.2.2.2.1) λ(x_4:Bool)=>
              l7 (D6 x_4) (some (Out.rt false)) (some (Out.nx (x9 IntKind.i64 x 1)))))))
       (some (Out.ex PUnit.unit))) (a:=a.2.2) (b:=b.2.2) Jv (λ(x y:D7)=>eqB (Jv x) (Jv y)) (λx y=>zK) (by have:=hf.2.2;omega) (λi x y hx hy=>by
  have hS:=hA.sc x (iZ hx);have hni:=hS.ni;have hnd:=hS.nd;simp only[G9 hx,o7,E8,hx,hy,o8,B_ y.2.2.1 (show x.2.2.1.length<=1000000 by omega),B_ y.2.2.2.1 (show x.2.2.2.1.length<=1000000 by omega)];have key:Jv x=Jv y↔(x.1=y.1/\x.2.1=y.2.1/\x.2.2.1=y.2.2.1/\x.2.2.2.1=y.2.2.2.1):=by unfold Jv;simp only[bQ]
  by_cases e1:x.1=y.1
  case neg=>rw[NJ.2 e1,xK (λh=>e1 (key.1 h).1)];rfl
  by_cases e2:x.2.1=y.2.1
  case neg=>rw[gz.2 e1,J8 e2,xK (λh=>e2 (key.1 h).2.1)];rfl
  by_cases e3:x.2.2.1=y.2.2.1
  case neg=>rw[gz.2 e1,O0 e2,xK e3,xK (λh=>e3 (key.1 h).2.2.1)];rfl
  rw[gz.2 e1,O0 e2,Dt e3,Ll (show x.2.2.2.1=y.2.2.2.1↔Jv x=Jv y from⟨λh=>key.2 ⟨e1,e2,e3,h⟩,λh=>(key.1 h).2.2.2⟩)];rfl) (by simp only[G6];rfl)
 unfold vG siS;rw[h1,o8,h2,o8];cases eqB a.1 b.1
 .rfl
 cases eqB a.2.1 b.2.1
 .rfl
 simp only[D9,o6,ik];cases hl:x8 (o9 a.2.2) (o9 b.2.2)
 .rw[hl]at h3;simp only[aJ,o7]at h3;simp only[aJ,o7,o8,wP];exact h3
 .rw[hl]at h3;simp only[D9,o6]at h3;simp only[D9,o6,o8,J7];exact h3
def b1m(o:Option (α×Int)):Int:=match o with|some x=>x.2|none=>-1
theorem a8Y{l:List α}(hl:l.length<=1000000)(p:α->Bool){f:Int->Option (Out Int PUnit Int)} (hin:∀(i:Nat) x,l[i]? =some x->f (i:Int)=l7 (p x) (some (.rt (i:Int))) (some (.nx (x9 .i64 (i:Int) 1)))) (hend:f (l.length:Int)=some (.ex PUnit.unit)):
  (o5 (U0 f 0) λ(o:PUnit⊕Int)=>V5 o (λ(_:PUnit)=>some (-1)) λ(r:Int)=>some r)=some (b1m (sZ p l 0)):=by
 have key:=rf (p:=λi=>match l[i]? with|some x=>l7 (p x) (some (i:Int)) none|none=>none) l.length hl PUnit.unit (f:=f) (λi hi=>by have hx:=fH hi;rw[hin i _ hx,hx];simp only;cases p l[i]<;>rfl) hend
 rw[key];cases hf:sZ p l 0 with
 |some x=>
  obtain⟨j,h1,h2,h3,h4⟩:=EO (a:=x.1) (i:=x.2) hf;have hj:=(X0.1 h1).1;have:Z7 l.length (λi=>match l[i]? with|some x=>l7 (p x) (some (i:Int)) none|none=>none)=some (j:Int):=by
   unfold Z7;rw[List.findSome?_eq_some_iff];refine⟨List.range j,j,(List.range (l.length -j -1)).map (λi=>j+1+i),?_,by rw[h1];simp only[h3,o7],λi hi=>?_⟩
   .apply kW
    .simp;omega
    .intro n g1 g2;simp only[List.getElem_range];rcases Nat.lt_trichotomy n j with h|h|h
     .rw[oP (by simpa using h)];simp
     .subst h;rw[List.getElem_append_right A7];simp
     .rw[List.getElem_append_right X5,List.getElem_cons];simp only[gQ];rw[dif_neg l9];simp;omega
   .have hij:i<j:=by simpa using hi
    have hx:=fH (show i<l.length by omega);rw[hx];simp only[h4 i _ hij hx,o6]
  rw[this];simp only[o8,wP,b1m];rw[h2];congr 1;omega
 |none=>
  have hn:=WX hf;have:Z7 l.length (λi=>match l[i]? with|some x=>l7 (p x) (some (i:Int)) none|none=>none)=none:=by unfold Z7;rw[jI];intro i hi;have hx:=fH (show i<l.length by simpa using hi);rw[hx];simp only[hn _ (N7 _),o6]
  rw[this];rfl
theorem Ub{p q:α->Bool}(h:∀a,p a=q a)(l:List α)(k:Nat):sZ p l k=sZ q l k:=by rw[show p=q from funext h]
theorem a5n(hl:l.2.2.length<=1000000)(n:d5X):FM l n=some (b1m (BU l n)):=by
 unfold FM BU;rw[Ub (α:=D7) (λs=>Qc n s.1)];refine a8Y hl (λ(s:D7)=>seq s.1 n) (λi x hx=>?_) ?_
 .simp only[G9 hx,o7,E8,hx,o8]
 .simp only[G6];rfl
theorem a7u(hl:s.2.2.2.2.length<=1000000)(n:d5X):Ie s n=some (b1m (NE s n)):=by
 unfold Ie NE;rw[Ub (α:=aC) (λr=>Qc n r.1)];refine a8Y hl (λ(r:aC)=>seq r.1 n) (λi x hx=>?_) ?_
 .simp only[G9 hx,o7,E8,hx,o8]
 .simp only[G6];rfl
theorem Oc(hL:SmL l)(sn rn:d5X):uB l sn rn=some (cpS l sn rn):=by
 have hf:=hL.few.2.2;unfold uB cpS;rw[a5n l9,o8];cases hs:BU l sn with
 |none=>rfl|some x=>
  obtain⟨s,i⟩:=x;obtain⟨j,h1,h2,h3,_⟩:=EO hs;have h2:i=(j:Int):=by rw[h2];congr 1;omega
  subst h2;have hS:=hL.sc s (iZ h1);have hn:=hS.nr;simp only[b1m];rw[L8 (show(0:Int)<=(j:Int) by omega),o6,E8,h1,o8,a7u l9,o8];cases hr:NE s rn with
  |none=>rfl|some y=>
   obtain⟨r,k⟩:=y;obtain⟨m,_,g2,_,_⟩:=EO hr;have g2:k=(m:Int):=by rw[g2];congr 1;omega
   subst g2;simp only[b1m];rw[L8 (show(0:Int)<=(m:Int) by omega),o6,o8]
theorem a5e(s:D7)(d:Int):Bf s d=some (a2a s d):=by
 unfold Bf a2a;rw[oG d 0,BA (o9 s.2.2.2.1) d];cases h0:J6 0 d
 .rw[kD (.inl h0)];rfl
 cases h1:D8 d (o9 s.2.2.2.1)
 .rw[kD (.inr h1)];rfl
 obtain⟨x,hx⟩:=Zt h0 h1;rw[hx];rfl
theorem a5j(s:D7)(d:Int):wK s d=some (a4Y s d):=by
 unfold wK a4Y;rw[oG d 0,BA (o9 s.2.2.2.2) d];cases h0:J6 0 d
 .rw[kD (.inl h0)];rfl
 cases h1:D8 d (o9 s.2.2.2.2)
 .rw[kD (.inr h1)];rfl
 obtain⟨x,hx⟩:=Zt h0 h1;rw[hx];rfl
theorem b1r{s t:D7}{i j:Int}{p q:aC}(hp:G8 s.2.2.2.2 i=some p)(hq:G8 t.2.2.2.2 j=some q)(h1:p.2.2.2.2.2.1.length<=1000000)(h2:p.2.2.2.2.2.2.1.length<=1000000):
  JY s i t j=some (srS s p t q):=by
 unfold JY srS;rw[hp,o8,hq,o8];simp only[a5e,a5j,o8,a1C q.2.2.2.2.2.1 h1,a1C q.2.2.2.2.2.2.1 h2];have key:trS s p=trS t q↔(a2a s p.2.1=a2a t q.2.1/\a4Y s p.2.2.1=a4Y t q.2.2.1/\p.2.2.2.1=q.2.2.2.1/\p.2.2.2.2.1=q.2.2.2.2.1/\p.2.2.2.2.2.1=q.2.2.2.2.2.1/\p.2.2.2.2.2.2.1=q.2.2.2.2.2.2.1/\p.2.2.2.2.2.2.2=q.2.2.2.2.2.2.2):=by unfold trS prS;simp only[bQ];exact⟨λ⟨⟨a1,a2,a3,a4,a5⟩,a6,a7⟩=>⟨a1,a2,a3,a4,a6,a7,a5⟩,λ⟨a1,a2,a3,a4,a6,a7,a5⟩=>⟨⟨a1,a2,a3,a4,a5⟩,a6,a7⟩⟩
 have hF:¬trS s p=trS t q->eqB (trS s p) (trS t q)=false:=xK;by_cases e1:a2a s p.2.1=a2a t q.2.1
 case neg=>rw[NJ.2 e1,hF (λh=>e1 (key.1 h).1)];rfl
 by_cases e2:a4Y s p.2.2.1=a4Y t q.2.2.1
 case neg=>rw[gz.2 e1,NJ.2 e2,hF (λh=>e2 (key.1 h).2.1)];rfl
 by_cases e3:p.2.2.2.1=q.2.2.2.1
 case neg=>rw[gz.2 e1,gz.2 e2,J8 e3,hF (λh=>e3 (key.1 h).2.2.1)];rfl
 rw[gz.2 e1,gz.2 e2,O0 e3];simp only[o7];cases h4:U6 (x8 p.2.2.2.2.1.1 q.2.2.2.2.1.1) (x8 p.2.2.2.2.1.2 q.2.2.2.2.1.2)
 .rw[hF (λh=>by
   have e4:=(key.1 h).2.2.2.1;rw[show U6 (x8 p.2.2.2.2.1.1 q.2.2.2.2.1.1) (x8 p.2.2.2.2.1.2 q.2.2.2.2.1.2)=true from vK.2 ⟨O0 (by rw[e4]),O0 (by rw[e4])⟩]at h4;cases h4)]
  rfl
 simp only[vK,Y5]at h4;have e4:p.2.2.2.2.1=q.2.2.2.2.1:=aZ h4.1 h4.2;simp only[o7];by_cases e5:p.2.2.2.2.2.1=q.2.2.2.2.2.1
 case neg=>rw[xK e5,hF (λh=>e5 (key.1 h).2.2.2.2.1)];rfl
 by_cases e6:p.2.2.2.2.2.2.1=q.2.2.2.2.2.2.1
 case neg=>rw[Dt e5,xK e6,hF (λh=>e6 (key.1 h).2.2.2.2.2.1)];rfl
 rw[Dt e5,Dt e6];simp only[o7];congr 1;by_cases e7:p.2.2.2.2.2.2.2=q.2.2.2.2.2.2.2
 .rw[gz.2 e7,Dt (key.2 ⟨e1,e2,e3,e4,e5,e6,e7⟩)]
 .rw[NJ.2 e7,hF (λh=>e7 (key.1 h).2.2.2.2.2.2)]
theorem VV(hA:SmL a)(hB:SmL b):xy a b=some (XP a b):=by
 have fA:=hA.fs;have fB:=hB.fs;unfold xy XP;have e0:=tK (λs:D7=>s.2.2.2.2.flatMap (GI b s)) a.2.2 [];rw[H8]at e0;have hlen:(a.2.2.flatMap λs=>s.2.2.2.2.flatMap (GI b s)).length<=96*a.2.2.length:=qy _ 96 λs hs=>by have:=qy (GI b s) 1 (l:=s.2.2.2.2) (λr _=>Jl b s r);have h2:=(hA.sc s hs).nr;omega
 refine aK a.2.2 (λ(acc:List aS) s=>acc++s.2.2.2.2.flatMap (GI b s)) (λb i=>(b,i)) (λb=>b) (λi acc=>acc.length<=96*i) [] l9 A7 (λi s acc hs hi hI=>?_) (λacc hI=>?_) (λ_=>?_)
 .have hS:=hA.sc s (iZ hs);have hlt:=(X0.1 hs).1;have hn:=hS.nr;have hl1:=qy (GI b s) 1 (l:=s.2.2.2.2) (λr _=>Jl b s r);refine⟨?_,by rw[E5];omega⟩;simp only[G9 hs,o7,E8,hs,o8];have e1:=tK (GI b s) s.2.2.2.2 acc;refine aK s.2.2.2.2 (λ(acc:List aS) r=>acc++GI b s r) (λb i=>(b,i)) (λb=>b) (λj c=>c.length<=96*i+j) acc l9 l9 (λj r c hr hj hJ=>?_) (λc hJ=>?_) (λ_=>?_)
  .have hjl:=(X0.1 hr).1;obtain⟨_,g1,g2⟩:=hS.ro r (iZ hr);have hrl:=Jl b s r;refine⟨?_,by rw[E5];omega⟩;simp only[G9 hr,o7,E8,hr,o8,Oc hB];have e2:=Y1 (show j<=9000000000000000000 by omega);rcases Qv b s.1 r.1 with⟨q1,q2⟩|⟨t,q,k,q1,q2,q3,q4,q5,q6,q7⟩
   .rw[q2];unfold GI;rw[q1];simp only[aJ,o7];rw[CS X5,o8,e2]
   .rw[q2];have hsr:=b1r (s:=s) (t:=t) (i:=(j:Int)) (j:=k) (p:=r) (q:=q) (by rw[E8];exact hr) q3 l9 l9;simp only[D9,o6,hsr,o8];unfold GI;rw[q1];simp only;cases srS s r t q
    .simp only[aJ,o7,o6];rw[CS X5,o8,e2]
    .simp only[D9,o7,o6,G5,e2]
  .simp only[G6];rfl
  .rw[e1];simp only[Y1 (show i<=9000000000000000000 by omega)]
 .simp only[G6];rfl
 rw[e0];generalize (a.2.2.flatMap λs=>s.2.2.2.2.flatMap (GI b s))=base at*;have e3:=tK (λs:D7=>s.2.2.2.2.flatMap (MC a s)) b.2.2 base;refine aK b.2.2 (λ(acc:List aS) s=>acc++s.2.2.2.2.flatMap (MC a s)) (λb i=>(b,i)) (λb=>b) (λi acc=>acc.length<=96000+96*i) base l9 l9 (λi s acc hs hi hI=>?_) (λacc hI=>?_) (λ_=>by rw[e3])
 .have hS:=hB.sc s (iZ hs);have hlt:=(X0.1 hs).1;have hn:=hS.nr;have hl1:=qy (MC a s) 1 (l:=s.2.2.2.2) (λr _=>Oz a s r);refine⟨?_,by rw[E5];omega⟩;simp only[G9 hs,o7,E8,hs,o8];have e1:=tK (MC a s) s.2.2.2.2 acc;refine aK s.2.2.2.2 (λ(acc:List aS) r=>acc++MC a s r) (λb i=>(b,i)) (λb=>b) (λj c=>c.length<=96000+96*i+j) acc l9 l9 (λj r c hr hj hJ=>?_) (λc hJ=>?_) (λ_=>?_)
  .have hjl:=(X0.1 hr).1;have hrl:=Oz a s r;refine⟨?_,by rw[E5];omega⟩;simp only[G9 hr,o7,E8,hr,o8,Oc hA];have e2:=Y1 (show j<=9000000000000000000 by omega);rcases Qv a s.1 r.1 with⟨q1,q2⟩|⟨t,q,k,q1,q2,q3,q4,q5,q6,q7⟩
   .rw[q2];unfold MC;rw[q1];simp only[aJ,o7];rw[CS X5,o8,e2]
   .rw[q2];unfold MC;rw[q1];simp only[D9,o6,G5,e2]
  .simp only[G6];rfl
  .rw[e1];simp only[Y1 (show i<=9000000000000000000 by omega)]
 .simp only[G6];rfl
def a2m(D:d5Y)(x:Int):Bool:=D.any λd=>x8 d x
def dfS(s:D7)(D:d5Y)(n:d5X):Bool:=s.2.2.2.2.any λr=>seq r.1 n&&a2m D r.2.1
theorem a4H(hE:∀a b,eq a b=true↔a=b)(l:List (α×Bool))(k k' :α):sW eq (Gy eq l k true) k' false=(eq k' k || sW eq l k' false):=by have:=(VO hE k true k' l).2 false;show JQ eq (Px eq l k true) k' false=_;rw[this];show l7 (eq k' k) true (JQ eq l k' false)=(eq k' k || JQ eq l k' false);cases eq k' k<;>rfl
theorem b3f(a b:Int):x8 a b=x8 b a:=by
 by_cases h:a=b
 .rw[h]
 .rw[J8 h,J8 (λe=>h e.symm)]
theorem b7K(a b:Int):(λ(a b:Int)=>x8 a b) a b=true↔a=b:=Y5
theorem b7L(a b:dK):eqN a b=true↔a=b:=b5F a b
theorem b4O:∀(D:d5Y) (acc:List (Int×Bool)) (x:Int),sW (λ(a b:Int)=>x8 a b) (D.foldl (λ(acc:List (Int×Bool)) d=>Gy (λ(a b:Int)=>x8 a b) acc d true) acc) x false=(a2m D x || sW (λ(a b:Int)=>x8 a b) acc x false)
 |[],acc,x=>rfl|d::D,acc,x=>by rw[J9,b4O D,a4H b7K];unfold a2m;rw[lM,b3f x d];cases x8 d x<;>cases D.any (λd=>x8 d x)<;>rfl
theorem a4J(sn:d5X)(p:aC->Bool)(q n:d5X):∀(rs:List aC) (acc:a3E),sW eqN (rs.foldl (λ(acc:a3E) r=>l7 (p r) (Gy eqN acc (sn,r.1) true) acc) acc) (q,n) false=(sW eqN acc (q,n) false || (seq sn q&&rs.any λr=>seq r.1 n&&p r))
 |[],acc=>by simp|r::rs,acc=>by
  rw[J9,a4J sn p q n rs,lM];cases hp:p r
  .simp
  .rw[o7,a4H b7L];show((U6 (seq q sn) (seq n r.1) || sW eqN acc (q,n) false) || _)=_;rw[Qc q sn,Qc n r.1];unfold U6;cases seq sn q<;>cases seq r.1 n<;>cases sW eqN acc (q,n) false<;>simp
variable {D:d5Y}
theorem YS(hS:SmS s)(L:a3E)(hD:D.length<=1000000):∃L',yU L s D=some L' /\∀q n,sW eqN L' (q,n) false=(sW eqN L (q,n) false || (seq s.1 q&&dfS s D n)):=by
 have hn:=hS.nr;refine⟨s.2.2.2.2.foldl (λ(acc:a3E) r=>l7 (sW (λ(a b:Int)=>x8 a b) (D.foldl (λ(acc:List (Int×Bool)) d=>Gy (λ(a b:Int)=>x8 a b) acc d true) []) r.2.1 false) (Gy eqN acc (s.1,r.1) true) acc) L,?_,λq n=>?_⟩
 .unfold yU;refine aK D (λ(acc:List (Int×Bool)) d=>Gy (λ(a b:Int)=>x8 a b) acc d true) (λb i=>(b,i)) (λb=>b) (λ_ _=>True) [] hD trivial (λi d acc hd hi _=>⟨?_,trivial⟩) (λacc _=>?_) (λ_=>?_)
  .simp only[G9 hd,o7,E8,hd,o8,Y1 (show i<=9000000000000000000 by omega)]
  .simp only[G6];rfl
  refine aK s.2.2.2.2 (λ(acc:a3E) r=>l7 (sW (λ(a b:Int)=>x8 a b) (D.foldl (λ(acc:List (Int×Bool)) d=>Gy (λ(a b:Int)=>x8 a b) acc d true) []) r.2.1 false) (Gy (λ(a b:dK)=>U6 (seq a.1 b.1) (seq a.2 b.2)) acc (s.1,r.1) true) acc) (λb i=>(b,i)) (λb=>b) (λ_ _=>True) L l9 trivial (λi r acc hr hi _=>⟨?_,trivial⟩) (λacc _=>?_) (λ_=>rfl)
  .simp only[G9 hr,o7,E8,hr,o8,Y1 (show i<=9000000000000000000 by omega)];cases sW (λ(a b:Int)=>x8 a b) (D.foldl (λ(acc:List (Int×Bool)) d=>Gy (λ(a b:Int)=>x8 a b) acc d true) []) r.2.1 false<;>rfl
  .simp only[G6];rfl
 .rw[a4J s.1 (λr=>sW (λ(a b:Int)=>x8 a b) (D.foldl (λ(acc:List (Int×Bool)) d=>Gy (λ(a b:Int)=>x8 a b) acc d true) []) r.2.1 false) q n];unfold dfS;congr 3;funext r;rw[b4O];show(seq r.1 n&&(a2m D r.2.1 || false))=_;rw[Bool.or_false]
def b7S(s m:D7)(d:Int):d5Y:=(mbS s d).flatMap λx=>[x]++cu m x
def rlS(l:U4)(s:D7)(d:Int)(q n:d5X):Bool:=
 (seq s.1 q&&dfS s (cu s d++[d]) n) || (J6 0 s.2.1&&(seq (bY l s).1 q&&dfS (bY l s) (b7S s (bY l s) d) n))
theorem a9q(s m:D7)(d:Int):(mbS s d).foldl (λ(acc:d5Y) x=>acc++[x]++cu m x) []=b7S s m d:=by rw[show(λ(acc:d5Y) x=>acc++[x]++cu m x)=(λ(acc:d5Y) x=>acc++([x]++cu m x)) by funext acc x;rw[F8]];rw[tK,H8];rfl
theorem b3u{s m:D7}(hS:SmS s)(hM:SmS m)(d:Int):(b7S s m d).length<=200000:=by have hml:=Un hS d;have:=qy (λx=>[x]++cu m x) 15 (l:=mbS s d) (λx _=>by have:=yh hM x;rw[E5];simp;omega);unfold b7S;omega
theorem XD(hL:SmL l)(hv:(ja l).1=0)(hs:G8 l.2.2 k=some s)(h0:0<=d)(h1:d<nD s):∃L,xN l k d=some L/\∀q n,sW eqN L (q,n) false=rlS l s d q n:=by
 have hk:=pV hs;have hS:=hL.sc s hk.2.2.1;have ht:=yh hS d;obtain⟨L1,hL1,a1⟩:=YS hS [] (D:=cu s d++[d]) (by rw[E5];simp;omega);unfold xN rlS;rw[hs,o8,Bo hS h0 h1,o8,CS X5,o8,hL1,o8];rcases Gq hv hs with⟨g1,g2,g3⟩|⟨g1,g2,g3,g4,g5⟩
 .rw[g2];refine⟨L1,rfl,λq n=>?_⟩;rw[a1,g1];show(false || _)=_;simp
 .rw[g2,g3];simp only[o6,o8,J7];have hM:=hL.sc _ g5;have hml:=Un hS d;rw[g4,o8,RJ hS h0 h1,o8];have hfl:=a9q s (bY l s) d;have hdl:=b3u hS hM d;obtain⟨L2,hL2,b1⟩:=YS hM L1 (D:=(mbS s d).foldl (λ(acc:d5Y) x=>acc++[x]++cu (bY l s) x) []) (by rw[hfl];omega);refine⟨L2,?_,λq n=>?_⟩
  .refine aK (mbS s d) (λ(acc:d5Y) x=>acc++[x]++cu (bY l s) x) (λb i=>(b,i)) (λb=>b) (λi acc=>acc.length<=15*i) [] l9 A7 (λi x acc hx hi hI=>?_) (λacc _=>?_) (λ_=>?_)
   .have hlt:=(X0.1 hx).1;have hin:=a6X hv hk.2.2.2 d x (iZ hx);have htm:=yh hM x;have hg:P7 (mbS s d) (U8 (i:Int))=some x:=by unfold P7 U8;simpa using hx
    refine⟨?_,by simp only[E5,dY];omega⟩;simp only[G9 hx,o7,E8,hx,o8,hg];rw[CS X5,o8,Bo hM hin.1 hin.2,o8,CS X5,o8,Y1 (show i<=9000000000000000000 by omega)]
   .simp only[G6];rfl
   .rw[hL2];rfl
  .rw[b1,a1,hfl,g1];show((false || _) || _)=_;simp
theorem b1s(hD:D.length<=1000000)(x:Int):QO D x=some (a2m D x):=by
 unfold QO a2m;refine V8 (wX D (λd=>x8 d x) true PUnit.unit hD (λi a ha=>?_) ?_) ?_
 .simp only[G9 ha,o7,E8,ha,o8];cases x8 a x<;>rfl
 .rw[G6];rfl
 .cases D.any (λd=>x8 d x)<;>rfl
theorem Xt(hS:SmS s)(hD:D.length<=1000000)(n:d5X):Bh s D n=some (dfS s D n):=by
 have hn:=hS.nr;unfold Bh dfS;refine V8 (wX s.2.2.2.2 (λr=>seq r.1 n&&a2m D r.2.1) true PUnit.unit l9 (λi a ha=>?_) ?_) ?_
 .simp only[G9 ha,o7,E8,ha,o8,b1s hD];cases seq a.1 n<;>cases a2m D a.2.1<;>rfl
 .rw[G6];rfl
 .cases s.2.2.2.2.any (λr=>seq r.1 n&&a2m D r.2.1)<;>rfl
theorem UJ(hL:SmL l)(hv:(ja l).1=0)(hs:G8 l.2.2 k=some s)(q n:d5X):wL l k d q n=some (rlS l s d q n):=by
 have hk:=pV hs;have hS:=hL.sc s hk.2.2.1;have ht:=yh hS d;unfold wL rlS;rw[hs,o8,yZ hS,o8,CS X5,o8];simp only[Xt hS (D:=cu s d++[d]) (by rw[E5];simp;omega),o8];cases h1:(seq s.1 q&&dfS s (cu s d++[d]) n)
 case true=>rw[A8]at h1;rw[h1.1,h1.2];rfl
 have key:∀(A:Unit),l7 (seq s.1 q) (l7 (dfS s (cu s d++[d]) n) (some (Sum.inr true)) (some (Sum.inl PUnit.unit))) (some (Sum.inl PUnit.unit))=(some (Sum.inl PUnit.unit):Option (PUnit.{1}⊕Bool)):=λ_=>by
  cases h2:seq s.1 q
  .rfl
  .rw[h2,ik]at h1;rw[h1];rfl
 rw[key ()];simp only[o8,J7,lL];rcases Gq hv hs with⟨g1,g2,g3⟩|⟨g1,g2,g3,g4,g5⟩
 .rw[g2,g1];rfl
 .rw[g2,g1];have hM:=hL.sc _ g5;have hml:=Un hS d;have hdl:=b3u hS hM d;simp only[o6,ik];rw[g4,o8,PI hS,o8];have hfl:=a9q s (bY l s) d;refine aK (mbS s d) (λ(acc:d5Y) x=>acc++[x]++cu (bY l s) x) (λb i=>(b,i)) (λb=>b) (λi acc=>acc.length<=15*i) [] l9 A7 (λi x acc hx hi hI=>?_) (λacc _=>?_) (λ_=>?_)
  .have hlt:=(X0.1 hx).1;have htm:=yh hM x;have hg:P7 (mbS s d) (U8 (i:Int))=some x:=by unfold P7 U8;simpa using hx
   refine⟨?_,by simp only[E5,dY];omega⟩;simp only[G9 hx,o7,E8,hx,o8,hg];rw[CS X5,o8,yZ hM,o8,CS X5,o8,Y1 (show i<=9000000000000000000 by omega)]
  .simp only[G6];rfl
  .rw[hfl,Xt hM l9,o8];cases seq (bY l s).1 q<;>rfl
def rvR(a:U4)(s:D7)(b:U4)(t:D7)(d:Int)(x:aS):Bool:=
 l7 (D6 (x8 x.2.2 2)) (l7 (rlS a s d x.1 x.2.1) true (l7 (D6 (x8 x.2.2 1)) (rlS b t d x.1 x.2.1) false)) (l7 (D6 (x8 x.2.2 1)) (rlS b t d x.1 x.2.1) false)
theorem a6t(hA:SmL a)(hB:SmL b)(hC:SmC c)(tA:∀t∈a.2.1,pY t)(tB:∀t∈b.2.1,pY t)(k d:Int):
  ∃r,vU a b k c d=some r/\Bg a b k c d=some r/\r.1.2.2.2.2.length<=120000:=by
 unfold vU Bg;rw[Qh hA,o8,Qh hB,o8,Np hA,o8,Np hB,o8];have zA:=XK a;have zB:=XK b;unfold b7u at zA zB;rw[zA,zB];cases vA:x8 (ja a).1 0
 .exact⟨_,rfl,rfl,bU _⟩
 cases vB:x8 (ja b).1 0
 .exact⟨_,rfl,rfl,bU _⟩
 simp only[D9,o6,o8,J7];have hvA:=Y5.1 vA;have hvB:=Y5.1 vB;cases hr:b8v a k d
 .unfold b8v at hr;cases h1:D8 k 0
  case true=>exact⟨_,rfl,rfl,bU _⟩
  rw[h1]at hr;cases h2:J6 (o9 a.2.2) k
  case true=>exact⟨_,rfl,rfl,bU _⟩
  rw[h2]at hr;cases h3:D8 d 0
  case true=>exact⟨_,rfl,rfl,bU _⟩
  rw[h3]at hr;simp only[o6]at hr ⊢;obtain⟨s,hs⟩:∃s,G8 a.2.2 k=some s:=Zt (pO.2 (iE.1 h1)) (jX.2 (Gw.1 h2));rw[hs]at hr ⊢;simp only[o8]at hr ⊢;cases h4:J6 (o9 s.2.2.2.1) d<;>rw[h4]at hr
  .cases hr
  .exact⟨_,rfl,rfl,bU _⟩
 obtain⟨s,hs,h0,h1⟩:=b4R hr;obtain⟨k0,k1,_,_⟩:=pV hs;rw[L8 k0,Z5 k1,L8 h0,hs];simp only[o6,o8];rw[Z5 (show d<o9 s.2.2.2.1 from h1)];simp only[o6,o8,J7];rw[Wv b hA tA hvA,o8,UK b hA tA hvA,o8];cases hsi:siS a b
 .exact⟨_,rfl,rfl,bU _⟩
 simp only[D9,o6];obtain⟨t,ht,e⟩:=b5K hsi hs;have e4:s.2.2.2.1=t.2.2.2.1:=congrArg (·.2.2.2) e;obtain⟨LA,hLA,eA⟩:=XD hA hvA hs h0 h1;obtain⟨LB,hLB,eB⟩:=XD hB hvB ht h0 (by unfold nD at h1 ⊢;rw[←e4];exact h1);have hcl:=b2D hA hB;have e0:=Uc (rvR a s b t d) (XP a b) [];rw[H8]at e0;refine⟨(((evS a k c d).1,(evS b k c d).1,(evS a k c d).2,(evS b k c d).2,(XP a b).filter (rvR a s b t d)),0),?_,?_,fV (aV _ _) hcl⟩
 .rw[TZ hA hC tA,o8,TZ hB hC tB,o8,hLA,o8,hLB,o8,XO hA hB,o8];refine aK (XP a b) (λ(acc:List aS) x=>l7 (rvR a s b t d x) (acc++[x]) acc) (λacc i=>(((evS a k c d).1,(evS b k c d).1,(evS a k c d).2,(evS b k c d).2,acc),i)) (λacc=>((evS a k c d).1,(evS b k c d).1,(evS a k c d).2,(evS b k c d).2,acc)) (λi acc=>acc.length<=i) [] l9 A7 (λi x acc hx hi hI=>?_) (λacc _=>?_) (λ_=>by rw[e0])
  .have hg:P7 (XP a b) (U8 (i:Int))=some x:=by unfold P7 U8;simpa using hx
   refine⟨?_,by cases rvR a s b t d x<;>simp[l7]<;>omega⟩;simp only[G9 hx,o7,E8,hx,o8,hg,CS (show acc.length+[x].length<=1073741824 by simp;omega),Y1 (show i<=9000000000000000000 by omega)];rw[show sW (λ(a b:dK)=>U6 (seq a.1 b.1) (seq a.2 b.2)) LA (x.1,x.2.1) false=rlS a s d x.1 x.2.1 from eA _ _,show sW (λ(a b:dK)=>U6 (seq a.1 b.1) (seq a.2 b.2)) LB (x.1,x.2.1) false=rlS b t d x.1 x.2.1 from eB _ _];unfold rvR;cases x8 x.2.2 2<;>cases x8 x.2.2 1<;>cases rlS a s d x.1 x.2.1<;>cases rlS b t d x.1 x.2.1<;>rfl
  .simp only[G6];rfl
 .rw[Xu hA hC tA,o8,Xu hB hC tB,o8,VV hA hB,o8];have vA2:=b2P a k c d;have vB2:=b2P b k c d;rw[vA2,vB2];refine aK (XP a b) (λ(acc:List aS) x=>l7 (rvR a s b t d x) (acc++[x]) acc) (λacc i=>(((edS a k c d).1,(edS b k c d).1,(edS a k c d).2.2.1,(edS b k c d).2.2.1,acc),i)) (λacc=>((edS a k c d).1,(edS b k c d).1,(edS a k c d).2.2.1,(edS b k c d).2.2.1,acc)) (λi acc=>acc.length<=i) [] l9 A7 (λi x acc hx hi hI=>?_) (λacc _=>?_) (λ_=>by rw[e0])
  .have hg:P7 (XP a b) (U8 (i:Int))=some x:=by unfold P7 U8;simpa using hx
   refine⟨?_,by cases rvR a s b t d x<;>simp[l7]<;>omega⟩;simp only[G9 hx,o7,E8,hx,o8,hg,CS (show acc.length+[x].length<=1073741824 by simp;omega),Y1 (show i<=9000000000000000000 by omega),UJ hA hvA hs,UJ hB hvB ht];unfold rvR;cases x8 x.2.2 2<;>cases x8 x.2.2 1<;>cases rlS a s d x.1 x.2.1<;>cases rlS b t d x.1 x.2.1<;>rfl
  .simp only[G6];rfl
theorem a5A{a:List aS}(b:List aS)(h:a.length<=1000000):Ij a b=some (eqB a b):=by
 unfold Ij;rw[←zM];refine JH (λx=>x) (λ(x y:aS)=>U6 (seq x.1 y.1) (U6 (seq x.2.1 y.2.1) (x8 x.2.2 y.2.2)))
  (λx y=>by simp only[vK,Y5,gz,kQ]) h (λi x y hx hy=>?_) ?_
 .simp only[E8,hx,hy,o8]
 .simp only[G6];rfl
theorem a3a{x:W9}(h:x.2.2.2.2.length<=1000000):Gi x x=some true:=by unfold Gi;rw[a5A _ h,Dt rfl];simp only[O0 (rfl:x.1.1=x.1.1),O0 (rfl:x.1.2.1=x.1.2.1),O0 (rfl:x.1.2.2=x.1.2.2),O0 (rfl:x.2.1.1=x.2.1.1),O0 (rfl:x.2.1.2.1=x.2.1.2.1),O0 (rfl:x.2.1.2.2=x.2.1.2.2),O0 (rfl:x.2.2.1=x.2.2.1),O0 (rfl:x.2.2.2.1=x.2.2.2.1)];rfl
theorem b1S{l:List α}{k i:Nat}{a:α}(h:(l.take k)[i]? =some a):l[i]? =some a/\i<k:=by
 rw[X6]at h;split at h
 .exact⟨h,l9⟩
 .cases h
theorem b7g(l:List α)(k:Nat):(D8 (((l.take k).length:Nat):Int) (o9 l)=false)\/((l.take k).length=k):=by
 by_cases h:l.length<=k
 .left;rw[S9 h];exact G6 l
 .right;rw[Y9];omega
def b2X(a b:U4)(l:List fM):Bool:=bif (l.take 20).any (λc=> !smC c)then false else(smL a&&(smL b&&J6 (o9 l) 8))
theorem b2W(a b:U4)(l:List fM):QC (a,b) l=some (b2X a b l):=by
 unfold QC b2X;refine V8 (wX (l.take 20) (λc=> !smC c) false PUnit.unit (by rw[Y9];omega) (λi c hc=>?_) ?_) ?_
 rotate_left 2
 .cases (l.take 20).any (λc=> !smC c)
  .simp only[cond_false,J7,a5H,o8];cases smL a<;>cases smL b<;>rfl
  .rfl
 .obtain⟨h1,h2⟩:=b1S hc;simp only[G9 h1,o7,U7 (show(i:Int)<20 by omega),E8,h1,o8,a3e];cases smC c<;>rfl
 .rcases b7g l 20 with h|h
  .rw[h];rfl
  .rw[h];cases D8 ((20:Nat):Int) (o9 l)<;>rfl
theorem a6I{l:List fM}(h:b2X a b l=true):smL a=true/\smL b=true/\l.length<=8/\∀c∈l,SmC c:=by
 unfold b2X at h;cases h1:(l.take 20).any (λc=> !smC c)<;>rw[h1]at h
 case true=>cases h
 simp only[cond_false,A8,pO]at h;obtain⟨h2,h3,h4⟩:=h;have hl:l.length<=8:=by simp only[o9]at h4;omega
 refine⟨h2,h3,hl,λc hc=>c1Q ?_⟩;rw[S9 l9]at h1;have:=jd.1 h1 c hc;simpa using this
def L_(acc x:Int):Int⊕(Int×Int):=l7 (jy x 1000000000000000) (.inr (0,3)) (l7 (jy (acc+x) 1000000000000000) (.inr (0,3)) (.inl (acc+x)))
def WH(l:d5Y):Int×Int:=match fG L_ l 0 with| .inl n=>(n,0)| .inr r=>r
theorem a9p{l:d5Y}(hl:l.length<=1000000):LM l=some (WH l):=by
 unfold LM WH;refine jq l L_ (λn i=>((n,i):Int×Int)) (λn=>n) (λ_ n=>-1000000000000000<=n/\n<=1000000000000000) 0 hl l9 (λi x n hx hi hn=>?_) (λn _=>?_) (λ_=>?_)
 .simp only[G9 hx,o7,E8,hx,o8,vM _ (show(0:Int)<=1000000000000000 by omega) (show(1000000000000000:Int)<=9000000000000000000 by omega)];unfold L_;cases h1:jy x 1000000000000000
  case true=>exact⟨rfl,λ_ h=>by cases h⟩
  have hx1:=nJ h1;simp only[o6];rw[U9 (show jw (n+x) by unfold jw;omega)];cases h2:jy (n+x) 1000000000000000
  case true=>exact⟨rfl,λ_ h=>by cases h⟩
  have hx2:=nJ h2;simp only[o6];exact⟨by rw[Y1 (show i<=9000000000000000000 by omega)],λ_ h=>by cases h;omega⟩
 .simp only[G6];rfl
 .cases fG L_ l 0<;>rfl
theorem a9K{l:d5Y}(hl:l.length<=1000000):LX l=some (WH l):=by
 unfold LX WH;refine jq l L_ (λn i=>((n,i):Int×Int)) (λn=>n) (λ_ n=>-1000000000000000<=n/\n<=1000000000000000) 0 hl l9 (λi x n hx hi hn=>?_) (λn _=>?_) (λ_=>?_)
 .simp only[G9 hx,o7,E8,hx,o8,rX _ (show(0:Int)<=1000000000000000 by omega) (show(1000000000000000:Int)<=9000000000000000000 by omega)];unfold L_;cases h1:jy x 1000000000000000
  case true=>exact⟨rfl,λ_ h=>by cases h⟩
  have hx1:=nJ h1;simp only[o6];rw[U9 (show jw (n+x) by unfold jw;omega)];cases h2:jy (n+x) 1000000000000000
  case true=>exact⟨rfl,λ_ h=>by cases h⟩
  have hx2:=nJ h2;simp only[o6];exact⟨by rw[Y1 (show i<=9000000000000000000 by omega)],λ_ h=>by cases h;omega⟩
 .simp only[G6];rfl
 .cases fG L_ l 0<;>rfl
theorem a5X:∀{l:d5Y} {n:Int} {r:Int×Int},fG L_ l n= .inr r->r=(0,3)
 |[],n,r,h=>by cases h|x::l,n,r,h=>by
  unfold fG at h;cases hg:L_ n x with
  |inl m=>rw[hg]at h;exact a5X h|inr q=>
   rw[hg]at h;cases h;unfold L_ at hg;cases h1:jy x 1000000000000000<;>rw[h1]at hg
   .cases h2:jy (n+x) 1000000000000000<;>rw[h2]at hg<;>cases hg;rfl
   .cases hg;rfl
theorem a1H(l:d5Y):(WH l).2=0\/WH l=(0,3):=by
 unfold WH;cases h:fG L_ l 0 with
 |inl n=>exact .inl rfl|inr r=>exact .inr (a5X h)
abbrev T7:=Int×Int×Int×Int×Int×Int×Int
def b2i(b:Bool):Int:=l7 b 1 0
def cn(p:α->Bool)(l:List α):Int:=((l.countP p:Nat):Int)
theorem b2E(p:α->Bool):cn p []=0:=rfl
theorem a8S(p:α->Bool)(x:α)(l:List α):cn p (x::l)=b2i (p x)+cn p l:=by unfold cn b2i;rw[sO];cases p x<;>simp[l7]<;>omega
theorem Gu(b:Bool):0<=b2i b/\b2i b<=1:=by cases b<;>decide
def a8P(x:W9):Bool:=x8 x.2.2.1 0&&x8 x.2.2.2.1 0
def pG(x:W9):Bool:=a8P x&&D8 x.1.2.2 x.2.1.2.2
def pR(x:W9):Bool:=a8P x&&D8 x.2.1.2.2 x.1.2.2
def pF(x:W9):Bool:=x8 x.2.2.1 0&&D6 (x8 x.2.2.2.1 0)
def cT(x:W9):T7:=(1,b2i (icS x),b2i (pG x),b2i (pR x),b2i (pF x),0,0)
theorem b0u(x:W9):yL x=some (cT x):=by
 unfold yL cT pG pR pF a8P;rw[a2n,o8];have hlt:D8 x.1.2.2 x.2.1.2.2=true->D8 x.2.1.2.2 x.1.2.2=false:=λh=>L8 (by rw[jX]at h;omega);cases icS x<;>cases x8 x.2.2.1 0<;>cases x8 x.2.2.2.1 0<;>try rfl
 all_goals
  cases h1:D8 x.1.2.2 x.2.1.2.2
  .cases D8 x.2.1.2.2 x.1.2.2<;>rfl
  .rw[hlt h1];rfl
def PE(x:W9):d5Y:=l7 (x8 x.2.2.1 0) (l7 (x8 x.1.1 3) [x.1.2.2] []) []
def Py(x:W9):d5Y:=l7 (x8 x.2.2.2.1 0) (l7 (x8 x.2.1.1 3) [x.2.1.2.2] []) []
theorem ZU(x:W9):(PE x).length<=1:=by unfold PE;cases x8 x.2.2.1 0<;>cases x8 x.1.1 3<;>simp[l7]
theorem ZK(x:W9):(Py x).length<=1:=by unfold Py;cases x8 x.2.2.2.1 0<;>cases x8 x.2.1.1 3<;>simp[l7]
def Yy(t u:T7):T7:=(t.1+u.1,t.2.1+u.2.1,t.2.2.1+u.2.2.1,t.2.2.2.1+u.2.2.2.1,t.2.2.2.2.1+u.2.2.2.2.1,t.2.2.2.2.2.1,t.2.2.2.2.2.2)
theorem b9s:∀(L:List W9) (t:T7),L.foldl (λt x=>Yy t (cT x)) t=(t.1+o9 L,t.2.1+cn icS L,t.2.2.1+cn pG L,t.2.2.2.1+cn pR L,t.2.2.2.2.1+cn pF L,t.2.2.2.2.2.1,t.2.2.2.2.2.2)
 |[],t=>by simp only[List.foldl_nil,b2E,o9,dX,yB,Int.natCast_zero]|x::L,t=>by rw[J9,b9s L];unfold Yy cT;simp only[a8S,o9,H5,bQ,and_true];refine⟨?_,?_,?_,?_,?_⟩<;>omega
def smT(i:Nat)(t:T7):Prop:=(0<=t.1/\t.1<=i)/\(0<=t.2.1/\t.2.1<=i)/\(0<=t.2.2.1/\t.2.2.1<=i)/\(0<=t.2.2.2.1/\t.2.2.2.1<=i)/\(0<=t.2.2.2.2.1/\t.2.2.2.2.1<=i)
theorem b8W{t:T7}(h:smT i t)(x:W9):smT (i+1) (Yy t (cT x)):=by have h1:=Gu (icS x);have h2:=Gu (pG x);have h3:=Gu (pR x);have h4:=Gu (pF x);unfold smT at h ⊢;unfold Yy cT;simp only;refine⟨⟨?_,?_⟩,⟨?_,?_⟩,⟨?_,?_⟩,⟨?_,?_⟩,?_,?_⟩<;>omega
theorem b7x(hi:i<=1000000){t:T7}(h:smT i t)(x:W9):zC t (cT x)=some (Yy t (cT x)):=by have h1:=Gu (icS x);have h2:=Gu (pG x);have h3:=Gu (pR x);have h4:=Gu (pF x);unfold smT at h;unfold zC Yy cT;simp only;rw[U9 (show jw (t.1+1) by unfold jw;omega),U9 (show jw (t.2.1+b2i (icS x)) by unfold jw;omega),U9 (show jw (t.2.2.1+b2i (pG x)) by unfold jw;omega),U9 (show jw (t.2.2.2.1+b2i (pR x)) by unfold jw;omega),U9 (show jw (t.2.2.2.2.1+b2i (pF x)) by unfold jw;omega)]
def zT:T7:=(0,0,0,0,0,0,0)
def c5t(L:List W9):T7:=(o9 L,cn icS L,cn pG L,cn pR L,cn pF L,(WH (L.flatMap PE)).1,(WH (L.flatMap Py)).1)
def a6c(L:List W9):T7×Int:=l7 (D6 (x8 (WH (L.flatMap PE)).2 0)) (zT,3) (l7 (D6 (x8 (WH (L.flatMap Py)).2 0)) (zT,3) (c5t L,0))
theorem c0Q(hi:i<=1000000){t:T7}(h:smT i t)(x:W9):
  (l7 (U6 (x8 (cT x).1 1) (U6 (x8 (cT x).2.1 0) (U6 (x8 (cT x).2.2.1 0) (U6 (x8 (cT x).2.2.2.1 0) (U6 (x8 (cT x).2.2.2.2.1 0) (U6 (x8 (cT x).2.2.2.2.2.1 0) (x8 (cT x).2.2.2.2.2.2 0)))))))
   (some ((x9 .i64 t.1 1,t.2):bH)) (o5 (zC t (cT x)) λ(x:bH)=>some x))=some (Yy t (cT x)):=by
 rw[b7x hi h x,o8];cases hc:U6 (x8 (cT x).1 1) (U6 (x8 (cT x).2.1 0) (U6 (x8 (cT x).2.2.1 0) (U6 (x8 (cT x).2.2.2.1 0) (U6 (x8 (cT x).2.2.2.2.1 0) (U6 (x8 (cT x).2.2.2.2.2.1 0) (x8 (cT x).2.2.2.2.2.2 0))))))
 .rfl
 .simp only[vK,Y5]at hc;obtain⟨h1,h2,h3,h4,h5,_,_⟩:=hc;rw[o7];unfold smT at h;rw[U9 (show jw (t.1+1) by unfold jw;omega)];unfold Yy;rw[h1,h2,h3,h4,h5];simp only[yB]
theorem a9a:∀(L:List W9) (b:T7×d5Y×d5Y),L.foldl (λ(b:T7×d5Y×d5Y) x=>(Yy b.1 (cT x),b.2.1++PE x,b.2.2++Py x)) b=(L.foldl (λt x=>Yy t (cT x)) b.1,b.2.1++L.flatMap PE,b.2.2++L.flatMap Py)
 |[],b=>by simp|x::L,b=>by rw[J9,a9a L];simp only[J9,qP,F8]
theorem a4S(L:List W9):(L.flatMap PE).length<=L.length:=by have:=qy PE 1 (l:=L) (λx _=>ZU x);omega
theorem a4K(L:List W9):(L.flatMap Py).length<=L.length:=by have:=qy Py 1 (l:=L) (λx _=>ZK x);omega
variable {L:List W9}
theorem b7c(hl:L.length<=1000):En L=some (a6c L):=by
 unfold En;refine aK L (λ(b:T7×d5Y×d5Y) x=>(Yy b.1 (cT x),b.2.1++PE x,b.2.2++Py x)) (λb i=>(b.1,b.2.1,b.2.2,i)) (λb=>(b.1,b.2.1,b.2.2)) (λi b=>smT i b.1/\b.2.1.length<=i/\b.2.2.length<=i) (zT,[],[]) l9 ⟨by unfold smT zT;decide,F5 _,F5 _⟩ (λi x b hx hi hb=>?_) (λb _=>?_) (λ_=>?_)
 .obtain⟨h1,h2,h3⟩:=hb;have hil:=(X0.1 hx).1;have o1:=ZU x;have o2:=ZK x;refine⟨?_,b8W h1 x,by rw[E5];omega,by rw[E5];omega⟩;simp only[G9 hx,o7,E8,hx,o8,b0u,c0Q (show i<=1000000 by omega) h1 x,CS (show b.2.1.length+[x.1.2.2].length<=1073741824 by simp;omega),CS (show b.2.2.length+[x.2.1.2.2].length<=1073741824 by simp;omega),Y1 (show i<=9000000000000000000 by omega)];unfold PE Py;cases x8 x.2.2.1 0<;>cases x8 x.1.1 3<;>cases x8 x.2.2.2.1 0<;>cases x8 x.2.1.1 3<;>simp only[o7,o6,o8,G5]
 .simp only[G6];rfl
 .rw[a9a,b9s];have l1:=a4S L;have l2:=a4K L;simp only[H8,a9p (show(L.flatMap PE).length<=1000000 by omega),a9p (show(L.flatMap Py).length<=1000000 by omega),o8];unfold a6c c5t zT;simp only[JM];cases D6 (x8 (WH (L.flatMap PE)).2 0)<;>cases D6 (x8 (WH (L.flatMap Py)).2 0)<;>rfl
def Vp(t:T7)(x:W9):T7:=(t.1,t.2.1+b2i (icS x),t.2.2.1+b2i (pG x),t.2.2.2.1+b2i (pR x),t.2.2.2.2.1+b2i (pF x),t.2.2.2.2.2.1,t.2.2.2.2.2.2)
theorem a8Z:∀(L:List W9) (t:T7),L.foldl Vp t=(t.1,t.2.1+cn icS L,t.2.2.1+cn pG L,t.2.2.2.1+cn pR L,t.2.2.2.2.1+cn pF L,t.2.2.2.2.2.1,t.2.2.2.2.2.2)
 |[],t=>by simp only[List.foldl_nil,b2E,yB]|x::L,t=>by rw[J9,a8Z L];unfold Vp;simp only[a8S,bQ,and_true,true_and];refine⟨?_,?_,?_,?_⟩<;>omega
def smR(i:Nat)(t:T7):Prop:=(0<=t.2.1/\t.2.1<=i)/\(0<=t.2.2.1/\t.2.2.1<=i)/\(0<=t.2.2.2.1/\t.2.2.2.1<=i)/\(0<=t.2.2.2.2.1/\t.2.2.2.2.1<=i)
theorem b8V{t:T7}(h:smR i t)(x:W9):smR (i+1) (Vp t x):=by have h1:=Gu (icS x);have h2:=Gu (pG x);have h3:=Gu (pR x);have h4:=Gu (pF x);unfold smR at h ⊢;unfold Vp;simp only;refine⟨⟨?_,?_⟩,⟨?_,?_⟩,⟨?_,?_⟩,?_,?_⟩<;>omega
theorem a6w(hl:L.length<=1000):JZ L=some (o9 L,cn icS L,cn pG L,cn pR L,cn pF L,0,0):=by
 unfold JZ;refine aK L Vp (λb i=>(b,i)) (λb=>b) smR (o9 L,0,0,0,0,0,0) l9 (by unfold smR;simp) (λi x b hx hi hb=>?_) (λb _=>?_) (λ_=>?_)
 .refine⟨?_,b8V hb x⟩;have hil:=(X0.1 hx).1;unfold smR at hb;have e1:x9 .i64 b.2.1 1=b.2.1+1:=U9 O5;have e2:x9 .i64 b.2.2.1 1=b.2.2.1+1:=U9 O5;have e3:x9 .i64 b.2.2.2.1 1=b.2.2.2.1+1:=U9 O5;have e4:x9 .i64 b.2.2.2.2.1 1=b.2.2.2.2.1+1:=U9 O5;simp only[G9 hx,o7,E8,hx,o8,a0t,Y1 (show i<=9000000000000000000 by omega)];unfold Vp pG pR pF a8P;cases icS x<;>cases x8 x.2.2.1 0<;>cases x8 x.2.2.2.1 0<;>cases D8 x.1.2.2 x.2.1.2.2<;>cases D8 x.2.1.2.2 x.1.2.2<;>simp only[o7,o6,o8,D9,aJ,ik,Bool.false_and,IU,Bool.and_false,b2i,yB,e1,e2,e3,e4]
 .simp only[G6];rfl
 .rw[a8Z];simp only[JM]
theorem a3H(hl:L.length<=1000):uX L true=some (L.flatMap PE):=by
 unfold uX;refine aK L (λ(b:d5Y) x=>b++PE x) (λb i=>(b,i)) (λb=>b) (λi b=>b.length<=i) [] l9 (F5 _) (λi x b hx hi hb=>?_) (λb _=>?_) (λ_=>?_)
 .have hil:=(X0.1 hx).1;have o1:=ZU x;refine⟨?_,by rw[E5];omega⟩;simp only[G9 hx,o7,E8,hx,o8,CS (show b.length+[x.1.2.2].length<=1073741824 by simp;omega),Y1 (show i<=9000000000000000000 by omega)];unfold PE;cases x8 x.2.2.1 0<;>cases x8 x.1.1 3<;>simp only[o7,o6,o8,G5]
 .simp only[G6];rfl
 .rw[tK,H8]
theorem a3G(hl:L.length<=1000):uX L false=some (L.flatMap Py):=by
 unfold uX;refine aK L (λ(b:d5Y) x=>b++Py x) (λb i=>(b,i)) (λb=>b) (λi b=>b.length<=i) [] l9 (F5 _) (λi x b hx hi hb=>?_) (λb _=>?_) (λ_=>?_)
 .have hil:=(X0.1 hx).1;have o1:=ZK x;refine⟨?_,by rw[E5];omega⟩;simp only[G9 hx,o7,o6,E8,hx,o8,CS (show b.length+[x.2.1.2.2].length<=1073741824 by simp;omega),Y1 (show i<=9000000000000000000 by omega)];unfold Py;cases x8 x.2.2.2.1 0<;>cases x8 x.2.1.1 3<;>simp only[o7,o6,o8,G5]
 .simp only[G6];rfl
 .rw[tK,H8]
def OL(a b:U4)(k:Int)(c:fM)(d:Int):W9×Int:=match vU a b k c d with|some r=>r|none=>(zI,0)
theorem a6q(hA:SmL a)(hB:SmL b)(hC:SmC c)(tA:∀t∈a.2.1,pY t)(tB:∀t∈b.2.1,pY t)(k d:Int):
  vU a b k c d=some (OL a b k c d)/\Bg a b k c d=some (OL a b k c d)/\(OL a b k c d).1.2.2.2.2.length<=120000:=by
 obtain⟨r,h1,h2,h3⟩:=a6t hA hB hC tA tB k d;unfold OL;rw[h1];exact⟨rfl,h2,h3⟩
abbrev c5v:=List W9×T7×Int
def Wu(a b:U4)(k d:Int)(acc:List W9)(c:fM):List W9⊕c5v:=l7 (D6 (x8 (OL a b k c d).2 0)) (.inr ([],zT,(OL a b k c d).2)) (.inl (acc++[(OL a b k c d).1]))
def PW(a b:U4)(k:Int)(l:List fM)(d:Int):c5v:=match fG (Wu a b k d) l []with
 | .inr r=>r| .inl L=>l7 (D6 (x8 (a6c L).2 0)) ([],zT,(a6c L).2) (L,(a6c L).1,0)
theorem b4W(hA:SmL a)(hB:SmL b)(tA:∀t∈a.2.1,pY t)(tB:∀t∈b.2.1,pY t){l:List fM}(hl:l.length<=8)(hC:∀c∈l,SmC c)(k d:Int):zy a b k l d=some (PW a b k l d):=by
 unfold zy;rw[show pq 0 (o9 l) 1073741824=true from by unfold pq o9;rw[decide_eq_true_eq];omega,o7];rw[show qo 0 (((0,0,0),(0,0,0),0,0,[]):W9)=some []from by unfold qo;rw[if_pos l9];rfl,o8];refine jq l (Wu a b k d) (λacc i=>(((0,0,0,0,0,0,0),acc,i):bH×List W9×Int)) (λacc=>(((0,0,0,0,0,0,0),acc):bH×List W9)) (λi acc=>acc.length=i) [] l9 rfl (λi c acc hx hi hb=>?_) (λacc _=>?_) (λhinv=>?_)
 .have hc:=hC c (iZ hx);obtain⟨c1,_,_⟩:=a6q hA hB hc tA tB k d;have hil:=(X0.1 hx).1;simp only[G9 hx,o7,E8,hx,o8,c1];unfold Wu;cases D6 (x8 (OL a b k c d).2 0)
  .simp only[o6,CS (show acc.length+[(OL a b k c d).1].length<=1073741824 by simp;omega),o8,Y1 (show i<=9000000000000000000 by omega)];exact⟨trivial,λ_ h=>by cases h;simp[hb]⟩
  .exact⟨rfl,λ_ h=>by cases h⟩
 .simp only[G6];rfl
 .unfold PW;cases hf:fG (Wu a b k d) l []with
  |inr r=>rfl|inl L=>have hL:=hinv L hf;simp only[J7,b7c (show L.length<=1000 by omega),o8];cases D6 (x8 (a6c L).2 0)<;>rfl
theorem b1w(hA:SmL a)(hB:SmL b)(tA:∀t∈a.2.1,pY t)(tB:∀t∈b.2.1,pY t){l:List fM}(hl:l.length<=8)(hC:∀c∈l,SmC c)(k d:Int):QP a b k l d=some (PW a b k l d):=by
 unfold QP;refine jq l (Wu a b k d) (λacc i=>(((0,0,0,0,0,0,0),acc,i):bH×List W9×Int)) (λacc=>(((0,0,0,0,0,0,0),acc):bH×List W9)) (λi acc=>acc.length=i) [] l9 rfl (λi c acc hx hi hb=>?_) (λacc _=>?_) (λhinv=>?_)
 .have hc:=hC c (iZ hx);obtain⟨_,c1,_⟩:=a6q hA hB hc tA tB k d;have hil:=(X0.1 hx).1;simp only[G9 hx,o7,E8,hx,o8,c1];unfold Wu;cases D6 (x8 (OL a b k c d).2 0)
  .simp only[o6,CS (show acc.length+[(OL a b k c d).1].length<=1073741824 by simp;omega),o8,Y1 (show i<=9000000000000000000 by omega)];exact⟨trivial,λ_ h=>by cases h;simp[hb]⟩
  .exact⟨rfl,λ_ h=>by cases h⟩
 .simp only[G6];rfl
 .unfold PW;cases hf:fG (Wu a b k d) l []with
  |inr r=>rfl|inl L=>
   have hL:=hinv L hf;have l1:=a4S L;have l2:=a4K L;simp only[J7,a6w (show L.length<=1000 by omega),o8,a3H (show L.length<=1000 by omega),a3G (show L.length<=1000 by omega),a9K (show(L.flatMap PE).length<=1000000 by omega),a9K (show(L.flatMap Py).length<=1000000 by omega)];unfold a6c c5t;rcases a1H (L.flatMap PE)with h|h
   .rw[h];rcases a1H (L.flatMap Py)with h'|h'
    .rw[h'];rfl
    .rw[h'];rfl
   .rw[h];rfl
theorem a6m:JO=some true:=by decide+kernel
theorem a0y(hl:L.length<=1000)(hr:∀x∈L,x.2.2.2.2.length<=1000000):Ik L L=some true:=by
 unfold Ik;have:=JH (a:=L) (b:=L) (λ(x:W9)=>x) (λx y=>eqB x y) (λx y=>zK) l9 (f:=λ(x:Int)=>
   l7 (D8 x (o9 L)) (l7 (D8 x (o9 L)) (o5 (G8 L x) λ(x_1:W9)=>o5 (G8 L x) λ(x_2:W9)=>o5 (Gi x_1 x_2) λ(x_3:Bool)=>l7 (D6 x_3) (some (Out.rt false)) (some (Out.nx (x9 .i64 x 1)))) (some (Out.ex PUnit.unit))) (some (Out.ex PUnit.unit))) (λi x y hx hy=>by
  have e:x=y:=by rw[hx]at hy;cases hy;rfl
  subst e;simp only[E8,hx,o8,a3a (hr x (iZ hx)),Dt rfl]) (by simp only[G6];rfl)
 rw[Dt rfl]at this;exact this
theorem a7D(hA:SmL a)(hB:SmL b)(tA:∀t∈a.2.1,pY t)(tB:∀t∈b.2.1,pY t){l:List fM}(hC:∀c∈l,SmC c)(k d:Int):(PW a b k l d).1.length<=l.length/\∀x∈(PW a b k l d).1,∃c∈l,x=(OL a b k c d).1:=by
 have key:∀(l:List fM) (acc:List W9),(∀L,fG (Wu a b k d) l acc= .inl L->L.length=acc.length+l.length/\∀x∈L,x∈acc\/∃c∈l,x=(OL a b k c d).1)/\∀r,fG (Wu a b k d) l acc= .inr r->r.1=[]:=by
  intro l;induction l with
  |nil=>exact λacc=>⟨λL h=>by cases h;exact⟨A7,λx hx=> .inl hx⟩,λr h=>by cases h⟩|cons c l ih=>
   intro acc;unfold fG;cases hg:Wu a b k d acc c with
   |inr r=>refine⟨λL h=>(by cases h),λr' h=>?_⟩;cases h;unfold Wu at hg;cases hb:D6 (x8 (OL a b k c d).2 0)<;>rw[hb]at hg<;>cases hg;rfl|inl acc' =>
    have e:acc' =acc++[(OL a b k c d).1]:=by unfold Wu at hg;cases hb:D6 (x8 (OL a b k c d).2 0)<;>rw[hb]at hg<;>cases hg;rfl
    subst e;obtain⟨i1,i2⟩:=ih (acc++[(OL a b k c d).1]);refine⟨λL h=>?_,i2⟩;obtain⟨j1,j2⟩:=i1 L h;refine⟨by rw[j1];simp;omega,λx hx=>?_⟩;rcases j2 x hx with h1|⟨c',h1,h2⟩
    .rcases F7.1 h1 with h1|h1
     .exact .inl h1
     .exact .inr ⟨c,A7,by simpa using h1⟩
    .exact .inr ⟨c',by simp[h1],h2⟩
 unfold PW;obtain⟨k1,k2⟩:=key l [];cases hf:fG (Wu a b k d) l []with
 |inr r=>have:=k2 r hf;simp only;rw[this];exact⟨bU _,λx hx=>by cases hx⟩|inl L=>
  obtain⟨j1,j2⟩:=k1 L hf;simp only;cases D6 (x8 (a6c L).2 0)
  .exact⟨by show L.length<=_;rw[j1];simp,λx hx=>(j2 x hx).elim (λh=>by cases h) id⟩
  .exact⟨bU _,λx hx=>by cases hx⟩
theorem a7Q(wA:WfL a)(wB:WfL b)(k:Int)(l:List fM)(d:Int):AC (a,b) k l d=some true:=by
 unfold AC;rw[b2W,o8,a6m];cases hf:b2X a b l
 .rfl
 obtain⟨h1,h2,hl,hC⟩:=a6I hf;obtain⟨hA,tA⟩:=b5M h1 wA;obtain⟨hB,tB⟩:=b5M h2 wB;obtain⟨n1,n2⟩:=a7D hA hB tA tB hC k d;simp only[D9,o6,b4W hA hB tA tB hl hC,b1w hA hB tA tB hl hC,o8];rw[a0y l9 (λx hx=>by obtain⟨c,hc,rfl⟩:=n2 x hx;have:=(a6q hA hB (hC c hc) tA tB k d).2.2;omega),o8,o7]
 generalize PW a b k l d=r;simp only[O0 (rfl:r.2.1.1=r.2.1.1),O0 (rfl:r.2.1.2.1=r.2.1.2.1),O0 (rfl:r.2.1.2.2.1=r.2.1.2.2.1),O0 (rfl:r.2.1.2.2.2.1=r.2.1.2.2.2.1),O0 (rfl:r.2.1.2.2.2.2.1=r.2.1.2.2.2.2.1),O0 (rfl:r.2.1.2.2.2.2.2.1=r.2.1.2.2.2.2.2.1),O0 (rfl:r.2.1.2.2.2.2.2.2=r.2.1.2.2.2.2.2.2),O0 (rfl:r.2.2=r.2.2)];rfl
end Go.GP
namespace Go.GP
open Gt
theorem Tj:∀x,a6g Gt.ps3 x->(Gt.s3.fn x:d6b)=some true:=λx h=>a7Q (c0h h.1.1) (c0h h.1.2) x.2.1 x.2.2.1 x.2.2.2
end Go.GP
