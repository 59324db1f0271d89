import Derived.Test.YtgmlbmcajglngaaGreatDoorV3
import Derived.Test.YtgmlbmcajglngaaGreatDoorV4
set_option linter.all false
namespace Go.GP
open Gt
set_option maxRecDepth 100000
theorem YW(x y:V3):xf x y=some (l9 (x8 x.1 y.1) (x8 x.2.1 y.2.1) false):=by unfold xf;cases x8 x.1 y.1<;>rfl
theorem b1h(k N:Int)(x y:V3)(env:aA)(hk:k=11\/k=12):kR (k,N) [x,y] env:=by
 rcases hk with rfl|rfl
 all_goals
  (unfold kR RP EP aK aN mP dW fV;simp (disch:=decide) only[dG])
  unfold rY;simp (disch:=decide) only[dG];simp only[YW,Gh,JO,o8];cases x8 x.1 y.1
  .exact⟨_,rfl,rfl⟩
  cases x8 x.2.1 y.2.1
  .exact⟨_,rfl,rfl⟩
  cases l9 (S9 2 x.1) (S9 x.1 4) false
  .exact⟨_,rfl,rfl⟩
  simp (disch:=decide) only[dG];exact⟨_,rfl,rfl⟩
theorem b4Y(k N:Int)(x y:V3)(env:aA)(hk:k=19\/k=20):kR (k,N) [x,y] env:=by
 rcases hk with rfl|rfl
 all_goals
  (unfold kR RP EP aK aN mP dW fV;simp (disch:=decide) only[dG])
  unfold rY;simp (disch:=decide) only[dG];simp only[YW,Gh,JO,o8];cases x8 x.1 y.1
  .exact⟨_,rfl,rfl⟩
  cases x8 x.2.1 y.2.1
  .exact⟨_,rfl,rfl⟩
  simp (disch:=decide) only[dG];exact⟨_,rfl,rfl⟩
theorem b1i(k N:Int)(x y:V3)(env:aA)(hk:k=21\/k=22):kR (k,N) [x,y] env:=by
 rcases hk with rfl|rfl
 all_goals
  (unfold kR RP EP aK aN mP dW fV;simp (disch:=decide) only[dG])
  unfold rY;simp (disch:=decide) only[dG];simp only[YW,Gh,JO,o8];cases x8 x.1 y.1
  .exact⟨_,rfl,rfl⟩
  cases x8 x.2.1 y.2.1
  .exact⟨_,rfl,rfl⟩
  simp (disch:=decide) only[dG];cases l9 (S9 2 x.1) (S9 x.1 4) false
  .simp (disch:=decide) only[dG];cases x8 x.1 5
   .exact⟨_,rfl,rfl⟩
   simp (disch:=decide) only[dG];exact⟨_,rfl,rfl⟩
  simp (disch:=decide) only[dG];exact⟨_,rfl,rfl⟩
theorem Zt(k N:Int)(x y:V3)(env:aA)(hk:k=17\/k=18)(hx:plB x=true)(hy:plB y=true):kR (k,N) [x,y] env:=by
 have mx:IE x=(x,0):=by unfold IE;rw[hx];rfl
 have my:IE y=(y,0):=by unfold IE;rw[hy];rfl
 have hE:x.1=y.1->x.2.1=y.2.1->x.2.2=y.2.2->x=y:=λh1 h2 h3=>by rw[show x=(x.1,x.2.1,x.2.2)from rfl,h1,h2,h3]
 have fin:x.1=y.1->x.2.1=y.2.1->∀b:Bool,(∃r:V3×Int,l9 (ji b (F7 x.2.2 y.2.2)) (some (x,0)) (some (y,0))=some r/\b3q (l9 (ji b (F7 y.2.2 x.2.2)) (some (y,0)) (some (x,0)))=some r):=by
  intro h1 h2 b;by_cases g:x.2.2<y.2.2
  .rw[U0 g,L6 (Int.le_of_lt g)];cases b
   .exact⟨(y,0),rfl,by rw[show l9 (ji false false) (some (y,(0:Int))) (some (x,0))=some (y,0)from rfl,FU,QP,my]⟩
   .exact⟨(x,0),rfl,by rw[show l9 (ji true false) (some (y,(0:Int))) (some (x,0))=some (x,0)from rfl,FU,QP,mx]⟩
  by_cases g' :y.2.2<x.2.2
  .rw[U0 g',L6 (Int.le_of_lt g')];cases b
   .exact⟨(x,0),rfl,by rw[show l9 (ji false true) (some (y,(0:Int))) (some (x,0))=some (x,0)from rfl,FU,QP,mx]⟩
   .exact⟨(y,0),rfl,by rw[show l9 (ji true true) (some (y,(0:Int))) (some (x,0))=some (y,0)from rfl,FU,QP,my]⟩
  have e:=hE h1 h2 (Int.le_antisymm (jD.1 g') (jD.1 g));refine⟨(x,0),?_,?_⟩
  .rw[e];cases ji b (F7 y.2.2 y.2.2)<;>rfl
  .rw[←e];rw[show l9 (ji b (F7 x.2.2 x.2.2)) (some (x,(0:Int))) (some (x,0))=some (x,0) by cases ji b (F7 x.2.2 x.2.2)<;>rfl,FU,QP,mx]
 have osum:∀(c:Bool),(o5 (l9 c (some (Sum.inr (y,(0:Int)):V3⊕(V3×Int))) (some (.inr (x,0)))) λo=>bn o (λ_=>o5 (sK x.2.2 y.2.2) λ(q:Int)=>some ((2,0,q),(0:Int))) λr=>some r)=l9 c (some (y,0)) (some (x,0)):=λc=>by cases c<;>rfl
 rcases hk with rfl|rfl
 all_goals
  (unfold kR RP EP aK aN mP dW fV;simp (disch:=decide) only[dG])
  unfold rY;simp (disch:=decide) only[dG];simp only[YW,Gh,JO,o8];cases g1:x8 x.1 y.1
  .exact⟨_,rfl,rfl⟩
  cases g2:x8 x.2.1 y.2.1
  .exact⟨_,rfl,rfl⟩
  simp (disch:=decide) only[dG];have F:=fin (U4.1 g1) (U4.1 g2);rw[osum];cases l9 (S9 2 x.1) (S9 x.1 4) false
  .simp (disch:=decide) only[dG];cases x8 x.1 5
   .exact⟨_,rfl,rfl⟩
   simp (disch:=decide) only[dG];simp only[dL];first|exact F true|exact F false
  simp (disch:=decide) only[dG];simp only[dL];first|exact F true|exact F false
theorem c3S(N:Int)(x y:V3)(env:aA):kR (27,N) [x,y] env:=by
 (unfold kR RP EP aK aN mP dW fV;simp (disch:=decide) only[dG])
 unfold Ba;simp (disch:=decide) only[dG];cases g1:x8 x.1 5
 .exact⟨_,rfl,rfl⟩
 cases x8 y.1 2
 .exact⟨_,rfl,rfl⟩
 simp (disch:=decide) only[dG];rw[U4.1 g1];exact⟨_,rfl,rfl⟩
theorem c3T(N:Int)(x y:V3)(env:aA):kR (28,N) [x,y] env:=by
 have hA:∃q,xG x.2.2 y.2.2=some q/\tK x.2.2 y.2.2=some q:=⟨_,Uu _ _,Tq _ _⟩;obtain⟨q,h1,h2⟩:=hA
 (unfold kR RP EP aK aN mP dW fV;simp (disch:=decide) only[dG])
 unfold Ba;simp (disch:=decide) only[dG];cases g1:x8 x.1 5
 .exact⟨_,rfl,rfl⟩
 cases x8 y.1 2
 .exact⟨_,rfl,rfl⟩
 simp (disch:=decide) only[dG];rw[h1,h2];simp (disch:=decide) only[dG];exact⟨_,rfl,rfl⟩
theorem c3V(N:Int)(x y:V3)(env:aA):kR (29,N) [x,y] env:=by
 (unfold kR RP EP aK aN mP dW fV;simp (disch:=decide) only[dG])
 unfold Ba;simp (disch:=decide) only[dG];cases g1:x8 x.1 5
 .exact⟨_,rfl,rfl⟩
 cases x8 y.1 5
 .exact⟨_,rfl,rfl⟩
 simp (disch:=decide) only[dG];exact⟨_,rfl,rfl⟩
theorem c3W(N:Int)(x y:V3)(env:aA):kR (30,N) [x,y] env:=by
 have hA:∃q,sK x.2.2 y.2.2=some q/\yO x.2.2 y.2.2=some q:=⟨_,YB _ _,Xa _ _⟩;obtain⟨q,h1,h2⟩:=hA
 (unfold kR RP EP aK aN mP dW fV;simp (disch:=decide) only[dG])
 unfold Ba;simp (disch:=decide) only[dG];cases g1:x8 x.1 5
 .exact⟨_,rfl,rfl⟩
 cases x8 y.1 5
 .exact⟨_,rfl,rfl⟩
 simp (disch:=decide) only[dG];rw[h1,h2];simp (disch:=decide) only[dG];exact⟨_,rfl,rfl⟩
theorem c3O(N:Int)(x y:V3)(env:aA):kR (14,N) [x,y] env:=by
 have hA:∃q,JP x.2.2 y.2.2 N=some q/\KQ x.2.2 y.2.2 N=some q:=⟨_,b5a _ _ _,b4i _ _ _⟩;have hB:∃q,Qw x.2.2 y.2.2 N=some q/\RS x.2.2 y.2.2 N=some q:=⟨_,c1i _ _ _,b7u _ _ _⟩;obtain⟨q,h1,h2⟩:=hA;obtain⟨q',h3,h4⟩:=hB
 (unfold kR RP EP aK aN mP dW fV;simp (disch:=decide) only[dG])
 unfold yQ DV;simp (disch:=decide) only[dG];rw[h1,h2,h3,h4];cases x8 y.1 4
 .exact⟨_,rfl,rfl⟩
 by_cases g3:x.1=3
 .rw[L8 g3];simp (disch:=decide) only[dG];exact⟨_,rfl,rfl⟩
 rw[I4 g3];simp (disch:=decide) only[dG];cases x8 x.1 4
 .exact⟨_,rfl,rfl⟩
 simp (disch:=decide) only[dG];exact⟨_,rfl,rfl⟩
theorem c3Q(N:Int)(x y:V3)(env:aA):kR (16,N) [x,y] env:=by
 have hA:∃q,CJ x.2.2 y.2.2 N=some q/\GU x.2.2 y.2.2 N=some q:=⟨_,a9W _ _ _,a7q _ _ _⟩;obtain⟨q,h1,h2⟩:=hA
 (unfold kR RP EP aK aN mP dW fV;simp (disch:=decide) only[dG])
 unfold yQ DV;simp (disch:=decide) only[dG];rw[h1,h2];cases x8 x.1 3
 .exact⟨_,rfl,rfl⟩
 cases x8 y.1 3
 .exact⟨_,rfl,rfl⟩
 simp (disch:=decide) only[dG];exact⟨_,rfl,rfl⟩
theorem c3P(N:Int)(x y:V3)(env:aA):kR (15,N) [x,y] env:=by
 have hA:∃q,lD x.2.2 y.2.2 N=some q/\ES x.2.2 y.2.2 N=some q:=⟨_,Kz _ _ _,a4D _ _ _⟩;have hB:∃q,AX x.2.2 y.2.2 N=some q/\Du x.2.2 y.2.2 N=some q:=⟨_,a4b _ _ _,a1E _ _ _⟩;obtain⟨q,h1,h2⟩:=hA;obtain⟨q',h3,h4⟩:=hB
 (unfold kR RP EP aK aN mP dW fV;simp (disch:=decide) only[dG])
 unfold yQ DV;simp (disch:=decide) only[dG];rw[h1,h2,h3,h4];by_cases g2:y.1=2
 .rw[L8 g2,I4 (show y.1≠3 by rw[g2];decide)];simp (disch:=decide) only[dG];by_cases g3:x.1=3
  .rw[L8 g3,I4 (show x.1≠2 by rw[g3];decide)];simp (disch:=decide) only[dG];exact⟨_,rfl,rfl⟩
  rw[I4 g3];cases x8 x.1 2
  .exact⟨_,rfl,rfl⟩
  simp (disch:=decide) only[dG];exact⟨_,rfl,rfl⟩
 rw[I4 g2];simp (disch:=decide) only[dG];cases x8 x.1 3
 .exact⟨_,rfl,rfl⟩
 simp (disch:=decide) only[dG];cases x8 y.1 3
 .exact⟨_,rfl,rfl⟩
 simp (disch:=decide) only[dG];exact⟨_,rfl,rfl⟩
theorem DN(n:Int):(n<0/\aV n=-n)\/(0<=n/\aV n=n):=by
 unfold aV;by_cases h:n<0
 .left;exact⟨h,if_pos h⟩
 .right;exact⟨l7,if_neg h⟩
theorem b1c(a b:Int):(l9 (G6 (ji (F7 a 0) (F7 b 0))) (-(aV a*aV b)) (aV a*aV b))=a*b:=by
 rcases DN a with⟨h1,e1⟩|⟨h1,e1⟩<;>rcases DN b with⟨h2,e2⟩|⟨h2,e2⟩<;>rw[e1,e2]
 .rw[U0 h1,U0 h2];show -a*-b=a*b;rw[Int.neg_mul_neg]
 .rw[U0 h1,L6 h2];show -(-a*b)=a*b;rw[Int.neg_mul,Int.neg_neg]
 .rw[L6 h1,U0 h2];show -(a*-b)=a*b;rw[Int.mul_neg,Int.neg_neg]
 .rw[L6 h1,L6 h2];rfl
theorem a9F{a b:Int}(ha:-1000000000000000<=a/\a<=1000000000000000)(hb:-1000000000000<=b/\b<=1000000000000):BB a b=some (l9 (F7 1000000000000000 (aV a*aV b)) (0,3) (a*b,0)):=by
 unfold BB;rw[UQ l7 l7,UQ l7 l7];have A0:0<=aV a/\aV a<=1000000000000000:=by rcases DN a with⟨h1,e1⟩|⟨h1,e1⟩<;>omega
 have B0:0<=aV b/\aV b<=1000000000000:=by rcases DN b with⟨h1,e1⟩|⟨h1,e1⟩<;>omega
 rw[Vd A0.1 l7 B0.1 l7,o8];have hm:=b1c a b;have hp:0<=aV a*aV b:=X5 A0.1 B0.1;generalize aV a*aV b=p at hm hp ⊢;simp only;by_cases g:p / 18446744073709551616=0
 case neg=>rw[I4 g,U0 (show(1000000000000000:Int)<p by omega)];rfl
 rw[L8 g,show p % 18446744073709551616=p by omega];by_cases g2:1000000000000000<p
 .rw[U0 g2];rfl
 rw[L6 l7];simp only[E8,o6];rw[show wrap .i64 p=p from lY O6,U7 O6,show(0:Int) -p=-p by omega];rw[←hm];cases G6 (ji (F7 a 0) (F7 b 0))<;>rfl
theorem Oi{x y M:Int}(W:V3×Int)(hy:0<=y)(hM:0<=M)(hM2:M<=1000000000000000):l9 (G6 (x8 y 0)) (o5 (tZ .i64 M y) λ(q:Int)=>l9 (F7 q x) (some ((0,0,0),3)) (some W)) (some W)=some (l9 (F7 M (x*y)) ((0,0,0),3) W):=by
 by_cases h:y=0
 .subst h;rw[L8 rfl,Int.mul_zero,L6 hM];rfl
 rw[I4 h];simp only[bY,o7];rw[zF hM l7 l7,o8];have e:M / y<x↔M<x*y:=Int.ediv_lt_iff_lt_mul l7;by_cases g:M / y<x
 .rw[U0 g,U0 (e.1 g)];rfl
 .rw[L6 (jD.1 g),L6 (jD.1 λh=>g (e.2 h))];rfl
theorem a7p{k a b M:Int}(hM:ET k=some (-M,M))(hM0:0<=M)(hM2:M<=1000000000000000)(ha:-1000000000000000<=a/\a<=1000000000000000)(hb:-1000000000000<=b/\b<=1000000000000):xh k a b=some (l9 (F7 M (aV a*aV b)) ((0,0,0),3) (IE (k,0,aP .i64 a b))):=by
 unfold xh;rw[hM,o8];simp only[Ry,o8];have sa:I8 .i64 0 a=-a:=by rw[U7 O6];omega
 have sb:I8 .i64 0 b=-b:=by rw[U7 O6];omega
 rw[sa,sb];rcases DN a with⟨h1,e1⟩|⟨h1,e1⟩<;>rcases DN b with⟨h2,e2⟩|⟨h2,e2⟩<;>rw[e1,e2]
 .rw[U0 h1,U0 h2];exact Oi _ l7 hM0 hM2
 .rw[U0 h1,L6 h2];exact Oi _ l7 hM0 hM2
 .rw[L6 h1,U0 h2];exact Oi _ l7 hM0 hM2
 .rw[L6 h1,L6 h2];exact Oi _ l7 hM0 hM2
theorem a0r{k a b M:Int}(hk:Es k=(-M,M))(hM0:0<=M)(hM2:M<=1000000000000000)(ha:-1000000000000000<=a/\a<=1000000000000000)(hb:-1000000000000<=b/\b<=1000000000000):∃r:V3×Int,xh k a b=some r/\∃q:Int×Int,BB a b=some q/\VZ (k,0,q.1) q.2=r:=by
 refine⟨_,a7p (by rw[b1o,hk]) hM0 hM2 ha hb,_,a9F ha hb,?_⟩;have hm:=b1c a b;have hmd:aV a*aV b=aV (a*b):=by rcases DN (a*b)with⟨h,e⟩|⟨h,e⟩<;>(have hn:=X5 (oG a) (oG b);cases hq:G6 (ji (F7 a 0) (F7 b 0))<;>rw[hq]at hm<;>simp only[o7,o6]at hm<;>omega)
 rw[hmd];have habs:=DN (a*b);have hI:aV (a*b)<=1000000000000000->aP .i64 a b=a*b:=λh=>oH O6;have hpl:M<aV (a*b)->plB (k,0,a*b)=false:=by
  intro h;unfold plB;rw[hk];simp only;by_cases g:-M<=a*b
  .rw[ae g,aC (show M<a*b by omega)];rfl
  .rw[aC l7];rfl
 generalize a*b=p at*;by_cases g:1000000000000000<aV p
 .rw[U0 g,U0 l7];rfl
 rw[L6 l7,hI l7];simp only[o6,QP];by_cases g2:M<aV p
 .rw[U0 g2];unfold IE;rw[hpl g2];rfl
 .rw[L6 l7];rfl
theorem b2g{k e n:Int}(h:plB (k,e,n)=true):(k=2->-1000000000000<=n/\n<=1000000000000)/\(k=3->-1000000000000000<=n/\n<=1000000000000000):=by rcases Uf h with⟨m,h,g⟩|⟨m,h,g⟩|⟨m,h,g⟩|⟨m,h,g⟩|⟨m,h,g⟩|⟨e',m,h,g⟩<;>cases h<;>exact⟨λh=>by first|exact g|exact absurd h E5,λh=>by first|exact g|exact absurd h E5⟩
theorem c3N(N:Int)(x y:V3)(env:aA)(hx:plB x=true)(hy:plB y=true):kR (13,N) [x,y] env:=by
 have hX:=b2g (k:=x.1) (e:=x.2.1) (n:=x.2.2) hx;have hY:=b2g (k:=y.1) (e:=y.2.1) (n:=y.2.2) hy;have key:y.1=2->x.1=2\/x.1=3->∃r:V3×Int,xh x.1 x.2.2 y.2.2=some r/\∃q:Int×Int,BB x.2.2 y.2.2=some q/\VZ (x.1,0,q.1) q.2=r:=by
  intro h2 h;have hb:=hY.1 h2;rcases h with h|h
  .have ha:=hX.1 h;exact a0r (M:=1000000000000) (by rw[h];rfl) E5 E5 ⟨Int.le_trans E5 ha.1,Int.le_trans ha.2 E5⟩ hb
  .have ha:=hX.2 h;exact a0r (M:=1000000000000000) (by rw[h];rfl) E5 E5 ha hb
 (unfold kR RP EP aK aN mP dW fV;simp (disch:=decide) only[dG])
 unfold yQ DV;simp (disch:=decide) only[dG];cases g2:x8 y.1 2
 .exact⟨_,rfl,rfl⟩
 by_cases g3:x.1=3
 .obtain⟨r,e1,q,e2,e3⟩:=key (U4.1 g2) (.inr g3);rw[L8 g3,I4 (show x.1≠2 by rw[g3];decide)];simp (disch:=decide) only[dG];rw[e1,e2];simp (disch:=decide) only[dG];exact⟨_,rfl,congrArg some e3⟩
 rw[I4 g3];cases g4:x8 x.1 2
 .exact⟨_,rfl,rfl⟩
 obtain⟨r,e1,q,e2,e3⟩:=key (U4.1 g2) (.inl (U4.1 g4));simp (disch:=decide) only[dG];rw[e1,e2];simp (disch:=decide) only[dG];exact⟨_,rfl,congrArg some e3⟩
theorem b4H:∀i:Fin 40,nY ((i.1:Nat):Int)=zI ((i.1:Nat):Int):=by decide+kernel
theorem b5b:∀i:Fin 40,(lG ((i.1:Nat):Int)=0->i.1∈[1,2,3,4,5,6,7,8,9,35,36,37,38,39])/\(lG ((i.1:Nat):Int)=1->i.1∈[10,25,31,32,33,34])/\(lG ((i.1:Nat):Int)=2->i.1∈[11,12,13,14,15,16,17,18,19,20,21,22,23,24,27,28,29,30])/\(lG ((i.1:Nat):Int)=3->i.1=26):=by decide+kernel
variable {k:Int}
theorem c2p(h:k<1\/39<k):lG k=-1:=by
 unfold lG qm;rw[I4 l7,I4 l7,I4 (show k≠31 by omega),I4 l7,I4 (show k≠33 by omega),I4 (show k≠34 by omega),I4 l7];rcases h with h|h
 .rw[aC l7,aC (show k<35 by omega),aC (show k<11 by omega)];rfl
 .rw[ae l7,aC l7,ae l7,aC l7,ae l7,aC l7];rfl
theorem c4a(h:lG k≠-1):∃i:Fin 40,k=((i.1:Nat):Int):=by
 by_cases g:1<=k/\k<=39
 .exact⟨⟨k.toNat,l7⟩,by grind⟩
 grind [c2p]
theorem b9M(h:lG k≠-1):nY k=zI k:=by
 grind [c4a,b4H]
theorem a2I(k:Int):∃b,zI k=some b:=by unfold zI;cases S9 1 k<;>cases S9 k 8<;>cases S9 36 k<;>cases S9 k 39<;>cases x8 k 14<;>cases x8 k 15<;>cases x8 k 16<;>cases x8 k 33<;>exact⟨_,rfl⟩
def a8R(k N:Int):Bool:=l9 (l9 (x8 k 14) true (l9 (x8 k 15) true (x8 k 16))) (l9 (S9 0 N) (S9 N 5) false) (l9 (x8 k 34) (l9 (S9 0 N) (S9 (fC N 8) 5) false) (l9 (x8 k 6) (S9 0 N) true))
theorem a6q(k N:Int):(o5 (l9 (x8 k 14) (some (x8 k 14)) (l9 (x8 k 15) (some (x8 k 15)) (some (x8 k 16)))) λ(x:Bool)=>l9 x (l9 (S9 0 N) (some (S9 N 5)) (some false)) (l9 (x8 k 34) (l9 (S9 0 N) (some (S9 (fC N 8) 5)) (some false)) (l9 (x8 k 6) (some (S9 0 N)) (some true))))=some (a8R k N):=by unfold a8R;cases x8 k 14<;>cases x8 k 15<;>cases x8 k 16<;>cases S9 0 N<;>cases x8 k 34<;>cases x8 k 6<;>rfl
def Yt(k N:Int):Bool:=l9 (x8 N 0) (a8R k N) (l9 ((zI k).getD false) (a8R k N) false)
theorem a2v{k N c:Int}(h:lG k=c):IK (k,N) c=some (Yt k N):=by unfold IK Yt;rw[b7v,o8,L8 h];simp[E8,o6,a6q];obtain⟨b,hb⟩:=a2I k;rw[hb];cases x8 N 0<;>cases b<;>rfl
variable {N:Int}
theorem QO(h:lG k≠-1):nI (k,N)=some (Yt k N):=by unfold nI Yt;rw[Kr,o8,L6 (show 0<=lG k by have:=(LY k).2.2;omega)];simp[o6,a6q];rw[b9M h];obtain⟨b,hb⟩:=a2I k;rw[hb];cases x8 N 0<;>cases b<;>rfl
theorem b0W(k N:Int):∃b,nI (k,N)=some b:=by
 by_cases h:lG k=-1
 .refine⟨false,?_⟩;unfold nI;rw[Kr,h];rfl
 .exact⟨_,QO h⟩
theorem XC(n:Int×Int)(env:aA):∃b,jd n env=some b:=by
 unfold jd;by_cases h7:n.1=7
 .rw[L8 h7];cases S9 0 n.2<;>exact⟨_,rfl⟩
 rw[I4 h7];by_cases h8:n.1=8
 .rw[L8 h8];by_cases g:0<=n.2
  case neg=>simp_all [aC]
  by_cases g2:n.2<o9 env.2.2.1
  case neg=>simp_all [ae,L6]
  obtain⟨x,hx,_⟩:=qA g g2<;>simp_all [ae,U0]
 rw[I4 h8];cases x8 n.1 33
 .cases x8 n.1 34
  .cases x8 n.1 36<;>cases x8 n.1 37<;>cases x8 n.1 38<;>cases x8 n.1 39<;>cases S9 0 n.2<;>exact⟨_,rfl⟩
  .simp
 .cases S9 0 n.2<;>exact⟨_,rfl⟩
variable {α:Type}
theorem b9W(l:List α)(p:α->Bool):l.all p= !l.any λv=> !p v:=by
 grind
theorem Zm(l:List V3)(hl:l.length<=1000000):zX l=some (l.all plB):=by
 unfold zX;have e:=Kq l (λv=> !plB v) false PUnit.unit (f:=λ(x:Int)=>l9 (F7 x (o9 l)) (o5 (H9 l x) λ(x_1:V3)=>o5 (jE x_1) λ(x_2:Bool)=>l9 (G6 x_2) (some (Out.rt false)) (some (Out.nx (A8 IntKind.i64 x 1)))) (some (Out.ex PUnit.unit))) hl
  (λi a hi=>by
   have hlt:(i:Int)<o9 l:=by
    grind [o9]
   have hm:=G8 l i;rw[hi]at hm;simp[U0 hlt,o7,hm,o8,wM];cases plB a<;>rfl) (by simp[L6,o9])
 rw[show bD _ _=_ from e];rw[b9W l plB];cases l.any λv=> !plB v<;>rfl
theorem a3b(l:List V3)(hl:l.length<=1000000){γ:Type}{K:V3⊕(V3×Int)->Option γ} :(o5 (bD
      (λ(x:V3×Int)=>
       l9 (F7 x.2 (o9 l))
        (o5 (H9 l x.2) λ(x_1:V3)=>
         o5 (lH x_1) λ(x_2:Bool)=>
          l9 (G6 x_2) (some (Out.rt (((0,0,0),8):V3×Int))) (some (Out.nx (x.1,A8 IntKind.i64 x.2 1))))
        (some (Out.ex x.1)))
      ((0,0,0),0)) K)=K (l9 (l.all plB) (.inl (0,0,0)) (.inr ((0,0,0),8))):=by
 have hf:∀(l:List V3) (u:V3),eG (λ(_:V3) (v:V3)=>(l9 (plB v) (.inl ((0,0,0):V3)) (.inr (((0,0,0),8):V3×Int)):V3⊕(V3×Int))) l (0,0,0)=l9 (l.all plB) (.inl (0,0,0)) (.inr ((0,0,0),8)):=by
  intro l u;induction l with
  |nil=>rfl|cons a l ih=>unfold eG;rw[List.all_cons];cases plB a<;>simp_all
 apply pM l (λ(_:V3) (v:V3)=>(l9 (plB v) (.inl ((0,0,0):V3)) (.inr (((0,0,0),8):V3×Int)):V3⊕(V3×Int))) (λb i=>((b,i):V3×Int)) (λb=>b) (λi b=>b=(0,0,0)) (0,0,0) hl rfl
 .intro i a b hi hi' hb;subst hb;have hlt:(i:Int)<o9 l:=by
   grind [o9]
  have hm:=G8 l i;rw[hi]at hm;simp[U0 hlt,o7,hm,o8,uJ];cases plB a
  .simp
  .exact⟨by rw[ja l7];rfl,λ_ h=>by simp_all⟩
 .simp[L6,o9]
 .rw[hf l (0,0,0)]
  grind
structure EvOk (env:aA):Prop where
 ms:env.2.2.2.1.length<=1000000
 tb:∀t∈env.2.2.2.2.2,BV t
theorem b4X(k N:Int)(args:List V3)(env:aA)(hE:EvOk env)(hN:-9223372036854775808<=N/\N<=9223372036854775807)(hk:k≠23/\k≠24/\k≠26)(ha:lG k=o9 args)(hf:Yt k N=true)(he:jd (k,N) env=some true)(hp:args.all plB=true):kR (k,N) args env:=by
 have hne:lG k≠-1:=by rw[ha];unfold o9;omega
 have hN34:k=34->0<=N:=by
  rintro rfl;unfold Yt at hf;have:a8R 34 N=true:=by
   cases g:x8 N 0<;>rw[g]at hf
   .exact hf
   .exact hf
  unfold a8R at this;by_cases g:0<=N
  .exact g
  .rw[aC l7]at this;cases this
 obtain⟨i,hi⟩:=c4a hne;obtain⟨a0,a1,a2,a3⟩:=b5b i;rw[←hi,ha]at a0 a1 a2 a3;match args,ha,hp with
 |[],ha,hp=>
  have:=a0 rfl;simp only[C9,jy,or_false]at this;rcases this with h|h|h|h|h|h|h|h|h|h|h|h|h|h<;>rw[h]at hi<;>subst hi
  .exact Ux _ _ _ E5
  .exact Ux _ _ _ E5
  .exact Ux _ _ _ E5
  .exact Ux _ _ _ E5
  .exact Ux _ _ _ E5
  .exact c7T _ _
  .exact c7U _ _ he
  .exact c7V _ _ he
  .exact c7W _ _
  .exact c3Z _ _
  .exact YE _ _ _ E5 he hE.ms
  .exact YE _ _ _ E5 he hE.ms
  .exact YE _ _ _ E5 he hE.ms
  .exact YE _ _ _ E5 he hE.ms
 |[x],ha,hp=>
  have hx:plB x=true:=by simpa using hp
  have:=a1 rfl;simp only[C9,jy,or_false]at this;rcases this with h|h|h|h|h|h<;>rw[h]at hi<;>subst hi
  .exact c3M _ _ _
  .exact c3R _ _ _
  .exact b1j _ _ _ _ E5 hx
  .exact b1j _ _ _ _ E5 hx
  .exact c3X _ _ _ hx he hE.tb
  .exact c3Y _ _ _ (hN34 rfl) hN.2 he hE.tb
 |[x,y],ha,hp=>
  have hxy:plB x=true/\plB y=true:=by simp_all
  have:=a2 rfl;simp only[C9,jy,or_false]at this;rcases this with h|h|h|h|h|h|h|h|h|h|h|h|h|h|h|h|h|h<;>rw[h]at hi<;>subst hi
  all_goals simp_all [b1h,c3N,c3O,c3P,c3Q,Zt,b4Y,b1i,c3S,c3T,c3V,c3W]
 |[x,y,z],ha,hp=>have h:=a3 rfl;omega|x::y::z::w::l,ha,hp=>
  have h1:=(LY k).2.2
  grind [o9]
theorem a5I(k N:Int)(args:List V3)(env:aA)(hE:EvOk env)(hN:-9223372036854775808<=N/\N<=9223372036854775807)(hk:k≠23/\k≠24/\k≠26)(hl:args.length<=1000000):∃r:V3×Int,yx (k,N) args env=some r/\pz (k,N) args env=some r:=by
 by_cases ha:lG k=o9 args
 case neg=>
  refine⟨((0,0,0),2),?_,?_⟩
  .unfold yx IK;rw[b7v,o8,I4 ha];rfl
  .unfold pz;obtain⟨b,hb⟩:=b0W k N;rw[hb,o8];cases b
   .rfl
   .rw[Kr,o8,I4 (λh=>ha h.symm)];rfl
 have hne:lG k≠-1:=by rw[ha];unfold o9;omega
 unfold yx pz;rw[a2v ha,QO hne,Kr];simp only[o8,L8 ha.symm];cases hf:Yt k N
 .exact⟨_,rfl,rfl⟩
 simp only[E8,o6,o8,V4];obtain⟨b,hb⟩:=XC (k,N) env;rw[show yz (k,N) env=some b from hb,hb];cases b
 .exact⟨_,rfl,rfl⟩
 simp only[o8,E8,o6];rw[a3b args hl,Zm args hl,o8];cases hp:args.all plB
 .exact⟨_,rfl,rfl⟩
 exact b4X k N args env hE hN hk ha hf hb hp
def XT.node:XT->Int×Int
 | .l0 n=>n| .l1 n _=>n| .l2 n _ _=>n| .l3 n _ _ _=>n
def rtI(t:XT)(o:Nat):Nat:=o+t.size -1
def At(e:List (Int×Int))(S:d4D)(t:XT)(o:Nat):Prop:=∃pre suf S1 S2,e=pre++t.post++suf/\S=S1++t.sts o++S2/\pre.length=o/\S1.length=o
variable {e:List (Int×Int)}{n:Int×Int}{S:d4D}{o:Nat}
theorem b5f{a:XT}(h:At e S (.l1 n a) o):At e S a o:=by obtain⟨p,s,S1,S2,h1,h2,h3,h4⟩:=h;exact⟨p,[n]++s,S1,[(o:Int)]++S2,by simp_all [XT.post],by simp_all [XT.sts],h3,h4⟩
theorem Uz{a b:XT}(h:At e S (.l2 n a b) o):At e S a o/\At e S b (o+a.size):=by
 obtain⟨p,s,S1,S2,h1,h2,h3,h4⟩:=h;exact⟨⟨p,b.post++[n]++s,S1,b.sts (o+a.size)++[(o:Int)]++S2,by simp_all [XT.post],by simp_all [XT.sts],h3,h4⟩,
  ⟨p++a.post,[n]++s,S1++a.sts o,[(o:Int)]++S2,by simp_all [XT.post],by simp_all [XT.sts],by grind [XT.post_len],by grind [XT.sts_len]⟩⟩
theorem UA{a b c:XT}(h:At e S (.l3 n a b c) o):At e S a o/\At e S b (o+a.size)/\At e S c (o+a.size+b.size):=by
 obtain⟨p,s,S1,S2,h1,h2,h3,h4⟩:=h;exact⟨⟨p,b.post++c.post++[n]++s,S1,b.sts (o+a.size)++c.sts (o+a.size+b.size)++[(o:Int)]++S2,by simp_all [XT.post],by simp_all [XT.sts],h3,h4⟩,
  ⟨p++a.post,c.post++[n]++s,S1++a.sts o,c.sts (o+a.size+b.size)++[(o:Int)]++S2,by simp_all [XT.post],by simp_all [XT.sts],by grind [XT.post_len],by grind [XT.sts_len]⟩,
  ⟨p++a.post++b.post,[n]++s,S1++a.sts o++b.sts (o+a.size),[(o:Int)]++S2,by simp_all [XT.post],by simp_all [XT.sts],by grind [XT.post_len],by grind [XT.sts_len]⟩⟩
theorem b4c(t:XT):∃p,t.post=p++[t.node]/\p.length+1=t.size:=by
 have hl:=t.post_len;cases t with
 |l0 n=>exact⟨[],rfl,rfl⟩|l1 n a=>refine⟨a.post,rfl,?_⟩<;>simp_all [XT.post]|l2 n a b=>refine⟨a.post++b.post,rfl,?_⟩<;>grind [XT.post]|l3 n a b c=>refine⟨a.post++b.post++c.post,rfl,?_⟩<;>grind [XT.post]
theorem b9n(t:XT)(o:Nat):∃p,t.sts o=p++[(o:Int)]/\p.length+1=t.size:=by have hl:=t.sts_len o;cases t<;>grind [XT.sts]
theorem vW{t:XT}(h:At e S t o):e[rtI t o]? =some t.node/\S[rtI t o]? =some (o:Int)/\rtI t o<e.length:=by
 obtain⟨p,s,S1,S2,h1,h2,h3,h4⟩:=h;obtain⟨q,e1,e2⟩:=b4c t;obtain⟨q',e1',e2'⟩:=b9n t o;have hp:=t.size_pos;have a1:e[rtI t o]? =some t.node:=by
  rw[h1,e1,G7,G7,←G7 p,F6 (by grind [rtI])]
  grind [rtI]
 refine⟨a1,?_,(U8.1 a1).1⟩;rw[h2,e1',G7,G7,←G7 S1,F6 (by grind [rtI])]
 grind [rtI]
def Vq:XT->Nat->d4D
 | .l0 _,_=>[]| .l1 _ a,o=>[(rtI a o:Int)]| .l2 _ a b,o=>[(rtI a o:Int),(rtI b (o+a.size):Int)]| .l3 _ a b c,o=>[(rtI a o:Int),(rtI b (o+a.size):Int),(rtI c (o+a.size+b.size):Int)]
structure OStep (S:d4D) (f:d4D×Int×Int->Option ((d4D×Int×Int)⊕d4D)):Prop where
 step:∀(l:d4D) (c:Nat) (j:Nat) (x:Nat),j<l.length->l.length<=3->S[c]? =some ((x:Nat):Int)->x<=100->f (l,(c:Int),(j:Int))=some (.inl (l.set j (c:Int),(x:Int) -1,(j:Int) -1))
 stop:∀(l:d4D) (c:Int),f (l,c,-1)=some (.inr l)
variable {σ:Type}{ε:Type}{f:σ->Option (σ⊕ε)}
theorem DZ{s s' :σ}{n:Nat}(h:f s=some (.inl s')):qC f (n+1) s=qC f n s' :=by rw[qC,h]
theorem Jf{s:σ}{e:ε}{n:Nat}(h:f s=some (.inr e)):qC f (n+1) s=some e:=by rw[qC,h]
theorem a6Z{t:XT}{f:d4D×Int×Int->Option ((d4D×Int×Int)⊕d4D)}(hs:OStep S f)(h:At e S t o)(he:e.length<=48)(hw:t.wf):
  X8 f (List.replicate (lG t.node.1).toNat 0,(rtI t o:Int) -1,lG t.node.1 -1)=some (Vq t o):=by
 obtain⟨k,hk⟩:∃k,kK=k+1+1+1+1:=⟨kK -4,by simp[kK]⟩;unfold X8;rw[hk];cases t with
 |l0 n=>rw[show lG (XT.l0 n).node.1=0 from hw];exact Jf (hs.stop _ _)|l1 n a=>rw[show lG (XT.l1 n a).node.1=1 from hw.1];have ha:=vW (b5f h);have p1:=a.size_pos;rw[show((rtI (.l1 n a) o:Nat):Int) -1=((rtI a o:Nat):Int) by grind [rtI,XT.size]];rw[show((1:Int) -1)=((0:Nat):Int)from rfl,DZ (hs.step _ _ 0 o x9 x9 ha.2.1 (by grind [rtI]))];rw[show(((0:Nat):Int) -1)=-1 from rfl,Jf (hs.stop _ _)];rfl|l2 n a b=>rw[show lG (XT.l2 n a b).node.1=2 from hw.1];have ha:=vW (Uz h).1;have hb:=vW (Uz h).2;have p1:=a.size_pos;rw[show((rtI (.l2 n a b) o:Nat):Int) -1=((rtI b (o+a.size):Nat):Int) by grind [rtI,XT.size]];rw[show((2:Int) -1)=((1:Nat):Int)from rfl,DZ (hs.step _ _ 1 (o+a.size) x9 x9 hb.2.1 (by grind [rtI]))];rw[show((o+a.size:Nat):Int) -1=((rtI a o:Nat):Int) by grind [rtI],show(((1:Nat):Int) -1)=((0:Nat):Int)from rfl];rw[DZ (hs.step _ _ 0 o x9 x9 ha.2.1 (by grind [rtI]))];rw[show(((0:Nat):Int) -1)=-1 from rfl,Jf (hs.stop _ _)];rfl|l3 n a b c=>rw[show lG (XT.l3 n a b c).node.1=3 from hw.1];have ha:=vW (UA h).1;have hb:=vW (UA h).2.1;have hc:=vW (UA h).2.2;have p1:=a.size_pos;rw[show((rtI (.l3 n a b c) o:Nat):Int) -1=((rtI c (o+a.size+b.size):Nat):Int) by grind [rtI,XT.size]];rw[show((3:Int) -1)=((2:Nat):Int)from rfl,DZ (hs.step _ _ 2 (o+a.size+b.size) x9 x9 hc.2.1 (by grind [rtI]))];rw[show((o+a.size+b.size:Nat):Int) -1=((rtI b (o+a.size):Nat):Int) by grind [rtI],show(((2:Nat):Int) -1)=((1:Nat):Int)from rfl];rw[DZ (hs.step _ _ 1 (o+a.size) x9 x9 hb.2.1 (by grind [rtI]))];rw[show((o+a.size:Nat):Int) -1=((rtI a o:Nat):Int) by grind [rtI],show(((1:Nat):Int) -1)=((0:Nat):Int)from rfl];rw[DZ (hs.step _ _ 0 o x9 x9 ha.2.1 (by grind [rtI]))];rw[show(((0:Nat):Int) -1)=-1 from rfl,Jf (hs.stop _ _)];rfl
theorem c3F{t:XT}(h:t.wf):0<=lG t.node.1/\lG t.node.1<=3:=by
 cases t with
 |l0 n=>rw[show lG (XT.l0 n).node.1=0 from h];decide|l1 n a=>rw[show lG (XT.l1 n a).node.1=1 from h.1];decide|l2 n a b=>rw[show lG (XT.l2 n a b).node.1=2 from h.1];decide|l3 n a b c=>rw[show lG (XT.l3 n a b c).node.1=3 from h.1];decide
theorem BI(h:0<=k)(h2:k<=1000000)(x:α):lI k x=some (List.replicate k.toNat x):=if_pos ⟨h,l7⟩
theorem KJ{t:XT}(env:aA)(h:At e S t o)(he:e.length<=48)(hw:t.wf):oC (e,S,env) (rtI t o:Int)=some (Vq t o):=by
 have hr:=vW h;have ha:=c3F hw;unfold oC;simp only[G8,hr.1,o8,Kr];rw[BI ha.1 l7,o8,dL];rw[show I8 .i64 ((rtI t o:Nat):Int) 1=(rtI t o:Int) -1 from U7 (by grind [iq])];rw[show I8 .i64 (o9 (List.replicate (lG t.node.1).toNat (0:Int))) 1=lG t.node.1 -1 by
  grind [o9,U7,iq]]
 refine a6Z ⟨λl c j x hj hl hx hx2=>?_,λl c=>?_⟩ h he hw
 .grind [ae,o7,G8,o8,P7,O9,Int.toNat_natCast,V8,U7,iq]
 .rfl
def mY(n:Int×Int)(args:List V3)(env:aA):V3×Int:=(yx n args env).getD ((0,0,0),0)
variable {env:aA}
theorem IZ(args:List V3)(hE:EvOk env)(hI:iq n.2)(hk:n.1≠23/\n.1≠24/\n.1≠26)(hl:args.length<=3):yx n args env=some (mY n args env)/\pz n args env=some (mY n args env):=by
 obtain⟨r,h1,h2⟩:=a5I n.1 n.2 args env hE (by unfold iq at hI;omega) hk l7;have e:mY n args env=r:=by unfold mY;rw[show yx n args env=some r from h1];rfl
 rw[e];exact⟨h1,h2⟩
def lzB(k:Int):Bool:=l9 (x8 k 23) true (l9 (x8 k 24) true (x8 k 26))
theorem c2u(h:lzB k=false):k≠23/\k≠24/\k≠26:=by refine⟨?_,?_,?_⟩<;>(rintro rfl;revert h;decide)
def yu(r:V3×Int):V3×Int:=l9 (x8 r.2 0) (l9 (x8 r.1.1 1) (l9 (plB r.1) (r.1,0) ((0,0,0),8)) ((0,0,0),8)) ((0,0,0),r.2)
def a2E(n:Int×Int)(ra rb:V3×Int):V3×Int:=l9 (x8 n.2 0) (l9 (x8 (yu ra).2 0) (l9 (ji (x8 n.1 23) (x8 (yu ra).1.2.2 0)) ((yu ra).1,0) (yu rb)) ((0,0,0),(yu ra).2)) ((0,0,0),2)
def a6B(n:Int×Int)(ra rb rc:V3×Int):V3×Int:=l9 (x8 n.2 0) (l9 (x8 (yu ra).2 0) (l9 (x8 (yu ra).1.2.2 1) rb rc) ((0,0,0),(yu ra).2)) ((0,0,0),2)
def evT(env:aA):XT->V3×Int
 | .l0 n=>mY n [] env| .l1 n a=>l9 (x8 (evT env a).2 0) (mY n [(evT env a).1] env) ((0,0,0),(evT env a).2)| .l2 n a b=>l9 (lzB n.1) (a2E n (evT env a) (evT env b)) (l9 (x8 (evT env a).2 0) (l9 (x8 (evT env b).2 0) (mY n [(evT env a).1,(evT env b).1] env) ((0,0,0),(evT env b).2)) ((0,0,0),(evT env a).2))| .l3 n a b c=>a6B n (evT env a) (evT env b) (evT env c)
abbrev VSt:Type:=V3×List V3×Int
structure VStep (ops:d4D) (ev:Int->Option (V3×Int)) (pad:List V3->List V3) (f:VSt->Option (Out VSt (V3×List V3) (V3×Int))):Prop where
 step:∀(l:List V3) (c:Int) (r:V3×Int),ops[l.length]? =some c->ev c=some r->f ((0,0,0),pad l,(l.length:Int))=some (l9 (x8 r.2 0) (.nx ((0,0,0),pad (l++[r.1]),((l.length+1:Nat):Int))) (.rt ((0,0,0),r.2)))
 stop:∀(l:List V3),l.length=ops.length->f ((0,0,0),pad l,(l.length:Int))=some (.ex ((0,0,0),l))
section
variable {ev:Int->Option (V3×Int)} {pad:List V3->List V3} {f:VSt->Option (Out VSt (V3×List V3) (V3×Int))}
theorem v0(h:VStep [] ev pad f):bD f ((0,0,0),pad [],0)=some (.inl ((0,0,0),[])):=by obtain⟨k,hk⟩:∃k,kK=k+1:=⟨kK -1,by unfold kK;omega⟩;unfold bD;rw[hk,qi,show f ((0,0,0),pad [],0)=some (.ex ((0,0,0),[]))from h.stop [] rfl]
theorem v1{c:Int}{r:V3×Int}(h:VStep [c] ev pad f)(h1:ev c=some r):bD f ((0,0,0),pad [],0)=some (l9 (x8 r.2 0) (.inl ((0,0,0),[r.1])) (.inr ((0,0,0),r.2))):=by
 obtain⟨k,hk⟩:∃k,kK=k+1+1:=⟨kK -2,by unfold kK;omega⟩;unfold bD;rw[hk,qi,show f ((0,0,0),pad [],0)=_ from h.step [] c r rfl h1];cases x8 r.2 0
 .rfl
 .simp only[o7];rw[qi,show f ((0,0,0),pad ([]++[r.1]),(([].length+1:Nat):Int))=_ from h.stop [r.1] rfl]
theorem v2{c d:Int}{r q:V3×Int}(h:VStep [c,d] ev pad f)(h1:ev c=some r)(h2:ev d=some q):bD f ((0,0,0),pad [],0)=some (l9 (x8 r.2 0) (l9 (x8 q.2 0) (.inl ((0,0,0),[r.1,q.1])) (.inr ((0,0,0),q.2))) (.inr ((0,0,0),r.2))):=by
 obtain⟨k,hk⟩:∃k,kK=k+1+1+1:=⟨kK -3,by unfold kK;omega⟩;unfold bD;rw[hk,qi,show f ((0,0,0),pad [],0)=_ from h.step [] c r rfl h1];cases x8 r.2 0
 .rfl
 .simp only[o7];rw[qi,show f ((0,0,0),pad ([]++[r.1]),(([].length+1:Nat):Int))=_ from h.step [r.1] d q rfl h2];cases x8 q.2 0
  .rfl
  .simp only[o7];rw[qi,show f ((0,0,0),pad ([r.1]++[q.1]),(([r.1].length+1:Nat):Int))=_ from h.stop [r.1,q.1] rfl]
end
theorem PI(h:lG k=0\/lG k=1):k≠23/\k≠24/\k≠26:=by refine⟨?_,?_,?_⟩<;>(rintro rfl;revert h;decide)
theorem Zv(h:lG k=2):k≠26:=by rintro rfl;revert h;decide
theorem a8o(h:lG k=3):k=26:=by obtain⟨i,rfl⟩:=c4a (by rw[h];decide);rw[(b5b i).2.2.2 h];rfl
theorem d2C(n:Nat)(E:bW)(i:Int):(D8 (n+1)).1 E i=ul (D8 n).1 (D8 n).2.1 (D8 n).2.2 E i:=rfl
theorem d2D(n:Nat)(E:bW)(i:Int):(D8 (n+1)).2.1 E i=wZ (D8 n).1 (D8 n).2.1 (D8 n).2.2 E i:=rfl
theorem c3u(n:Nat)(E:bW)(x:Int×Int)(l:d4D):(D8 (n+1)).2.2 E x l=qV (D8 n).1 (D8 n).2.1 (D8 n).2.2 E x l:=rfl
variable {E:bW}
theorem TL{n:Nat}{i:Int}{r:V3×Int}(h:(D8 n).2.1 E i=some r):(D8 (n+1)).1 E i=some (yu r):=by
 rw[d2C];unfold ul yu;rw[h,o8];cases x8 r.2 0
 .rfl
 cases x8 r.1.1 1
 .rfl
 simp only[E8,o6,o7];rw[wM,o8];cases plB r.1<;>rfl
theorem b5W{n:Nat}{x:Int×Int}{i j:Int}{ra rb:V3×Int}(hx:x.1≠26)(h1:(D8 n).2.1 E i=some ra)(h2:(D8 n).2.1 E j=some rb):(D8 (n+2)).2.2 E x [i,j]=some (a2E x ra rb):=by
 rw[show n+2=(n+1)+1 from rfl,c3u];unfold qV a2E;rw[show H9 [i,j] 0=some i from rfl,show H9 [i,j] 1=some j from rfl];simp only[o8];rw[TL h1,TL h2,I4 hx];cases x8 x.2 0
 .rfl
 simp only[o8,E8,o6,o7];cases x8 (yu ra).2 0
 .rfl
 simp only[E8,o6,o7];cases ji (x8 x.1 23) (x8 (yu ra).1.2.2 0)<;>rfl
theorem b5X{n:Nat}{x:Int×Int}{i j l:Int}{ra rb rc:V3×Int}(hx:x.1=26)(h1:(D8 n).2.1 E i=some ra)(h2:(D8 (n+1)).2.1 E j=some rb)(h3:(D8 (n+1)).2.1 E l=some rc):(D8 (n+2)).2.2 E x [i,j,l]=some (a6B x ra rb rc):=by
 rw[show n+2=(n+1)+1 from rfl,c3u];unfold qV a6B;rw[show H9 [i,j,l] 0=some i from rfl,show H9 [i,j,l] 1=some j from rfl,show H9 [i,j,l] 2=some l from rfl];simp only[o8];rw[TL h1,h2,h3,L8 hx];cases x8 x.2 0
 .rfl
 simp only[o8,E8,o6,o7];cases x8 (yu ra).2 0
 .rfl
 simp only[E8,o6,o7];cases x8 (yu ra).1.2.2 1<;>rfl
def a1D(m:Nat)(l:List V3):List V3:=l++List.replicate (m -l.length) (0,0,0)
theorem b6M{m:Nat}{l:List V3}(h:l.length<m):(a1D m l)[l.length]? =some (0,0,0):=by unfold a1D;rw[F6 (D5 _),aU,eQ,if_pos l7]
theorem b6N{m:Nat}{l:List V3}(v:V3)(h:l.length<m):(a1D m l).set l.length v=a1D m (l++[v]):=by unfold a1D;obtain⟨k,hk⟩:∃k,m -l.length=k+1:=⟨m -l.length -1,l7⟩;rw[jI _ _ (D5 _),aU,hk,kz,List.set_cons_zero];rw[show m -(l++[v]).length=k by simp;omega];simp
theorem b3Z{m:Nat}{l:List V3}(h:l.length=m):a1D m l=l:=by unfold a1D;rw[h,aU];simp
def b2b(ev:Int->Option (V3×Int))(ops:d4D)(x:VSt):Option (Out VSt (V3×List V3) (V3×Int)):=
 l9 (F7 x.2.2 (o9 ops))
  (o5 (H9 ops x.2.2) λ(x_4:Int)=>
   o5 (P7 ops (O9 x.2.2)) λ(x_5:Int)=>
    o5 (ev x_5) λ(x_6:V3×Int)=>
     l9 (G6 (x8 x_6.2 0)) (some (Out.rt ((0,0,0),x_6.2)))
      (o5 (H9 x.2.1 x.2.2) λ(x_7:V3)=>
       o5 (P7 x.2.1 (O9 x.2.2)) λ(x_8:V3)=>
        some (Out.nx (x.1,V8 x.2.1 (O9 x.2.2) x_6.1,A8 IntKind.i64 x.2.2 1))))
  (some (Out.ex (x.1,x.2.1)))
theorem Ub(ev:Int->Option (V3×Int))(ops:d4D)(ho:ops.length<=3):VStep ops ev (a1D ops.length) (b2b ev ops):=by
 refine⟨λl c r h1 h2=>?_,λl h=>?_⟩
 .have hl:=(U8.1 h1).1;unfold b2b;simp only[au h1,o7,G8,h1,o8,P7,O9,D9,h2,b6M hl,V8,b6N _ hl];cases x8 r.2 0
  .rfl
  .simp only[E8,o6,o7];rw[ja l7]
 .unfold b2b;rw[b3Z h,h,ak];rfl
theorem YP(n:Nat)(E:bW)(i:Int)(x:Int×Int)(ops:d4D)(h1:H9 E.1 i=some x)(h2:oC E i=some ops)(ho:ops.length<=3):
  (D8 (n+1)).2.1 E i=l9 (lzB x.1) ((D8 n).2.2 E x ops)
   (o5 (bD (b2b ((D8 n).2.1 E) ops) ((0,0,0),a1D ops.length [],0)) λ(o:V3×List V3⊕V3×Int)=>bn o (λ(y:V3×List V3)=>pz x y.2 E.2.2) λ(r:V3×Int)=>some r):=by
 rw[d2D];unfold wZ lzB;simp only[h1,h2,o8,dL];rw[show o9 ops=(ops.length:Int)from rfl];have hp:lI (ops.length:Int) (((0,0,0):Int×Int×Int))=some (a1D ops.length []):=by rw[BI l7 l7];rfl
 cases g1:x8 x.1 23
 .cases g2:x8 x.1 24
  .cases g3:x8 x.1 26
   .simp only[o6,o8,V4];rw[show lI (ops.length:Int) _=_ from hp,o8];rfl
   .simp only[o6,o7];generalize (D8 n).2.2 E x ops=q;cases q<;>rfl
  .simp only[o6,o7];generalize (D8 n).2.2 E x ops=q;cases q<;>rfl
 .simp only[o7];generalize (D8 n).2.2 E x ops=q;cases q<;>rfl
theorem Vr(t:XT)(o:Nat):(Vq t o).length<=3:=by cases t<;>simp[Vq]
theorem a6l(hE:EvOk env)(he:e.length<=48)(hI:∀n∈e,iq n.2):∀(t:XT) (o k:Nat),At e S t o->t.wf->3*t.size<=k->(D8 k).2.1 (e,S,env) (rtI t o:Int)=some (evT env t):=by
 intro t;induction t with
 |l0 n=>intro o k h hw hk;have hr:=vW h;obtain⟨k,rfl⟩:∃m,k=m+3:=⟨k -3,by simp only[XT.size]at hk;omega⟩;have hz:=PI (.inl (show lG n.1=0 from hw));rw[show k+3=(k+2)+1 from rfl,YP _ _ _ n (Vq (.l0 n) o) (by rw[G8];exact hr.1) (KJ env h he hw) (Vr _ _)];rw[show lzB n.1=false by unfold lzB;rw[I4 hz.1,I4 hz.2.1,I4 hz.2.2];rfl,o6];rw[show Vq (.l0 n) o=[]from rfl,v0 (Ub _ _ x9),o8,V4];exact(IZ [] hE (hI n (lM hr.1)) hz x9).2
 |l1 n a iha=>
  intro o k h hw hk;have hr:=vW h;simp only[XT.size]at hk;obtain⟨k,rfl⟩:∃m,k=m+3:=⟨k -3,l7⟩;have hz:=PI (.inr (show lG n.1=1 from hw.1));rw[show k+3=(k+2)+1 from rfl,YP _ _ _ n (Vq (.l1 n a) o) (by rw[G8];exact hr.1) (KJ env h he hw) (Vr _ _)];rw[show lzB n.1=false by unfold lzB;rw[I4 hz.1,I4 hz.2.1,I4 hz.2.2];rfl,o6];rw[show Vq (.l1 n a) o=[(rtI a o:Int)]from rfl,v1 (Ub _ _ x9) (iha o (k+2) (b5f h) hw.2 l7),o8];rw[show evT env (.l1 n a)=l9 (x8 (evT env a).2 0) (mY n [(evT env a).1] env) ((0,0,0),(evT env a).2)from rfl];cases x8 (evT env a).2 0
  .rfl
  exact(IZ [(evT env a).1] hE (hI n (lM hr.1)) hz x9).2
 |l2 n a b iha ihb=>
  intro o k h hw hk;have hr:=vW h;simp only[XT.size]at hk;obtain⟨k,rfl⟩:∃m,k=m+3:=⟨k -3,l7⟩;have hz:=Zv (show lG n.1=2 from hw.1);rw[show k+3=(k+2)+1 from rfl,YP _ _ _ n (Vq (.l2 n a b) o) (by rw[G8];exact hr.1) (KJ env h he hw) (Vr _ _)];rw[show Vq (.l2 n a b) o=[(rtI a o:Int),(rtI b (o+a.size):Int)]from rfl];rw[show evT env (.l2 n a b)=l9 (lzB n.1) (a2E n (evT env a) (evT env b)) (l9 (x8 (evT env a).2 0) (l9 (x8 (evT env b).2 0) (mY n [(evT env a).1,(evT env b).1] env) ((0,0,0),(evT env b).2)) ((0,0,0),(evT env a).2))from rfl];cases hl:lzB n.1
  .have hz:=c2u hl;simp only[o6];rw[v2 (Ub _ _ x9) (iha o (k+2) (Uz h).1 hw.2.1 l7) (ihb (o+a.size) (k+2) (Uz h).2 hw.2.2 l7),o8];cases x8 (evT env a).2 0
   .rfl
   cases x8 (evT env b).2 0
   .rfl
   exact(IZ [(evT env a).1,(evT env b).1] hE (hI n (lM hr.1)) hz x9).2
  .simp only[o7];exact b5W hz (iha o k (Uz h).1 hw.2.1 l7) (ihb (o+a.size) k (Uz h).2 hw.2.2 l7)
 |l3 n a b c iha ihb ihc=>intro o k h hw hk;have hr:=vW h;simp only[XT.size]at hk;obtain⟨k,rfl⟩:∃m,k=m+3:=⟨k -3,l7⟩;have hz:=a8o (show lG n.1=3 from hw.1);rw[show k+3=(k+2)+1 from rfl,YP _ _ _ n (Vq (.l3 n a b c) o) (by rw[G8];exact hr.1) (KJ env h he hw) (Vr _ _)];rw[show lzB n.1=true by rw[hz];decide,o7];exact b5X hz (iha o k (UA h).1 hw.2.1 l7) (ihb (o+a.size) (k+1) (UA h).2.1 hw.2.2.1 l7) (ihc (o+a.size+b.size) (k+1) (UA h).2.2 hw.2.2.2 l7)
theorem a5P(r:V3×Int):(x8 r.2 0=false/\(yu r)=((0,0,0),r.2))\/(x8 r.2 0=true/\x8 r.1.1 1=false/\yu r=((0,0,0),8))\/(x8 r.2 0=true/\x8 r.1.1 1=true/\plB r.1=false/\yu r=((0,0,0),8))\/(x8 r.2 0=true/\x8 r.1.1 1=true/\plB r.1=true/\yu r=(r.1,0)):=by
 unfold yu;cases x8 r.2 0
 .exact .inl ⟨rfl,rfl⟩
 cases x8 r.1.1 1
 .exact .inr (.inl ⟨rfl,rfl,rfl⟩)
 cases plB r.1
 .exact .inr (.inr (.inl ⟨rfl,rfl,rfl,rfl⟩))
 .exact .inr (.inr (.inr ⟨rfl,rfl,rfl,rfl⟩))
def iW(e:List (Int×Int))(env:aA):V3×Int:=match kX e with
 | .inl x=>((0,0,0),x.2)| .inr t=>evT env t
theorem Zy{t:XT}(h:kX e= .inr t):At e (t.sts 0) t 0/\e.length<=48/\e.length=t.size/\I8 .i64 (o9 e) 1=(rtI t 0:Int):=by
 obtain⟨hp,h48⟩:=wS h;have hsz:e.length=t.size:=by rw[hp,XT.post_len]
 have hpos:=t.size_pos;refine⟨⟨[],[],[],[],by simp[←hp],x9,rfl,rfl⟩,h48,hsz,?_⟩;rw[U7 (by unfold iq o9;omega)];unfold o9 rtI;omega
theorem YH(hE:EvOk env)(hI:∀n∈e,iq n.2):DU e env=some (iW e env):=by
 unfold DU Au iW;rw[IP];unfold Fa;cases h:kX e with
 |inl x=>simp only[o8,I4 (Eh h)];rfl|inr t=>obtain⟨h1,h2,h3,h4⟩:=Zy h;simp only[o8,L8 (rfl:(0:Int)=0),E8,o6,dL];rw[h4,show BZ (e,t.sts 0,env) ((rtI t 0:Nat):Int)=some (evT env t)from a6l hE h2 hI t 0 kK h1 (Jg h) (by unfold kK;omega)]<;>rfl
abbrev E4:Type:=Int×Int×Int×Int
def GZ(s:F9)(env:aA)(m d:Int)(ap:List Bool)(i:Int):List Bool⊕(Int×E4):=
 match H9 s.2.2.2.2 i with
 |none=> .inl ap|some r=>l9 (x8 (o9 r.2.2.2.2.2.1) 0) (.inl (ap++[true])) (l9 (x8 (iW r.2.2.2.2.2.1 env).2 0) (.inl (ap++[x8 (iW r.2.2.2.2.2.1 env).1.2.2 1])) (.inr (0,(iW r.2.2.2.2.2.1 env).2,m,d,i)))
def dF(s:F9)(env:aA)(m d:Int):Int×E4:=
 match eG (GZ s env m d) (Y2 s d env.1).1 []with
 | .inr e=>e| .inl ap=>l9 (F7 (Bg (Y2 s d env.1).2.1 (Y2 s d env.1).2.2 ap) 0) (Bg (Y2 s d env.1).2.1 (Y2 s d env.1).2.2 ap,0,0,0,0) (((Y2 s d env.1).1.getD (Bg (Y2 s d env.1).2.1 (Y2 s d env.1).2.2 ap).toNat 0),0,0,0,0)
variable {s:F9}
theorem VY{d t i:Int}(h:i∈(Y2 s d t).1):∃r,H9 s.2.2.2.2 i=some r/\r∈s.2.2.2.2:=by have h:i∈castL (dB s d t):=h;obtain⟨k,hk,rfl⟩:=J6.1 h;have:=(RZ hk).1;exact qA l7 (by unfold o9;omega)
theorem Ia(s:F9)(d t:Int):(Y2 s d t).1.length<=s.2.2.2.2.length/\(Y2 s d t).2.1.length=(Y2 s d t).1.length:=by
 refine⟨?_,?_⟩
 .show(castL (dB s d t)).length<=_;rw[zB];exact GN _ _
 .show((dB s d t).map _).length=(castL (dB s d t)).length;rw[zB,J4]
theorem b5u{oc pr:Int->Int}{l:d4D}{n:Int}(hn:0<=n)(h:∀x∈l,oc x<n):chF oc pr l<n:=by
 unfold chF;cases hb:PL oc pr l with
 |nil=>show(-1:Int)<n;omega|cons b r=>
  cases r with
  |nil=>exact h b (QT (oc:=oc) (pr:=pr) (by rw[hb];simp))|cons c r=>show(-2:Int)<n;omega
theorem b6B(par prio:d4D)(ap:List Bool):∀(k:Nat) (i:Int),i<par.length->ocF par prio ap k i<par.length
 |0,i,h=>by show(-1:Int)<_;omega|k+1,i,h=>by
  unfold ocF;have hb:chF (ocF par prio ap k) (prF prio) (castL (Ic par i))<(par.length:Int):=b5u l7 λx hx=>by unfold castL at hx;obtain⟨j,hj,rfl⟩:=J6.1 hx;have:=(a4g hj).1;exact b6B par prio ap k _ l7
  cases x8 (chF (ocF par prio ap k) (prF prio) (castL (Ic par i))) (-1)
  .exact hb
  .cases apF ap i
   .show(-1:Int)<_;omega
   .exact h
theorem Sj(par prio:d4D)(ap:List Bool):Bg par prio ap<par.length:=by
 unfold Bg;cases x8 (TE par prio) 0
 .show(-1:Int)<_;omega
 cases x8 (o9 ap) (o9 par)
 .show(-1:Int)<_;omega
 show chS par prio ap (-1)<_;unfold chS;refine b5u l7 λx hx=>?_;unfold castL at hx;obtain⟨j,hj,rfl⟩:=J6.1 hx;have:=(a4g hj).1;unfold OC;exact b6B par prio ap _ _ l7
def a0m(m:Nat)(l:List Bool):List Bool:=l++List.replicate (m -l.length) false
theorem a7c{m:Nat}{l:List Bool}(h:l.length<m):(a0m m l)[l.length]? =some false:=by unfold a0m;rw[F6 (D5 _),aU,eQ,if_pos l7]
theorem a7d{m:Nat}{l:List Bool}(v:Bool)(h:l.length<m):(a0m m l).set l.length v=a0m m (l++[v]):=by unfold a0m;obtain⟨k,hk⟩:∃k,m -l.length=k+1:=⟨m -l.length -1,l7⟩;rw[jI _ _ (D5 _),aU,hk,kz,List.set_cons_zero];rw[show m -(l++[v]).length=k by simp;omega];simp
theorem a2V{m:Nat}{l:List Bool}(h:l.length=m):a0m m l=l:=by unfold a0m;rw[h,aU];simp
theorem a8u(s:F9)(env:aA)(m d:Int)(ap:List Bool):
  l9 (F7 (Bg (Y2 s d env.1).2.1 (Y2 s d env.1).2.2 ap) 0) (some ((Bg (Y2 s d env.1).2.1 (Y2 s d env.1).2.2 ap,0,0,0,0):Int×E4))
   (o5 (H9 (Y2 s d env.1).1 (Bg (Y2 s d env.1).2.1 (Y2 s d env.1).2.2 ap)) λ(x_3:Int)=>o5 (P7 (Y2 s d env.1).1 (O9 (Bg (Y2 s d env.1).2.1 (Y2 s d env.1).2.2 ap))) λ(x:Int)=>some (x,0,0,0,0))=
  some (l9 (F7 (Bg (Y2 s d env.1).2.1 (Y2 s d env.1).2.2 ap) 0) (Bg (Y2 s d env.1).2.1 (Y2 s d env.1).2.2 ap,0,0,0,0) (((Y2 s d env.1).1.getD (Bg (Y2 s d env.1).2.1 (Y2 s d env.1).2.2 ap).toNat 0),0,0,0,0)):=by
 have hb:=Sj (Y2 s d env.1).2.1 (Y2 s d env.1).2.2 ap;have hl:=(Ia s d env.1).2;generalize Bg (Y2 s d env.1).2.1 (Y2 s d env.1).2.2 ap=q at*;generalize (Y2 s d env.1).1=L at*;by_cases g:q<0
 .rw[U0 g];rfl
 rw[L6 (jD.1 g)];obtain⟨i,rfl⟩:∃i:Nat,q=(i:Int):=⟨q.toNat,l7⟩;have hi:i<L.length:=l7;have e:=dE hi;simp only[o6,G8,e,o8,P7,O9,D9,BG,Z9]
theorem a7G(hs:SmS s)(hE:EvOk env)(m d:Int):Dl s env m d=some (dF s env m d):=by
 have hnr:=hs.nr;have hlen:=(Ia s d env.1).1;unfold Dl;rw[Xt l7,o8];rw[show lI (o9 (Y2 s d env.1).1) false=some (a0m (Y2 s d env.1).1.length []) by rw[show o9 (Y2 s d env.1).1=((Y2 s d env.1).1.length:Int)from rfl,BI l7 l7];rfl,o8];unfold dF;apply pM (Y2 s d env.1).1 (GZ s env m d) (λb i=>(((0,0,0,0),a0m (Y2 s d env.1).1.length b,i):E4×List Bool×Int)) (λb=>(((0,0,0,0),b):E4×List Bool)) (λi b=>b.length=i) [] l7 rfl
 .intro i a b hi hi' hb;obtain⟨r,hr,hm⟩:=VY (lM hi);have hlt:=(U8.1 hi).1;have hI:=(hs.ro r hm).1.2.2;subst hb;simp only[au hi,o7,G8,hi,o8,P7,O9,D9,hr,a7c hlt,V8,a7d _ hlt];unfold GZ;rw[hr];simp only;cases x8 (o9 r.2.2.2.2.2.1) 0
  .simp only[o6];rw[YH hE hI.1,o8];cases x8 (iW r.2.2.2.2.2.1 env).2 0
   .exact⟨rfl,λ_ h=>by cases h⟩
   .simp only[E8,o6,o7];rw[ja l7];exact⟨rfl,λ_ h=>by cases h;simp⟩
  .simp only[o7];rw[ja l7];exact⟨rfl,λ_ h=>by cases h;simp⟩
 .intro b hb;rw[ak,a2V hb];rfl
 .intro _;cases eG (GZ s env m d) (Y2 s d env.1).1 []with
  |inr e=>rfl|inl ap=>simp only[V4,Xl,o8];exact a8u s env m d ap
theorem b5v{oc pr:Int->Int}{l:d4D}(h:∀x∈l,-2<=oc x):-2<=chF oc pr l:=by
 unfold chF;cases hb:PL oc pr l with
 |nil=>show -2<=(-1:Int);omega|cons b r=>
  cases r with
  |nil=>exact h b (QT (oc:=oc) (pr:=pr) (by rw[hb];simp))|cons c r=>show -2<=(-2:Int);omega
theorem b6C(par prio:d4D)(ap:List Bool):∀(k:Nat) (i:Int),0<=i->-2<=ocF par prio ap k i
 |0,i,h=>by show -2<=(-1:Int);omega|k+1,i,h=>by
  unfold ocF;have hb:-2<=chF (ocF par prio ap k) (prF prio) (castL (Ic par i)):=b5v λx hx=>by unfold castL at hx;obtain⟨j,hj,rfl⟩:=J6.1 hx;exact b6C par prio ap k _ l7
  cases x8 (chF (ocF par prio ap k) (prF prio) (castL (Ic par i))) (-1)
  .exact hb
  .cases apF ap i
   .show -2<=(-1:Int);omega
   .show -2<=i;omega
theorem VO(par prio:d4D)(ap:List Bool):-2<=Bg par prio ap:=by
 unfold Bg;cases x8 (TE par prio) 0
 .show -2<=(-1:Int);omega
 cases x8 (o9 ap) (o9 par)
 .show -2<=(-1:Int);omega
 show -2<=chS par prio ap (-1);unfold chS;refine b5v λx hx=>?_;unfold castL at hx;obtain⟨j,hj,rfl⟩:=J6.1 hx;unfold OC;exact b6C par prio ap _ _ l7
variable {d:Int}{m:Int}
theorem UM(b:List Bool)(i:Int)(r:Int×E4)(h:GZ s env m d b i= .inr r):r.2.1≠0:=by
 unfold GZ at h;cases hl:H9 s.2.2.2.2 i with
 |none=>rw[hl]at h;cases h|some q=>
  rw[hl]at h;simp only at h;cases h1:x8 (o9 q.2.2.2.2.2.1) 0<;>rw[h1]at h
  .cases h2:x8 (iW q.2.2.2.2.2.1 env).2 0<;>rw[h2]at h<;>cases h;simp only;intro h3;rw[L8 h3]at h2;cases h2
  .cases h
theorem a5V(h0:(dF s env m d).2.1=0)(h1:(dF s env m d).1≠-1)(h2:(dF s env m d).1≠-2):∃r,H9 s.2.2.2.2 (dF s env m d).1=some r/\r∈s.2.2.2.2:=by
 unfold dF at*;cases hf:eG (GZ s env m d) (Y2 s d env.1).1 []with
 |inr e=>rw[hf]at h0;exact absurd h0 (xM (GZ s env m d) (λr=>r.2.1≠0) UM _ _ _ hf)|inl ap=>
  rw[hf]at h0 h1 h2;simp only at*;have hb:=Sj (Y2 s d env.1).2.1 (Y2 s d env.1).2.2 ap;have hlo:=VO (Y2 s d env.1).2.1 (Y2 s d env.1).2.2 ap;have hl:=(Ia s d env.1).2;generalize Bg (Y2 s d env.1).2.1 (Y2 s d env.1).2.2 ap=q at*;by_cases g:q<0
  .rw[U0 g]at h1 h2;simp only[o7]at h1 h2;omega
  rw[L6 (jD.1 g)];have hi:q.toNat<(Y2 s d env.1).1.length:=l7;simp only[o6,BG,dE hi,Z9];exact VY (P8 hi)
def yC(s:F9)(env:aA)(m d:Int):(V3×Int)⊕E4:=
 l9 (x8 (dF s env m d).2.1 0) (l9 (x8 (dF s env m d).1 (-1)) (.inr (10,m,d,-1)) (l9 (x8 (dF s env m d).1 (-2)) (.inr (11,m,d,-1))
  (match H9 s.2.2.2.2 (dF s env m d).1 with
  |none=> .inr (1,0,0,0)
  |some r=>l9 (x8 (iW r.2.2.2.2.2.2.1 env).2 0) (.inl ((iW r.2.2.2.2.2.2.1 env).1,(dF s env m d).1)) (.inr ((iW r.2.2.2.2.2.2.1 env).2,m,d,(dF s env m d).1))))) (.inr (dF s env m d).2)
theorem b5A{e:E4}(h:yC s env m d= .inr e):e.1≠0:=by
 unfold yC at h;cases h0:x8 (dF s env m d).2.1 0<;>rw[h0]at h
 .cases h;intro h3;rw[L8 h3]at h0;cases h0
 cases h1:x8 (dF s env m d).1 (-1)<;>rw[h1]at h
 case true=>cases h;show(10:Int)≠0;decide
 cases h2:x8 (dF s env m d).1 (-2)<;>rw[h2]at h
 case true=>cases h;show(11:Int)≠0;decide
 simp only[o7,o6]at h;cases hl:H9 s.2.2.2.2 (dF s env m d).1 with
 |none=>rw[hl]at h;cases h;show(1:Int)≠0;decide|some r=>rw[hl]at h;simp only at h;cases h4:x8 (iW r.2.2.2.2.2.2.1 env).2 0<;>rw[h4]at h<;>cases h;simp only;intro h3;rw[L8 h3]at h4;cases h4
theorem a2U{s:F9} :∀(k:Nat) (O:d4D),(∀d∈O,0<=d/\d<nD s)->match a0k s k O with| .inl O' =>(∀d∈O',0<=d/\d<nD s)/\O'.length<=O.length+k| .inr x=>x.1=[]
 |0,O,h=>⟨h,l7⟩|k+1,O,h=>by
  unfold a0k;by_cases hc:O.length<s.2.2.2.1.length
  .rw[if_pos hc];cases hn:Tm s O with
   |none=>rfl|some d=>
    have hd:=(a0f hn).1;have:=a2U k (O++[(d:Int)]) (λx hx=>by
     rcases D6.1 hx with hx|hx
     .exact h x hx
     .rw[I7]at hx;subst hx;unfold nD o9;omega)
    simp only;cases ho:a0k s k (O++[(d:Int)])with
    |inl O' =>rw[ho]at this;exact⟨this.1,by have:=this.2;simp at this;omega⟩|inr x=>rw[ho]at this;exact this
  .rw[if_neg hc];exact⟨h,l7⟩
theorem KL(s:F9):(∀d∈(qE s).1,0<=d/\d<nD s)/\(qE s).1.length<=100:=by
 have:=a2U (s:=s) 100 [] x9;unfold qE;cases ho:a0k s 100 []with
 |inl O=>rw[ho]at this;exact⟨this.1,by have:=this.2;simp at this;exact this⟩|inr x=>rw[ho]at this;simp only at this ⊢;rw[this];simp
abbrev DB:Type:=List V3×d4D
def uk(env:aA)(ds:List V3):aA:=(env.1,env.2.1,ds,env.2.2.2)
theorem KA(h:EvOk env)(ds:List V3):EvOk (uk env ds):=⟨h.ms,h.tb⟩
def scG(s:F9)(env:aA)(m:Int)(need:List Bool)(b:DB)(d:Int):DB⊕(E4×List V3):=
 l9 ((H9 need d).getD false) (match yC s (uk env b.1) m d with
  | .inl v=> .inl (b.1.set d.toNat v.1,b.2.set d.toNat v.2)
  | .inr e=> .inr (e,b.1)) (.inl b)
def scS(s:F9)(env:aA)(m:Int)(need:List Bool):DB⊕(E4×List V3):=eG (scG s env m need) (qE s).1 (List.replicate s.2.2.2.1.length (0,0,0),List.replicate s.2.2.2.1.length 0)
variable {need:List Bool}
theorem c1z(b:DB)(d:Int)(r:E4×List V3)(h:scG s env m need b d= .inr r):r.1.1≠0:=by
 unfold scG at h;cases hb:(H9 need d).getD false<;>rw[hb]at h
 .cases h
 simp only[o7]at h;cases hd:yC s (uk env b.1) m d with
 |inl v=>rw[hd]at h;cases h|inr e=>rw[hd]at h;cases h;exact b5A hd
theorem La{r:E4×List V3}(h:scS s env m need= .inr r):r.1.1≠0:=xM (scG s env m need) (λr=>r.1.1≠0) c1z _ _ _ h
def Pn{β ρ ρ' :Type}(h:ρ->ρ'):β⊕ρ->β⊕ρ'| .inl b=> .inl b| .inr r=> .inr (h r)
theorem FW{α β ρ ρ' :Type}(G:β->α->β⊕ρ)(G' :β->α->β⊕ρ')(h:ρ->ρ')(hG:∀b a,G' b a=Pn h (G b a)):∀(l:List α) (b:β),eG G' l b=Pn h (eG G l b)
 |[],b=>rfl|a::l,b=>by
  unfold eG;rw[hG b a];cases G b a with
  |inl b' =>exact FW G G' h hG l b'|inr r=>rfl
theorem CV(s:F9)(hs:SmS s)(x:α):lI (o9 s.2.2.2.1) x=some (List.replicate s.2.2.2.1.length x):=by have:=hs.nd;rw[show o9 s.2.2.2.1=(s.2.2.2.1.length:Int)from rfl,BI l7 l7];rfl
def scP(env:aA):E4×List V3->d4D×E4×aA:=λr=>([],r.1,uk env r.2)
theorem UK(hs:SmS s)(hE:EvOk env)(m:Int)(hn:need.length=s.2.2.2.1.length):lg s env m need=some (match scS s env m need with| .inl b=>(b.2,(0,0,0,0),uk env b.1)| .inr r=>([],r.1,uk env r.2)):=by
 obtain⟨o1,o2⟩:=KL s;unfold lg;rw[CV s hs,o8,CV s hs,o8,a0l hs,o8];have hfold:=FW (scG s env m need) (λb d=>Pn (scP env) (scG s env m need b d)) (scP env) (λ_ _=>rfl) (qE s).1 (List.replicate s.2.2.2.1.length (0,0,0),List.replicate s.2.2.2.1.length 0);unfold scS;apply pM (qE s).1 (λb d=>Pn (scP env) (scG s env m need b d)) (λb i=>((uk env b.1,(0,0,0,0),b.2,i):aA×E4×d4D×Int)) (λb=>((uk env b.1,(0,0,0,0),b.2):aA×E4×d4D)) (λi b=>b.1.length=s.2.2.2.1.length/\b.2.length=s.2.2.2.1.length) (List.replicate s.2.2.2.1.length (0,0,0),List.replicate s.2.2.2.1.length 0) l7 ⟨x9,x9⟩
 .intro i d b hi hi' hb;have hr:=o1 d (lM hi);have hnd:nD s=(s.2.2.2.1.length:Int):=rfl;obtain⟨k,rfl⟩:∃k:Nat,d=(k:Int):=⟨d.toNat,l7⟩;have hk:k<s.2.2.2.1.length:=l7;have e1:=dE (show k<need.length by omega);have e2:=dE (show k<b.1.length by omega);have e3:=dE (show k<b.2.length by omega);unfold scG;simp only[au hi,o7,G8,hi,o8,P7,O9,D9,e1,Z9];cases need[k]
  .simp only[bY,o7,o6];rw[ja l7];exact⟨rfl,λ_ h=>by cases h;exact hb⟩
  simp only[E8,o7,o6];rw[a7G hs (KA hE b.1),o8];unfold yC;cases h0:x8 (dF s (uk env b.1) m (k:Int)).2.1 0
  .exact⟨rfl,λ_ h=>by cases h⟩
  cases h1:x8 (dF s (uk env b.1) m (k:Int)).1 (-1)
  case true=>exact⟨rfl,λ_ h=>by cases h⟩
  cases h2:x8 (dF s (uk env b.1) m (k:Int)).1 (-2)
  case true=>exact⟨rfl,λ_ h=>by cases h⟩
  obtain⟨r,hr,hm⟩:=a5V (U4.1 h0) (λh=>by rw[L8 h]at h1;cases h1) (λh=>by rw[L8 h]at h2;cases h2);simp only[E8,o6,o7,hr,o8];rw[YH (KA hE b.1) (hs.ro r hm).1.2.2.2,o8];cases h3:x8 (iW r.2.2.2.2.2.2.1 (uk env b.1)).2 0
  .exact⟨rfl,λ_ h=>by cases h⟩
  .simp only[E8,o6,o7];refine⟨?_,λ_ h=>by cases h;exact⟨by simp[hb.1],by simp[hb.2]⟩⟩;rw[ja l7];have e2' :(uk env b.1).2.2.1[k]? =some (b.1[k]'l7):=e2;simp only[e2',e3,o8];rfl
 .intro b hb;rw[ak];rfl
 .intro _;rw[hfold];cases eG (scG s env m need) (qE s).1 (List.replicate s.2.2.2.1.length (0,0,0),List.replicate s.2.2.2.1.length 0)<;>rfl
def Ci(l:aZ)(k:Int)(c:kY)(ex:Bool)(d:Int):E4:=
 l9 (x8 (eX l).1 0) (match H9 l.2.2 k with
  |none=>(6,-1,-1,-1)
  |some s=>l9 (l9 ex (l9 (F7 d 0) true (S9 (o9 s.2.2.2.1) d)) false) (6,-1,-1,-1) (l9 (x8 (Et l k c).2.2 0) (0,0,0,0) ((Et l k c).2.2,(Et l k c).1,-1,-1))) (1,-1,-1,-1)
theorem J_(l:List F9)(k:Int):(F7 k 0=true/\H9 l k=none)\/(F7 k 0=false/\S9 (o9 l) k=true/\H9 l k=none)\/(F7 k 0=false/\S9 (o9 l) k=false/\∃s,H9 l k=some s/\s∈l):=by
 by_cases h:k<0
 .exact .inl ⟨U0 h,xO (.inl (aC h))⟩
 by_cases h2:o9 l<=k
 .exact .inr (.inl ⟨L6 l7,ae h2,xO (.inr (L6 h2))⟩)
 .exact .inr (.inr ⟨L6 l7,aC l7,qA l7 l7⟩)
variable {l:aZ}{c:kY}
theorem b9X(hL:SmL l)(k:Int)(hc:SmC c)(ex:Bool)(d:Int):vF l k c ex d=some (Ci l k c ex d):=by
 unfold vF Ci;rw[En hL,o8,UD l k hc];cases x8 (eX l).1 0
 .rfl
 simp only[E8,o6,o7];rcases J_ l.2.2 k with⟨h1,h2⟩|⟨h1,h2,h3⟩|⟨h1,h2,s,h3,_⟩
 .rw[h1,h2];rfl
 .rw[h1,h2,h3];rfl
 .rw[h1,h2,h3];simp only[o6,o8];cases ex
  .simp only[o6,o8,V4];cases x8 (Et l k c).2.2 0<;>rfl
  .simp only[o7];cases F7 d 0
   .cases S9 (o9 s.2.2.2.1) d
    .simp only[o6,o8,V4];cases x8 (Et l k c).2.2 0<;>rfl
    .rfl
   .rfl
def yL:F9:=([],0,[],[],[])
def aI(l:aZ)(s:F9):F9:=l9 (S9 0 s.2.1) ((H9 l.2.2 s.2.1).getD yL) yL
def qp(n:Nat):List Bool:=List.replicate n false
def gZ(n:Nat):List Bool:=List.replicate n true
theorem LZ{ex:Bool}(h:(Ci l k c ex d).1=0):(eX l).1=0/\∃s,H9 l.2.2 k=some s:=by
 unfold Ci at h;cases h0:x8 (eX l).1 0<;>rw[h0]at h
 .exact absurd (show(1:Int)=0 from h) E5
 refine⟨U4.1 h0,?_⟩;cases h1:H9 l.2.2 k with
 |none=>rw[h1]at h;exact absurd (show(6:Int)=0 from h) E5|some s=>exact⟨s,rfl⟩
variable {i:Nat}
theorem b9P(h:(eX l).1=0)(hs:l.2.2[i]? =some s):(Om l i s).1=0:=by
 unfold eX at h;cases h1:x8 (Lt l).1 0<;>rw[h1]at h
 .simp only[o6]at h;rw[L8 h]at h1;cases h1
 cases h2:x8 (IR l).1 0<;>rw[h2]at h
 .simp only[o7,o6]at h;rw[L8 h]at h2;cases h2
 simp only[o7]at h;unfold VN at h;cases h3:F7 4 (o9 l.2.2)<;>rw[h3]at h
 case true=>exact absurd (show(4:Int)=0 from h) E5
 simp only[o6]at h;have hi:=(U8.1 hs).1;cases hf:fH l.2.2.length (Ol l)with
 |some r=>
  rw[hf]at h;simp only at h;obtain⟨j,hj,hp⟩:=je hf;unfold Ol at hp;cases hq:l.2.2[j]? with
  |none=>rw[hq]at hp;cases hp|some q=>
   rw[hq]at hp;simp only at hp;unfold WI at hp;exact absurd h (by cases he:x8 (Om l j q).1 0<;>rw[he]at hp<;>cases hp;simp only;intro h4;rw[L8 h4]at he;cases he)
 |none=>
  have hn:=vZ hf i hi;unfold Ol at hn;rw[hs]at hn;simp only at hn;unfold WI at hn;cases he:x8 (Om l i s).1 0<;>rw[he]at hn
  .cases hn
  exact U4.1 he
theorem Sv(h:(eX l).1=0)(hs:l.2.2[i]? =some s):Qk l i s.2.1=false/\(WX l s).1=0:=by
 have he:=b9P h hs;unfold Om at he;cases g1:Ko s.1<;>rw[g1]at he
 .exact absurd (show(2:Int)=0 from he) E5
 cases g2:VV l 3 i s.1<;>rw[g2]at he
 case true=>exact absurd (show(7:Int)=0 from he) E5
 cases g3:Qk l i s.2.1<;>rw[g3]at he
 case true=>exact absurd (show(6:Int)=0 from he) E5
 cases g4:F7 12 (o9 s.2.2.1)<;>rw[g4]at he
 case true=>exact absurd (show(4:Int)=0 from he) E5
 cases g5:F7 12 (o9 s.2.2.2.1)<;>rw[g5]at he
 case true=>exact absurd (show(4:Int)=0 from he) E5
 exact⟨rfl,he⟩
theorem b4I(h:(eX l).1=0)(hs:l.2.2[i]? =some s):Qk l i s.2.1=false:=(Sv h hs).1
theorem Lh(h:(eX l).1=0)(hs:H9 l.2.2 k=some s):(S9 0 s.2.1=false/\F7 s.2.1 0=true/\aI l s=yL)\/(S9 0 s.2.1=true/\F7 s.2.1 0=false/\S9 (o9 l.2.2) s.2.1=false/\H9 l.2.2 s.2.1=some (aI l s)/\aI l s∈l.2.2):=by
 obtain⟨k0,k1,k2,k3⟩:=bQ hs;have hm:=b4I h k3;unfold Qk at hm;by_cases g:0<=s.2.1
 .right;rw[I4 (show s.2.1≠-1 by intro e;rw[e]at g;exact absurd g E5),L6 g]at hm;simp only[o6]at hm;cases g2:S9 ((k.toNat:Nat):Int) s.2.1<;>rw[g2]at hm
  case true=>cases hm
  rw[LH]at g2;have hlt:s.2.1<o9 l.2.2:=by have:((k.toNat:Nat):Int)=k:=Y4 k0;rw[this]at g2;exact Int.lt_trans g2 k1
  obtain⟨q,hq,hqm⟩:=qA g hlt;have e:aI l s=q:=by unfold aI;rw[ae g,hq];rfl
  rw[e];exact⟨ae g,L6 g,aC hlt,hq,hqm⟩
 .left;have g' :=nO.1 g;refine⟨aC g',U0 g',?_⟩;unfold aI;rw[aC g'];rfl
theorem b9w(i j:Nat):(gZ i++qp (j+1)).set i true=gZ (i+1)++qp j:=by unfold gZ qp;rw[jI _ _ x9,iM,aU,kz,List.set_cons_zero,BU,G7];rfl
theorem b9v(i j:Nat):(gZ i++qp (j+1))[i]? =some false:=by unfold gZ qp;rw[F6 x9,iM,aU];rfl
theorem a1W{σ ε:Type}{f:σ->Option (σ⊕ε)}{mk:List Bool->Int->σ}{fin:List Bool->ε}{n:Nat}
  (hs:∀(i j:Nat),i+j+1=n->f (mk (gZ i++qp (j+1)) (i:Int))=some (.inl (mk (gZ (i+1)++qp j) ((i+1:Nat):Int))))
  (he:f (mk (gZ n) (n:Int))=some (.inr (fin (gZ n)))):∀(j i k:Nat),i+j=n->qC f (k+1+j) (mk (gZ i++qp j) (i:Int))=some (fin (gZ n))
 |0,i,k,h=>by have:i=n:=l7;subst this;rw[show gZ i++qp 0=gZ i by unfold qp;simp];exact Jf he|j+1,i,k,h=>by rw[show k+1+(j+1)=(k+1+j)+1 by omega,DZ (hs i j l7)];exact a1W hs he j (i+1) k l7
theorem a5D{mk:List Bool->Int->σ}{fin:List Bool->ε}{n:Nat}(hn:n<=1000000)
  (hs:∀(i j:Nat),i+j+1=n->f (mk (gZ i++qp (j+1)) (i:Int))=some (.inl (mk (gZ (i+1)++qp j) ((i+1:Nat):Int))))
  (he:f (mk (gZ n) (n:Int))=some (.inr (fin (gZ n)))):X8 f (mk (qp n) 0)=some (fin (gZ n)):=by
 unfold X8;rw[show kK=(kK -n -1)+1+n by unfold kK;omega];exact a1W hs he n 0 _ l7
theorem a5G{σ ε α β:Type}{f:σ->Option (σ⊕ε)}{mk:List β->Int->σ}{fin:List β->ε}{l:List α}{g:α->β}
  (hs:∀(i:Nat) (a:α) (b:List β),l[i]? =some a->b.length=i->f (mk b (i:Int))=some (.inl (mk (b++[g a]) ((i+1:Nat):Int))))
  (he:∀b,f (mk b (l.length:Int))=some (.inr (fin b))):∀(l2 l1:List α) (k:Nat),l=l1++l2->qC f (k+1+l2.length) (mk (l1.map g) (l1.length:Int))=some (fin (l.map g))
 |[],l1,k,h=>by
  have:l=l1:=by simpa using h
  subst this;exact Jf (he _)
 |a::l2,l1,k,h=>by rw[show k+1+(a::l2).length=(k+1+l2.length)+1 by simp;omega,DZ (hs l1.length a (l1.map g) (by rw[h];simp) x9)];have:=a5G hs he l2 (l1++[a]) k (by rw[h];simp);simpa using this
variable {β:Type}
theorem Np(mk:List β->Int->σ)(fin:List β->ε)(l:List α)(g:α->β)(hn:l.length<=1000000)
  (hs:∀(i:Nat) (a:α) (b:List β),l[i]? =some a->b.length=i->f (mk b (i:Int))=some (.inl (mk (b++[g a]) ((i+1:Nat):Int))))
  (he:∀b,f (mk b (l.length:Int))=some (.inr (fin b))):X8 f (mk [] 0)=some (fin (l.map g)):=by
 unfold X8;rw[show kK=(kK -l.length -1)+1+l.length by unfold kK;omega];exact a5G hs he l [] _ rfl
theorem a6P(hL:SmL l)(h:(eX l).1=0)(hs:H9 l.2.2 k=some s):Dk l k=some (s,aI l s,qp s.2.2.2.1.length,qp (aI l s).2.2.2.1.length):=by
 have hm:=(bQ hs).2.2.1;have hnd:=(hL.sc s hm).nd;unfold Dk;rw[hs,o8,show lI (o9 s.2.2.2.1) false=some (qp s.2.2.2.1.length)from CV s (hL.sc s hm) false,o8];rcases Lh h hs with⟨g1,g2,g3⟩|⟨g1,g2,g3,g4,g5⟩
 .rw[g1,g3];rfl
 .rw[g1,g4];simp only[o7,o8];rw[show lI (o9 (aI l s).2.2.2.1) false=some (qp (aI l s).2.2.2.1.length)from CV _ (hL.sc _ g5) false,o8]
theorem a9k:SmS yL:=⟨by simp[yL],by simp[yL],by simp[yL],by simp[yL],⟨by simp[yL],by simp[yL]⟩,by simp[yL]⟩
def Yv(l:aZ)(c:kY)(v:List V3):aA:=(c.1,v,[],[],[],l.2.1)
def mG(l:aZ)(c:kY)(ms:F9)(need:List Bool)(b:List DB)(a:List V3×Nat):List DB⊕E4:=
 match scS ms (Yv l c a.1) (a.2:Int) need with
 | .inl x=> .inl (b++[x])| .inr e=> .inr e.1
def mS(l:aZ)(c:kY)(ms:F9)(need:List Bool):List DB⊕E4:=eG (mG l c ms need) c.2.2.zipIdx []
variable {ms:F9}
theorem c4y(b:List DB)(a:List V3×Nat)(r:E4)(h:mG l c ms need b a= .inr r):r.1≠0:=by
 unfold mG at h;cases hs:scS ms (Yv l c a.1) (a.2:Int) need with
 |inl x=>rw[hs]at h;cases h|inr e=>rw[hs]at h;cases h;exact La hs
theorem a5r{l:List (List V3)}{a:List V3×Nat}(h:l.zipIdx[i]? =some a):l[i]? =some a.1/\a.2=i:=by
 rw[List.getElem?_zipIdx]at h;cases hl:l[i]? with
 |none=>rw[hl]at h;cases h|some v=>rw[hl]at h;cases h;exact⟨rfl,x9⟩
theorem a4k(hT:∀t∈l.2.1,BV t)(c:kY)(v:List V3):EvOk (Yv l c v):=⟨by simp[Yv],hT⟩
def CP(l:aZ)(s:F9)(c:kY)(b:List DB):aA:=(c.1,c.2.1,[],b.map (·.1),(aI l s).2.2.2.1.map (·.2),l.2.1)
def a1J(l:aZ)(s:F9)(c:kY):bT×E4:=
 match mS l c (aI l s) (gZ (aI l s).2.2.2.1.length)with
 | .inr e=>(([],[],[]),e)
 | .inl b=>match scS s (CP l s c b) (-1) (gZ s.2.2.2.1.length)with
  | .inl x=>((x.1,x.2,b),0,0,0,0)| .inr r=>(([],[],[]),r.1)
theorem Ql(hL:SmL l)(h:(eX l).1=0)(hs:H9 l.2.2 k=some s):SmS (aI l s):=by
 rcases Lh h hs with⟨_,_,g3⟩|⟨_,_,_,_,g5⟩
 .rw[g3];exact a9k
 .exact hL.sc _ g5
theorem T_{b:List DB}(h:mS l c ms need= .inl b):b.length=c.2.2.length:=by
 have key:∀(L:List (List V3×Nat)) (b0 b:List DB),eG (mG l c ms need) L b0= .inl b->b.length=b0.length+L.length:=by
  intro L;induction L with
  |nil=>intro b0 b h;cases h;simp|cons a L ih=>
   intro b0 b h;unfold eG at h;cases hg:mG l c ms need b0 a with
   |inr e=>rw[hg]at h;cases h|inl b1=>
    rw[hg]at h;have:=ih b1 b h;have h1:b1.length=b0.length+1:=by
     unfold mG at hg;cases hs:scS ms (Yv l c a.1) (a.2:Int) need with
     |inr e=>rw[hs]at hg;cases hg|inl x=>rw[hs]at hg;cases hg;simp
    simp only[H7];omega
 have:=key _ _ _ h;simpa using this
theorem Qv(hT:∀t∈l.2.1,BV t)(s:F9)(c:kY){b:List DB}(hb:b.length<=1000):EvOk (CP l s c b):=⟨by simp[CP];omega,hT⟩
abbrev ZT:Type:=Int×List V3×PUnit×List (List V3)×List (Int×Int)×List dM
def c4q(l:aZ)(s:F9)(c:kY)(nS nM:List Bool):DB×List DB⊕E4:=
 match mS l c (aI l s) nM with
 | .inr e=> .inr e
 | .inl b=>match scS s (CP l s c b) (-1) nS with
  | .inl x=> .inl (x,b)| .inr r=> .inr r.1
theorem a3Z{nS nM:List Bool}(hS:SmS s)(hM:SmS (aI l s))(hC:SmC c)(hT:∀t∈l.2.1,BV t)(h1:nS.length=s.2.2.2.1.length)(h2:nM.length=(aI l s).2.2.2.1.length):
  Dj l k c (s,aI l s,nS,nM)=some (match c4q l s c nS nM with
   | .inl x=>((x.1.1,x.1.2,x.2),uk (CP l s c x.2) x.1.1,(0,0,0,0),(s,aI l s,nS,nM))
   | .inr e=>(([],[],[]),(0,[],[],[],[],[]),e,(s,aI l s,nS,nM))):=by
 have hnd:=hM.nd;have hnm:=hC.nm;unfold Dj;rw[show(X8 _ _)=some (((c.1,c.2.1,PUnit.unit,PUnit.unit,(aI l s).2.2.2.1.map (λf=>f.2),l.2.1)):Int×List V3×PUnit×PUnit×List (Int×Int)×List dM)from ?_,o8]
 rotate_left
 .refine Np (λL i=>(((c.1,c.2.1,PUnit.unit,PUnit.unit,L,l.2.1),i):(Int×List V3×PUnit×PUnit×List (Int×Int)×List dM)×Int)) (λL=>((c.1,c.2.1,PUnit.unit,PUnit.unit,L,l.2.1):Int×List V3×PUnit×PUnit×List (Int×Int)×List dM)) (aI l s).2.2.2.1 (λf=>f.2) l7 (λi a L hi hL=>?_) (λL=>?_)
  .have:=(U8.1 hi).1;simp only[au hi,o7,G8,hi,o8];rw[kU _ l7,o8,ja l7]
  .rw[ak];rfl
 have hfold:=FW (mG l c (aI l s) nM) (λb a=>Pn (λe=>((([],[],[]),(0,[],[],[],[],[]),e,(s,aI l s,nS,nM)):bT×aA×E4×jO)) (mG l c (aI l s) nM b a)) (λe=>((([],[],[]),(0,[],[],[],[],[]),e,(s,aI l s,nS,nM)):bT×aA×E4×jO)) (λ_ _=>rfl) c.2.2.zipIdx [];have hzl:c.2.2.zipIdx.length=c.2.2.length:=x9;unfold c4q mS;apply pM c.2.2.zipIdx (λb a=>Pn (λe=>((([],[],[]),(0,[],[],[],[],[]),e,(s,aI l s,nS,nM)):bT×aA×E4×jO)) (mG l c (aI l s) nM b a))
  (λb i=>((([],[],[]),(0,[],[],[],[],[]),(0,0,0,0),(c.1,c.2.1,PUnit.unit,b.map (·.1),(aI l s).2.2.2.1.map (λf=>f.2),l.2.1),([],[],b),i):bT×aA×E4×ZT×bT×Int))
  (λb=>((([],[],[]),(0,[],[],[],[],[]),(0,0,0,0),(c.1,c.2.1,PUnit.unit,b.map (·.1),(aI l s).2.2.2.1.map (λf=>f.2),l.2.1),([],[],b)):bT×aA×E4×ZT×bT))
  (λi b=>b.length=i) [] l7 rfl
 .intro i a b hi hi' hb;obtain⟨z1,z2⟩:=a5r hi;have hil:=(U8.1 z1).1;unfold mG;simp only[au z1,o7,G8,z1,o8];rw[show lg (aI l s) (c.1,a.1,[],[],[],l.2.1) (i:Int) nM=_ from UK hM (a4k hT c a.1) (i:Int) h2,o8,z2];unfold Yv;cases hq:scS (aI l s) (c.1,a.1,[],[],[],l.2.1) (i:Int) nM with
  |inr e=>simp only[I4 (La hq)];exact⟨rfl,λ_ h=>by cases h⟩|inl x=>simp only[L8 (rfl:(0:Int)=0),E8,o6];rw[kU _ U3,o8,kU _ l7,o8,ja l7];exact⟨by simp[Pn,uk],λ_ h=>by cases h;simp[hb]⟩
 .intro b hb;rw[hzl,ak];rfl
 .intro _;rw[hfold];cases hq:eG (mG l c (aI l s) nM) c.2.2.zipIdx []with
  |inr e=>rfl|inl b=>
   have hbl:b.length=c.2.2.length:=T_ (ms:=aI l s) (need:=nM) hq;have hsc:=UK (need:=nS) hS (Qv hT s c (b:=b) l7) (-1) h1;unfold CP at hsc;simp only[Pn,V4];rw[show lg s (c.1,c.2.1,[],b.map (·.1),(aI l s).2.2.2.1.map (λf=>f.2),l.2.1) (-1) nS=_ from hsc,o8];unfold CP;cases hr:scS s (c.1,c.2.1,[],b.map (·.1),(aI l s).2.2.2.1.map (λf=>f.2),l.2.1) (-1) nS with
   |inr e=>simp only[I4 (La hr)];rfl|inl x=>rfl
theorem b7P(hL:SmL l)(hC:SmC c)(hT:∀t∈l.2.1,BV t):FX l k c=some (if(Ci l k c false 0).1=0 then(match H9 l.2.2 k with|some s=>a1J l s c|none=>(([],[],[]),0,0,0,0))else(([],[],[]),Ci l k c false 0)):=by
 unfold FX;rw[b9X hL k hC,o8];by_cases hA:(Ci l k c false 0).1=0
 case neg=>rw[if_neg hA,I4 hA];rfl
 rw[if_pos hA,L8 hA];obtain⟨h,s,hs⟩:=LZ hA;have hM:=Ql hL h hs;have hS:=hL.sc s (bQ hs).2.2.1;have hn1:=hS.nd;have hn2:=hM.nd;rw[hs];simp only[E8,o6];rw[a6P hL h hs,o8];rw[show(X8 _ _)=some ((s,aI l s,gZ s.2.2.2.1.length,qp (aI l s).2.2.2.1.length):jO)from ?_,o8]
 rotate_left
 .refine a5D (n:=s.2.2.2.1.length) (mk:=λL i=>(((s,aI l s,L,qp (aI l s).2.2.2.1.length),i):jO×Int)) (fin:=λL=>((s,aI l s,L,qp (aI l s).2.2.2.1.length):jO)) l7 (λi j hij=>?_) ?_
  .simp only[show o9 (qp s.2.2.2.1.length)=(s.2.2.2.1.length:Int) by unfold o9 qp;simp,U0 (show(i:Int)<(s.2.2.2.1.length:Int) by omega),o7,G8,b9v,o8,P7,O9,D9,V8,b9w];rw[ja l7]
  .simp only[show o9 (qp s.2.2.2.1.length)=(s.2.2.2.1.length:Int) by unfold o9 qp;simp,L6 (aW (s.2.2.2.1.length:Int)),o6]
 rw[show(X8 _ _)=some ((s,aI l s,gZ s.2.2.2.1.length,gZ (aI l s).2.2.2.1.length):jO)from ?_,o8]
 rotate_left
 .refine a5D (n:=(aI l s).2.2.2.1.length) (mk:=λL i=>(((s,aI l s,gZ s.2.2.2.1.length,L),i):jO×Int)) (fin:=λL=>((s,aI l s,gZ s.2.2.2.1.length,L):jO)) l7 (λi j hij=>?_) ?_
  .simp only[show o9 (qp (aI l s).2.2.2.1.length)=((aI l s).2.2.2.1.length:Int) by unfold o9 qp;simp,U0 (show(i:Int)<((aI l s).2.2.2.1.length:Int) by omega),o7,G8,b9v,o8,P7,O9,D9,V8,b9w];rw[ja l7]
  .simp only[show o9 (qp (aI l s).2.2.2.1.length)=((aI l s).2.2.2.1.length:Int) by unfold o9 qp;simp,L6 (aW ((aI l s).2.2.2.1.length:Int)),o6]
 rw[a3Z hS hM hC hT (by simp[gZ]) (by simp[gZ]),o8];unfold c4q a1J;cases mS l c (aI l s) (gZ (aI l s).2.2.2.1.length)with
 |inr e=>rfl|inl b=>simp only;cases scS s (CP l s c b) (-1) (gZ s.2.2.2.1.length)<;>rfl
theorem lL{n:Nat}{l:List α}(h:F7 (n:Int) (o9 l)=false):l.length<=n:=by rw[jW]at h;unfold o9 at h;omega
def M_(r:iT):Bool:=l9 (F7 80 (o9 r.1)) true (l9 (F7 80 (o9 r.2.2.2.2.2.2.2)) true (l9 (F7 50 (o9 r.2.2.2.2.2.1)) true (F7 50 (o9 r.2.2.2.2.2.2.1))))
def smS(s:F9):Bool:=l9 (F7 80 (o9 s.1)) false (l9 (F7 14 (o9 s.2.2.1)) false (l9 (F7 14 (o9 s.2.2.2.1)) false (l9 (F7 60 (o9 s.2.2.2.2)) false
 (l9 (s.2.2.1.any λf=>F7 80 (o9 f.1)) false (l9 (s.2.2.2.1.any λf=>F7 80 (o9 f.1)) false (G6 (s.2.2.2.2.any M_)))))))
theorem m_{fs:List oZ}(h:fs.length<=1000000):bD (λ(x:Int)=>l9 (F7 x (o9 fs)) (o5 (H9 fs x) λ(x_1:oZ)=>l9 (F7 80 (o9 x_1.1)) (some (Out.rt false)) (some (Out.nx (A8 IntKind.i64 x 1)))) (some (Out.ex PUnit.unit))) 0=some (bif fs.any (λf=>F7 80 (o9 f.1))then .inr false else .inl PUnit.unit):=by
 refine Kq fs (λf=>F7 80 (o9 f.1)) false PUnit.unit h (λi a ha=>?_) ?_
 .simp only[au ha,o7,G8,ha,o8];cases F7 80 (o9 a.1)<;>rfl
 .rw[ak];rfl
theorem a1L(s:F9):Dw s=some (smS s):=by
 unfold Dw smS;cases h1:F7 80 (o9 s.1)
 case true=>rfl
 cases h2:F7 14 (o9 s.2.2.1)
 case true=>rfl
 cases h3:F7 14 (o9 s.2.2.2.1)
 case true=>rfl
 cases h4:F7 60 (o9 s.2.2.2.2)
 case true=>rfl
 have l2:=lL (n:=14) h2;have l3:=lL (n:=14) h3;have l4:=lL (n:=60) h4;simp only[o6,o8,V4];rw[m_ l7,m_ l7,o8];cases s.2.2.1.any λf=>F7 80 (o9 f.1)
 case true=>rfl
 simp only[cond_false,V4,o6,o8];cases s.2.2.2.1.any λf=>F7 80 (o9 f.1)
 case true=>rfl
 simp only[cond_false,V4,o6];refine cZ (Kq s.2.2.2.2 M_ false PUnit.unit l7 (λi a ha=>?_) ?_) ?_
 rotate_left 2
 .cases s.2.2.2.2.any M_<;>rfl
 .simp only[au ha,o7,G8,ha,o8];unfold M_;cases F7 80 (o9 a.1)<;>cases F7 80 (o9 a.2.2.2.2.2.2.2)<;>cases F7 50 (o9 a.2.2.2.2.2.1)<;>cases F7 50 (o9 a.2.2.2.2.2.2.1)<;>rfl
 .rw[ak];rfl
def ScI(s:F9):Prop:=∀r∈s.2.2.2.2,(∀n∈r.2.2.2.2.2.1,iq n.2)/\∀n∈r.2.2.2.2.2.2.1,iq n.2
theorem Yp{a b:Bool}(h:l9 a false b=true):a=false/\b=true:=by cases a<;>cases b<;>first|exact⟨rfl,rfl⟩|cases h
theorem a1Z{l:List α}{p:α->Bool}(h:l.any p=false):∀a∈l,p a=false:=by
 intro a ha;rw[ut]at h;have:=h a ha;cases hp:p a
 .rfl
 .exact absurd hp this
theorem c5I(h:smS s=true)(hI:ScI s):SmS s:=by
 unfold smS at h;obtain⟨h1,h⟩:=Yp h;obtain⟨h2,h⟩:=Yp h;obtain⟨h3,h⟩:=Yp h;obtain⟨h4,h⟩:=Yp h;obtain⟨h5,h⟩:=Yp h;obtain⟨h6,h⟩:=Yp h;have h7:s.2.2.2.2.any M_=false:=by cases hq:s.2.2.2.2.any M_<;>rw[hq]at h<;>first|rfl|cases h
 refine⟨by have:=lL (n:=80) h1;omega,lL (n:=14) h2,lL (n:=14) h3,ay (lL (n:=60) h4) l7,⟨λf hf=>?_,λf hf=>?_⟩,λr hr=>?_⟩
 .have:=lL (n:=80) (a1Z h5 f hf);omega
 .have:=lL (n:=80) (a1Z h6 f hf);omega
 .have hl:=a1Z h7 r hr;unfold M_ at hl;cases g1:F7 80 (o9 r.1)<;>rw[g1]at hl
  case true=>cases hl
  cases g2:F7 80 (o9 r.2.2.2.2.2.2.2)<;>rw[g2]at hl
  case true=>cases hl
  cases g3:F7 50 (o9 r.2.2.2.2.2.1)<;>rw[g3]at hl
  case true=>cases hl
  have k1:=lL (n:=80) g1;have k2:=lL (n:=80) g2;exact⟨⟨l7,l7,(hI r hr).1,(hI r hr).2⟩,lL (n:=50) g3,lL (n:=50) hl⟩
def smC(c:kY):Bool:=l9 (F7 14 (o9 c.2.1)) false (l9 (F7 10 (o9 c.2.2)) false (G6 (c.2.2.any λv=>F7 14 (o9 v))))
theorem a4Z(c:kY):EX c=some (smC c):=by
 unfold EX smC;cases h1:F7 14 (o9 c.2.1)
 case true=>rfl
 cases h2:F7 10 (o9 c.2.2)
 case true=>rfl
 have l2:=lL (n:=10) h2;simp only[o6];refine cZ (Kq c.2.2 (λv=>F7 14 (o9 v)) false PUnit.unit l7 (λi a ha=>?_) ?_) ?_
 rotate_left 2
 .cases c.2.2.any λv=>F7 14 (o9 v)<;>rfl
 .simp only[au ha,o7,G8,ha,o8];cases F7 14 (o9 a)<;>rfl
 .rw[ak];rfl
theorem b8r(h:smC c=true):SmC c:=by
 unfold smC at h;obtain⟨h1,h⟩:=Yp h;obtain⟨h2,h⟩:=Yp h;have h3:(c.2.2.any λv=>F7 14 (o9 v))=false:=by cases hq:c.2.2.any λv=>F7 14 (o9 v)<;>rw[hq]at h<;>first|rfl|cases h
 exact⟨by have:=lL (n:=14) h1;omega,by have:=lL (n:=10) h2;omega,λv hv=>by have:=lL (n:=14) (a1Z h3 v hv);omega⟩
theorem b6r{l:List α}{f:Int->Option (Out Int PUnit Bool)}(hl:l.length<=1000000)(hin:∀(i:Nat) (a:α),l[i]? =some a->f (i:Int)=some (.nx (A8 .i64 (i:Int) 1)))(hend:f (l.length:Int)=some (.ex PUnit.unit)):(o5 (bD f 0) λ(o:PUnit⊕Bool)=>bn o (λ_=>some true) λr=>some r)=some true:=by have:=Kq l (λ_=>false) false PUnit.unit hl (λi a ha=>by rw[hin i a ha];rfl) hend;rw[this,show l.any (λ_=>false)=false by simp];rfl
theorem Ym{a:List V3}(h:a.length<=1000000):Hr a a=some true:=by
 unfold Hr;rw[L8 rfl];refine b6r h (λi x hx=>?_) ?_
 .simp only[au hx,o7,G8,hx,o8,L8 (rfl:x.1=x.1),L8 (rfl:x.2.1=x.2.1),L8 (rfl:x.2.2=x.2.2)];rfl
 .rw[ak];rfl
theorem a2B{a:d4D}(h:a.length<=1000000):MZ a a=some true:=by
 unfold MZ;rw[L8 rfl];refine b6r h (λi x hx=>?_) ?_
 .simp only[au hx,o7,G8,hx,o8,L8 (rfl:x=x)];rfl
 .rw[ak];rfl
def b4M(b:DB):Prop:=b.1.length<=1000000/\b.2.length<=1000000
theorem a6K{b:DB}(h:b4M b):Ae b b=some true:=by unfold Ae;rw[Ym h.1,o8,a2B h.2];rfl
theorem a4n{a:List DB}(h:a.length<=1000000)(hb:∀b∈a,b4M b):yU a a=some true:=by
 unfold yU;rw[L8 rfl];refine b6r h (λi x hx=>?_) ?_
 .simp only[au hx,o7,G8,hx,o8,a6K (hb x (lM hx))];rfl
 .rw[ak];rfl
def b0Z(r:bT):Prop:=r.1.length<=1000000/\r.2.1.length<=1000000/\r.2.2.length<=1000000/\∀b∈r.2.2,b4M b
theorem a7z{r:bT}(h:b0Z r):Bf r r=some true:=by unfold Bf;rw[Ym h.1,o8,a2B h.2.1,o8,a4n h.2.2.1 h.2.2.2];rfl
theorem Rk{α β ρ:Type}(G:β->α->β⊕ρ)(Inv:β->Prop)(hG:∀b a b',Inv b->G b a= .inl b' ->Inv b'):∀(l:List α) (b b' :β),Inv b->eG G l b= .inl b' ->Inv b'
 |[],b,b',hi,h=>by cases h;exact hi|a::l,b,b',hi,h=>by
  unfold eG at h;cases hg:G b a with
  |inr r=>rw[hg]at h;cases h|inl b1=>rw[hg]at h;exact Rk G Inv hG l b1 b' (hG b a b1 hi hg) h
theorem YX{b:DB}(h:scS s env m need= .inl b):b.1.length=s.2.2.2.1.length/\b.2.length=s.2.2.2.1.length:=by
 refine Rk (scG s env m need) (λb=>b.1.length=s.2.2.2.1.length/\b.2.length=s.2.2.2.1.length) (λb a b' hi h=>?_) _ _ _ ⟨x9,x9⟩ h;unfold scG at h;cases hb:(H9 need a).getD false<;>rw[hb]at h
 .cases h;exact hi
 simp only[o7]at h;cases hd:yC s (uk env b.1) m a with
 |inr e=>rw[hd]at h;cases h|inl v=>rw[hd]at h;cases h;exact⟨by simp[hi.1],by simp[hi.2]⟩
theorem c8l{b:List DB}(hM:ms.2.2.2.1.length<=14)(h:mS l c ms need= .inl b):∀x∈b,b4M x:=by
 refine Rk (mG l c ms need) (λb=>∀x∈b,b4M x) (λb a b' hi h=>?_) _ _ _ x9 h;unfold mG at h;cases hs:scS ms (Yv l c a.1) (a.2:Int) need with
 |inr e=>rw[hs]at h;cases h|inl x=>
  rw[hs]at h;cases h;intro y hy;rcases D6.1 hy with hy|hy
  .exact hi y hy
  .rw[I7]at hy;subst hy;have:=YX hs;exact⟨l7,l7⟩
theorem a9j:b0Z ([],[],[]):=⟨x9,x9,x9,x9⟩
theorem b7O(hS:SmS s)(hM:SmS (aI l s))(hC:SmC c):b0Z (a1J l s c).1:=by
 unfold a1J;cases hq:mS l c (aI l s) (gZ (aI l s).2.2.2.1.length)with
 |inr e=>exact a9j|inl b=>
  simp only;cases hr:scS s (CP l s c b) (-1) (gZ s.2.2.2.1.length)with
  |inr e=>exact a9j|inl x=>
   have h1:=YX hr;have h2:=T_ hq;have h3:=hS.nd;have h4:=hC.nm;refine⟨?_,?_,?_,c8l hM.nd hq⟩
   .show x.1.length<=_;omega
   .show x.2.length<=_;omega
   .show b.length<=_;omega
def a6G(e:gX):Bool:=l9 (F7 80 (o9 e.1)) true (l9 (F7 20 (o9 e.2)) true (e.2.any λm=>F7 80 (o9 m)))
def tG(b:Int)(t:dM):Int⊕Bool:=l9 (F7 80 (o9 t.1)) (.inr false) (l9 (F7 150 (A8 .i64 b (o9 t.2.2.2))) (.inr false) (.inl (A8 .i64 b (o9 t.2.2.2))))
def sG(b:Int)(s:F9):Int⊕Bool:=l9 (F7 60 (A8 .i64 b (o9 s.2.2.2.2))) (.inr false) (l9 (smS s) (.inl (A8 .i64 b (o9 s.2.2.2.2))) (.inr false))
def smL(l:aZ):Bool:=l9 (F7 9 (o9 l.1)) false (l9 (F7 9 (o9 l.2.1)) false (l9 (F7 5 (o9 l.2.2)) false (l9 (l.1.any a6G) false
 (match eG tG l.2.1 0 with| .inr _=>false| .inl _=>match eG sG l.2.2 0 with| .inr _=>false| .inl _=>true))))
theorem c7A:∀(b:Int) (t:dM) (r:Bool),tG b t= .inr r->r=false:=by intro b t r h;unfold tG at h;cases g0:F7 80 (o9 t.1)<;>cases g:F7 150 (A8 .i64 b (o9 t.2.2.2))<;>simp only[g0,g,o7,o6]at h<;>cases h<;>rfl
theorem c5G:∀(b:Int) (s:F9) (r:Bool),sG b s= .inr r->r=false:=by intro b s r h;unfold sG at h;cases g:F7 60 (A8 .i64 b (o9 s.2.2.2.2))<;>cases g2:smS s<;>simp only[g,g2,o7,o6]at h<;>cases h<;>rfl
theorem a7H(l:aZ):GV l=some (smL l):=by
 unfold GV smL;cases h1:F7 9 (o9 l.1)
 case true=>rfl
 cases h2:F7 9 (o9 l.2.1)
 case true=>rfl
 cases h3:F7 5 (o9 l.2.2)
 case true=>rfl
 have l1:=lL (n:=9) h1;have l2:=lL (n:=9) h2;have l3:=lL (n:=5) h3;simp only[o6,o8,V4];refine cZ (Kq l.1 a6G false PUnit.unit l7 (λi a ha=>?_) ?_) ?_
 .simp only[au ha,o7,G8,ha,o8];unfold a6G;cases F7 80 (o9 a.1)
  case true=>rfl
  cases h5:F7 20 (o9 a.2)
  case true=>rfl
  have l5:=lL (n:=20) h5;simp only[o6];refine cZ (Kq a.2 (λm=>F7 80 (o9 m)) false PUnit.unit l7 (λj m hm=>?_) ?_) ?_
  .simp only[au hm,o7,G8,hm,o8];cases F7 80 (o9 m)<;>rfl
  .rw[ak];rfl
  .cases a.2.any λm=>F7 80 (o9 m)<;>rfl
 .rw[ak];rfl
 cases l.1.any a6G
 case true=>rfl
 simp only[cond_false,V4,o6];apply pM l.2.1 tG (λb i=>((b,i):Int×Int)) (λ_=>PUnit.unit) (λ_ _=>True) 0 l7 trivial
 .intro i t b hi hi' _;refine⟨?_,λ_ _=>trivial⟩;simp only[au hi,o7,G8,hi,o8];unfold tG;rw[ja l7];cases F7 80 (o9 t.1)<;>cases F7 150 (A8 .i64 b (o9 t.2.2.2))<;>rfl
 .intro b _;rw[ak];rfl
 .intro _;cases ht:eG tG l.2.1 0 with
  |inr r=>rw[xM tG (λr=>r=false) c7A _ _ _ ht];rfl|inl b=>
   simp only[V4];apply pM l.2.2 sG (λb i=>((b,i):Int×Int)) (λ_=>PUnit.unit) (λ_ _=>True) 0 l7 trivial
   .intro i s b hi hi' _;refine⟨?_,λ_ _=>trivial⟩;simp only[au hi,o7,G8,hi,o8,a1L];unfold sG;rw[ja l7];cases F7 60 (A8 .i64 b (o9 s.2.2.2.2))<;>cases smS s<;>rfl
   .intro b _;rw[ak];rfl
   .intro _;cases hs:eG sG l.2.2 0 with
    |inr r=>rw[xM sG (λr=>r=false) c5G _ _ _ hs];rfl|inl b=>rfl
structure WfL (l:aZ):Prop where
 rl:∀t∈l.2.1,t.2.2.2.length<=4611686018427387904
 ri:∀t∈l.2.1,∀r∈t.2.2.2,b1a r
 sl:∀s∈l.2.2,s.2.2.2.2.length<=4611686018427387904
 si:∀s∈l.2.2,ScI s
theorem b9o:∀(L:List dM) (b b' :Int),0<=b->b<=150->(∀t∈L,t.2.2.2.length<=4611686018427387904)->eG tG L b= .inl b' ->∀t∈L,t.1.length<=80/\t.2.2.2.length<=150
 |[],_,_,_,_,_,_=>by simp|t::L,b,b',h0,h1,hw,h=>by
  have hwt:=hw t x9;have ha:A8 .i64 b (o9 t.2.2.2)=b+o9 t.2.2.2:=U5 (by unfold iq o9;omega);unfold eG tG at h;rw[ha]at h;cases g0:F7 80 (o9 t.1)<;>rw[g0]at h
  case true=>cases h
  cases g1:F7 150 (b+o9 t.2.2.2)<;>rw[g1]at h
  case true=>cases h
  rw[jW]at g1;intro x hx;rcases C9.1 hx with rfl|hx
  .exact⟨lL (n:=80) g0,by unfold o9 at g1;omega⟩
  .exact b9o L (b+o9 t.2.2.2) b' (by unfold o9;omega) g1 (λq hq=>hw q (by simp[hq])) h x hx
theorem b8i:∀(L:List F9) (b b' :Int),0<=b->b<=60->(∀s∈L,s.2.2.2.2.length<=4611686018427387904)->eG sG L b= .inl b' ->∀s∈L,smS s=true
 |[],_,_,_,_,_,_=>by simp|s::L,b,b',h0,h1,hw,h=>by
  have hwt:=hw s x9;have ha:A8 .i64 b (o9 s.2.2.2.2)=b+o9 s.2.2.2.2:=U5 (by unfold iq o9;omega);unfold eG sG at h;rw[ha]at h;cases g1:F7 60 (b+o9 s.2.2.2.2)<;>rw[g1]at h
  case true=>cases h
  cases g2:smS s<;>rw[g2]at h
  case false=>cases h
  rw[jW]at g1;intro x hx;rcases C9.1 hx with rfl|hx
  .exact g2
  .exact b8i L (b+o9 s.2.2.2.2) b' (by unfold o9;omega) g1 (λq hq=>hw q (by simp[hq])) h x hx
theorem b8s(h:smL l=true)(hW:WfL l):SmL l/\∀t∈l.2.1,BV t:=by
 unfold smL at h;obtain⟨h1,h⟩:=Yp h;obtain⟨h2,h⟩:=Yp h;obtain⟨h3,h⟩:=Yp h;obtain⟨h4,h⟩:=Yp h;have l1:=lL (n:=9) h1;have l2:=lL (n:=9) h2;have l3:=lL (n:=5) h3;cases ht:eG tG l.2.1 0 with
 |inr r=>rw[ht]at h;cases h|inl b=>
  rw[ht]at h;simp only at h;cases hs:eG sG l.2.2 0 with
  |inr r=>rw[hs]at h;cases h|inl b' =>
   have T:=b9o l.2.1 0 b l7 l7 hW.rl ht;have S:=b8i l.2.2 0 b' l7 l7 hW.sl hs;refine⟨⟨⟨l7,l7,l7⟩,λe he=>?_,λt ht=>by have:=(T t ht).1;omega,λs hs=>c5I (S s hs) (hW.si s hs),l7⟩,λt ht=>⟨by have:=(T t ht).2;omega,hW.ri t ht⟩⟩;have hl:=a1Z h4 e he;unfold a6G at hl;cases g1:F7 80 (o9 e.1)<;>rw[g1]at hl
   case true=>cases hl
   cases g2:F7 20 (o9 e.2)<;>rw[g2]at hl
   case true=>cases hl
   have k1:=lL (n:=80) g1;exact⟨l7,λm hm=>by have:=lL (n:=80) (a1Z hl m hm);omega⟩
theorem a7r:reachBytes<=4611686018427387904:=by decide
theorem d3W(h:wf d4v l):WfL l:=by
 refine⟨λt ht=>?_,λt ht r hr=>?_,λs hs=>?_,λs hs r hr=>⟨λn hn=>?_,λn hn=>?_⟩⟩
 .have:=(h.2.1.2 t ht).2.2.2.1;exact ay this a7r
 .have:=(h.2.1.2 t ht).2.2.2.2 r hr;exact⟨a1l this.2.1,a1l this.2.2.1,a1l this.2.2.2⟩
 .have:=(h.2.2.2 s hs).2.2.2.2.1;exact ay this a7r
 .have:=(h.2.2.2 s hs).2.2.2.2.2 r hr;exact a1l (this.2.2.2.2.2.1.2 n hn).2
 .have:=(h.2.2.2 s hs).2.2.2.2.2 r hr;exact a1l (this.2.2.2.2.2.2.1.2 n hn).2
variable {sg:L9}
theorem c2Z(hk:fA k=some true)(h:(IL (k,N) [] sg).2=0):((RR (k,N) [] sg).getD ((0,0),0)).2=0:=by unfold IL at h;rw[b4R]at h;revert h;cases G6 (x8 N 0)<;>simp_all
theorem c1g(h:(IL (8,N) [] sg).2=0):0<=N/\N<o9 sg.2.2.2.1:=by
 have h:=c2Z rfl h;have hf:rX (8,N) sg=l9 (S9 0 N) (some (F7 N (o9 sg.2.2.2.1))) (some false):=rfl;unfold RR at h;rw[hf,show uF (8,N) sg=some true from rfl]at h;cases h1:S9 0 N<;>rw[h1]at h
 .simp_all
 cases h2:F7 N (o9 sg.2.2.2.1)<;>rw[h2]at h
 .simp_all
 exact⟨pF.1 h1,jV.1 h2⟩
theorem c1h(hk:k=36\/k=37\/k=38\/k=39)(h:(IL (k,N) [] sg).2=0):0<=N/\N<o9 sg.2.2.2.2.1/\sg.2.2.2.2.2=true:=by
 have h:=c2Z (by rcases hk with rfl|rfl|rfl|rfl<;>rfl) h;have hr:RR (k,N) [] sg=o5 (l9 sg.2.2.2.2.2 (l9 (S9 0 N) (some (F7 N (o9 sg.2.2.2.2.1))) (some false)) (some false)) λ(x:Bool)=>l9 (G6 x) (some ((0,0),6))
   (o5 (dN (k,N) sg) λ(x:D7×Bool)=>l9 (G6 x.2) (some ((0,0),8)) (some (x.1,0))):=by rcases hk with rfl|rfl|rfl|rfl<;>rfl
 rw[hr]at h;cases h0:sg.2.2.2.2.2<;>rw[h0]at h
 .simp_all
 cases h1:S9 0 N<;>rw[h1]at h
 .simp_all
 cases h2:F7 N (o9 sg.2.2.2.2.1)<;>rw[h2]at h
 .simp_all
 exact⟨pF.1 h1,jV.1 h2,rfl⟩
def Zj(sg:L9)(n:Int×Int):Prop:=(x8 n.1 8=true->0<=n.2/\n.2<o9 sg.2.2.2.1)/\(isM n.1=true->0<=n.2/\n.2<o9 sg.2.2.2.2.1/\sg.2.2.2.2.2=true)
theorem a2C(h:isM k=true):k=36\/k=37\/k=38\/k=39:=by
 unfold isM at h;cases h1:S9 36 k<;>rw[h1]at h
 .cases h
 have h2:=pF.1 h1;have h3:=pF.1 (show S9 k 39=true from h);omega
variable {t:Int×Int}
theorem b6x(h:Io sg n [] i= .inr t):Zj sg n:=by
 unfold Io at h;split at h
 .rename_i h0;obtain⟨k,N⟩:=n;refine⟨λhk=>?_,λhk=>c1h (a2C hk) h0⟩;have hk:=U4.1 hk;subst hk;exact c1g h0
 grind
theorem a0h(h:lG n.1≠0):Zj sg n:=by
 refine⟨λhk=>absurd ?_ h,λhk=>absurd ?_ h⟩
 .rw[U4.1 hk];rfl
 .rcases a2C hk with e|e|e|e<;>rw[e]<;>rfl
theorem OA{sg:L9} :∀(t:XT) (o:Nat) {r:Int×Int},t.wf->fJ sg t o= .inr r->∀n∈t.post,Zj sg n
 | .l0 n,o,r,hw,h,x,hx=>by
  grind [XT.post,fJ,b6x]
 | .l1 n a,o,r,hw,h,x,hx=>by
  unfold fJ at h;cases ha:fJ sg a o with
  |inl e=>rw[ha]at h;cases h|inr ta=>
   rcases D6.1 hx with hx|hx
   .exact OA a o hw.2 ha x hx
   .rw[I7.1 hx];exact a0h (by rw[hw.1];decide)
 | .l2 n a b,o,r,hw,h,x,hx=>by
  unfold fJ at h;cases ha:fJ sg a o with
  |inl e=>rw[ha]at h;cases h|inr ta=>
   rw[ha]at h;cases hb:fJ sg b (o+a.size)with
   |inl e=>rw[hb]at h;cases h|inr tb=>
    rcases D6.1 hx with hx|hx
    .rcases D6.1 hx with hx|hx
     .exact OA a o hw.2.1 ha x hx
     .exact OA b _ hw.2.2 hb x hx
    .rw[I7.1 hx];exact a0h (by rw[hw.1];decide)
 | .l3 n a b c,o,r,hw,h,x,hx=>by
  unfold fJ at h;cases ha:fJ sg a o with
  |inl e=>rw[ha]at h;cases h|inr ta=>
   rw[ha]at h;cases hb:fJ sg b (o+a.size)with
   |inl e=>rw[hb]at h;cases h|inr tb=>
    rw[hb]at h;cases hc:fJ sg c (o+a.size+b.size)with
    |inl e=>rw[hc]at h;cases h|inr tc=>
     rcases D6.1 hx with hx|hx
     .rcases D6.1 hx with hx|hx
      .rcases D6.1 hx with hx|hx
       .exact OA a o hw.2.1 ha x hx
       .exact OA b _ hw.2.2.1 hb x hx
      .exact OA c _ hw.2.2.2 hc x hx
     .rw[I7.1 hx];exact a0h (by rw[hw.1];decide)
variable {ops:List (Int×Int)}
theorem NS{x:Int×Int}(h:Io sg n ops i= .inl x):x.2≠0:=by
 grind [Io]
theorem BO{sg:L9} :∀(t:XT) (o:Nat) {x:Int×Int},fJ sg t o= .inl x->x.2≠0
 | .l0 n,o,x,h=>NS h| .l1 n a,o,x,h=>by
  unfold fJ at h;cases ha:fJ sg a o with
  |inl e=>rw[ha]at h;cases h;exact BO a o ha|inr ta=>rw[ha]at h;exact NS h
 | .l2 n a b,o,x,h=>by
  unfold fJ at h;cases ha:fJ sg a o with
  |inl e=>rw[ha]at h;cases h;exact BO a o ha|inr ta=>
   rw[ha]at h;cases hb:fJ sg b (o+a.size)with
   |inl e=>rw[hb]at h;cases h;exact BO b _ hb|inr tb=>rw[hb]at h;exact NS h
 | .l3 n a b c,o,x,h=>by
  unfold fJ at h;cases ha:fJ sg a o with
  |inl e=>rw[ha]at h;cases h;exact BO a o ha|inr ta=>
   rw[ha]at h;cases hb:fJ sg b (o+a.size)with
   |inl e=>rw[hb]at h;cases h;exact BO b _ hb|inr tb=>
    rw[hb]at h;cases hc:fJ sg c (o+a.size+b.size)with
    |inl e=>rw[hc]at h;cases h;exact BO c _ hc|inr tc=>rw[hc]at h;exact NS h
theorem a3v(h:(sZ e sg).2.2=0):∀n∈e,Zj sg n:=by
 unfold sZ at h;cases hs:kX e with
 |inl x=>grind [Eh]|inr t=>
  cases ht:fJ sg t 0 with
  |inl x=>
   grind [BO]
  |inr r=>intro n hn;rw[(wS hs).1]at hn;exact OA t 0 (Jg hs) ht n hn
theorem SA(h:Fq e sg t=0):sZ e sg=(t,(sZ e sg).2.1,0):=by
 unfold Fq at h;cases h1:x8 (sZ e sg).2.2 0<;>rw[h1]at h
 .simp_all [L8]
 cases h2:x8 (sZ e sg).1.1 t.1<;>rw[h2]at h
 .exact absurd (show(8:Int)=0 from h) E5
 cases h3:x8 (sZ e sg).1.2 t.2<;>rw[h3]at h
 .exact absurd (show(8:Int)=0 from h) E5
 grind [U4]
variable {r:iT}
theorem a1i(h:(eX l).1=0)(hs:l.2.2[i]? =some s){k:Nat}(hr:s.2.2.2.2[k]? =some r):KX s (yV l s) k r=0:=by
 have hp:=(Sv h hs).2;unfold WX at hp;cases h1:KD l s with
 |some q=>rw[h1]at hp;exact absurd hp (Qa h1)|none=>
  rw[h1]at hp;simp only at hp;cases h2:fH s.2.2.2.2.length (QE l s)with
  |some q=>
   rw[h2]at hp;obtain⟨j,hj,hq⟩:=je h2;unfold QE at hq;cases h3:s.2.2.2.2[j]? with
   |none=>rw[h3]at hq;cases hq|some q2=>rw[h3]at hq;exact absurd hp (Rh hq)
  |none=>
   have hn:=vZ h2 k (U8.1 hr).1;unfold QE at hn;rw[hr]at hn;simp only at hn;unfold g_ at hn;cases he:x8 (KX s (yV l s) k r) 0<;>rw[he]at hn
   .cases hn
   .exact U4.1 he
theorem a9Y{k:Nat}(h:KX s sg k r=0):∃d,H9 s.2.2.2.1 r.2.1=some d/\PY r sg d.2=0:=by
 unfold KX at h;cases g1:Ko r.1<;>rw[g1]at h
 .simp_all
 cases g2:(s.2.2.2.2.take k).any λx=>seq x.1 r.1<;>rw[g2]at h
 case true=>simp_all
 cases g3:H9 s.2.2.2.1 r.2.1 with
 |none=>simp_all|some d=>
  rw[g3]at h;refine⟨d,rfl,?_⟩;simp only[o7,o6]at h;revert h;generalize l9 (x8 r.2.2.1 (-1)) false (l9 (F7 r.2.2.1 0) true (l9 (S9 k r.2.2.1) true (match H9 s.2.2.2.2 r.2.2.1 with|some q=>G6 (x8 q.2.1 r.2.1)|none=>true)))=b1;generalize F7 r.2.2.2.1 0=b2;generalize F7 9 r.2.2.2.1=b3;generalize Ny r.2.2.2.2.1=b4;generalize x8 r.2.2.2.2.1.1 r.2.2.2.2.1.2=b5;generalize S9 8 (Pi (s.2.2.2.2.take k) r.2.1)=b6;generalize b0z r.2.2.2.2.2.2.2=b7;intro h;cases b1
  case true=>simp_all
  cases b2
  case true=>simp_all
  cases b3
  case true=>simp_all
  cases b4
  case false=>simp_all
  cases b5
  case true=>simp_all
  cases b6
  case true=>simp_all
  cases b7<;>simp_all
theorem Em(h:(eX l).1=0)(hs:l.2.2[i]? =some s)(hr:r∈s.2.2.2.2):
  (r.2.2.2.2.2.1=[]\/Fq r.2.2.2.2.2.1 (yV l s) (1,0)=0)/\∃d,H9 s.2.2.2.1 r.2.1=some d/\Fq r.2.2.2.2.2.2.1 (yV l s) d.2=0:=by
 obtain⟨k,hk,e⟩:=Y5 hr;obtain⟨d,h1,h2⟩:=a9Y (a1i h hs (r:=r) (k:=k) (by rw[dE hk,e]));unfold PY at h2;cases h3:F7 0 (o9 r.2.2.2.2.2.1)<;>rw[h3]at h2
 .refine⟨.inl ?_,d,h1,h2⟩;rw[jW]at h3;exact P5.1 (by simp only[o9]at h3;omega)
 .simp only[o7]at h2;cases h4:x8 (Fq r.2.2.2.2.2.1 (yV l s) (1,0)) 0<;>rw[h4]at h2
  .simp only[o6]at h2;rw[L8 h2]at h4;cases h4
  .exact⟨.inr (U4.1 h4),d,h1,h2⟩
theorem a0S(l:aZ)(s:F9):(yV l s).2.2.2.1=s.2.2.2.1.map (·.2):=by grind [yV]
theorem b2x(h:(yV l s).2.2.2.2.2=true):(yV l s).2.2.2.2.1=(aI l s).2.2.2.1.map (·.2):=by
 unfold yV at h ⊢;unfold aI H9
 by_cases g:0<=s.2.1
 .rw[ae g];cases hq:l.2.2[s.2.1.toNat]?<;>simp_all
 simp_all
theorem b4r(h:(eX l).1=0)(hs:l.2.2[i]? =some s)(hr:r∈s.2.2.2.2)(he:e=r.2.2.2.2.2.1\/e=r.2.2.2.2.2.2.1):
  (∀x∈(CU e).2.1,0<=x/\x<nD s)/\∀x∈(CU e).2.2,0<=x/\x<nD (aI l s):=by
 obtain⟨h1,d,h2,h3⟩:=Em h hs hr;have hn:∀n∈e,Zj (yV l s) n:=by
  rcases he with rfl|rfl
  .rcases h1 with h1|h1
   .rw[h1];simp
   .exact a3v (by rw[SA h1])
  .exact a3v (by rw[SA h3])
 constructor
 .intro x hx;have hx:=(Hf x _).1 (show x∈Py (Vh (λo=>x8 o 8) e)from hx);obtain⟨n,hn1,rfl⟩:=J6.1 hx;obtain⟨hn2,hn3⟩:=Y0.1 hn1;have:=(hn n hn2).1 hn3;rw[a0S]at this;simpa[o9,nD]using this
 .intro x hx;have hx:=(Hf x _).1 (show x∈Py (Vh isM e)from hx);obtain⟨n,hn1,rfl⟩:=J6.1 hx;obtain⟨hn2,hn3⟩:=Y0.1 hn1;have:=(hn n hn2).2 hn3;rw[b2x this.2.2]at this;refine⟨this.1,?_⟩;have h2:=this.2.1;simpa[o9,nD]using h2
theorem a5U(s:F9)(env:aA)(m d:Int):((dF s env m d).2.1=0/\dF s env m d=((dF s env m d).1,0,0,0,0))\/((dF s env m d).2.1≠0/\dF s env m d=(0,(dF s env m d).2)):=by
 unfold dF;cases hf:eG (GZ s env m d) (Y2 s d env.1).1 []with
 |inr e=>
  right;have:=xM (GZ s env m d) (λr=>r.1=0/\r.2.1≠0) (λb i r h=>?_) _ _ _ hf
  .exact⟨this.2,Z7 this.1 rfl⟩
  .refine⟨?_,UM b i r h⟩;unfold GZ at h;split at h
   .cases h
   .rename_i q _;cases h1:x8 (o9 q.2.2.2.2.2.1) 0<;>rw[h1]at h
    case true=>cases h
    cases h2:x8 (iW q.2.2.2.2.2.1 env).2 0<;>rw[h2]at h<;>cases h;rfl
 |inl ap=>left;simp only;cases F7 (Bg (Y2 s d env.1).2.1 (Y2 s d env.1).2.2 ap) 0<;>exact⟨rfl,rfl⟩
structure Sim (P Q:Int->Prop) (a b:aA):Prop where
 e1:a.1=b.1
 e2:a.2.1=b.2.1
 e3:a.2.2.2.2=b.2.2.2.2
 dl:a.2.2.1.length=b.2.2.1.length
 d:∀x,P x->H9 a.2.2.1 x=H9 b.2.2.1 x
 ml:a.2.2.2.1.length=b.2.2.2.1.length
 m:∀x,Q x->a.2.2.2.1.map (λv=>H9 v x)=b.2.2.2.1.map (λv=>H9 v x)
def a5w(P Q:Int->Prop)(n:Int×Int):Prop:=(n.1=8->P n.2)/\(isM n.1=true->Q n.2)
theorem YM{a:List α}{b:List β}(h:a.length=b.length):o9 a=o9 b:=congrArg (λ(n:Nat)=>(n:Int)) h
variable {Q:Int->Prop}{P:Int->Prop}{a:aA}{b:aA}
theorem b3u(h:Sim P Q a b)(hn:a5w P Q n):yz n a=yz n b:=by
 obtain⟨d,i,D,M,T,B⟩:=a;obtain⟨d',i',D',M',T',B'⟩:=b;obtain⟨e1,e2,e3,dl,hd,ml,hm⟩:=h;cases e1;cases e2;cases e3;have hD:=YM dl;unfold yz;simp only at hD hd ⊢;rw[hD];cases hk:x8 n.1 8
 .rfl
 .rw[hd _ (hn.1 (U4.1 hk))]
theorem a6D(h:Sim P Q a b)(hn:a5w P Q n):dV n a=dV n b:=by
 obtain⟨d,i,D,M,T,B⟩:=a;obtain⟨d',i',D',M',T',B'⟩:=b;obtain⟨e1,e2,e3,dl,hd,ml,hm⟩:=h;cases e1;cases e2;cases e3;have hM:=YM ml;unfold dV;simp only at hM hd ⊢;rw[hM];cases hk:x8 n.1 8
 .rfl
 .rw[hd _ (hn.1 (U4.1 hk))]
theorem p_{α γ β ρ:Type}(f:α->γ)(g:β->γ->β⊕ρ):∀(l:List α) (b:β),eG (λb a=>g b (f a)) l b=eG g (l.map f) b
 |[],b=>rfl|a::l,b=>by
  rw[aS];unfold eG;cases g b (f a)with
  |inl b' =>exact p_ f g l b'|inr r=>rfl
def c8m(k:Int)(t:Int×Int)(b:Int×Bool)(o:Option V3):(Int×Bool)⊕(V3×Int):=
 match(match o with|none=>(.inr 6:V3⊕Int)|some x=>l9 (x8 x.1 0) (.inr 6) (l9 (UN x t) (.inl x) (.inr 8)))with
 | .inr c=> .inr ((0,0,0),c)| .inl x=>l9 (plB (t.1,0,Jz k b.1 x.2.2 b.2)) (.inl (Jz k b.1 x.2.2 b.2,false)) (.inr ((0,0,0),3))
theorem b1N(k N:Int)(t:Int×Int)(ms:List (List V3))(b:Int×Bool):eG (Ig k N t) ms b=eG (c8m k t) (ms.map λv=>H9 v N) b:=p_ (λv=>H9 v N) (c8m k t) ms b
theorem a6L(h:Sim P Q a b)(hn:Q n.2)(ha:EvOk a)(hb:EvOk b):rC n a=rC n b:=by
 obtain⟨k,N⟩:=n;have h3:a.2.2.2.2.1=b.2.2.2.2.1:=by rw[h.e3]
 cases hl:H9 a.2.2.2.2.1 N with
 |none=>
  have hl2:H9 b.2.2.2.2.1 N=none:=by rw[←h3];exact hl
  unfold rC;simp only;rw[hl,hl2];rfl
 |some t=>
  have hl2:H9 b.2.2.2.2.1 N=some t:=by rw[←h3];exact hl
  have h0:=(bQ hl).1;rw[KP k N a t hl h0 ha.ms,KP k N b t hl2 h0 hb.ms];unfold a2L;rw[b1N,b1N,h.m N hn,YM h.ml]
theorem b0k(h:Sim P Q a b)(n:Int×Int)(x:V3):jC n x a=jC n x b:=by obtain⟨d,i,D,M,T,B⟩:=a;obtain⟨d',i',D',M',T',B'⟩:=b;obtain⟨e1,e2,e3,dl,hd,ml,hm⟩:=h;cases e1;cases e2;cases e3;rfl
theorem Wu(h:Sim P Q a b)(hn:a5w P Q n)(ha:EvOk a)(hb:EvOk b)(args:List V3):mY n args a=mY n args b:=by
 unfold mY yx;simp only[b3u h hn,a6D h hn,b0k h];cases h1:S9 36 n.1
 .rfl
 cases h2:S9 n.1 39
 .rfl
 rw[a6L h (hn.2 (by unfold isM;rw[h1];exact h2)) ha hb]
theorem NG{P Q:Int->Prop}{a b:aA}(h:Sim P Q a b)(ha:EvOk a)(hb:EvOk b):∀(t:XT),(∀n∈t.post,a5w P Q n)->evT a t=evT b t
 | .l0 n,hn=>Wu h (hn n (by simp[XT.post])) ha hb []| .l1 n x,hn=>by unfold evT;rw[NG h ha hb x (λm hm=>hn m (by simp[XT.post,hm])),Wu h (hn n (by simp[XT.post])) ha hb]| .l2 n x y,hn=>by unfold evT;rw[NG h ha hb x (λm hm=>hn m (by simp[XT.post,hm])),NG h ha hb y (λm hm=>hn m (by simp[XT.post,hm])),Wu h (hn n (by simp[XT.post])) ha hb]| .l3 n x y z,hn=>by unfold evT;rw[NG h ha hb x (λm hm=>hn m (by simp[XT.post,hm])),NG h ha hb y (λm hm=>hn m (by simp[XT.post,hm])),NG h ha hb z (λm hm=>hn m (by simp[XT.post,hm]))]
theorem b4m(h1:∀x∈(CU e).2.1,P x)(h2:∀x∈(CU e).2.2,Q x):∀n∈e,a5w P Q n:=λn hn=>by
 refine⟨λhk=>h1 _ ?_,λhk=>h2 _ ?_⟩
 .exact(Hf _ _).2 (J6.2 ⟨n,Y0.2 ⟨hn,by simp[hk,x8]⟩,rfl⟩)
 .exact(Hf _ _).2 (J6.2 ⟨n,Y0.2 ⟨hn,hk⟩,rfl⟩)
theorem a2p(h:Sim P Q a b)(ha:EvOk a)(hb:EvOk b)(h1:∀x∈(CU e).2.1,P x)(h2:∀x∈(CU e).2.2,Q x):iW e a=iW e b:=by
 unfold iW;cases hs:kX e with
 |inl x=>rfl|inr t=>simp only;exact NG h ha hb t (λn hn=>b4m h1 h2 n (by rw[(wS hs).1];exact hn))
def b9T(s:F9)(P Q:Int->Prop)(d:Int):Prop:=∀r∈s.2.2.2.2,r.2.1=d->∀e,e=r.2.2.2.2.2.1\/e=r.2.2.2.2.2.2.1->(∀x∈(CU e).2.1,P x)/\∀x∈(CU e).2.2,Q x
theorem Nk{d t i:Int}(h:i∈(Y2 s d t).1):∃r,H9 s.2.2.2.2 i=some r/\r∈s.2.2.2.2/\r.2.1=d:=by
 have h:i∈castL (dB s d t):=h;obtain⟨k,hk,rfl⟩:=J6.1 h;obtain⟨h1,h2⟩:=RZ hk;obtain⟨r,hr,hm⟩:=qA (l:=s.2.2.2.2) (i:=(k:Int)) l7 (by unfold o9;omega);refine⟨r,hr,hm,?_⟩;unfold onR at h2;rw[G8]at hr;rw[hr]at h2;simp only at h2;cases h3:x8 r.2.1 d<;>rw[h3]at h2
 .cases h2
 .exact U4.1 h3
theorem XE{α β ρ:Type}{G H:β->α->β⊕ρ} :∀(l:List α) (b:β),(∀a∈l,∀b,G b a=H b a)->eG G l b=eG H l b
 |[],b,h=>rfl|a::l,b,h=>by
  unfold eG;rw[h a x9];cases H b a with
  |inl b' =>exact XE l b' (λx hx=>h x (by simp[hx]))|inr r=>rfl
theorem a5W(h:Sim P Q a b)(ha:EvOk a)(hb:EvOk b)(hr:∀i∈(Y2 s d b.1).1,∀r,H9 s.2.2.2.2 i=some r->(∀x∈(CU r.2.2.2.2.2.1).2.1,P x)/\∀x∈(CU r.2.2.2.2.2.1).2.2,Q x)(m:Int):dF s a m d=dF s b m d:=by unfold dF;rw[h.e1,XE (G:=GZ s a m d) (H:=GZ s b m d) (Y2 s d b.1).1 [] (λi hi ap=>?_)];obtain⟨r,h1,h2,h3⟩:=Nk hi;obtain⟨p1,p2⟩:=hr i hi r h1;unfold GZ;rw[h1];simp only;rw[a2p h ha hb p1 p2]
theorem a8v(h:Sim P Q a b)(ha:EvOk a)(hb:EvOk b)(hr:b9T s P Q d)(m:Int):dF s a m d=dF s b m d:=
 a5W h ha hb (λi hi r hl=>by obtain⟨q,h1,h2,h3⟩:=Nk hi;rw[h1]at hl;cases hl;exact hr r h2 h3 _ (.inl rfl)) m
theorem a2j(h0:(dF s env m d).2.1=0)(h1:(dF s env m d).1≠-1)(h2:(dF s env m d).1≠-2):(dF s env m d).1∈(Y2 s d env.1).1:=by
 unfold dF at h0 h1 h2 ⊢;cases hf:eG (GZ s env m d) (Y2 s d env.1).1 []with
 |inr e=>rw[hf]at h0;exact absurd h0 (xM (GZ s env m d) (λr=>r.2.1≠0) (λb i r h=>UM b i r h) _ _ _ hf)|inl ap=>
  rw[hf]at h1 h2;simp only at h1 h2 ⊢;have hb:=Sj (Y2 s d env.1).2.1 (Y2 s d env.1).2.2 ap;have hlo:=VO (Y2 s d env.1).2.1 (Y2 s d env.1).2.2 ap;have hl:=(Ia s d env.1).2;generalize Bg (Y2 s d env.1).2.1 (Y2 s d env.1).2.2 ap=q at h1 h2 hb hlo ⊢;by_cases g:q<0
  .rw[U0 g]at h1 h2;simp only[o7]at h1 h2;omega
  rw[L6 (jD.1 g)];have hi:q.toNat<(Y2 s d env.1).1.length:=l7;simp only[o6,BG,dE hi,Z9];exact P8 hi
theorem b5B(h:Sim P Q a b)(ha:EvOk a)(hb:EvOk b)(hr:b9T s P Q d)(m:Int):yC s a m d=yC s b m d:=by
 unfold yC;rw[a8v h ha hb hr m];cases h0:x8 (dF s b m d).2.1 0
 .simp only[o6]
 cases h1:x8 (dF s b m d).1 (-1)
 case true=>simp only[o7]
 cases h2:x8 (dF s b m d).1 (-2)
 case true=>simp only[o7,o6]
 have hin:=a2j (U4.1 h0) (λe=>by rw[L8 e]at h1;cases h1) (λe=>by rw[L8 e]at h2;cases h2);obtain⟨r,r1,r2,r3⟩:=Nk hin;obtain⟨p1,p2⟩:=hr r r2 r3 _ (.inr rfl);rw[r1];simp only;rw[a2p h ha hb p1 p2]
def b2V(s:F9)(O:d4D):Prop:=O.Nodup/\(∀d∈O,0<=d/\d<nD s)/\∀(pre:d4D) (d:Int) (suf:d4D),O=pre++d::suf->∀x∈ai s d,x∈pre
theorem b0w{O pre suf:d4D}{d e:Int}(h:O++[e]=pre++d::suf):(suf=[]/\pre=O/\d=e)\/∃suf',suf=suf' ++[e]/\O=pre++d::suf' :=by rcases List.eq_nil_or_concat suf with rfl|⟨suf',z,rfl⟩<;>grind [List.append_inj']
variable {O:d4D}
theorem b4C{d:Nat}(h:b2V s O)(hd:d<s.2.2.2.1.length)(ho:okN s O d=true):b2V s (O++[(d:Int)]):=by
 obtain⟨h1,h2⟩:=a9n.1 ho;refine⟨?_,λx hx=>?_,λpre e suf he x hx=>?_⟩
 .exact H8.2 ⟨h.1,x9,λa ha b hb hab=>by simp_all⟩
 .rcases D6.1 hx with hx|hx
  .exact h.2.1 x hx
  simp_all [nD,o9]
 .rcases b0w he with⟨_,rfl,rfl⟩|⟨suf',_,e2⟩
  .cases hq:Pj pre x
   .simp_all [UU]
   .exact JB.1 hq
  .exact h.2.2 pre e suf' e2 x hx
theorem b9E{d x:Int}(hx:x∈ai s d)(hn:x∉Cc s x):(Cc s x).length<(Cc s d).length:=by obtain⟨a1,a2,a3,a4⟩:=Nh s d;obtain⟨b1,b2,b3,b4⟩:=Nh s x;have hxd:=a2 x hx;rcases VS b1 a1 (λy hy=>b4 (λz=>z∈Cc s d) (a3 x hxd) (λz hz=>a3 z hz) y hy)with h|h<;>grind
theorem b7y(hac:∀d,0<=d->d<nD s->d∉Cc s d)(O:d4D):∀(n:Nat) (d:Int),0<=d->d<nD s->d∉O->(Cc s d).length<=n->∃e,0<=e/\e<nD s/\e∉O/\∀x∈ai s e,x∈O:=by
 intro n;induction n with
 |zero=>intro d h0 h1 h2 hl;refine⟨d,h0,h1,h2,λx hx=>?_⟩;have:=(Nh s d).2.1 x hx;simp_all|succ n ih=>
  intro d h0 h1 h2 hl;by_cases hq:∀x∈ai s d,x∈O
  .grind
  .obtain⟨x,hx⟩:=Classical.not_forall.1 hq;obtain⟨hx,hxO⟩:=Classical.not_imp.1 hx;obtain⟨q0,q1⟩:=FO hx;have:=b9E hx (hac x q0 q1)
   grind
theorem c4V(hl:O.length<s.2.2.2.1.length):∃d:Int,0<=d/\d<nD s/\d∉O:=by
 refine aF λhq=>?_;have h1:∀x∈castL (List.range s.2.2.2.1.length),x∈Py O:=λx hx=>by obtain⟨j,hj,rfl⟩:=J6.1 hx<;>simp_all [Hf,nD,o9]
 have h2:=XL O;have h3:(castL (List.range s.2.2.2.1.length)).length=s.2.2.2.1.length:=by rw[zB,Y3]
 rcases VS (ZI uu) (a4Y O) h1 with h|h<;>grind
theorem a2T{s:F9}(hac:∀d,0<=d->d<nD s->d∉Cc s d):∀(k:Nat) (O:d4D),b2V s O->O.length<=s.2.2.2.1.length->s.2.2.2.1.length -O.length<=k->∃O',a0k s k O= .inl O' /\b2V s O' /\O'.length=s.2.2.2.1.length
 |0,O,h,hl,hk=>⟨O,rfl,h,l7⟩|k+1,O,h,hl,hk=>by
  unfold a0k;by_cases hq:O.length<s.2.2.2.1.length
  .rw[if_pos hq];cases hn:Tm s O with
   |none=>
    obtain⟨d,d0,d1,d2⟩:=c4V hq;obtain⟨e,e0,e1,e2,e3⟩:=b7y hac O _ d d0 d1 d2 (D5 _);have hlt:e.toNat<s.2.2.2.1.length:=by simp_all [nD,o9]
    have:=vZ hn e.toNat hlt;have hok:okN s O e.toNat=true:=a9n.2 (by rw[Y4 e0];refine⟨e2,oN.2 λx hx=>by simp[JB.2 (e3 x hx)]⟩)
    simp_all [XQ]
   |some d=>obtain⟨n1,n2⟩:=a0f hn;exact a2T hac k (O++[(d:Int)]) (b4C h n1 n2) (by grind) (by grind)
  grind
theorem a9t(hs:SmS s)(hac:∀d,0<=d->d<nD s->d∉Cc s d):b2V s (qE s).1/\∀d,0<=d->d<nD s->d∈(qE s).1:=by
 have hnd:=hs.nd;obtain⟨O,h1,h2,h3⟩:=a2T hac 100 [] ⟨x9,x9,λpre d suf h=>by simp at h⟩ x9 l7;have e:(qE s).1=O:=by simp_all [qE]
 rw[e];refine⟨h2,λd d0 d1=>?_⟩;refine aF λhn=>?_;have:=WT (az.2 ⟨hn,h2.1⟩) (λx hx=>by
  rcases C9.1 hx with rfl|hx
  .exact⟨d0,d1⟩
  .exact h2.2.1 x hx)
 grind
theorem b0U(h:(eX l).1=0)(hs:l.2.2[i]? =some s):∀d,0<=d->d<nD s->d∉Cc s d:=by
 intro d d0 d1 hd;have hp:=(Sv h hs).2;unfold WX at hp;cases h1:KD l s with
 |some q=>grind [Qa]|none=>
  cases h2:fH s.2.2.2.2.length (QE l s)with
  |some q=>
   grind [je,QE,Rh]
  |none=>
   have key:a5Z s d.toNat=some (9,((200+d.toNat:Nat):Int)):=by
    unfold a5Z;rw[show((Cc s d.toNat).any λx=>x8 (d.toNat:Int) x)=true from ?_];rfl
    grind [L8]
   cases h3:fH s.2.2.2.1.length (a5Z s)with
   |none=>have:=vZ h3 d.toNat (by simp_all [nD,o9]);simp_all|some q=>
    obtain⟨j,hj,hq⟩:=je h3;unfold a5Z at hq;cases h4:(Cc s (j:Int)).any λx=>x8 (j:Int) x<;>rw[h4]at hq
    .cases hq
    .cases hq<;>simp_all
theorem WL{α β ρ:Type}(G:β->α->β⊕ρ):∀(l m:List α) (b:β),eG G (l++m) b=match eG G l b with| .inl b' =>eG G m b'| .inr r=> .inr r
 |[],m,b=>rfl|a::l,m,b=>by
  rw[cO];simp[eG];cases G b a with
  |inl b' =>exact WL G l m b'|inr r=>rfl
theorem JC{l:List α}{d x:Int}(v:α)(h0:0<=d)(h:x≠d):H9 (l.set d.toNat v) x=H9 l x:=by
 grind [H9]
theorem TW{l:List α}(v:α)(h0:0<=d)(h:d<o9 l):H9 (l.set d.toNat v) d=some v:=by simp_all [H9,o9]
theorem a0O{s:F9}{env:aA}{m:Int}{need:List Bool}{x:Int} :∀(L:d4D) {B X:DB},(∀d∈L,0<=d)->x∉L->eG (scG s env m need) L B= .inl X->H9 X.1 x=H9 B.1 x/\H9 X.2 x=H9 B.2 x
 |[],B,X,_,_,h=>by cases h<;>simp_all|d::L,B,X,hL,hx,h=>by
  unfold eG at h;cases hg:scG s env m need B d with
  |inr e=>simp_all|inl B' =>
   rw[hg]at h;obtain⟨k1,k2⟩:=a0O L (λy hy=>hL y (by grind)) (λhm=>hx (X9 _ hm)) h;unfold scG at hg;cases h1:(H9 need d).getD false<;>rw[h1]at hg
   .simp_all
   grind [o7,JC]
theorem c1A{n:Nat}(L:d4D){B X:DB}(hB:B.1.length=n/\B.2.length=n)(h:eG (scG s env m need) L B= .inl X):X.1.length=n/\X.2.length=n:=by
 refine Rk (scG s env m need) (λx=>x.1.length=n/\x.2.length=n) (λb d b' hb hg=>?_) _ _ _ hB h;unfold scG at hg;cases h1:(H9 need d).getD false<;>rw[h1]at hg
 .simp_all
 grind [o7]
theorem a8H(h:(eX l).1=0)(hs:l.2.2[i]? =some s)(d:Int):b9T s (λx=>x∈ai s d) (λx=>0<=x/\x<nD (aI l s)) d:=by
 intro r hr hd e he;obtain⟨p1,p2⟩:=b4r h hs hr he;refine⟨λx hx=>?_,p2⟩;obtain⟨q,hq,_⟩:=(Em h hs hr).2;obtain⟨q0,q1,_⟩:=bQ hq;have hin:inD (nD s) d=true:=by rw[←hd];unfold inD;rw[ae q0];exact U0 q1
 unfold ai;rw[hin];refine(Hf _ _).2 (b6j.2 ⟨r,hr,hd,?_⟩);obtain⟨x0,x1⟩:=p1 x hx;have hxi:inD (nD s) x=true:=by unfold inD;rw[ae x0];exact U0 x1
 unfold OX;rcases he with rfl|rfl
 .exact D6.2 (.inl (Y0.2 ⟨hx,hxi⟩))
 .exact D6.2 (.inr (Y0.2 ⟨hx,hxi⟩))
theorem c4r{X:DB}(hE:EvOk env)(ht:b2V s (qE s).1)(hX:scS s env m need= .inl X)(hd:d∈(qE s).1)(hn:(H9 need d).getD false=true)(hr:b9T s (λx=>x∈ai s d) Q d):
  ∃v r,H9 X.1 d=some v/\H9 X.2 d=some r/\yC s (uk env X.1) m d= .inl (v,r):=by
 obtain⟨pre,suf,he⟩:=List.append_of_mem hd;have hlen:=YX hX;unfold scS at hX;rw[he,WL]at hX;cases hB:eG (scG s env m need) pre (List.replicate s.2.2.2.1.length (0,0,0),List.replicate s.2.2.2.1.length 0)with
 |inr r=>simp_all|inl B=>
  rw[hB]at hX;simp at hX;have hBl:=c1A (n:=s.2.2.2.1.length) pre x9 hB;unfold eG at hX;cases hg:scG s env m need B d with
  |inr r=>simp_all|inl B' =>
   rw[hg]at hX;obtain⟨d0,d1⟩:=ht.2.1 d hd;have hnd:=ht.1;rw[he]at hnd;obtain⟨n1,n2,n3⟩:=H8.1 hnd;obtain⟨n4,n5⟩:=az.1 n2;have hpos:∀y∈suf,0<=y:=λy hy=>(ht.2.1 y (by simp_all)).1;unfold scG at hg;rw[hn]at hg;cases hv:yC s (uk env B.1) m d with
   |inr e=>simp_all
   |inl v=>rw[hv]at hg;cases hg;obtain⟨k1,k2⟩:=a0O suf hpos n4 hX;rw[TW _ d0 (by unfold nD at d1;unfold o9 at d1 ⊢;omega)]at k1 k2;refine⟨v.1,v.2,k1,k2,?_⟩;rw[←hv];refine b5B (a:=uk env X.1) (b:=uk env B.1) ⟨rfl,rfl,rfl,by show X.1.length=B.1.length;omega,λx hx=>?_,rfl,λ_ _=>rfl⟩ (KA hE _) (KA hE _) hr m;have hxp:=ht.2.2 pre d suf he x hx;have hxs:x∉suf:=λhy=>n3 x hxp x (by grind) rfl;have hxd:=λhy=>n3 x hxp d x9 hy;have:=(a0O suf hpos hxs hX).1;rw[JC _ d0 hxd]at this;exact this
variable {v:V3}
theorem a6a{r:Int}(h:yC s env m d= .inl (v,r)):dF s env m d=(r,0,0,0,0)/\r∈(Y2 s d env.1).1/\∃q,H9 s.2.2.2.2 r=some q/\iW q.2.2.2.2.2.2.1 env=(v,0):=by
 unfold yC at h;cases h0:x8 (dF s env m d).2.1 0<;>rw[h0]at h
 .cases h
 cases h1:x8 (dF s env m d).1 (-1)<;>rw[h1]at h
 case true=>cases h
 cases h2:x8 (dF s env m d).1 (-2)<;>rw[h2]at h
 case true=>cases h
 simp only[o7,o6]at h;cases hl:H9 s.2.2.2.2 (dF s env m d).1 with
 |none=>rw[hl]at h;cases h|some q=>
  rw[hl]at h;simp only at h;cases h4:x8 (iW q.2.2.2.2.2.2.1 env).2 0<;>rw[h4]at h
  .cases h
  cases h;have hin:=a2j (U4.1 h0) (λe=>by rw[L8 e]at h1;cases h1) (λe=>by rw[L8 e]at h2;cases h2);refine⟨?_,hin,q,hl,Z7 rfl (U4.1 h4)⟩;rcases a5U s env m d with⟨g1,g2⟩|⟨g1,g2⟩
  .exact g2
  .exact absurd (U4.1 h0) g1
theorem b9G{n:Nat}(d0:0<=d)(d1:d<(n:Int)):(H9 (gZ n) d).getD false=true:=by unfold H9 gZ;rw[if_pos d0,eQ,if_pos l7];rfl
def PVV(en:List gX)(t:Int×Int)(v:V3):Prop:=v.1=t.1/\v.2.1=t.2/\plB v=true/\(v.1=6->inB v.2.2 (bnd t en)=true)
def MKq(en:List gX)(t:Int×Int)(o:Option (V3×Int)):Prop:=∀v,o=some (v,0)->PVV en t v
section
variable {en:List gX} {t:Int×Int}
theorem Ih{z:V3}{c:Int}(h:c≠0):MKq en t (some (z,c)):=λv e=>by cases e;exact absurd rfl h
theorem NR{k n:Int}(hk:k≠6):MKq en (k,0) (some (IE (k,0,n))):=λv e=>by
 unfold IE at e;cases h:plB (k,0,n)<;>rw[h]at e
 .cases e
 .cases e;exact⟨rfl,rfl,h,λq=>absurd q hk⟩
theorem Va{k n:Int}(hk:k≠6):MKq en (k,0) (dP k n):=by rw[Ry];exact NR hk
theorem b1T{k n c:Int}(hk:k≠6):MKq en (k,0) (vg k n c):=by
 rw[a5n];unfold VZ;cases h:x8 c 0
 .exact Ih (λq=>by rw[L8 q]at h;cases h)
 .exact NR hk
theorem a0c{k n c:Int}(hk:k≠6):MKq en (k,0) (some (VZ (k,0,n) c)):=by rw[←a5n];exact b1T hk
theorem a4p(b:Bool):MKq en (1,0) (some (c7D b)):=by rw[←a8a];exact NR E5
theorem UZ{o:Option α}{f:α->Option (V3×Int)}(h:∀x,o=some x->MKq en t (f x)):MKq en t (o5 o f):=by
 cases o with
 |none=>intro v e;cases e|some x=>exact h x rfl
theorem a2M{o:Option (V3×Int)}(h:MKq en t o):MKq en t (o5 o λx=>some x):=by rw[dL];exact h
theorem b6n(h:PVV en t v):MKq en t (some (v,0)):=λw e=>by cases e;exact h
theorem a4o{b:Bool}{x y:Option (V3×Int)}(h1:b=true->MKq en t x)(h2:b=false->MKq en t y):MKq en t (l9 b x y):=by
 cases b
 .exact h2 rfl
 .exact h1 rfl
theorem a0b{a b c:Int}(hk:a≠6):MKq en (a,0) (xh a b c):=by
 unfold xh
 repeat' first
  |exact Ih E5
  |exact Va hk
  |exact a2M (Va hk)
  |(apply UZ;intro x hx)
  |(apply a4o<;>intro hx)
end
theorem a8m{args:List V3}(hE:EvOk env)(hN:iq N)(hk:k≠23/\k≠24/\k≠26)(ha:lG k=o9 args)(hl:args.length<=3)(h:mY (k,N) args env=(v,0)):RP (k,N) args env=some (v,0)/\args.all plB=true/\yz (k,N) env=some true:=by
 unfold mY yx at h;rw[a2v ha]at h;simp only[o8]at h;cases hf:Yt k N<;>rw[hf]at h
 .exact absurd (congrArg Prod.snd h) (by show(2:Int)≠0;decide)
 simp only[E8,o6]at h;obtain⟨b,hb⟩:=XC (k,N) env;rw[show yz (k,N) env=some b from hb]at h ⊢;cases b
 .exact absurd (congrArg Prod.snd h) (by show(6:Int)≠0;decide)
 simp only[o8,E8,o6]at h;rw[a3b args l7]at h;cases hp:args.all plB<;>rw[hp]at h
 .exact absurd (congrArg Prod.snd h) (by show(8:Int)≠0;decide)
 obtain⟨r,hr,_⟩:=b4X k N args env hE (by unfold iq at hN;omega) hk ha hf hb hp;have h:(RP (k,N) args env).getD ((0,0,0),0)=(v,0):=h;rw[hr]at h;exact⟨by rw[hr];exact congrArg some h,rfl,rfl⟩
variable {ty:Int×Int}
theorem a3i(hk:fA k=some false)(h:IL (k,N) ops sg=(ty,0)):N=0/\(RR (k,0) ops sg).getD ((0,0),0)=(ty,0):=by
 unfold IL at h;rw[b4R]at h;cases hz:x8 N 0
 .rw[show G6 (x8 (k,N).2 0)=true by rw[show(k,N).2=N from rfl,hz];rfl,show fA (k,N).1=some false from hk]at h;exact absurd (congrArg Prod.snd h) (by show(2:Int)≠0;decide)
 .rw[U4]at hz;subst hz;exact⟨rfl,h⟩
variable {en:List gX}
theorem a7n(h:PVV en t v):v=(t.1,t.2,v.2.2):=Z7 h.1 (Z7 h.2.1 rfl)
theorem lp2(a b:Int×Int):o9 [a,b]=2:=rfl
theorem lq0(a:Int×Int)(l:List (Int×Int)):H9 (a::l) 0=some a:=rfl
theorem lq1(a b:Int×Int)(l:List (Int×Int)):H9 (a::b::l) 1=some b:=rfl
theorem a3L(b:Bool):fF true b=b:=rfl
theorem b9I{a b ty:Int×Int}{x y v:V3}(hk:k=11\/k=12\/k=13\/k=17\/k=18\/k=19\/k=20\/k=21\/k=22\/k=27\/k=28\/k=29\/k=30)(ha:VT a)(hb:VT b)(hx:PVV sg.1 a x)(hy:PVV sg.1 b y)(ht:IL (k,N) [a,b] sg=(ty,0))(h:RP (k,N) [x,y] env=some (v,0)):PVV sg.1 ty v:=by
 have hm:fA k=some false:=by rcases hk with rfl|rfl|rfl|rfl|rfl|rfl|rfl|rfl|rfl|rfl|rfl|rfl|rfl<;>rfl
 obtain⟨hN,ht2⟩:=a3i hm ht;clear ht;subst hN;have hx' :=a7n hx;have hy' :=a7n hy;generalize x.2.2=n at hx';generalize y.2.2=m at hy';have h:fV (k,0) x y=some (v,0):=by have e:RP (k,0) [x,y] env=o5 (fV (k,0) x y) λx=>some x:=rfl;rw[e,dL]at h;exact h
 subst hx' hy';rcases hk with rfl|rfl|rfl|rfl|rfl|rfl|rfl|rfl|rfl|rfl|rfl|rfl|rfl<;>rcases ha with rfl|rfl|rfl|rfl|rfl|⟨e,rfl⟩<;>rcases hb with rfl|rfl|rfl|rfl|rfl|⟨f,rfl⟩ <;>
  first
  |exact absurd (congrArg Prod.snd ht2) (by show(8:Int)≠0;decide)
  |(
    have e:=congrArg Prod.fst ht2;subst e
    first
    |refine(?_:MKq sg.1 (1,0) _) v h
    |refine(?_:MKq sg.1 (2,0) _) v h
    |refine(?_:MKq sg.1 (3,0) _) v h
    |refine(?_:MKq sg.1 (4,0) _) v h
    |refine(?_:MKq sg.1 (5,0) _) v h
    unfold fV rY yQ Ba BJ;simp (disch:=decide) only[dG]
    repeat' first
     |exact NR E5
     |exact a0c E5
     |exact a4p _
     |exact b6n hx
     |exact b6n hy
     |exact Ih E5
     |exact a2M (a0b E5)
     |exact a0b E5
     |refine a2M ?_
     |rw[Dv]
     |(apply UZ;intro z hz)
     |(apply a4o<;>intro hz)
     |simp (disch:=decide) only[dG])
  |(
    cases hq:x8 e f<;>unfold RR wP uF rX yP uM kJ at ht2 <;>
    simp (disch:=decide) only[L8,I4,o7,o6,o8,V4,Hw,E8,bY,lp2,lq0,lq1,a3L,hq,Z9]at ht2 <;>
    first
    |exact absurd (congrArg Prod.snd ht2) (by show(8:Int)≠0;decide)
    |(
      have e:=congrArg Prod.fst ht2;subst e;refine(?_:MKq sg.1 (1,0) _) v h;unfold fV rY;simp (disch:=decide) only[dG];simp only[hq,o7,o6,E8,o8,V4,Hw];exact a4p _))
def PVW(en:List gX)(t:Int×Int)(v:V3):Prop:=v.1=t.1/\v.2.1=t.2/\(v.1=6->inB v.2.2 (bnd t en)=true)
theorem PVW.pl(h:PVW en t v)(hp:plB v=true):PVV en t v:=⟨h.1,h.2.1,hp,h.2.2⟩
structure TOk (sg:L9) (env:aA):Prop where
 inp:∀i t v,H9 sg.2.2.1 i=some t->H9 env.2.1 i=some v->PVW sg.1 t v
 dfs:∀i t v,H9 sg.2.2.2.1 i=some t->H9 env.2.2.1 i=some v->v.1≠0->PVW sg.1 t v
 mty:∀i t u,H9 sg.2.2.2.2.1 i=some t->H9 env.2.2.2.2.1 i=some u->u=t
 tbs:env.2.2.2.2.2=sg.2.1
 row:∀t∈sg.2.1,∀r∈t.2.2.2,inB r.2.2.2 (bnd t.2.2.1 sg.1)=true
theorem a9P(hN:iq N)(hv:∀t∈ops,VT t)(hl:o9 ops=lG k)(h:IL (k,N) ops sg=(ty,0)):RR (k,N) ops sg=some (ty,0)/\VT ty:=by
 obtain⟨r,h1,h2,h3⟩:=a4r sg (k,N) hN ops hv hl;have e:r=(ty,0):=by unfold IL at h;rw[h1]at h;exact h
 subst e;refine⟨?_,h3 rfl⟩;rw[b4R]at h1;cases hz:G6 (x8 (k,N).2 0)<;>rw[hz]at h1
 .exact h1
 .cases hm:fA (k,N).1 with
  |none=>rw[hm]at h1;cases h1|some b=>
   rw[hm]at h1;cases b
   .cases h1
   .exact h1
theorem a5y(h:RR (k,N) ops sg=some (ty,0)):rX (k,N) sg=some true/\(ops=[]->dN (k,N) sg=some (ty,true))/\∀a,ops=[a]->nT (k,N) a sg=some (ty,true):=by
 unfold RR at h;cases h1:uF (k,N) sg with
 |none=>rw[h1]at h;cases h|some b=>
  rw[h1]at h;cases b
  .cases h
  cases h2:rX (k,N) sg with
  |none=>rw[h2]at h;cases h|some b=>
   rw[h2]at h;cases b
   .cases h
   refine⟨rfl,λe=>?_,λa e=>?_⟩
   .subst e;cases h3:dN (k,N) sg with
    |none=>rw[h3]at h;cases h|some x=>rw[h3]at h;obtain⟨x,b⟩:=x;cases b<;>cases h;rfl
   .subst e;simp (disch:=decide) only[o8,E8,o6,o7,show o9 [a]=1 from rfl,L8,I4,lq0]at h;cases h3:nT (k,N) a sg with
    |none=>rw[h3]at h;cases h|some x=>rw[h3]at h;obtain⟨x,b⟩:=x;cases b<;>cases h;rfl
theorem b1H{l:List α}{i:Int}{b:Bool} (h:(l9 (S9 0 i) (some (F7 i (o9 l))) (some false))=some true):∃x,H9 l i=some x/\0<=i:=by
 cases h1:S9 0 i<;>rw[h1]at h
 .cases h
 .obtain⟨x,hx,_⟩:=qA (l:=l) (pF.1 h1) (jV.1 (F8 h));exact⟨x,hx,pF.1 h1⟩
theorem c4z(hk:k=36\/k=37\/k=38\/k=39)(h:Pq k t=true):t.2=0/\t.1≠6:=by
 unfold Pq at h;cases h1:x8 t.2 0<;>rw[h1]at h
 .cases h
 refine⟨U4.1 h1,λe=>?_⟩;rw[e]at h;rcases hk with rfl|rfl|rfl|rfl<;>exact absurd h E5
theorem b9K(hk:k=36\/k=37\/k=38\/k=39)(hE:EvOk env)(hS:TOk sg env)(hf:yz (k,N) env=some true)(hg:rX (k,N) sg=some true)(hl:dN (k,N) sg=some (ty,true)):MKq sg.1 ty (rC (k,N) env):=by
 have hf:(l9 (S9 0 N) (some (F7 N (o9 env.2.2.2.2.1))) (some false))=some true:=by rcases hk with rfl|rfl|rfl|rfl<;>exact hf
 obtain⟨u,hu,h0⟩:=b1H (b:=true) hf;have hg2:(l9 sg.2.2.2.2.2 (l9 (S9 0 N) (some (F7 N (o9 sg.2.2.2.2.1))) (some false)) (some false))=some true:=by rcases hk with rfl|rfl|rfl|rfl<;>exact hg
 cases hb:sg.2.2.2.2.2<;>rw[hb]at hg2
 .cases hg2
 obtain⟨t,ht,_⟩:=b1H (b:=true) hg2;have e:=hS.mty N t u ht hu;subst e;rw[KP k N env u hu h0 hE.ms];have hty:ty=u:=by
  unfold dN at hl;rcases hk with rfl|rfl|rfl|rfl <;>
   (simp (disch:=decide) only[L8,I4,o7,o6,o8,ht,iD,uM,yP]at hl
    revert hl;cases vty u sg.1<;>intro hl<;>first|exact(congrArg Prod.fst (F8 hl)).symm|(revert hl;cases x8 u.1 2<;>cases x8 u.1 3<;>cases x8 u.1 4<;>intro hl<;>exact(congrArg Prod.fst (F8 hl)).symm))
 subst hty;unfold a2L;cases hm:Pq k ty
 .exact Ih E5
 obtain⟨m1,m2⟩:=c4z hk hm;have hty2:ty=(ty.1,0):=Z7 rfl m1;simp only[o7];rw[hty2];simp only;cases hq:eG (Ig k N (ty.1,0)) env.2.2.2.1 (l9 (x8 k 37) 1 0,true)with
 |inr c=>
  refine λv e=>absurd (congrArg Prod.snd (F8 e)) (xM (Ig k N (ty.1,0)) (λ(r:V3×Int)=>r.2≠0) (λb m r h=>?_) _ _ _ hq);unfold Ig at h;cases h1:X_ m N (ty.1,0)with
  |inr c=>
   rw[h1]at h;cases h;unfold X_ at h1;cases h2:H9 m N with
   |none=>rw[h2]at h1;cases h1;show(6:Int)≠0;decide|some x=>
    rw[h2]at h1;simp only at h1;cases h3:x8 x.1 0<;>rw[h3]at h1
    .cases h4:UN x (ty.1,0)<;>rw[h4]at h1<;>cases h1;show(8:Int)≠0;decide
    .cases h1;show(6:Int)≠0;decide
  |inl x=>rw[h1]at h;simp only at h;cases h2:plB ((ty.1,0).1,0,Jz k b.1 x.2.2 b.2)<;>rw[h2]at h<;>cases h;show(3:Int)≠0;decide
 |inl a=>
  simp only;cases x8 k 39
  .exact NR m2
  .cases x8 (o9 env.2.2.2.1) 0
   .exact NR m2
   .exact Ih E5
theorem Uy{k c:Int}(hc:0<=c)(h:lG k=c):1<=k/\k<=39:=by
 refine aF λhn=>?_;have:lG k=-1:=by unfold lG;rw[a4F hn];rfl
 omega
theorem b5l{q:Int}{x:gX}(hv:vty (6,q) en=true)(hx:H9 en q=some x):bnd (6,q) en=(0,I8 .i64 (o9 x.2) 1):=by unfold bnd pR;rw[iD,o8,hv];simp (disch:=decide) only[I4,E8,o6,hx,o8,Z9]
theorem b5Z(hk:k=1\/k=2\/k=3\/k=4\/k=5)(h:dN (k,N) sg=some (ty,true)):ty=(k,0):=by
 have e:dN (k,N) sg=some ((k,0),vty (k,0) sg.1):=by unfold dN;simp only[iD];rcases hk with rfl|rfl|rfl|rfl|rfl<;>rfl
 rw[e]at h;exact(congrArg Prod.fst (F8 h)).symm
theorem b5U(l:List α)(h:l.length<=4611686018427387904):I8 .i64 (o9 l) 1=o9 l -1:=U7 (by unfold iq o9;omega)
theorem b4E(hE:EvOk env)(hN:iq N)(hS:TOk sg env)(hL:∀e∈sg.1,e.2.length<=1000000)(ha:lG k=0)(ht:IL (k,N) [] sg=(ty,0))(h:mY (k,N) [] env=(v,0)):PVV sg.1 ty v:=by
 obtain⟨hRR,hvt⟩:=a9P hN x9 (by rw[ha];rfl) ht;obtain⟨hg,hl,_⟩:=a5y hRR;have hl:=hl rfl;have hr:=Uy E5 ha;have hk3:k≠23/\k≠24/\k≠26:=by refine⟨?_,?_,?_⟩<;>(rintro rfl;exact absurd ha E5)
 obtain⟨hP,_,hf⟩:=a8m hE hN hk3 (by rw[ha];rfl) x9 h;have hc:k=1\/k=2\/k=3\/k=4\/k=5\/k=6\/k=7\/k=8\/k=9\/k=35\/k=36\/k=37\/k=38\/k=39:=by refine aF λhn=>?_;have:k=10\/k=11\/k=12\/k=13\/k=14\/k=15\/k=16\/k=17\/k=18\/k=19\/k=20\/k=21\/k=22\/k=23\/k=24\/k=25\/k=26\/k=27\/k=28\/k=29\/k=30\/k=31\/k=32\/k=33\/k=34:=l7;rcases this with rfl|rfl|rfl|rfl|rfl|rfl|rfl|rfl|rfl|rfl|rfl|rfl|rfl|rfl|rfl|rfl|rfl|rfl|rfl|rfl|rfl|rfl|rfl|rfl|rfl<;>exact absurd ha E5
 have hlit:k<=35->dV (k,N) env=some (v,0):=λhk=>by
  have e:RP (k,N) [] env=o5 (dV (k,N) env) λx=>some x:=by unfold RP;rw[aC (show(k,N).1<36 by show k<36;omega)];rfl
  rw[e,dL]at hP;exact hP
 by_cases hm:36<=k
 .have hk:k=36\/k=37\/k=38\/k=39:=l7;have e:RP (k,N) [] env=o5 (rC (k,N) env) λx=>some x:=by rcases hk with rfl|rfl|rfl|rfl<;>rfl
  rw[e,dL]at hP;exact b9K hk hE hS hf hg hl v hP
 have hP:=hlit l7;by_cases h5:k<=5
 .have hk:k=1\/k=2\/k=3\/k=4\/k=5:=l7;rw[b5Z hk hl];refine(?_:MKq sg.1 (k,0) _) v hP;have e:dV (k,N) env=o5 (dP k N) λx=>some x:=by rcases hk with rfl|rfl|rfl|rfl|rfl<;>rfl
  rw[e,dL];exact Va l7
 have hc:k=6\/k=7\/k=8\/k=9\/k=35:=l7;rcases hc with rfl|rfl|rfl|rfl|rfl
 .have e1:dN (6,N) sg=some ((6,eH .i64 N 16),vty (6,eH .i64 N 16) sg.1):=by
   unfold dN;simp only[iD];rfl
  rw[e1]at hl;have hv:=congrArg Prod.snd (F8 hl);have hty:=(congrArg Prod.fst (F8 hl)).symm;simp only at hv hty;subst hty;have hg:l9 (F7 (eH .i64 N 16) (o9 sg.1)) (o5 (H9 sg.1 (eH .i64 N 16)) λ(x:gX)=>some (F7 (fC N 16) (o9 x.2))) (some false)=some true:=hg;cases g1:F7 (eH .i64 N 16) (o9 sg.1)<;>rw[g1]at hg
  .cases hg
  cases g2:H9 sg.1 (eH .i64 N 16)with
  |none=>rw[g2]at hg;cases hg|some x=>
   rw[g2]at hg;have hlt:=jV.1 (F8 hg);unfold dV at hP;simp (disch:=decide) only[L8,I4,o7,o6,uJ,o8]at hP;cases g3:plB (6,eH .i64 N 16,fC N 16)<;>rw[g3]at hP
   .cases hP
   .cases hP;refine⟨rfl,rfl,g3,λ_=>?_⟩;have hx:=hL x (bQ g2).2.2.1;rw[b5l hv g2,b5U x.2 l7];have g4:=Uf g3;have g5:0<=fC N 16:=by
     unfold plB at g3;cases g6:S9 (Es 6).1 (fC N 16)
     .rw[show(6,eH .i64 N 16,fC N 16).1=(6:Int)from rfl,show(6,eH .i64 N 16,fC N 16).2.2=fC N 16 from rfl,g6]at g3;cases g3
     .exact pF.1 g6
    unfold inB;rw[ae g5,o7];exact ae (show fC N 16<=o9 x.2 -1 by omega)
 .have e1:dN (7,N) sg=o5 (H9 sg.2.2.1 N) λx=>some (x,vty x sg.1):=by
   unfold dN;simp only[iD];cases H9 sg.2.2.1 N<;>rfl
  rw[e1]at hl;cases g1:H9 sg.2.2.1 N with
  |none=>rw[g1]at hl;cases hl|some x=>
   rw[g1]at hl;have hty:=(congrArg Prod.fst (F8 hl));simp only at hty;subst hty;unfold dV at hP;simp (disch:=decide) only[L8,I4,o7,o6]at hP;cases g2:H9 env.2.1 N with
   |none=>rw[g2]at hP;cases hP|some w=>
    rw[g2]at hP;simp only[o8,uJ]at hP;cases g3:plB w<;>rw[g3]at hP
    .cases hP
    .cases hP;exact(hS.inp N _ _ g1 g2).pl g3
 .have e1:dN (8,N) sg=o5 (H9 sg.2.2.2.1 N) λx=>some (x,vty x sg.1):=by
   unfold dN;simp only[iD];cases H9 sg.2.2.2.1 N<;>rfl
  rw[e1]at hl;cases g1:H9 sg.2.2.2.1 N with
  |none=>rw[g1]at hl;cases hl|some x=>
   rw[g1]at hl;have hty:=(congrArg Prod.fst (F8 hl));simp only at hty;subst hty;unfold dV at hP;simp (disch:=decide) only[L8,I4,o7,o6]at hP;have hf:l9 (S9 0 N) (l9 (F7 N (o9 env.2.2.1)) (o5 (H9 env.2.2.1 N) λ(x:V3)=>some (G6 (x8 x.1 0))) (some false)) (some false)=some true:=hf;cases g2:H9 env.2.2.1 N with
   |none=>rw[g2]at hP;cases hP|some w=>
    rw[g2]at hP hf;simp only[o8,uJ]at hP hf;cases g3:plB w<;>rw[g3]at hP
    .cases hP
    .cases hP;refine(hS.dfs N _ _ g1 g2 (λe=>?_)).pl g3;rw[L8 e]at hf;cases g4:S9 0 N<;>rw[g4]at hf
     .cases hf
     cases g5:F7 N (o9 env.2.2.1)<;>rw[g5]at hf<;>cases hf
 .have e1:dN (9,N) sg=some ((5,0),vty (5,0) sg.1):=by
   unfold dN;simp only[iD];rfl
  rw[e1]at hl;have hty:=congrArg Prod.fst (F8 hl);simp only at hty;subst hty;refine(?_:MKq sg.1 (5,0) _) v hP;have e:dV (9,N) env=o5 (dP 5 env.1) λx=>some x:=rfl;rw[e,dL];exact Va E5
 .have e1:dN (35,N) sg=some ((2,0),vty (2,0) sg.1):=by
   unfold dN;simp only[iD];rfl
  rw[e1]at hl;have hty:=congrArg Prod.fst (F8 hl);simp only at hty;subst hty;refine(?_:MKq sg.1 (2,0) _) v hP;have e:dV (35,N) env=o5 (dP 2 (o9 env.2.2.2.1)) λx=>some x:=rfl;rw[e,dL];exact Va E5
theorem b1S{α γ:Type}{o:Option γ}{g:γ->V3×Int}{f:α->Option (V3×Int)}(h:∀x,MKq en t (some (g x))):MKq en t (o5 (o5 o λx=>some (Sum.inr (g x))) (λq=>bn q f λr=>some r)):=by
 cases o with
 |none=>exact λv e=>by cases e|some x=>exact h x
variable {x:V3}
theorem YY{a ty:Int×Int}(hk:k=10\/k=25\/k=31\/k=32)(ha:VT a)(hx:PVV sg.1 a x)(ht:IL (k,N) [a] sg=(ty,0))(h:RP (k,N) [x] env=some (v,0)):PVV sg.1 ty v:=by
 have hm:fA k=some false:=by rcases hk with rfl|rfl|rfl|rfl<;>rfl
 obtain⟨hN,ht2⟩:=a3i hm ht;clear ht;subst hN;have hx' :=a7n hx;generalize x.2.2=n at hx';have h:jC (k,0) x env=some (v,0):=by have e:RP (k,0) [x] env=o5 (jC (k,0) x env) λx=>some x:=rfl;rw[e,dL]at h;exact h
 subst hx';rcases hk with rfl|rfl|rfl|rfl<;>rcases ha with rfl|rfl|rfl|rfl|rfl|⟨e,rfl⟩ <;>
  first
  |exact absurd (congrArg Prod.snd ht2) (by show(8:Int)≠0;decide)
  |(
    have e:=congrArg Prod.fst ht2;subst e
    first
    |refine(?_:MKq sg.1 (1,0) _) v h
    |refine(?_:MKq sg.1 (2,0) _) v h
    |refine(?_:MKq sg.1 (3,0) _) v h
    |refine(?_:MKq sg.1 (4,0) _) v h
    unfold jC BJ;simp (disch:=decide) only[dG]
    repeat' first
     |exact NR E5
     |exact a4p _
     |exact Ih E5
     |refine a2M ?_
     |rw[Dv]
     |exact b1S λ_=>NR E5
     |simp (disch:=decide) only[dG])
theorem b4G{a b ty:Int×Int}{x y v:V3}(hk:k=14\/k=15\/k=16)(ha:VT a)(hb:VT b)(hx:PVV sg.1 a x)(hy:PVV sg.1 b y)(ht:RR (k,N) [a,b] sg=some (ty,0))(h:RP (k,N) [x,y] env=some (v,0)):PVV sg.1 ty v:=by
 have hr:RR (k,N) [a,b] sg=o5 (l9 (S9 0 N) (some (S9 N 5)) (some false)) λx=>l9 (G6 x) (some ((0,0),3)) (o5 (wP k a b) λx=>l9 (G6 x.2) (some ((0,0),8)) (some (x.1,0))):=by rcases hk with rfl|rfl|rfl<;>rfl
 rw[hr]at ht;have ht2:((o5 (wP k a b) λx=>l9 (G6 x.2) (some ((0,0),8)) (some (x.1,0))):Option ((Int×Int)×Int)).getD ((0,0),0)=(ty,0):=by
  cases h1:S9 0 N<;>rw[h1]at ht
  .cases ht
  cases h2:S9 N 5<;>rw[h2]at ht
  .cases ht
  simp only[o7,o8,E8,o6]at ht;rw[ht];rfl
 clear ht hr;have hx' :=a7n hx;have hy' :=a7n hy;generalize x.2.2=n at hx';generalize y.2.2=m at hy';have h:fV (k,N) x y=some (v,0):=by have e:RP (k,N) [x,y] env=o5 (fV (k,N) x y) λx=>some x:=rfl;rw[e,dL]at h;exact h
 subst hx' hy';rcases hk with rfl|rfl|rfl<;>rcases ha with rfl|rfl|rfl|rfl|rfl|⟨e,rfl⟩<;>rcases hb with rfl|rfl|rfl|rfl|rfl|⟨f,rfl⟩ <;>
  first
  |exact absurd (congrArg Prod.snd ht2) (by show(8:Int)≠0;decide)
  |(
    have e:=congrArg Prod.fst ht2;subst e
    first
    |refine(?_:MKq sg.1 (2,0) _) v h
    |refine(?_:MKq sg.1 (3,0) _) v h
    |refine(?_:MKq sg.1 (4,0) _) v h
    unfold fV yQ;simp (disch:=decide) only[dG]
    repeat' first
     |exact NR E5
     |exact a0c E5
     |exact Ih E5
     |refine a2M ?_
     |exact b1S λ_=>a0c E5|rw[Dv]|(apply UZ;intro z hz)|(apply a4o<;>intro hz)
     |simp (disch:=decide) only[dG])
theorem a8e{a ty:Int×Int}(hE:EvOk env)(hS:TOk sg env)(ht:nT (33,N) a sg=some (ty,true))(h:RP (33,N) [x] env=some (v,0)):PVV sg.1 ty v:=by
 have hs:nT (33,N) a sg=o5 (H9 sg.2.1 N) λ(x:dM)=>o5 (iI x.2.1 sg.1) λ(x_1:Bool)=>l9 x_1 (o5 (iI x.2.2.1 sg.1) λ(x_2:Bool)=>l9 x_2 (some (x.2.2.1,fF (x8 a.1 x.2.1.1) (x8 a.2 x.2.1.2))) (some (x.2.2.1,false))) (some (x.2.2.1,false)):=rfl;rw[hs]at ht;cases h1:H9 sg.2.1 N with
 |none=>rw[h1]at ht;cases ht|some tb=>
  rw[h1]at ht;have htb:=(bQ h1).2.2.1;have hty:tb.2.2.1=ty:=by
   simp only[o8,iD]at ht;cases h2:vty tb.2.1 sg.1<;>rw[h2]at ht
   .exact congrArg Prod.fst (F8 ht)
   cases h3:vty tb.2.2.1 sg.1<;>simp only[o7,o8,h3]at ht
   .exact congrArg Prod.fst (F8 ht)
   .exact congrArg Prod.fst (F8 ht)
  have hrow:=hE.tb tb (by rw[hS.tbs];exact htb);have e:RP (33,N) [x] env=o5 (jC (33,N) x env) λx=>some x:=rfl;rw[e,dL]at h;unfold jC at h;simp (disch:=decide) only[L8,I4,o7,o6,o8]at h;rw[hS.tbs,h1]at h;simp only[o8]at h;rw[Dv]at h;unfold Ob at h;revert h;cases G6 (x8 x.1 tb.2.1.1)
  case true=>intro h;cases h
  cases G6 (x8 x.2.1 tb.2.1.2)
  case true=>intro h;cases h
  cases F7 tb.2.2.1.1 1
  case true=>intro h;cases h
  cases F7 6 tb.2.2.1.1
  case true=>intro h;cases h
  simp only[o6,o8,V4,a0v env.1 x.2.2 (show tb.2.2.2.length<=1000000 by have:=hrow.1;omega)];cases (UY tb.2.2.2 env.1 x.2.2).2
  case false=>intro h;cases h
  simp only[E8,o6];cases h5:H9 tb.2.2.2 (UY tb.2.2.2 env.1 x.2.2).1 with
  |none=>intro h;cases h|some r=>
   simp only[o8,uJ];cases h6:plB (tb.2.2.1.1,tb.2.2.1.2,r.2.2.2)
   .intro h;cases h
   .intro h;cases h;rw[←hty];exact⟨rfl,rfl,h6,λ_=>hS.row tb htb r (bQ h5).2.2.1⟩
theorem a1O{a ty:Int×Int}(ha:VT a)(ht:nT (34,N) a sg=some (ty,true))(h:RP (34,N) [x] env=some (v,0)):PVV sg.1 ty v:=by
 have hty:ty=(3,0):=by
  unfold nT at ht;simp (disch:=decide) only[L8,I4,o7,o6,o8]at ht;cases h1:H9 sg.2.1 (eH .i64 N 8)with
  |none=>rw[h1]at ht;cases ht|some tb=>
   rw[h1]at ht;simp only[o8]at ht;cases h2:x8 a.1 3<;>rw[h2]at ht
   .cases ht
   have e3:=U4.1 h2;have hty:a=ty:=by
    simp only[o7,kJ,o8]at ht;cases h3:fF (x8 tb.2.1.1 3) (x8 tb.2.1.2 0)<;>rw[h3]at ht
    .exact congrArg Prod.fst (F8 ht)
    .exact congrArg Prod.fst (F8 ht)
   rw[←hty];rcases ha with rfl|rfl|rfl|rfl|rfl|⟨e,rfl⟩<;>first|rfl|exact absurd e3 (by show ¬(_:Int)=3;decide)|exact absurd (show(6:Int)=3 from e3) E5
 subst hty;have e:RP (34,N) [x] env=o5 (jC (34,N) x env) λx=>some x:=rfl;rw[e,dL]at h;refine(?_:MKq sg.1 (3,0) _) v h;unfold jC;simp (disch:=decide) only[L8,I4,o7,o6,o8,V4];apply UZ;intro tb hz;cases G6 (x8 x.1 3)
 case true=>exact Ih E5
 cases G6 (x8 tb.2.1.1 3)
 case true=>exact Ih E5
 cases G6 (x8 tb.2.1.2 0)
 case true=>exact Ih E5
 cases G6 (x8 tb.2.2.1.1 4)
 case true=>exact Ih E5
 cases G6 (x8 tb.2.2.1.2 0)
 case true=>exact Ih E5
 simp only[o6,o8,V4];apply UZ;intro z hz;exact a2M (b1T E5)
end Go.GP
namespace Go.GP
open Gt
set_option maxRecDepth 100000
theorem Ec{sg:L9}{n:Int×Int}{ops:List (Int×Int)}{i:Nat}{t:Int×Int}(h:Io sg n ops i= .inr t):IL n ops sg=(t,0):=by
 grind [Io]
variable {v:V3}
theorem a5Q{en:List gX}{r:V3×Int}(h:yu r=(v,0)):PVV en (1,0) v:=by
 rcases a5P r with⟨h1,h2⟩|⟨_,_,h2⟩|⟨_,_,_,h2⟩|⟨h1,h2,h3,h4⟩
 .simp_all [L8]
 .simp_all
 .simp_all
 .rw[h4]at h;have e:=congrArg Prod.fst h;subst e;have k1:=U4.1 h2;refine⟨k1,?_,h3,λq=>absurd (k1.symm.trans q) E5⟩;rcases Uf h3 with⟨n,e,_⟩|⟨n,e,_⟩|⟨n,e,_⟩|⟨n,e,_⟩|⟨n,e,_⟩|e<;>grind
variable {k:Int}
theorem c4b(h:lG k=1):k=10\/k=25\/k=31\/k=32\/k=33\/k=34:=by have hr:=Uy E5 h;refine aF λhn=>?_;have:k=1\/k=2\/k=3\/k=4\/k=5\/k=6\/k=7\/k=8\/k=9\/k=11\/k=12\/k=13\/k=14\/k=15\/k=16\/k=17\/k=18\/k=19\/k=20\/k=21\/k=22\/k=23\/k=24\/k=26\/k=27\/k=28\/k=29\/k=30\/k=35\/k=36\/k=37\/k=38\/k=39:=l7;rcases this with rfl|rfl|rfl|rfl|rfl|rfl|rfl|rfl|rfl|rfl|rfl|rfl|rfl|rfl|rfl|rfl|rfl|rfl|rfl|rfl|rfl|rfl|rfl|rfl|rfl|rfl|rfl|rfl|rfl|rfl|rfl|rfl|rfl<;>exact absurd h E5
theorem c4d(h:lG k=2):(k=23\/k=24)\/(k=14\/k=15\/k=16)\/(k=11\/k=12\/k=13\/k=17\/k=18\/k=19\/k=20\/k=21\/k=22\/k=27\/k=28\/k=29\/k=30):=by have hr:=Uy E5 h;refine aF λhn=>?_;have:k=1\/k=2\/k=3\/k=4\/k=5\/k=6\/k=7\/k=8\/k=9\/k=10\/k=25\/k=26\/k=31\/k=32\/k=33\/k=34\/k=35\/k=36\/k=37\/k=38\/k=39:=l7;rcases this with rfl|rfl|rfl|rfl|rfl|rfl|rfl|rfl|rfl|rfl|rfl|rfl|rfl|rfl|rfl|rfl|rfl|rfl|rfl|rfl|rfl<;>exact absurd h E5
theorem b5c(h:lG k=3):k=26:=by have hr:=Uy E5 h;refine aF λhn=>?_;have:k=1\/k=2\/k=3\/k=4\/k=5\/k=6\/k=7\/k=8\/k=9\/k=10\/k=11\/k=12\/k=13\/k=14\/k=15\/k=16\/k=17\/k=18\/k=19\/k=20\/k=21\/k=22\/k=23\/k=24\/k=25\/k=27\/k=28\/k=29\/k=30\/k=31\/k=32\/k=33\/k=34\/k=35\/k=36\/k=37\/k=38\/k=39:=l7;rcases this with rfl|rfl|rfl|rfl|rfl|rfl|rfl|rfl|rfl|rfl|rfl|rfl|rfl|rfl|rfl|rfl|rfl|rfl|rfl|rfl|rfl|rfl|rfl|rfl|rfl|rfl|rfl|rfl|rfl|rfl|rfl|rfl|rfl|rfl|rfl|rfl|rfl|rfl<;>exact absurd h E5
variable {N:Int}{a:Int×Int}{ty:Int×Int}
section
variable {sg:L9} {env:aA}
theorem b9L{x v:V3}(hE:EvOk env)(hN:iq N)(hS:TOk sg env)(hk:lG k=1)(ha:VT a)(hx:PVV sg.1 a x)(ht:IL (k,N) [a] sg=(ty,0))(h:mY (k,N) [x] env=(v,0)):PVV sg.1 ty v:=by
 have hk3:k≠23/\k≠24/\k≠26:=by refine⟨?_,?_,?_⟩<;>(rintro rfl;exact absurd hk E5)
 obtain⟨hP,_,_⟩:=a8m hE hN hk3 (by rw[hk];rfl) x9 h;have hs:=((a5y (a9P hN (λt h=>by simp_all) (by rw[hk];rfl) ht).1).2.2 a rfl);rcases c4b hk with rfl|rfl|rfl|rfl|rfl|rfl
 .exact YY l7 ha hx ht hP
 .exact YY l7 ha hx ht hP
 .exact YY l7 ha hx ht hP
 .exact YY l7 ha hx ht hP
 .exact a8e hE hS hs hP
 .exact a1O ha hs hP
theorem b0O{a b ty:Int×Int}(hk:k=23\/k=24)(ha:VT a)(hb:VT b)(ht:IL (k,N) [a,b] sg=(ty,0)):ty=(1,0):=by
 have hm:fA k=some false:=by rcases hk with rfl|rfl<;>rfl
 obtain⟨hN,ht2⟩:=a3i hm ht;rcases hk with rfl|rfl<;>rcases ha with rfl|rfl|rfl|rfl|rfl|⟨e,rfl⟩<;>rcases hb with rfl|rfl|rfl|rfl|rfl|⟨f,rfl⟩ <;>
  first
  |exact absurd (congrArg Prod.snd ht2) (by show(8:Int)≠0;decide)
  |exact(congrArg Prod.fst ht2).symm
theorem c1X{a b c ty:Int×Int}(ht:IL (26,N) [a,b,c] sg=(ty,0)):ty=b/\b=c:=by
 obtain⟨hN,ht2⟩:=a3i rfl ht;have hr:RR (26,0) [a,b,c] sg=l9 (x8 a.1 1) (l9 (G6 (fF (x8 b.1 c.1) (x8 b.2 c.2))) (some ((0,0),8)) (some (b,0))) (some ((0,0),8)):=rfl;rw[hr]at ht2;cases h1:x8 a.1 1<;>rw[h1]at ht2
 .simp_all
 cases h2:x8 b.1 c.1<;>rw[h2]at ht2
 .exact absurd (congrArg Prod.snd ht2) (by show(8:Int)≠0;decide)
 cases h3:x8 b.2 c.2<;>rw[h3]at ht2
 .exact absurd (congrArg Prod.snd ht2) (by show(8:Int)≠0;decide)
 exact⟨(congrArg Prod.fst ht2).symm,Z7 (U4.1 h2) (U4.1 h3)⟩
theorem UF{c:Int}{x:V3×Int}(h:l9 (x8 c 0) x ((0,0,0),c)=(v,0)):c=0/\x=(v,0):=by
 cases h1:x8 c 0<;>rw[h1]at h
 .simp_all [L8]
 .exact⟨U4.1 h1,h⟩
theorem Bj:∀(t:XT) (o:Nat) {ty:Int×Int},t.wf->(∀n∈t.post,iq n.2)->fJ sg t o= .inr ty->VT ty
 | .l0 n,o,ty,hw,hI,ht=>by exact AQ (hI n (by simp[XT.post])) x9 (by rw[hw];rfl) ht| .l1 n a,o,ty,hw,hI,ht=>by
  obtain⟨w1,w2⟩:lG n.1=1/\a.wf:=hw;unfold fJ at ht;cases h1:fJ sg a o with
  |inl e=>rw[h1]at ht;cases ht|inr ta=>rw[h1]at ht;have va:=Bj a o w2 (λm hm=>hI m (by simp[XT.post,hm])) h1;exact AQ (hI n (by simp[XT.post])) (λt h=>by rw[I7.1 h];exact va) (by rw[w1];rfl) ht
 | .l2 n a b,o,ty,hw,hI,ht=>by
  obtain⟨w1,w2,w3⟩:lG n.1=2/\a.wf/\b.wf:=hw;unfold fJ at ht;cases h1:fJ sg a o with
  |inl e=>rw[h1]at ht;cases ht|inr ta=>
   rw[h1]at ht;cases h2:fJ sg b (o+a.size)with
   |inl e=>rw[h2]at ht;cases ht|inr tb=>
    rw[h2]at ht;have va:=Bj a o w2 (λm hm=>hI m (by simp[XT.post,hm])) h1;have vb:=Bj b _ w3 (λm hm=>hI m (by simp[XT.post,hm])) h2;exact AQ (hI n (by simp[XT.post])) (λt h=>by
     rcases C9.1 h with rfl|h
     .exact va
     .rw[I7.1 h];exact vb) (by rw[w1];rfl) ht
 | .l3 n a b c,o,ty,hw,hI,ht=>by
  obtain⟨w1,w2,w3,w4⟩:lG n.1=3/\a.wf/\b.wf/\c.wf:=hw;unfold fJ at ht;cases h1:fJ sg a o with
  |inl e=>rw[h1]at ht;cases ht|inr ta=>
   rw[h1]at ht;cases h2:fJ sg b (o+a.size)with
   |inl e=>rw[h2]at ht;cases ht|inr tb=>
    rw[h2]at ht;cases h3:fJ sg c (o+a.size+b.size)with
    |inl e=>rw[h3]at ht;cases ht|inr tc=>
     rw[h3]at ht;have va:=Bj a o w2 (λm hm=>hI m (by simp[XT.post,hm])) h1;have vb:=Bj b _ w3 (λm hm=>hI m (by simp[XT.post,hm])) h2;have vc:=Bj c _ w4 (λm hm=>hI m (by simp[XT.post,hm])) h3;exact AQ (hI n (by simp[XT.post])) (λt h=>by
      rcases C9.1 h with rfl|h
      .exact va
      rcases C9.1 h with rfl|h
      .exact vb
      .rw[I7.1 h];exact vc) (by rw[w1];rfl) ht
theorem ED(hE:EvOk env)(hS:TOk sg env)(hL:∀e∈sg.1,e.2.length<=1000000):∀(t:XT) (o:Nat) {ty:Int×Int} {v:V3},t.wf->(∀n∈t.post,iq n.2)->fJ sg t o= .inr ty->evT env t=(v,0)->PVV sg.1 ty v/\VT ty
 | .l0 n,o,ty,v,hw,hI,ht,h=>by have hN:=hI n (by simp[XT.post]);have hv:VT ty:=AQ hN x9 (by rw[hw];rfl) ht;exact⟨b4E (k:=n.1) (N:=n.2) hE hN hS hL hw (Ec ht) h,hv⟩| .l1 n a,o,ty,v,hw,hI,ht,h=>by
  have hN:=hI n (by simp[XT.post]);obtain⟨w1,w2⟩:lG n.1=1/\a.wf:=hw;unfold fJ at ht;cases h1:fJ sg a o with
  |inl e=>rw[h1]at ht;cases ht|inr ta=>rw[h1]at ht;simp only at ht;obtain⟨c1,c2⟩:=UF h;obtain⟨p1,p2⟩:=ED hE hS hL a o w2 (λm hm=>hI m (by simp[XT.post,hm])) h1 (Z7 rfl c1);exact⟨b9L (k:=n.1) (N:=n.2) hE hN hS w1 p2 p1 (Ec ht) c2,AQ hN (λt h=>by rw[I7.1 h];exact p2) (by rw[w1];rfl) ht⟩
 | .l2 n a b,o,ty,v,hw,hI,ht,h=>by
  have hN:=hI n (by simp[XT.post]);obtain⟨w1,w2,w3⟩:lG n.1=2/\a.wf/\b.wf:=hw;unfold fJ at ht;cases h1:fJ sg a o with
  |inl e=>rw[h1]at ht;cases ht|inr ta=>
   rw[h1]at ht;cases h2:fJ sg b (o+a.size)with
   |inl e=>rw[h2]at ht;cases ht|inr tb=>
    rw[h2]at ht;simp only at ht;have va:=Bj a o w2 (λm hm=>hI m (by grind [XT.post])) h1;have vb:=Bj b _ w3 (λm hm=>hI m (by grind [XT.post])) h2;have hv:VT ty:=AQ hN (λt h=>by grind) (by rw[w1];rfl) ht;refine⟨?_,hv⟩;unfold evT at h;have hk:=c4d w1;cases hz:lzB n.1<;>rw[hz]at h
    .obtain⟨c1,c2⟩:=UF h;obtain⟨c3,c4⟩:=UF c2;have p1:=(ED hE hS hL a o w2 (λm hm=>hI m (by grind [XT.post])) h1 (Z7 rfl c1)).1;have p2:=(ED hE hS hL b _ w3 (λm hm=>hI m (by grind [XT.post])) h2 (Z7 rfl c3)).1;have hk3:=c2u hz;obtain⟨hP,_,_⟩:=a8m (k:=n.1) (N:=n.2) hE hN hk3 (by rw[w1];rfl) x9 c4;rcases hk with hk|hk|hk
     .omega
     .exact b4G hk va vb p1 p2 (a9P hN (λt h=>by grind) (by rw[w1];rfl) (Ec ht)).1 hP
     .exact b9I hk va vb p1 p2 (Ec ht) hP
    .have hk2:n.1=23\/n.1=24:=by
      rcases hk with hk|hk|hk
      .omega
      .rcases hk with hk|hk|hk<;>rw[hk]at hz<;>exact absurd hz E5
      .rcases hk with hk|hk|hk|hk|hk|hk|hk|hk|hk|hk|hk|hk|hk<;>rw[hk]at hz<;>exact absurd hz E5
     rw[b0O (k:=n.1) (N:=n.2) hk2 va vb (Ec ht)];simp at h;unfold a2E at h;cases g1:x8 n.2 0<;>rw[g1]at h
     .simp_all
     obtain⟨c1,c2⟩:=UF h;cases g2:ji (x8 n.1 23) (x8 (yu (evT env a)).1.2.2 0)<;>rw[g2]at c2
     .exact a5Q c2
     .have c3:(yu (evT env a)).1=v:=congrArg Prod.fst (show((yu (evT env a)).1,(0:Int))=(v,0)from c2)
      grind [a5Q]
 | .l3 n a b c,o,ty,v,hw,hI,ht,h=>by
  have hN:=hI n (by simp[XT.post]);obtain⟨w1,w2,w3,w4⟩:lG n.1=3/\a.wf/\b.wf/\c.wf:=hw;unfold fJ at ht;cases h1:fJ sg a o with
  |inl e=>simp_all|inr ta=>
   rw[h1]at ht;simp only at ht;cases h2:fJ sg b (o+a.size)with
   |inl e=>simp_all|inr tb=>
    rw[h2]at ht;cases h3:fJ sg c (o+a.size+b.size)with
    |inl e=>simp_all|inr tc=>
     rw[h3]at ht;have e26:=b5c w1;have hres:=Ec ht;rw[show n=(26,n.2)from Z7 e26 rfl]at hres;obtain⟨rfl,rfl⟩:=c1X hres;unfold evT a6B at h;cases g1:x8 n.2 0<;>rw[g1]at h
     .simp_all
     simp only[o7]at h;obtain⟨c1,c2⟩:=UF h;cases g2:x8 (yu (evT env a)).1.2.2 1<;>rw[g2]at c2
     .exact ED hE hS hL c _ w4 (λm hm=>hI m (by grind [XT.post])) h3 c2
     .exact ED hE hS hL b _ w3 (λm hm=>hI m (by grind [XT.post])) h2 c2
theorem TQ(hE:EvOk env)(hS:TOk sg env)(hL:∀e∈sg.1,e.2.length<=1000000){e:List (Int×Int)}(hI:∀n∈e,iq n.2){t:Int×Int}(ht:Fq e sg t=0)(h:iW e env=(v,0)):PVV sg.1 t v:=by
 have hw:=SA ht;unfold sZ at hw;unfold iW at h;cases hs:kX e with
 |inl x=>grind [Eh]|inr q=>
  rw[hs]at hw h;simp at hw h;cases hy:fJ sg q 0 with
  |inl x=>grind [BO]|inr ty=>rw[hy]at hw;have e1:=congrArg Prod.fst hw;subst e1;exact(ED hE hS hL q 0 (Jg hs) (λn hn=>hI n (by rw[(wS hs).1];omega)) hy h).1
end
end Go.GP
namespace Go.GP
open Gt
set_option maxRecDepth 100000
theorem FV{ρ:Type}{n:Nat}{p:Nat->Option ρ}(h:∀r,fH n p≠some r):∀i,i<n->p i=none:=by cases hf:fH n p<;>simp_all [fH]
theorem a2o{k i:Int}{r:Int×Int}(h:WI k i r=none):r.1=0:=by
 unfold WI at h;cases he:x8 r.1 0<;>rw[he]at h
 .cases h
 .exact U4.1 he
variable {l:aZ}
theorem OD(h:(eX l).1=0):∀e∈l.1,e.2.length<=16:=by
 intro e he;unfold eX at h;cases h1:x8 (Lt l).1 0<;>rw[h1]at h
 .simp_all [L8]
 have h1:=U4.1 h1;unfold Lt at h1;cases h2:F7 8 (o9 l.1)<;>rw[h2]at h1
 case true=>simp_all
 simp at h1;obtain⟨i,hi,e1⟩:=Y5 he;have hn:=FV (p:=f_ l) (λr hf=>by
  grind [je,f_,a2n]) i hi
 unfold f_ at hn;rw[dE hi,e1]at hn;have hz:=a2o hn;unfold a6i at hz;cases g1:Ko e.1<;>rw[g1]at hz
 .simp_all
 cases g2:VV l 1 i e.1<;>rw[g2]at hz
 case true=>simp_all
 cases g3:x8 (o9 e.2) 0<;>rw[g3]at hz
 case true=>simp_all
 cases g4:F7 16 (o9 e.2)<;>rw[g4]at hz
 case true=>simp_all
 grind [jW,o9]
theorem a3y(h:(eX l).1=0):∀t∈l.2.1,∀r∈t.2.2.2,inB r.2.2.2 (bnd t.2.2.1 l.1)=true:=by
 intro t ht r hr;unfold eX at h;cases h1:x8 (Lt l).1 0<;>rw[h1]at h
 .simp_all [L8]
 cases h2:x8 (IR l).1 0<;>rw[h2]at h
 .simp_all [L8]
 have h2:=U4.1 h2;unfold IR at h2;cases h3:F7 8 (o9 l.2.1)<;>rw[h3]at h2
 case true=>simp_all
 simp at h2;obtain⟨i,hi,e1⟩:=Y5 ht;have hn:=FV (p:=Um l) (λr hf=>by
  grind [je,Um,a2n]) i hi
 unfold Um at hn;rw[dE hi,e1]at hn;have hz:=a2o hn;unfold b0E at hz;cases g1:Ko t.1<;>rw[g1]at hz
 .simp_all
 cases g2:VV l 2 i t.1<;>rw[g2]at hz
 case true=>simp_all
 cases g3:x8 (VU t l.1).2 0<;>rw[g3]at hz
 .simp_all [L8]
 have hz:=U4.1 g3;unfold VU at hz;cases g4:F7 64 (o9 t.2.2.2)<;>rw[g4]at hz
 case true=>simp_all
 cases g5:vty t.2.1 l.1<;>rw[g5]at hz
 .simp_all
 cases g6:vty t.2.2.1 l.1<;>rw[g6]at hz
 .simp_all
 simp at hz;obtain⟨j,hj,e2⟩:=Y5 hr;have hn:=FV (λq hf=>by
  rw[show(List.range t.2.2.2.length).findSome? (a0K t l.1)=some q from hf]at hz;obtain⟨j,_,hj⟩:=je hf;unfold a0K at hj;split at hj
  .rename_i x _;cases k1:Xv x (bnd t.2.1 l.1) (bnd t.2.2.1 l.1)<;>rw[k1]at hj
   .revert hj;cases (t.2.2.2.take j).any λy=>Js y x
    .simp
    .intro hj;cases hj<;>simp_all
   .cases hj<;>simp_all
  grind) j hj
 unfold a0K at hn;rw[dE hj,e2]at hn;simp only at hn;cases k1:Xv r (bnd t.2.1 l.1) (bnd t.2.2.1 l.1)<;>rw[k1]at hn
 case true=>cases hn
 unfold Xv at k1;cases d1:Ny r.1<;>rw[d1]at k1
 .cases k1
 cases d2:x8 r.1.1 r.1.2<;>rw[d2]at k1
 case true=>cases k1
 cases d3:S9 r.2.2.1 r.2.1<;>rw[d3]at k1
 case true=>cases k1
 cases d4:inB r.2.1 (bnd t.2.1 l.1)<;>rw[d4]at k1
 .cases k1
 cases d5:inB (I8 .i64 r.2.2.1 1) (bnd t.2.1 l.1)<;>rw[d5]at k1
 .cases k1
 cases d6:inB r.2.2.2 (bnd t.2.2.1 l.1)<;>rw[d6]at k1;simp_all
variable {s:F9}{i:Nat}
theorem a8f(h:(eX l).1=0)(hs:l.2.2[i]? =some s){j:Nat}{f:oZ}(hf:s.2.2.2.1[j]? =some f):vty f.2 l.1=true:=by
 have hp:=(Sv h hs).2;unfold WX at hp;cases h1:KD l s with
 |some q=>grind [Qa]|none=>
  unfold KD at h1;cases h2:fH s.2.2.1.length (inP l s)with
  |some q=>simp_all|none=>
   rw[h2]at h1;have hn:=vZ h1 j (U8.1 hf).1;unfold b3i at hn;rw[hf]at hn;simp only at hn;unfold g_ at hn;cases he:x8 (PZ l.1 f s.2.2.1 (s.2.2.2.1.take j)) 0<;>rw[he]at hn
   .cases hn
   have he:=U4.1 he;unfold PZ at he;cases g1:Ko f.1<;>rw[g1]at he
   .simp_all
   cases g2:s.2.2.1.any λx=>seq x.1 f.1<;>rw[g2]at he
   case true=>simp_all
   cases g3:(s.2.2.2.1.take j).any λx=>seq x.1 f.1<;>rw[g3]at he
   case true=>simp_all
   cases g4:vty f.2 l.1<;>rw[g4]at he;simp_all
variable {k:Int}{c:kY}
theorem a8s(h:(Ci l k c false 0).1=0)(hs:H9 l.2.2 k=some s):∀i t v,H9 (s.2.2.1.map (·.2)) i=some t->H9 c.2.1 i=some v->PVW l.1 t v:=by
 intro i t v ht hv;unfold Ci at h;cases h0:x8 (eX l).1 0<;>rw[h0]at h
 .simp_all
 rw[hs]at h;cases h1:x8 (Et l k c).2.2 0<;>rw[h1]at h
 .simp_all [L8]
 have h1:=U4.1 h1;unfold Et at h1;rw[hs]at h1;simp only at h1;cases g1:F7 c.1 0<;>rw[g1]at h1
 case true=>simp_all
 cases g2:F7 109572 c.1<;>rw[g2]at h1
 case true=>simp_all
 cases g3:x8 (Ib l.1 s.2.2.1 c.2.1).2 0<;>rw[g3]at h1
 .simp_all [L8]
 have g3:=U4.1 g3;unfold Ib at g3;cases g4:F7 (o9 c.2.1) (o9 s.2.2.1)<;>rw[g4]at g3
 case true=>simp_all
 cases g5:F7 (o9 s.2.2.1) (o9 c.2.1)<;>rw[g5]at g3
 case true=>simp_all
 simp only[o6]at g3;have hvl:=(bQ hv).2.2.2;have htl:=(bQ ht).2.2.2;rw[H6]at htl;cases hf:s.2.2.1[i.toNat]? with
 |none=>simp_all|some f=>
  rw[hf]at htl;have e:f.2=t:=F8 htl;have hn:=FV (n:=c.2.1.length) (p:=a1Q l.1 s.2.2.1 c.2.1) (λr hf=>by
   grind [je,a3x]) i.toNat (U8.1 hvl).1
  unfold a1Q at hn;rw[hvl,hf]at hn;simp only at hn;cases d1:x8 v.1 f.2.1<;>rw[d1]at hn
  .cases hn
  cases d2:x8 v.2.1 f.2.2<;>rw[d2]at hn
  .cases hn
  cases d3:inB v.2.2 (bnd f.2 l.1)<;>rw[d3]at hn
  .cases hn
  rw[←e];exact⟨U4.1 d1,U4.1 d2,λ_=>d3⟩
theorem VQ(l:aZ)(s:F9):(yV l s).1=l.1/\(yV l s).2.1=l.2.1/\(yV l s).2.2.1=s.2.2.1.map (·.2):=by grind [yV]
variable {t:Int×Int}
theorem b8q{i:Int}(h:H9 (yV l s).2.2.2.2.1 i=some t):H9 ((aI l s).2.2.2.1.map (·.2)) i=some t:=by
 cases hq:(yV l s).2.2.2.2.2
 .grind [yV,H9]
 .rw[←b2x hq];omega
variable {v:V3}
theorem c4X(h:plB v=true):inB v.2.2 (Es v.1)=true:=by
 unfold plB at h;unfold inB;cases h1:S9 (Es v.1).1 v.2.2<;>rw[h1]at h
 .cases h
 cases h2:S9 v.2.2 (Es v.1).2<;>rw[h2]at h
 .cases h
 .rfl
theorem b9O{en:List gX}(hv:vty t en=true)(h:PVV en t v):Lj v en=some true:=by
 have e:(v.1,v.2.1)=t:=Z7 h.1 h.2.1;unfold Lj OE;rw[zg,QW];have hb:inB v.2.2 (bnd t en)=true:=by
  have hp:=c4X h.2.2.1;rw[h.1]at hp;rcases OH hv with rfl|rfl|rfl|rfl|rfl|⟨q,rfl⟩
  .exact hp
  .exact hp
  .exact hp
  .exact hp
  .exact hp
  .exact h.2.2.2 h.1
 unfold inB at hb;cases h1:S9 (bnd t en).1 v.2.2<;>rw[h1]at hb
 all_goals simp_all
def OI(l:aZ)(s:F9)(ds:List V3):Prop:=∀i t v,H9 (s.2.2.2.1.map (·.2)) i=some t->H9 ds i=some v->v.1≠0->PVW l.1 t v
variable {b:List DB}
theorem b9C{ds:List V3}(hA:(Ci l k c false 0).1=0)(h:(eX l).1=0)(hs:H9 l.2.2 k=some s)(hD:OI l s ds):TOk (yV l s) (uk (CP l s c b) ds):=by
 obtain⟨g1,g2,g3⟩:=VQ l s;refine⟨λi t v ht hv=>?_,λi t v ht hv h0=>?_,λi t u ht hu=>?_,g2.symm,λt ht r hr=>?_⟩
 .rw[g3]at ht;rw[g1];exact a8s hA hs i t v ht hv
 .rw[a0S]at ht;rw[g1];exact hD i t v ht hv h0
 .have h1:=b8q ht;have h2:H9 ((aI l s).2.2.2.1.map (·.2)) i=some u:=hu;rw[h1]at h2;exact(F8 h2).symm
 .rw[g2]at ht;rw[g1];exact a3y h t ht r hr
theorem a6b{ds:List V3}{m d:Int}{r:Int}(hL:SmL l)(hT:∀t∈l.2.1,BV t)(hb:b.length<=1000)(hA:(Ci l k c false 0).1=0)(h:(eX l).1=0)(hs:H9 l.2.2 k=some s)(hD:OI l s ds)(hd:yC s (uk (CP l s c b) ds) m d= .inl (v,r))(ht:H9 (s.2.2.2.1.map (·.2)) d=some t):PVV l.1 t v:=by
 obtain⟨_,d2,q,q1,q2⟩:=a6a hd;obtain⟨q',e1,e2,e3⟩:=Nk d2;rw[q1]at e1;cases e1;obtain⟨_,f,f1,f2⟩:=Em h (bQ hs).2.2.2 e2;rw[e3]at f1;have ht2:f.2=t:=by
  unfold H9 at ht f1;split at ht
  .rename_i h0;rw[if_pos h0]at f1;rw[H6,f1]at ht;exact F8 ht
  .cases ht
 have g1:=(VQ l s).1;rw[←g1,←ht2];refine TQ (KA (Qv hT s c hb) ds) (b9C hA h hs hD) (λe he=>by rw[g1]at he;have:=OD h e he;omega) ?_ f2 q2;have hS:=hL.sc s (bQ hs).2.2.1;exact(hS.ro q e2).1.2.2.2
theorem b3k{need:List Bool}{X:DB}(hL:SmL l)(hT:∀t∈l.2.1,BV t)(hb:b.length<=1000)(hA:(Ci l k c false 0).1=0)(h:(eX l).1=0)(hs:H9 l.2.2 k=some s)(hX:scS s (CP l s c b) (-1) need= .inl X):OI l s X.1:=by
 have key:∀(L:d4D) (B:DB),(∀d∈L,0<=d)->OI l s B.1->eG (scG s (CP l s c b) (-1) need) L B= .inl X->OI l s X.1:=by
  intro L;induction L with
  |nil=>intro B _ hB h;cases h;exact hB|cons d L ih=>
   intro B hL0 hB hf;unfold eG at hf;cases hg:scG s (CP l s c b) (-1) need B d with
   |inr e=>rw[hg]at hf;cases hf|inl B1=>
    rw[hg]at hf;refine ih B1 (λx hx=>hL0 x (by simp[hx])) ?_ hf;unfold scG at hg;cases h1:(H9 need d).getD false<;>rw[h1]at hg
    .cases hg;exact hB
    simp only[o7]at hg;cases hv:yC s (uk (CP l s c b) B.1) (-1) d with
    |inr e=>rw[hv]at hg;cases hg|inl v=>
     rw[hv]at hg;cases hg;intro i t w ht hw h0;by_cases hi:i=d
     .subst hi;have hd0:=hL0 i x9;by_cases hlt:i<o9 B.1
      .rw[TW _ hd0 hlt]at hw;cases hw;have p:=a6b (m:=-1) hL hT hb hA h hs hB (v:=v.1) (r:=v.2) hv ht;exact⟨p.1,p.2.1,p.2.2.2⟩
      .rw[xO (.inr (L6 (by simp only[o9,List.length_set]at hlt ⊢;omega)))]at hw;cases hw
     .rw[JC _ (hL0 d x9) hi]at hw;exact hB i t w ht hw h0
 refine key (qE s).1 _ (λd hd=>((KL s).1 d hd).1) (λi t v ht hv h0=>?_) hX;have:=(bQ hv).2.2.2;simp only[eQ]at this;split at this
 .cases this;exact absurd rfl h0
 .cases this
abbrev a3I:Int×Int:=(0,109573)
def tOn(T:Int)(t:dM):dM:=(t.1,t.2.1,t.2.2.1,(t.2.2.2.filter λr=>Iy r.1 T).map λr=>(a3I,r.2))
def onA(s:F9)(T:Int)(i:Nat):Bool:=match s.2.2.2.2[i]? with|some r=>Iy r.2.2.2.2.1 T|none=>false
def oQ(s:F9)(T:Int):d4F:=onL (onA s T) s.2.2.2.2.length
def rOn(s:F9)(T:Int)(i:Nat):iT:=match s.2.2.2.2[i]? with
 |some r=>(r.1,r.2.1,anc (onA s T) (a9v s) i,r.2.2.2.1,a3I,r.2.2.2.2.2.1,r.2.2.2.2.2.2.1,r.2.2.2.2.2.2.2)|none=>([],0,0,0,a3I,[],[],[])
def sOn(T:Int)(s:F9):F9:=(s.1,s.2.1,s.2.2.1,s.2.2.2.1,(oQ s T).map (rOn s T))
def lOn(T:Int)(l:aZ):aZ:=(l.1,l.2.1.map (tOn T),l.2.2.map (sOn T))
theorem Me{α:Type}(l:List α)(h:l.length<=1000000):jR l=some l:=by unfold jR;rw[vG U3];rfl
theorem b0D(t:dM)(T:Int)(h:t.2.2.2.length<=1000000):zW t T=some (tOn T t):=by
 unfold zW;refine cZ (o' :=some ((t.2.2.2.filter λr=>Iy r.1 T).map λr=>((a3I,r.2):zi))) ?_ rfl;have key:=(DF t.2.2.2 (λ(acc:List zi) r=>l9 (Iy r.1 T) (acc++[(a3I,r.2)]) acc) (λb i=>(b,i)) (λb=>b) (λi b=>b.length<=i) (b:=[]) (f:=λ(x:List zi×Int)=>l9 (F7 x.2 (o9 t.2.2.2)) (o5 (H9 t.2.2.2 x.2) λ(x_1:zi)=>o5 (jl x_1.1 T) λ(x_2:Bool)=>l9 x_2 (o5 qN λ(x_3:D7)=>o5 (fE x.1 [(x_3,x_1.2)]) λ(x_4:List zi)=>some (Sum.inl (x_4,A8 IntKind.i64 x.2 1))) (some (Sum.inl (x.1,A8 IntKind.i64 x.2 1)))) (some (Sum.inr x.1)))
  h x9 (λi r b hr hi hb=>?_) (λb hb=>?_)).1
 .rw[key];have hf:∀(l:List zi) (b:List zi),l.foldl (λ(acc:List zi) r=>l9 (Iy r.1 T) (acc++[(a3I,r.2)]) acc) b=b++(l.filter λr=>Iy r.1 T).map λr=>((a3I,r.2):zi):=by
   intro l;induction l with
   |nil=>intro b;simp|cons a l ih=>intro b;rw[gm,ih,fG];cases Iy a.1 T<;>simp
  rw[hf];rfl
 .simp only[au hr,o7,G8,hr,o8,DR];rw[ja l7];cases Iy r.1 T
  .exact⟨rfl,by show b.length<=_;omega⟩
  .simp only[o7];rw[show qN=some a3I from rfl,o8,kU _ l7,o8];exact⟨rfl,by show(b++[_]).length<=_;simp;omega⟩
 .simp only[ak];rfl
theorem c4N{r:iT}(h:s.2.2.2.2[i]? =some r)(T:Int):xA r T=some (onA s T i):=by unfold xA onA;rw[h,DR];rfl
theorem c0z{T:Int}(h:i∈oQ s T):i<s.2.2.2.2.length/\onA s T i=true:=a4s _ h
theorem UT(s:F9)(T:Int):(oQ s T).length<=s.2.2.2.2.length:=GN _ _
theorem b0g(hS:SmS s)(T:Int):zU s T=some (sOn T s):=by
 have hnr:=hS.nr;have hni:=hS.ni;have hnd:=hS.nd;have hkl:=UT s T;unfold zU;refine cZ (o' :=some (castL (oQ s T),(oQ s T).map (anc (onA s T) (a9v s)))) ?_ ?_
 .unfold yG;rw[show lI (o9 s.2.2.2.2) (0:Int)=some (List.replicate s.2.2.2.2.length 0) by unfold lI;rw[if_pos (by simp[o9];omega)];simp[o9],o8,dL];refine a3g l7 (λi r A B C hr=>?_) (λA B C=>?_)
  .simp only[au hr,o7,G8,hr,o8];rw[c4N hr];rfl
  .simp only[ak];rfl
 rw[o8];refine cZ (o' :=some ((oQ s T).map (rOn s T))) ?_ ?_
 .refine Np (λL i=>((L,i):List iT×Int)) (λL=>L) (oQ s T) (rOn s T) l7 (λi a L hi hL=>?_) (λL=>?_)
  .have hlt:=(U8.1 hi).1;obtain⟨a1,a2⟩:=c0z (lM hi);have hc:=QX hi;have ha:s.2.2.2.2[a]? =some s.2.2.2.2[a]:=dE a1;have hp:((oQ s T).map (anc (onA s T) (a9v s)))[i]? =some (anc (onA s T) (a9v s) a):=by rw[H6,hi];rfl
   obtain⟨_,r1,r2⟩:=hS.ro s.2.2.2.2[a] (P8 a1);simp only[au hc,o7,G8,hc,hp,ha,o8];rw[show P7 (castL (oQ s T)) (O9 (i:Int))=some (a:Int)from hc,o8,G8,ha,o8,show P7 ((oQ s T).map (anc (onA s T) (a9v s))) (O9 (i:Int))=_ from hp,o8,show qN=some a3I from rfl,o8,Me _ l7,o8,Me _ l7,o8,kU _ l7,o8,ja l7];unfold rOn;rw[ha]
  .rw[show((oQ s T).length:Int)=((castL (oQ s T)).length:Int) by rw[zB],ak];rfl
 rw[o8,Me _ l7,o8,Me _ l7,o8];rfl
theorem b5V(hL:SmL l)(hT:∀t∈l.2.1,BV t)(hE:∀e∈l.1,e.2.length<=1000000)(T:Int):Df l T=some (lOn T l):=by
 obtain⟨f1,f2,f3⟩:=hL.few;unfold Df;refine cZ (o' :=some ((l.1,PUnit.unit,PUnit.unit):List gX×PUnit×PUnit)) ?_ ?_
 .have:=Np (f:=λ(x:(List gX×PUnit×PUnit)×Int)=>l9 (F7 x.2 (o9 l.1)) (o5 (H9 l.1 x.2) λ(x_1:gX)=>o5 (jR x_1.2) λ(x_2:List d4C)=>o5 (fE x.1.1 [(x_1.1,x_2)]) λ(x_3:List gX)=>some (Sum.inl ((x_3,PUnit.unit,PUnit.unit),A8 IntKind.i64 x.2 1))) (some (Sum.inr (x.1.1,PUnit.unit,PUnit.unit))))
   (λL i=>(((L,PUnit.unit,PUnit.unit),i):(List gX×PUnit×PUnit)×Int)) (λL=>((L,PUnit.unit,PUnit.unit):List gX×PUnit×PUnit)) l.1 (λe=>((e.1,e.2):gX)) l7 (λi a L hi hLl=>by have hlt:=(U8.1 hi).1;simp only[au hi,o7,G8,hi,o8];rw[Me _ (hE a (lM hi)),o8,kU _ l7,o8,ja l7]) (λL=>by rw[ak];rfl)
  rw[show(l.1.map λe=>((e.1,e.2):gX))=l.1 from List.map_id _]at this;exact this
 rw[o8];refine cZ (o' :=some ((l.1,l.2.1.map (tOn T),PUnit.unit):List gX×List dM×PUnit)) ?_ ?_
 .refine Np (λL i=>(((l.1,L,PUnit.unit),i):(List gX×List dM×PUnit)×Int)) (λL=>((l.1,L,PUnit.unit):List gX×List dM×PUnit)) l.2.1 (tOn T) l7 (λi a L hi hLl=>?_) (λL=>?_)
  .have hlt:=(U8.1 hi).1;have hr:=(hT a (lM hi)).1;simp only[au hi,o7,G8,hi,o8];rw[b0D a T l7,o8,kU _ l7,o8,ja l7]
  .rw[ak];rfl
 rw[o8,dL];refine Np (λL i=>(((l.1,l.2.1.map (tOn T),L),i):aZ×Int)) (λL=>((l.1,l.2.1.map (tOn T),L):aZ)) l.2.2 (sOn T) l7 (λi a L hi hLl=>?_) (λL=>?_)
 .have hlt:=(U8.1 hi).1;simp only[au hi,o7,G8,hi,o8];rw[b0g (hL.sc a (lM hi)) T,o8,kU _ l7,o8,ja l7]
 .rw[ak];rfl
end Go.GP
namespace Gt
open Go Go.GP
theorem IU(t:Int×Int)(en:List gX):iJ t en=iI t en:=by
 grind [iJ,iI,x8,o8,Gy,ae,Iw,aC]
theorem a2d(t:Int×Int)(en:List gX):pV t en=pR t en:=by simp[pV,pR,IU]
end Gt
namespace Go.GP
open Gt
set_option maxRecDepth 100000
theorem d3V{l:aZ}(h:(eX l).1=0):eX l=(0,0,0,0):=by
 unfold eX at h ⊢;cases h1:x8 (Lt l).1 0<;>rw[h1]at h
 .simp only[o6]at h;rw[L8 h]at h1;cases h1
 cases h2:x8 (IR l).1 0<;>rw[h2]at h
 .simp only[o7,o6]at h;rw[L8 h]at h2;cases h2
 simp only[o7]at h ⊢;unfold VN at h ⊢;cases h3:F7 4 (o9 l.2.2)<;>rw[h3]at h
 case true=>exact absurd (show(4:Int)=0 from h) E5
 simp only[o6]at h ⊢;cases hf:fH l.2.2.length (Ol l)with
 |none=>rfl|some r=>
  rw[hf]at h;simp only at h;obtain⟨j,hj,hp⟩:=je hf;unfold Ol at hp;cases hq:l.2.2[j]? with
  |none=>rw[hq]at hp;cases hp|some q=>
   rw[hq]at hp;simp only at hp;unfold WI at hp;exact absurd h (by cases he:x8 (Om l j q).1 0<;>rw[he]at hp<;>cases hp;simp only;intro h4;rw[L8 h4]at he;cases he)
theorem a5N{b:Bool}{x y:Int}(h:l9 b x y=0)(hx:x≠0):b=false/\y=0:=by
 cases b
 .exact⟨rfl,h⟩
 .exact absurd h hx
end Go.GP
namespace Go.GP
variable {a:Nat}
theorem bvN(ha:a<256):(BitVec.ofInt 64 (a:Int)).toNat=a:=by rw[BitVec.toNat_ofInt];omega
theorem b2L(ha:a<256):IntKind.wrap .i64 (a:Int)=a:=lY O6
def clr(a i:Nat):Nat:=a^^^(a&&& 2^i)
def flp(a i:Nat):Nat:=a^^^2^i
variable {n:Nat}
theorem Q_(hn:n<=8)(h:a<2^n):a<256:=Y9 h (fD E5 hn:2^n<=2^8)
variable {i:Nat}
theorem b2n(hn:n<=8)(h:i<n):2^i<256:=Q_ hn (vN E5 h)
theorem c3K{a b:Nat}(ha:a<256)(hb:b<256):dI .i64 (a:Int) (b:Int)=((a&&& b:Nat):Int):=by show IntKind.wrap .i64 ((BitVec.ofInt 64 (a:Int)&&& BitVec.ofInt 64 (b:Int)).toNat:Int)=_;rw[BitVec.toNat_and,bvN ha,bvN hb];exact b2L (sS Nat.and_le_left ha)
theorem d3X{a b:Nat}(ha:a<256)(hb:b<256):Pm .i64 (a:Int) (b:Int)=((a^^^b:Nat):Int):=by show IntKind.wrap .i64 ((BitVec.ofInt 64 (a:Int)^^^BitVec.ofInt 64 (b:Int)).toNat:Int)=_;rw[BitVec.toNat_xor,bvN ha,bvN hb];exact b2L (sU (n:=8) ha hb)
theorem YD(ha:a<256)(hi:i<8):wo .i64 (a:Int) ((2^i:Nat):Int)=((clr a i:Nat):Int):=by
 have hp:2^i<256:=b2n (D5 8) hi;show IntKind.wrap .i64 ((BitVec.ofInt 64 (a:Int)&&& ~~~(BitVec.ofInt 64 ((2^i:Nat):Int))).toNat:Int)=_;have e:(BitVec.ofInt 64 (a:Int)&&& ~~~(BitVec.ofInt 64 ((2^i:Nat):Int))).toNat=clr a i:=by
  apply qG;intro j;unfold clr;rw[Nat.testBit_xor,wG,←BitVec.getLsbD,BitVec.getLsbD_and,BitVec.getLsbD_not,BitVec.getLsbD,BitVec.getLsbD,bvN ha,bvN hp];by_cases hj:j<64
  .rw[decide_eq_true hj];cases a.testBit j<;>cases (2^i).testBit j<;>rfl
  .rw[uy (x:=a) (i:=j) (Y9 ha (fD E5 l7:2^8<=2^j))];rfl
 rw[e];exact b2L (sU (n:=8) ha (sS Nat.and_le_left ha))
theorem Gs(a i j:Nat):(clr a i).testBit j=(a.testBit j&&!decide (i=j)):=by unfold clr;rw[Nat.testBit_xor,wG,kC];cases a.testBit j<;>cases decide (i=j)<;>rfl
theorem b0G(a i j:Nat):(flp a i).testBit j=(a.testBit j^^decide (i=j)):=by unfold flp;rw[Nat.testBit_xor,kC]
theorem Gx(x m v:Nat):x&&& m=v↔∀j,(x.testBit j&&m.testBit j)=v.testBit j:=by
 constructor
 .rintro rfl j;rw[wG]
 .intro h;apply qG;intro j;rw[wG];exact h j
theorem c4m(i:Nat)(h:a<2^n):clr a i<2^n:=sU h (sS Nat.and_le_left h)
theorem c4s(hi:i<n)(h:a<2^n):flp a i<2^n:=sU h (vN E5 hi)
theorem c0o(a i:Nat):a^^^flp a i=2^i:=by unfold flp;rw[←Nat.xor_assoc,Nat.xor_self,Nat.zero_xor]
theorem d3R{n a j:Nat}(h:a<2^n)(hj:a.testBit j=true):j<n:=by apply Nat.lt_of_not_le;intro hn;rw[uy (Y9 h (fD E5 hn))]at hj;cases hj
theorem c8r(hi:i<n)(h:a<2^n):a ||| 2^i<2^n:=Nat.or_lt_two_pow h (vN E5 hi)
theorem c4n(h:a.testBit i=false):clr (a ||| 2^i) i=a:=by
 apply qG;intro j;rw[Gs,Nat.testBit_or,kC];by_cases e:i=j
 .subst e;rw[h];simp
 .simp[e]
theorem ZO(h:a.testBit i=false):clr a i=a:=by
 apply qG;intro j;rw[Gs];by_cases e:i=j
 .subst e;rw[h];simp
 .simp[e]
abbrev Pt:=Nat×Nat
def Jr(q:Pt)(i:Nat):Pt:=(clr q.1 i,clr q.2 i)
def Yr(q:Pt)(i:Nat):Pt:=(q.1,flp q.2 i)
def upP(q:Pt)(i:Nat):Pt:=(q.1 ||| 2^i,q.2)
section
variable {n:Nat} {B:Nat->Prop} {q:Pt} {i:Nat}
theorem a7l(h:PD n q){j:Nat}(hj:q.1.testBit j=false):q.2.testBit j=false:=by have:=(Gx _ _ _).1 h.2 j;rw[hj,Bool.and_false]at this;exact this.symm
theorem b2m(h:PD n q):q.2<2^n:=by rw[←h.2];exact sS Nat.and_le_right h.1
theorem b6Z(h:PD n q)(i:Nat):PD n (Jr q i):=by refine⟨c4m i h.1,(Gx _ _ _).2 λj=>?_⟩;show((clr q.2 i).testBit j&&(clr q.1 i).testBit j)=(clr q.2 i).testBit j;have:=(Gx _ _ _).1 h.2 j;rw[Gs,Gs,←this];cases q.2.testBit j<;>cases q.1.testBit j<;>cases decide (i=j)<;>rfl
theorem b7a(h:PD n q)(hi:q.1.testBit i=true):PD n (Yr q i):=by
 refine⟨h.1,(Gx _ _ _).2 λj=>?_⟩;show((flp q.2 i).testBit j&&q.1.testBit j)=(flp q.2 i).testBit j;have:=(Gx _ _ _).1 h.2 j;rw[b0G,←this];by_cases e:i=j
 .subst e;rw[hi];cases q.2.testBit i<;>simp
 .cases q.2.testBit j<;>cases q.1.testBit j<;>simp[e]
theorem c0W(h:PD n q)(hi:i<n):PD n (upP q i):=by refine⟨c8r hi h.1,(Gx _ _ _).2 λj=>?_⟩;show(q.2.testBit j&&(q.1 ||| 2^i).testBit j)=q.2.testBit j;have:=(Gx _ _ _).1 h.2 j;rw[Nat.testBit_or,←this];cases q.2.testBit j<;>cases q.1.testBit j<;>rfl
theorem a4q(h:PD n q)(hi:q.1.testBit i=true)(x:Nat):x&&& (Jr q i).1=(Jr q i).2↔(x&&& q.1=q.2\/x&&& (Yr q i).1=(Yr q i).2):=by
 show x&&& clr q.1 i=clr q.2 i↔(x&&& q.1=q.2\/x&&& q.1=flp q.2 i);rw[Gx,Gx,Gx];constructor
 .intro hm;by_cases hx:x.testBit i=q.2.testBit i
  .left;intro j;have:=hm j;rw[Gs,Gs]at this;by_cases e:i=j
   .subst e;rw[hi,hx,Bool.and_true]
   .simpa[e]using this
  .right;intro j;have:=hm j;rw[Gs,Gs]at this;rw[b0G];by_cases e:i=j
   .subst e;rw[hi];revert hx;cases x.testBit i<;>cases q.2.testBit i<;>simp
   .simpa[e]using this
 .rintro(hm|hm) j
  .have:=hm j;rw[Gs,Gs,←this];cases x.testBit j<;>cases q.1.testBit j<;>cases decide (i=j)<;>rfl
  .have:=hm j;rw[b0G]at this;rw[Gs,Gs];by_cases e:i=j
   .subst e;simp
   .simpa[e]using this
theorem a0t(h:PD n q)(hi:q.1.testBit i=true):Dy n B (Jr q i)↔(Dy n B q/\Dy n B (Yr q i)):=by
 constructor
 .intro k;exact⟨⟨h,λx hx hm=>k.2 x hx ((a4q h hi x).2 (.inl hm))⟩,⟨b7a h hi,λx hx hm=>k.2 x hx ((a4q h hi x).2 (.inr hm))⟩⟩
 .rintro⟨k1,k2⟩;refine⟨b6Z h i,λx hx hm=>?_⟩;rcases(a4q h hi x).1 hm with hm|hm
  .exact k1.2 x hx hm
  .exact k2.2 x hx hm
theorem a8w(h:PD n q)(hi:q.1.testBit i=false):Jr (upP q i) i=q:=Z7 (c4n hi) (ZO (a7l h hi))
theorem a5k:(upP q i).1.testBit i=true:=by show(q.1 ||| 2^i).testBit i=true;rw[Nat.testBit_or,kC];simp
theorem b2l(h:Dy n B q)(hi:i<n)(hf:q.1.testBit i=false):Dy n B (upP q i)/\Dy n B (Yr (upP q i) i):=
 (a0t (c0W h.1 hi) a5k).1 (by rw[a8w h.1 hf];exact h)
end
theorem a9x:∀v:Fin 256,∀i:Fin 8,v.val.testBit i.val=true->pcN (clr v.val i.val)+1=pcN v.val:=by decide+kernel
theorem a4x(ha:a<256)(hi:i<8)(h:a.testBit i=true):pcN (clr a i)+1=pcN a:=a9x ⟨a,ha⟩ ⟨i,hi⟩ h
theorem a7i:∀n:Fin 9,∀v:Fin 256,v.val<2^n.val->(pcN v.val<=n.val/\(pcN v.val=n.val->v.val=2^n.val -1)/\(pcN v.val<n.val->(List.range n.val).any λi=> !v.val.testBit i)):=by decide+kernel
theorem Vs(hn:n<=8)(h:a<2^n):pcN a<=n/\(pcN a=n->a=2^n -1)/\(pcN a<n->∃i,i<n/\a.testBit i=false):=by obtain⟨h1,h2,h3⟩:=a7i ⟨n,l7⟩ ⟨a,Q_ hn h⟩ h;refine⟨h1,h2,λhl=>?_⟩;obtain⟨i,hi,hb⟩:=mV.1 (h3 hl);exact⟨i,by simpa using hi,by simpa using hb⟩
theorem a9y:∀n:Fin 9,pcN (2^n.val -1)=n.val:=by decide+kernel
theorem c4W(hn:n<=8):pcN (2^n -1)=n:=a9y ⟨n,l7⟩
end Go.GP
namespace Go.GP
open Gt
set_option maxRecDepth 100000
theorem c4J:∀v:Fin 256,mD (v.val:Int)=some ((pcN v.val:Nat):Int):=by decide+kernel
theorem c2x{a:Nat}(h:a<256):mD (wrap .u64 (a:Int))=some ((pcN a:Nat):Int):=by have e:wrap .u64 (a:Int)=a:=a1n (by unfold U64;omega);rw[e];exact c4J ⟨a,h⟩
theorem a7j:∀v:Fin 256,∀i:Fin 8,pcN (2^i.val)=1/\(2^i.val&&& v.val=0↔v.val.testBit i.val=false):=by decide+kernel
theorem b6k{q:Pt}{i:Nat}(h1:q.1<256)(h2:q.2<256)(hi:i<8):CX (ptI q) (ptI (Yr q i))=some (l9 (q.1.testBit i) (ptI (Jr q i),true) ((0,0),false)):=by
 have hp:2^i<256:=b2n (D5 8) hi;have hf:flp q.2 i<256:=c4s (n:=8) hi h2;obtain⟨p1,p2⟩:=a7j ⟨q.1,h1⟩ ⟨i,hi⟩;have e:Pm .i64 (ptI q).2 (ptI (Yr q i)).2=((2^i:Nat):Int):=by show Pm .i64 (q.2:Int) (flp q.2 i:Nat)=_;rw[d3X h2 hf,c0o]
 unfold CX;rw[e,show x8 (ptI q).1 (ptI (Yr q i)).1=true from L8 rfl];rw[c2x hp,p1,o8,show dI .i64 ((2^i:Nat):Int) (ptI q).1=((2^i&&& q.1:Nat):Int)from c3K hp h1];rw[show wo .i64 (ptI q).1 ((2^i:Nat):Int)=_ from YD h1 hi,show wo .i64 (ptI q).2 ((2^i:Nat):Int)=_ from YD h2 hi];cases hb:q.1.testBit i
 .rw[p2.2 hb];rfl
 .have:x8 ((2^i&&& q.1:Nat):Int) 0=false:=I4 (λh=>by
   have h0:2^i&&& q.1=0:=l7;rw[p2.1 h0]at hb;cases hb)
  rw[this];rfl
theorem c4o(a b:Int):vO a b=some (Wy a b):=by
 unfold vO Wy wX;by_cases h:a<b
 .simp[h,F7,o5,l9,x8,G6,fF]
 .by_cases h2:b<a
  .simp[h,h2,F7,o5,l9,x8,G6,fF]
  .simp[h,h2,F7,o5,l9,x8,G6,fF]
theorem Rw{σ ε ρ:Type}{f:σ->Option (Out σ ε ρ)}(st:Nat->σ){n:Nat}{o:Out σ ε ρ}{r:ε⊕ρ}(h1:∀i,i<n->f (st i)=some (.nx (st (i+1))))(h2:f (st n)=some o)(ho:(∃e,o= .ex e/\r= .inl e)\/∃e,o= .rt e/\r= .inr e)(hn:n<=1000000):bD f (st 0)=some r:=by
 have key:∀j i N,i+j=n->j<N->qi f N (st i)=some r:=by
  intro j;induction j with
  |zero=>intro i N hi hN;obtain⟨N,rfl⟩:∃m,N=m+1:=⟨N -1,l7⟩;obtain rfl:i=n:=l7;unfold qi;rw[h2];rcases ho with⟨e,rfl,rfl⟩|⟨e,rfl,rfl⟩<;>rfl
  |succ j ih=>intro i N hi hN;obtain⟨N,rfl⟩:∃m,N=m+1:=⟨N -1,l7⟩;unfold qi;rw[h1 i l7];exact ih (i+1) N l7 l7
 exact key n 0 _ l7 (by show n<18446744073709551616;omega)
theorem c4T(a b c:Int):Nw [a,b,c]=some (if a≠0 then a else if b≠0 then b else c):=by
 unfold Nw;by_cases h1:a=0
 .by_cases h2:b=0
  .by_cases h3:c=0
   .subst h1;subst h2;subst h3;rw[show(0:Int)=(λi:Nat=>(i:Int)) 0 from rfl,Rw (λi:Nat=>(i:Int)) (n:=3) (o:=.ex PUnit.unit) (r:=.inl PUnit.unit) (λi hi=>by
     rcases(show i=0\/i=1\/i=2 by omega)with rfl|rfl|rfl<;>rfl) (by rfl) (.inl ⟨_,rfl,rfl⟩) l7]
    rfl
   .subst h1;subst h2;rw[show(0:Int)=(λi:Nat=>(i:Int)) 0 from rfl,Rw (λi:Nat=>(i:Int)) (n:=2) (o:=.rt c) (r:=.inr c) (λi hi=>by
     rcases(show i=0\/i=1 by omega)with rfl|rfl<;>rfl) (by show l9 true (o5 (some c) _) _=_;simp only[o8,o7,show x8 c ((0:Nat):Int)=false from I4 h3,bY]) (.inr ⟨_,rfl,rfl⟩) l7]
    simp[bn,o5]
  .subst h1;rw[show(0:Int)=(λi:Nat=>(i:Int)) 0 from rfl,Rw (λi:Nat=>(i:Int)) (n:=1) (o:=.rt b) (r:=.inr b) (λi hi=>by
    rcases(show i=0 by omega)with rfl;rfl) (by show l9 true (o5 (some b) _) _=_;simp only[o8,o7,show x8 b ((0:Nat):Int)=false from I4 h2,bY]) (.inr ⟨_,rfl,rfl⟩) l7]
   simp[bn,o5,h2]
 .rw[show(0:Int)=(λi:Nat=>(i:Int)) 0 from rfl,Rw (λi:Nat=>(i:Int)) (n:=0) (o:=.rt a) (r:=.inr a) (λi hi=>by omega) (by
    show l9 true (o5 (some a) _) _=_;simp only[o8,o7,show x8 a ((0:Nat):Int)=false from I4 h1,bY]) (.inr ⟨_,rfl,rfl⟩) l7]
  simp[bn,o5,h1]
theorem a9E{x y:Int×Int}(hx:GY x=true)(hy:GY y=true):Gu x y=some (a3S x y):=by
 have g:∀{z:Int×Int},GY z=true->mD (wrap .u64 z.1)=some ((pcN z.1.toNat:Nat):Int):=λ{z} h=>by unfold GY at h;rw[A7,decide_eq_true_iff,decide_eq_true_iff]at h;obtain⟨m,hm⟩:=nN h.1;rw[hm,c2x l7];rfl
 unfold Gu a3S;simp only[g hx,g hy,o8,c4o,c4T]
end Go.GP
namespace Go.GP
theorem zx{α σ τ ε:Type}(l:List α)(mk:τ->Int->σ)(fin:τ->ε)(R:Nat->τ->Prop){f:σ->Option (σ⊕ε)}{b:τ}(hl:l.length<=1000000)(h0:R 0 b)
  (hin:∀(i:Nat) (a:α) (b:τ),l[i]? =some a->R i b->∃b',f (mk b (i:Int))=some (.inl (mk b' ((i+1:Nat):Int)))/\R (i+1) b')
  (hend:∀b,R l.length b->f (mk b (l.length:Int))=some (.inr (fin b))):∃b',X8 f (mk b 0)=some (fin b')/\R l.length b' :=by
 have key:∀(n i:Nat) (b:τ),i<=l.length->l.length -i<n->R i b->∃b',qC f n (mk b (i:Int))=some (fin b')/\R l.length b' :=by
  intro n;induction n with
  |zero=>intro i b _ h _;omega|succ n ih=>
   intro i b hi hn hI;unfold qC;by_cases h:i<l.length
   .obtain⟨b',h1,h2⟩:=hin i _ b (dE h) hI;rw[h1];exact ih (i+1) b' l7 l7 h2
   .have:i=l.length:=l7;subst this;rw[hend b hI];exact⟨b,rfl,hI⟩
 exact key kK 0 b l7 (by unfold kK;omega) h0
def tm{κ:Type}(K:List κ):List (κ×Bool):=K.map λk=>(k,true)
theorem Ov{κ:Type} :∀(K:List κ),(tm K).map (·.1)=K
 |[]=>rfl|k::K=>congrArg (k::·) (Ov K)
theorem b9B{κ:Type} :∀{z:List (κ×Bool)},(∀e∈z,e.2=true)->z=tm (z.map (·.1))
 |[],_=>rfl|(k,b)::z,h=>by have h1:b=true:=h (k,b) x9;subst h1;exact congrArg ((k,true)::·) (b9B λe he=>h e (by simp[he]))
theorem b0L{κ:Type}{K:List κ} :∀e∈tm K,e.2=true:=λe he=>by obtain⟨k,_,rfl⟩:=J6.1 he;rfl
section
variable {κ:Type} [DecidableEq κ] {eq:κ->κ->Bool} (hE:∀a b,eq a b=true↔a=b)
include hE
theorem b0M(k:κ):∀(K:List κ),Pv eq (tm K) k false=decide (k∈K)
 |[]=>rfl|p::K=>by
  have ih:=b0M k K;show(bif eq k p then true else Pv eq (tm K) k false)=_;rw[ih];cases h:eq k p
  .have:k≠p:=λe=>by rw[(hE k p).2 e]at h;cases h
   simp[this]
  .have:=(hE k p).1 h;simp[this]
omit [DecidableEq κ]in
theorem b2I{k:κ}{K:List κ}(h:k∈K):Pv eq (tm K) k false=true:=by
 classical
 rw[b0M hE];exact decide_eq_true h
omit [DecidableEq κ]in
theorem a5i{k:κ}{K:List κ}(h:k∉K):Pv eq (tm K) k false=false:=by
 classical
 rw[b0M hE];exact decide_eq_false h
theorem Un{k:κ} :∀{K:List κ},k∈K->SG eq (tm K) k true=tm K
 |p::K,hk=>by
  show(bif eq k p then(k,true)::tm K else(p,true)::SG eq (tm K) k true)=(p,true)::tm K;cases h:eq k p
  .have hne:k≠p:=λe=>by rw[(hE k p).2 e]at h;cases h
   have hm:k∈K:=(C9.1 hk).resolve_left hne;rw[Un hm];rfl
  .rw[(hE k p).1 h];rfl
theorem Oz{k:κ} :∀{K:List κ},k∉K->SG eq (tm K) k true=tm (K++[k])
 |[],_=>rfl|p::K,hk=>by
  show(bif eq k p then(k,true)::tm K else(p,true)::SG eq (tm K) k true)=(p,true)::tm (K++[k]);have h:eq k p=false:=by
   cases h:eq k p
   .rfl
   .exact absurd (by rw[(hE k p).1 h];simp) hk
  rw[h,Oz (λhm=>hk (by simp[hm]))];rfl
theorem b9A(k:κ):∀(K:List κ),Yw eq (tm K) k=tm (K.erase k)
 |[]=>rfl|p::K=>by
  show(bif eq k p then tm K else(p,true)::Yw eq (tm K) k)=_;rw[List.erase_cons];cases h:eq k p
  .have:¬(p==k)=true:=λe=>by rw[(hE k p).2 (beq_iff_eq.1 e).symm]at h;cases h
   rw[if_neg this,b9A k K];rfl
  .have:=(hE k p).1 h;subst this;simp
end
theorem GG(a b:Int×Int):(λ(a b:Int×Int)=>fF (x8 a.1 b.1) (x8 a.2 b.2)) a b=true↔a=b:=by show fF (x8 a.1 b.1) (x8 a.2 b.2)=true↔a=b;unfold fF;rw[A7,U4,U4];exact⟨λh=>Z7 h.1 h.2,λh=>by subst h;exact⟨rfl,rfl⟩⟩
theorem UJ(a b:Int):(λ(a b:Int)=>x8 a b) a b=true↔a=b:=U4
theorem b1Y:∀(N:Nat) (L:d4F),L.Nodup->(∀x∈L,x<N)->L.length<=N
 |0,L,_,h=>by
  cases L with
  |nil=>simp|cons a L=>have:=h a x9;omega
 |N+1,L,hn,h=>by
  have h1:=b1Y N (L.erase N) (hn.erase N) λx hx=>by obtain⟨h2,h3⟩:=(hn.mem_erase_iff).1 hx;have:=h x h3;omega
  rw[List.length_erase]at h1;split at h1<;>omega
theorem a9g{α β:Type}(f:α->β):∀{L:List α},L.Nodup->(∀x∈L,∀y∈L,f x=f y->x=y)->(L.map f).Nodup
 |[],_,_=>by simp|a::L,hn,hi=>by obtain⟨h1,h2⟩:=az.1 hn;rw[aS,az];refine⟨λhm=>?_,a9g f h2 λx hx y hy=>hi x (by simp[hx]) y (by simp[hy])⟩;obtain⟨x,hx,e⟩:=J6.1 hm;have:=hi x (by simp[hx]) a x9 e;subst this;exact h1 hx
theorem b6p{α:Type}(f:α->Nat){N:Nat}{L:List α}(hn:L.Nodup)(hi:∀x∈L,∀y∈L,f x=f y->x=y)(hl:∀x∈L,f x<N):L.length<=N:=by have:=b1Y N (L.map f) (a9g f hn hi) (λx hx=>by obtain⟨y,hy,rfl⟩:=J6.1 hx;exact hl y hy);simpa using this
theorem KO{p q:Pt}(h:ptI p=ptI q):p=q:=by have h1:=(Prod.mk.inj h).1;have h2:=(Prod.mk.inj h).2;exact Z7 l7 l7
theorem a0s{L:List (Int×Int)}(hn:L.Nodup)(h:∀p∈L,∃q:Pt,q.1<256/\q.2<256/\p=ptI q):L.length<=65536:=by
 refine b6p (λp:Int×Int=>p.1.toNat*256+p.2.toNat) hn (λx hx y hy e=>?_) λx hx=>?_
 .obtain⟨q,h1,h2,rfl⟩:=h x hx;obtain⟨r,h3,h4,rfl⟩:=h y hy;have e:q.1*256+q.2=r.1*256+r.2:=e;have:q=r:=Z7 l7 l7;rw[this]
 .obtain⟨q,h1,h2,rfl⟩:=h x hx;show q.1*256+q.2<65536;omega
end Go.GP
namespace Go.GP
open Gt
set_option maxRecDepth 100000
structure AmO (n:Nat) (B:Nat->Prop) (k:Nat) (K L:List (Int×Int)):Prop where
 kn:K.Nodup
 km:∀p,p∈K↔∃q,Dy n B q/\n<=pcN q.1+k/\p=ptI q
 ln:L.Nodup
 lm:∀p,p∈L↔∃q,Dy n B q/\pcN q.1+k=n/\p=ptI q
structure AmI (n:Nat) (B:Nat->Prop) (k:Nat) (D:Pt->Nat->Prop) (K X:List (Int×Int)):Prop where
 kn:K.Nodup
 km:∀p,p∈K↔(∃q,Dy n B q/\n<=pcN q.1+k/\p=ptI q)\/p∈X
 xn:X.Nodup
 xm:∀p∈X,∃q,Dy n B q/\pcN q.1+(k+1)=n/\p=ptI q
 dn:∀q i,D q i->q.1.testBit i=true->Dy n B (Jr q i)->ptI (Jr q i)∈X
def c3J(l:List (Int×Int)):Nat:=match l with|[]=>0|p::_=>pcN p.1.toNat+1
def Zo(a1:Int)(x:D7)(x_3:List (D7×Bool)×List D7×Int):Option ((List (D7×Bool)×List D7×Int)⊕(List (D7×Bool)×List D7)):=
 l9 (F7 x_3.2.2 a1)
  (o5 (zt IntKind.i64 1 x_3.2.2) λ(x_4:Int)=>
   l9 (G6 (Pv (λ(a b:D7)=>fF (x8 a.1 b.1) (x8 a.2 b.2)) x_3.1 (x.1,Pm IntKind.i64 x.2 x_4) false))
    (some (Sum.inl (x_3.1,x_3.2.1,A8 IntKind.i64 x_3.2.2 1)))
    (o5 (CX x (x.1,Pm IntKind.i64 x.2 x_4)) λ(x:D7×Bool)=>
     l9 x.2
      (l9 (G6 (Pv (λ(a b:D7)=>fF (x8 a.1 b.1) (x8 a.2 b.2)) x_3.1 x.1 false))
       (o5 (fE x_3.2.1 [x.1]) λ(x_5:List D7)=>
        some (Sum.inl (SG (λ(a b:D7)=>fF (x8 a.1 b.1) (x8 a.2 b.2)) x_3.1 x.1 true,x_5,A8 IntKind.i64 x_3.2.2 1)))
       (some (Sum.inl (x_3.1,x_3.2.1,A8 IntKind.i64 x_3.2.2 1))))
      (some (Sum.inl (x_3.1,x_3.2.1,A8 IntKind.i64 x_3.2.2 1)))))
  (some (Sum.inr (x_3.1,x_3.2.1)))
def a1X(a1:Int)(L:List D7)(x_1:List (D7×Bool)×List D7×Int):Option ((List (D7×Bool)×List D7×Int)⊕(List (D7×Bool)×List D7)):=
 l9 (F7 x_1.2.2 (o9 L))
  (o5 (H9 L x_1.2.2) λ(x_2:D7)=>o5 (P7 L (O9 x_1.2.2)) λ(x:D7)=>
   o5 (X8 (Zo a1 x) (x_1.1,x_1.2.1,0)) λ(y:List (D7×Bool)×List D7)=>some (Sum.inl (y.1,y.2,A8 IntKind.i64 x_1.2.2 1)))
  (some (Sum.inr (x_1.1,x_1.2.1)))
def b1g(a1:Int)(x:List (D7×Bool)×List D7):Option ((List (D7×Bool)×List D7)⊕List (D7×Bool)):=
 l9 (F7 0 (o9 x.2)) (o5 (X8 (a1X a1 x.2) (x.1,[],0)) λ(y:List (D7×Bool)×List D7)=>some (Sum.inl y)) (some (Sum.inr x.1))
theorem b9U(a0:List (D7×Bool))(a1:Int):Fh a0 a1=Ws (λ(ys:List (D7×Bool))=>List.Perm ys a0) λ(ys:List (D7×Bool))=>
  o5 (Ag (λ(e:D7×Bool) (x:List D7)=>o5 (fE x [e.1]) λ(x:List D7)=>some x) ys []) λ(x1:List D7)=>
   o5 (X8 (b1g a1) (a0,x1)) λ(y:List (D7×Bool))=>some (Xx (a0,a1) y):=rfl
theorem c1C:∀i:Fin 9,zt .i64 1 (i.val:Int)=some ((2^i.val:Nat):Int):=by decide+kernel
variable {i:Nat}
theorem a4W(h:i<=8):zt .i64 1 (i:Int)=some ((2^i:Nat):Int):=c1C ⟨i,l7⟩
theorem nxI(h:i<=1000000):A8 .i64 (i:Int) 1=((i+1:Nat):Int):=by grind [U5,iq]
variable {K:List (Int×Int)}{q:Pt}{D:Pt->Nat->Prop}{X:List (Int×Int)}
section
variable {n:Nat} {B:Nat->Prop} {k:Nat} (hn:n<=8)
include hn
theorem uZ(h:PD n q):q.1<256/\q.2<256:=⟨Q_ hn h.1,Q_ hn (b2m h)⟩
theorem a8l(hq:Dy n B q)(hk:pcN q.1+k=n)(hi:i<n)(h:AmI n B k D K X):
  ∃K' X',Zo (n:Int) (ptI q) (tm K,X,(i:Int))=some (.inl (tm K',X',((i+1:Nat):Int)))/\AmI n B k (λq' i' =>D q' i' \/(q' =q/\i' =i)) K' X' :=by
 obtain⟨l1,l2⟩:=uZ hn hq.1;have hp:=b2n hn hi;have ek:((ptI q).1,Pm IntKind.i64 (ptI q).2 ((2^i:Nat):Int))=ptI (Yr q i):=by rw[d3X l2 hp];rfl
 unfold Zo;rw[show F7 (tm K,X,(i:Int)).2.2 (n:Int)=true from U0 (by simp_all),o7];rw[show zt IntKind.i64 1 (tm K,X,(i:Int)).2.2=_ from a4W (i:=i) l7,o8,ek,show A8 IntKind.i64 (tm K,X,(i:Int)).2.2 1=_ from nxI l7];have hin:ptI (Yr q i)∈K↔Dy n B (Yr q i):=by
  rw[h.km];constructor
  .rintro(⟨r,h1,-,e⟩|hx)
   .grind
   .obtain⟨r,h1,-,e⟩:=h.xm _ hx<;>grind
  grind
 by_cases hf:ptI (Yr q i)∈K
 .rw[b2I GG hf,E8,b6k l1 l2 l7,o8];cases hb:q.1.testBit i
  .exact⟨K,X,rfl,h.kn,h.km,h.xn,h.xm,λq' i' hd ht=>by
    rcases hd with hd|⟨rfl,rfl⟩
    .exact h.dn q' i' hd ht
    simp_all⟩
  .have hm:=(a0t hq.1 hb).2 ⟨hq,hin.1 hf⟩;have hpc:pcN (Jr q i).1+1=pcN q.1:=a4x l1 l7 hb;rw[o7];by_cases hc:ptI (Jr q i)∈K
   .rw[b2I GG hc,o6];refine⟨K,X,rfl,h.kn,h.km,h.xn,h.xm,λq' i' hd ht hp' =>?_⟩;rcases hd with hd|⟨rfl,rfl⟩
    .exact h.dn q' i' hd ht hp'
    .rcases(h.km _).1 hc with⟨r,h1,h2,e⟩|hx<;>grind
   .rw[a5i GG hc,bY];have hX:X.length<=65536:=a0s h.xn λp hp' =>by
     obtain⟨r,h1,-,e⟩:=h.xm p hp';exact⟨r,(uZ hn h1.1).1,(uZ hn h1.1).2,e⟩
    rw[show fE (tm K,X,(i:Int)).2.1 [ptI (Jr q i)]=some (X++[ptI (Jr q i)])from vG (by grind),Oz GG hc];have hcX:ptI (Jr q i)∉X:=λhx=>hc ((h.km _).2 (.inr hx));refine⟨K++[ptI (Jr q i)],X++[ptI (Jr q i)],rfl,?_,λp=>?_,?_,λp hp' =>?_,λq' i' hd ht hp' =>?_⟩
    .rw[H8];exact⟨h.kn,x9,λa ha b hb' =>by grind⟩
    .rw[D6,D6,h.km,or_assoc]
    .rw[H8];exact⟨h.xn,x9,λa ha b hb' =>by grind⟩
    .rcases D6.1 hp' with hp'|hp'
     .exact h.xm p hp'
     grind
    .rcases hd with hd|⟨rfl,rfl⟩
     .exact D6.2 (.inl (h.dn q' i' hd ht hp'))
     .simp
 .rw[a5i GG hf,bY];refine⟨K,X,rfl,h.kn,h.km,h.xn,h.xm,λq' i' hd ht hp' =>?_⟩;rcases hd with hd|⟨rfl,rfl⟩
  .exact h.dn q' i' hd ht hp'
  .exact absurd (hin.2 ((a0t hq.1 ht).1 hp').2) hf
omit hn in
theorem AmI.mono{D D' :Pt->Nat->Prop}(h:AmI n B k D K X)(hd:∀q i,D' q i->q.1.testBit i=true->D q i):AmI n B k D' K X:=⟨h.kn,h.km,h.xn,h.xm,λq i h1 h2 h3=>h.dn q i (hd q i h1 h2) h2 h3⟩
theorem c3H(hq:Dy n B q)(hk:pcN q.1+k=n)(h:AmI n B k D K X):
  ∃K' X',X8 (Zo (n:Int) (ptI q)) (tm K,X,0)=some (tm K',X')/\AmI n B k (λq' i' =>D q' i' \/q' =q) K' X' :=by
 obtain⟨b,h1,h2⟩:=zx (List.range n) (λ(t:List (Int×Int)×List (Int×Int)) (i:Int)=>(tm t.1,t.2,i)) (λt=>(tm t.1,t.2)) (λi t=>AmI n B k (λq' i' =>D q' i' \/(q' =q/\i' <i)) t.1 t.2) (b:=(K,X)) (by grind)
  (h.mono λq' i' hd _=>by simp_all)
  (λi a t hi ht=>by
   have hi' :i<n:=by grind
   obtain⟨K',X',e,h'⟩:=a8l hn hq hk hi' ht;refine⟨(K',X'),e,h'.mono λq' i' hd _=>?_⟩<;>grind)
  (λt ht=>by
   grind [Zo,L6,o6])
 refine⟨b.1,b.2,h1,h2.mono λq' i' hd ht=>?_⟩;rcases hd with hd|rfl
 .simp_all
 .exact .inr ⟨rfl,by simpa using d3R hq.1.1 ht⟩
theorem c3I{K L:List (Int×Int)}(h:AmO n B k K L):∃K' X,X8 (a1X (n:Int) L) (tm K,[],0)=some (tm K',X)/\AmO n B (k+1) K' X:=by
 have hL:=a0s h.ln λp hp' =>by obtain⟨r,h1,-,e⟩:=(h.lm p).1 hp';exact⟨r,(uZ hn h1.1).1,(uZ hn h1.1).2,e⟩
 obtain⟨b,h1,h2⟩:=zx L (λ(t:List (Int×Int)×List (Int×Int)) (i:Int)=>(tm t.1,t.2,i)) (λt=>(tm t.1,t.2)) (λj t=>AmI n B k (λq' i' =>∃j',j' <j/\L[j']? =some (ptI q')) t.1 t.2) (f:=a1X (n:Int) L) (b:=(K,[])) l7
  ⟨h.kn,λp=>by rw[h.km];simp,x9,x9,λq i hd=>by omega⟩
  (λj a t hj ht=>by obtain⟨q,hq,hk,rfl⟩:=(h.lm a).1 (lM hj);obtain⟨K',X',e,h'⟩:=c3H hn hq hk ht;refine⟨(K',X'),?_,h'.mono λq' i' hd _=>?_⟩<;>grind [a1X,o9,U0,o7,G8,P7,O9,o5,nxI])
  (λt ht=>by simp[a1X,o9,L6])
 have hx:∀p,p∈b.2↔∃q,Dy n B q/\pcN q.1+(k+1)=n/\p=ptI q:=λp=>by refine⟨h2.xm p,?_⟩;rintro⟨q,hq,hk,rfl⟩;obtain⟨i,hi,hb⟩:=(Vs hn hq.1.1).2.2 l7;have hu:=(b2l hq hi hb).1;have hc:=a8w hq.1 hb;have hpc:=a4x (a:=(upP q i).1) (uZ hn hu.1).1 l7 a5k;have he:clr (upP q i).1 i=q.1:=congrArg Prod.fst hc;rw[he]at hpc;have hm:=(h.lm _).2 ⟨_,hu,l7,rfl⟩;obtain⟨j,hj,hj2⟩:=Y5 hm;have:=h2.dn (upP q i) i ⟨j,hj,by simp_all⟩ a5k (by simp_all);simp_all
 refine⟨b.1,b.2,h1,h2.kn,λp=>?_,h2.xn,hx⟩;rw[h2.km]
 grind
theorem c2i:∀(d:Nat) {q:Pt},Dy n B q->pcN q.1+(k+d)=n->∃q',Dy n B q' /\pcN q'.1+k=n
 |0,q,hq,h=>⟨q,hq,h⟩|d+1,q,hq,h=>by obtain⟨i,hi,hb⟩:=(Vs hn hq.1.1).2.2 l7;have hu:=(b2l hq hi hb).1;have hpc:=a4x (a:=(upP q i).1) (uZ hn hu.1).1 (show i<8 by omega) a5k;have he:clr (upP q i).1 i=q.1:=congrArg Prod.fst (a8w hq.1 hb);rw[he]at hpc;exact c2i d hu l7
theorem b4V{K L:List (Int×Int)}(h:AmO n B 0 K L):∃K',X8 (b1g (n:Int)) (tm K,L)=some (tm K')/\K'.Nodup/\∀p,p∈K' ↔∃q,Dy n B q/\p=ptI q:=by
 obtain⟨e,h1,K',rfl,h2,h3⟩:=cu (f:=b1g (n:Int)) (λs=>∃k K L,s=(tm K,L)/\AmO n B k K L) (λe=>∃K',e=tm K' /\K'.Nodup/\∀p,p∈K' ↔∃q,Dy n B q/\p=ptI q)
  (λs=>c3J s.2) ⟨0,K,L,rfl,h⟩ (by
   cases L with
   |nil=>show 0<_;omega|cons p L=>
    obtain⟨q,hq,hk,rfl⟩:=(h.lm p).1 x9;show pcN q.1+1<_;omega) (by
   rintro s ⟨k,K,L,rfl,h⟩;cases L with
   |nil=>
    refine .inr ⟨tm K,rfl,K,rfl,h.kn,λp=>?_⟩;rw[h.km];constructor
    .grind
    .rintro⟨q,a,b⟩;refine⟨q,a,?_,b⟩;apply Nat.le_of_not_lt;intro hh;obtain⟨q',c1,c2⟩:=c2i (k:=k) hn (n -pcN q.1 -k) a l7;have:=(h.lm (ptI q')).2 ⟨q',c1,c2,rfl⟩;simp_all
   |cons p L=>
    left;obtain⟨K',X,e,h'⟩:=c3I hn h;refine⟨(tm K',X),?_,⟨k+1,K',X,rfl,h'⟩,?_⟩
    .simp_all [b1g,o9,U0]
    .obtain⟨q,hq,hk,rfl⟩:=(h.lm p).1 x9;show c3J X<pcN q.1+1;cases X with
     |nil=>show 0<_;omega
     |cons p' X=>obtain⟨q',hq',hk',rfl⟩:=(h'.lm p').1 x9;show pcN q'.1+1<_;omega)
 grind
end
theorem a3B{α β:Type} :∀(ys:List (α×β)) (x:List α),x.length+ys.length<=1073741824->Ag (λ(e:α×β) (x:List α)=>o5 (fE x [e.1]) λ(x:List α)=>some x) ys x=some (x++ys.map (·.1))
 |[],x,_=>by simp[Ag]|e::ys,x,h=>by simp at h;unfold Ag;rw[vG U3,o8,o8,a3B ys (x++[e.1]) U3];simp
variable {n:Nat}
theorem a5E{es ys:List ((Int×Int)×Bool)}(h:a5s n es)(hp:ys.Perm es):AmO n (Zp n es) 0 (es.map (·.1)) (ys.map (·.1)):=by
 obtain⟨hn,hnd,hes⟩:=h;have key:∀p,p∈es.map (·.1)↔∃q,Dy n (Zp n es) q/\pcN q.1+0=n/\p=ptI q:=λp=>by
  constructor
  .intro hm;obtain⟨e,he,rfl⟩:=J6.1 hm;obtain⟨h1,b,hb,h2⟩:=hes e he;refine⟨(2^n -1,b),⟨⟨l7,?_⟩,λx hx hm' =>?_⟩,c4W hn,h2⟩
   .simp_all [qL]
   .rw[iy,qL hx]at hm';subst hm';show ptI (2^n -1,x)∈_;simp_all
  .rintro⟨q,hq,hk,rfl⟩;have e1:=(Vs hn hq.1.1).2.1 l7;have:=hq.2 q.2 (b2m hq.1) hq.1.2;show((q.1:Int),(q.2:Int))∈_;rw[e1];exact this
 refine⟨hnd,λp=>?_,((hp.map (·.1)).nodup_iff).2 hnd,λp=>?_⟩
 .rw[key];constructor
  .grind
  .rintro⟨q,a,b,c⟩;exact⟨q,a,by have:=(Vs hn a.1.1).1;omega,c⟩
 grind
variable {es:List ((Int×Int)×Bool)}
theorem c0U(h:a5s n es):es.length<=65536:=by
 have:=a0s h.2.1 λp hp=>by obtain⟨e,he,rfl⟩:=J6.1 hp;obtain⟨_,b,hb,e2⟩:=h.2.2 e he;exact⟨_,Q_ h.1 l7,Q_ h.1 hb,e2⟩
 simp_all
theorem b9V{m:Int}(h:∃z,Xx (es,m) z):Fh es m=some True:=by obtain⟨z,n,hm,hpre,-⟩:=h;have hm:m=n:=hm;subst hm;rw[b9U];refine a3J ⟨es,.refl _⟩ λys hys=>?_;have hlen:es.length<=65536:=c0U hpre;have hl2:=hys.length_eq;rw[a3B ys [] U3,o8,P6];have htm:es=tm (es.map (·.1)):=b9B λe he=>(hpre.2.2 e he).1;obtain⟨K',h1,h2,h3⟩:=b4V hpre.1 (a5E hpre hys);rw[←htm]at h1;rw[h1,o8];refine congrArg some (eq_true ⟨n,rfl,hpre,by rw[Ov];exact h2,b0L,λp=>?_⟩);rw[Ov];exact h3 p
theorem c7H(h:a5s n es):∃z,Xx (es,(n:Int)) z:=by obtain⟨K',-,h2,h3⟩:=b4V h.1 (a5E h (.refl es));exact⟨tm K',n,rfl,h,by rw[Ov];exact h2,b0L,λp=>by rw[Ov];exact h3 p⟩
end Go.GP
namespace Go.GP
open Gt
set_option maxRecDepth 100000
def Prm(n:Nat)(B:Nat->Prop)(q:Pt):Prop:=Dy n B q/\∀i,i<n->q.1.testBit i=true->¬Dy n B (Jr q i)
def a3F(n:Nat)(B:Nat->Prop)(p:Int×Int):Prop:=∃q,Prm n B q/\p=ptI q
theorem b6S{n:Nat}{B:Nat->Prop}(hn:n<=8){x:Nat} :∀(d:Nat) {q:Pt},pcN q.1<=d->Dy n B q->x&&& q.1=q.2->∃q',Prm n B q' /\x&&& q'.1=q'.2
 |d,q,hd,hq,hm=>by
  by_cases hp:∀i,i<n->q.1.testBit i=true->¬Dy n B (Jr q i)
  .exact⟨q,⟨hq,hp⟩,hm⟩
  .obtain⟨i,hp⟩:=Classical.not_forall.1 hp;obtain⟨hi,hp⟩:=Classical.not_imp.1 hp;obtain⟨hb,hp⟩:=Classical.not_imp.1 hp;have hc:=Classical.not_not.1 hp;have h1:=a4x (Q_ hn hq.1.1) (show i<8 by omega) hb;cases d with
   |zero=>omega|succ d=>exact b6S hn d (q:=Jr q i) (by show pcN (clr q.1 i)<=d;omega) hc ((a4q hq.1 hb x).2 (.inl hm))
theorem a9G{xs ys:List (Int×Int)}(h:xs.Perm ys):(xs.mergeSort λx y=> !(ltP y x))=ys.mergeSort λx y=> !(ltP y x):=by
 grind [a2H,R_,List.Perm.eq_of_pairwise,List.pairwise_mergeSort,List.mergeSort_perm,a2G]
def a2Z(a0:List (D7×Bool))(a1:Int)(e:D7×Bool)(x:Bool×Int):Option ((Bool×Int)⊕Bool):=
 l9 (F7 x.2 a1)
  (o5 (zt IntKind.i64 1 x.2) λ(x_1:Int)=>o5 (zt IntKind.i64 1 x.2) λ(x_2:Int)=>
   l9 (G6 (fF (x8 (wo IntKind.i64 e.1.1 x_1) e.1.1) (x8 (wo IntKind.i64 e.1.2 x_2) e.1.2)))
    (l9 (Pv (λ(a b:D7)=>fF (x8 a.1 b.1) (x8 a.2 b.2)) a0 (wo IntKind.i64 e.1.1 x_1,wo IntKind.i64 e.1.2 x_2) false)
     (some (Sum.inl (false,A8 IntKind.i64 x.2 1))) (some (Sum.inl (x.1,A8 IntKind.i64 x.2 1))))
    (some (Sum.inl (x.1,A8 IntKind.i64 x.2 1))))
  (some (Sum.inr x.1))
def c2y(a0:List (D7×Bool))(a1:Int)(e:D7×Bool)(x:List D7):Option (List D7):=
 o5 (X8 (a2Z a0 a1 e) (true,0)) λ(y:Bool)=>l9 y (o5 (fE x [e.1]) λ(x:List D7)=>some x) (some x)
theorem b4e(a0:List (D7×Bool))(a1:Int):Bi a0 a1=Ws (λ(ys:List (D7×Bool))=>List.Perm ys a0) λ(ys:List (D7×Bool))=>
  o5 (Ag (c2y a0 a1) ys []) λ(x1:List D7)=>o5 (IX x1 PUnit.unit) λ(x:List D7)=>some x:=rfl
section
variable {n:Nat} {B:Nat->Prop} (hn:n<=8)
include hn
theorem c4Y{K:List (Int×Int)}(hk:∀p,p∈K↔∃q,Dy n B q/\p=ptI q){q:Pt}(hq:Dy n B q)(b:Bool):∃y,X8 (a2Z (tm K) (n:Int) (ptI q,b)) (true,0)=some y/\(y=true↔Prm n B q):=by
 obtain⟨l1,l2⟩:=uZ hn hq.1;obtain⟨y,h1,h2⟩:=zx (List.range n) (λ(t:Bool) (i:Int)=>(t,i)) (λt=>t) (λi t=>t=true↔∀i',i' <i->q.1.testBit i' =true->¬Dy n B (Jr q i')) (f:=a2Z (tm K) (n:Int) (ptI q,b)) (by grind)
  ⟨λ_ i hi=>by omega,λ_=>rfl⟩
  (λi a t hi ht=>by
   have hi' :i<n:=by grind
   have e1:wo IntKind.i64 (ptI q,b).1.1 ((2^i:Nat):Int)=((clr q.1 i:Nat):Int):=YD l1 l7;have e2:wo IntKind.i64 (ptI q,b).1.2 ((2^i:Nat):Int)=((clr q.2 i:Nat):Int):=YD l2 l7;unfold a2Z;rw[show F7 (t,(i:Int)).2 (n:Int)=true from U0 l7,o7];rw[show zt IntKind.i64 1 (t,(i:Int)).2=_ from a4W l7,o8,o8,e1,e2,show A8 IntKind.i64 (t,(i:Int)).2 1=_ from nxI l7];cases hb:q.1.testBit i
   .have f1:x8 ((clr q.1 i:Nat):Int) (ptI q,b).1.1=true:=L8 (by rw[ZO hb]);have f2:x8 ((clr q.2 i:Nat):Int) (ptI q,b).1.2=true:=L8 (by rw[ZO (a7l hq.1 hb)]);rw[f1,f2];refine⟨t,rfl,ht.trans ⟨λh i' h1 h2=>?_,λh i' h1 h2=>h i' l7 h2⟩⟩<;>grind
   .have f1:x8 ((clr q.1 i:Nat):Int) (ptI q,b).1.1=false:=I4 (λe=>by
     have e:clr q.1 i=q.1:=by grind
     grind [Gs])
    rw[f1];show ∃b',l9 (Pv _ (tm K) (ptI (Jr q i)) false) _ _=_/\_;by_cases hm:ptI (Jr q i)∈K
    .rw[b2I GG hm];refine⟨false,rfl,(λh=>by grind),λh=>?_⟩;obtain⟨r,hr,e⟩:=(hk _).1 hm<;>grind [KO]
    .rw[a5i GG hm];refine⟨t,rfl,ht.trans ⟨λh i' h1 h2=>?_,λh i' h1 h2=>h i' l7 h2⟩⟩<;>grind)
  (λt ht=>by
   grind [a2Z,L6,o6])
 refine⟨y,h1,h2.trans ?_⟩;rw[Y3];exact⟨λh=>⟨hq,h⟩,λh=>h.2⟩
open Classical in
theorem a9D{K:List (Int×Int)}(hk:∀p,p∈K↔∃q,Dy n B q/\p=ptI q):∀(ys:List ((Int×Int)×Bool)) (x:List (Int×Int)),(∀e∈ys,e.1∈K)->x.length+ys.length<=1000000->
  Ag (c2y (tm K) (n:Int)) ys x=some (x++(ys.map (·.1)).filter λp=>decide (a3F n B p))
 |[],x,_,_=>by simp[Ag]|e::ys,x,h,hl=>by
  simp only[H7]at hl;obtain⟨q,hq,he⟩:=(hk e.1).1 (h e x9);obtain⟨p,b⟩:=e;have he:p=ptI q:=he;subst he;obtain⟨y,h1,h2⟩:=c4Y hn hk hq b;have hi:a3F n B (ptI q)↔Prm n B q:=⟨λ⟨r,hr,e⟩=>by rw[KO e];exact hr,λh=>⟨q,h,rfl⟩⟩;unfold Ag;show o5 (o5 (X8 (a2Z (tm K) (n:Int) (ptI q,b)) (true,0)) _) _=_;rw[h1,o8,aS,fG];cases y
  .have:¬a3F n B (ptI q):=λhh=>by have:=h2.2 (hi.1 hh);cases this
   rw[decide_eq_false this,o6,o8,a9D hk ys x (λe he=>h e (by simp[he])) l7];rfl
  .have:a3F n B (ptI q):=hi.2 (h2.1 rfl);rw[decide_eq_true this,o7,vG U3,o8,o8,a9D hk ys _ (λe he=>h e (by simp[he])) U3];simp
open Classical in
theorem b4f{z0:List ((Int×Int)×Bool)}(h0:Ze n B z0):∃R:List (Int×Int),R.Nodup/\(∀p,p∈R↔a3F n B p)/\∀z,Ze n B z->Bi z (n:Int)=some R:=by
 have hz:∀z,Ze n B z->z.length<=65536:=λz h=>by
  have:=a0s h.1 λp hp=>by obtain⟨q,hq,e⟩:=(h.2.2 p).1 hp;exact⟨q,(uZ hn hq.1).1,(uZ hn hq.1).2,e⟩
  simpa using this
 refine⟨((z0.map (·.1)).filter λp=>decide (a3F n B p)).mergeSort λx y=> !(ltP y x),?_,λp=>?_,λz h=>?_⟩
 .exact((nz _ _).nodup_iff).2 (h0.1.filter _)
 .rw[(nz _ _).mem_iff,Y0,decide_eq_true_iff];exact⟨λh=>h.2,λh=>⟨(h0.2.2 p).2 (by obtain⟨q,hq,e⟩:=h;exact⟨q,hq.1,e⟩),h⟩⟩
 .rw[b4e];refine a3J ⟨z,.refl _⟩ λys hys=>?_;have hl:=hz z h;have hl2:=hys.length_eq;have htm:z=tm (z.map (·.1)):=b9B h.2.1;have hw:=a9D hn (K:=z.map (·.1)) h.2.2 ys [] (λe he=>J6.2 ⟨e,hys.mem_iff.1 he,rfl⟩) U3;rw[←htm]at hw;rw[hw,o8,P6];have hp:((ys.map (·.1)).filter λp=>decide (a3F n B p)).Perm ((z0.map (·.1)).filter λp=>decide (a3F n B p)):=by
   refine List.Perm.filter _ ((hys.map (·.1)).trans ?_);exact(kW h.1 h0.1).2 λp=>(h.2.2 p).trans (h0.2.2 p).symm
  have hg:(((ys.map (·.1)).filter λp=>decide (a3F n B p)).all GY)=true:=by rw[kG];intro p hp';obtain⟨q,hq,rfl⟩:=of_decide_eq_true (Y0.1 hp').2;have:=(uZ hn hq.1.1).1;show(decide ((0:Int)<=(q.1:Int))&&decide ((q.1:Int)<256))=true;rw[A7,decide_eq_true_iff,decide_eq_true_iff];omega
  unfold IX;rw[if_pos ⟨by exact ay (ay (dZ _ _) (Nat.le_of_eq (J4 ..))) (show ys.length<=1073741824 by omega),hg⟩,o8,a9G hp]
end
end Go.GP
namespace Go.GP
open Gt
set_option maxRecDepth 100000
def mnA(a0:d4D)(x_1:Int)(x:List (Int×Bool)×List (D7×Bool)×Int):Option ((List (Int×Bool)×List (D7×Bool)×Int)⊕(List (Int×Bool)×List (D7×Bool))):=
 l9 (F7 x.2.2 (o9 a0))
  (o5 (H9 a0 x.2.2) λ(x_2:Int)=>
   l9 (S9 0 x_2)
    (l9 (F7 x_2 x_1)
     (some (Sum.inl (SG (λ(a b:Int)=>x8 a b) x.1 x_2 true,SG (λ(a b:D7)=>fF (x8 a.1 b.1) (x8 a.2 b.2)) x.2.1 (I8 IntKind.i64 x_1 1,x_2) true,A8 IntKind.i64 x.2.2 1)))
     (some (Sum.inl (x.1,x.2.1,A8 IntKind.i64 x.2.2 1))))
    (some (Sum.inl (x.1,x.2.1,A8 IntKind.i64 x.2.2 1))))
  (some (Sum.inr (x.1,x.2.1)))
def mnC(x_1:Int)(x:D7)(x_4:List (Int×Bool)×Bool×Int):Option ((List (Int×Bool)×Bool×Int)⊕(List (Int×Bool)×Bool)):=
 l9 (F7 x_4.2.2 x_1)
  (l9 (Pv (λ(a b:Int)=>x8 a b) x_4.1 x_4.2.2 false)
   (o5 (nV x x_4.2.2) λ(x:Bool)=>
    l9 x (some (Sum.inl (Yw (λ(a b:Int)=>x8 a b) x_4.1 x_4.2.2,true,A8 IntKind.i64 x_4.2.2 1)))
     (some (Sum.inl (x_4.1,x_4.2.1,A8 IntKind.i64 x_4.2.2 1))))
   (some (Sum.inl (x_4.1,x_4.2.1,A8 IntKind.i64 x_4.2.2 1))))
  (some (Sum.inr (x_4.1,x_4.2.1)))
def mnB(x_1:Int)(x:List D7)(x_2:List (Int×Bool)×List D7×Int):Option ((List (Int×Bool)×List D7×Int)⊕List D7):=
 l9 (F7 x_2.2.2 (o9 x))
  (o5 (H9 x x_2.2.2) λ(x_3:D7)=>o5 (P7 x (O9 x_2.2.2)) λ(x:D7)=>
   o5 (X8 (mnC x_1 x) (x_2.1,false,0)) λ(y:List (Int×Bool)×Bool)=>
    l9 y.2 (o5 (fE x_2.2.1 [x]) λ(x:List D7)=>some (Sum.inl (y.1,x,A8 IntKind.i64 x_2.2.2 1)))
     (some (Sum.inl (y.1,x_2.2.1,A8 IntKind.i64 x_2.2.2 1))))
  (some (Sum.inr x_2.2.1))
theorem c4B(a0:d4D)(a1:Int):yg a0 a1=o5 (Af a1) λ(x:Int)=>o5 (zt IntKind.i64 1 x) λ(x_1:Int)=>
  o5 (X8 (mnA a0 x_1) ([],[],0)) λ(y:List (Int×Bool)×List (D7×Bool))=>Ws (Xx (y.2,x)) λ(a:List (D7×Bool))=>
   o5 (Bi a x) λ(x:List D7)=>o5 (X8 (mnB x_1 x) (y.1,[],0)) λ(y:List D7)=>some y:=rfl
theorem b3f:∀n:Fin 9,Af (n.val:Int)=some (n.val:Int):=by decide+kernel
section
variable {n:Nat} (hn:n<=8)
include hn
abbrev ptF(n:Nat)(x:Int):Int×Int:=(((2^n -1:Nat):Int),x)
omit hn in
theorem b2k{x y:Int}(h:ptF n x=ptF n y):x=y:=(Prod.mk.inj h).2
theorem c4E{a0:d4D}(ha:a0.length<=1000000):∃W:d4D,X8 (mnA a0 ((2^n:Nat):Int)) ([],[],0)=some (tm W,tm (W.map (ptF n)))/\W.Nodup/\W.length<=a0.length/\∀x,x∈W↔x∈a0/\0<=x/\x<((2^n:Nat):Int):=by
 have hp:(1:Int)<=((2^n:Nat):Int)/\((2^n:Nat):Int)<=256:=by have h1:=Nat.two_pow_pos n;have h2:2^n<=2^8:=fD E5 hn;omega
 have hs:I8 IntKind.i64 ((2^n:Nat):Int) 1=((2^n -1:Nat):Int):=by
  show IntKind.wrap .i64 (((2^n:Nat):Int) -1)=_
  grind [lY,iq]
 obtain⟨W,h1,h2,h3,h4⟩:=zx a0 (λ(W:d4D) (i:Int)=>(tm W,tm (W.map (ptF n)),i)) (λW=>(tm W,tm (W.map (ptF n)))) (λi W=>W.Nodup/\W.length<=i/\∀x,x∈W↔x∈a0.take i/\0<=x/\x<((2^n:Nat):Int)) (f:=mnA a0 ((2^n:Nat):Int)) (b:=[]) ha
  ⟨x9,x9,x9⟩
  (λi v W hi ⟨t1,t2,t3⟩=>by
   have hi' :=(U8.1 hi).1;have htk:∀x,x∈a0.take (i+1)↔x∈a0.take i\/x=v:=λx=>by simp_all [lT]
   unfold mnA;rw[show F7 (tm W,tm (W.map (ptF n)),(i:Int)).2.2 (o9 a0)=true from U0 (by show(i:Int)<(a0.length:Int);omega),o7];rw[show H9 a0 (tm W,tm (W.map (ptF n)),(i:Int)).2.2=_ from G8 a0 i,hi,o8,show A8 IntKind.i64 (tm W,tm (W.map (ptF n)),(i:Int)).2.2 1=_ from nxI (i:=i) l7,hs];by_cases g1:0<=v
   .rw[ae g1,o7];by_cases g2:v<((2^n:Nat):Int)
    .rw[U0 g2,o7];by_cases g3:v∈W
     .refine⟨W,?_,t1,l7,λx=>?_⟩<;>simp_all [Un,UJ,GG]
     .refine⟨W++[v],?_,?_,by simp_all,λx=>?_⟩
      .simp_all [Oz,UJ,GG]
      .grind
      grind
    grind [L6,o6]
   grind [aC,o6])
  (λW h=>by simp[mnA,o9,L6])
 exact⟨W,h1,h2,h3,λx=>by simp_all⟩
theorem c4F{q:Pt}(hq:PD n q){W:d4D}(hW:W.Nodup)(hr:∀x∈W,0<=x/\x<((2^n:Nat):Int)):
  ∃W' b,X8 (mnC ((2^n:Nat):Int) (ptI q)) (tm W,false,0)=some (tm W',b)/\W'.Nodup/\(∀x,x∈W' ↔x∈W/\x.toNat&&& q.1≠q.2)/\(if b=true then W'.length+1<=W.length else W'.length<=W.length)/\(b=false->W' =W):=by
 obtain⟨l1,l2⟩:=uZ hn hq;have hp:2^n<=256:=fD (n:=2) E5 hn;obtain⟨t,h1,h2,h3,h4,h5⟩:=zx (List.range (2^n)) (λ(t:d4D×Bool) (i:Int)=>(tm t.1,t.2,i)) (λt=>(tm t.1,t.2)) (λi t=>t.1.Nodup/\(∀x,x∈t.1↔x∈W/\(x<(i:Int)->x.toNat&&& q.1≠q.2))/\(if t.2=true then t.1.length+1<=W.length else t.1.length<=W.length)/\(t.2=false->t.1=W)) (f:=mnC ((2^n:Nat):Int) (ptI q)) (b:=(W,false)) (by rw[Y3];omega)
  ⟨hW,λx=>⟨λh=>⟨h,λhx=>by have:=(hr x h).1;omega⟩,λh=>h.1⟩,x9,λ_=>rfl⟩
  (λi a t hi ⟨t1,t2,t3,t4⟩=>by
   have hi' :i<2^n:=by have:=(U8.1 hi).1;simpa using this
   have hM:nV (ptI q) (i:Int)=some (x8 ((i&&& q.1:Nat):Int) (q.2:Int)):=by show some (x8 (dI IntKind.i64 (i:Int) (q.1:Int)) (q.2:Int))=_;rw[c3K l7 l1]
   unfold mnC;rw[show F7 (tm t.1,t.2,(i:Int)).2.2 ((2^n:Nat):Int)=true from U0 (by show(i:Int)<((2^n:Nat):Int);omega),o7];rw[show A8 IntKind.i64 (tm t.1,t.2,(i:Int)).2.2 1=_ from nxI (i:=i) l7];show ∃b',l9 (Pv _ (tm t.1) (i:Int) false) (o5 (nV (ptI q) (i:Int)) _) _=_/\_;rw[hM,o8];by_cases g1:(i:Int)∈t.1
   .rw[b2I UJ g1,o7];by_cases g2:i&&& q.1=q.2
    .rw[L8 (by rw[g2]),o7];have hiW:=((t2 _).1 g1).1;refine⟨(t.1.erase (i:Int),true),by rw[show Yw _ (tm t.1,t.2,(i:Int)).1 (tm t.1,t.2,(i:Int)).2.2=_ from b9A UJ (i:Int) t.1],t1.erase _,λx=>?_,?_,λh=>by cases h⟩
     .rw[t1.mem_erase_iff,t2];constructor
      .rintro⟨a1,a2,a3⟩;refine⟨a2,λhx=>a3 ?_⟩;have:x≠(i:Int):=a1;omega
      .rintro⟨a1,a2⟩;refine⟨λe=>?_,a1,λhx=>a2 l7⟩;subst e;exact a2 l7 (by simpa using g2)
     .show(t.1.erase (i:Int)).length+1<=W.length;have e1:(t.1.erase (i:Int)).length=t.1.length -1:=by rw[List.length_erase,if_pos g1]
      have e2:0<t.1.length:=List.length_pos_of_mem g1;have:t.1.length<=W.length:=by revert t3;cases t.2<;>simp<;>omega
      omega
    .rw[I4 (λe=>g2 l7),o6];refine⟨t,rfl,t1,λx=>?_,t3,t4⟩;rw[t2];refine⟨λh=>⟨h.1,λhx=>?_⟩,λh=>⟨h.1,λhx=>h.2 l7⟩⟩;by_cases e:x=(i:Int)
     .subst e;simpa using g2
     .exact h.2 l7
   .rw[a5i UJ g1,o6];refine⟨t,rfl,t1,λx=>?_,t3,t4⟩;refine⟨λh=>⟨((t2 x).1 h).1,λhx=>?_⟩,λh=>(t2 x).2 ⟨h.1,λhx=>h.2 l7⟩⟩;by_cases e:x=(i:Int)
    .subst e;exact absurd h g1
    .exact((t2 x).1 h).2 l7)
  (λt h=>by unfold mnC;rw[show F7 (tm t.1,t.2,((List.range (2^n)).length:Int)).2.2 ((2^n:Nat):Int)=false from L6 (by rw[Y3];exact aW _),o6])
 rw[Y3]at h3;refine⟨t.1,t.2,h1,h2,λx=>?_,h4,h5⟩;rw[h3];exact⟨λh=>⟨h.1,h.2 (hr x h.1).2⟩,λh=>⟨h.1,λ_=>h.2⟩⟩
theorem c4C{a0:d4D}(ha:a0.length<=1000000):∃L:List Pt,yg a0 (n:Int)=some (L.map ptI)/\L.length<=a0.length/\(∀q∈L,PD n q/\∀x,x<2^n->x&&& q.1=q.2->((x:Nat):Int)∈a0)/\
  ∀x:Nat,x<2^n->((x:Nat):Int)∈a0->∃q∈L,x&&& q.1=q.2:=by
 have hp0:=Nat.two_pow_pos n;have hp:2^n<=256:=fD (n:=2) E5 hn;obtain⟨W,hA,hW,hWl,hWm⟩:=c4E hn ha;have hWr:∀x∈W,0<=x/\x<((2^n:Nat):Int):=λx hx=>((hWm x).1 hx).2;have hpre:a5s n (tm (W.map (ptF n))):=by
  refine⟨hn,?_,λe he=>⟨b0L e he,?_⟩⟩
  .rw[Ov];exact a9g _ hW λx _ y _ e=>b2k e
  .obtain⟨k,hk,rfl⟩:=J6.1 he;obtain⟨x,hx,rfl⟩:=J6.1 hk;obtain⟨b1,b2⟩:=hWr x hx;refine⟨x.toNat,l7,?_⟩;show(((2^n -1:Nat):Int),x)=(((2^n -1:Nat):Int),((x.toNat:Nat):Int));rw[Y4 b1]
 have hB:∀x:Nat,x<2^n->(Zp n (tm (W.map (ptF n))) x↔((x:Nat):Int)∈a0):=λx hx=>by
  unfold Zp;rw[Ov];constructor
  .intro h;obtain⟨y,hy,e⟩:=J6.1 h;have:y=((x:Nat):Int):=(Prod.mk.inj e).2;subst this;exact((hWm _).1 hy).1
  .intro h;exact J6.2 ⟨(x:Int),(hWm _).2 ⟨h,l7,l7⟩,rfl⟩
 obtain⟨z0,hz0⟩:=c7H hpre;have hpost:∀z,Xx (tm (W.map (ptF n)),(n:Int)) z->Ze n (Zp n (tm (W.map (ptF n)))) z:=λz ⟨m,e,_,h⟩=>by have e:(n:Int)=(m:Int):=e;have:n=m:=l7;subst this;exact h
 obtain⟨R,hRn,hRm,hR⟩:=b4f hn (hpost z0 hz0);have hRl:R.length<=65536:=a0s hRn λp hp' =>by obtain⟨q,hq,e⟩:=(hRm p).1 hp';exact⟨q,(uZ hn hq.1.1).1,(uZ hn hq.1.1).2,e⟩
 obtain⟨t,h1,h2,h3,h4,h5,h6,h7⟩:=zx R (λ(t:d4D×List Pt) (i:Int)=>(tm t.1,t.2.map ptI,i)) (λt=>t.2.map ptI) (λj t=>t.1.Nodup/\(∀x∈t.1,x∈W)/\t.2.length+t.1.length<=W.length/\(∀q∈t.2,ptI q∈R)/\(∀x∈W,x∈t.1\/∃q∈t.2,x.toNat&&& q.1=q.2)/\∀q,ptI q∈R.take j->∀x∈t.1,x.toNat&&& q.1≠q.2) (f:=mnB ((2^n:Nat):Int) R) (b:=(W,[])) l7
  ⟨hW,λx h=>h,x9,x9,λx h=> .inl h,x9⟩
  (λj p t hj ⟨t1,t2,t3,t4,t5,t6⟩=>by
   have hj' :=(U8.1 hj).1;obtain⟨q,hq,rfl⟩:=(hRm p).1 (lM hj);obtain⟨W',b,e,c1,c2,c3,c4⟩:=c4F hn hq.1.1 t1 (λx hx=>hWr x (t2 x hx));have htk:∀r,r∈R.take (j+1)↔r∈R.take j\/r=ptI q:=λr=>by rw[lT,hj];simp
   have hnew:∀r,ptI r∈R.take (j+1)->∀x∈W',x.toNat&&& r.1≠r.2:=λr hr x hx=>by
    obtain⟨d1,d2⟩:=(c2 x).1 hx;rcases(htk _).1 hr with hr|hr
    .exact t6 r hr x d1
    .rw[KO hr];exact d2
   unfold mnB;rw[show F7 (tm t.1,t.2.map ptI,(j:Int)).2.2 (o9 R)=true from U0 (by show(j:Int)<(R.length:Int);omega),o7];rw[show H9 R (tm t.1,t.2.map ptI,(j:Int)).2.2=_ from G8 R j,hj,o8,show P7 R (O9 (tm t.1,t.2.map ptI,(j:Int)).2.2)=some (ptI q)from by unfold P7 O9;simpa using hj,o8];show ∃b',o5 (X8 (mnC ((2^n:Nat):Int) (ptI q)) (tm t.1,false,0)) _=_/\_;rw[e,o8,show A8 IntKind.i64 (tm t.1,t.2.map ptI,(j:Int)).2.2 1=_ from nxI (i:=j) l7];cases b with
   |false=>have:=c4 rfl;subst this;exact⟨t,rfl,t1,t2,t3,t4,t5,hnew⟩|true=>
    have hl:t.2.length<=256:=by
     have:W.length<=256:=b6p (λx:Int=>x.toNat) hW (λx hx y hy e=>by have:=hWr x hx;have:=hWr y hy;omega) λx hx=>by have:=hWr x hx;omega
     omega
    rw[o7,show fE (tm t.1,t.2.map ptI,(j:Int)).2.1 [ptI q]=some (t.2.map ptI++[ptI q])from vG (by show(t.2.map ptI).length+1<=1073741824;rw[J4];omega),o8];refine⟨(W',t.2++[q]),by rw[aY];rfl,c1,λx hx=>t2 x ((c2 x).1 hx).1,?_,λr hr=>?_,λx hx=>?_,hnew⟩
    .have:W'.length+1<=t.1.length:=c3;show(t.2++[q]).length+W'.length<=_;simp;omega
    .rcases D6.1 hr with hr|hr
     .exact t4 r hr
     .have:r=q:=by simpa using hr
      subst this;exact lM hj
    .rcases t5 x hx with h|⟨r,hr,hm⟩
     .by_cases hm:x.toNat&&& q.1=q.2
      .exact .inr ⟨q,x9,hm⟩
      .exact .inl ((c2 x).2 ⟨h,hm⟩)
     .exact .inr ⟨r,by simp[hr],hm⟩)
  (λt h=>by unfold mnB;rw[show F7 (tm t.1,t.2.map ptI,(R.length:Int)).2.2 (o9 R)=false from L6 (by show o9 R<=(R.length:Int);simp[o9]),o6])
 rw[V7]at h7;have hcov:∀x∈W,∃q,ptI q∈R/\x.toNat&&& q.1=q.2:=λx hx=>by
  obtain⟨b1,b2⟩:=hWr x hx;have hlt:x.toNat<2^n:=l7;have hb0:(x.toNat&&& (2^n -1))=x.toNat:=by rw[iy,qL hlt]
  have hin:Dy n (Zp n (tm (W.map (ptF n)))) (2^n -1,x.toNat):=⟨⟨by show 2^n -1<2^n;omega,hb0⟩,λy hy hm=>by have hm:y&&& (2^n -1)=x.toNat:=hm;rw[iy,qL hy]at hm;subst hm;refine(hB _ hlt).2 ?_;rw[Y4 b1];exact((hWm x).1 hx).1⟩
  obtain⟨q,hq,hm⟩:=b6S hn (x:=x.toNat) _ (D5 _) hin hb0;exact⟨q,(hRm _).2 ⟨q,hq,rfl⟩,hm⟩
 have hnil:∀x,x∉t.1:=λx hx=>by obtain⟨q,hq,hm⟩:=hcov x (h3 x hx);exact h7 q hq x hx hm
 refine⟨t.2,?_,l7,λq hq=>?_,λx hx hx0=>?_⟩
 .rw[c4B,b3f ⟨n,l7⟩,o8,a4W hn,o8,hA,o8];refine a3J ⟨z0,hz0⟩ λz hz=>?_;rw[hR z (hpost z hz),o8,show X8 (mnB ((2^n:Nat):Int) R) ((tm W,tm (W.map (ptF n))).1,[],0)=_ from h1,o8]
 .obtain⟨r,hr,e⟩:=(hRm _).1 (h5 q hq);rw[KO e];exact⟨hr.1.1,λx hx hm=>(hB x hx).1 (hr.1.2 x hx hm)⟩
 .rcases h6 (x:Int) ((hWm _).2 ⟨hx0,l7,l7⟩)with h|⟨q,hq,hm⟩
  .exact absurd h (hnil _)
  .exact⟨q,hq,by simpa using hm⟩
end
end Go.GP
namespace Go.GP
open Gt
set_option maxRecDepth 100000
def apS(a3:d4D)(v:Nat):List Bool:=a3.map λb=>l9 (F7 b 0) true (v.testBit b.toNat)
def coS(a0 a1 a2 a3:d4D)(v:Nat):Int:=l9 (S9 0 (Bg a1 a2 (apS a3 v))) (l9 (F7 (Bg a1 a2 (apS a3 v)) (o9 a0)) ((H9 a0 (Bg a1 a2 (apS a3 v))).getD 0) (Bg a1 a2 (apS a3 v))) (Bg a1 a2 (apS a3 v))
theorem b5i:∀v:Fin 256,∀b:Fin 8,Qd .i64 (v.val:Int) (b.val:Int)=some (dR .i64 (v.val:Int) (b.val:Int))/\x8 (dI .i64 (dR .i64 (v.val:Int) (b.val:Int)) 1) 1=v.val.testBit b.val:=by decide+kernel
theorem c4g{v b:Nat}(hv:v<256)(hb:b<8):Qd .i64 (v:Int) (b:Int)=some (dR .i64 (v:Int) (b:Int))/\x8 (dI .i64 (dR .i64 (v:Int) (b:Int)) 1) 1=v.testBit b:=b5i ⟨v,hv⟩ ⟨b,hb⟩
def coA(a3:d4D)(v:Int)(x:List Bool×Int):Option ((List Bool×Int)⊕List Bool):=
 l9 (F7 x.2 (o9 a3))
  (o5 (H9 a3 x.2) λ(x_3:Int)=>
   l9 (F7 x_3 0)
    (o5 (H9 x.1 x.2) λ(x_4:Bool)=>o5 (P7 x.1 (O9 x.2)) λ(x_5:Bool)=>some (Sum.inl (V8 x.1 (O9 x.2) true,A8 IntKind.i64 x.2 1)))
    (o5 (Qd IntKind.i64 v x_3) λ(x_4:Int)=>o5 (H9 x.1 x.2) λ(x_5:Bool)=>o5 (P7 x.1 (O9 x.2)) λ(x_6:Bool)=>
     some (Sum.inl (V8 x.1 (O9 x.2) (x8 (dI IntKind.i64 x_4 1) 1),A8 IntKind.i64 x.2 1))))
  (some (Sum.inr x.1))
def coB(a0 a1 a2 a3 x:d4D)(x_2:d4D×List Bool×Int):Option ((d4D×List Bool×Int)⊕d4D):=
 l9 (F7 x_2.2.2 (o9 x))
  (o5 (X8 (coA a3 x_2.2.2) (x_2.2.1,0)) λ(y:List Bool)=>
   o5 (qo a1 a2 y) λ(x:Int)=>
    l9 (S9 0 x)
     (l9 (F7 x (o9 a0))
      (o5 (H9 a0 x) λ(x:Int)=>o5 (H9 x_2.1 x_2.2.2) λ(x_3:Int)=>o5 (P7 x_2.1 (O9 x_2.2.2)) λ(x_4:Int)=>
       some (Sum.inl (V8 x_2.1 (O9 x_2.2.2) x,y,A8 IntKind.i64 x_2.2.2 1)))
      (o5 (H9 x_2.1 x_2.2.2) λ(x_3:Int)=>o5 (P7 x_2.1 (O9 x_2.2.2)) λ(x_4:Int)=>
       some (Sum.inl (V8 x_2.1 (O9 x_2.2.2) x,y,A8 IntKind.i64 x_2.2.2 1))))
     (o5 (H9 x_2.1 x_2.2.2) λ(x_3:Int)=>o5 (P7 x_2.1 (O9 x_2.2.2)) λ(x_4:Int)=>
      some (Sum.inl (V8 x_2.1 (O9 x_2.2.2) x,y,A8 IntKind.i64 x_2.2.2 1))))
  (some (Sum.inr x_2.1))
theorem c0d(a0 a1 a2 a3:d4D)(a4:Int):jb a0 a1 a2 a3 a4=o5 (zt IntKind.i64 1 a4) λ(x:Int)=>o5 (lI x 0) λ(x:d4D)=>o5 (lI (o9 a0) false) λ(x_1:List Bool)=>
  o5 (X8 (coB a0 a1 a2 a3 x) (x,x_1,0)) λ(y:d4D)=>some y:=rfl
variable {i:Nat}
theorem JE{α:Type}{l:List α} :P7 l (O9 (i:Int))=l[i]?:=by simp[P7,O9]
theorem Qh{α:Type}{l:List α}{x:α} :V8 l (O9 (i:Int)) x=l.set i x:=by simp[V8,O9]
theorem c4p{a3:d4D}(hl:a3.length<=1000000)(hb:∀b∈a3,b<8){v:Nat}(hv:v<256){y:List Bool}(hy:y.length=a3.length):X8 (coA a3 (v:Int)) (y,0)=some (apS a3 v):=by
 obtain⟨t,h1,h2,h3⟩:=zx a3 (λ(y:List Bool) (i:Int)=>(y,i)) (λy=>y) (λi t=>t.length=a3.length/\∀j,j<i->t[j]? =(apS a3 v)[j]?) (f:=coA a3 (v:Int)) (b:=y) hl ⟨hy,λj hj=>by omega⟩
  (λi b t hi ⟨t1,t2⟩=>by
   have hi' :=(U8.1 hi).1;have hap:(apS a3 v)[i]? =some (l9 (F7 b 0) true (v.testBit b.toNat)):=by simp_all [apS]
   have hti:t[i]? =some (t[i]'l7):=dE l7;have hset:∀z,(apS a3 v)[i]? =some z->(t.set i z).length=a3.length/\∀j,j<i+1->(t.set i z)[j]? =(apS a3 v)[j]?:=λz hz=>⟨by simp_all,λj hj=>by
    grind⟩
   unfold coA;rw[show F7 (t,(i:Int)).2 (o9 a3)=true from U0 (by show(i:Int)<(a3.length:Int);omega),o7];rw[show H9 a3 (t,(i:Int)).2=_ from G8 a3 i,hi,o8];rw[show A8 IntKind.i64 (t,(i:Int)).2 1=_ from nxI (i:=i) l7,show H9 (t,(i:Int)).1 (t,(i:Int)).2=_ from G8 t i,show P7 (t,(i:Int)).1 (O9 (t,(i:Int)).2)=_ from JE (l:=t) (i:=i),hti];by_cases g:b<0
   .simp_all [U0,V8,O9]
   .obtain⟨c,rfl⟩:=nN (show 0<=b by omega);have hc:=hb _ (lM hi)
    grind [c4g,L6,o6,o8,Qh])
  (λt h=>by simp[coA,o9,L6])
 rw[h1];refine congrArg some (aB λj=>?_)<;>grind [apS]
theorem c0e{a0 a1 a2 a3:d4D}{n:Nat}(hn:n<=8)(h0:a3.length=a0.length)(hl:a0.length<=1000000)(hb:∀b∈a3,b<8):jb a0 a1 a2 a3 (n:Int)=some ((List.range (2^n)).map (coS a0 a1 a2 a3)):=by
 have hp:=fD (n:=2) E5 hn;rw[c0d,a4W hn,o8,show lI ((2^n:Nat):Int) (0:Int)=some (List.replicate (2^n) 0)from by grind [lI],o8,show lI (o9 a0) false=some (List.replicate a0.length false)from by grind [lI,o9],o8];have hL:(List.replicate (2^n) (0:Int)).length=2^n:=iM;obtain⟨t,h1,h2,h3,h4⟩:=zx (List.replicate (2^n) (0:Int)) (λ(t:d4D×List Bool) (i:Int)=>(t.1,t.2,i)) (λt=>t.1) (λi t=>t.1.length=2^n/\t.2.length=a3.length/\∀j,j<i->t.1[j]? =some (coS a0 a1 a2 a3 j)) (f:=coB a0 a1 a2 a3 (List.replicate (2^n) 0)) (b:=(List.replicate (2^n) 0,List.replicate a0.length false)) l7
  ⟨hL,by simp_all,λj hj=>by omega⟩
  (λi b t hi ⟨t1,t2,t3⟩=>by
   have hi' :i<2^n:=by grind
   have hti:t.1[i]? =some (t.1[i]'l7):=dE l7;have hset:(t.1.set i (coS a0 a1 a2 a3 i)).length=2^n/\(apS a3 i).length=a3.length/\∀j,j<i+1->(t.1.set i (coS a0 a1 a2 a3 i))[j]? =some (coS a0 a1 a2 a3 j):=⟨by simp_all,by simp[apS],λj hj=>by
    grind⟩
   refine⟨(t.1.set i (coS a0 a1 a2 a3 i),apS a3 i),?_,hset⟩;unfold coB;rw[show F7 (t.1,t.2,(i:Int)).2.2 (o9 (List.replicate (2^n) (0:Int)))=true from U0 (by show(i:Int)<((List.replicate (2^n) (0:Int)).length:Int);omega)];rw[show X8 (coA a3 (t.1,t.2,(i:Int)).2.2) ((t.1,t.2,(i:Int)).2.1,0)=_ from c4p l7 hb l7 t2,o8,Xl,o8];rw[show A8 IntKind.i64 (t.1,t.2,(i:Int)).2.2 1=_ from nxI l7,show H9 (t.1,t.2,(i:Int)).1 (t.1,t.2,(i:Int)).2.2=_ from G8 t.1 i,show P7 (t.1,t.2,(i:Int)).1 (O9 (t.1,t.2,(i:Int)).2.2)=_ from JE];have hs:∀z,V8 (t.1,t.2,(i:Int)).1 (O9 (t.1,t.2,(i:Int)).2.2) z=t.1.set i z:=λz=>Qh
   unfold coS;by_cases g1:0<=Bg a1 a2 (apS a3 i)
   .rw[ae g1,o7];by_cases g2:Bg a1 a2 (apS a3 i)<o9 a0
    .obtain⟨z,hz,_⟩:=qA g1 g2<;>simp_all [U0]
    simp_all [L6]
   simp_all [aC])
  (λt h=>by simp[coB,o9,L6])
 rw[show X8 (coB a0 a1 a2 a3 (List.replicate (2^n) 0)) (List.replicate (2^n) 0,List.replicate a0.length false,0)=_ from h1];refine congrArg some (aB λj=>?_)<;>grind
def rwA(a0:d4D)(x:Int)(x_3:d4D×Int):Option ((d4D×Int)⊕d4D):=
 l9 (F7 x_3.2 (o9 a0))
  (o5 (H9 a0 x_3.2) λ(x_4:Int)=>
   l9 (x8 x_4 x) (o5 (fE x_3.1 [x_3.2]) λ(x:d4D)=>some (Sum.inl (x,A8 IntKind.i64 x_3.2 1))) (some (Sum.inl (x_3.1,A8 IntKind.i64 x_3.2 1))))
  (some (Sum.inr x_3.1))
def rwB(x_3:List D7)(x:Int)(x_4:List bK×Int):Option ((List bK×Int)⊕List bK):=
 l9 (F7 x_4.2 (o9 x_3))
  (o5 (H9 x_3 x_4.2) λ(x_5:D7)=>o5 (P7 x_3 (O9 x_4.2)) λ(x_6:D7)=>
   o5 (fE x_4.1 [(x_6,x)]) λ(x:List bK)=>some (Sum.inl (x,A8 IntKind.i64 x_4.2 1)))
  (some (Sum.inr x_4.1))
noncomputable def rwC (a0:d4D) (a2:Int) (x:d4D) (x_1:List bK×Int):Option ((List bK×Int)⊕List bK):=
 l9 (F7 x_1.2 (o9 x))
  (o5 (H9 x x_1.2) λ(x_2:Int)=>o5 (P7 x (O9 x_1.2)) λ(x:Int)=>
   o5 (X8 (rwA a0 x) ([],0)) λ(y:d4D)=>
    l9 (x8 (o9 y) 0) (some (Sum.inl (x_1.1,A8 IntKind.i64 x_1.2 1)))
     (o5 (yg y a2) λ(x_3:List D7)=>o5 (X8 (rwB x_3 x) (x_1.1,0)) λ(y:List bK)=>some (Sum.inl (y,A8 IntKind.i64 x_1.2 1))))
  (some (Sum.inr x_1.1))
theorem c1l(a0 a1:d4D)(a2:Int):uN a0 a1 a2=o5 (fE [-2,-1] a1) λ(x:d4D)=>o5 (X8 (rwC a0 a2 x) ([],0)) λ(y:List bK)=>some y:=rfl
variable {a0:d4D}
theorem c5f(hl:a0.length<=1000000)(o:Int):∃y,X8 (rwA a0 o) ([],0)=some y/\y.length<=a0.length/\∀z,z∈y↔∃j:Nat,z=(j:Int)/\a0[j]? =some o:=by
 obtain⟨y,h1,h2,h3⟩:=zx a0 (λ(y:d4D) (i:Int)=>(y,i)) (λy=>y) (λi y=>y.length<=i/\∀z,z∈y↔∃j:Nat,j<i/\z=(j:Int)/\a0[j]? =some o) (f:=rwA a0 o) (b:=[]) hl ⟨x9,x9⟩
  (λi b y hi ⟨t1,t2⟩=>by
   have hi' :=(U8.1 hi).1;unfold rwA;rw[show F7 (y,(i:Int)).2 (o9 a0)=true from U0 (by show(i:Int)<(a0.length:Int);omega),o7];rw[show H9 a0 (y,(i:Int)).2=_ from G8 a0 i,hi,o8,show A8 IntKind.i64 (y,(i:Int)).2 1=_ from nxI (i:=i) l7];by_cases g:b=o
   .rw[L8 g,o7,show fE (y,(i:Int)).1 [(y,(i:Int)).2]=some (y++[(i:Int)])from vG (by show y.length+1<=_;omega),o8];refine⟨y++[(i:Int)],rfl,by simp;omega,λz=>?_⟩;rw[D6,t2];constructor
    .rintro(⟨j,c1,c2⟩|hz)
     .exact⟨j,l7,c2⟩
     .exact⟨i,l7,by simpa using hz,by rw[hi,g]⟩
    .rintro⟨j,c1,c2,c3⟩;by_cases e:j=i
     .subst e;exact .inr (by simp[c2])
     .exact .inl ⟨j,l7,c2,c3⟩
   .rw[I4 g,o6];refine⟨y,rfl,l7,λz=>?_⟩;rw[t2];constructor
    .rintro⟨j,c1,c2⟩;exact⟨j,l7,c2⟩
    .rintro⟨j,c1,c2,c3⟩;by_cases e:j=i
     .subst e;rw[hi]at c3;exact absurd (F8 c3) g
     .exact⟨j,l7,c2,c3⟩)
  (λy h=>by unfold rwA;rw[show F7 (y,(a0.length:Int)).2 (o9 a0)=false from L6 (by show o9 a0<=(a0.length:Int);simp[o9]),o6])
 refine⟨y,h1,h2,λz=>?_⟩;rw[h3];exact⟨λ⟨j,_,h⟩=>⟨j,h⟩,λ⟨j,e,h⟩=>⟨j,(U8.1 h).1,e,h⟩⟩
theorem c5g{L:List (Int×Int)}(hl:L.length<=1000000)(o:Int)(acc:List bK)(ha:acc.length<=1000000):X8 (rwB L o) (acc,0)=some (acc++L.map λp=>(p,o)):=by
 obtain⟨y,h1,h2⟩:=zx L (λ(y:List bK) (i:Int)=>(y,i)) (λy=>y) (λi y=>y=acc++(L.take i).map λp=>(p,o)) (f:=rwB L o) (b:=acc) hl x9
  (λi p y hi t1=>by
   have hi' :=(U8.1 hi).1;refine⟨y++[(p,o)],?_,?_⟩
   .have hy:y.length<=2000000:=by rw[t1,J9,J4,bH];omega
    unfold rwB;rw[show F7 (y,(i:Int)).2 (o9 L)=true from U0 (by show(i:Int)<(L.length:Int);omega),o7];rw[show H9 L (y,(i:Int)).2=_ from G8 L i,hi,o8,show P7 L (O9 (y,(i:Int)).2)=_ from JE (l:=L) (i:=i),hi,o8,show fE (y,(i:Int)).1 [(p,o)]=some (y++[(p,o)])from vG (by show y.length+1<=_;omega),o8,show A8 IntKind.i64 (y,(i:Int)).2 1=_ from nxI (i:=i) l7]
   .rw[t1,lT,hi];simp)
  (λy h=>by unfold rwB;rw[show F7 (y,(L.length:Int)).2 (o9 L)=false from L6 (by show o9 L<=(L.length:Int);simp[o9]),o6])
 rw[h1,h2,V7]
def a8i(n:Nat)(a0:d4D)(r:bK):Prop:=∃q:Pt,r.1=ptI q/\PD n q/\∀v,v<2^n->v&&& q.1=q.2->a0[v]? =some r.2
theorem c1m{a0 a1:d4D}{n:Nat}(hn:n<=8)(h0:a0.length=2^n)(h1:a1.length<=1000):∃rs:List bK,uN a0 a1 (n:Int)=some rs/\rs.length<=(a1.length+2)*256/\
  (∀r∈rs,a8i n a0 r/\r.2∈[-2,-1]++a1)/\∀v o,a0[v]? =some o->o∈[-2,-1]++a1->∃r∈rs,r.2=o/\∃q:Pt,r.1=ptI q/\v&&& q.1=q.2:=by
 have hp:2^n<=256:=fD (n:=2) E5 hn;rw[c1l,vG U3,o8];have hX:([-2,-1]++a1).length=a1.length+2:=x9;obtain⟨rs,g1,g2,g3,g4⟩:=zx ([-2,-1]++a1) (λ(t:List bK) (i:Int)=>(t,i)) (λt=>t) (λi t=>t.length<=i*256/\(∀r∈t,a8i n a0 r/\r.2∈[-2,-1]++a1)/\∀v o,a0[v]? =some o->o∈([-2,-1]++a1).take i->∃r∈t,r.2=o/\∃q:Pt,r.1=ptI q/\v&&& q.1=q.2) (f:=rwC a0 (n:Int) ([-2,-1]++a1)) (b:=[]) l7
  ⟨x9,x9,x9⟩
  (λi o t hi ⟨t1,t2,t3⟩=>by
   have hi' :=(U8.1 hi).1;have htk:∀z,z∈([-2,-1]++a1).take (i+1)↔z∈([-2,-1]++a1).take i\/z=o:=λz=>by rw[lT,hi];simp
   obtain⟨y,e1,e2,e3⟩:=c5f (a0:=a0) l7 o;have hlt:∀v w,a0[v]? =some w->v<2^n:=λv w hv=>by have:=(U8.1 hv).1;omega
   unfold rwC;rw[show F7 (t,(i:Int)).2 (o9 ([-2,-1]++a1))=true from U0 (by show(i:Int)<(([-2,-1]++a1).length:Int);omega),o7];rw[show H9 ([-2,-1]++a1) (t,(i:Int)).2=_ from G8 ([-2,-1]++a1) i,hi,o8,show P7 ([-2,-1]++a1) (O9 (t,(i:Int)).2)=_ from JE (l:=[-2,-1]++a1) (i:=i),hi,o8,e1,o8,show A8 IntKind.i64 (t,(i:Int)).2 1=_ from nxI (i:=i) l7];by_cases gy:y=[]
   .subst gy;refine⟨t,rfl,l7,t2,λv w hv hw=>?_⟩;rcases(htk w).1 hw with hw|rfl
    .exact t3 v w hv hw
    .exact absurd ((e3 _).2 ⟨v,rfl,hv⟩) x9
   .have hy:x8 (o9 y) 0=false:=I4 (λe=>gy (P5.1 (by unfold o9 at e;omega)));obtain⟨L,m1,m2,m3,m4⟩:=c4C hn (a0:=y) l7;rw[hy,o6,m1,o8,show X8 (rwB (L.map ptI) o) ((t,(i:Int)).1,0)=some (t++(L.map ptI).map λp=>(p,o))from c5g U3 o t l7,o8];refine⟨t++(L.map ptI).map λp=>(p,o),rfl,by simp;omega,λr hr=>?_,λv w hv hw=>?_⟩
    .rcases D6.1 hr with hr|hr
     .exact t2 r hr
     .obtain⟨p,hp',rfl⟩:=J6.1 hr;obtain⟨q,hq,rfl⟩:=J6.1 hp';obtain⟨c1,c2⟩:=m3 q hq;refine⟨⟨q,rfl,c1,λv hv hm=>?_⟩,lM hi⟩;obtain⟨j,ej,hj⟩:=(e3 _).1 (c2 v hv hm);have:v=j:=l7;subst this;exact hj
    .rcases(htk w).1 hw with hw|rfl
     .obtain⟨r,hr,h⟩:=t3 v w hv hw;exact⟨r,D6.2 (.inl hr),h⟩
     .obtain⟨q,hq,hm⟩:=m4 v (hlt v _ hv) ((e3 _).2 ⟨v,rfl,hv⟩);exact⟨(ptI q,w),D6.2 (.inr (J6.2 ⟨ptI q,J6.2 ⟨q,hq,rfl⟩,rfl⟩)),rfl,q,rfl,hm⟩)
  (λt h=>by unfold rwC;generalize ([-2,-1]++a1)=X;rw[show F7 (t,(X.length:Int)).2 (o9 X)=false from L6 (by show o9 X<=(X.length:Int);exact aW _),o6])
 rw[V7]at g4;rw[hX]at g2;exact⟨rs,by rw[g1,o8],g2,g3,g4⟩
theorem b0m{a b:List (Int×Int)}(h:a.length<=1000000):jM a b=some (decide (a=b)):=by
 unfold jM;by_cases hl:a.length=b.length
 .rw[L8 (by simp_all [o9]),E8];rw[WP a (λi x=>decide (b[i]? =some x)) false PUnit.unit _ l7 (λi x hi=>?_) ?_]
  .by_cases e:a=b
   .simp_all
   .rw[if_neg (λhh=>e (aB λi=>?_)),decide_eq_false e]
    .rfl
    grind
  .simp[L6,o9]
  .have hi' :=(U8.1 hi).1;have hb:b[i]? =some (b[i]'l7):=dE l7;simp[U0 (show((i:Nat):Int)<o9 a by grind [o9]),o7,G8,hi,o8,hb];by_cases e:b[i]'l7=x
   .subst e;rw[L8 rfl,L8 rfl];show some (Out.nx (A8 .i64 (i:Int) 1))=_
    grind [nxI]
   .have:fF (x8 x.1 (b[i]'l7).1) (x8 x.2 (b[i]'l7).2)=false:=by
     grind [GG]
    simp_all
 .rw[I4 (by grind [o9]),bY,o7,decide_eq_false (λe=>hl (by rw[e]))]
theorem a8D{cs:List (List (Int×Int))}{g:List (Int×Int)}(h:cs.length<=1000000)(hc:∀c∈cs,c.length<=1000000):(iU cs g=some (-1)/\g∉cs)\/∃j:Nat,iU cs g=some (j:Int)/\cs[j]? =some g:=by
 unfold iU;rcases AO (f:=λ(x:Int)=>l9 (F7 x (o9 cs)) (o5 (H9 cs x) λ(x_1:List D7)=>o5 (jM x_1 g) λ(x_2:Bool)=>l9 x_2 (some (Out.rt x)) (some (Out.nx (A8 IntKind.i64 x 1)))) (some (Out.ex PUnit.unit)))
  (s:=0) (λx=>∃i:Nat,x=(i:Int)/\i<=cs.length/\g∉cs.take i) (λ_=>g∉cs) (λr=>∃j:Nat,r=(j:Int)/\cs[j]? =some g) (λx=>cs.length -x.toNat) ⟨0,rfl,l7,x9⟩ U3 (by
   rintro x ⟨i,rfl,hi,hg⟩;by_cases hlt:i<cs.length
   .have e:=dE hlt;have hm:=P8 hlt;simp only[U0 (show(i:Int)<o9 cs by simp_all [o9]),o7,G8,e,o8];rw[b0m (hc _ hm),o8];by_cases he:cs[i]=g
    .rw[decide_eq_true he];exact .inr (.inr ⟨_,rfl,i,rfl,by grind⟩)
    .rw[decide_eq_false he];refine .inl ⟨((i+1:Nat):Int),?_,⟨i+1,rfl,hlt,?_⟩,by simp;omega⟩<;>grind [o6,nxI,List.take_add_one]
   grind [L6,o9,o6])with⟨e,h1,h2⟩|⟨r,h1,j,rfl,h2⟩
 .simp_all
 .right;exact⟨j,by simp_all,h2⟩
def bdA(x_1:F9)(x:d4D)(x_3:N8×d4D×Int):Option ((N8×d4D×Int)⊕(N8×d4D)):=
 l9 (F7 x_3.2.2 (o9 x))
  (o5 (H9 x x_3.2.2) λ(x_4:Int)=>o5 (P7 x (O9 x_3.2.2)) λ(x:Int)=>
   o5 (H9 x_3.2.1 x_3.2.2) λ(x_5:Int)=>o5 (P7 x_3.2.1 (O9 x_3.2.2)) λ(x_6:Int)=>
    o5 (H9 x_1.2.2.2.2 x) λ(x_7:iT)=>
     l9 (x8 (o9 x_7.2.2.2.2.2.1) 0)
      (some (Sum.inl (x_3.1,V8 x_3.2.1 (O9 x_3.2.2) (-1),A8 IntKind.i64 x_3.2.2 1)))
      (o5 (iU x_3.1.2.1 x_7.2.2.2.2.2.1) λ(x_8:Int)=>
       l9 (F7 x_8 0)
        (o5 (jR x_7.2.2.2.2.2.1) λ(x_9:List D7)=>o5 (fE x_3.1.2.1 [x_9]) λ(x_10:List (List D7))=>o5 (fE x_3.1.2.2.1 [x]) λ(x:d4D)=>
         o5 (H9 (V8 x_3.2.1 (O9 x_3.2.2) (-1)) x_3.2.2) λ(x_11:Int)=>o5 (P7 (V8 x_3.2.1 (O9 x_3.2.2) (-1)) (O9 x_3.2.2)) λ(x_12:Int)=>
          some (Sum.inl ((x_3.1.1,x_10,x,x_3.1.2.2.2),V8 (V8 x_3.2.1 (O9 x_3.2.2) (-1)) (O9 x_3.2.2) (o9 x_3.1.2.1),A8 IntKind.i64 x_3.2.2 1)))
        (o5 (H9 (V8 x_3.2.1 (O9 x_3.2.2) (-1)) x_3.2.2) λ(x:Int)=>o5 (P7 (V8 x_3.2.1 (O9 x_3.2.2) (-1)) (O9 x_3.2.2)) λ(x:Int)=>
         some (Sum.inl (x_3.1,V8 (V8 x_3.2.1 (O9 x_3.2.2) (-1)) (O9 x_3.2.2) x_8,A8 IntKind.i64 x_3.2.2 1)))))
  (some (Sum.inr (x_3.1,x_3.2.1)))
theorem b5q(a0:aZ)(a1 a2 a3:Int):Ey a0 a1 a2 a3=o5 (uz a0) λ(x:b2U)=>
 l9 (G6 (fF (x8 x.1 0) (fF (x8 x.2.1 0) (fF (x8 x.2.2.1 0) (x8 x.2.2.2 0))))) (some ((0,[],[],[]),1))
  (o5 (l9 (F7 a1 0) (some (Sum.inr ((0,[],[],[]),6))) (l9 (S9 (o9 a0.2.2) a1) (some (Sum.inr ((0,[],[],[]),6))) (some (Sum.inl (0,[],[],[]))))) λ(o:N8⊕N8×Int)=>
   bn o (λ(x:N8)=>o5 (H9 a0.2.2 a1) λ(x_1:F9)=>
     o5 (l9 (F7 a2 0) (some (Sum.inr ((0,[],[],[]),6))) (l9 (S9 (o9 x_1.2.2.2.1) a2) (some (Sum.inr ((0,[],[],[]),6))) (some (Sum.inl x)))) λ(o:N8⊕N8×Int)=>
      bn o (λ(x:N8)=>
        o5 (l9 (F7 a3 0) (some (Sum.inr ((0,[],[],[]),3))) (l9 (F7 109572 a3) (some (Sum.inr ((0,[],[],[]),3))) (some (Sum.inl x)))) λ(o:N8⊕N8×Int)=>
         bn o (λ(x:N8)=>o5 (qM x_1 a2 a3) λ(x:pg)=>o5 (lI (o9 x.1) 0) λ(x_2:d4D)=>
           o5 (X8 (bdA x_1 x.1) ((a2,[],[],[]),x_2,0)) λ(y:N8×d4D)=>
            o5 (jb x.1 x.2.1 x.2.2 y.2 (o9 y.1.2.1)) λ(x_3:d4D)=>
             o5 (uN x_3 x.1 (o9 y.1.2.1)) λ(x:List bK)=>some ((y.1.1,y.1.2.1,y.1.2.2.1,x),0))
          λ(r:N8×Int)=>some r)
       λ(r:N8×Int)=>some r)
    λ(r:N8×Int)=>some r):=rfl
structure CnOk (s:F9) (ru:d4D) (m:Nat) (cs:List (List (Int×Int))) (fr bs:d4D):Prop where
 lb:bs.length=ru.length
 lf:fr.length=cs.length
 lc:cs.length<=m
 cf:∀(j:Nat) g r,cs[j]? =some g->fr[j]? =some r->r∈ru/\∃q,H9 s.2.2.2.2 r=some q/\q.2.2.2.2.2.1=g/\g≠[]
 bt:∀(j:Nat) r q,j<m->ru[j]? =some r->H9 s.2.2.2.2 r=some q->∃b,bs[j]? =some b/\(q.2.2.2.2.2.1=[]->b=-1)/\(q.2.2.2.2.2.1≠[]->∃c:Nat,b=(c:Int)/\cs[c]? =some q.2.2.2.2.2.1)
 od:∀(j:Nat) r,fr[j]? =some r->∃p,p<m/\ru[p]? =some r/\∀(p' :Nat) r' q',p' <p->ru[p']? =some r' ->H9 s.2.2.2.2 r' =some q' ->q'.2.2.2.2.2.1=[]\/∃j',j' <j/\cs[j']? =some q'.2.2.2.2.2.1
variable {s:F9}
theorem c4f{ru:d4D}(hl:ru.length<=1000)(hr:∀r∈ru,∃q,H9 s.2.2.2.2 r=some q/\q.2.2.2.2.2.1.length<=1000000)(d:Int):
  ∃cs fr bs,X8 (bdA s ru) ((d,[],[],[]),List.replicate ru.length 0,0)=some ((d,cs,fr,[]),bs)/\CnOk s ru ru.length cs fr bs:=by
 obtain⟨t,h1,h2⟩:=zx ru (λ(t:List (List (Int×Int))×d4D×d4D) (i:Int)=>(((d,t.1,t.2.1,[]),t.2.2,i):N8×d4D×Int)) (λt=>((d,t.1,t.2.1,[]),t.2.2)) (λi t=>CnOk s ru i t.1 t.2.1 t.2.2) (f:=bdA s ru) (b:=([],[],List.replicate ru.length 0)) l7
  ⟨iM,rfl,D5 _,λj g r hg=>by simp at hg,λj r q hj=>by omega,λj r h=>by simp at h⟩
  (λi r t hi ht=>by
   obtain⟨cs,fr,bs⟩:=t;have ht:CnOk s ru i cs fr bs:=ht;obtain⟨lb,lf,lc,cf,bt,od⟩:=ht;have hi' :=(U8.1 hi).1;have lb:bs.length=ru.length:=lb;have lf:fr.length=cs.length:=lf;have lc:cs.length<=i:=lc;obtain⟨q,hq,hql⟩:=hr r (lM hi);have hbi:bs[i]? =some (bs[i]'l7):=dE l7;have hcl:∀c∈cs,c.length<=1000000:=λc hc=>by obtain⟨j,hj,e⟩:=Y5 hc;obtain⟨hm,q',hq',e',-⟩:=cf j c (fr[j]'l7) (by rw[dE hj,e]) (dE l7);obtain⟨q2,hq2,hl2⟩:=hr _ hm;rw[hq']at hq2;cases hq2;rw[←e'];exact hl2
   have hset:∀z:Int,(bs.set i z).length=ru.length:=λz=>by simpa using lb
   have hget:∀(z:Int) (j:Nat),j<i+1->(bs.set i z)[j]? =if j=i then some z else bs[j]?:=λz j hj=>by
    rw[J8];by_cases e:i=j
    .subst e;rw[if_pos rfl,if_pos l7,if_pos rfl]
    .rw[if_neg e,if_neg (λh=>e h.symm)]
   have hss:∀y z:Int,(bs.set i y).set i z=bs.set i z:=λy z=>by simp
   unfold bdA;rw[show F7 (((d,cs,fr,[]),bs,(i:Int)):N8×d4D×Int).2.2 (o9 ru)=true from U0 (by show(i:Int)<(ru.length:Int);omega),o7];rw[show H9 ru (((d,cs,fr,[]),bs,(i:Int)):N8×d4D×Int).2.2=_ from G8 ru i,hi,o8,show P7 ru (O9 (((d,cs,fr,[]),bs,(i:Int)):N8×d4D×Int).2.2)=_ from JE (l:=ru) (i:=i),hi,o8];rw[show H9 (((d,cs,fr,[]),bs,(i:Int)):N8×d4D×Int).2.1 (((d,cs,fr,[]),bs,(i:Int)):N8×d4D×Int).2.2=_ from G8 bs i,hbi,o8,show P7 (((d,cs,fr,[]),bs,(i:Int)):N8×d4D×Int).2.1 (O9 (((d,cs,fr,[]),bs,(i:Int)):N8×d4D×Int).2.2)=_ from JE (l:=bs) (i:=i),hbi,o8,hq,o8];rw[show A8 IntKind.i64 (((d,cs,fr,[]),bs,(i:Int)):N8×d4D×Int).2.2 1=_ from nxI (i:=i) l7];have hs1:∀z,V8 (((d,cs,fr,[]),bs,(i:Int)):N8×d4D×Int).2.1 (O9 (((d,cs,fr,[]),bs,(i:Int)):N8×d4D×Int).2.2) z=bs.set i z:=λz=>Qh (l:=bs) (i:=i);have hs2:∀z,V8 (bs.set i (-1)) (O9 (((d,cs,fr,[]),bs,(i:Int)):N8×d4D×Int).2.2) z=bs.set i z:=λz=>(Qh (l:=bs.set i (-1)) (i:=i)).trans (hss _ _);have hg1:(bs.set i (-1))[i]? =some (-1):=by rw[hget _ i l7,if_pos rfl]
   have hl1:H9 (bs.set i (-1)) (((d,cs,fr,[]),bs,(i:Int)):N8×d4D×Int).2.2=some (-1):=(G8 _ i).trans hg1;have hl2:P7 (bs.set i (-1)) (O9 (((d,cs,fr,[]),bs,(i:Int)):N8×d4D×Int).2.2)=some (-1):=(JE (i:=i)).trans hg1;have hbt:∀(z:Int) (cs' :List (List (Int×Int))),(∀c:Nat,∀g,cs[c]? =some g->cs'[c]? =some g)->(q.2.2.2.2.2.1=[]->z=-1)->(q.2.2.2.2.2.1≠[]->∃c:Nat,z=(c:Int)/\cs'[c]? =some q.2.2.2.2.2.1)->
     ∀(j:Nat) r q,j<i+1->ru[j]? =some r->H9 s.2.2.2.2 r=some q->∃b,(bs.set i z)[j]? =some b/\(q.2.2.2.2.2.1=[]->b=-1)/\(q.2.2.2.2.2.1≠[]->∃c:Nat,b=(c:Int)/\cs'[c]? =some q.2.2.2.2.2.1):=by
    intro z cs' hm z1 z2 j r' q' hj hr' hq';rw[hget z j hj];by_cases e:j=i
    .subst e;rw[hi]at hr';cases hr';rw[hq]at hq';cases hq';exact⟨z,if_pos rfl,z1,z2⟩
    .rw[if_neg e];obtain⟨b,b1,b2,b3⟩:=bt j r' q' l7 hr' hq';exact⟨b,b1,b2,λh=>by obtain⟨c,c1,c2⟩:=b3 h;exact⟨c,c1,hm c _ c2⟩⟩
   have od2:∀(j:Nat) r,fr[j]? =some r->∃p,p<i+1/\ru[p]? =some r/\∀(p' :Nat) r' q',p' <p->ru[p']? =some r' ->H9 s.2.2.2.2 r' =some q' ->q'.2.2.2.2.2.1=[]\/∃j',j' <j/\cs[j']? =some q'.2.2.2.2.2.1:=λj r h=>by obtain⟨p,p1,p2⟩:=od j r h;exact⟨p,l7,p2⟩
   by_cases hg:q.2.2.2.2.2.1=[]
   .rw[L8 (show o9 q.2.2.2.2.2.1=0 by rw[hg];rfl),o7,hs1];exact⟨(cs,fr,bs.set i (-1)),rfl,hset _,lf,by show cs.length<=i+1;omega,cf,hbt _ cs (λ_ _ h=>h) (λ_=>rfl) λh=>absurd hg h,od2⟩
   .rw[I4 (show o9 q.2.2.2.2.2.1≠0 from λe=>hg (P5.1 (by unfold o9 at e;omega))),o6];rcases a8D (cs:=cs) (g:=q.2.2.2.2.2.1) l7 hcl with⟨e,hno⟩|⟨c,e,hc⟩
    .rw[show iU (((d,cs,fr,[]),bs,(i:Int)):N8×d4D×Int).1.2.1 q.2.2.2.2.2.1=_ from e,o8,U0 l7,o7];rw[show jR q.2.2.2.2.2.1=some q.2.2.2.2.2.1 from by grind [jR,vG],o8];rw[show fE (((d,cs,fr,[]),bs,(i:Int)):N8×d4D×Int).1.2.1 [q.2.2.2.2.2.1]=some (cs++[q.2.2.2.2.2.1])from vG (by grind),o8];rw[show fE (((d,cs,fr,[]),bs,(i:Int)):N8×d4D×Int).1.2.2.1 [r]=some (fr++[r])from vG (by grind),o8,hs1,hl1,o8,hl2,o8,hs2];refine⟨(cs++[q.2.2.2.2.2.1],fr++[r],bs.set i (cs.length:Int)),rfl,hset _,by grind,by grind,λj g r' hg' hr' =>?_,hbt _ _ (λc g hc=>?_) (λh=>absurd h hg) λ_=>⟨cs.length,rfl,x9⟩,λj r' hr' =>?_⟩
     .grind
     .grind
     .have hap:∀(j' :Nat) g,cs[j']? =some g->(cs++[q.2.2.2.2.2.1])[j']? =some g:=λj' g h=>by grind
      by_cases hj:j<fr.length
      .rw[G5 hj]at hr';obtain⟨p,p1,p2,p3⟩:=od2 j r' hr';exact⟨p,p1,p2,λp' r1 q1 a b c=>(p3 p' r1 q1 a b c).imp id λ⟨j',x,y⟩=>⟨j',x,hap _ _ y⟩⟩
      grind
    .rw[show iU (((d,cs,fr,[]),bs,(i:Int)):N8×d4D×Int).1.2.1 q.2.2.2.2.2.1=_ from e,o8,L6 l7,o6,hs1,hl1,o8,hl2,o8,hs2];exact⟨(cs,fr,bs.set i (c:Int)),rfl,hset _,lf,by grind,cf,hbt _ cs (λ_ _ h=>h) (λh=>absurd h hg) λ_=>⟨c,rfl,hc⟩,od2⟩)
  (λt h=>by simp[bdA,o9,L6])
 exact⟨t.1,t.2.1,t.2.2,h1,h2⟩
theorem b7N{sg:L9}{k:Nat}{r:iT}(h:KX s sg k r=0):Pi (s.2.2.2.2.take k) r.2.1<8/\∃d,PY r sg d=0:=by
 unfold KX at h;cases g1:Ko r.1<;>rw[g1]at h
 .exact absurd (show(2:Int)=0 from h) E5
 cases g2:(s.2.2.2.2.take k).any λx=>seq x.1 r.1<;>rw[g2]at h
 case true=>exact absurd (show(7:Int)=0 from h) E5
 simp only[o7,o6]at h;cases g3:H9 s.2.2.2.1 r.2.1 with
 |none=>rw[g3]at h;exact absurd (show(6:Int)=0 from h) E5|some d=>
  rw[g3]at h;simp only at h;obtain⟨g4,h⟩:=a5N h E5;cases g5:F7 r.2.2.2.1 0<;>rw[g5]at h
  case true=>exact absurd (show(3:Int)=0 from h) E5
  cases g6:F7 9 r.2.2.2.1<;>rw[g6]at h
  case true=>exact absurd (show(3:Int)=0 from h) E5
  cases g7:Ny r.2.2.2.2.1<;>rw[g7]at h
  .exact absurd (show(3:Int)=0 from h) E5
  cases g8:x8 r.2.2.2.2.1.1 r.2.2.2.2.1.2<;>rw[g8]at h
  case true=>exact absurd (show(3:Int)=0 from h) E5
  cases g9:S9 8 (Pi (s.2.2.2.2.take k) r.2.1:Int)<;>rw[g9]at h
  case true=>exact absurd (show(4:Int)=0 from h) E5
  cases g10:b0z r.2.2.2.2.2.2.2<;>rw[g10]at h
  .exact absurd (show(2:Int)=0 from h) E5
  simp only[o7,o6]at h;have:=LH.1 g9;exact⟨l7,_,h⟩
theorem c0L{d t:Int}(h:onR s d t i=true):∃r,s.2.2.2.2[i]? =some r/\r.2.1=d:=by
 unfold onR at h;cases hr:s.2.2.2.2[i]? with
 |none=>rw[hr]at h;cases h|some r=>
  rw[hr]at h;simp only at h;cases g:x8 r.2.1 d<;>rw[g]at h
  .cases h
  .exact⟨r,rfl,U4.1 g⟩
theorem c5e{l:aZ}(hv:(eX l).1=0)(hs:l.2.2[i]? =some s)(d t:Int):(dB s d t).length<=8:=by
 have key:∀m,m<=s.2.2.2.2.length->(onL (onR s d t) m).length<=Pi (s.2.2.2.2.take m) d/\Pi (s.2.2.2.2.take m) d<=8:=by
  intro m;induction m with
  |zero=>intro _;exact⟨D5 _,by simp[Pi]⟩|succ m ih=>
   intro hm;obtain⟨a,b⟩:=ih l7;have hr:=dE (show m<s.2.2.2.2.length by omega);have hc:Pi (s.2.2.2.2.take (m+1)) d=Pi (s.2.2.2.2.take m) d+(if x8 (s.2.2.2.2[m]'l7).2.1 d=true then 1 else 0):=by unfold Pi;rw[lT,hr,List.countP_append];simp[List.countP_cons]
   have hcnt:=(b7N (a1i hv hs hr)).1;rw[Vo,hc];by_cases g:x8 (s.2.2.2.2[m]'l7).2.1 d=true
   .rw[U4.1 g]at hcnt;rw[if_pos g,J9];refine⟨?_,l7⟩;cases onR s d t m<;>simp<;>omega
   .rw[if_neg g];have:onR s d t m=false:=by
     cases ho:onR s d t m
     .rfl
     .obtain⟨r,h1,h2⟩:=c0L ho;rw[hr]at h1;cases h1;exact absurd (L8 h2) g
    rw[this];simpa using ⟨a,b⟩
 obtain⟨a,b⟩:=key _ (D5 _);unfold dB;omega
end Go.GP
