import Derived.Test.YtenobbecpmncbaaGreatDoorT4
set_option linter.all false
namespace Go.GP
open Gt
set_option maxRecDepth 100000
section
def a4r(r:Dx):Prop:=jc r.2.1/\jc r.2.2.1/\jc r.2.2.2
def yQ(t:iD):Prop:=t.2.2.2.length<=200/\∀r∈t.2.2.2,a4r r
theorem YC{len n:Int}(h:(BL len n).2.2=true)(hl:0<=len):-1000000000000000<=(BL len n).1/\(BL len n).1<=1000000000000000/\-1000000<=(BL len n).2.1/\(BL len n).2.1<=1000000:=by
 have hA:0<=len*Y4 n:=P7 hl (kG n);unfold BL at*;generalize len*Y4 n=A at*;cases h1:D9 1000000000000000 (A / 1000000)<;>rw[h1]at h
 ·rw[iL]at h1;cases D9 n 0
  ·simp only[o6];omega
  ·simp only[o6,o7];omega
 ·cases h
def brG(date c:Int)(b:Int×Int)(r:Dx):(Int×Int)⊕(Int×Int):=l9 (PQ r.1 date) (l9 (J6 (qF r.2.2.1 c) (nz r.2.1 0)) (.inl b)
 (l9 (BL (qF r.2.2.1 c -nz r.2.1 0) r.2.2.2).2.2 (.inl (b.1+(BL (qF r.2.2.1 c -nz r.2.1 0) r.2.2.2).1,b.2+(BL (qF r.2.2.1 c -nz r.2.1 0) r.2.2.2).2.1)) (.inr (0,3)))) (.inl b)
def b2c(t:iD)(date c mode:Int):Int×Int:=l9 (nI mode) (l9 (dE (o8 t.2.1.1 3) (o8 t.2.1.2 0)) (l9 (dE (o8 t.2.2.1.1 4) (o8 t.2.2.1.2 0)) (l9 (jM c 1000000000000000) (0,3)
 (match aG (brG date c) t.2.2.2 (0,0)with| .inl b=>WU b.1 b.2 mode| .inr r=>r)) (0,8)) (0,8)) (0,1)
def Tv(i:Nat)(b:Int×Int):Prop:=-(1000000000000000*(i:Int))<=b.1/\b.1<=1000000000000000*(i:Int)/\-(1000000*(i:Int))<=b.2/\b.2<=1000000*(i:Int)
theorem TQ{r:Dx}{c:Int}(hr:a4r r)(hc:-1000000000000000<=c)(hc2:c<=1000000000000000)(h:J6 (qF r.2.2.1 c) (nz r.2.1 0)=false):H9 .i64 (qF r.2.2.1 c) (nz r.2.1 0)=qF r.2.2.1 c -nz r.2.1 0/\1<=qF r.2.2.1 c -nz r.2.1 0/\qF r.2.2.1 c -nz r.2.1 0<=1000000000000000:=by
 obtain⟨h1,h2,h3⟩:=hr;obtain⟨lo,hlo⟩:∃lo:Int,r.2.1=lo:=⟨_,rfl⟩;obtain⟨hi,hhi⟩:∃hi:Int,r.2.2.1=hi:=⟨_,rfl⟩;rw[hlo]at h h1 ⊢;rw[hhi]at h h2 ⊢;rw[Fz]at h;have a1:0<=nz lo 0:=by unfold nz;split<;>omega
 have a2:qF hi c<=c:=by unfold qF;split<;>omega
 refine⟨U2 O6,l7,l7⟩
theorem a7L{date c:Int}{r:Dx}{b:Int×Int}{i:Nat}(hr:a4r r)(hc:-1000000000000000<=c)(hc2:c<=1000000000000000)(hi:i<=200)(hb:Tv i b):∀b',brG date c b r= .inl b' ->Tv (i+1) b' :=by
 intro b' h;unfold Tv at*;unfold brG at h;cases h1:PQ r.1 date<;>rw[h1]at h
 ·cases h;omega
 simp only[o7]at h;cases h2:J6 (qF r.2.2.1 c) (nz r.2.1 0)<;>rw[h2]at h
 ·obtain⟨_,g1,g2⟩:=TQ hr hc hc2 h2;simp only[o6]at h;cases h3:(BL (qF r.2.2.1 c -nz r.2.1 0) r.2.2.2).2.2<;>rw[h3]at h
  ·cases h
  ·have hbd:=YC h3 l7;cases h;simp only;omega
 ·cases h;omega
theorem a0e{t:iD}(date c mode:Int)(ht:yQ t):Ak t date c mode=some (b2c t date c mode):=by
 unfold Ak b2c;rw[a1e];cases hm:nI mode
 ·rfl
 simp only[o7,o9,X7];cases dE (o8 t.2.1.1 3) (o8 t.2.1.2 0)
 ·rfl
 cases dE (o8 t.2.2.1.1 4) (o8 t.2.2.1.2 0)
 ·rfl
 simp only[F9,o6,o7,o9,X7];have hbey:∀A B:Option (PUnit⊕(Int×Int)),l9 (D9 c (-1000000000000000)) A (l9 (D9 1000000000000000 c) A B)=l9 (jM c 1000000000000000) A B:=λA B=>by unfold jM;cases D9 c (-1000000000000000)<;>cases D9 1000000000000000 c<;>rfl
 rw[hbey];cases hb:jM c 1000000000000000
 case true=>rfl
 have bb:=oJ hb;simp only[o6,o9,X7];refine ql t.2.2.2 (brG date c) (λb i=>(b.1,b.2,i)) (λb=>b) Tv ((0,0):Int×Int) (by have:=ht.1;omega) (by unfold Tv;simp) (λi r b hr hi hI=>?_) (λb hI=>?_) (λhI=>?_)
 ·have hro:=ht.2 r (su hr);have hlt:=(Z4.1 hr).1;have h200:=ht.1;refine⟨?_,a7L hro bb.1 bb.2 l7 hI⟩;simp only[X3 hr,o7,J9,hr,o9,Ez];rw[fP l7];unfold brG;cases PQ r.1 date
  ·rfl
  simp only[F9,o6,o7];cases h2:J6 (qF r.2.2.1 c) (nz r.2.1 0)
  case true=>rfl
  obtain⟨g0,g1,g2⟩:=TQ hro bb.1 bb.2 h2;rw[g0,b2e g1 g2 hro.2.2];simp only[o6,o9];cases h3:(BL (qF r.2.2.1 c -nz r.2.1 0) r.2.2.2).2.2
  ·rfl
  ·have hbd:=YC h3 l7;unfold Tv at hI;rw[V5 O6,V5 O6];rfl
 ·simp only[W9];rfl
 ·cases hf:aG (brG date c) t.2.2.2 (0,0)with
  |inr r=>rfl|inl b=>have:=hI b hf;unfold Tv at this;have h200:=ht.1;simp only[X7];rw[a1G hm l7 l7 l7 l7];rfl
theorem Zj{t:iD}(date c mode:Int)(ht:yQ t):Ee t date c mode=some (b2c t date c mode):=by
 unfold Ee b2c;rw[OD,o9];cases hm:nI mode
 ·rfl
 simp only[F9,o6,o7];cases dE (o8 t.2.1.1 3) (o8 t.2.1.2 0)
 ·rfl
 cases dE (o8 t.2.2.1.1 4) (o8 t.2.2.1.2 0)
 ·rfl
 simp only[F9,o6,o7,o9,X7];rw[sH c l7 l7,o9];cases hb:jM c 1000000000000000
 case true=>rfl
 have bb:=oJ hb;simp only[o6];refine ql t.2.2.2 (brG date c) (λb i=>(b.1,b.2,i)) (λb=>b) Tv ((0,0):Int×Int) (by have:=ht.1;omega) (by unfold Tv;simp) (λi r b hr hi hI=>?_) (λb hI=>?_) (λhI=>?_)
 ·have hro:=ht.2 r (su hr);have hlt:=(Z4.1 hr).1;have h200:=ht.1;refine⟨?_,a7L hro bb.1 bb.2 l7 hI⟩;simp only[X3 hr,o7,J9,hr,o9,OB];rw[fP l7];unfold brG;cases h2:J6 (qF r.2.2.1 c) (nz r.2.1 0)
  case true=>cases PQ r.1 date<;>rfl
  simp only[o6];cases PQ r.1 date
  ·rfl
  obtain⟨g0,g1,g2⟩:=TQ hro bb.1 bb.2 h2;rw[g0,a9R g1 g2 hro.2.2];simp only[F9,o6,o7,o9];cases h3:(BL (qF r.2.2.1 c -nz r.2.1 0) r.2.2.2).2.2
  ·rfl
  ·have hbd:=YC h3 l7;unfold Tv at hI;rw[V5 O6,V5 O6];rfl
 ·simp only[W9];rfl
 ·cases hf:aG (brG date c) t.2.2.2 (0,0)with
  |inr r=>rfl|inl b=>have:=hI b hf;unfold Tv at this;have h200:=ht.1;simp only[X7];rw[WP hm l7 l7 l7 l7,o9,sH _ l7 l7,o9];unfold WU;cases jM (rnd (b.1*1000000+b.2) 1000000 mode) 1000000000000000<;>rfl
def b2r(r:Dx)(date key:Int):Bool:=l9 (PQ r.1 date) (l9 (J6 r.2.1 key) (D9 key r.2.2.1) false) false
def Rj(rows:List Dx)(date key:Int)(i:Nat):Option (Int×Bool):=match rows[i]? with|some r=>l9 (b2r r date key) (some ((i:Int),true)) none|none=>none
def UO(rows:List Dx)(date key:Int):Int×Bool:=match bD rows.length (Rj rows date key)with|some x=>x|none=>(0,false)
theorem a6r{t:iD}(date key:Int)(ht:t.2.2.2.length<=1000000):Dj t date key=some (UO t.2.2.2 date key):=by
 unfold Dj uS UO;rw[jm];refine fK (xn (p:=Rj t.2.2.2 date key) t.2.2.2.length ht PUnit.unit (λi hi=>?_) ?_) ?_
 rotate_left 2
 ·cases bD t.2.2.2.length (Rj t.2.2.2 date key)<;>rfl
 ·have e:=gY hi;simp only[X3 e,o7,J9,e,o9,Ei,Ez,Rj,b2r];cases PQ t.2.2.2[i].1 date
  ·rfl
  cases J6 t.2.2.2[i].2.1 key
  ·rfl
  cases D9 key t.2.2.2[i].2.2.1<;>rfl
 ·simp only[W9];rfl
theorem a3v{t:iD}(date key:Int)(ht:t.2.2.2.length<=1000000):Hz t date key=some (UO t.2.2.2 date key):=by
 unfold Hz UO;refine fK (xn (p:=Rj t.2.2.2 date key) t.2.2.2.length ht PUnit.unit (λi hi=>?_) ?_) ?_
 rotate_left 2
 ·cases bD t.2.2.2.length (Rj t.2.2.2 date key)<;>rfl
 ·have e:=gY hi;simp only[X3 e,o7,J9,e,o9,LV,OB,Rj,b2r];cases PQ t.2.2.2[i].1 date
  ·rfl
  cases J6 t.2.2.2[i].2.1 key
  ·rfl
  cases D9 key t.2.2.2[i].2.2.1<;>rfl
 ·simp only[W9];rfl
theorem a8E{rows:List Dx}{date key i:Int}(h:UO rows date key=(i,true)):0<=i/\i<x8 rows:=by
 unfold UO at h;split at h
 ·rename_i x hx;subst h;obtain⟨k,hk,hp⟩:=mJ hx;unfold Rj at hp;split at hp
  ·rename_i r hr;cases hmb:b2r r date key<;>rw[hmb]at hp
   ·cases hp
   ·cases hp;simp only[x8];omega
  ·cases hp
 ·cases h
abbrev V3:Type:=Int×Int×Int
def Dy(k:Int):Int×Int:=l9 (o8 k 1) (0,1) (l9 (o8 k 2) (-1000000000000,1000000000000) (l9 (o8 k 3) (-1000000000000000,1000000000000000) (l9 (o8 k 4) (-1000000000,1000000000) (l9 (o8 k 5) (0,109572) (l9 (o8 k 6) (0,15) (0,-1))))))
theorem a4F(k:Int):Ad k=some (Dy k):=by unfold Ad Dy;cases o8 k 1<;>cases o8 k 2<;>cases o8 k 3<;>cases o8 k 4<;>cases o8 k 5<;>cases o8 k 6<;>rfl
def plB(v:V3):Bool:=l9 (J6 (Dy v.1).1 v.2.2) (l9 (J6 v.2.2 (Dy v.1).2) (l9 (o8 v.1 6) (l9 (J6 0 v.2.1) (D9 v.2.1 8) false) (o8 v.2.1 0)) false) false
theorem BC(v:V3):ja v=some (plB v):=by
 unfold ja plB;rw[a4F,o9,qW,qW];cases J6 (Dy v.1).1 v.2.2
 ·rfl
 cases J6 v.2.2 (Dy v.1).2
 ·rfl
 cases o8 v.1 6
 ·rfl
 cases J6 0 v.2.1<;>rfl
theorem xy(v:V3):gp v=some (plB v):=by
 obtain⟨k,e,n⟩:=v;unfold gp plB;simp only;by_cases h6:k=6
 ·subst h6;rw[show Dy 6=(0,15)from rfl,O8 (rfl:(6:Int)=6)];simp only[F9,o6,o9,X7,L9 (show(6:Int)≠1 by decide),L9 (show(6:Int)≠2 by decide),L9 (show(6:Int)≠3 by decide),L9 (show(6:Int)≠4 by decide),L9 (show(6:Int)≠5 by decide),o7];rw[show D9 n 16=J6 n 15 by unfold D9 J6;congr 1;simp;omega];cases J6 0 e<;>cases D9 e 8<;>cases J6 0 n<;>cases J6 n 15<;>rfl
 rw[L9 h6];simp only[iw,o7,o6];by_cases he:e=0
 case neg=>rw[L9 he];simp only[iw,o7,o9,Gs];cases J6 (Dy k).1 n<;>cases J6 n (Dy k).2<;>rfl
 rw[O8 he];simp only[F9,o6,o9,X7];by_cases h1:k=1
 ·subst h1;rw[show Dy 1=(0,1)from rfl];simp only[O8 (rfl:(1:Int)=1),o7];by_cases n0:n=0
  ·subst n0;rfl
  by_cases n1:n=1
  ·subst n1;rfl
  rw[L9 n0,L9 n1];by_cases g:0<=n
  ·rw[X5 g,Y1 l7];rfl
  ·rw[Y1 l7];rfl
 rw[L9 h1,o6];by_cases h2:k=2
 ·subst h2;rw[show Dy 2=(-1000000000000,1000000000000)from rfl,O8 (rfl:(2:Int)=2)];simp only[o7];cases J6 (-1000000000000) n<;>cases J6 n 1000000000000<;>rfl
 rw[L9 h2,o6];by_cases h3:k=3
 ·subst h3;rw[show Dy 3=(-1000000000000000,1000000000000000)from rfl,O8 (rfl:(3:Int)=3)];simp only[o7];cases J6 (-1000000000000000) n<;>cases J6 n 1000000000000000<;>rfl
 rw[L9 h3,o6];by_cases h4:k=4
 ·subst h4;rw[show Dy 4=(-1000000000,1000000000)from rfl,O8 (rfl:(4:Int)=4)];simp only[o7];cases J6 (-1000000000) n<;>cases J6 n 1000000000<;>rfl
 rw[L9 h4,o6];by_cases h5:k=5
 ·subst h5;rw[show Dy 5=(0,109572)from rfl,O8 (rfl:(5:Int)=5)];simp only[o7];cases J6 0 n<;>cases J6 n 109572<;>rfl
 rw[L9 h5,o6,show Dy k=(0,-1) by unfold Dy;rw[L9 h1,L9 h2,L9 h3,L9 h4,L9 h5,L9 h6];rfl];simp only[o6];by_cases g:0<=n
 ·rw[X5 g,Y1 (show(-1:Int)<n by omega)];rfl
 ·rw[Y1 (show n<0 by omega)];rfl
def PV(v:V3):Prop:=(∃n,v=(1,0,n)/\(n=0\/n=1))\/(∃n,v=(2,0,n)/\-1000000000000<=n/\n<=1000000000000)\/(∃n,v=(3,0,n)/\-1000000000000000<=n/\n<=1000000000000000)\/(∃n,v=(4,0,n)/\-1000000000<=n/\n<=1000000000)\/(∃n,v=(5,0,n)/\0<=n/\n<=109572)\/(∃e n,v=(6,e,n)/\0<=n/\n<=15)
theorem a3r{v:V3}(h:plB v=true):PV v:=by
 obtain⟨k,e,n⟩:=v;unfold plB at h;simp only at h;cases h1:J6 (Dy k).1 n<;>rw[h1]at h
 ·cases h
 cases h2:J6 n (Dy k).2<;>rw[h2]at h
 ·cases h
 simp only[o7]at h;rw[kR]at h1 h2;unfold PV;by_cases k6:k=6
 ·subst k6;rw[show Dy 6=(0,15)from rfl]at h1 h2;exact .inr (.inr (.inr (.inr (.inr ⟨e,n,rfl,h1,h2⟩))))
 rw[L9 k6,o6,O5]at h;subst h;by_cases k1:k=1
 ·subst k1;rw[show Dy 1=(0,1)from rfl]at h1 h2;exact .inl ⟨n,rfl,by simp only at h1 h2;omega⟩
 by_cases k2:k=2
 ·subst k2;exact .inr (.inl ⟨n,rfl,h1,h2⟩)
 by_cases k3:k=3
 ·subst k3;exact .inr (.inr (.inl ⟨n,rfl,h1,h2⟩))
 by_cases k4:k=4
 ·subst k4;exact .inr (.inr (.inr (.inl ⟨n,rfl,h1,h2⟩)))
 by_cases k5:k=5
 ·subst k5;exact .inr (.inr (.inr (.inr (.inl ⟨n,rfl,h1,h2⟩))))
 ·rw[show Dy k=(0,-1) by unfold Dy;rw[L9 k1,L9 k2,L9 k3,L9 k4,L9 k5,L9 k6];rfl]at h1 h2;simp only at h1 h2;omega
def En(v:V3):V3×Int:=l9 (plB v) (v,0) ((0,0,0),3)
def Wu(v:V3)(c:Int):V3×Int:=l9 (o8 c 0) (En v) ((0,0,0),c)
theorem Oe(k n:Int):bW k n=some (En (k,0,n)):=by unfold bW En;rw[BC,o9];cases plB (k,0,n)<;>rfl
theorem b3r(k n c:Int):sO k n c=some (Wu (k,0,n) c):=by
 unfold sO Wu;cases o8 c 0
 ·rfl
 simp only[F9,o6,o7];rw[Oe];rfl
def c1w(b:Bool):V3×Int:=((1,0,l9 b 1 0),0)
theorem a6U(b:Bool):rJ b=some (c1w b):=by cases b<;>rfl
theorem b1N(b:Bool):pU b=some (1,0,l9 b 1 0):=by cases b<;>rfl
theorem b1M(b:Bool):En (1,0,l9 b 1 0)=c1w b:=by cases b<;>rfl
def a6b(c:Option (V3×Int)):Option (V3×Int):=o5 c λ(x:V3×Int)=>l9 (E9 (o8 x.2 0)) (some ((0,0,0),x.2)) (o5 (gp x.1) λ(x_1:Bool)=>l9 (E9 x_1) (some ((0,0,0),3)) (some (x.1,0)))
theorem AX(v:V3)(c:Int):a6b (some (v,c))=some (Wu v c):=by
 unfold a6b Wu En;simp only[o9];cases o8 c 0
 ·rfl
 simp only[F9,o6,o7];rw[xy,o9];cases plB v<;>rfl
theorem JX(v:V3):Wu v 0=En v:=rfl
def EP(n:Int×Int)(args:List V3)(env:aP):Option (V3×Int):=o5 (Z8 n args env) λ(x:Bool)=>l9 (E9 x) (some ((0,0,0),8)) (a6b (Z9 n args env))
def RP(a0:Int×Int)(a1:List V3)(a2:aP):Option (V3×Int):=
 l9 (o8 (x8 a1) 0) (l9 (J6 36 a0.1) (l9 (J6 a0.1 39) (o5 (sK a0 a2) λ(x:V3×Int)=>some x) (o5 (gZ a0 a2) λ(x:V3×Int)=>some x)) (o5 (gZ a0 a2) λ(x:V3×Int)=>some x))
  (l9 (o8 (x8 a1) 1) (o5 (H8 a1 0) λ(x:V3)=>o5 (oQ a0 x a2) λ(x:V3×Int)=>some x)
  (l9 (o8 (x8 a1) 2) (o5 (H8 a1 0) λ(x:V3)=>o5 (H8 a1 1) λ(x_1:V3)=>o5 (iC a0 x x_1) λ(x:V3×Int)=>some x)
  (o5 (H8 a1 0) λ(x:V3)=>o5 (H8 a1 1) λ(x_1:V3)=>o5 (H8 a1 2) λ(x_2:V3)=>l9 (E9 (o8 x.1 1)) (some ((0,0,0),8)) (l9 (E9 (o8 x_1.1 x_2.1)) (some ((0,0,0),8)) (l9 (E9 (o8 x_1.2.1 x_2.2.1)) (some ((0,0,0),8)) (l9 (o8 x.2.2 1) (some (x_1,0)) (some (x_2,0))))))))
def iF(n:Int×Int)(args:List V3)(env:aP):Prop:=∃r:V3×Int,RP n args env=some r/\EP n args env=some r
theorem ll0:x8 ([]:List V3)=0:=rfl
theorem ll1(a:V3):x8 [a]=1:=rfl
theorem ll2(a b:V3):x8 [a,b]=2:=rfl
theorem ll3(a b c:V3):x8 [a,b,c]=3:=rfl
theorem la0(a:V3)(l:List V3):H8 (a::l) 0=some a:=rfl
theorem la1(a b:V3)(l:List V3):H8 (a::b::l) 1=some b:=rfl
theorem la2(a b c:V3)(l:List V3):H8 (a::b::c::l) 2=some c:=rfl
def aX:=And.intro @O8 (And.intro @L9 (And.intro @X5 (And.intro @Y1 (And.intro @U5 (And.intro @L6 (And.intro @o7 (And.intro @o6 (And.intro @o9 (And.intro @X7 (And.intro @Gs (And.intro @F9 (And.intro @iw (And.intro @ll0 (And.intro @ll1 (And.intro @ll2 (And.intro @ll3 (And.intro @la0 (And.intro @la1 (And.intro @la2 (And.intro @Oe (And.intro @b3r (And.intro @BC (And.intro @xy (And.intro @AX (And.intro @JX (And.intro @a6U (And.intro @b1N (@b1M))))))))))))))))))))))))))))
theorem NC(k N:Int)(env:aP)(hk:k=1\/k=2\/k=3\/k=4\/k=5):iF (k,N) [] env:=by
 rcases hk with rfl|rfl|rfl|rfl|rfl <;>
 ·unfold iF RP gZ EP Z8 Z9;simp (disch:=decide) only[aX];exact⟨_,rfl,rfl⟩
theorem b6P(N:Int)(env:aP):iF (6,N) [] env:=by unfold iF RP gZ EP Z8 Z9;simp (disch:=decide) only[aX];unfold En;cases plB (6,bQ IntKind.i64 N 16,cZ N 16)<;>exact⟨_,rfl,rfl⟩
theorem b6S(N:Int)(env:aP):iF (9,N) [] env:=by unfold iF RP gZ EP Z8 Z9;simp (disch:=decide) only[aX];exact⟨_,rfl,rfl⟩
theorem b4v(N:Int)(env:aP):iF (35,N) [] env:=by unfold iF RP gZ EP Z8 Z9;simp (disch:=decide) only[aX];exact⟨_,rfl,rfl⟩
theorem b6Q(N:Int)(env:aP)(h:iK (7,N) env=some true):iF (7,N) [] env:=by
 unfold iK at h;simp (disch:=decide) only[O8,L9,o7,o6]at h;by_cases g:0<=N
 case neg=>rw[Y1 l7]at h;cases h
 rw[X5 g,o7]at h;have h2:=jC.1 (V6 h);obtain⟨x,hx,hm⟩:=mf g h2;unfold iF RP gZ EP Z8 Z9;simp (disch:=decide) only[aX];rw[hx];simp (disch:=decide) only[aX];unfold En;cases plB x<;>exact⟨_,rfl,rfl⟩
theorem b6R(N:Int)(env:aP)(h:iK (8,N) env=some true):iF (8,N) [] env:=by
 unfold iK at h;simp (disch:=decide) only[O8,L9,o7,o6]at h;by_cases g:0<=N
 case neg=>rw[Y1 l7]at h;cases h
 rw[X5 g,o7]at h;by_cases h2:N<x8 env.2.2.1
 case neg=>rw[L6 l7]at h;cases h
 obtain⟨x,hx,hm⟩:=mf g h2;unfold iF RP gZ EP Z8 Z9;simp (disch:=decide) only[aX];rw[hx];simp (disch:=decide) only[aX];unfold En;cases plB x<;>exact⟨_,rfl,rfl⟩
def MO(k:Int)(t:Int×Int):Bool:=l9 (o8 t.2 0) (l9 (o8 k 36) (l9 (o8 t.1 2) true (o8 t.1 3)) (l9 (o8 k 39) (l9 (J6 2 t.1) (J6 t.1 5) false) (o8 t.1 1))) false
theorem Zi(k:Int)(t:Int×Int):FH k t=some (MO k t):=by unfold FH MO;cases o8 t.2 0<;>cases o8 k 36<;>cases o8 k 39<;>cases o8 t.1 2<;>cases J6 2 t.1<;>rfl
theorem Bf(t:Int):rW t=some (l9 (J6 2 t) (J6 t 4) false):=by
 unfold rW;by_cases h2:t=2
 ·subst h2;rfl
 by_cases h3:t=3
 ·subst h3;rfl
 by_cases h4:t=4
 ·subst h4;rfl
 rw[L9 h2,L9 h3,L9 h4];by_cases g:2<=t
 ·rw[X5 g,Y1 l7];rfl
 ·rw[Y1 l7];rfl
theorem DZ(t:Int):Dc t=some (l9 (J6 2 t) (J6 t 4) false):=Bf t
theorem WG(k:Int)(t:Int×Int):uH k t=some (MO k t):=by
 unfold uH MO;cases o8 t.2 0
 ·rfl
 cases o8 k 36
 ·cases o8 k 39
  ·rfl
  ·rw[Bf];simp only[F9,o6,o7,o9];by_cases g:2<=t.1
   ·rw[X5 g];simp only[o7];by_cases g4:t.1<=4
    ·rw[X5 g4,X5 (show t.1<=5 by omega)];rfl
    ·rw[Y1 l7];by_cases g5:t.1=5
     ·rw[O8 g5,X5 l7];rfl
     ·rw[L9 g5,Y1 l7];rfl
   ·rw[Y1 l7,L9 l7];rfl
 ·cases o8 t.1 2<;>rfl
def Qg(v:V3)(t:Int×Int):Bool:=l9 (plB v) (l9 (o8 v.1 t.1) (o8 v.2.1 t.2) false) false
theorem Uz(v:V3)(t:Int×Int):zK v t=some (Qg v t):=by unfold zK Qg;rw[xy,o9];cases plB v<;>cases o8 v.1 t.1<;>rfl
theorem a9T(v:V3)(t:Int×Int):Qy v t=some (Qg v t):=by unfold Qy Qg;rw[BC,o9];cases plB v<;>cases o8 v.1 t.1<;>rfl
def Em(k a b:Int)(first:Bool):Int:=l9 (o8 k 36) (D7 .i64 a b) (l9 (o8 k 37) (X9 .i64 a b) (l9 (o8 k 38) (l9 (D9 a b) b a) (l9 first b (l9 (D9 a b) b a))))
theorem a9S(k a b:Int)(f:Bool):Nb k a b f=some (Em k a b f):=by unfold Nb Em;cases o8 k 36<;>cases o8 k 37<;>cases o8 k 38<;>cases f<;>cases D9 a b<;>rfl
def YW(m:List V3)(N:Int)(t:Int×Int):V3⊕Int:=
 match H8 m N with
 |none=> .inr 6|some x=>l9 (o8 x.1 0) (.inr 6) (l9 (Qg x t) (.inl x) (.inr 8))
def Eo(k N:Int)(t:Int×Int)(b:Int×Bool)(m:List V3):(Int×Bool)⊕(V3×Int):=
 match YW m N t with
 | .inr c=> .inr ((0,0,0),c)| .inl x=>l9 (plB (t.1,0,Em k b.1 x.2.2 b.2)) (.inl (Em k b.1 x.2.2 b.2,false)) (.inr ((0,0,0),3))
def a1b(k N:Int)(t:Int×Int)(ms:List (List V3)):V3×Int:=
 l9 (MO k t) (match aG (Eo k N t) ms (l9 (o8 k 37) 1 0,true)with
  | .inr c=>c
  | .inl a=>l9 (o8 k 39) (l9 (o8 (x8 ms) 0) ((0,0,0),6) (En (t.1,0,a.1))) (En (t.1,0,a.1))) ((0,0,0),8)
theorem Jz(k N:Int)(env:aP)(t:Int×Int)(ht:H8 env.2.2.2.2.1 N=some t)(h0:0<=N)(hl:env.2.2.2.1.length<=1000000):sK (k,N) env=some (a1b k N t env.2.2.2.1):=by
 unfold sK a1b;simp only[ht,o9,Zi];cases MO k t
 ·rfl
 simp only[F9,o6,o7];rw[show l9 (o8 k 37) (some (1:Int)) (some 0)=some (l9 (o8 k 37) 1 0) by cases o8 k 37<;>rfl,o9];apply ql env.2.2.2.1 (Eo k N t) (λb i=>(((0,0,0),b.1,i):V3×Int×Int)) (λb=>(((0,0,0),b.1):V3×Int)) (λi b=>b.2=decide (i=0)) (l9 (o8 k 37) 1 0,true) hl rfl
 ·intro i m b hi hi' hb;have hm:=J9 env.2.2.2.1 i;rw[hi]at hm;have hlt:(i:Int)<x8 env.2.2.2.1:=by
   have:=Z4.1 hi;obtain⟨h,_⟩:=this;unfold x8;omega
  simp only[U5 hlt,o7,hm,o9];refine⟨?_,?_⟩
  ·unfold Eo YW;by_cases g:x8 m<=N
   ·rw[X5 g,wJ (.inr (L6 g))];rfl
   ·rw[Y1 l7];obtain⟨x,hx,_⟩:=mf h0 (show N<x8 m by omega);simp only[o6,hx,o9];cases o8 x.1 0
    case true=>rfl
    simp only[o6,o9,X7,a9T];cases Qg x t
    ·rfl
    simp only[F9,o6,o7,a9S,o9,Oe];have hz:o8 (i:Int) 0=b.2:=by rw[hb];unfold o8;congr 1;simp
    rw[hz];unfold En;cases plB (t.1,0,Em k b.1 x.2.2 b.2)
    ·rfl
    ·rw[fP l7];rfl
  ·intro b' hb';unfold Eo at hb';cases hf:YW m N t with
   |inr c=>rw[hf]at hb';cases hb'|inl x=>rw[hf]at hb';simp only at hb';cases hp:plB (t.1,0,Em k b.1 x.2.2 b.2)<;>rw[hp]at hb'<;>cases hb';simp
 ·intro b hb;rw[L6 (show x8 env.2.2.2.1<=(env.2.2.2.1.length:Int)from aV _)];rfl
 ·intro _;cases aG (Eo k N t) env.2.2.2.1 (l9 (o8 k 37) 1 0,true)with
  |inr c=>rfl|inl a=>simp only[X7,Oe,o9];cases o8 k 39<;>cases o8 (x8 env.2.2.2.1) 0<;>rfl
theorem a2S{x:V3}{t:Int×Int}(h:Qg x t=true):plB x=true/\x.1=t.1/\x.2.1=t.2:=by
 unfold Qg at h;cases h1:plB x<;>rw[h1]at h
 ·cases h
 cases h2:o8 x.1 t.1<;>rw[h2]at h
 ·cases h
 simp only[o7]at h;exact⟨rfl,O5.1 h2,O5.1 h⟩
theorem KO{k:Int}(hk:k=1){n:Int}(h:plB (k,0,n)=true):n=0\/n=1:=by subst hk;rcases a3r h with⟨m,h,g⟩|⟨m,h,g⟩|⟨m,h,g⟩|⟨m,h,g⟩|⟨m,h,g⟩|⟨e',m,h,g⟩<;>cases h;exact g
theorem Qm{k:Int}{t:Int×Int}(h:MO k t=true):t.2=0:=by
 unfold MO at h;cases g:o8 t.2 0<;>rw[g]at h
 ·cases h
 exact O5.1 g
theorem a5a{t:Int×Int}(h:MO 37 t=true):t.1=1:=by have:=Qm h;unfold MO at h;rw[O8 this]at h;exact O5.1 h
theorem a6K(k N:Int)(t:Int×Int)(hk:k=36\/k=37\/k=38\/k=39)(ha:MO k t=true)(b:Int×Bool)(x:V3)(hx:Qg x t=true)(i:Nat)(hi:i<=1000000)(hb:b.2=decide (i=0))(hp:k=36\/b.2=true/\k=39\/plB (t.1,0,b.1)=true)(v:V3)(hv:v=(0,0,0)):
  (l9 (o8 k 36) (o5 (gp (t.1,t.2,D7 .i64 b.1 x.2.2)) λ(q:Bool)=>l9 (E9 q) (some (Out.rt (((0,0,0),3):V3×Int))) (some (Out.nx ((v,(t.1,t.2,D7 .i64 b.1 x.2.2),D7 .i64 (i:Int) 1):V3×V3×Int))))
   (l9 (o8 k 37) (some (Out.nx (v,(t.1,t.2,qF b.1 x.2.2),D7 .i64 (i:Int) 1)))
    (l9 (o8 k 38) (some (Out.nx (v,(t.1,t.2,nz b.1 x.2.2),D7 .i64 (i:Int) 1)))
     (l9 (o8 k 39) (l9 (o8 (i:Int) 0) (some (Out.nx (v,x,D7 .i64 (i:Int) 1))) (l9 (D9 b.1 x.2.2) (some (Out.nx (v,x,D7 .i64 (i:Int) 1))) (some (Out.nx (v,(t.1,t.2,b.1),D7 .i64 (i:Int) 1)))))
      (some (Out.nx (v,(t.1,t.2,b.1),D7 .i64 (i:Int) 1)))))):Option (Out (V3×V3×Int) (V3×V3) (V3×Int)))=
  some (match(l9 (plB (t.1,0,Em k b.1 x.2.2 b.2)) (.inl (Em k b.1 x.2.2 b.2,false)) (.inr ((0,0,0),3)):(Int×Bool)⊕(V3×Int))with| .inl b' => .nx ((0,0,0),(t.1,t.2,b'.1),((i+1:Nat):Int))| .inr r=> .rt r)/\
  (k≠36->plB (t.1,0,Em k b.1 x.2.2 b.2)=true):=by
 subst hv;have hz:=Qm ha;obtain⟨hx1,hx2,hx3⟩:=a2S hx;have hxe:x=(t.1,t.2,x.2.2):=by rw[←hx2,←hx3]
 have hxp:plB (t.1,0,x.2.2)=true:=by rw[←hz,←hxe];exact hx1
 obtain⟨acc,fi⟩:=b;simp only at hb hp ⊢;rw[fP l7];rcases hk with rfl|rfl|rfl|rfl
 ·refine⟨?_,λh=>absurd rfl h⟩;simp (disch:=decide) only[O8,o7,xy,o9];rw[hz,show Em 36 acc x.2.2 fi=D7 .i64 acc x.2.2 from rfl];cases plB (t.1,0,D7 .i64 acc x.2.2)<;>rfl
 ·have ht1:=a5a ha;have hp' :plB (t.1,0,acc)=true:=by
   rcases hp with h|h|h
   ·exact absurd h G7
   ·exact absurd h.2 G7
   ·exact h
  have e1:=KO ht1 hp';have e2:=KO ht1 hxp;have e3:Em 37 acc x.2.2 fi=qF acc x.2.2/\plB (t.1,0,Em 37 acc x.2.2 fi)=true:=by rw[ht1];generalize x.2.2=q at e2 ⊢;rcases e1 with rfl|rfl<;>rcases e2 with rfl|rfl<;>exact⟨rfl,rfl⟩
  refine⟨?_,λ_=>e3.2⟩;simp (disch:=decide) only[O8,L9,o7,o6];rw[e3.2,e3.1,o7]
 ·have ht1:t.1=1:=by
   unfold MO at ha;rw[O8 hz]at ha;exact O5.1 ha
  have hp' :plB (t.1,0,acc)=true:=by
   rcases hp with h|h|h
   ·exact absurd h G7
   ·exact absurd h.2 G7
   ·exact h
  have e1:=KO ht1 hp';have e2:=KO ht1 hxp;have e3:Em 38 acc x.2.2 fi=nz acc x.2.2/\plB (t.1,0,Em 38 acc x.2.2 fi)=true:=by rw[ht1];generalize x.2.2=q at e2 ⊢;rcases e1 with rfl|rfl<;>rcases e2 with rfl|rfl<;>exact⟨rfl,rfl⟩
  refine⟨?_,λ_=>e3.2⟩;simp (disch:=decide) only[O8,L9,o7,o6];rw[e3.2,e3.1,o7]
 ·have hf:Em 39 acc x.2.2 fi=l9 fi x.2.2 (l9 (D9 acc x.2.2) x.2.2 acc):=rfl;simp (disch:=decide) only[O8,L9,o7,o6];rw[hf];have hz' :o8 (i:Int) 0=fi:=by rw[hb];unfold o8;congr 1;simp
  rw[hz'];cases fi
  case true=>simp only[o7,hxp];exact⟨by rw[←hxe],λ_=>trivial⟩
  case false=>
   have hp' :plB (t.1,0,acc)=true:=by
    rcases hp with h|h|h
    ·exact absurd h G7
    ·exact absurd h.1 A7
    ·exact h
   simp only[o6];cases D9 acc x.2.2
   ·simp only[o6,hp',o7];exact⟨trivial,λ_=>trivial⟩
   ·simp only[o7,hxp];exact⟨by rw[←hxe],λ_=>trivial⟩
theorem a6c{γ:Type}(c:Option γ)(K:γ->Option (V3×Int)):a6b (o5 c K)=o5 c λo=>a6b (K o):=by cases c<;>rfl
theorem vz{α β ρ:Type}(G:β->α->β⊕ρ)(P:ρ->Prop)(hG:∀b a r,G b a= .inr r->P r):∀(l:List α) (b:β) (r:ρ),aG G l b= .inr r->P r
 |[],b,r,h=>by cases h|a::l,b,r,h=>by
  unfold aG at h;cases hg:G b a with
  |inr r' =>rw[hg]at h;simp only at h;cases h;exact hG _ _ _ hg|inl b' =>rw[hg]at h;exact vz G P hG l b' r h
theorem a8J(k N:Int)(t:Int×Int)(b:Int×Bool)(m:List V3)(r:V3×Int)(h:Eo k N t b m= .inr r):r=((0,0,0),6)\/r=((0,0,0),8)\/r=((0,0,0),3):=by
 unfold Eo at h;cases hf:YW m N t with
 |inr c=>
  rw[hf]at h;simp only at h;cases h;unfold YW at hf;cases hm:H8 m N with
  |none=>rw[hm]at hf;cases hf;exact .inl rfl|some x=>
   rw[hm]at hf;simp only at hf;cases h1:o8 x.1 0<;>rw[h1]at hf
   ·cases h2:Qg x t<;>rw[h2]at hf<;>cases hf;exact .inr (.inl rfl)
   ·cases hf;exact .inl rfl
 |inl x=>rw[hf]at h;simp only at h;cases h1:plB (t.1,0,Em k b.1 x.2.2 b.2)<;>rw[h1]at h<;>cases h;exact .inr (.inr rfl)
theorem SH(k N:Int)(env:aP)(hk:k=36\/k=37\/k=38\/k=39)(he:iK (k,N) env=some true)(hl:env.2.2.2.1.length<=1000000):iF (k,N) [] env:=by
 have hN:0<=N/\N<x8 env.2.2.2.2.1:=by
  unfold iK at he;rcases hk with rfl|rfl|rfl|rfl <;>
  ·simp (disch:=decide) only[O8,L9,o7,o6,o9]at he;by_cases g:0<=N
   case neg=>rw[Y1 l7]at he;cases he
   rw[X5 g,o7]at he;exact⟨g,jC.1 (V6 he)⟩
 obtain⟨t,ht,_⟩:=mf hN.1 hN.2;refine⟨a1b k N t env.2.2.2.1,?_,?_⟩
 ·unfold RP;rw[ll0,show J6 36 k=true from X5 l7,show J6 k 39=true from X5 l7,Jz k N env t ht hN.1 hl];rfl
 have hA:Z8 (k,N) [] env=some (MO k t):=by
  unfold Z8;rcases hk with rfl|rfl|rfl|rfl <;>
  ·simp (disch:=decide) only[O8,L9,o7,o6,o9,ht,WG,Gs]
 have hC:Z9 (k,N) [] env=tX (k,N) env:=by
  unfold Z9;rcases hk with rfl|rfl|rfl|rfl <;>
  ·simp (disch:=decide) only[O8,L9,o7,o6,o9];generalize tX _ env=o;cases o<;>rfl
 unfold EP;rw[hA,o9,hC];unfold a1b;cases ha:MO k t
 ·rfl
 simp only[F9,o6,o7];have hz:=Qm ha;unfold tX;simp only[ht,o9];rw[show l9 (o8 k 37) (some (t.1,t.2,(1:Int))) (some (t.1,t.2,0))=some (t.1,t.2,l9 (o8 k 37) 1 0) by cases o8 k 37<;>rfl,o9];have hinit:k=36\/(true=true/\k=39)\/plB (t.1,0,l9 (o8 k 37) 1 0)=true:=by
  rcases hk with rfl|rfl|rfl|rfl
  ·exact .inl rfl
  ·right;right;rw[a5a ha];rfl
  ·right;right;have ht1:t.1=1:=by
    unfold MO at ha;rw[O8 hz]at ha;exact O5.1 ha
   rw[ht1];rfl
  ·exact .inr (.inl ⟨rfl,rfl⟩)
 by_cases hz0:k=39/\x8 env.2.2.2.1=0
 ·rw[O8 hz0.1,O8 hz0.2];have:env.2.2.2.1=[]:=by have:=hz0.2;unfold x8 at this;exact O7.1 l7
  rw[this];rfl
 rw[show(l9 (o8 k 39) (l9 (o8 (x8 env.2.2.2.1) 0) (some (Sum.inr (((0,0,0),6):V3×Int))) (some (Sum.inl ((0,0,0):V3)))) (some (Sum.inl (0,0,0))))=some (.inl (0,0,0)) by
  by_cases h1:k=39
  ·rw[O8 h1,L9 (λh=>hz0 ⟨h1,h⟩)];rfl
  ·rw[L9 h1];rfl]
 simp only[o9,X7];have hend:(match aG (Eo k N t) env.2.2.2.1 (l9 (o8 k 37) 1 0,true)with
  | .inr c=>c
  | .inl a=>l9 (o8 k 39) (l9 (o8 (x8 env.2.2.2.1) 0) ((0,0,0),6) (En (t.1,0,a.1))) (En (t.1,0,a.1)))=(match aG (Eo k N t) env.2.2.2.1 (l9 (o8 k 37) 1 0,true)with
  | .inr c=>c
  | .inl a=>En (t.1,0,a.1)):=by
  cases aG (Eo k N t) env.2.2.2.1 (l9 (o8 k 37) 1 0,true)with
  |inr c=>rfl|inl a=>
   by_cases h1:k=39
   ·rw[O8 h1,L9 (λh=>hz0 ⟨h1,h⟩)];rfl
   ·rw[L9 h1];rfl
 refine Eq.trans ?_ (congrArg some hend.symm);rw[a6c];apply ql env.2.2.2.1 (Eo k N t) (λb i=>(((0,0,0),(t.1,t.2,b.1),i):V3×V3×Int)) (λb=>(((0,0,0),(t.1,t.2,b.1)):V3×V3)) (λi b=>b.2=decide (i=0)/\(k=36\/(b.2=true/\k=39)\/plB (t.1,0,b.1)=true)) (l9 (o8 k 37) 1 0,true) hl ⟨rfl,hinit⟩
 ·intro i m b hi hi' hb;have hm:=J9 env.2.2.2.1 i;rw[hi]at hm;have hlt:(i:Int)<x8 env.2.2.2.1:=by
   have:=Z4.1 hi;obtain⟨h,_⟩:=this;unfold x8;omega
  simp only[U5 hlt,o7,hm,o9];by_cases g:x8 m<=N
  ·have e:Eo k N t b m= .inr ((0,0,0),6):=by unfold Eo YW;rw[wJ (.inr (L6 g))]
   rw[e];refine⟨?_,λ_ h=>by cases h⟩;rw[X5 g];rfl
  rw[Y1 l7];obtain⟨x,hx,_⟩:=mf hN.1 (show N<x8 m by omega);simp only[o6,hx,o9];cases h0:o8 x.1 0
  case true=>
   have e:Eo k N t b m= .inr ((0,0,0),6):=by unfold Eo YW;rw[hx];simp only[h0];rfl
   rw[e];exact⟨rfl,λ_ h=>by cases h⟩
  simp only[o6,o9,X7,Uz];cases hh:Qg x t
  ·have e:Eo k N t b m= .inr ((0,0,0),8):=by unfold Eo YW;rw[hx];simp only[h0,hh];rfl
   rw[e];exact⟨rfl,λ_ h=>by cases h⟩
  have e:Eo k N t b m=l9 (plB (t.1,0,Em k b.1 x.2.2 b.2)) (.inl (Em k b.1 x.2.2 b.2,false)) (.inr ((0,0,0),3)):=by unfold Eo YW;rw[hx];simp only[h0,hh,o7,o6]
  obtain⟨s1,s2⟩:=a6K k N t hk ha b x hh i hi' hb.1 hb.2 (0,0,0) rfl;refine⟨?_,?_⟩
  ·rw[e,F9,o6];refine Eq.trans (Eq.trans ?_ s1) ?_
   ·rfl
   ·cases plB (t.1,0,Em k b.1 x.2.2 b.2)<;>rfl
  ·intro b' hb';rw[e]at hb';cases hp:plB (t.1,0,Em k b.1 x.2.2 b.2)<;>rw[hp]at hb'<;>cases hb';exact⟨A7,.inr (.inr hp)⟩
 ·intro b hb;rw[L6 (show x8 env.2.2.2.1<=(env.2.2.2.1.length:Int)from aV _)];rfl
 ·intro hf;cases hq:aG (Eo k N t) env.2.2.2.1 (l9 (o8 k 37) 1 0,true)with
  |inr c=>rcases vz (Eo k N t) (λr=>r=((0,0,0),6)\/r=((0,0,0),8)\/r=((0,0,0),3)) (a8J k N t) _ _ _ hq with rfl|rfl|rfl<;>rfl
  |inl a=>simp only[X7,AX,JX,hz]
theorem a5o{k e n:Int}(hk:k=5)(h:plB (k,e,n)=true):0<=n/\n<=109572:=by subst hk;rcases a3r h with⟨m,h,g⟩|⟨m,h,g⟩|⟨m,h,g⟩|⟨m,h,g⟩|⟨m,h,g⟩|⟨e',m,h,g⟩<;>cases h;exact g
theorem b4j(N:Int)(x:V3)(env:aP):iF (10,N) [x] env:=by
 unfold iF RP EP oQ Z8 Z9 DD qV;simp (disch:=decide) only[aX];simp only[DZ,Bf,o9];cases l9 (J6 2 x.1) (J6 x.1 4) false
 ·exact⟨_,rfl,rfl⟩
 ·simp (disch:=decide) only[aX];exact⟨_,rfl,rfl⟩
theorem b4o(N:Int)(x:V3)(env:aP):iF (25,N) [x] env:=by
 unfold iF RP EP oQ Z8 Z9 DD qV;simp (disch:=decide) only[aX];cases o8 x.1 1
 ·exact⟨_,rfl,rfl⟩
 ·simp (disch:=decide) only[aX];exact⟨_,rfl,rfl⟩
theorem a4B(k N:Int)(x:V3)(env:aP)(hk:k=31\/k=32)(hx:plB x=true):iF (k,N) [x] env:=by
 have hAB:∃q:Int×Int×Int,x.1=5->uB x.2.2=some q/\BO x.2.2=some q:=⟨_,λh=>⟨Bo (a5o h hx).1 (a5o h hx).2,JB (a5o h hx).1 (a5o h hx).2⟩⟩;obtain⟨q,hAB⟩:=hAB;rcases hk with rfl|rfl
 all_goals
  unfold iF RP EP oQ Z8 Z9 DD qV;simp (disch:=decide) only[aX];cases h5:o8 x.1 5
  ·simp only[iw,o7,o9,Gs];exact⟨_,rfl,rfl⟩
  rw[(hAB (O5.1 h5)).1,(hAB (O5.1 h5)).2];simp (disch:=decide) only[aX];exact⟨_,rfl,rfl⟩
theorem b4t(N:Int)(x:V3)(env:aP)(hx:plB x=true)(he:iK (33,N) env=some true)(ht:∀t∈env.2.2.2.2.2,yQ t):iF (33,N) [x] env:=by
 unfold iK at he;simp (disch:=decide) only[O8,L9,o7,o6,o9]at he;by_cases g:0<=N
 case neg=>rw[Y1 l7]at he;cases he
 rw[X5 g,o7]at he;obtain⟨t,hq,hm⟩:=mf g (jC.1 (V6 he));have hr:=ht t hm;unfold iF RP EP oQ Z8 Z9 OE;simp (disch:=decide) only[aX];simp only[hq,o9,Uz,Qg,hx,o7];by_cases h1:x.1=t.2.1.1
 case neg=>rw[L9 h1];exact⟨_,rfl,rfl⟩
 rw[O8 h1];by_cases h2:x.2.1=t.2.1.2
 case neg=>rw[L9 h2];exact⟨_,rfl,rfl⟩
 rw[O8 h2];by_cases h3:1<=t.2.2.1.1
 case neg=>rw[Y1 (jU.1 h3),U5 (jU.1 h3)];exact⟨_,rfl,rfl⟩
 rw[X5 h3,L6 h3];by_cases h4:t.2.2.1.1<=6
 case neg=>rw[Y1 (jU.1 h4),U5 (jU.1 h4)];exact⟨_,rfl,rfl⟩
 rw[X5 h4,L6 h4];simp (disch:=decide) only[aX];rw[a6r _ _ (by have:=hr.1;omega),a3v _ _ (by have:=hr.1;omega)];simp (disch:=decide) only[aX];cases hl:UO t.2.2.2 env.1 x.2.2 with
 |mk i b=>
  cases b
  ·exact⟨_,rfl,rfl⟩
  ·obtain⟨l1,l2⟩:=a8E hl;obtain⟨row,hrow,_⟩:=mf l1 l2;simp (disch:=decide) only[aX];rw[hrow];simp (disch:=decide) only[aX];unfold En;cases plB (t.2.2.1.1,t.2.2.1.2,row.2.2.2)<;>exact⟨_,rfl,rfl⟩
theorem b4u(N:Int)(x:V3)(env:aP)(h0:0<=N)(hI:N<=9223372036854775807)(he:iK (34,N) env=some true)(ht:∀t∈env.2.2.2.2.2,yQ t):iF (34,N) [x] env:=by
 unfold iK at he;simp (disch:=decide) only[O8,L9,o7,o6,o9]at he;have hq0:0<=bQ .i64 N 8:=by
  rw[show bQ .i64 N 8=N / 8 by unfold bQ;rw[Int.tdiv_eq_ediv_of_nonneg h0];exact lF O6]
  omega
 obtain⟨t,hq,hm⟩:=mf hq0 (jC.1 (V6 he));have hr:=ht t hm;unfold iF RP EP oQ Z8 Z9;simp (disch:=decide) only[aX];simp only[hq,o9];cases o8 x.1 3
 ·exact⟨_,rfl,rfl⟩
 cases o8 t.2.1.1 3
 ·exact⟨_,rfl,rfl⟩
 cases o8 t.2.1.2 0
 ·exact⟨_,rfl,rfl⟩
 cases o8 t.2.2.1.1 4
 ·exact⟨_,rfl,rfl⟩
 cases o8 t.2.2.1.2 0
 ·exact⟨_,rfl,rfl⟩
 simp (disch:=decide) only[aX];rw[show dE true true=true from rfl];simp (disch:=decide) only[aX];rw[a0e _ _ _ hr,Zj _ _ _ hr];simp (disch:=decide) only[aX];exact⟨_,rfl,rfl⟩
theorem Tj(x y:V3):rX x y=some (l9 (o8 x.1 y.1) (o8 x.2.1 y.2.1) false):=by unfold rX;cases o8 x.1 y.1<;>rfl
theorem a4z(k N:Int)(x y:V3)(env:aP)(hk:k=11\/k=12):iF (k,N) [x,y] env:=by
 rcases hk with rfl|rfl
 all_goals
  (unfold iF RP EP Z8 Z9 jB aQ iC;simp (disch:=decide) only[aX])
  unfold uo;simp (disch:=decide) only[aX];simp only[Tj,Bf,DZ,o9];cases o8 x.1 y.1
  ·exact⟨_,rfl,rfl⟩
  cases o8 x.2.1 y.2.1
  ·exact⟨_,rfl,rfl⟩
  cases l9 (J6 2 x.1) (J6 x.1 4) false
  ·exact⟨_,rfl,rfl⟩
  simp (disch:=decide) only[aX];exact⟨_,rfl,rfl⟩
theorem a7C(k N:Int)(x y:V3)(env:aP)(hk:k=19\/k=20):iF (k,N) [x,y] env:=by
 rcases hk with rfl|rfl
 all_goals
  (unfold iF RP EP Z8 Z9 jB aQ iC;simp (disch:=decide) only[aX])
  unfold uo;simp (disch:=decide) only[aX];simp only[Tj,Bf,DZ,o9];cases o8 x.1 y.1
  ·exact⟨_,rfl,rfl⟩
  cases o8 x.2.1 y.2.1
  ·exact⟨_,rfl,rfl⟩
  simp (disch:=decide) only[aX];exact⟨_,rfl,rfl⟩
theorem a4A(k N:Int)(x y:V3)(env:aP)(hk:k=21\/k=22):iF (k,N) [x,y] env:=by
 rcases hk with rfl|rfl
 all_goals
  (unfold iF RP EP Z8 Z9 jB aQ iC;simp (disch:=decide) only[aX])
  unfold uo;simp (disch:=decide) only[aX];simp only[Tj,Bf,DZ,o9];cases o8 x.1 y.1
  ·exact⟨_,rfl,rfl⟩
  cases o8 x.2.1 y.2.1
  ·exact⟨_,rfl,rfl⟩
  simp (disch:=decide) only[aX];cases l9 (J6 2 x.1) (J6 x.1 4) false
  ·simp (disch:=decide) only[aX];cases o8 x.1 5
   ·exact⟨_,rfl,rfl⟩
   simp (disch:=decide) only[aX];exact⟨_,rfl,rfl⟩
  simp (disch:=decide) only[aX];exact⟨_,rfl,rfl⟩
theorem TK(k N:Int)(x y:V3)(env:aP)(hk:k=17\/k=18)(hx:plB x=true)(hy:plB y=true):iF (k,N) [x,y] env:=by
 have mx:En x=(x,0):=by unfold En;rw[hx];rfl
 have my:En y=(y,0):=by unfold En;rw[hy];rfl
 have hE:x.1=y.1->x.2.1=y.2.1->x.2.2=y.2.2->x=y:=λh1 h2 h3=>by rw[show x=(x.1,x.2.1,x.2.2)from rfl,h1,h2,h3]
 have fin:x.1=y.1->x.2.1=y.2.1->∀b:Bool,(∃r:V3×Int,l9 (jd b (D9 x.2.2 y.2.2)) (some (x,0)) (some (y,0))=some r/\a6b (l9 (jd b (D9 y.2.2 x.2.2)) (some (y,0)) (some (x,0)))=some r):=by
  intro h1 h2 b;by_cases g:x.2.2<y.2.2
  ·rw[U5 g,L6 (Int.le_of_lt g)];cases b
   ·exact⟨(y,0),rfl,by rw[show l9 (jd false false) (some (y,(0:Int))) (some (x,0))=some (y,0)from rfl,AX,JX,my]⟩
   ·exact⟨(x,0),rfl,by rw[show l9 (jd true false) (some (y,(0:Int))) (some (x,0))=some (x,0)from rfl,AX,JX,mx]⟩
  by_cases g' :y.2.2<x.2.2
  ·rw[U5 g',L6 (Int.le_of_lt g')];cases b
   ·exact⟨(x,0),rfl,by rw[show l9 (jd false true) (some (y,(0:Int))) (some (x,0))=some (x,0)from rfl,AX,JX,mx]⟩
   ·exact⟨(y,0),rfl,by rw[show l9 (jd true true) (some (y,(0:Int))) (some (x,0))=some (y,0)from rfl,AX,JX,my]⟩
  have e:=hE h1 h2 (Int.le_antisymm (fZ.1 g') (fZ.1 g));refine⟨(x,0),?_,?_⟩
  ·rw[e];cases jd b (D9 y.2.2 y.2.2)<;>rfl
  ·rw[←e];rw[show l9 (jd b (D9 x.2.2 x.2.2)) (some (x,(0:Int))) (some (x,0))=some (x,0) by cases jd b (D9 x.2.2 x.2.2)<;>rfl,AX,JX,mx]
 have osum:∀(c:Bool),(o5 (l9 c (some (Sum.inr (y,(0:Int)):V3⊕(V3×Int))) (some (.inr (x,0)))) λo=>aI o (λ_=>o5 (nV x.2.2 y.2.2) λ(q:Int)=>some ((2,0,q),(0:Int))) λr=>some r)=l9 c (some (y,0)) (some (x,0)):=λc=>by cases c<;>rfl
 rcases hk with rfl|rfl
 all_goals
  (unfold iF RP EP Z8 Z9 jB aQ iC;simp (disch:=decide) only[aX])
  unfold uo;simp (disch:=decide) only[aX];simp only[Tj,Bf,DZ,o9];cases g1:o8 x.1 y.1
  ·exact⟨_,rfl,rfl⟩
  cases g2:o8 x.2.1 y.2.1
  ·exact⟨_,rfl,rfl⟩
  simp (disch:=decide) only[aX];have F:=fin (O5.1 g1) (O5.1 g2);rw[osum];cases l9 (J6 2 x.1) (J6 x.1 4) false
  ·simp (disch:=decide) only[aX];cases o8 x.1 5
   ·exact⟨_,rfl,rfl⟩
   simp (disch:=decide) only[aX];simp only[jm];first|exact F true|exact F false
  simp (disch:=decide) only[aX];simp only[jm];first|exact F true|exact F false
theorem b4p(N:Int)(x y:V3)(env:aP):iF (27,N) [x,y] env:=by
 (unfold iF RP EP Z8 Z9 jB aQ iC;simp (disch:=decide) only[aX])
 unfold zx;simp (disch:=decide) only[aX];cases g1:o8 x.1 5
 ·exact⟨_,rfl,rfl⟩
 cases o8 y.1 2
 ·exact⟨_,rfl,rfl⟩
 simp (disch:=decide) only[aX];rw[O5.1 g1];exact⟨_,rfl,rfl⟩
theorem b4q(N:Int)(x y:V3)(env:aP):iF (28,N) [x,y] env:=by
 have hA:∃q,tN x.2.2 y.2.2=some q/\oC x.2.2 y.2.2=some q:=⟨_,Nz _ _,LU _ _⟩;obtain⟨q,h1,h2⟩:=hA
 (unfold iF RP EP Z8 Z9 jB aQ iC;simp (disch:=decide) only[aX])
 unfold zx;simp (disch:=decide) only[aX];cases g1:o8 x.1 5
 ·exact⟨_,rfl,rfl⟩
 cases o8 y.1 2
 ·exact⟨_,rfl,rfl⟩
 simp (disch:=decide) only[aX];rw[h1,h2];simp (disch:=decide) only[aX];exact⟨_,rfl,rfl⟩
theorem b4r(N:Int)(x y:V3)(env:aP):iF (29,N) [x,y] env:=by
 (unfold iF RP EP Z8 Z9 jB aQ iC;simp (disch:=decide) only[aX])
 unfold zx;simp (disch:=decide) only[aX];cases g1:o8 x.1 5
 ·exact⟨_,rfl,rfl⟩
 cases o8 y.1 5
 ·exact⟨_,rfl,rfl⟩
 simp (disch:=decide) only[aX];exact⟨_,rfl,rfl⟩
theorem b4s(N:Int)(x y:V3)(env:aP):iF (30,N) [x,y] env:=by
 have hA:∃q,nV x.2.2 y.2.2=some q/\uK x.2.2 y.2.2=some q:=⟨_,SG _ _,Qx _ _⟩;obtain⟨q,h1,h2⟩:=hA
 (unfold iF RP EP Z8 Z9 jB aQ iC;simp (disch:=decide) only[aX])
 unfold zx;simp (disch:=decide) only[aX];cases g1:o8 x.1 5
 ·exact⟨_,rfl,rfl⟩
 cases o8 y.1 5
 ·exact⟨_,rfl,rfl⟩
 simp (disch:=decide) only[aX];rw[h1,h2];simp (disch:=decide) only[aX];exact⟨_,rfl,rfl⟩
theorem b4l(N:Int)(x y:V3)(env:aP):iF (14,N) [x,y] env:=by
 have hA:∃q,Ea x.2.2 y.2.2 N=some q/\ES x.2.2 y.2.2 N=some q:=⟨_,a7D _ _ _,a6T _ _ _⟩;have hB:∃q,JA x.2.2 y.2.2 N=some q/\KU x.2.2 y.2.2 N=some q:=⟨_,b2O _ _ _,a9U _ _ _⟩;obtain⟨q,h1,h2⟩:=hA;obtain⟨q',h3,h4⟩:=hB
 (unfold iF RP EP Z8 Z9 jB aQ iC;simp (disch:=decide) only[aX])
 unfold Ae zh;simp (disch:=decide) only[aX];rw[h1,h2,h3,h4];cases o8 y.1 4
 ·exact⟨_,rfl,rfl⟩
 by_cases g3:x.1=3
 ·rw[O8 g3];simp (disch:=decide) only[aX];exact⟨_,rfl,rfl⟩
 rw[L9 g3];simp (disch:=decide) only[aX];cases o8 x.1 4
 ·exact⟨_,rfl,rfl⟩
 simp (disch:=decide) only[aX];exact⟨_,rfl,rfl⟩
theorem b4n(N:Int)(x y:V3)(env:aP):iF (16,N) [x,y] env:=by
 have hA:∃q,xZ x.2.2 y.2.2 N=some q/\BF x.2.2 y.2.2 N=some q:=⟨_,a3A _ _ _,a1v _ _ _⟩;obtain⟨q,h1,h2⟩:=hA
 (unfold iF RP EP Z8 Z9 jB aQ iC;simp (disch:=decide) only[aX])
 unfold Ae zh;simp (disch:=decide) only[aX];rw[h1,h2];cases o8 x.1 3
 ·exact⟨_,rfl,rfl⟩
 cases o8 y.1 3
 ·exact⟨_,rfl,rfl⟩
 simp (disch:=decide) only[aX];exact⟨_,rfl,rfl⟩
theorem b4m(N:Int)(x y:V3)(env:aP):iF (15,N) [x,y] env:=by
 have hA:∃q,iV x.2.2 y.2.2 N=some q/\zZ x.2.2 y.2.2 N=some q:=⟨_,EF _ _ _,Zk _ _ _⟩;have hB:∃q,wO x.2.2 y.2.2 N=some q/\yK x.2.2 y.2.2 N=some q:=⟨_,YH _ _ _,WO _ _ _⟩;obtain⟨q,h1,h2⟩:=hA;obtain⟨q',h3,h4⟩:=hB
 (unfold iF RP EP Z8 Z9 jB aQ iC;simp (disch:=decide) only[aX])
 unfold Ae zh;simp (disch:=decide) only[aX];rw[h1,h2,h3,h4];by_cases g2:y.1=2
 ·rw[O8 g2,L9 (show y.1≠3 by rw[g2];decide)];simp (disch:=decide) only[aX];by_cases g3:x.1=3
  ·rw[O8 g3,L9 (show x.1≠2 by rw[g3];decide)];simp (disch:=decide) only[aX];exact⟨_,rfl,rfl⟩
  rw[L9 g3];cases o8 x.1 2
  ·exact⟨_,rfl,rfl⟩
  simp (disch:=decide) only[aX];exact⟨_,rfl,rfl⟩
 rw[L9 g2];simp (disch:=decide) only[aX];cases o8 x.1 3
 ·exact⟨_,rfl,rfl⟩
 simp (disch:=decide) only[aX];cases o8 y.1 3
 ·exact⟨_,rfl,rfl⟩
 simp (disch:=decide) only[aX];exact⟨_,rfl,rfl⟩
theorem zf(n:Int):(n<0/\Y4 n=-n)\/(0<=n/\Y4 n=n):=by
 unfold Y4;by_cases h:n<0
 ·left;exact⟨h,if_pos h⟩
 ·right;exact⟨l7,if_neg h⟩
theorem a4t(a b:Int):(l9 (E9 (jd (D9 a 0) (D9 b 0))) (-(Y4 a*Y4 b)) (Y4 a*Y4 b))=a*b:=by
 rcases zf a with⟨h1,e1⟩|⟨h1,e1⟩<;>rcases zf b with⟨h2,e2⟩|⟨h2,e2⟩<;>rw[e1,e2]
 ·rw[U5 h1,U5 h2];show -a*-b=a*b;rw[Int.neg_mul_neg]
 ·rw[U5 h1,L6 h2];show -(-a*b)=a*b;rw[jg,Int.neg_neg]
 ·rw[L6 h1,U5 h2];show -(a*-b)=a*b;rw[Int.mul_neg,Int.neg_neg]
 ·rw[L6 h1,L6 h2];rfl
theorem a3t{a b:Int}(ha:-1000000000000000<=a/\a<=1000000000000000)(hb:-1000000000000<=b/\b<=1000000000000):xk a b=some (l9 (D9 1000000000000000 (Y4 a*Y4 b)) (0,3) (a*b,0)):=by
 unfold xk;rw[NW l7 l7,NW l7 l7];have A0:0<=Y4 a/\Y4 a<=1000000000000000:=by rcases zf a with⟨h1,e1⟩|⟨h1,e1⟩<;>omega
 have B0:0<=Y4 b/\Y4 b<=1000000000000:=by rcases zf b with⟨h1,e1⟩|⟨h1,e1⟩<;>omega
 rw[Oi A0.1 l7 B0.1 l7,o9];have hm:=a4t a b;have hp:0<=Y4 a*Y4 b:=P7 A0.1 B0.1;generalize Y4 a*Y4 b=p at hm hp ⊢;simp only;by_cases g:p / 18446744073709551616=0
 case neg=>rw[L9 g,U5 (show(1000000000000000:Int)<p by omega)];rfl
 rw[O8 g,show p % 18446744073709551616=p by omega];by_cases g2:1000000000000000<p
 ·rw[U5 g2];rfl
 rw[L6 l7];simp only[F9,o6];rw[show wrap .i64 p=p from lF O6,U2 O6,show(0:Int) -p=-p by omega];rw[←hm];cases E9 (jd (D9 a 0) (D9 b 0))<;>rfl
theorem Ia{x y M:Int}(W:V3×Int)(hy:0<=y)(hM:0<=M)(hM2:M<=1000000000000000):l9 (E9 (o8 y 0)) (o5 (oG .i64 M y) λ(q:Int)=>l9 (D9 q x) (some ((0,0,0),3)) (some W)) (some W)=some (l9 (D9 M (x*y)) ((0,0,0),3) W):=by
 by_cases h:y=0
 ·subst h;rw[O8 rfl,Int.mul_zero,L6 hM];rfl
 rw[L9 h];simp only[iw,o7];rw[vC hM l7 l7,o9];have e:M / y<x↔M<x*y:=Int.ediv_lt_iff_lt_mul l7;by_cases g:M / y<x
 ·rw[U5 g,U5 (e.1 g)];rfl
 ·rw[L6 (fZ.1 g),L6 (fZ.1 λh=>g (e.2 h))];rfl
theorem a1u{k a b M:Int}(hM:Ad k=some (-M,M))(hM0:0<=M)(hM2:M<=1000000000000000)(ha:-1000000000000000<=a/\a<=1000000000000000)(hb:-1000000000000<=b/\b<=1000000000000):yh k a b=some (l9 (D9 M (Y4 a*Y4 b)) ((0,0,0),3) (En (k,0,X9 .i64 a b))):=by
 unfold yh;rw[hM,o9];simp only[Oe,o9];have sa:H9 .i64 0 a=-a:=by rw[U2 O6];omega
 have sb:H9 .i64 0 b=-b:=by rw[U2 O6];omega
 rw[sa,sb];rcases zf a with⟨h1,e1⟩|⟨h1,e1⟩<;>rcases zf b with⟨h2,e2⟩|⟨h2,e2⟩<;>rw[e1,e2]
 ·rw[U5 h1,U5 h2];exact Ia _ l7 hM0 hM2
 ·rw[U5 h1,L6 h2];exact Ia _ l7 hM0 hM2
 ·rw[L6 h1,U5 h2];exact Ia _ l7 hM0 hM2
 ·rw[L6 h1,L6 h2];exact Ia _ l7 hM0 hM2
theorem Vw{k a b M:Int}(hk:Dy k=(-M,M))(hM0:0<=M)(hM2:M<=1000000000000000)(ha:-1000000000000000<=a/\a<=1000000000000000)(hb:-1000000000000<=b/\b<=1000000000000):∃r:V3×Int,yh k a b=some r/\∃q:Int×Int,xk a b=some q/\Wu (k,0,q.1) q.2=r:=by
 refine⟨_,a1u (by rw[a4F,hk]) hM0 hM2 ha hb,_,a3t ha hb,?_⟩;have hm:=a4t a b;have hmd:Y4 a*Y4 b=Y4 (a*b):=by rcases zf (a*b)with⟨h,e⟩|⟨h,e⟩<;>(have hn:=P7 (kG a) (kG b);cases hq:E9 (jd (D9 a 0) (D9 b 0))<;>rw[hq]at hm<;>simp only[o7,o6]at hm<;>omega)
 rw[hmd];have habs:=zf (a*b);have hI:Y4 (a*b)<=1000000000000000->X9 .i64 a b=a*b:=λh=>lh O6;have hpl:M<Y4 (a*b)->plB (k,0,a*b)=false:=by
  intro h;unfold plB;rw[hk];simp only;by_cases g:-M<=a*b
  ·rw[X5 g,Y1 (show M<a*b by omega)];rfl
  ·rw[Y1 l7];rfl
 generalize a*b=p at*;by_cases g:1000000000000000<Y4 p
 ·rw[U5 g,U5 l7];rfl
 rw[L6 l7,hI l7];simp only[o6,JX];by_cases g2:M<Y4 p
 ·rw[U5 g2];unfold En;rw[hpl g2];rfl
 ·rw[L6 l7];rfl
theorem a5p{k e n:Int}(h:plB (k,e,n)=true):(k=2->-1000000000000<=n/\n<=1000000000000)/\(k=3->-1000000000000000<=n/\n<=1000000000000000):=by rcases a3r h with⟨m,h,g⟩|⟨m,h,g⟩|⟨m,h,g⟩|⟨m,h,g⟩|⟨m,h,g⟩|⟨e',m,h,g⟩<;>cases h<;>exact⟨λh=>by first|exact g|exact absurd h G7,λh=>by first|exact g|exact absurd h G7⟩
theorem b4k(N:Int)(x y:V3)(env:aP)(hx:plB x=true)(hy:plB y=true):iF (13,N) [x,y] env:=by
 have hX:=a5p (k:=x.1) (e:=x.2.1) (n:=x.2.2) hx;have hY:=a5p (k:=y.1) (e:=y.2.1) (n:=y.2.2) hy;have key:y.1=2->x.1=2\/x.1=3->∃r:V3×Int,yh x.1 x.2.2 y.2.2=some r/\∃q:Int×Int,xk x.2.2 y.2.2=some q/\Wu (x.1,0,q.1) q.2=r:=by
  intro h2 h;have hb:=hY.1 h2;rcases h with h|h
  ·have ha:=hX.1 h;exact Vw (M:=1000000000000) (by rw[h];rfl) G7 G7 ⟨Int.le_trans G7 ha.1,Int.le_trans ha.2 G7⟩ hb
  ·have ha:=hX.2 h;exact Vw (M:=1000000000000000) (by rw[h];rfl) G7 G7 ha hb
 (unfold iF RP EP Z8 Z9 jB aQ iC;simp (disch:=decide) only[aX])
 unfold Ae zh;simp (disch:=decide) only[aX];cases g2:o8 y.1 2
 ·exact⟨_,rfl,rfl⟩
 by_cases g3:x.1=3
 ·obtain⟨r,e1,q,e2,e3⟩:=key (O5.1 g2) (.inr g3);rw[O8 g3,L9 (show x.1≠2 by rw[g3];decide)];simp (disch:=decide) only[aX];rw[e1,e2];simp (disch:=decide) only[aX];exact⟨_,rfl,congrArg some e3⟩
 rw[L9 g3];cases g4:o8 x.1 2
 ·exact⟨_,rfl,rfl⟩
 obtain⟨r,e1,q,e2,e3⟩:=key (O5.1 g2) (.inl (O5.1 g4));simp (disch:=decide) only[aX];rw[e1,e2];simp (disch:=decide) only[aX];exact⟨_,rfl,congrArg some e3⟩
theorem a7k:∀i:Fin 40,jY ((i.1:Nat):Int)=vI ((i.1:Nat):Int):=by decide+kernel
theorem a7E:∀i:Fin 40,(arF ((i.1:Nat):Int)=0->i.1∈[1,2,3,4,5,6,7,8,9,35,36,37,38,39])/\(arF ((i.1:Nat):Int)=1->i.1∈[10,25,31,32,33,34])/\(arF ((i.1:Nat):Int)=2->i.1∈[11,12,13,14,15,16,17,18,19,20,21,22,23,24,27,28,29,30])/\(arF ((i.1:Nat):Int)=3->i.1=26):=by decide+kernel
theorem b6T{k:Int}(h:k<1\/39<k):arF k=-1:=by
 unfold arF lJ;rw[L9 (show k≠10 by omega),L9 (show k≠25 by omega),L9 (show k≠31 by omega),L9 (show k≠32 by omega),L9 (show k≠33 by omega),L9 (show k≠34 by omega),L9 (show k≠26 by omega)];rcases h with h|h
 ·rw[Y1 (show k<1 by omega),Y1 (show k<35 by omega),Y1 (show k<11 by omega)];rfl
 ·rw[X5 (show 1<=k by omega),Y1 (show 9<k by omega),X5 (show 35<=k by omega),Y1 (show 39<k by omega),X5 (show 11<=k by omega),Y1 (show 30<k by omega)];rfl
theorem b4w{k:Int}(h:arF k≠-1):∃i:Fin 40,k=((i.1:Nat):Int):=by
 by_cases g:1<=k/\k<=39
 ·exact⟨⟨k.toNat,l7⟩,by simp;omega⟩
 ·exact absurd (b6T l7) h
theorem b1O{k:Int}(h:arF k≠-1):jY k=vI k:=by obtain⟨i,rfl⟩:=b4w h;exact a7k i
theorem XM(k:Int):∃b,vI k=some b:=by unfold vI;cases J6 1 k<;>cases J6 k 8<;>cases J6 36 k<;>cases J6 k 39<;>cases o8 k 14<;>cases o8 k 15<;>cases o8 k 16<;>cases o8 k 33<;>exact⟨_,rfl⟩
def a6i(k N:Int):Bool:=l9 (l9 (o8 k 14) true (l9 (o8 k 15) true (o8 k 16))) (l9 (J6 0 N) (J6 N 5) false) (l9 (o8 k 34) (l9 (J6 0 N) (J6 (cZ N 8) 5) false) (l9 (o8 k 6) (J6 0 N) true))
theorem a0B(k N:Int):(o5 (l9 (o8 k 14) (some (o8 k 14)) (l9 (o8 k 15) (some (o8 k 15)) (some (o8 k 16)))) λ(x:Bool)=>l9 x (l9 (J6 0 N) (some (J6 N 5)) (some false)) (l9 (o8 k 34) (l9 (J6 0 N) (some (J6 (cZ N 8) 5)) (some false)) (l9 (o8 k 6) (some (J6 0 N)) (some true))))=some (a6i k N):=by unfold a6i;cases o8 k 14<;>cases o8 k 15<;>cases o8 k 16<;>cases J6 0 N<;>cases o8 k 34<;>cases o8 k 6<;>rfl
def a2O(k N:Int):Bool:=l9 (o8 N 0) (a6i k N) (l9 ((vI k).getD false) (a6i k N) false)
theorem a6g{k N c:Int}(h:arF k=c):CZ (k,N) c=some (a2O k N):=by unfold CZ a2O;rw[a9V,o9,O8 h];simp only[F9,o6,a0B];obtain⟨b,hb⟩:=XM k;rw[hb];cases o8 N 0<;>cases b<;>rfl
theorem a2j{k N:Int}(h:arF k≠-1):qL (k,N)=some (a2O k N):=by unfold qL a2O;rw[TL,o9,L6 (show 0<=arF k by have:=(IZ k).2.2;omega)];simp only[o6,a0B];rw[b1O h];obtain⟨b,hb⟩:=XM k;rw[hb];cases o8 N 0<;>cases b<;>rfl
theorem a4l(k N:Int):∃b,qL (k,N)=some b:=by
 by_cases h:arF k=-1
 ·refine⟨false,?_⟩;unfold qL;rw[TL,o9,h];rfl
 ·exact⟨_,a2j h⟩
theorem a0x(n:Int×Int)(env:aP):∃b,iK n env=some b:=by
 unfold iK;by_cases h7:n.1=7
 ·rw[O8 h7,o7];cases J6 0 n.2<;>exact⟨_,rfl⟩
 rw[L9 h7,o6];by_cases h8:n.1=8
 ·rw[O8 h8,o7];by_cases g:0<=n.2
  case neg=>rw[Y1 (jU.1 g)];exact⟨_,rfl⟩
  by_cases g2:n.2<x8 env.2.2.1
  case neg=>rw[X5 g,L6 (fZ.1 g2)];exact⟨_,rfl⟩
  obtain⟨x,hx,_⟩:=mf g g2;rw[X5 g,U5 g2,hx];exact⟨_,rfl⟩
 rw[L9 h8,o6];cases o8 n.1 33
 ·cases o8 n.1 34
  ·cases o8 n.1 36<;>cases o8 n.1 37<;>cases o8 n.1 38<;>cases o8 n.1 39<;>cases J6 0 n.2<;>exact⟨_,rfl⟩
  ·exact⟨_,rfl⟩
 ·cases J6 0 n.2<;>exact⟨_,rfl⟩
theorem b1W{α:Type}(l:List α)(p:α->Bool):l.all p= !l.any λv=> !p v:=by
 induction l with
 |nil=>rfl|cons a l ih=>rw[List.all_cons,yV,Bool.not_or,Bool.not_not,ih]
theorem a7B(l:List V3)(hl:l.length<=1000000):vS l=some (l.all plB):=by
 unfold vS;have e:=Gx l (λv=> !plB v) false PUnit.unit (f:=λ(x:Int)=>l9 (D9 x (x8 l)) (o5 (H8 l x) λ(x_1:V3)=>o5 (gp x_1) λ(x_2:Bool)=>l9 (E9 x_2) (some (Out.rt false)) (some (Out.nx (D7 IntKind.i64 x 1)))) (some (Out.ex PUnit.unit))) hl
  (λi a hi=>by
   have hlt:(i:Int)<x8 l:=by have:=Z4.1 hi;obtain⟨h,_⟩:=this;unfold x8;omega
   have hm:=J9 l i;rw[hi]at hm;simp only[U5 hlt,o7,hm,o9,xy];cases plB a<;>rfl) (by rw[L6 (show x8 l<=(l.length:Int)from aV _)];rfl)
 rw[show aY _ _=_ from e];rw[b1W l plB];cases l.any λv=> !plB v<;>rfl
theorem a6S(l:List V3)(hl:l.length<=1000000){γ:Type}{K:V3⊕(V3×Int)->Option γ} :(o5 (aY
      (λ(x:V3×Int)=>
       l9 (D9 x.2 (x8 l))
        (o5 (H8 l x.2) λ(x_1:V3)=>
         o5 (ja x_1) λ(x_2:Bool)=>
          l9 (E9 x_2) (some (Out.rt (((0,0,0),8):V3×Int))) (some (Out.nx (x.1,D7 IntKind.i64 x.2 1))))
        (some (Out.ex x.1)))
      ((0,0,0),0)) K)=K (l9 (l.all plB) (.inl (0,0,0)) (.inr ((0,0,0),8))):=by
 have hf:∀(l:List V3) (u:V3),aG (λ(_:V3) (v:V3)=>(l9 (plB v) (.inl ((0,0,0):V3)) (.inr (((0,0,0),8):V3×Int)):V3⊕(V3×Int))) l (0,0,0)=l9 (l.all plB) (.inl (0,0,0)) (.inr ((0,0,0),8)):=by
  intro l u;induction l with
  |nil=>rfl|cons a l ih=>
   unfold aG;rw[List.all_cons];cases plB a
   ·rfl
   ·exact ih
 apply ql l (λ(_:V3) (v:V3)=>(l9 (plB v) (.inl ((0,0,0):V3)) (.inr (((0,0,0),8):V3×Int)):V3⊕(V3×Int))) (λb i=>((b,i):V3×Int)) (λb=>b) (λi b=>b=(0,0,0)) (0,0,0) hl rfl
 ·intro i a b hi hi' hb;subst hb;have hlt:(i:Int)<x8 l:=by
   have:=Z4.1 hi;obtain⟨h,_⟩:=this;unfold x8;omega
  have hm:=J9 l i;rw[hi]at hm;simp only[U5 hlt,o7,hm,o9,BC];cases plB a
  ·exact⟨rfl,λ_ h=>by cases h⟩
  ·exact⟨by rw[fP l7];rfl,λ_ h=>by cases h;rfl⟩
 ·intro b hb;simp only[L6 (show x8 l<=(l.length:Int)from aV _),o6]
 ·intro _;rw[hf l (0,0,0)];cases l.all plB<;>rfl
structure EvOk (env:aP):Prop where
 ms:env.2.2.2.1.length<=1000000
 tb:∀t∈env.2.2.2.2.2,yQ t
theorem b4i(k N:Int)(args:List V3)(env:aP)(hE:EvOk env)(hN:-9223372036854775808<=N/\N<=9223372036854775807)(hk:k≠23/\k≠24/\k≠26)(ha:arF k=x8 args)(hf:a2O k N=true)(he:iK (k,N) env=some true)(hp:args.all plB=true):iF (k,N) args env:=by
 have hne:arF k≠-1:=by rw[ha];unfold x8;omega
 have hN34:k=34->0<=N:=by
  rintro rfl;unfold a2O at hf;have:a6i 34 N=true:=by
   cases g:o8 N 0<;>rw[g]at hf
   ·exact hf
   ·exact hf
  unfold a6i at this;by_cases g:0<=N
  ·exact g
  ·rw[Y1 l7]at this;cases this
 obtain⟨i,hi⟩:=b4w hne;obtain⟨a0,a1,a2,a3⟩:=a7E i;rw[←hi,ha]at a0 a1 a2 a3;match args,ha,hp with
 |[],ha,hp=>
  have:=a0 rfl;simp only[C9,qE,or_false]at this;rcases this with h|h|h|h|h|h|h|h|h|h|h|h|h|h<;>rw[h]at hi<;>subst hi
  ·exact NC _ _ _ G7
  ·exact NC _ _ _ G7
  ·exact NC _ _ _ G7
  ·exact NC _ _ _ G7
  ·exact NC _ _ _ G7
  ·exact b6P _ _
  ·exact b6Q _ _ he
  ·exact b6R _ _ he
  ·exact b6S _ _
  ·exact b4v _ _
  ·exact SH _ _ _ G7 he hE.ms
  ·exact SH _ _ _ G7 he hE.ms
  ·exact SH _ _ _ G7 he hE.ms
  ·exact SH _ _ _ G7 he hE.ms
 |[x],ha,hp=>
  have hx:plB x=true:=by simpa using hp
  have:=a1 rfl;simp only[C9,qE,or_false]at this;rcases this with h|h|h|h|h|h<;>rw[h]at hi<;>subst hi
  ·exact b4j _ _ _
  ·exact b4o _ _ _
  ·exact a4B _ _ _ _ G7 hx
  ·exact a4B _ _ _ _ G7 hx
  ·exact b4t _ _ _ hx he hE.tb
  ·exact b4u _ _ _ (hN34 rfl) hN.2 he hE.tb
 |[x,y],ha,hp=>
  have hxy:plB x=true/\plB y=true:=by simpa using hp
  have:=a2 rfl;simp only[C9,qE,or_false]at this;rcases this with h|h|h|h|h|h|h|h|h|h|h|h|h|h|h|h|h|h<;>rw[h]at hi<;>subst hi
  ·exact a4z _ _ _ _ _ G7
  ·exact a4z _ _ _ _ _ G7
  ·exact b4k _ _ _ _ hxy.1 hxy.2
  ·exact b4l _ _ _ _
  ·exact b4m _ _ _ _
  ·exact b4n _ _ _ _
  ·exact TK _ _ _ _ _ G7 hxy.1 hxy.2
  ·exact TK _ _ _ _ _ G7 hxy.1 hxy.2
  ·exact a7C _ _ _ _ _ G7
  ·exact a7C _ _ _ _ _ G7
  ·exact a4A _ _ _ _ _ G7
  ·exact a4A _ _ _ _ _ G7
  ·exact absurd rfl hk.1
  ·exact absurd rfl hk.2.1
  ·exact b4p _ _ _ _
  ·exact b4q _ _ _ _
  ·exact b4r _ _ _ _
  ·exact b4s _ _ _ _
 |[x,y,z],ha,hp=>have h:=a3 rfl;rw[h]at hi;exact absurd hi hk.2.2|x::y::z::w::l,ha,hp=>
  have h1:=(IZ k).2.2;have:x8 (x::y::z::w::l)=(l.length:Int)+4:=by unfold x8;simp<;>omega
  rw[this]at ha;omega
theorem ZX(k N:Int)(args:List V3)(env:aP)(hE:EvOk env)(hN:-9223372036854775808<=N/\N<=9223372036854775807)(hk:k≠23/\k≠24/\k≠26)(hl:args.length<=1000000):∃r:V3×Int,wR (k,N) args env=some r/\yS (k,N) args env=some r:=by
 by_cases ha:arF k=x8 args
 case neg=>
  refine⟨((0,0,0),2),?_,?_⟩
  ·unfold wR CZ;rw[a9V,o9,L9 ha];rfl
  ·unfold yS;obtain⟨b,hb⟩:=a4l k N;rw[hb,o9];cases b
   ·rfl
   ·rw[TL,o9,L9 (λh=>ha h.symm)];rfl
 have hne:arF k≠-1:=by rw[ha];unfold x8;omega
 unfold wR yS;rw[a6g ha,a2j hne,TL];simp only[o9,O8 ha.symm];cases hf:a2O k N
 ·exact⟨_,rfl,rfl⟩
 simp only[F9,o6,o9,X7];obtain⟨b,hb⟩:=a0x (k,N) env;rw[show BP (k,N) env=some b from hb,hb];cases b
 ·exact⟨_,rfl,rfl⟩
 simp only[o9,F9,o6];rw[a6S args hl,a7B args hl,o9];cases hp:args.all plB
 ·exact⟨_,rfl,rfl⟩
 exact b4i k N args env hE hN hk ha hf hb hp
def XT.node:XT->Int×Int
 | .l0 n=>n| .l1 n _=>n| .l2 n _ _=>n| .l3 n _ _ _=>n
def rtI(t:XT)(o:Nat):Nat:=o+t.size -1
def At(e:List (Int×Int))(S:List Int)(t:XT)(o:Nat):Prop:=∃pre suf S1 S2,e=pre++t.post++suf/\S=S1++t.sts o++S2/\pre.length=o/\S1.length=o
theorem b3A{e:List (Int×Int)}{S:List Int}{n:Int×Int}{a:XT}{o:Nat}(h:At e S (.l1 n a) o):At e S a o:=by obtain⟨p,s,S1,S2,h1,h2,h3,h4⟩:=h;exact⟨p,[n]++s,S1,[(o:Int)]++S2,by rw[h1];simp[XT.post],by rw[h2];simp[XT.sts],h3,h4⟩
theorem Xg{e:List (Int×Int)}{S:List Int}{n:Int×Int}{a b:XT}{o:Nat}(h:At e S (.l2 n a b) o):At e S a o/\At e S b (o+a.size):=by
 obtain⟨p,s,S1,S2,h1,h2,h3,h4⟩:=h;exact⟨⟨p,b.post++[n]++s,S1,b.sts (o+a.size)++[(o:Int)]++S2,by rw[h1];simp[XT.post],by rw[h2];simp[XT.sts],h3,h4⟩,
  ⟨p++a.post,[n]++s,S1++a.sts o,[(o:Int)]++S2,by rw[h1];simp[XT.post],by rw[h2];simp[XT.sts],by simp[XT.post_len,h3],by simp[XT.sts_len,h4]⟩⟩
theorem Xh{e:List (Int×Int)}{S:List Int}{n:Int×Int}{a b c:XT}{o:Nat}(h:At e S (.l3 n a b c) o):At e S a o/\At e S b (o+a.size)/\At e S c (o+a.size+b.size):=by
 obtain⟨p,s,S1,S2,h1,h2,h3,h4⟩:=h;exact⟨⟨p,b.post++c.post++[n]++s,S1,b.sts (o+a.size)++c.sts (o+a.size+b.size)++[(o:Int)]++S2,by rw[h1];simp[XT.post],by rw[h2];simp[XT.sts],h3,h4⟩,
  ⟨p++a.post,c.post++[n]++s,S1++a.sts o,c.sts (o+a.size+b.size)++[(o:Int)]++S2,by rw[h1];simp[XT.post],by rw[h2];simp[XT.sts],by simp[XT.post_len,h3],by simp[XT.sts_len,h4]⟩,
  ⟨p++a.post++b.post,[n]++s,S1++a.sts o++b.sts (o+a.size),[(o:Int)]++S2,by rw[h1];simp[XT.post],by rw[h2];simp[XT.sts],by simp[XT.post_len,h3];try omega,by simp[XT.sts_len,h4];try omega⟩⟩
theorem a6P(t:XT):∃p,t.post=p++[t.node]/\p.length+1=t.size:=by
 have hl:=t.post_len;cases t with
 |l0 n=>exact⟨[],rfl,rfl⟩|l1 n a=>refine⟨a.post,rfl,?_⟩;simp only[XT.post,F5,af]at hl;exact hl|l2 n a b=>refine⟨a.post++b.post,rfl,?_⟩;simp only[XT.post,F5,af]at hl ⊢;exact hl|l3 n a b c=>refine⟨a.post++b.post++c.post,rfl,?_⟩;simp only[XT.post,F5,af]at hl ⊢;exact hl
theorem b1A(t:XT)(o:Nat):∃p,t.sts o=p++[(o:Int)]/\p.length+1=t.size:=by
 have hl:=t.sts_len o;cases t with
 |l0 n=>exact⟨[],rfl,rfl⟩|l1 n a=>refine⟨a.sts o,rfl,?_⟩;simp only[XT.sts,F5,af]at hl;exact hl|l2 n a b=>refine⟨a.sts o++b.sts (o+a.size),rfl,?_⟩;simp only[XT.sts,F5,af]at hl ⊢;exact hl|l3 n a b c=>refine⟨a.sts o++b.sts (o+a.size)++c.sts (o+a.size+b.size),rfl,?_⟩;simp only[XT.sts,F5,af]at hl ⊢;exact hl
theorem yz{e:List (Int×Int)}{S:List Int}{t:XT}{o:Nat}(h:At e S t o):e[rtI t o]? =some t.node/\S[rtI t o]? =some (o:Int)/\rtI t o<e.length:=by
 obtain⟨p,s,S1,S2,h1,h2,h3,h4⟩:=h;obtain⟨q,e1,e2⟩:=a6P t;obtain⟨q',e1',e2'⟩:=b1A t o;have hp:=t.size_pos;have a1:e[rtI t o]? =some t.node:=by rw[h1,e1,F6,F6,←F6 p,H6 (by simp[rtI];omega)];rw[show rtI t o -(p++q).length=0 by simp[rtI];omega];rfl
 refine⟨a1,?_,(Z4.1 a1).1⟩;rw[h2,e1',F6,F6,←F6 S1,H6 (by simp[rtI];omega)];rw[show rtI t o -(S1++q').length=0 by simp[rtI];omega];rfl
def Vm:XT->Nat->List Int
 | .l0 _,_=>[]| .l1 _ a,o=>[(rtI a o:Int)]| .l2 _ a b,o=>[(rtI a o:Int),(rtI b (o+a.size):Int)]| .l3 _ a b c,o=>[(rtI a o:Int),(rtI b (o+a.size):Int),(rtI c (o+a.size+b.size):Int)]
structure OStep (S:List Int) (f:List Int×Int×Int->Option ((List Int×Int×Int)⊕List Int)):Prop where
 step:∀(l:List Int) (c:Nat) (j:Nat) (x:Nat),j<l.length->l.length<=3->S[c]? =some ((x:Nat):Int)->x<=100->f (l,(c:Int),(j:Int))=some (.inl (l.set j (c:Int),(x:Int) -1,(j:Int) -1))
 stop:∀(l:List Int) (c:Int),f (l,c,-1)=some (.inr l)
theorem Bc{σ ε:Type}{f:σ->Option (σ⊕ε)}{s s' :σ}{n:Nat}(h:f s=some (.inl s')):qi f (n+1) s=qi f n s' :=by rw[qi,h]
theorem Gg{σ ε:Type}{f:σ->Option (σ⊕ε)}{s:σ}{e:ε}{n:Nat}(h:f s=some (.inr e)):qi f (n+1) s=some e:=by rw[qi,h]
theorem a9k{e:List (Int×Int)}{S:List Int}{t:XT}{o:Nat}{f:List Int×Int×Int->Option ((List Int×Int×Int)⊕List Int)}(hs:OStep S f)(h:At e S t o)(he:e.length<=48)(hw:t.wf):
  dC f (List.replicate (arF t.node.1).toNat 0,(rtI t o:Int) -1,arF t.node.1 -1)=some (Vm t o):=by
 obtain⟨k,hk⟩:∃k,jS=k+1+1+1+1:=⟨jS -4,by unfold jS;omega⟩;unfold dC;rw[hk];have hr:=yz h;cases t with
 |l0 n=>rw[show arF (XT.l0 n).node.1=0 from hw];exact Gg (hs.stop _ _)|l1 n a=>rw[show arF (XT.l1 n a).node.1=1 from hw.1];have ha:=yz (b3A h);have p1:=a.size_pos;rw[show((rtI (.l1 n a) o:Nat):Int) -1=((rtI a o:Nat):Int) by simp only[rtI,XT.size];omega];rw[show((1:Int) -1)=((0:Nat):Int)from rfl,Bc (hs.step _ _ 0 o A7 A7 ha.2.1 (by unfold rtI at hr;omega))];rw[show(((0:Nat):Int) -1)=-1 from rfl,Gg (hs.stop _ _)];rfl|l2 n a b=>rw[show arF (XT.l2 n a b).node.1=2 from hw.1];have ha:=yz (Xg h).1;have hb:=yz (Xg h).2;have p1:=a.size_pos;have p2:=b.size_pos;rw[show((rtI (.l2 n a b) o:Nat):Int) -1=((rtI b (o+a.size):Nat):Int) by simp only[rtI,XT.size];omega];rw[show((2:Int) -1)=((1:Nat):Int)from rfl,Bc (hs.step _ _ 1 (o+a.size) A7 A7 hb.2.1 (by unfold rtI at hb;omega))];rw[show((o+a.size:Nat):Int) -1=((rtI a o:Nat):Int) by unfold rtI;omega,show(((1:Nat):Int) -1)=((0:Nat):Int)from rfl];rw[Bc (hs.step _ _ 0 o A7 A7 ha.2.1 (by unfold rtI at hr;omega))];rw[show(((0:Nat):Int) -1)=-1 from rfl,Gg (hs.stop _ _)];rfl|l3 n a b c=>rw[show arF (XT.l3 n a b c).node.1=3 from hw.1];have ha:=yz (Xh h).1;have hb:=yz (Xh h).2.1;have hc:=yz (Xh h).2.2;have p1:=a.size_pos;have p2:=b.size_pos;have p3:=c.size_pos;rw[show((rtI (.l3 n a b c) o:Nat):Int) -1=((rtI c (o+a.size+b.size):Nat):Int) by simp only[rtI,XT.size];omega];rw[show((3:Int) -1)=((2:Nat):Int)from rfl,Bc (hs.step _ _ 2 (o+a.size+b.size) A7 A7 hc.2.1 (by unfold rtI at hc;omega))];rw[show((o+a.size+b.size:Nat):Int) -1=((rtI b (o+a.size):Nat):Int) by unfold rtI;omega,show(((2:Nat):Int) -1)=((1:Nat):Int)from rfl];rw[Bc (hs.step _ _ 1 (o+a.size) A7 A7 hb.2.1 (by unfold rtI at hb;omega))];rw[show((o+a.size:Nat):Int) -1=((rtI a o:Nat):Int) by unfold rtI;omega,show(((1:Nat):Int) -1)=((0:Nat):Int)from rfl];rw[Bc (hs.step _ _ 0 o A7 A7 ha.2.1 (by unfold rtI at hr;omega))];rw[show(((0:Nat):Int) -1)=-1 from rfl,Gg (hs.stop _ _)];rfl
theorem c1B{t:XT}(h:t.wf):0<=arF t.node.1/\arF t.node.1<=3:=by
 cases t with
 |l0 n=>rw[show arF (XT.l0 n).node.1=0 from h];decide|l1 n a=>rw[show arF (XT.l1 n a).node.1=1 from h.1];decide|l2 n a b=>rw[show arF (XT.l2 n a b).node.1=2 from h.1];decide|l3 n a b c=>rw[show arF (XT.l3 n a b c).node.1=3 from h.1];decide
theorem KH{α:Type}{k:Int}(h:0<=k)(h2:k<=1000000)(x:α):sU k x=some (List.replicate k.toNat x):=if_pos ⟨h,l7⟩
theorem EQ{e:List (Int×Int)}{S:List Int}{t:XT}{o:Nat}(env:aP)(h:At e S t o)(he:e.length<=48)(hw:t.wf):kE (e,S,env) (rtI t o:Int)=some (Vm t o):=by
 have hr:=yz h;have ha:=c1B hw;unfold kE;simp only[J9,hr.1,o9,TL];rw[KH ha.1 l7,o9,jm];rw[show H9 .i64 ((rtI t o:Nat):Int) 1=(rtI t o:Int) -1 from U2 O6];rw[show H9 .i64 (x8 (List.replicate (arF t.node.1).toNat (0:Int))) 1=arF t.node.1 -1 by rw[show x8 (List.replicate (arF t.node.1).toNat (0:Int))=arF t.node.1 by unfold x8;rw[qc];omega];exact U2 O6]
 refine a9k ⟨λl c j x hj hl hx hx2=>?_,λl c=>?_⟩ h he hw
 ·have hjl:l[j]? =some l[j]:=gY hj;simp only[X5 (show(0:Int)<=(j:Int) by omega),o7,J9,hjl,o9,hx,Y3,Y0,O9,bu];rw[U2 O6,U2 O6]
 ·rfl
def BX(n:Int×Int)(args:List V3)(env:aP):V3×Int:=(wR n args env).getD ((0,0,0),0)
theorem PK{n:Int×Int}{env:aP}(args:List V3)(hE:EvOk env)(hI:jc n.2)(hk:n.1≠23/\n.1≠24/\n.1≠26)(hl:args.length<=3):wR n args env=some (BX n args env)/\yS n args env=some (BX n args env):=by
 obtain⟨r,h1,h2⟩:=ZX n.1 n.2 args env hE (by unfold jc at hI;omega) hk l7;have e:BX n args env=r:=by unfold BX;rw[show wR n args env=some r from h1];rfl
 rw[e];exact⟨h1,h2⟩
def lzB(k:Int):Bool:=l9 (o8 k 23) true (l9 (o8 k 24) true (o8 k 26))
theorem b7a{k:Int}(h:lzB k=false):k≠23/\k≠24/\k≠26:=by refine⟨?_,?_,?_⟩<;>(rintro rfl;revert h;decide)
def Eu(r:V3×Int):V3×Int:=l9 (o8 r.2 0) (l9 (o8 r.1.1 1) (l9 (plB r.1) (r.1,0) ((0,0,0),8)) ((0,0,0),8)) ((0,0,0),r.2)
def a4W(n:Int×Int)(ra rb:V3×Int):V3×Int:=l9 (o8 n.2 0) (l9 (o8 (Eu ra).2 0) (l9 (jd (o8 n.1 23) (o8 (Eu ra).1.2.2 0)) ((Eu ra).1,0) (Eu rb)) ((0,0,0),(Eu ra).2)) ((0,0,0),2)
def a8y(n:Int×Int)(ra rb rc:V3×Int):V3×Int:=l9 (o8 n.2 0) (l9 (o8 (Eu ra).2 0) (l9 (o8 (Eu ra).1.2.2 1) rb rc) ((0,0,0),(Eu ra).2)) ((0,0,0),2)
def evT(env:aP):XT->V3×Int
 | .l0 n=>BX n [] env| .l1 n a=>l9 (o8 (evT env a).2 0) (BX n [(evT env a).1] env) ((0,0,0),(evT env a).2)| .l2 n a b=>l9 (lzB n.1) (a4W n (evT env a) (evT env b)) (l9 (o8 (evT env a).2 0) (l9 (o8 (evT env b).2 0) (BX n [(evT env a).1,(evT env b).1] env) ((0,0,0),(evT env b).2)) ((0,0,0),(evT env a).2))| .l3 n a b c=>a8y n (evT env a) (evT env b) (evT env c)
abbrev VSt:Type:=V3×List V3×Int
structure VStep (ops:List Int) (ev:Int->Option (V3×Int)) (pad:List V3->List V3) (f:VSt->Option (Out VSt (V3×List V3) (V3×Int))):Prop where
 step:∀(l:List V3) (c:Int) (r:V3×Int),ops[l.length]? =some c->ev c=some r->f ((0,0,0),pad l,(l.length:Int))=some (l9 (o8 r.2 0) (.nx ((0,0,0),pad (l++[r.1]),((l.length+1:Nat):Int))) (.rt ((0,0,0),r.2)))
 stop:∀(l:List V3),l.length=ops.length->f ((0,0,0),pad l,(l.length:Int))=some (.ex ((0,0,0),l))
section
variable {ev:Int->Option (V3×Int)} {pad:List V3->List V3} {f:VSt->Option (Out VSt (V3×List V3) (V3×Int))}
theorem v0(h:VStep [] ev pad f):aY f ((0,0,0),pad [],0)=some (.inl ((0,0,0),[])):=by obtain⟨k,hk⟩:∃k,jS=k+1:=⟨jS -1,by unfold jS;omega⟩;unfold aY;rw[hk,qj,show f ((0,0,0),pad [],0)=some (.ex ((0,0,0),[]))from h.stop [] rfl]
theorem v1{c:Int}{r:V3×Int}(h:VStep [c] ev pad f)(h1:ev c=some r):aY f ((0,0,0),pad [],0)=some (l9 (o8 r.2 0) (.inl ((0,0,0),[r.1])) (.inr ((0,0,0),r.2))):=by
 obtain⟨k,hk⟩:∃k,jS=k+1+1:=⟨jS -2,by unfold jS;omega⟩;unfold aY;rw[hk,qj,show f ((0,0,0),pad [],0)=_ from h.step [] c r rfl h1];cases o8 r.2 0
 ·rfl
 ·simp only[o7];rw[qj,show f ((0,0,0),pad ([]++[r.1]),(([].length+1:Nat):Int))=_ from h.stop [r.1] rfl]
theorem v2{c d:Int}{r q:V3×Int}(h:VStep [c,d] ev pad f)(h1:ev c=some r)(h2:ev d=some q):aY f ((0,0,0),pad [],0)=some (l9 (o8 r.2 0) (l9 (o8 q.2 0) (.inl ((0,0,0),[r.1,q.1])) (.inr ((0,0,0),q.2))) (.inr ((0,0,0),r.2))):=by
 obtain⟨k,hk⟩:∃k,jS=k+1+1+1:=⟨jS -3,by unfold jS;omega⟩;unfold aY;rw[hk,qj,show f ((0,0,0),pad [],0)=_ from h.step [] c r rfl h1];cases o8 r.2 0
 ·rfl
 ·simp only[o7];rw[qj,show f ((0,0,0),pad ([]++[r.1]),(([].length+1:Nat):Int))=_ from h.step [r.1] d q rfl h2];cases o8 q.2 0
  ·rfl
  ·simp only[o7];rw[qj,show f ((0,0,0),pad ([r.1]++[q.1]),(([r.1].length+1:Nat):Int))=_ from h.stop [r.1,q.1] rfl]
end
theorem a7F{k:Int}(h:arF k=0\/arF k=1):k≠23/\k≠24/\k≠26:=by refine⟨?_,?_,?_⟩<;>(rintro rfl;revert h;decide)
theorem b4x{k:Int}(h:arF k=2):k≠26:=by rintro rfl;revert h;decide
theorem b4y{k:Int}(h:arF k=3):k=26:=by obtain⟨i,rfl⟩:=b4w (by rw[h];decide);rw[(a7E i).2.2.2 h];rfl
theorem c0q(n:Nat)(E:aj)(i:Int):(D5 (n+1)).1 E i=oK (D5 n).1 (D5 n).2.1 (D5 n).2.2 E i:=rfl
theorem c0r(n:Nat)(E:aj)(i:Int):(D5 (n+1)).2.1 E i=rV (D5 n).1 (D5 n).2.1 (D5 n).2.2 E i:=rfl
theorem b3W(n:Nat)(E:aj)(x:Int×Int)(l:List Int):(D5 (n+1)).2.2 E x l=mD (D5 n).1 (D5 n).2.1 (D5 n).2.2 E x l:=rfl
theorem MB{n:Nat}{E:aj}{i:Int}{r:V3×Int}(h:(D5 n).2.1 E i=some r):(D5 (n+1)).1 E i=some (Eu r):=by
 rw[c0q];unfold oK Eu;rw[h,o9];cases o8 r.2 0
 ·rfl
 cases o8 r.1.1 1
 ·rfl
 simp only[F9,o6,o7];rw[xy,o9];cases plB r.1<;>rfl
theorem a8x{n:Nat}{E:aj}{x:Int×Int}{i j:Int}{ra rb:V3×Int}(hx:x.1≠26)(h1:(D5 n).2.1 E i=some ra)(h2:(D5 n).2.1 E j=some rb):(D5 (n+2)).2.2 E x [i,j]=some (a4W x ra rb):=by
 rw[show n+2=(n+1)+1 from rfl,b3W];unfold mD a4W;rw[show H8 [i,j] 0=some i from rfl,show H8 [i,j] 1=some j from rfl];simp only[o9];rw[MB h1,MB h2,L9 hx];cases o8 x.2 0
 ·rfl
 simp only[o9,F9,o6,o7];cases o8 (Eu ra).2 0
 ·rfl
 simp only[F9,o6,o7];cases jd (o8 x.1 23) (o8 (Eu ra).1.2.2 0)<;>rfl
theorem a8z{n:Nat}{E:aj}{x:Int×Int}{i j l:Int}{ra rb rc:V3×Int}(hx:x.1=26)(h1:(D5 n).2.1 E i=some ra)(h2:(D5 (n+1)).2.1 E j=some rb)(h3:(D5 (n+1)).2.1 E l=some rc):(D5 (n+2)).2.2 E x [i,j,l]=some (a8y x ra rb rc):=by
 rw[show n+2=(n+1)+1 from rfl,b3W];unfold mD a8y;rw[show H8 [i,j,l] 0=some i from rfl,show H8 [i,j,l] 1=some j from rfl,show H8 [i,j,l] 2=some l from rfl];simp only[o9];rw[MB h1,h2,h3,O8 hx];cases o8 x.2 0
 ·rfl
 simp only[o9,F9,o6,o7];cases o8 (Eu ra).2 0
 ·rfl
 simp only[F9,o6,o7];cases o8 (Eu ra).1.2.2 1<;>rfl
def WN(m:Nat)(l:List V3):List V3:=l++List.replicate (m -l.length) (0,0,0)
theorem a9p{m:Nat}{l:List V3}(h:l.length<m):(WN m l)[l.length]? =some (0,0,0):=by unfold WN;rw[H6 (E5 _),bn,jW,if_pos l7]
theorem a9q{m:Nat}{l:List V3}(v:V3)(h:l.length<m):(WN m l).set l.length v=WN m (l++[v]):=by unfold WN;obtain⟨k,hk⟩:∃k,m -l.length=k+1:=⟨m -l.length -1,l7⟩;rw[iQ _ _ (E5 _),bn,hk,jQ,ui];rw[show m -(l++[v]).length=k by simp;omega];simp
theorem a6M{m:Nat}{l:List V3}(h:l.length=m):WN m l=l:=by unfold WN;rw[h,bn];simp
def a5j(ev:Int->Option (V3×Int))(ops:List Int)(x:VSt):Option (Out VSt (V3×List V3) (V3×Int)):=
 l9 (D9 x.2.2 (x8 ops))
  (o5 (H8 ops x.2.2) λ(x_4:Int)=>
   o5 (Y3 ops (Y0 x.2.2)) λ(x_5:Int)=>
    o5 (ev x_5) λ(x_6:V3×Int)=>
     l9 (E9 (o8 x_6.2 0)) (some (Out.rt ((0,0,0),x_6.2)))
      (o5 (H8 x.2.1 x.2.2) λ(x_7:V3)=>
       o5 (Y3 x.2.1 (Y0 x.2.2)) λ(x_8:V3)=>
        some (Out.nx (x.1,bu x.2.1 (Y0 x.2.2) x_6.1,D7 IntKind.i64 x.2.2 1))))
  (some (Out.ex (x.1,x.2.1)))
theorem MV(ev:Int->Option (V3×Int))(ops:List Int)(ho:ops.length<=3):VStep ops ev (WN ops.length) (a5j ev ops):=by
 refine⟨λl c r h1 h2=>?_,λl h=>?_⟩
 ·have hl:=(Z4.1 h1).1;unfold a5j;simp only[X3 h1,o7,J9,h1,o9,Y3,Y0,O9,h2,a9p hl,bu,a9q _ hl];cases o8 r.2 0
  ·rfl
  ·simp only[F9,o6,o7];rw[fP l7]
 ·unfold a5j;rw[a6M h,h,W9];rfl
theorem SX(n:Nat)(E:aj)(i:Int)(x:Int×Int)(ops:List Int)(h1:H8 E.1 i=some x)(h2:kE E i=some ops)(ho:ops.length<=3):
  (D5 (n+1)).2.1 E i=l9 (lzB x.1) ((D5 n).2.2 E x ops)
   (o5 (aY (a5j ((D5 n).2.1 E) ops) ((0,0,0),WN ops.length [],0)) λ(o:V3×List V3⊕V3×Int)=>aI o (λ(y:V3×List V3)=>yS x y.2 E.2.2) λ(r:V3×Int)=>some r):=by
 rw[c0r];unfold rV lzB;simp only[h1,h2,o9,jm];rw[show x8 ops=(ops.length:Int)from rfl];have hp:sU (ops.length:Int) (((0,0,0):Int×Int×Int))=some (WN ops.length []):=by rw[KH l7 l7];rfl
 cases g1:o8 x.1 23
 ·cases g2:o8 x.1 24
  ·cases g3:o8 x.1 26
   ·simp only[o6,o9,X7];rw[show sU (ops.length:Int) _=_ from hp,o9];rfl
   ·simp only[o6,o7];generalize (D5 n).2.2 E x ops=q;cases q<;>rfl
  ·simp only[o6,o7];generalize (D5 n).2.2 E x ops=q;cases q<;>rfl
 ·simp only[o7];generalize (D5 n).2.2 E x ops=q;cases q<;>rfl
theorem Ov(t:XT)(o:Nat):(Vm t o).length<=3:=by cases t<;>simp[Vm]
theorem a0u{e:List (Int×Int)}{S:List Int}{env:aP}(hE:EvOk env)(he:e.length<=48)(hI:∀n∈e,jc n.2):∀(t:XT) (o k:Nat),At e S t o->t.wf->3*t.size<=k->(D5 k).2.1 (e,S,env) (rtI t o:Int)=some (evT env t):=by
 intro t;induction t with
 |l0 n=>intro o k h hw hk;have hr:=yz h;obtain⟨k,rfl⟩:∃m,k=m+3:=⟨k -3,by simp only[XT.size]at hk;omega⟩;have hz:=a7F (.inl (show arF n.1=0 from hw));rw[show k+3=(k+2)+1 from rfl,SX _ _ _ n (Vm (.l0 n) o) (by rw[J9];exact hr.1) (EQ env h he hw) (Ov _ _)];rw[show lzB n.1=false by unfold lzB;rw[L9 hz.1,L9 hz.2.1,L9 hz.2.2];rfl,o6];rw[show Vm (.l0 n) o=[]from rfl,v0 (MV _ _ A7),o9,X7];exact(PK [] hE (hI n (su hr.1)) hz A7).2
 |l1 n a iha=>
  intro o k h hw hk;have hr:=yz h;simp only[XT.size]at hk;obtain⟨k,rfl⟩:∃m,k=m+3:=⟨k -3,l7⟩;have hz:=a7F (.inr (show arF n.1=1 from hw.1));rw[show k+3=(k+2)+1 from rfl,SX _ _ _ n (Vm (.l1 n a) o) (by rw[J9];exact hr.1) (EQ env h he hw) (Ov _ _)];rw[show lzB n.1=false by unfold lzB;rw[L9 hz.1,L9 hz.2.1,L9 hz.2.2];rfl,o6];rw[show Vm (.l1 n a) o=[(rtI a o:Int)]from rfl,v1 (MV _ _ A7) (iha o (k+2) (b3A h) hw.2 l7),o9];rw[show evT env (.l1 n a)=l9 (o8 (evT env a).2 0) (BX n [(evT env a).1] env) ((0,0,0),(evT env a).2)from rfl];cases o8 (evT env a).2 0
  ·rfl
  exact(PK [(evT env a).1] hE (hI n (su hr.1)) hz A7).2
 |l2 n a b iha ihb=>
  intro o k h hw hk;have hr:=yz h;simp only[XT.size]at hk;obtain⟨k,rfl⟩:∃m,k=m+3:=⟨k -3,l7⟩;have hz:=b4x (show arF n.1=2 from hw.1);rw[show k+3=(k+2)+1 from rfl,SX _ _ _ n (Vm (.l2 n a b) o) (by rw[J9];exact hr.1) (EQ env h he hw) (Ov _ _)];rw[show Vm (.l2 n a b) o=[(rtI a o:Int),(rtI b (o+a.size):Int)]from rfl];rw[show evT env (.l2 n a b)=l9 (lzB n.1) (a4W n (evT env a) (evT env b)) (l9 (o8 (evT env a).2 0) (l9 (o8 (evT env b).2 0) (BX n [(evT env a).1,(evT env b).1] env) ((0,0,0),(evT env b).2)) ((0,0,0),(evT env a).2))from rfl];cases hl:lzB n.1
  ·have hz:=b7a hl;simp only[o6];rw[v2 (MV _ _ A7) (iha o (k+2) (Xg h).1 hw.2.1 l7) (ihb (o+a.size) (k+2) (Xg h).2 hw.2.2 l7),o9];cases o8 (evT env a).2 0
   ·rfl
   cases o8 (evT env b).2 0
   ·rfl
   exact(PK [(evT env a).1,(evT env b).1] hE (hI n (su hr.1)) hz A7).2
  ·simp only[o7];exact a8x hz (iha o k (Xg h).1 hw.2.1 l7) (ihb (o+a.size) k (Xg h).2 hw.2.2 l7)
 |l3 n a b c iha ihb ihc=>intro o k h hw hk;have hr:=yz h;simp only[XT.size]at hk;obtain⟨k,rfl⟩:∃m,k=m+3:=⟨k -3,l7⟩;have hz:=b4y (show arF n.1=3 from hw.1);rw[show k+3=(k+2)+1 from rfl,SX _ _ _ n (Vm (.l3 n a b c) o) (by rw[J9];exact hr.1) (EQ env h he hw) (Ov _ _)];rw[show lzB n.1=true by rw[hz];decide,o7];exact a8z hz (iha o k (Xh h).1 hw.2.1 l7) (ihb (o+a.size) (k+1) (Xh h).2.1 hw.2.2.1 l7) (ihc (o+a.size+b.size) (k+1) (Xh h).2.2 hw.2.2.2 l7)
def uU(e:List (Int×Int))(env:aP):V3×Int:=match oV e with
 | .inl x=>((0,0,0),x.2)| .inr t=>evT env t
theorem a7G{e:List (Int×Int)}{t:XT}(h:oV e= .inr t):At e (t.sts 0) t 0/\e.length<=48/\e.length=t.size/\H9 .i64 (x8 e) 1=(rtI t 0:Int):=by
 obtain⟨hp,h48⟩:=BU h;have hsz:e.length=t.size:=by rw[hp,XT.post_len]
 have hpos:=t.size_pos;refine⟨⟨[],[],[],[],by simp[←hp],A7,rfl,rfl⟩,h48,hsz,?_⟩;rw[U2 (by unfold jc x8;omega)];unfold x8 rtI;omega
theorem a4P{e:List (Int×Int)}{env:aP}(hE:EvOk env)(hI:∀n∈e,jc n.2):FT e env=some (uU e env):=by
 unfold FT Jg uU;rw[Pi];unfold Di;cases h:oV e with
 |inl x=>simp only[o9,L9 (Fa h)];rfl|inr t=>obtain⟨h1,h2,h3,h4⟩:=a7G h;simp only[o9,O8 (rfl:(0:Int)=0),F9,o6,jm];rw[h4,show xM (e,t.sts 0,env) ((rtI t 0:Nat):Int)=some (evT env t)from a0u hE h2 hI t 0 jS h1 (QN h) (by unfold jS;omega)]<;>rfl
abbrev E4:Type:=Int×Int×Int×Int
def Cb(s:D6)(env:aP)(m d:Int)(ap:List Bool)(i:Int):List Bool⊕(Int×E4):=
 match H8 s.2.2.2.2 i with
 |none=> .inl ap|some r=>l9 (o8 (x8 r.2.2.2.2.2.1) 0) (.inl (ap++[true])) (l9 (o8 (uU r.2.2.2.2.2.1 env).2 0) (.inl (ap++[o8 (uU r.2.2.2.2.2.1 env).1.2.2 1])) (.inr (0,(uU r.2.2.2.2.2.1 env).2,m,d,i)))
def V9(s:D6)(env:aP)(m d:Int):Int×E4:=
 match aG (Cb s env m d) (bg s d env.1).1 []with
 | .inr e=>e| .inl ap=>l9 (D9 (Eh (bg s d env.1).2.1 (bg s d env.1).2.2 ap) 0) (Eh (bg s d env.1).2.1 (bg s d env.1).2.2 ap,0,0,0,0) (((bg s d env.1).1.getD (Eh (bg s d env.1).2.1 (bg s d env.1).2.2 ap).toNat 0),0,0,0,0)
theorem a2e{s:D6}{d t i:Int}(h:i∈(bg s d t).1):∃r,H8 s.2.2.2.2 i=some r/\r∈s.2.2.2.2:=by have h:i∈castL (ah s d t):=h;obtain⟨k,hk,rfl⟩:=U8.1 h;have:=(pJ hk).1;exact mf l7 (by unfold x8;omega)
theorem Pn(s:D6)(d t:Int):(bg s d t).1.length<=s.2.2.2.2.length/\(bg s d t).2.1.length=(bg s d t).1.length:=by
 refine⟨?_,?_⟩
 ·show(castL (ah s d t)).length<=_;rw[FO];exact Hr _ _
 ·show((ah s d t).map _).length=(castL (ah s d t)).length;rw[FO,J7]
theorem a7O{oc pr:Int->Int}{l:List Int}{n:Int}(hn:0<=n)(h:∀x∈l,oc x<n):chF oc pr l<n:=by
 unfold chF;cases hb:xF oc pr l with
 |nil=>show(-1:Int)<n;omega|cons b r=>
  cases r with
  |nil=>exact h b (Kt (oc:=oc) (pr:=pr) (by rw[hb];simp))|cons c r=>show(-2:Int)<n;omega
theorem a8X(par prio:List Int)(ap:List Bool):∀(k:Nat) (i:Int),i<par.length->ocF par prio ap k i<par.length
 |0,i,h=>by show(-1:Int)<_;omega|k+1,i,h=>by
  unfold ocF;have hb:chF (ocF par prio ap k) (prF prio) (castL (kids par i))<(par.length:Int):=a7O l7 λx hx=>by unfold castL at hx;obtain⟨j,hj,rfl⟩:=U8.1 hx;have:=(SQ hj).1;exact a8X par prio ap k _ l7
  cases o8 (chF (ocF par prio ap k) (prF prio) (castL (kids par i))) (-1)
  ·exact hb
  ·cases apF ap i
   ·show(-1:Int)<_;omega
   ·exact h
theorem Zw(par prio:List Int)(ap:List Bool):Eh par prio ap<par.length:=by
 unfold Eh;cases o8 (CJ par prio) 0
 ·show(-1:Int)<_;omega
 cases o8 (x8 ap) (x8 par)
 ·show(-1:Int)<_;omega
 show chS par prio ap (-1)<_;unfold chS;refine a7O l7 λx hx=>?_;unfold castL at hx;obtain⟨j,hj,rfl⟩:=U8.1 hx;have:=(SQ hj).1;unfold OC;exact a8X par prio ap _ _ l7
def Ze(m:Nat)(l:List Bool):List Bool:=l++List.replicate (m -l.length) false
theorem a9n{m:Nat}{l:List Bool}(h:l.length<m):(Ze m l)[l.length]? =some false:=by unfold Ze;rw[H6 (E5 _),bn,jW,if_pos l7]
theorem a9o{m:Nat}{l:List Bool}(v:Bool)(h:l.length<m):(Ze m l).set l.length v=Ze m (l++[v]):=by unfold Ze;obtain⟨k,hk⟩:∃k,m -l.length=k+1:=⟨m -l.length -1,l7⟩;rw[iQ _ _ (E5 _),bn,hk,jQ,ui];rw[show m -(l++[v]).length=k by simp;omega];simp
theorem a6L{m:Nat}{l:List Bool}(h:l.length=m):Ze m l=l:=by unfold Ze;rw[h,bn];simp
theorem a2u(s:D6)(env:aP)(m d:Int)(ap:List Bool):
  l9 (D9 (Eh (bg s d env.1).2.1 (bg s d env.1).2.2 ap) 0) (some ((Eh (bg s d env.1).2.1 (bg s d env.1).2.2 ap,0,0,0,0):Int×E4))
   (o5 (H8 (bg s d env.1).1 (Eh (bg s d env.1).2.1 (bg s d env.1).2.2 ap)) λ(x_3:Int)=>o5 (Y3 (bg s d env.1).1 (Y0 (Eh (bg s d env.1).2.1 (bg s d env.1).2.2 ap))) λ(x:Int)=>some (x,0,0,0,0))=
  some (l9 (D9 (Eh (bg s d env.1).2.1 (bg s d env.1).2.2 ap) 0) (Eh (bg s d env.1).2.1 (bg s d env.1).2.2 ap,0,0,0,0) (((bg s d env.1).1.getD (Eh (bg s d env.1).2.1 (bg s d env.1).2.2 ap).toNat 0),0,0,0,0)):=by
 have hb:=Zw (bg s d env.1).2.1 (bg s d env.1).2.2 ap;have hl:=(Pn s d env.1).2;generalize Eh (bg s d env.1).2.1 (bg s d env.1).2.2 ap=q at*;generalize (bg s d env.1).1=L at*;by_cases g:q<0
 ·rw[U5 g];rfl
 rw[L6 (fZ.1 g)];obtain⟨i,rfl⟩:∃i:Nat,q=(i:Int):=⟨q.toNat,l7⟩;have hi:i<L.length:=l7;have e:=gY hi;simp only[o6,J9,e,o9,Y3,Y0,O9,rZ,dB]
theorem a1K{s:D6}{env:aP}(hs:SmS s)(hE:EvOk env)(m d:Int):yF s env m d=some (V9 s env m d):=by
 have hnr:=hs.nr;have hlen:=(Pn s d env.1).1;unfold yF;rw[a7h l7,o9];rw[show sU (x8 (bg s d env.1).1) false=some (Ze (bg s d env.1).1.length []) by rw[show x8 (bg s d env.1).1=((bg s d env.1).1.length:Int)from rfl,KH l7 l7];rfl,o9];unfold V9;apply ql (bg s d env.1).1 (Cb s env m d) (λb i=>(((0,0,0,0),Ze (bg s d env.1).1.length b,i):E4×List Bool×Int)) (λb=>(((0,0,0,0),b):E4×List Bool)) (λi b=>b.length=i) [] l7 rfl
 ·intro i a b hi hi' hb;obtain⟨r,hr,hm⟩:=a2e (su hi);have hlt:=(Z4.1 hi).1;have hI:=(hs.ro r hm).1.2.2;subst hb;simp only[X3 hi,o7,J9,hi,o9,Y3,Y0,O9,hr,a9n hlt,bu,a9o _ hlt];unfold Cb;rw[hr];simp only;cases o8 (x8 r.2.2.2.2.2.1) 0
  ·simp only[o6];rw[a4P hE hI.1,o9];cases o8 (uU r.2.2.2.2.2.1 env).2 0
   ·exact⟨rfl,λ_ h=>by cases h⟩
   ·simp only[F9,o6,o7];rw[fP l7];exact⟨rfl,λ_ h=>by cases h;simp⟩
  ·simp only[o7];rw[fP l7];exact⟨rfl,λ_ h=>by cases h;simp⟩
 ·intro b hb;rw[W9,a6L hb];rfl
 ·intro _;cases aG (Cb s env m d) (bg s d env.1).1 []with
  |inr e=>rfl|inl ap=>simp only[X7,a7c,o9];exact a2u s env m d ap
theorem a7P{oc pr:Int->Int}{l:List Int}(h:∀x∈l,-2<=oc x):-2<=chF oc pr l:=by
 unfold chF;cases hb:xF oc pr l with
 |nil=>show -2<=(-1:Int);omega|cons b r=>
  cases r with
  |nil=>exact h b (Kt (oc:=oc) (pr:=pr) (by rw[hb];simp))|cons c r=>show -2<=(-2:Int);omega
theorem a8Y(par prio:List Int)(ap:List Bool):∀(k:Nat) (i:Int),0<=i->-2<=ocF par prio ap k i
 |0,i,h=>by show -2<=(-1:Int);omega|k+1,i,h=>by
  unfold ocF;have hb:-2<=chF (ocF par prio ap k) (prF prio) (castL (kids par i)):=a7P λx hx=>by unfold castL at hx;obtain⟨j,hj,rfl⟩:=U8.1 hx;exact a8Y par prio ap k _ l7
  cases o8 (chF (ocF par prio ap k) (prF prio) (castL (kids par i))) (-1)
  ·exact hb
  ·cases apF ap i
   ·show -2<=(-1:Int);omega
   ·show -2<=i;omega
theorem a5z(par prio:List Int)(ap:List Bool):-2<=Eh par prio ap:=by
 unfold Eh;cases o8 (CJ par prio) 0
 ·show -2<=(-1:Int);omega
 cases o8 (x8 ap) (x8 par)
 ·show -2<=(-1:Int);omega
 show -2<=chS par prio ap (-1);unfold chS;refine a7P λx hx=>?_;unfold castL at hx;obtain⟨j,hj,rfl⟩:=U8.1 hx;unfold OC;exact a8Y par prio ap _ _ l7
theorem NT{s:D6}{env:aP}{m d:Int}(b:List Bool)(i:Int)(r:Int×E4)(h:Cb s env m d b i= .inr r):r.2.1≠0:=by
 unfold Cb at h;cases hl:H8 s.2.2.2.2 i with
 |none=>rw[hl]at h;cases h|some q=>
  rw[hl]at h;simp only at h;cases h1:o8 (x8 q.2.2.2.2.2.1) 0<;>rw[h1]at h
  ·cases h2:o8 (uU q.2.2.2.2.2.1 env).2 0<;>rw[h2]at h<;>cases h;simp only;intro h3;rw[O8 h3]at h2;cases h2
  ·cases h
theorem a0h{s:D6}{env:aP}{m d:Int}(h0:(V9 s env m d).2.1=0)(h1:(V9 s env m d).1≠-1)(h2:(V9 s env m d).1≠-2):∃r,H8 s.2.2.2.2 (V9 s env m d).1=some r/\r∈s.2.2.2.2:=by
 unfold V9 at*;cases hf:aG (Cb s env m d) (bg s d env.1).1 []with
 |inr e=>rw[hf]at h0;exact absurd h0 (vz (Cb s env m d) (λr=>r.2.1≠0) NT _ _ _ hf)|inl ap=>
  rw[hf]at h0 h1 h2;simp only at*;have hb:=Zw (bg s d env.1).2.1 (bg s d env.1).2.2 ap;have hlo:=a5z (bg s d env.1).2.1 (bg s d env.1).2.2 ap;have hl:=(Pn s d env.1).2;generalize Eh (bg s d env.1).2.1 (bg s d env.1).2.2 ap=q at*;by_cases g:q<0
  ·rw[U5 g]at h1 h2;simp only[o7]at h1 h2;omega
  rw[L6 (fZ.1 g)];have hi:q.toNat<(bg s d env.1).1.length:=l7;simp only[o6,rZ,gY hi,dB];exact a2e (S9 hi)
def xR(s:D6)(env:aP)(m d:Int):(V3×Int)⊕E4:=
 l9 (o8 (V9 s env m d).2.1 0) (l9 (o8 (V9 s env m d).1 (-1)) (.inr (10,m,d,-1)) (l9 (o8 (V9 s env m d).1 (-2)) (.inr (11,m,d,-1))
  (match H8 s.2.2.2.2 (V9 s env m d).1 with
  |none=> .inr (1,0,0,0)
  |some r=>l9 (o8 (uU r.2.2.2.2.2.2.1 env).2 0) (.inl ((uU r.2.2.2.2.2.2.1 env).1,(V9 s env m d).1)) (.inr ((uU r.2.2.2.2.2.2.1 env).2,m,d,(V9 s env m d).1))))) (.inr (V9 s env m d).2)
theorem a7U{s:D6}{env:aP}{m d:Int}{e:E4}(h:xR s env m d= .inr e):e.1≠0:=by
 unfold xR at h;cases h0:o8 (V9 s env m d).2.1 0<;>rw[h0]at h
 ·cases h;intro h3;rw[O8 h3]at h0;cases h0
 cases h1:o8 (V9 s env m d).1 (-1)<;>rw[h1]at h
 case true=>cases h;show(10:Int)≠0;decide
 cases h2:o8 (V9 s env m d).1 (-2)<;>rw[h2]at h
 case true=>cases h;show(11:Int)≠0;decide
 simp only[o7,o6]at h;cases hl:H8 s.2.2.2.2 (V9 s env m d).1 with
 |none=>rw[hl]at h;cases h;show(1:Int)≠0;decide|some r=>rw[hl]at h;simp only at h;cases h4:o8 (uU r.2.2.2.2.2.2.1 env).2 0<;>rw[h4]at h<;>cases h;simp only;intro h3;rw[O8 h3]at h4;cases h4
theorem XZ{s:D6} :∀(k:Nat) (O:List Int),(∀d∈O,0<=d/\d<nD s)->match Vo s k O with| .inl O' =>(∀d∈O',0<=d/\d<nD s)/\O'.length<=O.length+k| .inr x=>x.1=[]
 |0,O,h=>⟨h,l7⟩|k+1,O,h=>by
  unfold Vo;by_cases hc:O.length<s.2.2.2.1.length
  ·rw[if_pos hc];cases hn:LM s O with
   |none=>rfl|some d=>
    have hd:=(Vg hn).1;have:=XZ k (O++[(d:Int)]) (λx hx=>by
     rcases A8.1 hx with hx|hx
     ·exact h x hx
     ·rw[D8]at hx;subst hx;unfold nD x8;omega)
    simp only;cases ho:Vo s k (O++[(d:Int)])with
    |inl O' =>rw[ho]at this;exact⟨this.1,by have:=this.2;simp at this;omega⟩|inr x=>rw[ho]at this;exact this
  ·rw[if_neg hc];exact⟨h,l7⟩
theorem a1p(s:D6):(∀d∈(lq s).1,0<=d/\d<nD s)/\(lq s).1.length<=100:=by
 have:=XZ (s:=s) 100 [] A7;unfold lq;cases ho:Vo s 100 []with
 |inl O=>rw[ho]at this;exact⟨this.1,by have:=this.2;simp at this;exact this⟩|inr x=>rw[ho]at this;simp only at this ⊢;rw[this];simp
abbrev DB:Type:=List V3×List Int
def xK(env:aP)(ds:List V3):aP:=(env.1,env.2.1,ds,env.2.2.2)
theorem Bq{env:aP}(h:EvOk env)(ds:List V3):EvOk (xK env ds):=⟨h.ms,h.tb⟩
def scG(s:D6)(env:aP)(m:Int)(need:List Bool)(b:DB)(d:Int):DB⊕(E4×List V3):=
 l9 ((H8 need d).getD false) (match xR s (xK env b.1) m d with
  | .inl v=> .inl (b.1.set d.toNat v.1,b.2.set d.toNat v.2)
  | .inr e=> .inr (e,b.1)) (.inl b)
def scS(s:D6)(env:aP)(m:Int)(need:List Bool):DB⊕(E4×List V3):=aG (scG s env m need) (lq s).1 (List.replicate s.2.2.2.1.length (0,0,0),List.replicate s.2.2.2.1.length 0)
theorem b2X{s:D6}{env:aP}{m:Int}{need:List Bool}(b:DB)(d:Int)(r:E4×List V3)(h:scG s env m need b d= .inr r):r.1.1≠0:=by
 unfold scG at h;cases hb:(H8 need d).getD false<;>rw[hb]at h
 ·cases h
 simp only[o7]at h;cases hd:xR s (xK env b.1) m d with
 |inl v=>rw[hd]at h;cases h|inr e=>rw[hd]at h;cases h;exact a7U hd
theorem Tm{s:D6}{env:aP}{m:Int}{need:List Bool}{r:E4×List V3}(h:scS s env m need= .inr r):r.1.1≠0:=vz (scG s env m need) (λr=>r.1.1≠0) b2X _ _ _ h
def a0V{β ρ ρ' :Type}(h:ρ->ρ'):β⊕ρ->β⊕ρ'| .inl b=> .inl b| .inr r=> .inr (h r)
theorem Qd{α β ρ ρ' :Type}(G:β->α->β⊕ρ)(G' :β->α->β⊕ρ')(h:ρ->ρ')(hG:∀b a,G' b a=a0V h (G b a)):∀(l:List α) (b:β),aG G' l b=a0V h (aG G l b)
 |[],b=>rfl|a::l,b=>by
  unfold aG;rw[hG b a];cases G b a with
  |inl b' =>exact Qd G G' h hG l b'|inr r=>rfl
theorem JF{α:Type}(s:D6)(hs:SmS s)(x:α):sU (x8 s.2.2.2.1) x=some (List.replicate s.2.2.2.1.length x):=by have:=hs.nd;rw[show x8 s.2.2.2.1=(s.2.2.2.1.length:Int)from rfl,KH l7 l7];rfl
def scP(env:aP):E4×List V3->List Int×E4×aP:=λr=>([],r.1,xK env r.2)
theorem NR{s:D6}{env:aP}{need:List Bool}(hs:SmS s)(hE:EvOk env)(m:Int)(hn:need.length=s.2.2.2.1.length):iM s env m need=some (match scS s env m need with| .inl b=>(b.2,(0,0,0,0),xK env b.1)| .inr r=>([],r.1,xK env r.2)):=by
 obtain⟨o1,o2⟩:=a1p s;unfold iM;rw[JF s hs,o9,JF s hs,o9,a9l hs,o9];have hfold:=Qd (scG s env m need) (λb d=>a0V (scP env) (scG s env m need b d)) (scP env) (λ_ _=>rfl) (lq s).1 (List.replicate s.2.2.2.1.length (0,0,0),List.replicate s.2.2.2.1.length 0);unfold scS;apply ql (lq s).1 (λb d=>a0V (scP env) (scG s env m need b d)) (λb i=>((xK env b.1,(0,0,0,0),b.2,i):aP×E4×List Int×Int)) (λb=>((xK env b.1,(0,0,0,0),b.2):aP×E4×List Int)) (λi b=>b.1.length=s.2.2.2.1.length/\b.2.length=s.2.2.2.1.length) (List.replicate s.2.2.2.1.length (0,0,0),List.replicate s.2.2.2.1.length 0) l7 ⟨A7,A7⟩
 ·intro i d b hi hi' hb;have hr:=o1 d (su hi);have hnd:nD s=(s.2.2.2.1.length:Int):=rfl;obtain⟨k,rfl⟩:∃k:Nat,d=(k:Int):=⟨d.toNat,l7⟩;have hk:k<s.2.2.2.1.length:=l7;have e1:=gY (show k<need.length by omega);have e2:=gY (show k<b.1.length by omega);have e3:=gY (show k<b.2.length by omega);unfold scG;simp only[X3 hi,o7,J9,hi,o9,Y3,Y0,O9,e1,dB];cases need[k]
  ·simp only[iw,o7,o6];rw[fP l7];exact⟨rfl,λ_ h=>by cases h;exact hb⟩
  simp only[F9,o7,o6];rw[a1K hs (Bq hE b.1),o9];unfold xR;cases h0:o8 (V9 s (xK env b.1) m (k:Int)).2.1 0
  ·exact⟨rfl,λ_ h=>by cases h⟩
  cases h1:o8 (V9 s (xK env b.1) m (k:Int)).1 (-1)
  case true=>exact⟨rfl,λ_ h=>by cases h⟩
  cases h2:o8 (V9 s (xK env b.1) m (k:Int)).1 (-2)
  case true=>exact⟨rfl,λ_ h=>by cases h⟩
  obtain⟨r,hr,hm⟩:=a0h (O5.1 h0) (λh=>by rw[O8 h]at h1;cases h1) (λh=>by rw[O8 h]at h2;cases h2);simp only[F9,o6,o7,hr,o9];rw[a4P (Bq hE b.1) (hs.ro r hm).1.2.2.2,o9];cases h3:o8 (uU r.2.2.2.2.2.2.1 (xK env b.1)).2 0
  ·exact⟨rfl,λ_ h=>by cases h⟩
  ·simp only[F9,o6,o7];refine⟨?_,λ_ h=>by cases h;exact⟨by simp[hb.1],by simp[hb.2]⟩⟩;rw[fP l7];have e2' :(xK env b.1).2.2.1[k]? =some (b.1[k]'l7):=e2;simp only[e2',e3,o9];rfl
 ·intro b hb;rw[W9];rfl
 ·intro _;rw[hfold];cases aG (scG s env m need) (lq s).1 (List.replicate s.2.2.2.1.length (0,0,0),List.replicate s.2.2.2.1.length 0)<;>rfl
def BJ(l:Z7)(k:Int)(c:bP)(ex:Bool)(d:Int):E4:=
 l9 (o8 (kU l).1 0) (match H8 l.2.2 k with
  |none=>(6,-1,-1,-1)
  |some s=>l9 (l9 ex (l9 (D9 d 0) true (J6 (x8 s.2.2.2.1) d)) false) (6,-1,-1,-1) (l9 (o8 (DC l k c).2.2 0) (0,0,0,0) ((DC l k c).2.2,(DC l k c).1,-1,-1))) (1,-1,-1,-1)
theorem a8w(l:List D6)(k:Int):(D9 k 0=true/\H8 l k=none)\/(D9 k 0=false/\J6 (x8 l) k=true/\H8 l k=none)\/(D9 k 0=false/\J6 (x8 l) k=false/\∃s,H8 l k=some s/\s∈l):=by
 by_cases h:k<0
 ·exact .inl ⟨U5 h,wJ (.inl (Y1 h))⟩
 by_cases h2:x8 l<=k
 ·exact .inr (.inl ⟨L6 l7,X5 h2,wJ (.inr (L6 h2))⟩)
 ·exact .inr (.inr ⟨L6 l7,Y1 l7,mf l7 l7⟩)
theorem b2a{l:Z7}(hL:SmL l)(k:Int){c:bP}(hc:SmC c)(ex:Bool)(d:Int):qx l k c ex d=some (BJ l k c ex d):=by
 unfold qx BJ;rw[a2h hL,o9,b2d l k hc];cases o8 (kU l).1 0
 ·rfl
 simp only[F9,o6,o7];rcases a8w l.2.2 k with⟨h1,h2⟩|⟨h1,h2,h3⟩|⟨h1,h2,s,h3,_⟩
 ·rw[h1,h2];rfl
 ·rw[h1,h2,h3];rfl
 ·rw[h1,h2,h3];simp only[o6,o9];cases ex
  ·simp only[o6,o9,X7];cases o8 (DC l k c).2.2 0<;>rfl
  ·simp only[o7];cases D9 d 0
   ·cases J6 (x8 s.2.2.2.1) d
    ·simp only[o6,o9,X7];cases o8 (DC l k c).2.2 0<;>rfl
    ·rfl
   ·rfl
def vV:D6:=([],0,[],[],[])
def U0(l:Z7)(s:D6):D6:=l9 (J6 0 s.2.1) ((H8 l.2.2 s.2.1).getD vV) vV
def vK(n:Nat):List Bool:=List.replicate n false
theorem PM{l:Z7}{k:Int}{c:bP}{ex:Bool}{d:Int}(h:(BJ l k c ex d).1=0):(kU l).1=0/\∃s,H8 l.2.2 k=some s:=by
 unfold BJ at h;cases h0:o8 (kU l).1 0<;>rw[h0]at h
 ·exact absurd (show(1:Int)=0 from h) G7
 refine⟨O5.1 h0,?_⟩;cases h1:H8 l.2.2 k with
 |none=>rw[h1]at h;exact absurd (show(6:Int)=0 from h) G7|some s=>exact⟨s,rfl⟩
theorem b1Q{l:Z7}(h:(kU l).1=0){i:Nat}{s:D6}(hs:l.2.2[i]? =some s):(JO l i s).1=0:=by
 unfold kU at h;cases h1:o8 (PW l).1 0<;>rw[h1]at h
 ·simp only[o6]at h;rw[O8 h]at h1;cases h1
 cases h2:o8 (KZ l).1 0<;>rw[h2]at h
 ·simp only[o7,o6]at h;rw[O8 h]at h2;cases h2
 simp only[o7]at h;unfold Tn at h;cases h3:D9 4 (x8 l.2.2)<;>rw[h3]at h
 case true=>exact absurd (show(4:Int)=0 from h) G7
 simp only[o6]at h;have hi:=(Z4.1 hs).1;cases hf:bD l.2.2.length (Nl l)with
 |some r=>
  rw[hf]at h;simp only at h;obtain⟨j,hj,hp⟩:=mJ hf;unfold Nl at hp;cases hq:l.2.2[j]? with
  |none=>rw[hq]at hp;cases hp|some q=>
   rw[hq]at hp;simp only at hp;unfold a0s at hp;exact absurd h (by cases he:o8 (JO l j q).1 0<;>rw[he]at hp<;>cases hp;simp only;intro h4;rw[O8 h4]at he;cases he)
 |none=>
  have hn:=xm hf i hi;unfold Nl at hn;rw[hs]at hn;simp only at hn;unfold a0s at hn;cases he:o8 (JO l i s).1 0<;>rw[he]at hn
  ·cases hn
  exact O5.1 he
theorem QS{l:Z7}(h:(kU l).1=0){i:Nat}{s:D6}(hs:l.2.2[i]? =some s):FC l i s.2.1=false/\(Vs l s).1=0:=by
 have he:=b1Q h hs;unfold JO at he;cases g1:IQ s.1<;>rw[g1]at he
 ·exact absurd (show(2:Int)=0 from he) G7
 cases g2:We l 3 i s.1<;>rw[g2]at he
 case true=>exact absurd (show(7:Int)=0 from he) G7
 cases g3:FC l i s.2.1<;>rw[g3]at he
 case true=>exact absurd (show(6:Int)=0 from he) G7
 cases g4:D9 12 (x8 s.2.2.1)<;>rw[g4]at he
 case true=>exact absurd (show(4:Int)=0 from he) G7
 cases g5:D9 12 (x8 s.2.2.2.1)<;>rw[g5]at he
 case true=>exact absurd (show(4:Int)=0 from he) G7
 exact⟨rfl,he⟩
theorem QR{l:Z7}(h:(kU l).1=0){i:Nat}{s:D6}(hs:l.2.2[i]? =some s):FC l i s.2.1=false:=(QS h hs).1
theorem zC{l:Z7}(h:(kU l).1=0){k:Int}{s:D6}(hs:H8 l.2.2 k=some s):(J6 0 s.2.1=false/\D9 s.2.1 0=true/\U0 l s=vV)\/(J6 0 s.2.1=true/\D9 s.2.1 0=false/\J6 (x8 l.2.2) s.2.1=false/\H8 l.2.2 s.2.1=some (U0 l s)/\U0 l s∈l.2.2):=by
 obtain⟨k0,k1,k2,k3⟩:=dW hs;have hm:=QR h k3;unfold FC at hm;by_cases g:0<=s.2.1
 ·right;rw[L9 (show s.2.1≠-1 by intro e;rw[e]at g;exact absurd g G7),L6 g]at hm;simp only[o6]at hm;cases g2:J6 ((k.toNat:Nat):Int) s.2.1<;>rw[g2]at hm
  case true=>cases hm
  rw[Fz]at g2;have hlt:s.2.1<x8 l.2.2:=by have:((k.toNat:Nat):Int)=k:=X4 k0;rw[this]at g2;exact Int.lt_trans g2 k1
  obtain⟨q,hq,hqm⟩:=mf g hlt;have e:U0 l s=q:=by unfold U0;rw[X5 g,hq];rfl
  rw[e];exact⟨X5 g,L6 g,Y1 hlt,hq,hqm⟩
 ·left;have g' :=jU.1 g;refine⟨Y1 g',U5 g',?_⟩;unfold U0;rw[Y1 g'];rfl
theorem ZW{σ ε α β:Type}{f:σ->Option (σ⊕ε)}{mk:List β->Int->σ}{fin:List β->ε}{l:List α}{g:α->β}
  (hs:∀(i:Nat) (a:α) (b:List β),l[i]? =some a->b.length=i->f (mk b (i:Int))=some (.inl (mk (b++[g a]) ((i+1:Nat):Int))))
  (he:∀b,f (mk b (l.length:Int))=some (.inr (fin b))):∀(l2 l1:List α) (k:Nat),l=l1++l2->qi f (k+1+l2.length) (mk (l1.map g) (l1.length:Int))=some (fin (l.map g))
 |[],l1,k,h=>by
  have:l=l1:=by simpa using h
  subst this;exact Gg (he _)
 |a::l2,l1,k,h=>by rw[show k+1+(a::l2).length=(k+1+l2.length)+1 by simp;omega,Bc (hs l1.length a (l1.map g) (by rw[h];simp) A7)];have:=ZW hs he l2 (l1++[a]) k (by rw[h];simp);simpa using this
theorem b1Z{σ ε α β:Type}{f:σ->Option (σ⊕ε)}(mk:List β->Int->σ)(fin:List β->ε)(l:List α)(g:α->β)(hn:l.length<=1000000)
  (hs:∀(i:Nat) (a:α) (b:List β),l[i]? =some a->b.length=i->f (mk b (i:Int))=some (.inl (mk (b++[g a]) ((i+1:Nat):Int))))
  (he:∀b,f (mk b (l.length:Int))=some (.inr (fin b))):dC f (mk [] 0)=some (fin (l.map g)):=by
 unfold dC;rw[show jS=(jS -l.length -1)+1+l.length by unfold jS;omega];exact ZW hs he l [] _ rfl
theorem a1g{l:Z7}(hL:SmL l)(h:(kU l).1=0){k:Int}{s:D6}(hs:H8 l.2.2 k=some s):yE l k=some (s,U0 l s,vK s.2.2.2.1.length,vK (U0 l s).2.2.2.1.length):=by
 have hm:=(dW hs).2.2.1;have hnd:=(hL.sc s hm).nd;unfold yE;rw[hs,o9,show sU (x8 s.2.2.2.1) false=some (vK s.2.2.2.1.length)from JF s (hL.sc s hm) false,o9];rcases zC h hs with⟨g1,g2,g3⟩|⟨g1,g2,g3,g4,g5⟩
 ·rw[g1,g3];rfl
 ·rw[g1,g4];simp only[o7,o9];rw[show sU (x8 (U0 l s).2.2.2.1) false=some (vK (U0 l s).2.2.2.1.length)from JF _ (hL.sc _ g5) false,o9]
theorem a3f:SmS vV:=⟨by simp[vV],by simp[vV],by simp[vV],by simp[vV],⟨by simp[vV],by simp[vV]⟩,by simp[vV]⟩
def DN(l:Z7)(c:bP)(v:List V3):aP:=(c.1,v,[],[],[],l.2.1)
def mG(l:Z7)(c:bP)(ms:D6)(need:List Bool)(b:List DB)(a:List V3×Nat):List DB⊕E4:=
 match scS ms (DN l c a.1) (a.2:Int) need with
 | .inl x=> .inl (b++[x])| .inr e=> .inr e.1
def mS(l:Z7)(c:bP)(ms:D6)(need:List Bool):List DB⊕E4:=aG (mG l c ms need) c.2.2.zipIdx []
theorem b4N{l:Z7}{c:bP}{ms:D6}{need:List Bool}(b:List DB)(a:List V3×Nat)(r:E4)(h:mG l c ms need b a= .inr r):r.1≠0:=by
 unfold mG at h;cases hs:scS ms (DN l c a.1) (a.2:Int) need with
 |inl x=>rw[hs]at h;cases h|inr e=>rw[hs]at h;cases h;exact Tm hs
theorem b3u{l:List (List V3)}{i:Nat}{a:List V3×Nat}(h:l.zipIdx[i]? =some a):l[i]? =some a.1/\a.2=i:=by
 rw[xH]at h;cases hl:l[i]? with
 |none=>rw[hl]at h;cases h|some v=>rw[hl]at h;cases h;exact⟨rfl,A7⟩
theorem Oc{l:Z7}(hT:∀t∈l.2.1,yQ t)(c:bP)(v:List V3):EvOk (DN l c v):=⟨by simp[DN],hT⟩
def xI(l:Z7)(s:D6)(c:bP)(b:List DB):aP:=(c.1,c.2.1,[],b.map (·.1),(U0 l s).2.2.2.1.map (·.2),l.2.1)
theorem a0Y{l:Z7}(hL:SmL l)(h:(kU l).1=0){k:Int}{s:D6}(hs:H8 l.2.2 k=some s):SmS (U0 l s):=by
 rcases zC h hs with⟨_,_,g3⟩|⟨_,_,_,_,g5⟩
 ·rw[g3];exact a3f
 ·exact hL.sc _ g5
theorem a8F{l:Z7}{c:bP}{ms:D6}{need:List Bool}{b:List DB}(h:mS l c ms need= .inl b):b.length=c.2.2.length:=by
 have key:∀(L:List (List V3×Nat)) (b0 b:List DB),aG (mG l c ms need) L b0= .inl b->b.length=b0.length+L.length:=by
  intro L;induction L with
  |nil=>intro b0 b h;cases h;simp|cons a L ih=>
   intro b0 b h;unfold aG at h;cases hg:mG l c ms need b0 a with
   |inr e=>rw[hg]at h;cases h|inl b1=>
    rw[hg]at h;have:=ih b1 b h;have h1:b1.length=b0.length+1:=by
     unfold mG at hg;cases hs:scS ms (DN l c a.1) (a.2:Int) need with
     |inr e=>rw[hs]at hg;cases hg|inl x=>rw[hs]at hg;cases hg;simp
    simp only[G5];omega
 have:=key _ _ _ h;simpa using this
theorem Vy{l:Z7}(hT:∀t∈l.2.1,yQ t)(s:D6)(c:bP){b:List DB}(hb:b.length<=1000):EvOk (xI l s c b):=⟨by simp[xI];omega,hT⟩
abbrev ZT:Type:=Int×List V3×PUnit×List (List V3)×List (Int×Int)×List iD
def NQ(l:Z7)(s:D6)(c:bP)(nS nM:List Bool):DB×List DB⊕E4:=
 match mS l c (U0 l s) nM with
 | .inr e=> .inr e
 | .inl b=>match scS s (xI l s c b) (-1) nS with
  | .inl x=> .inl (x,b)| .inr r=> .inr r.1
theorem YF{l:Z7}{k:Int}{s:D6}{c:bP}{nS nM:List Bool}(hS:SmS s)(hM:SmS (U0 l s))(hC:SmC c)(hT:∀t∈l.2.1,yQ t)(h1:nS.length=s.2.2.2.1.length)(h2:nM.length=(U0 l s).2.2.2.1.length):
  yD l k c (s,U0 l s,nS,nM)=some (match NQ l s c nS nM with
   | .inl x=>((x.1.1,x.1.2,x.2),xK (xI l s c x.2) x.1.1,(0,0,0,0),(s,U0 l s,nS,nM))
   | .inr e=>(([],[],[]),(0,[],[],[],[],[]),e,(s,U0 l s,nS,nM))):=by
 have hnd:=hM.nd;have hnm:=hC.nm;unfold yD;rw[show(dC _ _)=some (((c.1,c.2.1,PUnit.unit,PUnit.unit,(U0 l s).2.2.2.1.map (λf=>f.2),l.2.1)):Int×List V3×PUnit×PUnit×List (Int×Int)×List iD)from ?_,o9]
 rotate_left
 ·refine b1Z (λL i=>(((c.1,c.2.1,PUnit.unit,PUnit.unit,L,l.2.1),i):(Int×List V3×PUnit×PUnit×List (Int×Int)×List iD)×Int)) (λL=>((c.1,c.2.1,PUnit.unit,PUnit.unit,L,l.2.1):Int×List V3×PUnit×PUnit×List (Int×Int)×List iD)) (U0 l s).2.2.2.1 (λf=>f.2) l7 (λi a L hi hL=>?_) (λL=>?_)
  ·have:=(Z4.1 hi).1;simp only[X3 hi,o7,J9,hi,o9];rw[uY _ l7,o9,fP l7]
  ·rw[W9];rfl
 have hfold:=Qd (mG l c (U0 l s) nM) (λb a=>a0V (λe=>((([],[],[]),(0,[],[],[],[],[]),e,(s,U0 l s,nS,nM)):yx×aP×E4×aZ)) (mG l c (U0 l s) nM b a)) (λe=>((([],[],[]),(0,[],[],[],[],[]),e,(s,U0 l s,nS,nM)):yx×aP×E4×aZ)) (λ_ _=>rfl) c.2.2.zipIdx [];have hzl:c.2.2.zipIdx.length=c.2.2.length:=A7;unfold NQ mS;apply ql c.2.2.zipIdx (λb a=>a0V (λe=>((([],[],[]),(0,[],[],[],[],[]),e,(s,U0 l s,nS,nM)):yx×aP×E4×aZ)) (mG l c (U0 l s) nM b a))
  (λb i=>((([],[],[]),(0,[],[],[],[],[]),(0,0,0,0),(c.1,c.2.1,PUnit.unit,b.map (·.1),(U0 l s).2.2.2.1.map (λf=>f.2),l.2.1),([],[],b),i):yx×aP×E4×ZT×yx×Int))
  (λb=>((([],[],[]),(0,[],[],[],[],[]),(0,0,0,0),(c.1,c.2.1,PUnit.unit,b.map (·.1),(U0 l s).2.2.2.1.map (λf=>f.2),l.2.1),([],[],b)):yx×aP×E4×ZT×yx))
  (λi b=>b.length=i) [] l7 rfl
 ·intro i a b hi hi' hb;obtain⟨z1,z2⟩:=b3u hi;have hil:=(Z4.1 z1).1;unfold mG;simp only[X3 z1,o7,J9,z1,o9];rw[show iM (U0 l s) (c.1,a.1,[],[],[],l.2.1) (i:Int) nM=_ from NR hM (Oc hT c a.1) (i:Int) h2,o9,z2];unfold DN;cases hq:scS (U0 l s) (c.1,a.1,[],[],[],l.2.1) (i:Int) nM with
  |inr e=>simp only[L9 (Tm hq)];exact⟨rfl,λ_ h=>by cases h⟩|inl x=>simp only[O8 (rfl:(0:Int)=0),F9,o6];rw[uY _ az,o9,uY _ l7,o9,fP l7];exact⟨by simp[a0V,xK],λ_ h=>by cases h;simp[hb]⟩
 ·intro b hb;rw[hzl,W9];rfl
 ·intro _;rw[hfold];cases hq:aG (mG l c (U0 l s) nM) c.2.2.zipIdx []with
  |inr e=>rfl|inl b=>
   have hbl:b.length=c.2.2.length:=a8F (ms:=U0 l s) (need:=nM) hq;have hsc:=NR (need:=nS) hS (Vy hT s c (b:=b) l7) (-1) h1;unfold xI at hsc;simp only[a0V,X7];rw[show iM s (c.1,c.2.1,[],b.map (·.1),(U0 l s).2.2.2.1.map (λf=>f.2),l.2.1) (-1) nS=_ from hsc,o9];unfold xI;cases hr:scS s (c.1,c.2.1,[],b.map (·.1),(U0 l s).2.2.2.1.map (λf=>f.2),l.2.1) (-1) nS with
   |inr e=>simp only[L9 (Tm hr)];rfl|inl x=>rfl
theorem jf{α:Type}{n:Nat}{l:List α}(h:D9 (n:Int) (x8 l)=false):l.length<=n:=by rw[iL]at h;unfold x8 at h;omega
def UN(r:aK):Bool:=l9 (D9 80 (x8 r.1)) true (l9 (D9 80 (x8 r.2.2.2.2.2.2.2)) true (l9 (D9 50 (x8 r.2.2.2.2.2.1)) true (D9 50 (x8 r.2.2.2.2.2.2.1))))
def smS(s:D6):Bool:=l9 (D9 80 (x8 s.1)) false (l9 (D9 14 (x8 s.2.2.1)) false (l9 (D9 14 (x8 s.2.2.2.1)) false (l9 (D9 60 (x8 s.2.2.2.2)) false
 (l9 (s.2.2.1.any λf=>D9 80 (x8 f.1)) false (l9 (s.2.2.2.1.any λf=>D9 80 (x8 f.1)) false (E9 (s.2.2.2.2.any UN)))))))
theorem Uo{fs:List lL}(h:fs.length<=1000000):aY (λ(x:Int)=>l9 (D9 x (x8 fs)) (o5 (H8 fs x) λ(x_1:lL)=>l9 (D9 80 (x8 x_1.1)) (some (Out.rt false)) (some (Out.nx (D7 IntKind.i64 x 1)))) (some (Out.ex PUnit.unit))) 0=some (bif fs.any (λf=>D9 80 (x8 f.1))then .inr false else .inl PUnit.unit):=by
 refine Gx fs (λf=>D9 80 (x8 f.1)) false PUnit.unit h (λi a ha=>?_) ?_
 ·simp only[X3 ha,o7,J9,ha,o9];cases D9 80 (x8 a.1)<;>rfl
 ·rw[W9];rfl
theorem WS(s:D6):yN s=some (smS s):=by
 unfold yN smS;cases h1:D9 80 (x8 s.1)
 case true=>rfl
 cases h2:D9 14 (x8 s.2.2.1)
 case true=>rfl
 cases h3:D9 14 (x8 s.2.2.2.1)
 case true=>rfl
 cases h4:D9 60 (x8 s.2.2.2.2)
 case true=>rfl
 have l2:=jf (n:=14) h2;have l3:=jf (n:=14) h3;have l4:=jf (n:=60) h4;simp only[o6,o9,X7];rw[Uo l7,Uo l7,o9];cases s.2.2.1.any λf=>D9 80 (x8 f.1)
 case true=>rfl
 simp only[cond_false,X7,o6,o9];cases s.2.2.2.1.any λf=>D9 80 (x8 f.1)
 case true=>rfl
 simp only[cond_false,X7,o6];refine fK (Gx s.2.2.2.2 UN false PUnit.unit l7 (λi a ha=>?_) ?_) ?_
 rotate_left 2
 ·cases s.2.2.2.2.any UN<;>rfl
 ·simp only[X3 ha,o7,J9,ha,o9];unfold UN;cases D9 80 (x8 a.1)<;>cases D9 80 (x8 a.2.2.2.2.2.2.2)<;>cases D9 50 (x8 a.2.2.2.2.2.1)<;>cases D9 50 (x8 a.2.2.2.2.2.2.1)<;>rfl
 ·rw[W9];rfl
def ScI(s:D6):Prop:=∀r∈s.2.2.2.2,(∀n∈r.2.2.2.2.2.1,jc n.2)/\∀n∈r.2.2.2.2.2.2.1,jc n.2
theorem Su{a b:Bool}(h:l9 a false b=true):a=false/\b=true:=by cases a<;>cases b<;>first|exact⟨rfl,rfl⟩|cases h
theorem Xc{α:Type}{l:List α}{p:α->Bool}(h:l.any p=false):∀a∈l,p a=false:=by
 intro a ha;rw[oN]at h;have:=h a ha;cases hp:p a
 ·rfl
 ·exact absurd hp this
theorem b5x{s:D6}(h:smS s=true)(hI:ScI s):SmS s:=by
 unfold smS at h;obtain⟨h1,h⟩:=Su h;obtain⟨h2,h⟩:=Su h;obtain⟨h3,h⟩:=Su h;obtain⟨h4,h⟩:=Su h;obtain⟨h5,h⟩:=Su h;obtain⟨h6,h⟩:=Su h;have h7:s.2.2.2.2.any UN=false:=by cases hq:s.2.2.2.2.any UN<;>rw[hq]at h<;>first|rfl|cases h
 refine⟨by have:=jf (n:=80) h1;omega,jf (n:=14) h2,jf (n:=14) h3,jf (n:=60) h4,⟨λf hf=>?_,λf hf=>?_⟩,λr hr=>?_⟩
 ·have:=jf (n:=80) (Xc h5 f hf);omega
 ·have:=jf (n:=80) (Xc h6 f hf);omega
 ·have hl:=Xc h7 r hr;unfold UN at hl;cases g1:D9 80 (x8 r.1)<;>rw[g1]at hl
  case true=>cases hl
  cases g2:D9 80 (x8 r.2.2.2.2.2.2.2)<;>rw[g2]at hl
  case true=>cases hl
  cases g3:D9 50 (x8 r.2.2.2.2.2.1)<;>rw[g3]at hl
  case true=>cases hl
  have k1:=jf (n:=80) g1;have k2:=jf (n:=80) g2;exact⟨⟨l7,l7,(hI r hr).1,(hI r hr).2⟩,jf (n:=50) g3,jf (n:=50) hl⟩
def smC(c:bP):Bool:=l9 (D9 14 (x8 c.2.1)) false (l9 (D9 10 (x8 c.2.2)) false (E9 (c.2.2.any λv=>D9 14 (x8 v))))
theorem ZA(c:bP):Ai c=some (smC c):=by
 unfold Ai smC;cases h1:D9 14 (x8 c.2.1)
 case true=>rfl
 cases h2:D9 10 (x8 c.2.2)
 case true=>rfl
 have l2:=jf (n:=10) h2;simp only[o6];refine fK (Gx c.2.2 (λv=>D9 14 (x8 v)) false PUnit.unit l7 (λi a ha=>?_) ?_) ?_
 rotate_left 2
 ·cases c.2.2.any λv=>D9 14 (x8 v)<;>rfl
 ·simp only[X3 ha,o7,J9,ha,o9];cases D9 14 (x8 a)<;>rfl
 ·rw[W9];rfl
theorem b5v{c:bP}(h:smC c=true):SmC c:=by
 unfold smC at h;obtain⟨h1,h⟩:=Su h;obtain⟨h2,h⟩:=Su h;have h3:(c.2.2.any λv=>D9 14 (x8 v))=false:=by cases hq:c.2.2.any λv=>D9 14 (x8 v)<;>rw[hq]at h<;>first|rfl|cases h
 exact⟨by have:=jf (n:=14) h1;omega,by have:=jf (n:=10) h2;omega,λv hv=>by have:=jf (n:=14) (Xc h3 v hv);omega⟩
theorem Qc{α β ρ:Type}(G:β->α->β⊕ρ)(Inv:β->Prop)(hG:∀b a b',Inv b->G b a= .inl b' ->Inv b'):∀(l:List α) (b b' :β),Inv b->aG G l b= .inl b' ->Inv b'
 |[],b,b',hi,h=>by cases h;exact hi|a::l,b,b',hi,h=>by
  unfold aG at h;cases hg:G b a with
  |inr r=>rw[hg]at h;cases h|inl b1=>rw[hg]at h;exact Qc G Inv hG l b1 b' (hG b a b1 hi hg) h
theorem Ie{s:D6}{env:aP}{m:Int}{need:List Bool}{b:DB}(h:scS s env m need= .inl b):b.1.length=s.2.2.2.1.length/\b.2.length=s.2.2.2.1.length:=by
 refine Qc (scG s env m need) (λb=>b.1.length=s.2.2.2.1.length/\b.2.length=s.2.2.2.1.length) (λb a b' hi h=>?_) _ _ _ ⟨A7,A7⟩ h;unfold scG at h;cases hb:(H8 need a).getD false<;>rw[hb]at h
 ·cases h;exact hi
 simp only[o7]at h;cases hd:xR s (xK env b.1) m a with
 |inr e=>rw[hd]at h;cases h|inl v=>rw[hd]at h;cases h;exact⟨by simp[hi.1],by simp[hi.2]⟩
def a0S(e:kW):Bool:=l9 (D9 80 (x8 e.1)) true (l9 (D9 20 (x8 e.2)) true (e.2.any λm=>D9 80 (x8 m)))
def tG(b:Int)(t:iD):Int⊕Bool:=l9 (D9 80 (x8 t.1)) (.inr false) (l9 (D9 150 (D7 .i64 b (x8 t.2.2.2))) (.inr false) (.inl (D7 .i64 b (x8 t.2.2.2))))
def sG(b:Int)(s:D6):Int⊕Bool:=l9 (D9 60 (D7 .i64 b (x8 s.2.2.2.2))) (.inr false) (l9 (smS s) (.inl (D7 .i64 b (x8 s.2.2.2.2))) (.inr false))
def smL(l:Z7):Bool:=l9 (D9 9 (x8 l.1)) false (l9 (D9 9 (x8 l.2.1)) false (l9 (D9 5 (x8 l.2.2)) false (l9 (l.1.any a0S) false
 (match aG tG l.2.1 0 with| .inr _=>false| .inl _=>match aG sG l.2.2 0 with| .inr _=>false| .inl _=>true))))
theorem b6L:∀(b:Int) (t:iD) (r:Bool),tG b t= .inr r->r=false:=by intro b t r h;unfold tG at h;cases g0:D9 80 (x8 t.1)<;>cases g:D9 150 (D7 .i64 b (x8 t.2.2.2))<;>simp only[g0,g,o7,o6]at h<;>cases h<;>rfl
theorem b5u:∀(b:Int) (s:D6) (r:Bool),sG b s= .inr r->r=false:=by intro b s r h;unfold sG at h;cases g:D9 60 (D7 .i64 b (x8 s.2.2.2.2))<;>cases g2:smS s<;>simp only[g,g2,o7,o6]at h<;>cases h<;>rfl
theorem a1L(l:Z7):BH l=some (smL l):=by
 unfold BH smL;cases h1:D9 9 (x8 l.1)
 case true=>rfl
 cases h2:D9 9 (x8 l.2.1)
 case true=>rfl
 cases h3:D9 5 (x8 l.2.2)
 case true=>rfl
 have l1:=jf (n:=9) h1;have l2:=jf (n:=9) h2;have l3:=jf (n:=5) h3;simp only[o6,o9,X7];refine fK (Gx l.1 a0S false PUnit.unit l7 (λi a ha=>?_) ?_) ?_
 ·simp only[X3 ha,o7,J9,ha,o9];unfold a0S;cases D9 80 (x8 a.1)
  case true=>rfl
  cases h5:D9 20 (x8 a.2)
  case true=>rfl
  have l5:=jf (n:=20) h5;simp only[o6];refine fK (Gx a.2 (λm=>D9 80 (x8 m)) false PUnit.unit l7 (λj m hm=>?_) ?_) ?_
  ·simp only[X3 hm,o7,J9,hm,o9];cases D9 80 (x8 m)<;>rfl
  ·rw[W9];rfl
  ·cases a.2.any λm=>D9 80 (x8 m)<;>rfl
 ·rw[W9];rfl
 cases l.1.any a0S
 case true=>rfl
 simp only[cond_false,X7,o6];apply ql l.2.1 tG (λb i=>((b,i):Int×Int)) (λ_=>PUnit.unit) (λ_ _=>True) 0 l7 trivial
 ·intro i t b hi hi' _;refine⟨?_,λ_ _=>trivial⟩;simp only[X3 hi,o7,J9,hi,o9];unfold tG;rw[fP l7];cases D9 80 (x8 t.1)<;>cases D9 150 (D7 .i64 b (x8 t.2.2.2))<;>rfl
 ·intro b _;rw[W9];rfl
 ·intro _;cases ht:aG tG l.2.1 0 with
  |inr r=>rw[vz tG (λr=>r=false) b6L _ _ _ ht];rfl|inl b=>
   simp only[X7];apply ql l.2.2 sG (λb i=>((b,i):Int×Int)) (λ_=>PUnit.unit) (λ_ _=>True) 0 l7 trivial
   ·intro i s b hi hi' _;refine⟨?_,λ_ _=>trivial⟩;simp only[X3 hi,o7,J9,hi,o9,WS];unfold sG;rw[fP l7];cases D9 60 (D7 .i64 b (x8 s.2.2.2.2))<;>cases smS s<;>rfl
   ·intro b _;rw[W9];rfl
   ·intro _;cases hs:aG sG l.2.2 0 with
    |inr r=>rw[vz sG (λr=>r=false) b5u _ _ _ hs];rfl|inl b=>rfl
structure WfL (l:Z7):Prop where
 rl:∀t∈l.2.1,t.2.2.2.length<=4611686018427387904
 ri:∀t∈l.2.1,∀r∈t.2.2.2,a4r r
 sl:∀s∈l.2.2,s.2.2.2.2.length<=4611686018427387904
 si:∀s∈l.2.2,ScI s
theorem b1C:∀(L:List iD) (b b' :Int),0<=b->b<=150->(∀t∈L,t.2.2.2.length<=4611686018427387904)->aG tG L b= .inl b' ->∀t∈L,t.1.length<=80/\t.2.2.2.length<=150
 |[],_,_,_,_,_,_=>by simp|t::L,b,b',h0,h1,hw,h=>by
  have hwt:=hw t A7;have ha:D7 .i64 b (x8 t.2.2.2)=b+x8 t.2.2.2:=V5 (by unfold jc x8;omega);unfold aG tG at h;rw[ha]at h;cases g0:D9 80 (x8 t.1)<;>rw[g0]at h
  case true=>cases h
  cases g1:D9 150 (b+x8 t.2.2.2)<;>rw[g1]at h
  case true=>cases h
  rw[iL]at g1;intro x hx;rcases C9.1 hx with rfl|hx
  ·exact⟨jf (n:=80) g0,by unfold x8 at g1;omega⟩
  ·exact b1C L (b+x8 t.2.2.2) b' (by unfold x8;omega) g1 (λq hq=>hw q (by simp[hq])) h x hx
theorem b0F:∀(L:List D6) (b b' :Int),0<=b->b<=60->(∀s∈L,s.2.2.2.2.length<=4611686018427387904)->aG sG L b= .inl b' ->∀s∈L,smS s=true
 |[],_,_,_,_,_,_=>by simp|s::L,b,b',h0,h1,hw,h=>by
  have hwt:=hw s A7;have ha:D7 .i64 b (x8 s.2.2.2.2)=b+x8 s.2.2.2.2:=V5 (by unfold jc x8;omega);unfold aG sG at h;rw[ha]at h;cases g1:D9 60 (b+x8 s.2.2.2.2)<;>rw[g1]at h
  case true=>cases h
  cases g2:smS s<;>rw[g2]at h
  case false=>cases h
  rw[iL]at g1;intro x hx;rcases C9.1 hx with rfl|hx
  ·exact g2
  ·exact b0F L (b+x8 s.2.2.2.2) b' (by unfold x8;omega) g1 (λq hq=>hw q (by simp[hq])) h x hx
theorem b5w{l:Z7}(h:smL l=true)(hW:WfL l):SmL l/\∀t∈l.2.1,yQ t:=by
 unfold smL at h;obtain⟨h1,h⟩:=Su h;obtain⟨h2,h⟩:=Su h;obtain⟨h3,h⟩:=Su h;obtain⟨h4,h⟩:=Su h;have l1:=jf (n:=9) h1;have l2:=jf (n:=9) h2;have l3:=jf (n:=5) h3;cases ht:aG tG l.2.1 0 with
 |inr r=>rw[ht]at h;cases h|inl b=>
  rw[ht]at h;simp only at h;cases hs:aG sG l.2.2 0 with
  |inr r=>rw[hs]at h;cases h|inl b' =>
   have T:=b1C l.2.1 0 b l7 l7 hW.rl ht;have S:=b0F l.2.2 0 b' l7 l7 hW.sl hs;refine⟨⟨⟨l7,l7,l7⟩,λe he=>?_,λt ht=>by have:=(T t ht).1;omega,λs hs=>b5x (S s hs) (hW.si s hs)⟩,λt ht=>⟨by have:=(T t ht).2;omega,hW.ri t ht⟩⟩;have hl:=Xc h4 e he;unfold a0S at hl;cases g1:D9 80 (x8 e.1)<;>rw[g1]at hl
   case true=>cases hl
   cases g2:D9 20 (x8 e.2)<;>rw[g2]at hl
   case true=>cases hl
   have k1:=jf (n:=80) g1;exact⟨l7,λm hm=>by have:=jf (n:=80) (Xc hl m hm);omega⟩
theorem a1w:reachBytes<=4611686018427387904:=by decide
theorem c1A{l:Z7}(h:wf c1Y l):WfL l:=by
 refine⟨λt ht=>?_,λt ht r hr=>?_,λs hs=>?_,λs hs r hr=>⟨λn hn=>?_,λn hn=>?_⟩⟩
 ·have:=(h.2.1.2 t ht).2.2.2.1;exact aF this a1w
 ·have:=(h.2.1.2 t ht).2.2.2.2 r hr;exact⟨Ws this.2.1,Ws this.2.2.1,Ws this.2.2.2⟩
 ·have:=(h.2.2.2 s hs).2.2.2.2.1;exact aF this a1w
 ·have:=(h.2.2.2 s hs).2.2.2.2.2 r hr;exact Ws (this.2.2.2.2.2.1.2 n hn).2
 ·have:=(h.2.2.2 s hs).2.2.2.2.2 r hr;exact Ws (this.2.2.2.2.2.2.1.2 n hn).2
def SC(w:List Bool)(L:List Int):List Bool:=L.foldl (λw x=>w.set x.toNat true) w
theorem VU:∀(L:List Int) (w:List Bool),(SC w L).length=w.length
 |[],w=>rfl|x::L,w=>(VU L (w.set x.toNat true)).trans A7
def IU(s:D6)(w:List Bool)(d:Int):List Bool:=SC (w.set d.toNat true) (cu s d)
theorem OT(s:D6)(w:List Bool)(d:Int):(IU s w d).length=w.length:=by unfold IU;rw[VU];simp
theorem GG{w:List Bool}{n:Nat}(hw:w.length=n){x:Int}(h0:0<=x)(h1:x<(n:Int)):∃b,H8 w x=some b/\Y3 w (Y0 x)=some b:=by have h:x.toNat<w.length:=l7;exact⟨w[x.toNat],by unfold H8;rw[if_pos h0];exact gY h,gY h⟩
theorem Gu{s:D6}(h:SmS s)(d:Int):(cu s d).length<=14:=MK h (vJ s d).1 (λx hx=>Ar hx)
theorem Yv{s m:D6}(h:SmS m){u w:List Bool}(hw:w.length=m.2.2.2.1.length){d:Int}(h0:0<=d)(h1:d<nD m):lN (s,m,u,w) d=some (s,m,u,IU m w d):=by
 have hn:nD m=((m.2.2.2.1.length:Nat):Int):=rfl;have hl:=Gu h d;obtain⟨b,e1,e2⟩:=GG hw h0 l7;unfold lN;simp only;rw[e1,o9,e2,o9,FK h h0 h1,o9,jm];refine(sF (cu m d) (λ(w:List Bool) (x:Int)=>w.set x.toNat true) (λw i=>(((s,m,u,w),i):aZ×Int)) (λw=>((s,m,u,w):aZ)) (λ_ w=>w.length=m.2.2.2.1.length) (b:=w.set d.toNat true) l7 (by simp[hw]) (λi x v hx hi hv=>?_) (λv hv=>?_)).1
 ·have hr:=Ar (su hx);obtain⟨b,e1,e2⟩:=GG hv hr.1 l7;simp only[X3 hx,o7,J9,hx,o9];rw[show Y3 (cu m d) (Y0 (i:Int))=some x from hx,o9,e1,o9,e2,o9,fP l7];exact⟨rfl,by simp[hv]⟩
 ·simp only[W9];rfl
def EL(r:aK):List Int:=(uz r.2.2.2.2.2.1).2.2++(uz r.2.2.2.2.2.2.1).2.2
def mdl(rs:List aK)(C:List Int):List Int:=rs.flatMap λr=>l9 (vM C r.2.1) (EL r) []
def mbS(s:D6)(d:Int):List Int:=l9 (inD (nD s) d) (Ih (mdl s.2.2.2.2 (ins d (cu s d)))) []
theorem XL{s:D6}(h:SmS s){r:aK}(hr:r∈s.2.2.2.2):(EL r).length<=100:=by obtain⟨_,h1,h2⟩:=h.ro r hr;have a1:=KX r.2.2.2.2.2.1;have a2:=KX r.2.2.2.2.2.2.1;unfold EL;rw[F5];omega
theorem YV{s:D6}(h:SmS s)(C:List Int):∀(rs:List aK),(∀r∈rs,r∈s.2.2.2.2)->(mdl rs C).length<=100*rs.length
 |[],_=>by simp[mdl]|r::rs,hr=>by
  have h1:=YV h C rs (λx hx=>hr x (by simp[hx]));have h2:=XL h (hr r A7);have:mdl (r::rs) C=l9 (vM C r.2.1) (EL r) []++mdl rs C:=rfl;rw[this,F5,G5];cases vM C r.2.1
  ·simp only[o6,bU];omega
  ·simp only[o7];omega
theorem a5d{rs:List aK}{C:List Int}{x:Int} :x∈mdl rs C↔∃r∈rs,vM C r.2.1=true/\x∈EL r:=by
 unfold mdl;rw[List.mem_flatMap];constructor
 ·rintro⟨r,h1,h2⟩;cases h:vM C r.2.1<;>rw[h]at h2
  ·simp at h2
  ·exact⟨r,h1,h,h2⟩
 ·rintro⟨r,h1,h2,h3⟩;exact⟨r,h1,by rw[h2];exact h3⟩
theorem YX:∀(L:List Int) (w:List Bool),(∀x∈L,0<=x/\x<x8 w)->∀x,mk (SC w L) x=true↔mk w x=true\/x∈L
 |[],w,_,x=>by simp[SC]|y::L,w,h,x=>by
  have hy:=h y A7;have ih:=YX L (w.set y.toNat true) (λz hz=>by have:=h z (by simp[hz]);simp only[x8,nC]at this ⊢;exact this) x;rw[show SC w (y::L)=SC (w.set y.toNat true) L from rfl,ih,Vd hy.1 hy.2];cases hq:o8 x y
  ·have:x≠y:=λe=>by rw[O8 e]at hq;cases hq
   simp[this]
  ·rw[O5]at hq;simp[hq]
theorem Qn(n:Nat)(x:Int):mk (List.replicate n false) x=false:=by
 unfold mk;split
 ·rw[rZ,jW];split<;>rfl
 ·rfl
theorem WH{s:D6}(h:SmS s){d:Int}(h0:0<=d)(h1:d<nD s):yB s d=some (mbS s d):=by
 have hn:nD s=((s.2.2.2.1.length:Nat):Int):=rfl;have hnr:=h.nr;have hnd:=h.nd;have hl:=Gu h d;have hr:xg ((List.range s.2.2.2.1.length).map λ(d:Nat)=>O0 s (d:Int)) d=some (cu s d):=by obtain⟨L,k1,k2⟩:=VB (D:=O0 s) h.nd (AQ s) (λx y hy=>vg hy) h0 (show d<((s.2.2.2.1.length:Nat):Int) by omega);rw[k1,Rch.unique k2 (vJ s d)]
 obtain⟨b,e1,e2⟩:=GG (w:=List.replicate s.2.2.2.1.length false) A7 h0 (show d<((s.2.2.2.1.length:Nat):Int) by omega);unfold yB mbS;rw[show inD (nD s) d=true by unfold inD;rw[X5 h0,U5 h1];rfl,o7];change o5 (l9 (D9 d 0) _ (l9 (J6 (nD s) d) _ _)) _=_;rw[L6 h0,o6,Y1 h1,o6,o9];simp only[X7];rw[JF s h false,o9,e1,o9,e2,o9,Gw h,o9,hr,o9];refine fK (o' :=some (SC ((List.replicate s.2.2.2.1.length false).set d.toNat true) (cu s d))) ?_ ?_
 ·refine(sF (cu s d) (λ(w:List Bool) (x:Int)=>w.set x.toNat true) (λw i=>(w,i)) (λw=>w) (λ_ w=>w.length=s.2.2.2.1.length) (b:=(List.replicate s.2.2.2.1.length false).set d.toNat true) l7 A7 (λi x v hx hi hv=>?_) (λv hv=>?_)).1
  ·have hr:=Ar (su hx);obtain⟨b,e1,e2⟩:=GG hv hr.1 l7;simp only[X3 hx,o7,J9,hx,o9];rw[show Y3 (cu s d) (Y0 (i:Int))=some x from hx,o9,e1,o9,e2,o9,fP l7];exact⟨rfl,by simp[hv]⟩
  ·simp only[W9];rfl
 rw[o9];have hW:∀x,0<=x->x<nD s->mk (SC ((List.replicate s.2.2.2.1.length false).set d.toNat true) (cu s d)) x=vM (ins d (cu s d)) x:=λx x0 x1=>by
  have hm:=YX (cu s d) ((List.replicate s.2.2.2.1.length false).set d.toNat true) (λy hy=>by have:=Ar hy;simp only[x8,nC,qc];omega) x;have hd:=Vd (S:=List.replicate s.2.2.2.1.length false) (e:=d) h0 (by simp only[x8,qc];omega) x;have hh:vM (ins d (cu s d)) x=true↔x=d\/x∈cu s d:=by rw[uX,Ho]
  have key:mk (SC ((List.replicate s.2.2.2.1.length false).set d.toNat true) (cu s d)) x=true↔vM (ins d (cu s d)) x=true:=by
   rw[hm,hh,hd,Qn];cases hq:o8 x d
   ·have:x≠d:=λe=>by rw[O8 e]at hq;cases hq
    simp[this]
   ·rw[O5]at hq;simp[hq]
  rcases Bool.eq_false_or_eq_true (vM (ins d (cu s d)) x)with hb|hb
  ·rw[hb];exact key.2 hb
  ·rw[hb];cases hc:mk (SC ((List.replicate s.2.2.2.1.length false).set d.toNat true) (cu s d)) x
   ·rfl
   ·rw[key.1 hc]at hb;cases hb
 have hWl:(SC ((List.replicate s.2.2.2.1.length false).set d.toNat true) (cu s d)).length=s.2.2.2.1.length:=by rw[VU];simp
 have hCin:∀x∈ins d (cu s d),0<=x/\x<nD s:=λx hx=>by
  rcases(Ho d x _).1 hx with rfl|hx
  ·exact⟨h0,h1⟩
  ·exact Ar hx
 generalize SC ((List.replicate s.2.2.2.1.length false).set d.toNat true) (cu s d)=W at*;generalize ins d (cu s d)=C at*;refine yX s.2.2.2.2 (λ(acc:List Int) r=>l9 (vM C r.2.1) (acc++EL r) acc) (λb i=>(b,i)) (λb=>b) (λi acc=>acc.length<=100*i) [] l7 A7 (λi r acc ha hi hI=>?_) (λacc hI=>?_) (λh2=>?_)
 ·have hlt:=(Z4.1 ha).1;obtain⟨_,h1,h2⟩:=h.ro r (su ha);have a1:=KX r.2.2.2.2.2.1;have a2:=KX r.2.2.2.2.2.2.1;have hrl:=XL h (su ha);simp only[X3 ha,o7,J9,ha,o9];rw[fP l7];obtain⟨e,he⟩:∃e:Int,r.2.1=e:=⟨_,rfl⟩;rw[he];change l9 (D9 e 0) _ (l9 (J6 (nD s) e) _ _)=_/\_;by_cases q0:0<=e
  case neg=>
   have:vM C e=false:=by
    cases hq:vM C e
    ·rfl
    ·exact absurd (hCin _ (uX.1 hq)).1 q0
   rw[U5 (show e<0 by omega),this];exact⟨rfl,by show acc.length<=_;omega⟩
  by_cases q1:e<nD s
  case neg=>
   have:vM C e=false:=by
    cases hq:vM C e
    ·rfl
    ·exact absurd (hCin _ (uX.1 hq)).2 q1
   rw[L6 q0,X5 (show nD s<=e by omega),this];exact⟨rfl,by show acc.length<=_;omega⟩
  obtain⟨b,f1,f2⟩:=GG hWl q0 (show e<((s.2.2.2.1.length:Nat):Int) by omega);have hb:b=vM C e:=by have:=a3c (S:=W) q0 (by simp only[x8];omega);rw[←hW _ q0 q1];have e3:W[e.toNat]? =some b:=f2;rw[this]at e3;exact(V6 e3).symm
  rw[L6 q0,o6,Y1 q1,o6,f1,o9,f2,o9,hb];cases vM C e
  ·exact⟨rfl,by show acc.length<=_;omega⟩
  simp only[F9,o6,o7,BG (show r.2.2.2.2.2.1.length<=1000000 by omega),BG (show r.2.2.2.2.2.2.1.length<=1000000 by omega),o9];rw[Hg l7,o9,Hg (by rw[F5];omega),o9];refine⟨by unfold EL;rw[F6],by show(acc++EL r).length<=_;rw[F5];omega⟩
 ·simp only[W9];rfl
 ·have hf:∀(l:List aK) (b:List Int),l.foldl (λ(acc:List Int) r=>l9 (vM C r.2.1) (acc++EL r) acc) b=b++mdl l C:=by
   intro l;induction l with
   |nil=>intro b;simp[mdl]|cons a l ih=>intro b;rw[aH,ih,show mdl (a::l) C=l9 (vM C a.2.1) (EL a) []++mdl l C from rfl];cases vM C a.2.1<;>simp
  rw[hf,J4];have hml:=YV h C s.2.2.2.2 (λ_ h=>h);rw[Pg l7];rfl
def DT(m:D6)(w:List Bool)(L:List Int):List Bool:=L.foldl (IU m) w
theorem UT(m:D6):∀(L:List Int) (w:List Bool),(DT m w L).length=w.length
 |[],w=>rfl|x::L,w=>(UT m L (IU m w x)).trans (OT m w x)
theorem b2s{s:D6}(h:SmS s)(d:Int):(mbS s d).length<=6000:=by
 unfold mbS;cases inD (nD s) d
 ·simp
 ·have h1:=EK (mdl s.2.2.2.2 (ins d (cu s d)));have h2:=YV h (ins d (cu s d)) s.2.2.2.2 (λ_ h=>h);have:=h.nr;simp only[o7];omega
theorem a5O{s m:D6}(h:SmS s)(hm:SmS m){u w:List Bool}(hu:u.length=s.2.2.2.1.length)(hw:w.length=m.2.2.2.1.length){d:Int}(h0:0<=d)(h1:d<nD s)(hr:∀x∈mbS s d,0<=x/\x<nD m):
  tu (s,m,u,w) d=some (s,m,IU s u d,DT m w (mbS s d)):=by
 have hn:nD s=((s.2.2.2.1.length:Nat):Int):=rfl;have hl:=Gu h d;have hml:=b2s h d;obtain⟨b,e1,e2⟩:=GG hu h0 l7;unfold tu;simp only;rw[e1,o9,e2,o9,FK h h0 h1,o9];refine fK (o' :=some ((s,m,IU s u d,w):aZ)) ?_ ?_
 ·refine(sF (cu s d) (λ(v:List Bool) (x:Int)=>v.set x.toNat true) (λv i=>(((s,m,v,w),i):aZ×Int)) (λv=>((s,m,v,w):aZ)) (λ_ v=>v.length=s.2.2.2.1.length) (b:=u.set d.toNat true) l7 (by simp[hu]) (λi x v hx hi hv=>?_) (λv hv=>?_)).1
  ·have hr:=Ar (su hx);obtain⟨b,e1,e2⟩:=GG hv hr.1 l7;simp only[X3 hx,o7,J9,hx,o9];rw[show Y3 (cu s d) (Y0 (i:Int))=some x from hx,o9,e1,o9,e2,o9,fP l7];exact⟨rfl,by simp[hv]⟩
  ·simp only[W9];rfl
 rw[o9];simp only;rw[WH h h0 h1,o9,jm];refine(sF (mbS s d) (IU m) (λv i=>(((s,m,IU s u d,v),i):aZ×Int)) (λv=>((s,m,IU s u d,v):aZ)) (λ_ v=>v.length=m.2.2.2.1.length) (b:=w) l7 hw (λi x v hx hi hv=>?_) (λv hv=>?_)).1
 ·have hq:=hr x (su hx);simp only[X3 hx,o7,J9,hx,o9];rw[show Y3 (mbS s d) (Y0 (i:Int))=some x from hx,o9,Yv hm hv hq.1 hq.2,o9,fP l7];exact⟨rfl,(OT m v x).trans hv⟩
 ·simp only[W9];rfl
theorem b3N{k N:Int}{sg:J5}(hk:fE k=some true)(h:(Gn (k,N) [] sg).2=0):((RR (k,N) [] sg).getD ((0,0),0)).2=0:=by
 unfold Gn at h;rw[b1V]at h;revert h;cases E9 (o8 N 0)
 ·exact id
 ·rw[show fE (k,N).1=some true from hk];exact id
theorem b2L{N:Int}{sg:J5}(h:(Gn (8,N) [] sg).2=0):0<=N/\N<x8 sg.2.2.2.1:=by
 have h:=b3N rfl h;have hf:rH (8,N) sg=l9 (J6 0 N) (some (D9 N (x8 sg.2.2.2.1))) (some false):=rfl;unfold RR at h;rw[hf,show mV (8,N) sg=some true from rfl]at h;cases h1:J6 0 N<;>rw[h1]at h
 ·exact absurd (show(6:Int)=0 from h) G7
 cases h2:D9 N (x8 sg.2.2.2.1)<;>rw[h2]at h
 ·exact absurd (show(6:Int)=0 from h) G7
 exact⟨kR.1 h1,jC.1 h2⟩
theorem b2M{k N:Int}{sg:J5}(hk:k=36\/k=37\/k=38\/k=39)(h:(Gn (k,N) [] sg).2=0):0<=N/\N<x8 sg.2.2.2.2.1/\sg.2.2.2.2.2=true:=by
 have h:=b3N (by rcases hk with rfl|rfl|rfl|rfl<;>rfl) h;have hr:RR (k,N) [] sg=o5 (l9 sg.2.2.2.2.2 (l9 (J6 0 N) (some (D9 N (x8 sg.2.2.2.2.1))) (some false)) (some false)) λ(x:Bool)=>l9 (E9 x) (some ((0,0),6))
   (o5 (mg (k,N) sg) λ(x:E8×Bool)=>l9 (E9 x.2) (some ((0,0),8)) (some (x.1,0))):=by rcases hk with rfl|rfl|rfl|rfl<;>rfl
 rw[hr]at h;cases h0:sg.2.2.2.2.2<;>rw[h0]at h
 ·exact absurd (show(6:Int)=0 from h) G7
 cases h1:J6 0 N<;>rw[h1]at h
 ·exact absurd (show(6:Int)=0 from h) G7
 cases h2:D9 N (x8 sg.2.2.2.2.1)<;>rw[h2]at h
 ·exact absurd (show(6:Int)=0 from h) G7
 exact⟨kR.1 h1,jC.1 h2,rfl⟩
def TA(sg:J5)(n:Int×Int):Prop:=(o8 n.1 8=true->0<=n.2/\n.2<x8 sg.2.2.2.1)/\(isM n.1=true->0<=n.2/\n.2<x8 sg.2.2.2.2.1/\sg.2.2.2.2.2=true)
theorem XF{k:Int}(h:isM k=true):k=36\/k=37\/k=38\/k=39:=by
 unfold isM at h;cases h1:J6 36 k<;>rw[h1]at h
 ·cases h
 have h2:=kR.1 h1;have h3:=kR.1 (show J6 k 39=true from h);omega
theorem a8U{sg:J5}{n:Int×Int}{i:Nat}{t:Int×Int}(h:Cm sg n [] i= .inr t):TA sg n:=by
 unfold Cm at h;split at h
 ·rename_i h0;obtain⟨k,N⟩:=n;refine⟨λhk=>?_,λhk=>b2M (XF hk) h0⟩;have hk:k=8:=O5.1 hk;subst hk;exact b2L h0
 ·cases h
theorem Vj{sg:J5}{n:Int×Int}(h:arF n.1≠0):TA sg n:=by
 refine⟨λhk=>absurd ?_ h,λhk=>absurd ?_ h⟩
 ·rw[O5.1 hk];rfl
 ·rcases XF hk with e|e|e|e<;>rw[e]<;>rfl
theorem Il{sg:J5} :∀(t:XT) (o:Nat) {r:Int×Int},t.wf->gK sg t o= .inr r->∀n∈t.post,TA sg n
 | .l0 n,o,r,hw,h,x,hx=>by unfold XT.post at hx;rw[D8.1 hx];unfold gK at h;exact a8U h| .l1 n a,o,r,hw,h,x,hx=>by
  unfold XT.wf at hw;unfold XT.post at hx;unfold gK at h;cases ha:gK sg a o with
  |inl e=>rw[ha]at h;cases h|inr ta=>
   rcases A8.1 hx with hx|hx
   ·exact Il a o hw.2 ha x hx
   ·rw[D8.1 hx];exact Vj (by rw[hw.1];decide)
 | .l2 n a b,o,r,hw,h,x,hx=>by
  unfold XT.wf at hw;unfold XT.post at hx;unfold gK at h;cases ha:gK sg a o with
  |inl e=>rw[ha]at h;cases h|inr ta=>
   rw[ha]at h;simp only at h;cases hb:gK sg b (o+a.size)with
   |inl e=>rw[hb]at h;cases h|inr tb=>
    rcases A8.1 hx with hx|hx
    ·rcases A8.1 hx with hx|hx
     ·exact Il a o hw.2.1 ha x hx
     ·exact Il b _ hw.2.2 hb x hx
    ·rw[D8.1 hx];exact Vj (by rw[hw.1];decide)
 | .l3 n a b c,o,r,hw,h,x,hx=>by
  unfold XT.wf at hw;unfold XT.post at hx;unfold gK at h;cases ha:gK sg a o with
  |inl e=>rw[ha]at h;cases h|inr ta=>
   rw[ha]at h;simp only at h;cases hb:gK sg b (o+a.size)with
   |inl e=>rw[hb]at h;cases h|inr tb=>
    rw[hb]at h;simp only at h;cases hc:gK sg c (o+a.size+b.size)with
    |inl e=>rw[hc]at h;cases h|inr tc=>
     rcases A8.1 hx with hx|hx
     ·rcases A8.1 hx with hx|hx
      ·rcases A8.1 hx with hx|hx
       ·exact Il a o hw.2.1 ha x hx
       ·exact Il b _ hw.2.2.1 hb x hx
      ·exact Il c _ hw.2.2.2 hc x hx
     ·rw[D8.1 hx];exact Vj (by rw[hw.1];decide)
theorem Hq{sg:J5}{n:Int×Int}{ops:List (Int×Int)}{i:Nat}{x:Int×Int}(h:Cm sg n ops i= .inl x):x.2≠0:=by
 unfold Cm at h;split at h
 ·cases h
 ·rename_i h0;cases h;exact h0
theorem zB{sg:J5} :∀(t:XT) (o:Nat) {x:Int×Int},gK sg t o= .inl x->x.2≠0
 | .l0 n,o,x,h=>Hq h| .l1 n a,o,x,h=>by
  unfold gK at h;cases ha:gK sg a o with
  |inl e=>rw[ha]at h;cases h;exact zB a o ha|inr ta=>rw[ha]at h;exact Hq h
 | .l2 n a b,o,x,h=>by
  unfold gK at h;cases ha:gK sg a o with
  |inl e=>rw[ha]at h;cases h;exact zB a o ha|inr ta=>
   rw[ha]at h;simp only at h;cases hb:gK sg b (o+a.size)with
   |inl e=>rw[hb]at h;cases h;exact zB b _ hb|inr tb=>rw[hb]at h;exact Hq h
 | .l3 n a b c,o,x,h=>by
  unfold gK at h;cases ha:gK sg a o with
  |inl e=>rw[ha]at h;cases h;exact zB a o ha|inr ta=>
   rw[ha]at h;simp only at h;cases hb:gK sg b (o+a.size)with
   |inl e=>rw[hb]at h;cases h;exact zB b _ hb|inr tb=>
    rw[hb]at h;simp only at h;cases hc:gK sg c (o+a.size+b.size)with
    |inl e=>rw[hc]at h;cases h;exact zB c _ hc|inr tc=>rw[hc]at h;exact Hq h
theorem Ym{e:List (Int×Int)}{sg:J5}(h:(pg e sg).2.2=0):∀n∈e,TA sg n:=by
 unfold pg at h;cases hs:oV e with
 |inl x=>rw[hs]at h;exact absurd h (Fa hs)|inr t=>
  rw[hs]at h;simp only at h;cases ht:gK sg t 0 with
  |inl x=>rw[ht]at h;exact absurd h (zB t 0 ht)|inr r=>intro n hn;rw[(BU hs).1]at hn;exact Il t 0 (QN hs) ht n hn
theorem Lc{e:List (Int×Int)}{sg:J5}{t:Int×Int}(h:II e sg t=0):pg e sg=(t,(pg e sg).2.1,0):=by
 unfold II at h;cases h1:o8 (pg e sg).2.2 0<;>rw[h1]at h
 ·simp only[o6]at h;rw[O8 h]at h1;cases h1
 cases h2:o8 (pg e sg).1.1 t.1<;>rw[h2]at h
 ·exact absurd (show(8:Int)=0 from h) G7
 cases h3:o8 (pg e sg).1.2 t.2<;>rw[h3]at h
 ·exact absurd (show(8:Int)=0 from h) G7
 rw[O5]at h1 h2 h3;exact dZ (dZ h2 h3) (dZ rfl h1)
theorem Wn{l:Z7}(h:(kU l).1=0){i:Nat}{s:D6}(hs:l.2.2[i]? =some s){k:Nat}{r:aK}(hr:s.2.2.2.2[k]? =some r):IE s (FI l s) k r=0:=by
 have hp:=(QS h hs).2;unfold Vs at hp;cases h1:KD l s with
 |some q=>rw[h1]at hp;exact absurd hp (QX h1)|none=>
  rw[h1]at hp;simp only at hp;cases h2:bD s.2.2.2.2.length (OU l s)with
  |some q=>
   rw[h2]at hp;obtain⟨j,hj,hq⟩:=mJ h2;unfold OU at hq;cases h3:s.2.2.2.2[j]? with
   |none=>rw[h3]at hq;cases hq|some q2=>rw[h3]at hq;exact absurd hp (KC hq)
  |none=>
   have hn:=xm h2 k (Z4.1 hr).1;unfold OU at hn;rw[hr]at hn;simp only at hn;unfold YE at hn;cases he:o8 (IE s (FI l s) k r) 0<;>rw[he]at hn
   ·cases hn
   ·exact O5.1 he
theorem VN{s:D6}{sg:J5}{k:Nat}{r:aK}(h:IE s sg k r=0):∃d,H8 s.2.2.2.1 r.2.1=some d/\Un r sg d.2=0:=by
 unfold IE at h;cases g1:IQ r.1<;>rw[g1]at h
 ·exact absurd (show(2:Int)=0 from h) G7
 cases g2:(s.2.2.2.2.take k).any λx=>seq x.1 r.1<;>rw[g2]at h
 case true=>exact absurd (show(7:Int)=0 from h) G7
 cases g3:H8 s.2.2.2.1 r.2.1 with
 |none=>rw[g3]at h;exact absurd (show(6:Int)=0 from h) G7|some d=>
  rw[g3]at h;refine⟨d,rfl,?_⟩;simp only[o7,o6]at h;revert h;generalize l9 (o8 r.2.2.1 (-1)) false (l9 (D9 r.2.2.1 0) true (l9 (J6 k r.2.2.1) true (match H8 s.2.2.2.2 r.2.2.1 with|some q=>E9 (o8 q.2.1 r.2.1)|none=>true)))=b1;generalize D9 r.2.2.2.1 0=b2;generalize D9 9 r.2.2.2.1=b3;generalize IM r.2.2.2.2.1=b4;generalize o8 r.2.2.2.2.1.1 r.2.2.2.2.1.2=b5;generalize J6 8 (MF (s.2.2.2.2.take k) r.2.1)=b6;generalize a3Z r.2.2.2.2.2.2.2=b7;intro h;cases b1
  case true=>exact absurd (show(9:Int)=0 from h) G7
  cases b2
  case true=>exact absurd (show(3:Int)=0 from h) G7
  cases b3
  case true=>exact absurd (show(3:Int)=0 from h) G7
  cases b4
  case false=>exact absurd (show(3:Int)=0 from h) G7
  cases b5
  case true=>exact absurd (show(3:Int)=0 from h) G7
  cases b6
  case true=>exact absurd (show(4:Int)=0 from h) G7
  cases b7
  case false=>exact absurd (show(2:Int)=0 from h) G7
  exact h
theorem JU{l:Z7}(h:(kU l).1=0){i:Nat}{s:D6}(hs:l.2.2[i]? =some s){r:aK}(hr:r∈s.2.2.2.2):
  (r.2.2.2.2.2.1=[]\/II r.2.2.2.2.2.1 (FI l s) (1,0)=0)/\∃d,H8 s.2.2.2.1 r.2.1=some d/\II r.2.2.2.2.2.2.1 (FI l s) d.2=0:=by
 obtain⟨k,hk,e⟩:=bI hr;obtain⟨d,h1,h2⟩:=VN (Wn h hs (r:=r) (k:=k) (by rw[gY hk,e]));unfold Un at h2;cases h3:D9 0 (x8 r.2.2.2.2.2.1)<;>rw[h3]at h2
 ·refine⟨.inl ?_,d,h1,h2⟩;rw[iL]at h3;exact O7.1 (by simp only[x8]at h3;omega)
 ·simp only[o7]at h2;cases h4:o8 (II r.2.2.2.2.2.1 (FI l s) (1,0)) 0<;>rw[h4]at h2
  ·simp only[o6]at h2;rw[O8 h2]at h4;cases h4
  ·exact⟨.inr (O5.1 h4),d,h1,h2⟩
theorem b0L(l:Z7)(s:D6):(FI l s).2.2.2.1=s.2.2.2.1.map (·.2):=by unfold FI;split<;>rfl
theorem b3b{l:Z7}{s:D6}(h:(FI l s).2.2.2.2.2=true):(FI l s).2.2.2.2.1=(U0 l s).2.2.2.1.map (·.2):=by
 unfold FI at h ⊢;unfold U0 H8
 by_cases g:0<=s.2.1
 ·rw[if_pos g]at h ⊢;rw[X5 g];cases hq:l.2.2[s.2.1.toNat]? with
  |none=>rw[hq]at h;cases h|some q=>rfl
 ·rw[if_neg g]at h;cases h
theorem QG{l:Z7}(h:(kU l).1=0){i:Nat}{s:D6}(hs:l.2.2[i]? =some s){r:aK}(hr:r∈s.2.2.2.2){e:List (Int×Int)}(he:e=r.2.2.2.2.2.1\/e=r.2.2.2.2.2.2.1):
  (∀x∈(uz e).2.1,0<=x/\x<nD s)/\∀x∈(uz e).2.2,0<=x/\x<nD (U0 l s):=by
 obtain⟨h1,d,h2,h3⟩:=JU h hs hr;have hn:∀n∈e,TA (FI l s) n:=by
  rcases he with rfl|rfl
  ·rcases h1 with h1|h1
   ·rw[h1];simp
   ·exact Ym (by rw[Lc h1])
  ·exact Ym (by rw[Lc h3])
 constructor
 ·intro x hx;have hx:=(rf x _).1 (show x∈Ih (Lm (λo=>o8 o 8) e)from hx);obtain⟨n,hn1,rfl⟩:=U8.1 hx;obtain⟨hn2,hn3⟩:=N8.1 hn1;have:=(hn n hn2).1 hn3;rw[b0L]at this;simpa[x8,nD]using this
 ·intro x hx;have hx:=(rf x _).1 (show x∈Ih (Lm isM e)from hx);obtain⟨n,hn1,rfl⟩:=U8.1 hx;obtain⟨hn2,hn3⟩:=N8.1 hn1;have:=(hn n hn2).2 hn3;rw[b3b this.2.2]at this;refine⟨this.1,?_⟩;have h2:=this.2.1;simpa[x8,nD]using h2
theorem a3b{l:Z7}(h:(kU l).1=0){i:Nat}{s:D6}(hs:l.2.2[i]? =some s)(d:Int):∀x∈mbS s d,0<=x/\x<nD (U0 l s):=by
 intro x hx;unfold mbS at hx;cases hq:inD (nD s) d<;>rw[hq]at hx
 ·simp at hx
 ·obtain⟨r,hr,_,h3⟩:=a5d.1 ((rf x _).1 hx);rcases A8.1 h3 with h3|h3
  ·exact(QG h hs hr (.inl rfl)).2 x h3
  ·exact(QG h hs hr (.inr rfl)).2 x h3
theorem a0t{l:Z7}{s:D6}{c:bP}{nS nM:List Bool}{e:E4}(h:NQ l s c nS nM= .inr e):e.1≠0:=by
 unfold NQ at h;cases hm:mS l c (U0 l s) nM with
 |inr e=>rw[hm]at h;cases h;exact vz _ (λr=>r.1≠0) b4N _ _ _ hm|inl b=>
  rw[hm]at h;simp only at h;cases hs:scS s (xI l s c b) (-1) nS with
  |inr r=>rw[hs]at h;cases h;exact Tm hs|inl x=>rw[hs]at h;cases h
theorem a8g{l:Z7}{s:D6}{c:bP}{nS nM:List Bool}{x:DB×List DB}(h:NQ l s c nS nM= .inl x):x.1.1.length=s.2.2.2.1.length/\x.1.2.length=s.2.2.2.1.length:=by
 unfold NQ at h;cases hm:mS l c (U0 l s) nM with
 |inr e=>rw[hm]at h;cases h|inl b=>
  rw[hm]at h;simp only at h;cases hs:scS s (xI l s c b) (-1) nS with
  |inr r=>rw[hs]at h;cases h|inl y=>rw[hs]at h;cases h;exact Ie hs
theorem ZY{l:Z7}{k:Int}{c:bP}{d:Int}{s:D6}(h:(BJ l k c true d).1=0)(hs:H8 l.2.2 k=some s):0<=d/\d<nD s:=by
 unfold BJ at h;cases h0:o8 (kU l).1 0<;>rw[h0]at h
 ·exact absurd (show(1:Int)=0 from h) G7
 rw[hs]at h;simp only[o7]at h;cases h1:D9 d 0<;>rw[h1]at h
 case true=>exact absurd (show(6:Int)=0 from h) G7
 cases h2:J6 (x8 s.2.2.2.1) d<;>rw[h2]at h
 case true=>exact absurd (show(6:Int)=0 from h) G7
 rw[iL]at h1;rw[Fz]at h2;exact⟨h1,h2⟩
theorem a0N{α:Type}{l:List α}{d:Int}(a:α)(h0:0<=d)(h1:d<(l.length:Int)):H8 l d=some (l.getD d.toNat a)/\Y3 l (Y0 d)=some (l.getD d.toNat a):=by
 have h:d.toNat<l.length:=l7;have e:l[d.toNat]? =some (l.getD d.toNat a):=by rw[rZ,gY h];rfl
 exact⟨by unfold H8;rw[if_pos h0];exact e,e⟩
def b7h(d:Int)(r:DB×List DB⊕E4):V3×Int×E4:=match r with
 | .inr e=>((0,0,0),0,e)| .inl x=>(x.1.1.getD d.toNat (0,0,0),x.1.2.getD d.toNat 0,0,0,0,0)
def a2L(l:Z7)(s:D6)(c:bP)(d:Int):V3×Int×E4:=
 b7h d (NQ l s c (IU s (vK s.2.2.2.1.length) d) (DT (U0 l s) (vK (U0 l s).2.2.2.1.length) (mbS s d)))
theorem AV(n:Nat):(vK n).length=n:=by simp[vK]
theorem a2K{l:Z7}{k:Int}{c:bP}{d:Int}(hL:SmL l)(hC:SmC c)(hT:∀t∈l.2.1,yQ t):
  jO l k c d=some (if(BJ l k c true d).1=0 then(match H8 l.2.2 k with|some s=>a2L l s c d|none=>((0,0,0),0,0,0,0,0))else((0,0,0),0,BJ l k c true d)):=by
 unfold jO;rw[b2a hL k hC,o9];by_cases hA:(BJ l k c true d).1=0
 case neg=>rw[if_neg hA,L9 hA];rfl
 rw[if_pos hA,O8 hA];obtain⟨h,s,hs⟩:=PM hA;obtain⟨h0,h1⟩:=ZY hA hs;have hM:=a0Y hL h hs;have hS:=hL.sc s (dW hs).2.2.1;have hn:nD s=((s.2.2.2.1.length:Nat):Int):=rfl;rw[hs];simp only[F9,o6];rw[a1g hL h hs,o9,a5O hS hM (AV _) (AV _) h0 h1 (a3b h (dW hs).2.2.2 d),o9,YF hS hM hC hT (by rw[OT,AV]) (by rw[UT,AV]),o9];unfold a2L;cases hq:NQ l s c (IU s (vK s.2.2.2.1.length) d) (DT (U0 l s) (vK (U0 l s).2.2.2.1.length) (mbS s d))with
 |inr e=>simp only[L9 (a0t hq)];rfl|inl x=>obtain⟨g1,g2⟩:=a8g hq;simp only[O8 (rfl:(0:Int)=0),F9,o6];rw[(a0N (0,0,0) h0 l7).1,o9,(a0N 0 h0 l7).1];rfl
abbrev BB:Type:=List Bool×List Bool
def BOk(s m:D6)(b:BB):Prop:=b.1.length=s.2.2.2.1.length/\b.2.length=m.2.2.2.1.length
theorem a0g(s:D6)(env:aP)(m d:Int):((V9 s env m d).2.1=0/\V9 s env m d=((V9 s env m d).1,0,0,0,0))\/((V9 s env m d).2.1≠0/\V9 s env m d=(0,(V9 s env m d).2)):=by
 unfold V9;cases hf:aG (Cb s env m d) (bg s d env.1).1 []with
 |inr e=>
  right;have:=vz (Cb s env m d) (λr=>r.1=0/\r.2.1≠0) (λb i r h=>?_) _ _ _ hf
  ·exact⟨this.2,dZ this.1 rfl⟩
  ·refine⟨?_,NT b i r h⟩;unfold Cb at h;split at h
   ·cases h
   ·rename_i q _;cases h1:o8 (x8 q.2.2.2.2.2.1) 0<;>rw[h1]at h
    case true=>cases h
    cases h2:o8 (uU q.2.2.2.2.2.1 env).2 0<;>rw[h2]at h<;>cases h;rfl
 |inl ap=>left;simp only;cases D9 (Eh (bg s d env.1).2.1 (bg s d env.1).2.2 ap) 0<;>exact⟨rfl,rfl⟩
structure Sim (P Q:Int->Prop) (a b:aP):Prop where
 e1:a.1=b.1
 e2:a.2.1=b.2.1
 e3:a.2.2.2.2=b.2.2.2.2
 dl:a.2.2.1.length=b.2.2.1.length
 d:∀x,P x->H8 a.2.2.1 x=H8 b.2.2.1 x
 ml:a.2.2.2.1.length=b.2.2.2.1.length
 m:∀x,Q x->a.2.2.2.1.map (λv=>H8 v x)=b.2.2.2.1.map (λv=>H8 v x)
def ZQ(P Q:Int->Prop)(n:Int×Int):Prop:=(n.1=8->P n.2)/\(isM n.1=true->Q n.2)
theorem YQ{α β:Type}{a:List α}{b:List β}(h:a.length=b.length):x8 a=x8 b:=congrArg (λ(n:Nat)=>(n:Int)) h
theorem a6h{P Q:Int->Prop}{n:Int×Int}{a b:aP}(h:Sim P Q a b)(hn:ZQ P Q n):BP n a=BP n b:=by
 obtain⟨d,i,D,M,T,B⟩:=a;obtain⟨d',i',D',M',T',B'⟩:=b;obtain⟨e1,e2,e3,dl,hd,ml,hm⟩:=h;cases e1;cases e2;cases e3;have hD:=YQ dl;unfold BP;simp only at hD hd ⊢;rw[hD];cases hk:o8 n.1 8
 ·rfl
 ·rw[hd _ (hn.1 (O5.1 hk))]
theorem a0P{P Q:Int->Prop}{n:Int×Int}{a b:aP}(h:Sim P Q a b)(hn:ZQ P Q n):gZ n a=gZ n b:=by
 obtain⟨d,i,D,M,T,B⟩:=a;obtain⟨d',i',D',M',T',B'⟩:=b;obtain⟨e1,e2,e3,dl,hd,ml,hm⟩:=h;cases e1;cases e2;cases e3;have hM:=YQ ml;unfold gZ;simp only at hM hd ⊢;rw[hM];cases hk:o8 n.1 8
 ·rfl
 ·rw[hd _ (hn.1 (O5.1 hk))]
theorem Uw{α γ β ρ:Type}(f:α->γ)(g:β->γ->β⊕ρ):∀(l:List α) (b:β),aG (λb a=>g b (f a)) l b=aG g (l.map f) b
 |[],b=>rfl|a::l,b=>by
  rw[iP];unfold aG;cases g b (f a)with
  |inl b' =>exact Uw f g l b'|inr r=>rfl
def b7e(k:Int)(t:Int×Int)(b:Int×Bool)(o:Option V3):(Int×Bool)⊕(V3×Int):=
 match(match o with|none=>(.inr 6:V3⊕Int)|some x=>l9 (o8 x.1 0) (.inr 6) (l9 (Qg x t) (.inl x) (.inr 8)))with
 | .inr c=> .inr ((0,0,0),c)| .inl x=>l9 (plB (t.1,0,Em k b.1 x.2.2 b.2)) (.inl (Em k b.1 x.2.2 b.2,false)) (.inr ((0,0,0),3))
theorem a5b(k N:Int)(t:Int×Int)(ms:List (List V3))(b:Int×Bool):aG (Eo k N t) ms b=aG (b7e k t) (ms.map λv=>H8 v N) b:=Uw (λv=>H8 v N) (b7e k t) ms b
theorem a1c{P Q:Int->Prop}{n:Int×Int}{a b:aP}(h:Sim P Q a b)(hn:Q n.2)(ha:EvOk a)(hb:EvOk b):sK n a=sK n b:=by
 obtain⟨k,N⟩:=n;have h3:a.2.2.2.2.1=b.2.2.2.2.1:=by rw[h.e3]
 cases hl:H8 a.2.2.2.2.1 N with
 |none=>
  have hl2:H8 b.2.2.2.2.1 N=none:=by rw[←h3];exact hl
  unfold sK;simp only;rw[hl,hl2];rfl
 |some t=>
  have hl2:H8 b.2.2.2.2.1 N=some t:=by rw[←h3];exact hl
  have h0:=(dW hl).1;rw[Jz k N a t hl h0 ha.ms,Jz k N b t hl2 h0 hb.ms];unfold a1b;rw[a5b,a5b,h.m N hn,YQ h.ml]
theorem a3M{P Q:Int->Prop}{a b:aP}(h:Sim P Q a b)(n:Int×Int)(x:V3):oQ n x a=oQ n x b:=by obtain⟨d,i,D,M,T,B⟩:=a;obtain⟨d',i',D',M',T',B'⟩:=b;obtain⟨e1,e2,e3,dl,hd,ml,hm⟩:=h;cases e1;cases e2;cases e3;rfl
theorem PL{P Q:Int->Prop}{n:Int×Int}{a b:aP}(h:Sim P Q a b)(hn:ZQ P Q n)(ha:EvOk a)(hb:EvOk b)(args:List V3):BX n args a=BX n args b:=by
 unfold BX wR;simp only[a6h h hn,a0P h hn,a3M h];cases h1:J6 36 n.1
 ·rfl
 cases h2:J6 n.1 39
 ·rfl
 rw[a1c h (hn.2 (by unfold isM;rw[h1];exact h2)) ha hb]
theorem GV{P Q:Int->Prop}{a b:aP}(h:Sim P Q a b)(ha:EvOk a)(hb:EvOk b):∀(t:XT),(∀n∈t.post,ZQ P Q n)->evT a t=evT b t
 | .l0 n,hn=>PL h (hn n (by simp[XT.post])) ha hb []| .l1 n x,hn=>by unfold evT;rw[GV h ha hb x (λm hm=>hn m (by simp[XT.post,hm])),PL h (hn n (by simp[XT.post])) ha hb]| .l2 n x y,hn=>by unfold evT;rw[GV h ha hb x (λm hm=>hn m (by simp[XT.post,hm])),GV h ha hb y (λm hm=>hn m (by simp[XT.post,hm])),PL h (hn n (by simp[XT.post])) ha hb]| .l3 n x y z,hn=>by unfold evT;rw[GV h ha hb x (λm hm=>hn m (by simp[XT.post,hm])),GV h ha hb y (λm hm=>hn m (by simp[XT.post,hm])),GV h ha hb z (λm hm=>hn m (by simp[XT.post,hm]))]
theorem a6V{P Q:Int->Prop}{e:List (Int×Int)}(h1:∀x∈(uz e).2.1,P x)(h2:∀x∈(uz e).2.2,Q x):∀n∈e,ZQ P Q n:=λn hn=>by
 refine⟨λhk=>h1 _ ?_,λhk=>h2 _ ?_⟩
 ·exact(rf _ _).2 (U8.2 ⟨n,N8.2 ⟨hn,by simp[hk,o8]⟩,rfl⟩)
 ·exact(rf _ _).2 (U8.2 ⟨n,N8.2 ⟨hn,hk⟩,rfl⟩)
theorem Xq{P Q:Int->Prop}{a b:aP}(h:Sim P Q a b)(ha:EvOk a)(hb:EvOk b){e:List (Int×Int)}(h1:∀x∈(uz e).2.1,P x)(h2:∀x∈(uz e).2.2,Q x):uU e a=uU e b:=by
 unfold uU;cases hs:oV e with
 |inl x=>rfl|inr t=>simp only;exact GV h ha hb t (λn hn=>a6V h1 h2 n (by rw[(BU hs).1];exact hn))
def PH(s:D6)(P Q:Int->Prop)(d:Int):Prop:=∀r∈s.2.2.2.2,r.2.1=d->∀e,e=r.2.2.2.2.2.1\/e=r.2.2.2.2.2.2.1->(∀x∈(uz e).2.1,P x)/\∀x∈(uz e).2.2,Q x
theorem La{s:D6}{d t i:Int}(h:i∈(bg s d t).1):∃r,H8 s.2.2.2.2 i=some r/\r∈s.2.2.2.2/\r.2.1=d:=by
 have h:i∈castL (ah s d t):=h;obtain⟨k,hk,rfl⟩:=U8.1 h;obtain⟨h1,h2⟩:=pJ hk;obtain⟨r,hr,hm⟩:=mf (l:=s.2.2.2.2) (i:=(k:Int)) l7 (by unfold x8;omega);refine⟨r,hr,hm,?_⟩;unfold onR at h2;rw[J9]at hr;rw[hr]at h2;simp only at h2;cases h3:o8 r.2.1 d<;>rw[h3]at h2
 ·cases h2
 ·exact O5.1 h3
theorem QY{α β ρ:Type}{G H:β->α->β⊕ρ} :∀(l:List α) (b:β),(∀a∈l,∀b,G b a=H b a)->aG G l b=aG H l b
 |[],b,h=>rfl|a::l,b,h=>by
  unfold aG;rw[h a A7];cases H b a with
  |inl b' =>exact QY l b' (λx hx=>h x (by simp[hx]))|inr r=>rfl
theorem a0j{s:D6}{P Q:Int->Prop}{a b:aP}(h:Sim P Q a b)(ha:EvOk a)(hb:EvOk b){d:Int}(hr:∀i∈(bg s d b.1).1,∀r,H8 s.2.2.2.2 i=some r->(∀x∈(uz r.2.2.2.2.2.1).2.1,P x)/\∀x∈(uz r.2.2.2.2.2.1).2.2,Q x)(m:Int):V9 s a m d=V9 s b m d:=by unfold V9;rw[h.e1,QY (G:=Cb s a m d) (H:=Cb s b m d) (bg s d b.1).1 [] (λi hi ap=>?_)];obtain⟨r,h1,h2,h3⟩:=La hi;obtain⟨p1,p2⟩:=hr i hi r h1;unfold Cb;rw[h1];simp only;rw[Xq h ha hb p1 p2]
theorem a2v{s:D6}{P Q:Int->Prop}{a b:aP}(h:Sim P Q a b)(ha:EvOk a)(hb:EvOk b){d:Int}(hr:PH s P Q d)(m:Int):V9 s a m d=V9 s b m d:=
 a0j h ha hb (λi hi r hl=>by obtain⟨q,h1,h2,h3⟩:=La hi;rw[h1]at hl;cases hl;exact hr r h2 h3 _ (.inl rfl)) m
theorem Xn{s:D6}{env:aP}{m d:Int}(h0:(V9 s env m d).2.1=0)(h1:(V9 s env m d).1≠-1)(h2:(V9 s env m d).1≠-2):(V9 s env m d).1∈(bg s d env.1).1:=by
 unfold V9 at h0 h1 h2 ⊢;cases hf:aG (Cb s env m d) (bg s d env.1).1 []with
 |inr e=>rw[hf]at h0;exact absurd h0 (vz (Cb s env m d) (λr=>r.2.1≠0) (λb i r h=>NT b i r h) _ _ _ hf)|inl ap=>
  rw[hf]at h1 h2;simp only at h1 h2 ⊢;have hb:=Zw (bg s d env.1).2.1 (bg s d env.1).2.2 ap;have hlo:=a5z (bg s d env.1).2.1 (bg s d env.1).2.2 ap;have hl:=(Pn s d env.1).2;generalize Eh (bg s d env.1).2.1 (bg s d env.1).2.2 ap=q at h1 h2 hb hlo ⊢;by_cases g:q<0
  ·rw[U5 g]at h1 h2;simp only[o7]at h1 h2;omega
  rw[L6 (fZ.1 g)];have hi:q.toNat<(bg s d env.1).1.length:=l7;simp only[o6,rZ,gY hi,dB];exact S9 hi
theorem NL{s:D6}{P Q:Int->Prop}{a b:aP}(h:Sim P Q a b)(ha:EvOk a)(hb:EvOk b){d:Int}(hr:PH s P Q d)(m:Int):xR s a m d=xR s b m d:=by
 unfold xR;rw[a2v h ha hb hr m];cases h0:o8 (V9 s b m d).2.1 0
 ·simp only[o6]
 cases h1:o8 (V9 s b m d).1 (-1)
 case true=>simp only[o7]
 cases h2:o8 (V9 s b m d).1 (-2)
 case true=>simp only[o7,o6]
 have hin:=Xn (O5.1 h0) (λe=>by rw[O8 e]at h1;cases h1) (λe=>by rw[O8 e]at h2;cases h2);obtain⟨r,r1,r2,r3⟩:=La hin;obtain⟨p1,p2⟩:=hr r r2 r3 _ (.inr rfl);rw[r1];simp only;rw[Xq h ha hb p1 p2]
def Sr(s:D6)(O:List Int):Prop:=O.Nodup/\(∀d∈O,0<=d/\d<nD s)/\∀(pre:List Int) (d:Int) (suf:List Int),O=pre++d::suf->∀x∈O0 s d,x∈pre
theorem a3V{O pre suf:List Int}{d e:Int}(h:O++[e]=pre++d::suf):(suf=[]/\pre=O/\d=e)\/∃suf',suf=suf' ++[e]/\O=pre++d::suf' :=by
 rcases List.eq_nil_or_concat suf with rfl|⟨suf',z,rfl⟩
 ·have h:O++[e]=pre++[d]:=h;obtain⟨h1,h2⟩:=List.append_inj' h rfl;cases h2;exact .inl ⟨rfl,h1.symm,rfl⟩
 ·rw[List.concat_eq_append,←au,←F6]at h;obtain⟨h1,h2⟩:=List.append_inj' h rfl;cases h2;exact .inr ⟨suf',A7,h1⟩
theorem a7g{s:D6}{O:List Int}{d:Nat}(h:Sr s O)(hd:d<s.2.2.2.1.length)(ho:okN s O d=true):Sr s (O++[(d:Int)]):=by
 obtain⟨h1,h2⟩:=a3i.1 ho;refine⟨?_,λx hx=>?_,λpre e suf he x hx=>?_⟩
 ·exact I7.2 ⟨h.1,A7,λa ha b hb hab=>by simp at hb;subst hb;exact h1 (hab▸ha)⟩
 ·rcases A8.1 hx with hx|hx
  ·exact h.2.1 x hx
  ·simp at hx;subst hx;unfold nD x8;omega
 ·rcases a3V he with⟨_,rfl,rfl⟩|⟨suf',_,e2⟩
  ·cases hq:vM pre x
   ·have:x∈Oa s pre (d:Int):=N8.2 ⟨hx,by simp[hq]⟩;rw[h2]at this;cases this
   ·exact uX.1 hq
  ·exact h.2.2 pre e suf' e2 x hx
theorem a2d{s:D6}{d x:Int}(hx:x∈O0 s d)(hn:x∉cu s x):(cu s x).length<(cu s d).length:=by
 obtain⟨a1,a2,a3,a4⟩:=vJ s d;obtain⟨b1,b2,b3,b4⟩:=vJ s x;have hxd:=a2 x hx;rcases Pj b1 a1 (λy hy=>b4 (λz=>z∈cu s d) (a3 x hxd) (λz hz=>a3 z hz) y hy)with h|h
 ·rw[←h]at hxd;exact absurd hxd hn
 ·exact h
theorem a9Y{s:D6}(hac:∀d,0<=d->d<nD s->d∉cu s d)(O:List Int):∀(n:Nat) (d:Int),0<=d->d<nD s->d∉O->(cu s d).length<=n->∃e,0<=e/\e<nD s/\e∉O/\∀x∈O0 s e,x∈O:=by
 intro n;induction n with
 |zero=>intro d h0 h1 h2 hl;refine⟨d,h0,h1,h2,λx hx=>?_⟩;have:=(vJ s d).2.1 x hx;rw[O7.1 (Nat.le_zero.1 hl)]at this;cases this|succ n ih=>
  intro d h0 h1 h2 hl;by_cases hq:∀x∈O0 s d,x∈O
  ·exact⟨d,h0,h1,h2,hq⟩
  ·obtain⟨x,hx⟩:=Classical.not_forall.1 hq;obtain⟨hx,hxO⟩:=Classical.not_imp.1 hx;obtain⟨q0,q1⟩:=vg hx;have:=a2d hx (hac x q0 q1);exact ih x q0 q1 hxO l7
theorem b4W{s:D6}{O:List Int}(hl:O.length<s.2.2.2.1.length):∃d:Int,0<=d/\d<nD s/\d∉O:=by
 refine dH λhq=>?_;have h1:∀x∈castL (List.range s.2.2.2.1.length),x∈Ih O:=λx hx=>by obtain⟨j,hj,rfl⟩:=U8.1 hx;have:=U3.1 hj;exact(rf _ _).2 (dH λhn=>hq ⟨(j:Int),l7,by unfold nD x8;omega,hn⟩)
 have h2:=EK O;have h3:(castL (List.range s.2.2.2.1.length)).length=s.2.2.2.1.length:=by rw[FO,eX]
 rcases Pj (TU oP) (Zz O) h1 with h|h
 ·rw[←h]at h2;omega
 ·omega
theorem XY{s:D6}(hac:∀d,0<=d->d<nD s->d∉cu s d):∀(k:Nat) (O:List Int),Sr s O->O.length<=s.2.2.2.1.length->s.2.2.2.1.length -O.length<=k->∃O',Vo s k O= .inl O' /\Sr s O' /\O'.length=s.2.2.2.1.length
 |0,O,h,hl,hk=>⟨O,rfl,h,l7⟩|k+1,O,h,hl,hk=>by
  unfold Vo;by_cases hq:O.length<s.2.2.2.1.length
  ·rw[if_pos hq];cases hn:LM s O with
   |none=>
    obtain⟨d,d0,d1,d2⟩:=b4W hq;obtain⟨e,e0,e1,e2,e3⟩:=a9Y hac O _ d d0 d1 d2 (E5 _);have hlt:e.toNat<s.2.2.2.1.length:=by unfold nD x8 at e1;omega
    have:=xm hn e.toNat hlt;have hok:okN s O e.toNat=true:=a3i.2 (by rw[X4 e0];refine⟨e2,kT.2 λx hx=>by simp[uX.2 (e3 x hx)]⟩)
    unfold Ru at this;rw[hok]at this;cases this
   |some d=>obtain⟨n1,n2⟩:=Vg hn;exact XY hac k (O++[(d:Int)]) (a7g h n1 n2) az az
  ·rw[if_neg hq];exact⟨O,rfl,h,l7⟩
theorem Vp{s:D6}(hs:SmS s)(hac:∀d,0<=d->d<nD s->d∉cu s d):Sr s (lq s).1/\∀d,0<=d->d<nD s->d∈(lq s).1:=by
 have hnd:=hs.nd;obtain⟨O,h1,h2,h3⟩:=XY hac 100 [] ⟨A7,A7,λpre d suf h=>by simp at h⟩ A7 az;have e:(lq s).1=O:=by unfold lq;rw[h1]
 rw[e];refine⟨h2,λd d0 d1=>?_⟩;refine dH λhn=>?_;have:=KL (l:=d::O) (n:=s.2.2.2.1.length) (eY.2 ⟨hn,h2.1⟩) (λx hx=>by
  rcases C9.1 hx with rfl|hx
  ·exact⟨d0,d1⟩
  ·exact h2.2.1 x hx)
 simp at this;omega
theorem Nq{l:Z7}(h:(kU l).1=0){i:Nat}{s:D6}(hs:l.2.2[i]? =some s):∀d,0<=d->d<nD s->d∉cu s d:=by
 intro d d0 d1 hd;have hp:=(QS h hs).2;unfold Vs at hp;cases h1:KD l s with
 |some q=>rw[h1]at hp;exact absurd hp (QX h1)|none=>
  rw[h1]at hp;simp only at hp;cases h2:bD s.2.2.2.2.length (OU l s)with
  |some q=>
   rw[h2]at hp;obtain⟨j,hj,hq⟩:=mJ h2;unfold OU at hq;cases h3:s.2.2.2.2[j]? with
   |none=>rw[h3]at hq;cases hq|some q2=>rw[h3]at hq;exact absurd hp (KC hq)
  |none=>
   rw[h2]at hp;simp only at hp;have key:a0m s d.toNat=some (9,((200+d.toNat:Nat):Int)):=by unfold a0m;rw[show((cu s d.toNat).any λx=>o8 (d.toNat:Int) x)=true from ?_];rfl;rw[X4 d0];exact fQ.2 ⟨d,hd,O8 rfl⟩
   cases h3:bD s.2.2.2.1.length (a0m s)with
   |none=>have:=xm h3 d.toNat (by unfold nD x8 at d1;omega);rw[key]at this;cases this|some q=>
    rw[h3]at hp;obtain⟨j,hj,hq⟩:=mJ h3;unfold a0m at hq;cases h4:(cu s (j:Int)).any λx=>o8 (j:Int) x<;>rw[h4]at hq
    ·cases hq
    ·cases hq;exact absurd (show(9:Int)=0 from hp) G7
theorem a8K{l:Z7}(h:(kU l).1=0){k:Int}{s:D6}(hs:H8 l.2.2 k=some s):∀d,0<=d->d<nD (U0 l s)->d∉cu (U0 l s) d:=by
 rcases zC h hs with⟨_,_,g⟩|⟨_,_,_,g,_⟩
 ·rw[g];intro d d0 d1;exact absurd d1 (by show ¬d<(0:Int);omega)
 ·exact Nq h (dW g).2.2.2
theorem Xw{α β ρ:Type}(G:β->α->β⊕ρ):∀(l m:List α) (b:β),aG G (l++m) b=match aG G l b with| .inl b' =>aG G m b'| .inr r=> .inr r
 |[],m,b=>rfl|a::l,m,b=>by
  rw[au];simp only[aG];cases G b a with
  |inl b' =>exact Xw G l m b'|inr r=>rfl
theorem Hl{α:Type}{l:List α}{d x:Int}(v:α)(h0:0<=d)(h:x≠d):H8 (l.set d.toNat v) x=H8 l x:=by
 unfold H8
 split
 ·rw[List.getElem?_set_ne l7]
 ·rfl
theorem UK{α:Type}{l:List α}{d:Int}(v:α)(h0:0<=d)(h:d<x8 l):H8 (l.set d.toNat v) d=some v:=by
 unfold H8
 rw[if_pos h0,oO (by unfold x8 at h;omega)]
theorem VP{s:D6}{env:aP}{m:Int}{need:List Bool}{x:Int} :∀(L:List Int) {B X:DB},(∀d∈L,0<=d)->x∉L->aG (scG s env m need) L B= .inl X->H8 X.1 x=H8 B.1 x/\H8 X.2 x=H8 B.2 x
 |[],B,X,_,_,h=>by cases h;exact⟨rfl,rfl⟩|d::L,B,X,hL,hx,h=>by
  unfold aG at h;cases hg:scG s env m need B d with
  |inr e=>rw[hg]at h;cases h|inl B' =>
   rw[hg]at h;obtain⟨k1,k2⟩:=VP L (λy hy=>hL y (by simp[hy])) (λhm:x∈L=>hx (P5 _ hm)) h;have hd:x≠d:=λe=>hx (by simp[e]);unfold scG at hg;cases h1:(H8 need d).getD false<;>rw[h1]at hg
   ·cases hg;exact⟨k1,k2⟩
   simp only[o7]at hg;cases h2:xR s (xK env B.1) m d with
   |inr e=>rw[h2]at hg;cases hg|inl v=>rw[h2]at hg;cases hg;rw[k1,k2,Hl _ (hL d A7) hd,Hl _ (hL d A7) hd];exact⟨rfl,rfl⟩
theorem b2Y{s:D6}{env:aP}{m:Int}{need:List Bool}{n:Nat}(L:List Int){B X:DB}(hB:B.1.length=n/\B.2.length=n)(h:aG (scG s env m need) L B= .inl X):X.1.length=n/\X.2.length=n:=by
 refine Qc (scG s env m need) (λx=>x.1.length=n/\x.2.length=n) (λb d b' hb hg=>?_) _ _ _ hB h;unfold scG at hg;cases h1:(H8 need d).getD false<;>rw[h1]at hg
 ·cases hg;exact hb
 simp only[o7]at hg;cases hd:xR s (xK env b.1) m d with
 |inr e=>rw[hd]at hg;cases hg|inl v=>rw[hd]at hg;cases hg;simp[hb]
theorem GK{l:Z7}(h:(kU l).1=0){i:Nat}{s:D6}(hs:l.2.2[i]? =some s)(d:Int):PH s (λx=>x∈O0 s d) (λx=>0<=x/\x<nD (U0 l s)) d:=by
 intro r hr hd e he;obtain⟨p1,p2⟩:=QG h hs hr he;refine⟨λx hx=>?_,p2⟩;obtain⟨q,hq,_⟩:=(JU h hs hr).2;obtain⟨q0,q1,_⟩:=dW hq;have hin:inD (nD s) d=true:=by rw[←hd];unfold inD;rw[X5 q0];exact U5 q1
 unfold O0;rw[hin];refine(rf _ _).2 (a8L.2 ⟨r,hr,hd,?_⟩);obtain⟨x0,x1⟩:=p1 x hx;have hxi:inD (nD s) x=true:=by unfold inD;rw[X5 x0];exact U5 x1
 unfold IB;rcases he with rfl|rfl
 ·exact A8.2 (.inl (N8.2 ⟨hx,hxi⟩))
 ·exact A8.2 (.inr (N8.2 ⟨hx,hxi⟩))
theorem XO(l:Z7)(s:D6)(h:(U0 l s).2.1=-1):U0 l (U0 l s)=vV:=by unfold U0 at h ⊢;rw[h];rfl
theorem uy{l:Z7}(h:(kU l).1=0){k:Int}{s:D6}(hs:H8 l.2.2 k=some s)(d:Int):PH (U0 l s) (λx=>x∈O0 (U0 l s) d) (λx=>False) d:=by
 rcases zC h hs with⟨_,_,g⟩|⟨g1,g2,g3,g,_⟩
 ·rw[g];intro r hr;cases hr
 ·intro r hr hd e he;have h2:=GK h (dW g).2.2.2 d r hr hd e he;refine⟨h2.1,λx hx=>?_⟩;have hm:=QR h (dW hs).2.2.2;unfold FC at hm;have hne:o8 s.2.1 (-1)=false:=L9 (by rw[kR]at g1;omega);rw[hne,g2,g]at hm;simp only[o6]at hm;have hm1:(U0 l s).2.1=-1:=by
   cases hq:J6 (((k.toNat:Nat)):Int) s.2.1<;>rw[hq]at hm
   case true=>cases hm
   cases hq2:o8 (U0 l s).2.1 (-1)<;>rw[hq2]at hm
   ·cases hm
   ·exact O5.1 hq2
  have:=h2.2 x hx;rw[XO l s hm1]at this;exact absurd this.2 (by show ¬x<(0:Int);omega)
theorem Ut{s:D6}{env:aP}{m:Int}{need:List Bool}{X:DB}{Q:Int->Prop}(hE:EvOk env)(ht:Sr s (lq s).1)(hX:scS s env m need= .inl X){d:Int}(hd:d∈(lq s).1)(hn:(H8 need d).getD false=true)(hr:PH s (λx=>x∈O0 s d) Q d):
  ∃v r,H8 X.1 d=some v/\H8 X.2 d=some r/\xR s (xK env X.1) m d= .inl (v,r):=by
 obtain⟨pre,suf,he⟩:=List.append_of_mem hd;have hlen:=Ie hX;unfold scS at hX;rw[he,Xw]at hX;cases hB:aG (scG s env m need) pre (List.replicate s.2.2.2.1.length (0,0,0),List.replicate s.2.2.2.1.length 0)with
 |inr r=>rw[hB]at hX;cases hX|inl B=>
  rw[hB]at hX;simp only at hX;have hBl:=b2Y (n:=s.2.2.2.1.length) pre A7 hB;unfold aG at hX;cases hg:scG s env m need B d with
  |inr r=>rw[hg]at hX;cases hX|inl B' =>
   rw[hg]at hX;simp only at hX;obtain⟨d0,d1⟩:=ht.2.1 d hd;have hnd:=ht.1;rw[he]at hnd;obtain⟨n1,n2,n3⟩:=I7.1 hnd;obtain⟨n4,n5⟩:=eY.1 n2;have hpos:∀y∈suf,0<=y:=λy hy=>(ht.2.1 y (by rw[he];simp[hy])).1;unfold scG at hg;rw[hn]at hg;simp only[o7]at hg;cases hv:xR s (xK env B.1) m d with
   |inr e=>rw[hv]at hg;cases hg
   |inl v=>rw[hv]at hg;cases hg;obtain⟨k1,k2⟩:=VP (x:=d) suf hpos n4 hX;rw[UK _ d0 (by unfold nD at d1;unfold x8 at d1 ⊢;omega)]at k1 k2;refine⟨v.1,v.2,k1,k2,?_⟩;rw[←hv];refine NL (a:=xK env X.1) (b:=xK env B.1) (P:=λx=>x∈O0 s d) (Q:=Q) ⟨rfl,rfl,rfl,by show X.1.length=B.1.length;omega,λx hx=>?_,rfl,λ_ _=>rfl⟩ (Bq hE _) (Bq hE _) hr m;have hxp:=ht.2.2 pre d suf he x hx;have hxs:x∉suf:=λhy=>n3 x hxp x (by simp[hy]) rfl;have hxd:x≠d:=λhy=>n3 x hxp d A7 hy;have:=(VP (x:=x) suf hpos hxs hX).1;rw[Hl _ d0 hxd]at this;exact this
structure SimE (Q:Int->Prop) (a b:aP):Prop where
 e1:a.1=b.1
 e2:a.2.1=b.2.1
 e3:a.2.2.2.2=b.2.2.2.2
 ml:a.2.2.2.1.length=b.2.2.2.1.length
 m:∀x,Q x->a.2.2.2.1.map (λv=>H8 v x)=b.2.2.2.1.map (λv=>H8 v x)
theorem SimE.at{P Q:Int->Prop}{a b:aP}(h:SimE Q a b){D D' :List V3}(hl:D.length=D'.length)(hd:∀x,P x->H8 D x=H8 D' x):Sim P Q (xK a D) (xK b D'):=⟨h.e1,h.e2,h.e3,hl,hd,h.ml,h.m⟩
abbrev ND(w:List Bool)(x:Int):Prop:=(H8 w x).getD false=true
structure DInv (n:Nat) (need:List Bool) (B B' :DB):Prop where
 l1:B.1.length=n/\B.2.length=n
 l2:B'.1.length=n/\B'.2.length=n
 eq:∀x,ND need x->H8 B.1 x=H8 B'.1 x/\H8 B.2 x=H8 B'.2 x
structure MInv (need:List Bool) (b b' :List DB):Prop where
 l:b.length=b'.length
 eq:∀x,ND need x->b.map (λv=>H8 v.1 x)=b'.map (λv=>H8 v.1 x)
theorem b3D(w:List Bool)(x:Int):ND w x↔mk w x=true:=by
 unfold ND mk H8
 split
 ·rw[rZ]
 ·simp
theorem a8N{s:D6}{w:List Bool}(hw:w.length=s.2.2.2.1.length){d:Int}(h0:0<=d)(h1:d<nD s)(x:Int):mk (IU s w d) x=true↔mk w x=true\/x=d\/x∈cu s d:=by
 unfold IU;rw[YX _ _ (λy hy=>by have:=Ar hy;unfold nD at this;simp only[x8,nC]at this ⊢;omega),Vd h0 (by unfold nD at h1;unfold x8 at h1 ⊢;omega)];cases hq:o8 x d
 ·have:x≠d:=λe=>by rw[O8 e]at hq;cases hq
  simp[this]
 ·rw[O5]at hq;simp[hq]
theorem a8M{m:D6} :∀(L:List Int) {w:List Bool},w.length=m.2.2.2.1.length->(∀x∈L,0<=x/\x<nD m)->∀x,mk (DT m w L) x=true↔mk w x=true\/∃z∈L,x=z\/x∈cu m z
 |[],w,hw,h,x=>by simp[DT]|z::L,w,hw,h,x=>by
  obtain⟨z0,z1⟩:=h z A7;rw[show DT m w (z::L)=DT m (IU m w z) L from rfl,a8M L ((OT m w z).trans hw) (λy hy=>h y (by simp[hy])) x,a8N hw z0 z1];constructor
  ·rintro((h1|h1)|⟨y,hy,h1⟩)
   ·exact .inl h1
   ·exact .inr ⟨z,A7,h1⟩
   ·exact .inr ⟨y,by simp[hy],h1⟩
  ·rintro(h1|⟨y,hy,h1⟩)
   ·exact .inl (.inl h1)
   ·rcases C9.1 hy with rfl|hy
    ·exact .inl (.inr h1)
    ·exact .inr ⟨y,hy,h1⟩
def a7p(s:D6)(w:List Bool):Prop:=∀d,mk w d=true->∀x∈O0 s d,mk w x=true
structure NI (l:Z7) (s:D6) (B:BB):Prop where
 ok:BOk s (U0 l s) B
 c1:a7p s B.1
 c2:a7p (U0 l s) B.2
 hr:∀e,mk B.1 e=true->PH s (λx=>x∈O0 s e) (λx=>mk B.2 x=true) e
structure Grows (B C:BB):Prop where
 g1:∀x,mk B.1 x=true->mk C.1 x=true
 g2:∀x,mk B.2 x=true->mk C.2 x=true
theorem Grows.refl(B:BB):Grows B B:=⟨λ_ h=>h,λ_ h=>h⟩
theorem Grows.trans{A B C:BB}(h:Grows A B)(k:Grows B C):Grows A C:=⟨λx hx=>k.g1 x (h.g1 x hx),λx hx=>k.g2 x (h.g2 x hx)⟩
theorem a7V{s:D6}{env:aP}{m d:Int}{v:V3}{r:Int}(h:xR s env m d= .inl (v,r)):V9 s env m d=(r,0,0,0,0)/\r∈(bg s d env.1).1/\∃q,H8 s.2.2.2.2 r=some q/\uU q.2.2.2.2.2.2.1 env=(v,0):=by
 unfold xR at h;cases h0:o8 (V9 s env m d).2.1 0<;>rw[h0]at h
 ·cases h
 cases h1:o8 (V9 s env m d).1 (-1)<;>rw[h1]at h
 case true=>cases h
 cases h2:o8 (V9 s env m d).1 (-2)<;>rw[h2]at h
 case true=>cases h
 simp only[o7,o6]at h;cases hl:H8 s.2.2.2.2 (V9 s env m d).1 with
 |none=>rw[hl]at h;cases h|some q=>
  rw[hl]at h;simp only at h;cases h4:o8 (uU q.2.2.2.2.2.2.1 env).2 0<;>rw[h4]at h
  ·cases h
  cases h;have hin:=Xn (O5.1 h0) (λe=>by rw[O8 e]at h1;cases h1) (λe=>by rw[O8 e]at h2;cases h2);refine⟨?_,hin,q,hl,dZ rfl (O5.1 h4)⟩;rcases a0g s env m d with⟨g1,g2⟩|⟨g1,g2⟩
  ·exact g2
  ·exact absurd (O5.1 h0) g1
theorem a5W{l:Z7}{k:Int}{s:D6}{c:bP}(h:(BJ l k c false 0).1=0)(hs:H8 l.2.2 k=some s)(hm:s.2.1<0):c.2.2=[]:=by
 unfold BJ at h;cases h0:o8 (kU l).1 0<;>rw[h0]at h
 ·exact absurd (show(1:Int)=0 from h) G7
 rw[hs]at h;simp only[o7,o6]at h;cases h1:o8 (DC l k c).2.2 0<;>rw[h1]at h
 ·simp only[o6]at h;rw[O8 h]at h1;cases h1
 have h1:=O5.1 h1;unfold DC at h1;rw[hs]at h1;simp only at h1;cases g1:D9 c.1 0<;>rw[g1]at h1
 case true=>exact absurd (show(3:Int)=0 from h1) G7
 cases g2:D9 109572 c.1<;>rw[g2]at h1
 case true=>exact absurd (show(3:Int)=0 from h1) G7
 cases g3:o8 (BV l.1 s.2.2.1 c.2.1).2 0<;>rw[g3]at h1
 ·simp only[o6]at h1;rw[O8 h1]at g3;cases g3
 cases g4:D9 (nH l s).2 (x8 c.2.2)<;>rw[g4]at h1
 case true=>exact absurd (show(4:Int)=0 from h1) G7
 have hz:(nH l s).2=0:=by unfold nH;rw[wJ (.inl (Y1 hm))]
 rw[hz,iL]at g4;exact O7.1 (by unfold x8 at g4;omega)
theorem b7c{l:Z7}{c:bP}{ms:D6}{need:List Bool} :∀(L:List (List V3×Nat)) (b X:List DB),aG (mG l c ms need) L b= .inl X->∃Y,X=b++Y/\Y.length=L.length/\∀(i:Nat) (a:List V3×Nat),L[i]? =some a->∃x,Y[i]? =some x/\scS ms (DN l c a.1) (a.2:Int) need= .inl x
 |[],b,X,h=>by cases h;exact⟨[],A7,rfl,λi a ha=>by simp at ha⟩|a::L,b,X,h=>by
  unfold aG at h;cases hg:mG l c ms need b a with
  |inr e=>rw[hg]at h;cases h|inl b1=>
   rw[hg]at h;simp only at h;obtain⟨Y,e1,e2,e3⟩:=b7c L b1 X h;unfold mG at hg;cases hs:scS ms (DN l c a.1) (a.2:Int) need with
   |inr e=>rw[hs]at hg;cases hg|inl x=>
    rw[hs]at hg;cases hg;refine⟨x::Y,by rw[e1];simp,by simp[e2],λi q hq=>?_⟩;cases i with
    |zero=>simp at hq;subst hq;exact⟨x,rfl,hs⟩|succ i=>exact e3 i q (by simpa using hq)
theorem a5R{l:Z7}{k:Int}{c:bP}{d:Int}{s:D6}(h:(BJ l k c false 0).1=0)(hs:H8 l.2.2 k=some s)(d0:0<=d)(d1:d<nD s):(BJ l k c true d).1=0:=by
 unfold BJ at h ⊢;cases h0:o8 (kU l).1 0<;>rw[h0]at h
 ·exact absurd (show(1:Int)=0 from h) G7
 rw[hs]at h ⊢;simp only[o7,o6]at h ⊢;rw[L6 d0,show J6 (x8 s.2.2.2.1) d=false from Y1 d1];exact h
end
section
section
variable {en:List kW} {t:Int×Int}
end
end
section
def PVW(en:List kW)(t:Int×Int)(v:V3):Prop:=v.1=t.1/\v.2.1=t.2/\(v.1=6->inB v.2.2 (bnd t en)=true)
structure TOk (sg:J5) (env:aP):Prop where
 inp:∀i t v,H8 sg.2.2.1 i=some t->H8 env.2.1 i=some v->PVW sg.1 t v
 dfs:∀i t v,H8 sg.2.2.2.1 i=some t->H8 env.2.2.1 i=some v->v.1≠0->PVW sg.1 t v
 mty:∀i t u,H8 sg.2.2.2.2.1 i=some t->H8 env.2.2.2.2.1 i=some u->u=t
 tbs:env.2.2.2.2.2=sg.2.1
 row:∀t∈sg.2.1,∀r∈t.2.2.2,inB r.2.2.2 (bnd t.2.2.1 sg.1)=true
end
section
section
variable {sg:J5} {env:aP}
end
end
section
theorem b3c(l:Z7)(s:D6):(FI l s).1=l.1/\(FI l s).2.1=l.2.1/\(FI l s).2.2.1=s.2.2.1.map (·.2):=by unfold FI;split<;>exact⟨rfl,rfl,rfl⟩
abbrev b6M:Int×Int:=(0,109573)
def onA(s:D6)(T:Int)(i:Nat):Bool:=match s.2.2.2.2[i]? with|some r=>PQ r.2.2.2.2.1 T|none=>false
def b6Y(s:D6)(T:Int):List Nat:=onL (onA s T) s.2.2.2.2.length
def rOn(s:D6)(T:Int)(i:Nat):aK:=match s.2.2.2.2[i]? with
 |some r=>(r.1,r.2.1,anc (onA s T) (Ce s) i,r.2.2.2.1,b6M,r.2.2.2.2.2.1,r.2.2.2.2.2.2.1,r.2.2.2.2.2.2.2)|none=>([],0,0,0,b6M,[],[],[])
def sOn(T:Int)(s:D6):D6:=(s.1,s.2.1,s.2.2.1,s.2.2.2.1,(b6Y s T).map (rOn s T))
end
section
theorem Uc(on:Nat->Bool)(i:Nat):oD on (i+1)=oD on i+(if on i=true then 1 else 0):=by unfold oD;rw[X6,kK,F5];cases h:on i<;>simp[h]
theorem a0k(on:Nat->Bool){i j:Nat}(h:i<=j):oD on i<=oD on j:=by
 induction j with
 |zero=>have:i=0:=l7;subst this;omega|succ j ih=>
  rw[Uc];by_cases e:i=j+1
  ·subst e;rw[Uc];omega
  ·have:=ih l7;omega
theorem b4C{on:Nat->Bool}{a i:Nat}(h:a<i)(ha:on a=true):oD on a<oD on i:=by have h1:=Uc on a;rw[if_pos ha]at h1;have h2:=a0k on (show a+1<=i from h);omega
section
variable {A R R' :Nat->Bool} {par par' :Nat->Int} {n:Nat} (hRA:∀i,i<n->R i=true->A i=true) (hR:∀i,i<n->A i=true->R' (oD A i)=R i) (hp:∀i,i<n->A i=true->par' (oD A i)=anc A par i)
include hRA hR
omit hR in
omit hR in
include hp
end
end
section
section
variable {s:D6} {T:Int} (h0:0<=T) (h1:T<=109572)
include h0 h1
omit h0 h1 in
omit h0 h1 in
end
end
section
structure OnOk (s:D6) (T:Int):Prop where
 h0:0<=T
 h1:T<=109572
 t1:Sr s (lq s).1
 f1:∀d,0<=d->d<nD s->d∈(lq s).1
 t2:Sr (sOn T s) (lq (sOn T s)).1
 f2:∀d,0<=d->d<nD s->d∈(lq (sOn T s)).1
 r1:∀d,PH s (λx=>x∈O0 s d) (λ_=>True) d
 r2:∀d,PH (sOn T s) (λx=>x∈O0 (sOn T s) d) (λ_=>True) d
def TN(s:D6)(k:Nat)(r:aK):Bool:=l9 (o8 r.2.2.1 (-1)) false (l9 (D9 r.2.2.1 0) true (l9 (J6 k r.2.2.1) true (match H8 s.2.2.2.2 r.2.2.1 with|some q=>E9 (o8 q.2.1 r.2.1)|none=>true)))
structure RuleV (s:D6) (sg:J5) (k:Nat) (r:aK):Prop where
 id:IQ r.1=true
 nm:((s.2.2.2.2.take k).any λx=>seq x.1 r.1)=false
 df:∃d,H8 s.2.2.2.1 r.2.1=some d/\Un r sg d.2=0
 pa:TN s k r=false
 p0:D9 r.2.2.2.1 0=false
 p9:D9 9 r.2.2.2.1=false
 dv:IM r.2.2.2.2.1=true
 ne:o8 r.2.2.2.2.1.1 r.2.2.2.2.1.2=false
 ct:J6 8 (MF (s.2.2.2.2.take k) r.2.1)=false
 sr:a3Z r.2.2.2.2.2.2.2=true
theorem RuleV.zero{s:D6}{sg:J5}{k:Nat}{r:aK}(h:RuleV s sg k r):IE s sg k r=0:=by obtain⟨d,h1,h2⟩:=h.df;unfold IE;rw[h.id,h.nm,h1];simp only[o7,o6];change l9 (TN s k r) (9:Int) _=0;rw[h.pa,h.p0,h.p9,h.dv,h.ne,h.ct,h.sr,h2];rfl
theorem b5a{s:D6}{sg:J5}{k:Nat}{r:aK}(h:IE s sg k r=0):RuleV s sg k r:=by
 obtain⟨d,hd,hx⟩:=VN h;unfold IE at h;cases g1:IQ r.1<;>rw[g1]at h
 ·exact absurd (show(2:Int)=0 from h) G7
 cases g2:(s.2.2.2.2.take k).any λx=>seq x.1 r.1<;>rw[g2]at h
 case true=>exact absurd (show(7:Int)=0 from h) G7
 rw[hd]at h;simp only[o7,o6]at h;change l9 (TN s k r) (9:Int) _=0 at h;cases b1:TN s k r<;>rw[b1]at h
 case true=>exact absurd (show(9:Int)=0 from h) G7
 cases b2:D9 r.2.2.2.1 0<;>rw[b2]at h
 case true=>exact absurd (show(3:Int)=0 from h) G7
 cases b3:D9 9 r.2.2.2.1<;>rw[b3]at h
 case true=>exact absurd (show(3:Int)=0 from h) G7
 cases b4:IM r.2.2.2.2.1<;>rw[b4]at h
 case false=>exact absurd (show(3:Int)=0 from h) G7
 cases b5:o8 r.2.2.2.2.1.1 r.2.2.2.2.1.2<;>rw[b5]at h
 case true=>exact absurd (show(3:Int)=0 from h) G7
 cases b6:J6 8 (MF (s.2.2.2.2.take k) r.2.1)<;>rw[b6]at h
 case true=>exact absurd (show(4:Int)=0 from h) G7
 cases b7:a3Z r.2.2.2.2.2.2.2<;>rw[b7]at h
 case false=>exact absurd (show(2:Int)=0 from h) G7
 exact⟨g1,g2,⟨d,hd,hx⟩,b1,b2,b3,b4,b5,b6,b7⟩
structure LenL (l:Z7):Prop where
 e:l.1.length<=1000000/\∀e∈l.1,e.2.length<=1000000
 t:l.2.1.length<=1000000/\∀t∈l.2.1,t.2.2.2.length<=1000000
 s:l.2.2.length<=1000000/\∀s∈l.2.2,s.2.2.1.length<=1000000/\s.2.2.2.1.length<=1000000/\s.2.2.2.2.length<=1000000/\∀r∈s.2.2.2.2,r.2.2.2.2.2.1.length<=1000000/\r.2.2.2.2.2.2.1.length<=1000000
theorem pV(a:Int):o8 a a=true:=O8 rfl
def Iq{α β:Type}(eq:α->α->Bool)(l:List (α×β))(f:α->Option β):Prop:=∀k,Jr eq l k=(f k).isSome/\∀z,IR eq l k z=(f k).getD z
theorem XJ{α β:Type}(eq:α->α->Bool):Iq eq ([]:List (α×β)) (λ_=>none):=λ_=>⟨rfl,λ_=>rfl⟩
theorem XP{α β:Type}{eq:α->α->Bool}(hE:∀a b,eq a b=true↔a=b)(k:α)(x:β)(k' :α):∀(l:List (α×β)),Js eq (LK eq l k x) k' =(l9 (eq k' k) true (Js eq l k'))/\∀z,Jq eq (LK eq l k x) k' z=l9 (eq k' k) x (Jq eq l k' z)
 |[]=>by unfold LK;simp only[Js,Jq];cases eq k' k<;>exact⟨rfl,λ_=>rfl⟩|p::r=>by
  have ih:=XP hE k x k' r;unfold LK;cases hp:eq k p.1
  ·simp only[cond_false,Js,Jq];cases hq:eq k' p.1
   ·simp only[cond_false];exact ih
   ·simp only[cond_true];cases hk:eq k' k
    ·exact⟨rfl,λ_=>rfl⟩
    ·exfalso;have h1:=(hE _ _).1 hq;have h2:=(hE _ _).1 hk;rw[←h2,h1]at hp;rw[(hE p.1 p.1).2 rfl]at hp;cases hp
  ·have hp' :=(hE _ _).1 hp;subst hp';simp only[cond_true,Js,Jq];cases eq k' p.1<;>exact⟨rfl,λ_=>rfl⟩
theorem XK{α β:Type}{eq:α->α->Bool}(hE:∀a b,eq a b=true↔a=b){l:List (α×β)}{f:α->Option β}(h:Iq eq l f)(k:α)(x:β):
  Iq eq (Ll eq l k x) (λk' =>l9 (eq k' k) (some x) (f k')):=λk' =>by
 obtain⟨h1,h2⟩:=XP hE k x k' l;obtain⟨g1,g2⟩:=h k';refine⟨?_,λz=>?_⟩
 ·show Js eq (LK eq l k x) k' =_;rw[h1,show Js eq l k' =_ from g1];show _=(l9 (eq k' k) (some x) (f k')).isSome;cases eq k' k<;>rfl
 ·show Jq eq (LK eq l k x) k' z=_;rw[h2 z,show Jq eq l k' z=_ from g2 z];show _=(l9 (eq k' k) (some x) (f k')).getD z;cases eq k' k<;>rfl
theorem Iq.has{α β:Type}{eq:α->α->Bool}{l:List (α×β)}{f:α->Option β}(h:Iq eq l f)(k:α):Jr eq l k=(f k).isSome:=(h k).1
theorem Iq.get{α β:Type}{eq:α->α->Bool}{l:List (α×β)}{f:α->Option β}(h:Iq eq l f)(k:α)(z:β):IR eq l k z=(f k).getD z:=(h k).2 z
theorem Iq.congr{α β:Type}{eq:α->α->Bool}{l:List (α×β)}{f g:α->Option β}(h:Iq eq l f)(e:∀k,f k=g k):Iq eq l g:=λk=>by rw[←e k];exact h k
theorem b2b:zl=some true:=by decide+kernel
def eK(x:G8):Int:=x.1
def eD(x:G8):Int:=x.2.1
def eM(x:G8):Int:=x.2.2.1
def eI(x:G8):Int:=x.2.2.2.1
def eR(x:G8):Int:=x.2.2.2.2.1
def kq(a b:E8):Bool:=dE (o8 a.1 b.1) (o8 a.2 b.2)
theorem Qi(a b:E8):kq a b=true↔a=b:=by unfold kq dE;rw[x9,O5,O5];exact⟨λh=>dZ h.1 h.2,λh=>by subst h;exact⟨rfl,rfl⟩⟩
def a4j(a b:Y2):Bool:=dE (o8 a.1 b.1) (dE (o8 a.2.1 b.2.1) (o8 a.2.2 b.2.2))
theorem a2g(a b:Y2):a4j a b=true↔a=b:=by unfold a4j dE;rw[x9,x9,O5,O5,O5];exact⟨λh=>dZ h.1 (dZ h.2.1 h.2.2),λh=>by subst h;exact⟨rfl,rfl,rfl⟩⟩
abbrev Fh(x:G8):E8:=(x.2.2.1,x.2.2.2.1)
abbrev IP(x:G8):Y2:=x.2.2.2.2.2
def Lt(x:G8):Bool:=!(D9 x.1 1)&&!(D9 5 x.1)&&!(D9 x.2.2.2.1 0)&&!(D9 x.2.2.1 (-1))
def VM(x:G8):Bool:=bif o8 x.1 1 then !(D9 x.2.2.2.2.1 0)else o8 x.2.2.2.2.1 (-1)
def Uu(q x:G8):Bool:=!(D9 x.2.1 1)&&!(D9 (D7 .i64 q.2.1 1) x.2.1)&&(J6 x.2.1 q.2.1 || o8 q.1 1)
abbrev EM:=List (E8×Y2)
def YS(m:EM)(x:G8):Bool:=bif o8 x.1 1 then !(Jr kq m (Fh x))else(bif o8 x.1 5 then Jr kq m (Fh x)&&a4j (IR kq m (Fh x) (0,0,0)) (IP x)else true)
def a6d(p:Option G8)(x:G8):Bool:=match p with|none=>true|some q=>Uu q x
def okP(p:Option G8)(m:EM)(x:G8):Bool:=a6d p x&&Lt x&&VM x&&YS m x
def YT(m:EM)(x:G8):EM:=bif o8 x.1 1 then Ll kq m (Fh x) (IP x)else m
def wpG(b:EM×Option G8)(x:G8):(EM×Option G8)⊕Bool:=bif okP b.2 b.1 x then .inl (YT b.1 x,some x)else .inr false
def wfP:Option G8->EM->List G8->Bool
 |_,_,[]=>true|p,m,x::l=>okP p m x&&wfP (some x) (YT m x) l
theorem a2l:∀(l:List G8) (b:EM×Option G8),(∃b',aG wpG l b= .inl b' /\wfP b.2 b.1 l=true)\/(aG wpG l b= .inr false/\wfP b.2 b.1 l=false)
 |[],b=> .inl ⟨b,rfl,rfl⟩|x::l,b=>by
  unfold aG wfP wpG;cases h:okP b.2 b.1 x
  ·exact .inr ⟨rfl,rfl⟩
  ·exact a2l l (YT b.1 x,some x)
theorem a0p(q x:G8):qM q x=some (Uu q x):=by
 unfold qM Uu;cases D9 x.2.1 1
 ·cases D9 (D7 .i64 q.2.1 1) x.2.1
  ·cases J6 x.2.1 q.2.1
   ·cases o8 q.1 1<;>rfl
   ·rfl
  ·rfl
 ·rfl
theorem b4K{i:Nat}(h:0<i)(h2:i<=1000000):H9 .i64 (i:Int) 1=((i -1:Nat):Int):=by rw[U2 O6];omega
def XA(a:List G8):Bool:=match a with|[]=>false|x::_=>o8 x.1 1&&o8 x.2.1 0
theorem WW{a:List G8}(h:a.length<=400000):lX a=some (XA a&&wfP none [] a):=by
 unfold lX;have main:o5 (l9 (o8 (x8 a) 0) (some (Sum.inr false)) (o5 (H8 a 0) λ(x:G8)=>l9 (E9 (o8 x.1 1)) (some (Sum.inr false)) (o5 (H8 a 0) λ(x:G8)=>l9 (E9 (o8 x.2.1 0)) (some (Sum.inr false)) (some (Sum.inl PUnit.unit))))) (λ(o:PUnit⊕Bool)=>some o)=some (bif XA a then .inl PUnit.unit else .inr false):=by
  cases a with
  |nil=>rfl|cons x l=>
   rw[show o8 (x8 (x::l)) 0=false from L9 (by unfold x8;simp;omega),o6,show H8 (x::l) 0=some x from rfl,o9,o9];show _=some (bif (o8 x.1 1&&o8 x.2.1 0)then _ else _);cases o8 x.1 1
   ·rfl
   ·cases o8 x.2.1 0<;>rfl
 have main2:(l9 (o8 (x8 a) 0) (some (Sum.inr false)) (o5 (H8 a 0) λ(x:G8)=>l9 (E9 (o8 x.1 1)) (some (Sum.inr false)) (o5 (H8 a 0) λ(x:G8)=>l9 (E9 (o8 x.2.1 0)) (some (Sum.inr false)) (some (Sum.inl PUnit.unit)))):Option (PUnit⊕Bool))=some (bif XA a then .inl PUnit.unit else .inr false):=by rw[←main];exact(jm _).symm
 refine fK main2 ?_;cases XA a
 ·rfl
 rw[cond_true,o9,X7,aS];refine ql a wpG (λ(b:EM×Option G8) i=>(b.1,i)) (λ_=>PUnit.unit) (λi b=>(i=0/\b.2=none)\/(∃q,0<i/\a[i -1]? =some q/\b.2=some q)) ([],none) l7 (.inl ⟨rfl,rfl⟩) (λi x b hx hi hb=>⟨?_,λb' hb' =>?_⟩) (λb hb=>?_) (λhb=>?_)
 ·simp only[X3 hx,o7,J9,hx,o9];obtain⟨m,p⟩:=b;have pre:(l9 (D9 0 (i:Int)) (o5 (H8 a (H9 .i64 (i:Int) 1)) λ(y:G8)=>o5 (qM y x) λ(x:Bool)=>l9 (E9 x) (some (Sum.inr false)) (some (Sum.inl PUnit.unit))) (some (Sum.inl PUnit.unit)):Option (PUnit⊕Bool))=some (bif (a6d p x)then .inl PUnit.unit else .inr false):=by
   rcases hb with⟨rfl,hp⟩|⟨q,h0,hq,hp⟩
   ·have hp:p=none:=hp;subst hp;rfl
   ·have hp:p=some q:=hp;subst hp;rw[U5 l7,o7,b4K h0 hi,J9,hq,o9,a0p,o9];show l9 (E9 (Uu q x)) _ _=some (bif Uu q x then _ else _);cases Uu q x<;>rfl
  have key:∀K:PUnit⊕Bool->Option (EM⊕Bool),K (.inr false)=some (.inr false)->K (.inl PUnit.unit)=some (bif Lt x&&VM x&&YS m x then .inl (YT m x)else .inr false)->
    o5 (o5 (l9 (D9 0 (i:Int)) (o5 (H8 a (H9 .i64 (i:Int) 1)) λ(y:G8)=>o5 (qM y x) λ(x:Bool)=>l9 (E9 x) (some (Sum.inr false)) (some (Sum.inl PUnit.unit))) (some (Sum.inl PUnit.unit))) K) (λ(o:EM⊕Bool)=>aI o (λ(x_1:EM)=>some (Out.nx (x_1,D7 .i64 (i:Int) 1))) λ(r:Bool)=>some (Out.rt r))=(some (match wpG (m,p) x with| .inl b' =>Out.nx (b'.1,((i+1:Nat):Int))| .inr r=>Out.rt r):Option (Out (EM×Int) PUnit Bool)):=λK k1 k2=>by
   rw[pre,o9];have ho:okP p m x=((a6d p x)&&(Lt x&&VM x&&YS m x)):=by unfold okP;rw[oI,oI,oI]
   unfold wpG;rw[show okP (m,p).2 (m,p).1 x=_ from ho];cases a6d p x
   ·rw[cond_false,k1];rfl
   ·rw[cond_true,k2,aS];cases Lt x&&VM x&&YS m x
    ·rfl
    ·rw[cond_true,o9,X7,fP l7];rfl
  refine(key _ ?_ ?_).trans ?_
  ·rfl
  rotate_left
  ·cases wpG (m,p) x<;>rfl
  unfold Lt VM YS YT kq Fh IP;simp only[X7];cases D9 x.1 1
  case true=>rfl
  cases D9 5 x.1
  case true=>rfl
  cases D9 x.2.2.2.1 0
  case true=>rfl
  cases D9 x.2.2.1 (-1)
  case true=>rfl
  cases h1:o8 x.1 1
  ·cases o8 x.2.2.2.2.1 (-1)
   ·rfl
   cases o8 x.1 5
   ·rfl
   cases Jr (λ(a b:E8)=>dE (o8 a.1 b.1) (o8 a.2 b.2)) m (x.2.2.1,x.2.2.2.1)
   ·rfl
   show l9 (E9 (a4j (IR (λ(a b:E8)=>dE (o8 a.1 b.1) (o8 a.2 b.2)) m (x.2.2.1,x.2.2.2.1) (0,0,0)) x.2.2.2.2.2)) _ _=some (bif (true&&a4j (IR (λ(a b:E8)=>dE (o8 a.1 b.1) (o8 a.2 b.2)) m (x.2.2.1,x.2.2.2.1) (0,0,0)) x.2.2.2.2.2)then _ else _);cases a4j (IR (λ(a b:E8)=>dE (o8 a.1 b.1) (o8 a.2 b.2)) m (x.2.2.1,x.2.2.2.1) (0,0,0)) x.2.2.2.2.2<;>rfl
  ·have h5:o8 x.1 5=false:=by
    have e:eK x=1:=O5.1 h1;exact L9 (show eK x≠5 by omega)
   rw[h5];cases D9 x.2.2.2.2.1 0
   case true=>rfl
   cases Jr (λ(a b:E8)=>dE (o8 a.1 b.1) (o8 a.2 b.2)) m (x.2.2.1,x.2.2.2.1)<;>rfl
 ·unfold wpG at hb';cases ho:okP b.2 b.1 x<;>rw[ho]at hb'
  ·cases hb'
  ·cases hb';exact .inr ⟨x,l7,by simpa using hx,rfl⟩
 ·simp only[W9,o6]
 ·rcases a2l a ([],none)with⟨b',h1,h2⟩|⟨h1,h2⟩
  ·rw[h1,show wfP none [] a=true from h2];rfl
  ·rw[h1,show wfP none [] a=false from h2];rfl
def BQ(pre:List G8)(x:G8)(same:Bool):Bool:=pre.any λy=>o8 y.1 1&&o8 y.2.2.1 x.2.2.1&&o8 y.2.2.2.1 x.2.2.2.1&&(!same || a4j (IP y) (IP x))
def a6e(q x:G8):Bool:=!(D9 x.2.1 1)&&(bif D9 q.2.1 x.2.1 then o8 (H9 .i64 x.2.1 1) q.2.1&&o8 q.1 1 else true)
def okR(pre:List G8)(x:G8):Bool:=Lt x&&(bif o8 x.1 1 then !(D9 x.2.2.2.2.1 0)&&!(BQ pre x false)else o8 x.2.2.2.2.1 (-1))&&(bif o8 x.1 5 then BQ pre x true else true)&&
 (match pre.getLast? with|none=>o8 x.2.1 0&&o8 x.1 1|some q=>a6e q x)
def wfR:List G8->List G8->Bool
 |_,[]=>true|pre,x::l=>okR pre x&&wfR (pre++[x]) l
theorem b4H{q x:G8}(h0:0<=eD q)(h1:eD q<=1000000)(hx:jc (eD x)):Uu q x=a6e q x:=by
 unfold Uu a6e;show(!(D9 (eD x) 1)&&!(D9 (D7 .i64 (eD q) 1) (eD x))&&(J6 (eD x) (eD q) || o8 q.1 1))=(!(D9 (eD x) 1)&&(bif D9 (eD q) (eD x)then o8 (H9 .i64 (eD x) 1) (eD q)&&o8 q.1 1 else true));generalize eD q=e at*;generalize eD x=d at*;rw[V5 (show jc (e+1) by unfold jc;omega)];by_cases hd:d<1
 ·rw[U5 hd];rfl
 ·rw[L6 (show 1<=d by omega),U2 (show jc (d -1) by unfold jc at hx ⊢;omega)];by_cases he:e<d
  ·rw[U5 he,cond_true,Y1 he];by_cases h2:e+1<d
   ·rw[U5 h2,L9 (show d -1≠e by omega)];rfl
   ·rw[L6 (show d<=e+1 by omega),O8 (show d -1=e by omega)];rfl
  ·rw[L6 (show d<=e by omega),cond_false,X5 (show d<=e by omega),L6 (show d<=e+1 by omega)];rfl
theorem b4G{q x:G8}(h0:0<=eD q)(h1:eD q<=1000000)(h:Uu q x=true):0<=eD x/\eD x<=eD q+1:=by
 unfold Uu at h;have h:(!(D9 (eD x) 1)&&!(D9 (D7 .i64 (eD q) 1) (eD x))&&(J6 (eD x) (eD q) || o8 q.1 1))=true:=h;generalize eD q=e at*;generalize eD x=d at*;rw[V5 (show jc (e+1) by unfold jc;omega)]at h;rw[x9,x9]at h;have g1:D9 d 1=false:=by have:=h.1.1;cases hh:D9 d 1<;>rw[hh]at this<;>first|rfl|cases this
 have g2:D9 (e+1) d=false:=by have:=h.1.2;cases hh:D9 (e+1) d<;>rw[hh]at this<;>first|rfl|cases this
 rw[iL]at g1 g2;omega
structure MInvE (pre:List G8) (m:EM):Prop where
 ex:∃f:E8->Option Y2,Iq kq m f/\∀k v,f k=some v↔∃y∈pre,eK y=1/\Fh y=k/\IP y=v
theorem VQ{pre:List G8}{x:G8}{same:Bool} :BQ pre x same=true↔∃y∈pre,eK y=1/\Fh y=Fh x/\(same=true->IP y=IP x):=by
 unfold BQ;simp only[fQ,x9,kH,a2g];constructor
 ·rintro⟨y,hy,⟨⟨h1,h2⟩,h3⟩,h4⟩;refine⟨y,hy,O5.1 h1,dZ (O5.1 h2) (O5.1 h3),λhs=>?_⟩;rcases h4 with h4|h4
  ·rw[hs]at h4;cases h4
  ·exact h4
 ·rintro⟨y,hy,h1,h2,h3⟩;refine⟨y,hy,⟨⟨O5.2 h1,O5.2 (Prod.mk.inj h2).1⟩,O5.2 (Prod.mk.inj h2).2⟩,?_⟩;cases same
  ·exact .inl rfl
  ·exact .inr (h3 rfl)
theorem a2Z{pre:List G8}{m:EM}{x:G8}(h:MInvE pre m):YS m x=((bif o8 x.1 1 then !(BQ pre x false)else true)&&(bif o8 x.1 5 then BQ pre x true else true)):=by
 obtain⟨f,hf,hi⟩:=h.ex;have e1:Jr kq m (Fh x)=BQ pre x false:=by
  rw[hf.has,eU,VQ,nG];constructor
  ·rintro⟨v,hv⟩;obtain⟨y,hy,y1,y2,y3⟩:=(hi _ _).1 hv;exact⟨y,hy,y1,y2,λh=>(by cases h)⟩
  ·rintro⟨y,hy,y1,y2,_⟩;exact⟨IP y,(hi _ _).2 ⟨y,hy,y1,y2,rfl⟩⟩
 unfold YS;cases h1:o8 x.1 1
 ·simp only[cond_false,aS];cases h5:o8 x.1 5
  ·rfl
  ·simp only[cond_true];rw[hf.get,eU,x9,a2g,hf.has,VQ];constructor
   ·rintro⟨g1,g2⟩;obtain⟨v,hv⟩:=nG.1 g1;rw[hv]at g2;obtain⟨y,hy,y1,y2,y3⟩:=(hi _ _).1 hv;exact⟨y,hy,y1,y2,λ_=>by rw[y3];exact g2⟩
   ·rintro⟨y,hy,y1,y2,y3⟩;have:=(hi (Fh x) (IP x)).2 ⟨y,hy,y1,y2,y3 rfl⟩;rw[this];exact⟨rfl,rfl⟩
 ·have h5:o8 x.1 5=false:=by
   have e:eK x=1:=O5.1 h1;exact L9 (show eK x≠5 by omega)
  rw[h5,e1];simp only[cond_true,cond_false,Bool.and_true]
theorem a0W{pre:List G8}{m:EM}{x:G8}(h:MInvE pre m)(hb:YS m x=true):MInvE (pre++[x]) (YT m x):=by
 have hm:=a2Z (x:=x) h;obtain⟨f,hf,hi⟩:=h.ex;unfold YT;cases h1:o8 x.1 1
 ·refine⟨f,hf,λk v=>?_⟩;rw[hi];constructor
  ·rintro⟨y,hy,hr⟩;exact⟨y,G6 _ hy,hr⟩
  ·rintro⟨y,hy,y1,hr⟩;rcases A8.1 hy with hy|hy
   ·exact⟨y,hy,y1,hr⟩
   ·rw[D8.1 hy]at y1;have:o8 x.1 1=true:=O5.2 y1;rw[this]at h1;cases h1
 ·have hno:f (Fh x)=none:=by
   rw[hb,h1]at hm;simp only[cond_true]at hm;have hs:BQ pre x false=false:=by
    cases hq:BQ pre x false
    ·rfl
    ·rw[hq]at hm;simp at hm
   cases hfk:f (Fh x)with
   |none=>rfl|some v=>obtain⟨y,hy,y1,y2,y3⟩:=(hi _ _).1 hfk;have:=(VQ (pre:=pre) (x:=x) (same:=false)).2 ⟨y,hy,y1,y2,λh=>(by cases h)⟩;rw[hs]at this;cases this
  refine⟨_,XK Qi hf (Fh x) (IP x),λk v=>?_⟩;have ex1:eK x=1:=O5.1 h1;cases hk:kq k (Fh x)
  ·rw[o6,hi];constructor
   ·rintro⟨y,hy,hr⟩;exact⟨y,G6 _ hy,hr⟩
   ·rintro⟨y,hy,y1,y2,hr⟩;rcases A8.1 hy with hy|hy
    ·exact⟨y,hy,y1,y2,hr⟩
    ·rw[D8.1 hy]at y2;have:=(Qi k (Fh x)).2 y2.symm;rw[this]at hk;cases hk
  ·have ek:=(Qi _ _).1 hk;subst ek;rw[o7];constructor
   ·intro e;cases e;exact⟨x,A7,ex1,rfl,rfl⟩
   ·rintro⟨y,hy,y1,y2,y3⟩;rcases A8.1 hy with hy|hy
    ·have:=(hi (Fh x) v).2 ⟨y,hy,y1,y2,y3⟩;rw[hno]at this;cases this
    ·rw[D8.1 hy]at y3;rw[y3]
theorem a5G:∀(l pre:List G8) (m:EM) (p:G8),(∀x∈l,jc (eD x))->pre.getLast?=some p->MInvE pre m->0<=eD p->eD p+l.length<=1000000->wfP (some p) m l=wfR pre l
 |[],_,_,_,_,_,_,_,_=>rfl|x::l,pre,m,p,hI,hl,hm,h0,h1=>by
  have h1' :eD p+((l.length+1:Nat):Int)<=1000000:=by simpa using h1
  have hf:=b4H (q:=p) (x:=x) h0 l7 (hI x A7);have hq:=a2Z (x:=x) hm;have hok:okP (some p) m x=okR pre x:=by unfold okP okR VM;rw[hl,hq];simp only;rw[show a6d (some p) x=Uu p x from rfl,hf];cases a6e p x<;>cases Lt x<;>cases o8 x.1 1<;>cases o8 x.1 5<;>cases D9 x.2.2.2.2.1 0<;>cases o8 x.2.2.2.2.1 (-1)<;>cases BQ pre x false<;>cases BQ pre x true<;>rfl
  unfold wfP wfR;rw[←hok];cases ho:okP (some p) m x
  ·rfl
  ·rw[aS,aS];unfold okP at ho;rw[x9,x9,x9]at ho;obtain⟨g1,g2⟩:=b4G h0 l7 ho.1.1.1;exact a5G l (pre++[x]) (YT m x) x (λy hy=>hI y (P5 _ hy)) A7 (a0W hm ho.2) g1 l7
theorem b1R{a:List G8}(hl:a.length<=400000)(hI:∀x∈a,jc (eD x)):(XA a&&wfP none [] a)=(wfR [] a&&D9 0 (x8 a)):=by
 cases a with
 |nil=>rfl|cons x l=>
  rw[show D9 0 (x8 (x::l))=true from U5 (by show(0:Int)<((l.length+1:Nat):Int);omega),Bool.and_true];have hm:MInvE [] []:=⟨λ_=>none,XJ _,λk v=>⟨λh=>(by cases h),λ⟨y,hy,_⟩=>(by cases hy)⟩⟩;have hq:=a2Z (x:=x) hm;unfold XA wfP wfR;have hok:(o8 x.1 1&&o8 x.2.1 0&&okP none [] x)=okR [] x:=by unfold okP okR VM;rw[hq,show a6d none x=true from rfl];simp only[List.getLast?_nil];cases Lt x<;>cases o8 x.1 1<;>cases o8 x.1 5<;>cases D9 x.2.2.2.2.1 0<;>cases o8 x.2.2.2.2.1 (-1)<;>cases BQ [] x false<;>cases BQ [] x true<;>cases o8 x.2.1 0<;>rfl
  rw[←oI,hok];cases ho:okR [] x
  ·rfl
  ·rw[aS,aS];rw[ho,x9,x9]at hok;have hmb:YS [] x=true:=by
    have:=hok.2;unfold okP at this;rw[x9]at this;exact this.2
   have hd:eD x=0:=O5.1 hok.1.2;refine a5G l [x] (YT [] x) x (λy hy=>hI y (P5 _ hy)) rfl (a0W hm hmb) l7 ?_;simp only[G5]at hl;omega
end
section
def a4n(oc pr:Int->Int)(seen acc:List Int):Prop:=acc.Nodup/\∀x,x∈acc↔x∈seen/\oc x≠-1/\∀y∈seen,oc y≠-1->pr y<=pr x
theorem b4A{oc pr:Int->Int}{seen acc:List Int}{a:Int}(h:a4n oc pr seen acc)(ha:a∉seen):a4n oc pr (seen++[a]) (bG oc pr acc a):=by
 obtain⟨hn,hi⟩:=h;unfold bG;cases h1:o8 (oc a) (-1)
 case true=>
  have e:=O5.1 h1;refine⟨hn,λx=>?_⟩;rw[o7,hi];constructor
  ·rintro⟨g1,g2,g3⟩;refine⟨G6 _ g1,g2,λy hy hy2=>?_⟩;rcases A8.1 hy with hy|hy
   ·exact g3 y hy hy2
   ·rw[D8.1 hy]at hy2;exact absurd e hy2
  ·rintro⟨g1,g2,g3⟩;rcases A8.1 g1 with g1|g1
   ·exact⟨g1,g2,λy hy=>g3 y (G6 _ hy)⟩
   ·rw[D8.1 g1]at g2;exact absurd e g2
 have na:oc a≠-1:=yU.1 h1;rw[o6];have hmax:∀b,b∈acc->∀y∈seen,oc y≠-1->pr y<=pr b:=λb hb=>((hi b).1 hb).2.2;cases acc with
 |nil=>
  have hnone:∀y∈seen,oc y=-1:=by
   refine λy hy=>dH λhne=>?_;have:∀(L:List Int),(∀z∈L,z∈seen)->(∃z∈L,oc z≠-1)->∃z∈L,oc z≠-1/\∀w∈L,oc w≠-1->pr w<=pr z:=by
    intro L;induction L with
    |nil=>rintro _ ⟨z,hz,_⟩;cases hz
    |cons c L ih=>
     intro hL _;by_cases hc:∃z∈L,oc z≠-1
     ·obtain⟨z,hz,z1,z2⟩:=ih (λw hw=>hL w (P5 _ hw)) hc;by_cases hcc:oc c≠-1/\pr z<pr c
      ·refine⟨c,A7,hcc.1,λw hw w1=>?_⟩;rcases C9.1 hw with rfl|hw
       ·exact aV _
       ·have:=z2 w hw w1;omega
      ·refine⟨z,P5 _ hz,z1,λw hw w1=>?_⟩;rcases C9.1 hw with rfl|hw
       ·have:=not_and.1 hcc w1;omega
       ·exact z2 w hw w1
     ·rename_i hex;obtain⟨z,hz,hz1⟩:=hex;rcases C9.1 hz with rfl|hz
      ·refine⟨z,A7,hz1,λw hw w1=>?_⟩;rcases C9.1 hw with rfl|hw
       ·exact aV _
       ·exact absurd ⟨w,hw,w1⟩ hc
      ·exact absurd ⟨z,hz,hz1⟩ hc
   obtain⟨z,hz,z1,z2⟩:=this seen (λ_ h=>h) ⟨y,hy,hne⟩;have:=(hi z).2 ⟨hz,z1,z2⟩;cases this
  refine⟨A7,λx=>?_⟩;simp only[D8];constructor
  ·rintro rfl;refine⟨A7,na,λy hy hy2=>?_⟩;rcases A8.1 hy with hy|hy
   ·exact absurd (hnone y hy) hy2
   ·rw[D8.1 hy];exact aV _
  ·rintro⟨g1,g2,g3⟩;rcases A8.1 g1 with g1|g1
   ·exact absurd (hnone x g1) g2
   ·exact D8.1 g1
 |cons b r=>
  have hb:=(hi b).1 A7;simp only;cases h2:D9 (pr b) (pr a)
  ·rw[o6];have g2:=iL.1 h2;cases h3:o8 (pr a) (pr b)
   ·rw[o6];have g3:=yU.1 h3;refine⟨hn,λx=>?_⟩;rw[hi];constructor
    ·rintro⟨k1,k2,k3⟩;refine⟨G6 _ k1,k2,λy hy hy2=>?_⟩;rcases A8.1 hy with hy|hy
     ·exact k3 y hy hy2
     ·rw[D8.1 hy];have:=k3 b hb.1 hb.2.1;omega
    ·rintro⟨k1,k2,k3⟩;rcases A8.1 k1 with k1|k1
     ·exact⟨k1,k2,λy hy=>k3 y (G6 _ hy)⟩
     ·rw[D8.1 k1]at k3;have:=k3 b (G6 _ hb.1) hb.2.1;omega
   ·rw[o7];have g3:=O5.1 h3;have hna:a∉b::r:=λh=>ha ((hi a).1 h).1;refine⟨I7.2 ⟨hn,A7,λx hx y hy hxy=>by simp at hy;subst hy;exact hna (hxy▸hx)⟩,λx=>?_⟩;constructor
    ·intro hx;rcases A8.1 hx with hx|hx
     ·obtain⟨k1,k2,k3⟩:=(hi x).1 hx;refine⟨G6 _ k1,k2,λy hy hy2=>?_⟩;rcases A8.1 hy with hy|hy
      ·exact k3 y hy hy2
      ·rw[D8.1 hy,g3];exact k3 b hb.1 hb.2.1
     ·rw[D8.1 hx];refine⟨A7,na,λy hy hy2=>?_⟩;rcases A8.1 hy with hy|hy
      ·rw[g3];exact hb.2.2 y hy hy2
      ·rw[D8.1 hy];exact aV _
    ·rintro⟨k1,k2,k3⟩;rcases A8.1 k1 with k1|k1
     ·exact G6 _ ((hi x).2 ⟨k1,k2,λy hy=>k3 y (G6 _ hy)⟩)
     ·exact aU _ k1
  ·rw[o7];have g2:=jC.1 h2;refine⟨A7,λx=>?_⟩;simp only[D8];constructor
   ·rintro rfl;refine⟨A7,na,λy hy hy2=>?_⟩;rcases A8.1 hy with hy|hy
    ·have:=hb.2.2 y hy hy2;omega
    ·rw[D8.1 hy];exact aV _
   ·rintro⟨k1,k2,k3⟩;rcases A8.1 k1 with k1|k1
    ·have h4:=k3 a A7 na;have h5:=hb.2.2 x k1 k2;omega
    ·exact D8.1 k1
theorem a0c{oc pr:Int->Int} :∀(l seen acc:List Int),a4n oc pr seen acc->(seen++l).Nodup->a4n oc pr (seen++l) (l.foldl (bG oc pr) acc)
 |[],seen,acc,h,_=>by rw[F7];exact h|a::l,seen,acc,h,hn=>by
  have hn' :(seen++[a]++l).Nodup:=by rw[F6];exact hn
  have ha:a∉seen:=λhs=>by have:=(I7.1 hn).2.2 a hs a A7;exact this rfl
  have:=a0c l (seen++[a]) (bG oc pr acc a) (b4A h ha) hn';rw[F6]at this;exact this
theorem a1a{oc pr:Int->Int}{l:List Int}(hn:l.Nodup):(xF oc pr l).Nodup/\∀x,x∈xF oc pr l↔x∈l/\oc x≠-1/\∀y∈l,oc y≠-1->pr y<=pr x:=
 a0c l [] [] ⟨A7,λx=>by simp⟩ (by simpa using hn)
structure TreeR (nA nB:Nat) (par prio:List Int) (ap:List Bool) (par' prio' :List Int) (ap' :List Bool) (R:Int->Int->Prop):Prop where
 v:CJ par prio=0
 v' :CJ par' prio' =0
 n:par.length=nA
 n' :par'.length=nB
 rng:∀x y,R x y->(0<=x/\x<(nA:Int))/\0<=y/\y<(nB:Int)
 dom:∀x,0<=x->x<(nA:Int)->∃y,R x y
 cod:∀y,0<=y->y<(nB:Int)->∃x,R x y
 fn:∀x y z,R x y->R x z->y=z
 inj:∀x y z,R x z->R y z->x=y
 pr:∀x y,R x y->prF prio x=prF prio' y
 ap:∀x y,R x y->apF ap x=apF ap' y
 pa:∀(x y:Nat) (p q:Int),R (x:Int) (y:Int)->par[x]? =some p->par'[y]? =some q->(p=-1/\q=-1)\/R p q
def RO(R:Int->Int->Prop)(a b:Int):Prop:=(a=-1/\b=-1)\/R a b
def RX(R:Int->Int->Prop)(a b:Int):Prop:=(a=-1/\b=-1)\/(a=-2/\b=-2)\/R a b
section
variable {n n' :Nat} {par prio par' prio' :List Int} {ap ap' :List Bool} {R:Int->Int->Prop}
theorem SN{par:List Int}{at' x:Int} :x∈castL (kids par at')↔∃i:Nat,x=(i:Int)/\par[i]? =some at' :=by
 unfold castL;constructor
 ·intro h;obtain⟨i,hi,rfl⟩:=U8.1 h;exact⟨i,rfl,(SQ hi).2⟩
 ·rintro⟨i,rfl,h⟩;refine U8.2 ⟨i,?_,rfl⟩;unfold kids onL;refine N8.2 ⟨U3.2 (Z4.1 h).1,?_⟩;unfold YM;rw[h];exact O8 rfl
theorem UJ(par:List Int)(at' :Int):(castL (kids par at')).Nodup:=by unfold castL kids onL;refine List.Pairwise.map _ (λa b h=>?_) ((List.nodup_range (n:=par.length)).filter _);omega
theorem TreeR.kid(T:TreeR n n' par prio ap par' prio' ap' R){a b x y:Int}(hab:RO R a b)(hxy:R x y):x∈castL (kids par a)↔y∈castL (kids par' b):=by
 obtain⟨⟨x0,x1⟩,y0,y1⟩:=T.rng x y hxy;obtain⟨i,rfl⟩:∃i:Nat,x=(i:Int):=⟨x.toNat,l7⟩;obtain⟨j,rfl⟩:∃j:Nat,y=(j:Int):=⟨y.toNat,l7⟩;have hi:par[i]? =some (par[i]'(by rw[T.n];omega)):=gY _;have hj:par'[j]? =some (par'[j]'(by rw[T.n'];omega)):=gY _;have hp:=T.pa i j _ _ hxy hi hj;rw[SN,SN];constructor
 ·rintro⟨k,hk,h⟩;have ek:k=i:=l7;subst ek;rw[hi]at h;have h:=V6 h;refine⟨j,rfl,?_⟩;rw[hj];congr 1;rw[h]at hp;rcases hp with⟨p1,p2⟩|hp<;>rcases hab with⟨q1,q2⟩|hab
  ·rw[p2,q2]
  ·have:=(T.rng _ _ hab).1.1;omega
  ·have:=(T.rng _ _ hp).1.1;omega
  ·exact T.fn _ _ _ hp hab
 ·rintro⟨k,hk,h⟩;have ek:k=j:=l7;subst ek;rw[hj]at h;have h:=V6 h;refine⟨i,rfl,?_⟩;rw[hi];congr 1;rw[h]at hp;rcases hp with⟨p1,p2⟩|hp<;>rcases hab with⟨q1,q2⟩|hab
  ·rw[p1,q1]
  ·have:=(T.rng _ _ hab).2.1;omega
  ·have:=(T.rng _ _ hp).2.1;omega
  ·exact T.inj _ _ _ hp hab
theorem RX.neg(T:TreeR n n' par prio ap par' prio' ap' R){a b:Int}(h:RX R a b):a=-1↔b=-1:=by
 rcases h with⟨h1,h2⟩|⟨h1,h2⟩|h
 ·omega
 ·omega
 ·have:=T.rng _ _ h;omega
theorem TreeR.ch(T:TreeR n n' par prio ap par' prio' ap' R){a b:Int}{oc oc' :Int->Int}(hab:RO R a b)(ho:∀x y,R x y->x∈castL (kids par a)->RX R (oc x) (oc' y)):
  RX R (chF oc (prF prio) (castL (kids par a))) (chF oc' (prF prio') (castL (kids par' b))):=by
 obtain⟨n1,m1⟩:=a1a (oc:=oc) (pr:=prF prio) (UJ par a);obtain⟨n2,m2⟩:=a1a (oc:=oc') (pr:=prF prio') (UJ par' b);have rg:∀x,x∈castL (kids par a)->∃y,R x y:=λx hx=>by obtain⟨i,rfl,h⟩:=SN.1 hx;have:=(Z4.1 h).1;rw[T.n]at this;exact T.dom _ l7 l7
 have rg' :∀y,y∈castL (kids par' b)->∃x,R x y:=λy hy=>by obtain⟨i,rfl,h⟩:=SN.1 hy;have:=(Z4.1 h).1;rw[T.n']at this;exact T.cod _ l7 l7
 have key:∀x y,R x y->(x∈xF oc (prF prio) (castL (kids par a))↔y∈xF oc' (prF prio') (castL (kids par' b))):=λx y hxy=>by
  rw[m1,m2];have hk:=T.kid hab hxy;constructor
  ·rintro⟨g1,g2,g3⟩;have gy:=hk.1 g1;refine⟨gy,λh=>g2 (((ho x y hxy g1).neg T).2 h),λz hz hz2=>?_⟩;obtain⟨w,hw⟩:=rg' z hz;have gw:=(T.kid hab hw).2 hz;have:=g3 w gw (λh=>hz2 (((ho w z hw gw).neg T).1 h));rw[←T.pr w z hw,←T.pr x y hxy];exact this
  ·rintro⟨g1,g2,g3⟩;have gx:=hk.2 g1;refine⟨gx,λh=>g2 (((ho x y hxy gx).neg T).1 h),λw hw hw2=>?_⟩;obtain⟨z,hz⟩:=rg w hw;have:=g3 z ((T.kid hab hz).1 hw) (λh=>hw2 (((ho w z hz hw).neg T).2 h));rw[T.pr w z hz,T.pr x y hxy];exact this
 have sub1:∀x,x∈xF oc (prF prio) (castL (kids par a))->∃y,R x y/\y∈xF oc' (prF prio') (castL (kids par' b)):=λx hx=>by obtain⟨y,hy⟩:=rg x ((m1 x).1 hx).1;exact⟨y,hy,(key x y hy).1 hx⟩
 have sub2:∀y,y∈xF oc' (prF prio') (castL (kids par' b))->∃x,R x y/\x∈xF oc (prF prio) (castL (kids par a)):=λy hy=>by obtain⟨x,hx⟩:=rg' y ((m2 y).1 hy).1;exact⟨x,hx,(key x y hx).2 hy⟩
 have hin:∀x,x∈xF oc (prF prio) (castL (kids par a))->x∈castL (kids par a):=λx hx=>((m1 x).1 hx).1;unfold chF;revert n1 n2 sub1 sub2 hin;generalize xF oc (prF prio) (castL (kids par a))=B;generalize xF oc' (prF prio') (castL (kids par' b))=B';intro n1 n2 sub1 sub2 hin;match B,B' with
 |[],[]=>exact .inl ⟨rfl,rfl⟩|[],y::_=>obtain⟨x,_,hx⟩:=sub2 y A7;cases hx
 |x::_,[]=>obtain⟨y,_,hy⟩:=sub1 x A7;cases hy
 |[x],[y]=>obtain⟨z,hz,hz2⟩:=sub1 x A7;have:=D8.1 hz2;subst this;exact ho x z hz (hin x A7)
 |[x],y::z::r=>obtain⟨w,hw,hw2⟩:=sub2 y A7;obtain⟨u,hu,hu2⟩:=sub2 z A7;have e1:=D8.1 hw2;have e2:=D8.1 hu2;subst e1;subst e2;have e3:=T.fn _ _ _ hw hu;rw[e3]at n2;simp at n2
 |x::z::r,[y]=>obtain⟨w,hw,hw2⟩:=sub1 x A7;obtain⟨u,hu,hu2⟩:=sub1 z A7;have e1:=D8.1 hw2;have e2:=D8.1 hu2;subst e1;subst e2;have e3:=T.inj _ _ _ hw hu;rw[e3]at n1;simp at n1
 |x::z::r,y::w::r' =>exact .inr (.inl ⟨rfl,rfl⟩)
theorem TreeR.oc(T:TreeR n n' par prio ap par' prio' ap' R):∀(k:Nat) (x y:Int),(n:Int) -x<=k->R x y->RX R (OC par prio ap x) (OC par' prio' ap' y):=by
 intro k;induction k with
 |zero=>intro x y hk h;have:=T.rng x y h;omega|succ k ih=>
  intro x y hk h;obtain⟨⟨x0,x1⟩,y0,y1⟩:=T.rng x y h;rw[a7t par prio ap T.v l7 (by rw[T.n];exact x1),a7t par' prio' ap' T.v' l7 (by rw[T.n'];exact y1)];have hc:RX R (chS par prio ap x) (chS par' prio' ap' y):=T.ch (.inr h) λu w hu hm=>ih u w (by have:=Qh par prio T.v hm;omega) hu;have hneg:=hc.neg T;cases h1:o8 (chS par prio ap x) (-1)
  ·have:o8 (chS par' prio' ap' y) (-1)=false:=L9 λe=>(yU.1 h1) (hneg.2 e);rw[this,o6,o6];exact hc
  ·have:o8 (chS par' prio' ap' y) (-1)=true:=O8 (hneg.1 (O5.1 h1));rw[this,o7,o7,T.ap x y h];cases apF ap' y
   ·exact .inl ⟨rfl,rfl⟩
   ·exact .inr (.inr h)
theorem TreeR.sel(T:TreeR n n' par prio ap par' prio' ap' R)(ha:ap.length=n)(ha' :ap'.length=n'):RX R (Eh par prio ap) (Eh par' prio' ap'):=by unfold Eh;rw[O8 T.v,O8 T.v',O8 (show x8 ap=x8 par by unfold x8;rw[ha,T.n]),O8 (show x8 ap' =x8 par' by unfold x8;rw[ha',T.n'])];rw[o7,o7,o7,o7];exact T.ch (.inl ⟨rfl,rfl⟩) λx y h _=>T.oc ((n:Int) -x).toNat x y l7 h
end
end
section
def VR(s:D6):Prop:=∃sg,∀(j:Nat) (r:aK),s.2.2.2.2[j]? =some r->RuleV s sg j r
theorem VR.uniq{s:D6}(h:VR s){i j:Nat}{r q:aK}(hr:s.2.2.2.2[i]? =some r)(hq:s.2.2.2.2[j]? =some q)(e:r.1=q.1):i=j:=by
 obtain⟨sg,h⟩:=h;have key:∀(a b:Nat) (x y:aK),s.2.2.2.2[a]? =some x->s.2.2.2.2[b]? =some y->x.1=y.1->¬a<b:=λa b x y hx hy he hlt=>by have:=oN.1 (h b y hy).nm x (AY.2 ⟨a,by have:=(Z4.1 hx).1;have:=(Z4.1 hy).1;omega,(Z4.1 hx).2⟩);exact this (b3a.2 he)
 have h1:=key i j r q hr hq e;have h2:=key j i q r hq hr e.symm;omega
theorem VR.par{s:D6}(h:VR s){i:Nat}{r:aK}(hr:s.2.2.2.2[i]? =some r):Ce s i=-1\/∃(p:Nat) (q:aK),Ce s i=(p:Int)/\p<i/\s.2.2.2.2[p]? =some q/\q.2.1=r.2.1:=by
 obtain⟨sg,h⟩:=h;have hb:=(h i r hr).pa;have e:Ce s i=r.2.2.1:=by unfold Ce;rw[hr]
 unfold TN at hb;rw[←e]at hb;generalize Ce s i=z at*;cases h1:o8 z (-1)<;>rw[h1]at hb
 ·rw[o6]at hb;cases h2:D9 z 0<;>rw[h2]at hb
  case true=>cases hb
  rw[o6]at hb;cases h3:J6 (i:Int) z<;>rw[h3]at hb
  case true=>cases hb
  rw[o6]at hb;have g2:=iL.1 h2;have g3:=Fz.1 h3;right;obtain⟨p,rfl⟩:∃p:Nat,z=(p:Int):=⟨z.toNat,l7⟩;rw[J9]at hb;cases hq:s.2.2.2.2[p]? with
  |none=>rw[hq]at hb;cases hb|some q=>
   rw[hq]at hb;simp only at hb;refine⟨p,q,rfl,l7,hq,?_⟩;cases g:o8 q.2.1 r.2.1<;>rw[g]at hb
   ·cases hb
   ·exact O5.1 g
 ·exact .inl (O5.1 h1)
def PaR(s t:D6)(p p' :Int):Prop:=(p=-1/\p' =-1)\/∃(i j:Nat) (r q:aK),p=(i:Int)/\p' =(j:Int)/\s.2.2.2.2[i]? =some r/\t.2.2.2.2[j]? =some q/\r.1=q.1
structure EqR (s t:D6) (r q:aK):Prop where
 nm:r.1=q.1
 df:r.2.1=q.2.1
 rest:r.2.2.2=q.2.2.2
 pa:PaR s t r.2.2.1 q.2.2.1
structure SameR (s t:D6) (d:Int):Prop where
 fwd:∀(i:Nat) (r:aK),s.2.2.2.2[i]? =some r->r.2.1=d->∃(j:Nat) (q:aK),t.2.2.2.2[j]? =some q/\EqR s t r q
 bwd:∀(j:Nat) (q:aK),t.2.2.2.2[j]? =some q->q.2.1=d->∃(i:Nat) (r:aK),s.2.2.2.2[i]? =some r/\EqR s t r q
def Rn(s t:D6)(d:Int)(i j:Nat):Prop:=∃r q,s.2.2.2.2[i]? =some r/\t.2.2.2.2[j]? =some q/\r.1=q.1/\r.2.1=d/\q.2.1=d
section
variable {s t:D6} {d:Int} (hs:VR s) (ht:VR t) (hR:SameR s t d)
include hs ht hR
omit hs in
theorem a1E{i j:Nat}{r q:aK}(h:Rn s t d i j)(hr:s.2.2.2.2[i]? =some r)(hq:t.2.2.2.2[j]? =some q):EqR s t r q:=by obtain⟨r',q',h1,h2,h3,h4,h5⟩:=h;rw[hr]at h1;cases h1;rw[hq]at h2;cases h2;obtain⟨j',q'',g1,g2⟩:=hR.fwd i _ hr h4;have:j' =j:=ht.uniq g1 hq (g2.nm.symm.trans h3);subst this;rw[hq]at g1;cases g1;exact g2
omit hs in
theorem a1F{i j:Nat}(h:Rn s t d i j)(T:Int):onR s d T i=onR t d T j:=by obtain⟨r,q,h1,h2,h3,h4,h5⟩:=id h;have e:=a1E ht hR h h1 h2;unfold onR;rw[h1,h2];simp only;rw[O8 h4,O8 h5,e.rest]
def RP' (s t:D6) (d T:Int) (x y:Int):Prop:=∃i j,Rn s t d i j/\onR s d T i=true/\x=(oD (onR s d T) i:Int)/\y=(oD (onR t d T) j:Int)
theorem b1Y(T:Int):∀i j,Rn s t d i j->RO (RP' s t d T) (anc (onR s d T) (Ce s) i) (anc (onR t d T) (Ce t) j):=by
 intro i;induction i using Nat.strongRecOn with
 |ind i ih=>
  intro j h;obtain⟨r,q,h1,h2,h3,h4,h5⟩:=id h;have e:=a1E ht hR h h1 h2;have ep:Ce s i=r.2.2.1:=by unfold Ce;rw[h1]
  have ep' :Ce t j=q.2.2.1:=by unfold Ce;rw[h2]
  have hpa:=e.pa;rw[←ep,←ep']at hpa;unfold anc;rcases hpa with⟨p1,p2⟩|⟨i',j',r',q',p1,p2,p3,p4,p5⟩
  ·rw[if_neg l7,if_neg l7];exact .inl ⟨rfl,rfl⟩
  ·rcases hs.par h1 with g|⟨a,ra,a1,a2,a3,a4⟩
   ·omega
   rcases ht.par h2 with g|⟨b,rb,b1,b2,b3,b4⟩
   ·omega
   have ea:a=i' :=l7;have eb:b=j' :=l7;subst ea;subst eb;rw[p3]at a3;cases a3;rw[p4]at b3;cases b3;have hn:Rn s t d a b:=⟨r',q',p3,p4,p5,a4.trans h4,b4.trans h5⟩;rw[if_pos l7,if_pos l7,a1,b1,O9,O9,SV,SV,←a1F ht hR hn T];cases ho:onR s d T a
   ·rw[if_neg A7,if_neg A7];exact ih a a2 b hn
   ·rw[if_pos rfl,if_pos rfl];exact .inr ⟨a,b,hn,ho,rfl,rfl⟩
end
theorem a4I{s:D6}(h:VR s)(d:Int):∀n,n<=s.2.2.2.2.length->MF (s.2.2.2.2.take n) d<=8
 |0,_=>by simp[MF]|n+1,hn=>by
  have ih:=a4I h d n l7;have hlt:n<s.2.2.2.2.length:=l7;have hr:s.2.2.2.2[n]? =some s.2.2.2.2[n]:=gY hlt;obtain⟨sg,h⟩:=h;have hc:=(h n _ hr).ct;rw[P9 hlt];unfold MF at ih hc ⊢;rw[zk];rw[Fz]at hc;by_cases e:s.2.2.2.2[n].2.1=d
  ·rw[e]at hc;have h1:List.countP (λ(o:aK)=>o8 o.2.1 d) [s.2.2.2.2[n]]<=1:=wH;omega
  ·have h1:List.countP (λ(o:aK)=>o8 o.2.1 d) [s.2.2.2.2[n]]=0:=by
    rw[List.countP_eq_zero];intro x hx;rw[D8.1 hx,L9 e];simp
   omega
theorem a9b(s:D6)(d T:Int):∀n,n<=s.2.2.2.2.length->(onL (onR s d T) n).length<=MF (s.2.2.2.2.take n) d
 |0,_=>by simp[onL,MF]|n+1,hn=>by
  have ih:=a9b s d T n l7;have hlt:n<s.2.2.2.2.length:=l7;have hr:s.2.2.2.2[n]? =some s.2.2.2.2[n]:=gY hlt;rw[Jw,F5,P9 hlt];unfold MF at ih ⊢;rw[zk];cases ho:onR s d T n
  ·simp only[cond_false,bU];omega
  ·have hd:o8 s.2.2.2.2[n].2.1 d=true:=by
    unfold onR at ho;rw[hr]at ho;simp only at ho;cases g:o8 s.2.2.2.2[n].2.1 d
    ·rw[g]at ho;cases ho
    ·rfl
   have h1:List.countP (λ(o:aK)=>o8 o.2.1 d) [s.2.2.2.2[n]]=1:=by simp[hd]
   rw[h1];show _+1<=_+1;omega
theorem b4h(on:Nat->Bool)(par:Nat->Int):∀i,-1<=anc on par i/\anc on par i<(oD on i:Int)\/anc on par i=-1:=by
 intro i;induction i using Nat.strongRecOn with
 |ind i ih=>
  unfold anc;by_cases h:0<=par i/\par i<(i:Int)
  ·rw[if_pos h,SV];have hlt:(par i).toNat<i:=l7;cases ho:on (par i).toNat
   ·rw[if_neg A7];rcases ih _ hlt with g|g
    ·have:=a0k on (Nat.le_of_lt hlt);exact .inl ⟨g.1,l7⟩
    ·exact .inr g
   ·rw[if_pos rfl];have:=b4C hlt ho;exact .inl ⟨l7,l7⟩
  ·rw[if_neg h];exact .inr rfl
theorem Wh{s:D6}(h:VR s)(d T:Int):CJ (bg s d T).2.1 (bg s d T).2.2=0:=by
 have hlen:(ah s d T).length<=8:=by have h1:=a9b s d T s.2.2.2.2.length (E5 _);have h2:=a4I h d s.2.2.2.2.length (E5 _);unfold ah;omega
 show CJ ((ah s d T).map (anc (onR s d T) (Ce s))) ((ah s d T).map (Gm s))=0;unfold CJ;have l1:x8 ((ah s d T).map (anc (onR s d T) (Ce s)))=((ah s d T).length:Int):=by unfold x8;rw[J7]
 have l2:x8 ((ah s d T).map (Gm s))=((ah s d T).length:Int):=by unfold x8;rw[J7]
 rw[l1,l2,O8 rfl,F9,o6,L6 l7,o6];have:bD ((ah s d T).map (anc (onR s d T) (Ce s))).length (Pm ((ah s d T).map (anc (onR s d T) (Ce s))) ((ah s d T).map (Gm s)))=none:=by
  unfold bD;rw[iJ];intro k hk;have hk:k<(ah s d T).length:=by have:=U3.1 hk;rwa[J7]at this
  have e:=gY hk;unfold Pm;rw[Y8,Y8,e];simp only[iU];obtain⟨i1,i2⟩:=pJ (S9 hk);generalize hi:(ah s d T)[k]=i at*;have hcnt:oD (onR s d T) i=k:=XR (YZ _ _) (YY _ i1 i2) e;have hr:s.2.2.2.2[i]? =some s.2.2.2.2[i]:=gY i1;obtain⟨sg,h⟩:=h;have hv:=h i _ hr;have hpr:Gm s i=s.2.2.2.2[i].2.2.2.1:=by unfold Gm;rw[hr]
  have p0:=hv.p0;have p9:=hv.p9;rw[←hpr]at p0 p9;have ha:=b4h (onR s d T) (Ce s) i;rw[hcnt]at ha;rw[L6 (show -1<=anc (onR s d T) (Ce s) i by omega),Y1 (show anc (onR s d T) (Ce s) i<(k:Int) by omega),p0,p9];rfl
 rw[this]
end
section
def gOk(s:D6)(env:aP)(i:Nat):Bool:=match s.2.2.2.2[i]? with|some r=>l9 (o8 (x8 r.2.2.2.2.2.1) 0) true (o8 (uU r.2.2.2.2.2.1 env).2 0)|none=>true
def gAp(s:D6)(env:aP)(i:Nat):Bool:=match s.2.2.2.2[i]? with|some r=>l9 (o8 (x8 r.2.2.2.2.2.1) 0) true (o8 (uU r.2.2.2.2.2.1 env).1.2.2 1)|none=>true
theorem NU(s:D6)(env:aP)(m d:Int):∀(L:List Nat) (ap:List Bool),(∀i∈L,i<s.2.2.2.2.length)->
  ((∀i∈L,gOk s env i=true)/\aG (Cb s env m d) (castL L) ap= .inl (ap++L.map (gAp s env)))\/((∃i∈L,gOk s env i=false)/\∃e:Int×E4,aG (Cb s env m d) (castL L) ap= .inr e/\e.2.1≠0)
 |[],ap,_=> .inl ⟨λi hi=>by(cases hi),by simp[castL,aG]⟩|i::L,ap,h=>by
  have hr:s.2.2.2.2[i]? =some (s.2.2.2.2[i]'(h i A7)):=gY _;have hc:castL (i::L)=(i:Int)::castL L:=rfl;rw[hc];unfold aG;have hg:Cb s env m d ap (i:Int)=l9 (gOk s env i) (.inl (ap++[gAp s env i])) (.inr (0,(uU (s.2.2.2.2[i]'(h i A7)).2.2.2.2.2.1 env).2,m,d,(i:Int))):=by
   unfold Cb gOk gAp;rw[J9,hr];simp only;cases o8 (x8 (s.2.2.2.2[i]'(h i A7)).2.2.2.2.2.1) 0
   ·cases o8 (uU (s.2.2.2.2[i]'(h i A7)).2.2.2.2.2.1 env).2 0<;>rfl
   ·rfl
  rw[hg];cases ho:gOk s env i
  ·refine .inr ⟨⟨i,A7,ho⟩,_,rfl,?_⟩;unfold gOk at ho;rw[hr]at ho;simp only at ho;cases h1:o8 (x8 (s.2.2.2.2[i]'(h i A7)).2.2.2.2.2.1) 0<;>rw[h1]at ho
   ·exact yU.1 ho
   ·cases ho
  ·simp only[o7];rcases NU s env m d L (ap++[gAp s env i]) (λj hj=>h j (by simp[hj]))with⟨g1,g2⟩|⟨⟨j,g1,g2⟩,g3⟩
   ·refine .inl ⟨λj hj=>?_,by rw[g2];simp⟩;rcases C9.1 hj with rfl|hj
    ·exact ho
    ·exact g1 j hj
   ·exact .inr ⟨⟨j,by simp[g1],g2⟩,g3⟩
section
variable {s t:D6} {d:Int} (hs:VR s) (ht:VR t) (hR:SameR s t d)
include ht hR
theorem b4Z{i j:Nat}(h:Rn s t d i j)(env:aP):gOk s env i=gOk t env j/\gAp s env i=gAp t env j:=by obtain⟨r,q,h1,h2,_⟩:=id h;have e:=a1E ht hR h h1 h2;unfold gOk gAp;rw[h1,h2];simp only;rw[e.rest];exact⟨rfl,rfl⟩
theorem b0i{i:Nat}{T:Int}(hi:i∈ah s d T):∃j,Rn s t d i j/\j∈ah t d T:=by
 obtain⟨i1,i2⟩:=pJ hi;have hr:s.2.2.2.2[i]? =some s.2.2.2.2[i]:=gY i1;have hd:s.2.2.2.2[i].2.1=d:=by
  have ho:=i2;unfold onR at ho;rw[hr]at ho;simp only at ho;cases g:o8 s.2.2.2.2[i].2.1 d
  ·rw[g]at ho;cases ho
  ·exact O5.1 g
 obtain⟨j,q,g1,g2⟩:=hR.fwd i _ hr hd;have hn:Rn s t d i j:=⟨_,q,hr,g1,g2.nm,hd,g2.df.symm.trans hd⟩;refine⟨j,hn,?_⟩;unfold ah onL;refine N8.2 ⟨U3.2 (Z4.1 g1).1,?_⟩;rw[←a1F ht hR hn T];exact i2
include hs
theorem b0h{j:Nat}{T:Int}(hj:j∈ah t d T):∃i,Rn s t d i j/\i∈ah s d T:=by
 obtain⟨i1,i2⟩:=pJ hj;have hr:t.2.2.2.2[j]? =some t.2.2.2.2[j]:=gY i1;have hd:t.2.2.2.2[j].2.1=d:=by
  have ho:=i2;unfold onR at ho;rw[hr]at ho;simp only at ho;cases g:o8 t.2.2.2.2[j].2.1 d
  ·rw[g]at ho;cases ho
  ·exact O5.1 g
 obtain⟨i,q,g1,g2⟩:=hR.bwd j _ hr hd;have hn:Rn s t d i j:=⟨q,_,g1,hr,g2.nm,g2.df.trans hd,hd⟩;refine⟨i,hn,?_⟩;unfold ah onL;refine N8.2 ⟨U3.2 (Z4.1 g1).1,?_⟩;rw[a1F ht hR hn T];exact i2
theorem DY{s:D6}{d T:Int}{i:Nat}(h:i∈ah s d T):(ah s d T)[oD (onR s d T) i]? =some i:=by obtain⟨i1,i2⟩:=pJ h;exact YY _ i1 i2
theorem b1L(T:Int)(env:aP):TreeR (ah s d T).length (ah t d T).length (bg s d T).2.1 (bg s d T).2.2 ((ah s d T).map (gAp s env)) (bg t d T).2.1 (bg t d T).2.2 ((ah t d T).map (gAp t env)) (RP' s t d T):=by
 have mem:∀{i j:Nat},Rn s t d i j->onR s d T i=true->i∈ah s d T/\j∈ah t d T:=λ{i j} h ho=>by obtain⟨r,q,h1,h2,_⟩:=id h;unfold ah onL;exact⟨N8.2 ⟨U3.2 (Z4.1 h1).1,ho⟩,N8.2 ⟨U3.2 (Z4.1 h2).1,by rw[←a1F ht hR h T];exact ho⟩⟩
 have at1:∀{s:D6} {i:Nat},i∈ah s d T->oD (onR s d T) i<(ah s d T).length:=λ{s i} h=>by have:=DY hs ht hR h;exact(Z4.1 this).1
 have eqi:∀{s:D6} {i j:Nat},i∈ah s d T->j∈ah s d T->oD (onR s d T) i=oD (onR s d T) j->i=j:=λ{s i j} hi hj e=>by have h1:=DY hs ht hR hi;have h2:=DY hs ht hR hj;rw[e,h2]at h1;exact(V6 h1).symm
 have posn:∀{s:D6} (x:Nat),x<(ah s d T).length->∃i,i∈ah s d T/\oD (onR s d T) i=x:=λ{s} x hx=>by have e:=gY hx;obtain⟨i1,i2⟩:=pJ (S9 hx);exact⟨_,S9 hx,XR (YZ _ _) (YY _ i1 i2) e⟩
 have uniqL:∀{i j j' :Nat},Rn s t d i j->Rn s t d i j' ->j=j' :=λ{i j j'} h h' =>by obtain⟨r,q,h1,h2,h3,_⟩:=h;obtain⟨r',q',g1,g2,g3,_⟩:=h';rw[h1]at g1;cases g1;exact ht.uniq h2 g2 (h3.symm.trans g3)
 have uniqR:∀{i i' j:Nat},Rn s t d i j->Rn s t d i' j->i=i' :=λ{i i' j} h h' =>by obtain⟨r,q,h1,h2,h3,_⟩:=h;obtain⟨r',q',g1,g2,g3,_⟩:=h';rw[h2]at g2;cases g2;exact hs.uniq h1 g1 (h3.trans g3.symm)
 refine⟨Wh hs d T,Wh ht d T,?_,?_,?_,?_,?_,?_,?_,?_,?_,?_⟩
 ·show((ah s d T).map _).length=_;rw[J7]
 ·show((ah t d T).map _).length=_;rw[J7]
 ·rintro x y ⟨i,j,h,ho,rfl,rfl⟩;obtain⟨m1,m2⟩:=mem h ho;have:=at1 m1;have:=at1 m2;omega
 ·intro x h0 h1;obtain⟨a,rfl⟩:∃a:Nat,x=(a:Int):=⟨x.toNat,l7⟩;obtain⟨i,hi,rfl⟩:=posn (s:=s) a l7;obtain⟨j,hj,_⟩:=b0i ht hR hi;exact⟨_,i,j,hj,(pJ hi).2,rfl,rfl⟩
 ·intro y h0 h1;obtain⟨a,rfl⟩:∃a:Nat,y=(a:Int):=⟨y.toNat,l7⟩;obtain⟨j,hj,rfl⟩:=posn (s:=t) a l7;obtain⟨i,hi,him⟩:=b0h hs ht hR hj;exact⟨_,i,j,hi,(pJ him).2,rfl,rfl⟩
 ·rintro x y z ⟨i,j,h,ho,rfl,rfl⟩ ⟨i',j',h',ho',e,rfl⟩;have ei:=eqi (mem h ho).1 (mem h' ho').1 l7;subst ei;rw[uniqL h h']
 ·rintro x y z ⟨i,j,h,ho,rfl,rfl⟩ ⟨i',j',h',ho',rfl,e⟩;have ej:=eqi (mem h ho).2 (mem h' ho').2 l7;subst ej;rw[uniqR h h']
 ·rintro x y ⟨i,j,h,ho,rfl,rfl⟩;obtain⟨m1,m2⟩:=mem h ho;have p1:=DY hs ht hR m1;have p2:=DY hs ht hR m2;show((ah s d T).map (Gm s)).getD ((oD (onR s d T) i:Nat):Int).toNat 0=((ah t d T).map (Gm t)).getD ((oD (onR t d T) j:Nat):Int).toNat 0;rw[O9,O9,rZ,rZ,Y8,Y8,p1,p2];obtain⟨r,q,h1,h2,_⟩:=id h;have e:=a1E ht hR h h1 h2;show Gm s i=Gm t j;unfold Gm;rw[h1,h2];simp only;rw[e.rest]
 ·rintro x y ⟨i,j,h,ho,rfl,rfl⟩;obtain⟨m1,m2⟩:=mem h ho;have p1:=DY hs ht hR m1;have p2:=DY hs ht hR m2;unfold apF;rw[O9,O9,rZ,rZ,Y8,Y8,p1,p2];show gAp s env i=gAp t env j;exact(b4Z ht hR h env).2
 ·rintro x y p q ⟨i,j,h,ho,ex,ey⟩ hp hq;have ex:x=oD (onR s d T) i:=l7;have ey:y=oD (onR t d T) j:=l7;subst ex;subst ey;obtain⟨m1,m2⟩:=mem h ho;have p1:=DY hs ht hR m1;have p2:=DY hs ht hR m2;have hp:((ah s d T).map (anc (onR s d T) (Ce s)))[oD (onR s d T) i]? =some p:=hp;have hq:((ah t d T).map (anc (onR t d T) (Ce t)))[oD (onR t d T) j]? =some q:=hq;rw[Y8,p1]at hp;rw[Y8,p2]at hq;have hp:=V6 hp;have hq:=V6 hq;rw[←hp,←hq];exact b1Y hs ht hR T i j h
theorem a0i(env:aP)(m:Int):((V9 s env m d).2.1≠0/\(V9 t env m d).2.1≠0)\/
  ((V9 s env m d).2.1=0/\(V9 t env m d).2.1=0/\(((V9 s env m d).1=-1/\(V9 t env m d).1=-1)\/((V9 s env m d).1=-2/\(V9 t env m d).1=-2)\/∃i j,Rn s t d i j/\(V9 s env m d).1=(i:Int)/\(V9 t env m d).1=(j:Int))):=by
 have T:=b1L hs ht hR env.1 env;have hsel:=T.sel (by rw[J7]) (by rw[J7]);have e1:(bg s d env.1).1=castL (ah s d env.1):=rfl;have e2:(bg t d env.1).1=castL (ah t d env.1):=rfl;unfold V9;rw[e1,e2];rcases NU s env m d (ah s d env.1) [] (λi hi=>(pJ hi).1)with⟨g1,g2⟩|⟨⟨i,g1,g2⟩,e,g3,g4⟩
 ·rcases NU t env m d (ah t d env.1) [] (λi hi=>(pJ hi).1)with⟨k1,k2⟩|⟨⟨j,k1,k2⟩,_⟩
  ·rw[g2,k2];simp only[J4];right;rcases hsel with⟨q1,q2⟩|⟨q1,q2⟩|⟨i,j,q1,q2,q3,q4⟩
   ·rw[q1,q2];exact⟨rfl,rfl,.inl ⟨rfl,rfl⟩⟩
   ·rw[q1,q2];exact⟨rfl,rfl,.inr (.inl ⟨rfl,rfl⟩)⟩
   ·obtain⟨r,q,h1,h2,_⟩:=id q1;have m1:i∈ah s d env.1:=by unfold ah onL;exact N8.2 ⟨U3.2 (Z4.1 h1).1,q2⟩
    have m2:j∈ah t d env.1:=by unfold ah onL;exact N8.2 ⟨U3.2 (Z4.1 h2).1,by rw[←a1F ht hR q1 env.1];exact q2⟩
    rw[q3,q4,L6 (show(0:Int)<=(oD (onR s d env.1) i:Nat) by omega),L6 (show(0:Int)<=(oD (onR t d env.1) j:Nat) by omega),o6,o6,O9,O9];refine⟨rfl,rfl,.inr (.inr ⟨i,j,q1,?_,?_⟩)⟩
    ·show(castL (ah s d env.1)).getD _ 0=_;rw[rZ,Xj (DY hs ht hR m1)];rfl
    ·show(castL (ah t d env.1)).getD _ 0=_;rw[rZ,Xj (DY hs ht hR m2)];rfl
  ·obtain⟨i,hi,him⟩:=b0h hs ht hR k1;have:=g1 i him;rw[(b4Z ht hR hi env).1,k2]at this;cases this
 ·left;obtain⟨j,hj,hjm⟩:=b0i ht hR g1;rcases NU t env m d (ah t d env.1) [] (λi hi=>(pJ hi).1)with⟨k1,k2⟩|⟨_,e',k3,k4⟩
  ·have:=k1 j hjm;rw[←(b4Z ht hR hj env).1,g2]at this;cases this
  ·rw[g3,k3];exact⟨g4,k4⟩
theorem a7W(env:aP)(m:Int):(∃v i j,xR s env m d= .inl (v,i)/\xR t env m d= .inl (v,j))\/(∃e e',xR s env m d= .inr e/\xR t env m d= .inr e'):=by
 unfold xR;rcases a0i hs ht hR env m with⟨h1,h2⟩|⟨h1,h2,h3⟩
 ·rw[L9 h1,L9 h2];exact .inr ⟨_,_,rfl,rfl⟩
 ·rw[O8 h1,O8 h2,o7,o7];rcases h3 with⟨k1,k2⟩|⟨k1,k2⟩|⟨i,j,q1,k1,k2⟩
  ·rw[k1,k2];exact .inr ⟨_,_,rfl,rfl⟩
  ·rw[k1,k2];exact .inr ⟨_,_,rfl,rfl⟩
  ·rw[k1,k2,L9 (show(i:Int)≠-1 by omega),L9 (show(i:Int)≠-2 by omega),L9 (show(j:Int)≠-1 by omega),L9 (show(j:Int)≠-2 by omega),J9,J9];obtain⟨r,q,h1,h2,_⟩:=id q1;have e:=a1E ht hR q1 h1 h2;rw[h1,h2];simp only[o6];rw[e.rest];cases o8 (uU q.2.2.2.2.2.2.1 env).2 0
   ·exact .inr ⟨_,_,rfl,rfl⟩
   ·exact .inl ⟨_,_,_,rfl,rfl⟩
end
end
section
structure Two (s t:D6) (nS nT:List Bool) (Q:Int->Prop):Prop where
 n:t.2.2.2.1.length=s.2.2.2.1.length
 vs:VR s
 vt:VR t
 os:Sr s (lq s).1/\∀d,0<=d->d<nD s->d∈(lq s).1
 ot:Sr t (lq t).1/\∀d,0<=d->d<nD t->d∈(lq t).1
 at' :∀d,ND nT d->(0<=d/\d<nD s)/\ND nS d/\SameR s t d/\(∀x∈O0 t d,ND nT x)/\PH t (λx=>x∈O0 t d) Q d/\PH s (λx=>x∈O0 s d) Q d
theorem b5b{s t:D6}{a b:aP}{m:Int}{nS nT:List Bool}{Q:Int->Prop}{X:DB}(hT:Two s t nS nT Q)(hE:SimE Q a b)(ha:EvOk a)(hb:EvOk b)(hX:scS s a m nS= .inl X):
  ∃Y,scS t b m nT= .inl Y/\∀x,ND nT x->H8 Y.1 x=H8 X.1 x:=by
 have hXl:=Ie hX;have key:∀(suf pre:List Int) (B:DB),(lq t).1=pre++suf->B.1.length=s.2.2.2.1.length/\B.2.length=s.2.2.2.1.length->(∀x∈pre,ND nT x->H8 B.1 x=H8 X.1 x)->
   ∃Y,aG (scG t b m nT) suf B= .inl Y/\∀x∈pre++suf,ND nT x->H8 Y.1 x=H8 X.1 x:=by
  intro suf;induction suf with
  |nil=>intro pre B he hl hi;exact⟨B,rfl,λx hx=>hi x (by simpa using hx)⟩|cons d suf ih=>
   intro pre B he hl hi;have hdr:=hT.ot.1.2.1 d (by rw[he];simp);have hnn:nD t=nD s:=by unfold nD x8;rw[hT.n]
   have step:∃B2,scG t b m nT B d= .inl B2/\(B2.1.length=s.2.2.2.1.length/\B2.2.length=s.2.2.2.1.length)/\∀x∈pre++[d],ND nT x->H8 B2.1 x=H8 X.1 x:=by
    unfold scG;cases hn:(H8 nT d).getD false
    ·refine⟨B,rfl,hl,λx hx hxn=>?_⟩;rcases A8.1 hx with hx|hx
     ·exact hi x hx hxn
     ·rw[D8.1 hx]at hxn;unfold ND at hxn;rw[hn]at hxn;cases hxn
    ·obtain⟨_,k2,k3,k4,k5,k6⟩:=hT.at' d hn;obtain⟨v,r,f1,f2,f3⟩:=Ut ha hT.os.1 hX (hT.os.2 d hdr.1 l7) k2 k6;have hd:∃j,xR t (xK a X.1) m d= .inl (v,j):=by
      rcases a7W hT.vs hT.vt k3 (xK a X.1) m with⟨v',i,j,g1,g2⟩|⟨e,e',g1,g2⟩
      ·rw[f3]at g1;cases g1;exact⟨j,g2⟩
      ·rw[f3]at g1;cases g1
     obtain⟨j,hd⟩:=hd;have hsim:=NL (s:=t) (hE.at (P:=λx=>x∈O0 t d) (D:=X.1) (D' :=B.1) (by rw[hXl.1,hl.1]) (λx hx=>(hi x (hT.ot.1.2.2 pre d suf he x hx) (k4 x hx)).symm)) (Bq ha _) (Bq hb _) k5 m;rw[hd]at hsim;simp only[o7];rw[←hsim];refine⟨_,rfl,⟨by simp[hl.1],by simp[hl.2]⟩,λx hx hxn=>?_⟩;show H8 (B.1.set d.toNat v) x=_;by_cases e:x=d
     ·subst e;rw[UK _ hdr.1 (by unfold x8;unfold nD x8 at hdr hnn;omega),f1]
     ·rw[Hl _ hdr.1 e];rcases A8.1 hx with hx|hx
      ·exact hi x hx hxn
      ·exact absurd (D8.1 hx) e
   obtain⟨B2,h1,h2,h3⟩:=step;obtain⟨Y,h4,h5⟩:=ih (pre++[d]) B2 (by rw[he];simp) h2 h3;refine⟨Y,?_,λx hx=>h5 x (by simpa using hx)⟩;unfold aG;rw[h1];exact h4
 obtain⟨Y,h1,h2⟩:=key (lq t).1 [] (List.replicate t.2.2.2.1.length (0,0,0),List.replicate t.2.2.2.1.length 0) rfl ⟨by simp[hT.n],by simp[hT.n]⟩ (λx hx=>by cases hx);refine⟨Y,h1,λx hx=>h2 x ?_ hx⟩;have hr:=(hT.at' x hx).1;have hnn:nD t=nD s:=by unfold nD x8;rw[hT.n]
 exact hT.ot.2 x hr.1 l7
theorem b7d{l l' :Z7}{c:bP}{ms mt:D6}{nM nN:List Bool}(htb:l'.2.1=l.2.1)(hTb:∀t∈l.2.1,yQ t)(hT:Two ms mt nM nN (λ_=>False)):
  ∀(L:List (List V3×Nat)) (b b' X:List DB),(b.length=b'.length/\∀x,ND nN x->b.map (λv=>H8 v.1 x)=b'.map (λv=>H8 v.1 x))->aG (mG l c ms nM) L b= .inl X->
   ∃Y,aG (mG l' c mt nN) L b' = .inl Y/\X.length=Y.length/\∀x,ND nN x->X.map (λv=>H8 v.1 x)=Y.map (λv=>H8 v.1 x)
 |[],b,b',X,hb,h=>by cases h;exact⟨b',rfl,hb.1,hb.2⟩|a::L,b,b',X,hb,h=>by
  unfold aG at h;cases hg:mG l c ms nM b a with
  |inr e=>rw[hg]at h;cases h|inl b1=>
   rw[hg]at h;simp only at h;unfold mG at hg;cases hs:scS ms (DN l c a.1) (a.2:Int) nM with
   |inr e=>rw[hs]at hg;cases hg|inl x=>
    rw[hs]at hg;cases hg;have he:DN l' c a.1=DN l c a.1:=by unfold DN;rw[htb]
    obtain⟨y,y1,y2⟩:=b5b hT (b:=DN l c a.1) ⟨rfl,rfl,rfl,rfl,λ_ _=>rfl⟩ (Oc hTb c a.1) (Oc hTb c a.1) hs;obtain⟨Y,h3,h4,h5⟩:=b7d htb hTb hT L (b++[x]) (b' ++[y]) X ⟨by simp[hb.1],λz hz=>by rw[bV,bV,hb.2 z hz];exact congrArg (λq=>_++[q]) (y2 z hz).symm⟩ h;refine⟨Y,?_,h4,h5⟩;unfold aG mG;rw[he,y1];exact h3
end
section
theorem b3q{l:Z7}(h:(kU l).1=0){s:D6}(hs:s∈l.2.2):VR s:=by obtain⟨i,hi,rfl⟩:=bI hs;exact⟨_,λj r hr=>b5a (Wn h (gY hi) hr)⟩
theorem Yo{l:Z7}(h:(kU l).1=0){k:Int}{s:D6}(hs:H8 l.2.2 k=some s):VR (U0 l s):=by
 rcases zC h hs with⟨_,_,g⟩|⟨_,_,_,_,g⟩
 ·rw[g];exact⟨FI l s,λj r hr=>by cases hr⟩
 ·exact b3q h g
def DpS(s:D6)(d x:Int):Prop:=x=d\/x∈cu s d
def DpM(s m:D6)(d x:Int):Prop:=∃z∈mbS s d,DpS m z x
abbrev wS(s:D6)(d:Int):List Bool:=IU s (vK s.2.2.2.1.length) d
abbrev wM(s m:D6)(d:Int):List Bool:=DT m (vK m.2.2.2.1.length) (mbS s d)
theorem WV{s:D6}{d:Int}(h0:0<=d)(h1:d<nD s)(x:Int):ND (wS s d) x↔DpS s d x:=by
 rw[b3D,a8N (AV _) h0 h1];unfold DpS;constructor
 ·rintro(h|h|h)
  ·unfold vK at h;rw[Qn]at h;cases h
  ·exact .inl h
  ·exact .inr h
 ·rintro(h|h)
  ·exact .inr (.inl h)
  ·exact .inr (.inr h)
theorem a4k{s m:D6}{d:Int}(hr:∀x∈mbS s d,0<=x/\x<nD m)(x:Int):ND (wM s m d) x↔DpM s m d x:=by
 rw[b3D,a8M _ (AV _) hr];unfold DpM DpS;constructor
 ·rintro(h|h)
  ·unfold vK at h;rw[Qn]at h;cases h
  ·exact h
 ·exact λh=> .inr h
theorem UX{s:D6}{d x:Int} :x∈mbS s d↔inD (nD s) d=true/\∃r∈s.2.2.2.2,DpS s d r.2.1/\x∈EL r:=by
 unfold mbS;cases hq:inD (nD s) d
 ·simp
 ·rw[o7,rf,a5d];constructor
  ·rintro⟨r,hr,h1,h2⟩;exact⟨rfl,r,hr,(Ho _ _ _).1 (uX.1 h1),h2⟩
  ·rintro⟨_,r,hr,h1,h2⟩;exact⟨r,hr,uX.2 ((Ho _ _ _).2 h1),h2⟩
theorem DpS.trans{s:D6}{d x y:Int}(h:DpS s d x)(k:DpS s x y):DpS s d y:=by
 rcases k with rfl|k
 ·exact h
 ·obtain⟨_,t1,t2,_⟩:=vJ s d;obtain⟨_,_,_,u⟩:=vJ s x;refine .inr (u (λz=>z∈cu s d) (λz hz=>?_) (λz hz w hw=>t2 z hz w hw) y k);rcases h with rfl|h
  ·exact t1 z hz
  ·exact t2 x h z hz
theorem DpS.dir{s:D6}{d x y:Int}(h:DpS s d x)(k:y∈O0 s x):DpS s d y:=h.trans (.inr ((vJ s x).2.1 y k))
theorem DpS.bd{s:D6}{d x:Int}(h:DpS s d x)(h0:0<=d)(h1:d<nD s):0<=x/\x<nD s:=by
 rcases h with rfl|h
 ·exact⟨h0,h1⟩
 ·exact Ar h
theorem SK{n d:Int} :inD n d=true↔0<=d/\d<n:=by
 unfold inD;cases h:J6 0 d
 ·rw[Fz]at h;simp only[o6];constructor
  ·intro x;cases x
  ·intro x;omega
 ·rw[kR]at h;simp only[o7];rw[jC];omega
theorem DpM.up{s m:D6}{d x y:Int}(h0:0<=d)(h1:d<nD s)(h:DpS s d x)(k:DpM s m x y):DpM s m d y:=by obtain⟨z,hz,hy⟩:=k;obtain⟨_,r,hr,h2,h3⟩:=UX.1 hz;exact⟨z,UX.2 ⟨SK.2 ⟨h0,h1⟩,r,hr,h.trans h2,h3⟩,hy⟩
theorem DpM.bd{s m:D6}{d x:Int}(hr:∀x∈mbS s d,0<=x/\x<nD m)(h:DpM s m d x):0<=x/\x<nD m:=by obtain⟨z,hz,hx⟩:=h;exact hx.bd (hr z hz).1 (hr z hz).2
theorem Nk{s:D6}(h:VR s)(d:Int):SameR s s d:=by
 have key:∀(i:Nat) (r:aK),s.2.2.2.2[i]? =some r->EqR s s r r:=λi r hr=>by
  refine⟨rfl,rfl,rfl,?_⟩;rcases h.par hr with e|⟨p,q,e,_,hq,_⟩
  ·have:r.2.2.1=-1:=by rw[←e];unfold Ce;rw[hr]
   exact .inl ⟨this,this⟩
  ·have:r.2.2.1=(p:Int):=by rw[←e];unfold Ce;rw[hr]
   exact .inr ⟨p,p,q,q,this,this,hq,hq,rfl⟩
 exact⟨λi r hr _=>⟨i,r,hr,key i r hr⟩,λj q hq _=>⟨j,q,hq,key j q hq⟩⟩
structure EvC (l:Z7) (k:Int) (s:D6) (c:bP) (d:Int) (X:DB) (b:List DB):Prop where
 hL:SmL l
 hC:SmC c
 hT:∀t∈l.2.1,yQ t
 hs:H8 l.2.2 k=some s
 ha:(BJ l k c true d).1=0
 ev:NQ l s c (wS s d) (wM s (U0 l s) d)= .inl (X,b)
section
variable {l:Z7} {k:Int} {s:D6} {c:bP} {d:Int} {X:DB} {b:List DB} (h:EvC l k s c d X b)
include h
theorem EvC.hv:(kU l).1=0:=(PM h.ha).1
theorem EvC.dd:0<=d/\d<nD s:=ZY h.ha h.hs
theorem EvC.sm:SmS s:=h.hL.sc s (dW h.hs).2.2.1
theorem EvC.smm:SmS (U0 l s):=a0Y h.hL h.hv h.hs
theorem EvC.mb:∀x∈mbS s d,0<=x/\x<nD (U0 l s):=a3b h.hv (dW h.hs).2.2.2 d
theorem EvC.mb2(x:Int):∀y∈mbS s x,0<=y/\y<nD (U0 l s):=a3b h.hv (dW h.hs).2.2.2 x
theorem EvC.os:Sr s (lq s).1/\∀d,0<=d->d<nD s->d∈(lq s).1:=Vp h.sm (Nq h.hv (dW h.hs).2.2.2)
theorem EvC.om:Sr (U0 l s) (lq (U0 l s)).1/\∀d,0<=d->d<nD (U0 l s)->d∈(lq (U0 l s)).1:=Vp h.smm (a8K h.hv h.hs)
theorem EvC.refp{x:Int}(hx:DpS s d x):PH s (λy=>y∈O0 s x) (λy=>ND (wM s (U0 l s) d) y) x:=λr hr hd e he=>
 ⟨(GK h.hv (dW h.hs).2.2.2 x r hr hd e he).1,λy hy=>(a4k h.mb y).2 ⟨y,UX.2 ⟨SK.2 h.dd,r,hr,by rw[hd];exact hx,by
  unfold EL;rcases he with rfl|rfl
  ·exact G6 _ hy
  ·exact aU _ hy⟩,.inl rfl⟩⟩
theorem EvC.mS' :mS l c (U0 l s) (wM s (U0 l s) d)= .inl b/\scS s (xI l s c b) (-1) (wS s d)= .inl X:=by
 have he:=h.ev;unfold NQ at he;cases hb:mS l c (U0 l s) (wM s (U0 l s) d)with
 |inr e=>rw[hb]at he;cases he|inl b0=>
  rw[hb]at he;simp only at he;cases hx:scS s (xI l s c b0) (-1) (wS s d)with
  |inr e=>rw[hx]at he;cases he|inl X0=>rw[hx]at he;cases he;exact⟨rfl,hx⟩
theorem EvC.bl:b.length=c.2.2.length:=a8F h.mS'.1
theorem EvC.eo:EvOk (xI l s c b):=Vy h.hT s c (by have:=h.bl;have:=h.hC.nm;omega)
theorem EvC.fix{x:Int}(hx:DpS s d x):∃v r,H8 X.1 x=some v/\H8 X.2 x=some r/\xR s (xK (xI l s c b) X.1) (-1) x= .inl (v,r):=by have hb:=hx.bd h.dd.1 h.dd.2;exact Ut h.eo h.os.1 h.mS'.2 (h.os.2 x hb.1 hb.2) ((WV h.dd.1 h.dd.2 x).2 hx) (h.refp hx)
theorem EvC.mem{j:Nat}{v:List V3}(hj:c.2.2[j]? =some v):∃x,b[j]? =some x/\scS (U0 l s) (DN l c v) (j:Int) (wM s (U0 l s) d)= .inl x:=by obtain⟨Y,e1,e2,e3⟩:=b7c c.2.2.zipIdx [] b h.mS'.1;rw[J4]at e1;subst e1;exact e3 j (v,j) (by rw[xH,hj];simp)
theorem EvC.mfix{j:Nat}{v:List V3}(hj:c.2.2[j]? =some v){x:Int}(hx:DpM s (U0 l s) d x):∃D,b[j]? =some D/\scS (U0 l s) (DN l c v) (j:Int) (wM s (U0 l s) d)= .inl D/\∃w r,H8 D.1 x=some w/\H8 D.2 x=some r/\xR (U0 l s) (xK (DN l c v) D.1) (j:Int) x= .inl (w,r):=by obtain⟨D,h1,h2⟩:=h.mem hj;have hb:=hx.bd h.mb;exact⟨D,h1,h2,Ut (Oc h.hT c v) h.om.1 h2 (h.om.2 x hb.1 hb.2) ((a4k h.mb x).2 hx) (uy h.hv h.hs x)⟩
theorem EvC.two{x:Int}(hx:DpS s d x):Two s s (wS s d) (wS s x) (λy=>ND (wM s (U0 l s) x) y):=by
 have hb:=hx.bd h.dd.1 h.dd.2;have hk:=dW h.hs;refine⟨rfl,b3q h.hv hk.2.2.1,b3q h.hv hk.2.2.1,h.os,h.os,λy hy=>?_⟩;have hy' :=(WV hb.1 hb.2 y).1 hy;have hr:PH s (λz=>z∈O0 s y) (λz=>ND (wM s (U0 l s) x) z) y:=λr hr hd e he=>
  ⟨(GK h.hv hk.2.2.2 y r hr hd e he).1,λz hz=>(a4k (h.mb2 x) z).2 ⟨z,UX.2 ⟨SK.2 hb,r,hr,by rw[hd];exact hy',by
   unfold EL;rcases he with rfl|rfl
   ·exact G6 _ hz
   ·exact aU _ hz⟩,.inl rfl⟩⟩
 exact⟨hy'.bd hb.1 hb.2,(WV h.dd.1 h.dd.2 y).2 (hx.trans hy'),Nk (b3q h.hv hk.2.2.1) y,λz hz=>(WV hb.1 hb.2 z).2 (hy'.dir hz),hr,hr⟩
theorem EvC.twoM{x:Int}(hx:DpS s d x):Two (U0 l s) (U0 l s) (wM s (U0 l s) d) (wM s (U0 l s) x) (λ_=>False):=by refine⟨rfl,Yo h.hv h.hs,Yo h.hv h.hs,h.om,h.om,λy hy=>?_⟩;have hy' :=(a4k (h.mb2 x) y).1 hy;refine⟨hy'.bd (h.mb2 x),(a4k h.mb y).2 (hy'.up h.dd.1 h.dd.2 hx),Nk (Yo h.hv h.hs) y,λz hz=>(a4k (h.mb2 x) z).2 ?_,uy h.hv h.hs y,uy h.hv h.hs y⟩;obtain⟨w,hw,hyw⟩:=hy';exact⟨w,hw,hyw.dir hz⟩
theorem EvC.at{x:Int}(hx:DpS s d x):∃v r,H8 X.1 x=some v/\H8 X.2 x=some r/\a2L l s c x=(v,r,0,0,0,0)/\xR s (xK (xI l s c b) X.1) (-1) x= .inl (v,r):=by
 have hb:=hx.bd h.dd.1 h.dd.2;obtain⟨v,r,f1,f2,f3⟩:=h.fix hx;obtain⟨m1,m2⟩:=h.mS';obtain⟨b',g1,g2,g3⟩:=b7d rfl h.hT (h.twoM hx) c.2.2.zipIdx [] [] b ⟨rfl,λ_ _=>rfl⟩ m1;have hE:SimE (λz=>ND (wM s (U0 l s) x) z) (xI l s c b) (xI l s c b'):=by refine⟨rfl,rfl,rfl,by simp[xI,g2],λz hz=>?_⟩;have:=g3 z hz;simp only[xI,qZ];exact this
 have hbl:=h.bl;have hcm:=h.hC.nm;have hb' :EvOk (xI l s c b'):=Vy h.hT s c l7;obtain⟨Y,y1,y2⟩:=b5b (h.two hx) hE h.eo hb' m2;have hself:DpS s x x:=.inl rfl;have hnx:=(WV hb.1 hb.2 x).2 hself;have hrx:PH s (λz=>z∈O0 s x) (λz=>ND (wM s (U0 l s) x) z) x:=(h.two hx).at' x hnx |>.2.2.2.2.1;obtain⟨v',r',f1',f2',f3'⟩:=Ut hb' h.os.1 y1 (h.os.2 x hb.1 hb.2) hnx hrx;have hsim:=NL (s:=s) (hE.at (P:=λz=>z∈O0 s x) (D:=X.1) (D' :=Y.1) (by rw[(Ie m2).1,(Ie y1).1]) (λz hz=>(y2 z ((WV hb.1 hb.2 z).2 (hself.dir hz))).symm)) (Bq h.eo _) (Bq hb' _) hrx (-1);rw[f3,f3']at hsim;cases hsim;refine⟨v,r,f1,f2,?_,f3⟩;unfold a2L NQ;rw[show mS l c (U0 l s) (DT (U0 l s) (vK (U0 l s).2.2.2.1.length) (mbS s x))= .inl b' from g1];simp only;rw[show scS s (xI l s c b') (-1) (IU s (vK s.2.2.2.1.length) x)= .inl Y from y1];have e1:Y.1.getD x.toNat (0,0,0)=v:=by unfold H8 at f1';rw[if_pos hb.1]at f1';rw[rZ,f1'];rfl
 have e2:Y.2.getD x.toNat 0=r:=by unfold H8 at f2';rw[if_pos hb.1]at f2';rw[rZ,f2'];rfl
 show(Y.1.getD x.toNat (0,0,0),Y.2.getD x.toNat 0,(0:Int),(0:Int),(0:Int),(0:Int))=_;rw[e1,e2]
end
end
section
theorem Qb{α β ρ ρ' :Type}{G:β->α->β⊕ρ}{H:β->α->β⊕ρ'}(hG:∀b a b',G b a= .inl b' ->H b a= .inl b'):∀(l:List α) (b r:β),aG G l b= .inl r->aG H l b= .inl r
 |[],b,r,h=>by cases h;rfl|a::l,b,r,h=>by
  unfold aG at h ⊢;cases hg:G b a with
  |inr e=>rw[hg]at h;cases h|inl b' =>rw[hg]at h;rw[hG b a b' hg];exact Qb hG l b' r h
theorem b4I{s:D6}{env:aP}{m d:Int}(m' :Int)(b:List Bool)(i:Int)(b' :List Bool)(h:Cb s env m d b i= .inl b'):Cb s env m' d b i= .inl b' :=by
 unfold Cb at h ⊢;cases hr:H8 s.2.2.2.2 i with
 |none=>rw[hr]at h;cases h;rfl|some r=>
  rw[hr]at h;simp only at h ⊢;cases h1:o8 (x8 r.2.2.2.2.2.1) 0<;>rw[h1]at h
  ·cases h2:o8 (uU r.2.2.2.2.2.1 env).2 0<;>rw[h2]at h
   ·cases h
   ·exact h
  ·exact h
theorem a7Q{s:D6}{env:aP}{m d:Int}(m' :Int)(h:(V9 s env m d).2.1=0):V9 s env m' d=V9 s env m d:=by
 unfold V9 at h ⊢;cases hf:aG (Cb s env m d) (bg s d env.1).1 []with
 |inr e=>rw[hf]at h;exact absurd h (vz (Cb s env m d) (λr=>r.2.1≠0) NT _ _ _ hf)|inl ap=>rw[Qb (b4I m') _ _ _ hf]
theorem b4D{s:D6}{env:aP}{m d:Int}(m' :Int){v:V3×Int}(h:xR s env m d= .inl v):xR s env m' d= .inl v:=by
 unfold xR at h ⊢;cases h0:o8 (V9 s env m d).2.1 0<;>rw[h0]at h
 ·cases h
 rw[a7Q m' (O5.1 h0),h0];cases h1:o8 (V9 s env m d).1 (-1)<;>rw[h1]at h
 case true=>cases h
 cases h2:o8 (V9 s env m d).1 (-2)<;>rw[h2]at h
 case true=>cases h
 simp only[o7,o6]at h ⊢;cases hl:H8 s.2.2.2.2 (V9 s env m d).1 with
 |none=>rw[hl]at h;cases h|some q=>
  rw[hl]at h;simp only at h ⊢;cases h4:o8 (uU q.2.2.2.2.2.2.1 env).2 0<;>rw[h4]at h
  ·cases h
  ·exact h
theorem c0p{s:D6}{env:aP}{m:Int}{need:List Bool}(m' :Int){X:DB}(h:scS s env m need= .inl X):scS s env m' need= .inl X:=by
 unfold scS at h ⊢;refine Qb (λb a b' hg=>?_) _ _ _ h;unfold scG at hg ⊢;cases hn:(H8 need a).getD false<;>rw[hn]at hg
 ·exact hg
 simp only[o7]at hg ⊢;cases hd:xR s (xK env b.1) m a with
 |inr e=>rw[hd]at hg;cases hg|inl v=>rw[hd]at hg;rw[b4D m' hd];exact hg
theorem Md{l:Z7}{k:Int}{c:bP}{d:Int}(h:(BJ l k c true d).1=0):(BJ l k c false 0).1=0:=by
 unfold BJ at h ⊢;cases h0:o8 (kU l).1 0<;>rw[h0]at h
 ·exact h
 cases hs:H8 l.2.2 k with
 |none=>rw[hs]at h;exact h|some s=>
  rw[hs]at h;simp only[o7,o6]at h ⊢;cases h1:(l9 (D9 d 0) true (J6 (x8 s.2.2.2.1) d))<;>rw[h1]at h
  ·exact h
  ·exact absurd (show(6:Int)=0 from h) G7
theorem Xd{l:Z7}{k:Int}{c:bP}{d:Int}(h:(BJ l k c true d).1=0):(DC l k c).2.2=0:=by
 have h:=Md h;unfold BJ at h;cases h0:o8 (kU l).1 0<;>rw[h0]at h
 ·exact absurd (show(1:Int)=0 from h) G7
 cases hs:H8 l.2.2 k with
 |none=>rw[hs]at h;exact absurd (show(6:Int)=0 from h) G7|some s=>
  rw[hs]at h;simp only[o7,o6]at h;cases h1:o8 (DC l k c).2.2 0<;>rw[h1]at h
  ·simp only[o6]at h;exact h
  ·exact O5.1 h1
theorem TT{l:Z7}{k:Int}{s:D6}{c:bP}(h1:(DC l k c).2.2=0)(hs:H8 l.2.2 k=some s):D9 c.1 0=false/\D9 109572 c.1=false/\(BV l.1 s.2.2.1 c.2.1).2=0/\D9 (nH l s).2 (x8 c.2.2)=false/\∀i,i<c.2.2.length->YU l.1 (nH l s).1 c.2.2 i=none:=by
 unfold DC at h1;rw[hs]at h1;simp only at h1;cases g1:D9 c.1 0<;>rw[g1]at h1
 case true=>exact absurd (show(3:Int)=0 from h1) G7
 cases g2:D9 109572 c.1<;>rw[g2]at h1
 case true=>exact absurd (show(3:Int)=0 from h1) G7
 cases g3:o8 (BV l.1 s.2.2.1 c.2.1).2 0<;>rw[g3]at h1
 ·simp only[o6]at h1;rw[O8 h1]at g3;cases g3
 have g3:=O5.1 g3;cases g4:D9 (nH l s).2 (x8 c.2.2)<;>rw[g4]at h1
 case true=>exact absurd (show(4:Int)=0 from h1) G7
 simp only[o6,o7]at h1;refine⟨rfl,rfl,g3,rfl,xm ?_⟩;cases hf:bD c.2.2.length (YU l.1 (nH l s).1 c.2.2)with
 |none=>rfl|some r=>
  exfalso;rw[hf]at h1;simp only at h1;unfold bD at hf;obtain⟨i,hi,hp⟩:=List.exists_of_findSome?_eq_some hf;unfold YU at hp;cases hv:c.2.2[i]? with
  |none=>rw[hv]at hp;cases hp|some vs=>
   rw[hv]at hp;simp only at hp;cases hq:o8 (BV l.1 (nH l s).1 vs).2 0<;>rw[hq]at hp
   ·cases hp;rw[O8 h1]at hq;cases hq
   ·cases hp
theorem a8I{l:Z7}{s:D6}{c:bP}{j:Nat}{v:List V3}(h:∀i,i<c.2.2.length->YU l.1 (nH l s).1 c.2.2 i=none)(hj:c.2.2[j]? =some v):(BV l.1 (nH l s).1 v).2=0:=by
 have:=h j (Z4.1 hj).1;unfold YU at this;rw[hj]at this;simp only at this;cases hq:o8 (BV l.1 (nH l s).1 v).2 0<;>rw[hq]at this
 ·cases this
 ·exact O5.1 hq
theorem a2i{en:List kW}{fs:List lL}{vs:List Y2}(h:(BV en fs vs).2=0):vs.length=fs.length:=by
 unfold BV at h;cases h1:D9 (x8 vs) (x8 fs)<;>rw[h1]at h
 case true=>exact absurd (show(5:Int)=0 from h) G7
 cases h2:D9 (x8 fs) (x8 vs)<;>rw[h2]at h
 case true=>exact absurd (show(4:Int)=0 from h) G7
 rw[iL]at h1 h2;simp only[x8]at h1 h2;omega
section
variable {l:Z7} {k:Int} {s:D6} {c:bP} {d:Int} {X:DB} {b:List DB} (h:EvC l k s c d X b)
include h
theorem EvC.scm{j:Nat}{v:List V3}(hj:c.2.2[j]? =some v):H8 l.2.2 s.2.1=some (U0 l s)/\0<=s.2.1/\(U0 l s).2.1=-1/\U0 l (U0 l s)=vV:=by
 rcases zC h.hv h.hs with⟨_,g,_⟩|⟨g1,g2,g3,g,_⟩
 ·have:=a5W (Md h.ha) h.hs (jC.1 g);rw[this]at hj;cases hj
 ·have hm:=QR h.hv (dW h.hs).2.2.2;unfold FC at hm;have hne:o8 s.2.1 (-1)=false:=L9 (by rw[kR]at g1;omega);rw[hne,g2,g]at hm;simp only[o6]at hm;have hm1:(U0 l s).2.1=-1:=by
   cases hq:J6 (((k.toNat:Nat)):Int) s.2.1<;>rw[hq]at hm
   case true=>cases hm
   cases hq2:o8 (U0 l s).2.1 (-1)<;>rw[hq2]at hm
   ·cases hm
   ·exact O5.1 hq2
  exact⟨g,kR.1 g1,hm1,XO l s hm1⟩
theorem EvC.argm{j:Nat}{v:List V3}(hj:c.2.2[j]? =some v){x:Int}(h0:0<=x)(h1:x<nD (U0 l s)):(BJ l s.2.1 (c.1,v,[]) true x).1=0:=by
 obtain⟨e1,e2,e3,e4⟩:=h.scm hj;obtain⟨p1,p2,p3,p4,p5⟩:=TT (Xd h.ha) h.hs;have hmi:nH l s=((U0 l s).2.2.1,8):=by unfold nH;rw[e1]
 have pv:=a8I p5 hj;rw[hmi]at pv;have hc:(DC l s.2.1 (c.1,v,[])).2.2=0:=by
  unfold DC;rw[e1];simp only;rw[p1,p2,show o8 (BV l.1 (U0 l s).2.2.1 v).2 0=true from O8 pv];simp only[o6,o7];have hz:D9 (nH l (U0 l s)).2 (x8 ([]:List (List V3)))=false:=by
   unfold nH;rw[e3];have hn:H8 l.2.2 (-1)=none:=by unfold H8;rw[if_neg l7]
   rw[hn];rfl
  rw[hz];rfl
 unfold BJ;rw[O8 h.hv,e1];simp only[o7];rw[L6 h0,show J6 (x8 (U0 l s).2.2.2.1) x=false from Y1 h1];simp only[o6];rw[O8 hc];rfl
theorem EvC.two2{x:Int}(hx:DpM s (U0 l s) d x):Two (U0 l s) (U0 l s) (wM s (U0 l s) d) (wS (U0 l s) x) (λ_=>False):=by have hb:=hx.bd h.mb;refine⟨rfl,Yo h.hv h.hs,Yo h.hv h.hs,h.om,h.om,λy hy=>?_⟩;have hy' :=(WV hb.1 hb.2 y).1 hy;refine⟨hy'.bd hb.1 hb.2,(a4k h.mb y).2 ?_,Nk (Yo h.hv h.hs) y,λz hz=>(WV hb.1 hb.2 z).2 (hy'.dir hz),uy h.hv h.hs y,uy h.hv h.hs y⟩;obtain⟨z,hz,hxz⟩:=hx;exact⟨z,hz,hxz.trans hy'⟩
theorem EvC.mat{j:Nat}{v:List V3}(hj:c.2.2[j]? =some v){x:Int}(hx:DpM s (U0 l s) d x):∃D,b[j]? =some D/\∃w r,H8 D.1 x=some w/\H8 D.2 x=some r/\a2L l (U0 l s) (c.1,v,[]) x=(w,r,0,0,0,0)/\xR (U0 l s) (xK (DN l c v) D.1) (j:Int) x= .inl (w,r):=by
 have hb:=hx.bd h.mb;obtain⟨e1,e2,e3,e4⟩:=h.scm hj;obtain⟨D,h1,h2,w,r,f1,f2,f3⟩:=h.mfix hj hx;refine⟨D,h1,w,r,f1,f2,?_,f3⟩;have hE:SimE (λ_=>False) (DN l c v) (DN l c v):=⟨rfl,rfl,rfl,rfl,λ_ _=>rfl⟩;have hev:=Oc h.hT c v;obtain⟨Y,y1,y2⟩:=b5b (h.two2 hx) hE hev hev h2;have hself:DpS (U0 l s) x x:=.inl rfl;have hnx:=(WV hb.1 hb.2 x).2 hself;obtain⟨w',r',f1',f2',f3'⟩:=Ut hev h.om.1 y1 (h.om.2 x hb.1 hb.2) hnx (uy h.hv h.hs x);have hsim:=NL (s:=U0 l s) (hE.at (P:=λz=>z∈O0 (U0 l s) x) (D:=D.1) (D' :=Y.1) (by rw[(Ie h2).1,(Ie y1).1]) (λz hz=>(y2 z ((WV hb.1 hb.2 z).2 (hself.dir hz))).symm)) (Bq hev _) (Bq hev _) (uy h.hv h.hs x) (j:Int);rw[f3,f3']at hsim;cases hsim;unfold a2L NQ;rw[show mS l (c.1,v,[]) (U0 l (U0 l s)) (DT (U0 l (U0 l s)) (vK (U0 l (U0 l s)).2.2.2.1.length) (mbS (U0 l s) x))= .inl []from rfl];simp only;have henv:xI l (U0 l s) (c.1,v,[]) []=DN l c v:=by unfold xI DN;rw[e4];rfl
 rw[henv,show scS (U0 l s) (DN l c v) (-1) (IU (U0 l s) (vK (U0 l s).2.2.2.1.length) x)= .inl Y from c0p (-1) y1];have q1:Y.1.getD x.toNat (0,0,0)=w:=by unfold H8 at f1';rw[if_pos hb.1]at f1';rw[rZ,f1'];rfl
 have q2:Y.2.getD x.toNat 0=r:=by unfold H8 at f2';rw[if_pos hb.1]at f2';rw[rZ,f2'];rfl
 show(Y.1.getD x.toNat (0,0,0),Y.2.getD x.toNat 0,(0:Int),(0:Int),(0:Int),(0:Int))=_;rw[q1,q2]
theorem EvC.args{x:Int}(hx:DpS s d x):(BJ l k c true x).1=0:=by have hb:=hx.bd h.dd.1 h.dd.2;exact a5R (Md h.ha) h.hs hb.1 hb.2
end
end
section
theorem a3y{k N:Int}{ops:List (Int×Int)}{sg:J5}(hk:fE k=some true)(h:(Gn (k,N) ops sg).2=0):((RR (k,N) ops sg).getD ((0,0),0)).2=0:=by
 unfold Gn at h;rw[b1V]at h;revert h;cases E9 (o8 N 0)
 ·exact id
 ·rw[show fE (k,N).1=some true from hk];exact id
theorem a6Y{N:Int}{ops:List (Int×Int)}{sg:J5}(h:(Gn (7,N) ops sg).2=0):0<=N/\N<x8 sg.2.2.1:=by
 have h:=a3y rfl h;have hf:rH (7,N) sg=l9 (J6 0 N) (some (D9 N (x8 sg.2.2.1))) (some false):=rfl;unfold RR at h;rw[hf,show mV (7,N) sg=some true from rfl]at h;cases h1:J6 0 N<;>rw[h1]at h
 ·exact absurd (show(6:Int)=0 from h) G7
 cases h2:D9 N (x8 sg.2.2.1)<;>rw[h2]at h
 ·exact absurd (show(6:Int)=0 from h) G7
 exact⟨kR.1 h1,jC.1 h2⟩
theorem b0f{N:Int}{ops:List (Int×Int)}{sg:J5}(h:(Gn (33,N) ops sg).2=0):0<=N:=by
 have h:=a3y rfl h;have hf:rH (33,N) sg=l9 (J6 0 N) (some (D9 N (x8 sg.2.1))) (some false):=rfl;unfold RR at h;rw[hf,show mV (33,N) sg=some true from rfl]at h;cases h1:J6 0 N<;>rw[h1]at h
 ·exact absurd (show(6:Int)=0 from h) G7
 exact kR.1 h1
theorem b2K{N:Int}{ops:List (Int×Int)}{sg:J5}(h:(Gn (34,N) ops sg).2=0):0<=N:=by
 have h:=a3y rfl h;have hf:mV (34,N) sg=l9 (J6 0 N) (some (J6 (cZ N 8) 5)) (some false):=rfl;unfold RR at h;rw[hf]at h;cases h1:J6 0 N<;>rw[h1]at h
 ·exact absurd (show(3:Int)=0 from h) G7
 exact kR.1 h1
theorem KJ{sg:J5}{n:Int×Int}{ops:List (Int×Int)}{i:Nat}{t:Int×Int}(h:Cm sg n ops i= .inr t):(Gn n ops sg).2=0:=by
 unfold Cm at h;split at h
 ·assumption
 ·cases h
theorem Ej{sg:J5} :∀(t:XT) (o:Nat) {r:Int×Int},gK sg t o= .inr r->∀n∈t.post,∃ops,(Gn n ops sg).2=0
 | .l0 n,o,r,h,x,hx=>by unfold XT.post at hx;rw[D8.1 hx];unfold gK at h;exact⟨_,KJ h⟩| .l1 n a,o,r,h,x,hx=>by
  unfold XT.post at hx;unfold gK at h;cases ha:gK sg a o with
  |inl e=>rw[ha]at h;cases h|inr ta=>
   rw[ha]at h;rcases A8.1 hx with hx|hx
   ·exact Ej a o ha x hx
   ·rw[D8.1 hx];exact⟨_,KJ h⟩
 | .l2 n a b,o,r,h,x,hx=>by
  unfold XT.post at hx;unfold gK at h;cases ha:gK sg a o with
  |inl e=>rw[ha]at h;cases h|inr ta=>
   rw[ha]at h;simp only at h;cases hb:gK sg b (o+a.size)with
   |inl e=>rw[hb]at h;cases h|inr tb=>
    rw[hb]at h;rcases A8.1 hx with hx|hx
    ·rcases A8.1 hx with hx|hx
     ·exact Ej a o ha x hx
     ·exact Ej b _ hb x hx
    ·rw[D8.1 hx];exact⟨_,KJ h⟩
 | .l3 n a b c,o,r,h,x,hx=>by
  unfold XT.post at hx;unfold gK at h;cases ha:gK sg a o with
  |inl e=>rw[ha]at h;cases h|inr ta=>
   rw[ha]at h;simp only at h;cases hb:gK sg b (o+a.size)with
   |inl e=>rw[hb]at h;cases h|inr tb=>
    rw[hb]at h;simp only at h;cases hc:gK sg c (o+a.size+b.size)with
    |inl e=>rw[hc]at h;cases h|inr tc=>
     rw[hc]at h;rcases A8.1 hx with hx|hx
     ·rcases A8.1 hx with hx|hx
      ·rcases A8.1 hx with hx|hx
       ·exact Ej a o ha x hx
       ·exact Ej b _ hb x hx
      ·exact Ej c _ hc x hx
     ·rw[D8.1 hx];exact⟨_,KJ h⟩
theorem Wj{e:List (Int×Int)}{sg:J5}(h:(pg e sg).2.2=0):∀n∈e,∃ops,(Gn n ops sg).2=0:=by
 unfold pg at h;cases hs:oV e with
 |inl x=>rw[hs]at h;exact absurd h (Fa hs)|inr t=>
  rw[hs]at h;simp only at h;cases ht:gK sg t 0 with
  |inl x=>rw[ht]at h;exact absurd h (zB t 0 ht)|inr r=>intro n hn;rw[(BU hs).1]at hn;exact Ej t 0 ht n hn
def JH(r:aK):List E8:=r.2.2.2.2.2.1++r.2.2.2.2.2.2.1
theorem b0l{l:Z7}(h:(kU l).1=0){i:Nat}{s:D6}(hs:l.2.2[i]? =some s){r:aK}(hr:r∈s.2.2.2.2):∀n∈JH r,∃ops,(Gn n ops (FI l s)).2=0:=by
 obtain⟨h1,d,h2,h3⟩:=JU h hs hr;intro n hn;rcases A8.1 hn with hn|hn
 ·rcases h1 with h1|h1
  ·rw[h1]at hn;cases hn
  ·exact Wj (by rw[Lc h1]) n hn
 ·exact Wj (by rw[Lc h3]) n hn
def VD(n:E8):Option E8:=
 l9 (o8 n.1 7) (some (0,n.2)) (l9 (o8 n.1 8) (some (1,n.2)) (l9 (o8 n.1 9) (some (2,0)) (l9 (o8 n.1 33) (some (3,n.2)) (l9 (o8 n.1 34) (some (3,bQ .i64 n.2 8)) (l9 (isM n.1) (some (4,n.2)) none)))))
theorem a9Z{n r:E8}(h:VD n=some r):(n.1=7/\r=(0,n.2))\/(n.1=8/\r=(1,n.2))\/(n.1=9/\r=(2,0))\/(n.1=33/\r=(3,n.2))\/(n.1=34/\r=(3,bQ .i64 n.2 8))\/(isM n.1=true/\r=(4,n.2)):=by
 unfold VD at h;cases h1:o8 n.1 7<;>rw[h1]at h
 case true=>cases h;exact .inl ⟨O5.1 h1,rfl⟩
 cases h2:o8 n.1 8<;>rw[h2]at h
 case true=>cases h;exact .inr (.inl ⟨O5.1 h2,rfl⟩)
 cases h3:o8 n.1 9<;>rw[h3]at h
 case true=>cases h;exact .inr (.inr (.inl ⟨O5.1 h3,rfl⟩))
 cases h4:o8 n.1 33<;>rw[h4]at h
 case true=>cases h;exact .inr (.inr (.inr (.inl ⟨O5.1 h4,rfl⟩)))
 cases h5:o8 n.1 34<;>rw[h5]at h
 case true=>cases h;exact .inr (.inr (.inr (.inr (.inl ⟨O5.1 h5,rfl⟩))))
 cases h6:isM n.1<;>rw[h6]at h
 ·cases h
 ·cases h;exact .inr (.inr (.inr (.inr (.inr ⟨rfl,rfl⟩))))
def adR(l:List E8)(n:E8):List E8:=match VD n with|none=>l|some r=>l9 (l.any λx=>kq r x) l (l++[r])
def Le(l:List E8)(q:aK):List E8:=(JH q).foldl adR l
theorem a2A{l:List E8}(r:E8)(h:l.length<=1000000):Z5 l r=some (l.any λx=>kq r x):=by unfold Z5 eH;refine xw l (λx=>kq r x) h (λi a ha=>?_) (by rw[W9];rfl);rw[X3 ha,o7,J9,ha,o9];show l9 (kq r a) _ _=_;cases kq r a<;>rfl
theorem a7z{l:List E8}(n:E8)(h:l.length<=1000000):mZ l n=some (adR l n):=by
 have tail:∀r:E8,(o5 (Z5 l r) λ(x_1:Bool)=>l9 x_1 (some l) (o5 (mM l [r]) λ(x:List E8)=>some x))=some (l9 (l.any λx=>kq r x) l (l++[r])):=λr=>by rw[a2A r h,o9,Hg az,o9];cases l.any λx=>kq r x<;>rfl
 unfold mZ adR VD;cases o8 n.1 7
 case true=>exact tail _
 cases o8 n.1 8
 case true=>exact tail _
 cases o8 n.1 9
 case true=>exact tail _
 cases o8 n.1 33
 case true=>exact tail _
 cases o8 n.1 34
 case true=>exact tail _
 simp only[o6];rw[a8r];cases o8 n.1 36
 case true=>exact tail _
 cases o8 n.1 37
 case true=>exact tail _
 cases o8 n.1 38
 case true=>exact tail _
 cases o8 n.1 39
 case true=>exact tail _
 rfl
theorem Yu(l:List E8)(n:E8):(adR l n).length<=l.length+1:=by
 unfold adR;cases VD n with
 |none=>simp|some r=>
  simp only;cases l.any λx=>kq r x
  ·simp
  ·simp
theorem a4u:∀(ns l:List E8),(ns.foldl adR l).length<=l.length+ns.length
 |[],l=>by simp|n::ns,l=>by have:=a4u ns (adR l n);have:=Yu l n;rw[aH,G5];omega
theorem a4v{l:List E8}(q:aK)(h:l.length<=500000)(h1:q.2.2.2.2.2.1.length<=50)(h2:q.2.2.2.2.2.2.1.length<=50):jH l q=some (Le l q):=by
 unfold jH;refine yX q.2.2.2.2.2.1 adR (λb i=>(b,i)) (λb=>b) (λi b=>b.length<=l.length+i) l l7 A7 (λi a b ha hi hI=>?_) (λb hI=>by rw[W9];rfl) (λhI=>?_)
 ·simp only[X3 ha,o7,J9,ha,o9];have hi2:=(Z4.1 ha).1;rw[a7z a l7,o9,fP l7];exact⟨rfl,by have:=Yu b a;omega⟩
 ·refine yX q.2.2.2.2.2.2.1 adR (λb i=>(b,i)) (λb=>b) (λi b=>b.length<=l.length+50+i) _ l7 l7 (λi a b ha hi hI=>?_) (λb hI=>by rw[W9];rfl) (λhI2=>?_)
  ·simp only[X3 ha,o7,J9,ha,o9];have hi2:=(Z4.1 ha).1;rw[a7z a l7,o9,fP l7];exact⟨rfl,by have:=Yu b a;omega⟩
  ·unfold Le JH;rw[dG]
theorem TC(l:List E8)(q:aK)(h1:q.2.2.2.2.2.1.length<=50)(h2:q.2.2.2.2.2.2.1.length<=50):(Le l q).length<=l.length+100:=by have:=a4u (JH q) l;unfold Le;unfold JH at this ⊢;rw[F5]at this;omega
theorem a5c{r:E8} :∀(ns l:List E8),r∈ns.foldl adR l↔r∈l\/∃n∈ns,VD n=some r
 |[],l=>by simp|n::ns,l=>by
  rw[aH,a5c ns];have hm:r∈adR l n↔r∈l\/VD n=some r:=by
   unfold adR;cases hn:VD n with
   |none=>simp|some q=>
    simp only;cases ha:l.any λx=>kq q x
    ·simp only[o6];rw[A8,D8];constructor
     ·rintro(h|h)
      ·exact .inl h
      ·exact .inr (by rw[h])
     ·rintro(h|h)
      ·exact .inl h
      ·exact .inr (V6 h).symm
    ·simp only[o7];obtain⟨x,hx,hq⟩:=fQ.1 ha;have:=(Qi q x).1 hq;subst this;constructor
     ·exact .inl
     ·rintro(h|h)
      ·exact h
      ·cases h;exact hx
  rw[hm];constructor
  ·rintro((h|h)|⟨m,h1,h2⟩)
   ·exact .inl h
   ·exact .inr ⟨n,A7,h⟩
   ·exact .inr ⟨m,by simp[h1],h2⟩
  ·rintro(h|⟨m,h1,h2⟩)
   ·exact .inl (.inl h)
   ·rcases C9.1 h1 with rfl|h1
    ·exact .inl (.inr h2)
    ·exact .inr ⟨m,h1,h2⟩
theorem a0Z{l:List E8}{q:aK}{r:E8} :r∈Le l q↔r∈l\/∃n∈JH q,VD n=some r:=a5c _ _
def evI(l:Z7)(k:Int)(c:bP)(d:Int):V3×Int×E4:=if(BJ l k c true d).1=0 then(match H8 l.2.2 k with|some s=>a2L l s c d|none=>((0,0,0),0,0,0,0,0))else((0,0,0),0,BJ l k c true d)
theorem PY{l:Z7}{k:Int}{c:bP}{d:Int}(hL:SmL l)(hC:SmC c)(hT:∀t∈l.2.1,yQ t):jO l k c d=some (evI l k c d):=a2K hL hC hT
section
variable (l:Z7) (k:Int) (s:D6) (c:bP)
def DI(m:Int):List V3:=l9 (J6 0 m) ((H8 c.2.2 m).getD []) c.2.1
def evM(m x:Int):V3×Int×E4:=l9 (J6 0 m) (evI l s.2.1 (c.1,DI c m,[]) x) (evI l k c x)
def scM(m:Int):D6:=l9 (J6 0 m) (U0 l s) s
def b2u:aK:=([],0,0,0,(0,0),[],[],[])
def OY(m x:Int):aK:=(H8 (scM l s m).2.2.2.2 (evM l k s c m x).2.1).getD b2u
def Aw(m x:Int):List E8:=l9 (J6 0 m) ((List.range c.2.2.length).foldl (λacc (j:Nat)=>Le acc (OY l k s c (j:Int) x)) []) (Le [] (OY l k s c m x))
abbrev Nd:Type:=G8
def RV(acc:List Nd)(m x:Int):Bool:=acc.any λy=>o8 y.1 1&&o8 y.2.2.1 m&&o8 y.2.2.2.1 x
def chT(rec:List Nd->Int->Int->Int->List Nd)(acc:List Nd)(m:Int)(r:E8)(dep:Int):List Nd:=
 l9 (o8 r.1 0) (acc++[(2,dep,m,r.2,-1,(H8 (DI c m) r.2).getD (0,0,0))])
 (l9 (o8 r.1 1) (rec acc m r.2 dep)
 (l9 (o8 r.1 2) (acc++[(4,dep,m,r.2,-1,5,0,c.1)])
 (l9 (o8 r.1 3) (acc++[(3,dep,m,r.2,-1,0,0,0)])
 ((List.range c.2.2.length).foldl (λacc (j:Nat)=>rec acc (j:Int) r.2 dep) acc))))
def ndD(m x dep:Int):Nd:=(1,dep,m,x,(evM l k s c m x).2.1,(evM l k s c m x).1)
def ndR(m x dep:Int):Nd:=(5,dep,m,x,-1,(evM l k s c m x).1)
def Ij:Nat->List Nd->Int->Int->Int->List Nd
 |0,acc,_,_,_=>acc|n+1,acc,m,x,dep=>l9 (RV acc m x) (acc++[ndR l k s c m x dep])
   ((Aw l k s c m x).foldl (λacc r=>chT c (λa m x d=>Ij n a m x d) acc m r (dep+1)) (acc++[ndD l k s c m x dep]))
end
def Gd(l:Z7)(s:D6)(c:bP)(d m x:Int):Prop:=(m=-1/\DpS s d x)\/∃(j:Nat) (v:List V3),m=(j:Int)/\c.2.2[j]? =some v/\DpM s (U0 l s) d x
def rkM(l:Z7)(s:D6)(m x:Int):Nat:=l9 (J6 0 m) (cu (U0 l s) x).length (15+(cu s x).length)
theorem nX(j:Nat):J6 0 (j:Int)=true:=X5 l7
theorem YN{α:Type}{l:List α}{j:Nat}{v:α}(h:l[j]? =some v):H8 l (j:Int)=some v:=by rw[J9];exact h
section
variable {l:Z7} {k:Int} {s:D6} {c:bP} {d:Int} {X:DB} {b:List DB} (h:EvC l k s c d X b)
include h
theorem EvC.evS{x:Int}(hx:DpS s d x):∃v r,H8 X.1 x=some v/\H8 X.2 x=some r/\evM l k s c (-1) x=(v,r,0,0,0,0)/\xR s (xK (xI l s c b) X.1) (-1) x= .inl (v,r):=by obtain⟨v,r,h1,h2,h3,h4⟩:=h.at hx;refine⟨v,r,h1,h2,?_,h4⟩;unfold evM evI;rw[show J6 0 (-1:Int)=false from rfl,o6,if_pos (h.args hx),h.hs];exact h3
theorem EvC.evMm{j:Nat}{v:List V3}(hj:c.2.2[j]? =some v){x:Int}(hx:DpM s (U0 l s) d x):∃D,b[j]? =some D/\∃w r,H8 D.1 x=some w/\H8 D.2 x=some r/\evM l k s c (j:Int) x=(w,r,0,0,0,0)/\xR (U0 l s) (xK (DN l c v) D.1) (j:Int) x= .inl (w,r):=by
 obtain⟨D,h0,w,r,h1,h2,h3,h4⟩:=h.mat hj hx;refine⟨D,h0,w,r,h1,h2,?_,h4⟩;have hb:=hx.bd h.mb;have hi:DI c (j:Int)=v:=by unfold DI;rw[nX,o7,YN hj];rfl
 unfold evM evI;rw[nX,o7,hi,if_pos (h.argm hj hb.1 hb.2),(h.scm hj).1];exact h3
theorem EvC.met{m x:Int}(hg:Gd l s c d m x):∃v r q,evM l k s c m x=(v,r,0,0,0,0)/\0<=r/\H8 (scM l s m).2.2.2.2 r=some q/\q∈(scM l s m).2.2.2.2/\q.2.1=x/\OY l k s c m x=q:=by
 have key:∀(sc:D6) (env:aP) (i:Int) (v:V3) (r:Int),xR sc env i x= .inl (v,r)->∃q,0<=r/\H8 sc.2.2.2.2 r=some q/\q∈sc.2.2.2.2/\q.2.1=x:=λsc env i v r hd=>by obtain⟨_,h2,q,h3,_⟩:=a7V hd;obtain⟨q',h4,h5,h6⟩:=La h2;rw[h3]at h4;cases h4;exact⟨q,(dW h3).1,h3,h5,h6⟩
 rcases hg with⟨rfl,hx⟩|⟨j,v,rfl,hj,hx⟩
 ·obtain⟨v,r,_,_,h3,h4⟩:=h.evS hx;obtain⟨q,q0,q1,q2,q3⟩:=key _ _ _ _ _ h4;have e:scM l s (-1)=s:=rfl;refine⟨v,r,q,h3,q0,by rw[e];exact q1,by rw[e];exact q2,q3,?_⟩;unfold OY;rw[h3,e,q1];rfl
 ·obtain⟨D,_,w,r,_,_,h3,h4⟩:=h.evMm hj hx;obtain⟨q,q0,q1,q2,q3⟩:=key _ _ _ _ _ h4;have e:scM l s (j:Int)=U0 l s:=by unfold scM;rw[nX];rfl
  refine⟨w,r,q,h3,q0,by rw[e];exact q1,by rw[e];exact q2,q3,?_⟩;unfold OY;rw[h3,e,q1];rfl
theorem EvC.inps{m x:Int}(hg:Gd l s c d m x):(DI c m).length=(scM l s m).2.2.1.length/\H8 l.2.2 (l9 (J6 0 m) s.2.1 k)=some (scM l s m):=by
 obtain⟨p1,p2,p3,p4,p5⟩:=TT (Xd h.ha) h.hs;rcases hg with⟨rfl,hx⟩|⟨j,v,rfl,hj,hx⟩
 ·exact⟨a2i p3,h.hs⟩
 ·obtain⟨e1,_,_,_⟩:=h.scm hj;have hi:DI c (j:Int)=v:=by unfold DI;rw[nX,o7,YN hj];rfl
  have hmi:nH l s=((U0 l s).2.2.1,8):=by unfold nH;rw[e1]
  have pv:=a8I p5 hj;rw[hmi]at pv;rw[hi];unfold scM;rw[nX,o7,o7];exact⟨a2i pv,e1⟩
theorem EvC.refN{m x:Int}(hg:Gd l s c d m x){q:aK}(hq:q∈(scM l s m).2.2.2.2)(hd:q.2.1=x){n:E8}(hn:n∈JH q){r:E8}(hr:VD n=some r):
  (r.1=0/\0<=r.2/\r.2<x8 (DI c m))\/(r.1=1/\Gd l s c d m r.2/\rkM l s m r.2<rkM l s m x)\/(r.1=2/\r.2=0)\/(r.1=3/\0<=r.2)\/(r.1=4/\m=-1/\0<=r.2/\∀(j:Nat) (v:List V3),c.2.2[j]? =some v->Gd l s c d (j:Int) r.2/\rkM l s (j:Int) r.2<rkM l s m x):=by
 obtain⟨hil,hla⟩:=h.inps hg;obtain⟨ops,hops⟩:=b0l h.hv (dW hla).2.2.2 hq n hn;obtain⟨k',N⟩:=n;have hsub:∀p:Int->Bool,p k' =true->N∈Lm p q.2.2.2.2.2.1\/N∈Lm p q.2.2.2.2.2.2.1:=λp hp=>by
  rcases A8.1 hn with hn|hn
  ·exact .inl (U8.2 ⟨(k',N),N8.2 ⟨hn,hp⟩,rfl⟩)
  ·exact .inr (U8.2 ⟨(k',N),N8.2 ⟨hn,hp⟩,rfl⟩)
 rcases a9Z hr with⟨e,rfl⟩|⟨e,rfl⟩|⟨e,rfl⟩|⟨e,rfl⟩|⟨e,rfl⟩|⟨e,rfl⟩
 ·have e:k' =7:=e;subst e;have:=a6Y hops;rw[(b3c l _).2.2]at this;left;refine⟨rfl,this.1,?_⟩;have h2:=this.2;unfold x8 at h2 ⊢;rw[J7]at h2;rw[hil];exact h2
 ·have e:k' =8:=e;subst e;right;left;have hm:∃e',(e' =q.2.2.2.2.2.1\/e' =q.2.2.2.2.2.2.1)/\N∈(uz e').2.1:=by
   rcases hsub (λo=>o8 o 8) rfl with g|g
   ·exact⟨_,.inl rfl,(rf N _).2 g⟩
   ·exact⟨_,.inr rfl,(rf N _).2 g⟩
  obtain⟨e',he',hN⟩:=hm;have hdir:N∈O0 (scM l s m) x:=(GK h.hv (dW hla).2.2.2 x q hq hd e' he').1 N hN;refine⟨rfl,?_,?_⟩
  ·rcases hg with⟨rfl,hx⟩|⟨j,v,rfl,hj,w,hw,hx⟩
   ·exact .inl ⟨rfl,hx.dir hdir⟩
   ·have es:scM l s (j:Int)=U0 l s:=by unfold scM;rw[nX];rfl
    rw[es]at hdir;exact .inr ⟨j,v,rfl,hj,w,hw,hx.dir hdir⟩
  ·have hac:=Nq h.hv (dW hla).2.2.2 N (vg hdir).1 (vg hdir).2;have:=a2d hdir hac;unfold rkM;rcases hg with⟨rfl,hx⟩|⟨j,v,rfl,hj,hx⟩
   ·have es:scM l s (-1)=s:=rfl;rw[es]at this;show 15+_<15+_;show 15+(cu s N).length<15+(cu s x).length;omega
   ·have es:scM l s (j:Int)=U0 l s:=by unfold scM;rw[nX];rfl
    rw[es]at this;rw[nX];exact this
 ·right;right;left;exact⟨rfl,rfl⟩
 ·have e:k' =33:=e;subst e;right;right;right;left;exact⟨rfl,b0f hops⟩
 ·have e:k' =34:=e;subst e;right;right;right;left;refine⟨rfl,?_⟩;have h0:=b2K hops;show 0<=bQ .i64 N 8;have hru:=(h.hL.sc _ (dW hla).2.2.1).ro q hq;have hI:jc N:=by
   rcases A8.1 hn with hn|hn
   ·exact hru.1.2.2.1 (34,N) hn
   ·exact hru.1.2.2.2 (34,N) hn
  have hd8:N.tdiv 8=N / 8:=iW h0;rw[xW (by rw[hd8];unfold jc at hI ⊢;omega),hd8];omega
 ·right;right;right;right;have hm:∃e',(e' =q.2.2.2.2.2.1\/e' =q.2.2.2.2.2.2.1)/\N∈(uz e').2.2:=by
   rcases hsub isM e with g|g
   ·exact⟨_,.inl rfl,(rf N _).2 g⟩
   ·exact⟨_,.inr rfl,(rf N _).2 g⟩
  obtain⟨e',he',hN⟩:=hm;rcases hg with⟨rfl,hx⟩|⟨j,v,rfl,hj,hx⟩
  ·have es:scM l s (-1)=s:=rfl;rw[es]at hq;have hmb:N∈mbS s d:=UX.2 ⟨SK.2 h.dd,q,hq,by rw[hd];exact hx,by
    unfold EL;rcases he' with rfl|rfl
    ·exact G6 _ hN
    ·exact aU _ hN⟩
   refine⟨rfl,rfl,(h.mb N hmb).1,λj v hj=>⟨.inr ⟨j,v,rfl,hj,N,hmb,.inl rfl⟩,?_⟩⟩;unfold rkM;rw[nX];have:=Gu h.smm N;show(cu (U0 l s) N).length<15+_;omega
  ·have es:scM l s (j:Int)=U0 l s:=by unfold scM;rw[nX];rfl
   rw[es]at hq;exact absurd ((uy h.hv h.hs x q hq hd e' he').2 N hN) id
theorem EvC.ruleLen{m x:Int}(hg:Gd l s c d m x):(OY l k s c m x).2.2.2.2.2.1.length<=50/\(OY l k s c m x).2.2.2.2.2.2.1.length<=50:=by obtain⟨v,r,q,_,_,_,q2,_,q4⟩:=h.met hg;obtain⟨_,hla⟩:=h.inps hg;rw[q4];exact((h.hL.sc _ (dW hla).2.2.1).ro q q2).2
end
theorem Gd.all{l:Z7}{s:D6}{c:bP}{d j:Int}{x:Int}(hg:Gd l s c d j x)(h0:0<=j){i:Nat}(hi:i<c.2.2.length):Gd l s c d (i:Int) x:=by
 rcases hg with⟨e,_⟩|⟨_,_,_,_,hx⟩
 ·omega
 ·exact .inr ⟨i,_,rfl,gY hi,hx⟩
end
section
theorem Xo{α:Type}{eq:α->α->Bool}(h:∀a,eq a a=true):∀l:List α,a5Z eq l l=true
 |[]=>rfl|a::l=>by unfold a5Z;rw[h a,Xo h l];rfl
theorem Dk:∀(t:Ty) (a:t.den),IL t a a=true
 | .bool,a=>by cases a<;>rfl| .int _,a=>by unfold IL;exact decide_eq_true rfl| .str,a=>by unfold IL;exact decide_eq_true rfl| .sl t,a=>by unfold IL;exact Xo (Dk t) a| .prod p q,a=>by unfold IL;rw[Dk p,Dk q];rfl| .unit,a=>by unfold IL;rfl| .ent _ _ p q,a=>by unfold IL;rw[Dk p,Dk q];rfl
theorem a7X(t:Ty)(a:t.den):deq t a a=true:=Dk t a
theorem MM{α σ τ ε:Type}(l:List α)(mk:τ->Int->σ)(fin:τ->ε)(R:Nat->τ->Prop){f:σ->Option (σ⊕ε)}{b:τ}(hl:l.length<=1000000)(h0:R 0 b)
  (hin:∀(i:Nat) (a:α) (b:τ),l[i]? =some a->R i b->∃b',f (mk b (i:Int))=some (.inl (mk b' ((i+1:Nat):Int)))/\R (i+1) b')
  (hend:∀b,R l.length b->f (mk b (l.length:Int))=some (.inr (fin b))):∃b',dC f (mk b 0)=some (fin b')/\R l.length b' :=by
 have key:∀(n i:Nat) (b:τ),i<=l.length->l.length -i<n->R i b->∃b',qi f n (mk b (i:Int))=some (fin b')/\R l.length b' :=by
  intro n;induction n with
  |zero=>intro i b _ h _;omega|succ n ih=>
   intro i b hi hn hI;unfold qi;by_cases h:i<l.length
   ·obtain⟨b',h1,h2⟩:=hin i _ b (gY h) hI;rw[h1];exact ih (i+1) b' l7 l7 h2
   ·have:i=l.length:=l7;subst this;rw[hend b hI];exact⟨b,rfl,hI⟩
 exact key jS 0 b l7 (by unfold jS;omega) h0
abbrev Fnd:Type:=List (E8×X8)
section
variable (l:Z7) (k:Int) (s:D6) (c:bP)
def Bd(acc:List G8)(fd:Fnd):H5:=(acc,l,k,c,fd,0,0,0,0)
def PD(fd:Fnd):Prop:=∃f,Iq kq fd f/\∀(m x:Int) v,f (m,x)=some v->v=((evM l k s c m x).1,(evM l k s c m x).2.1)
end
theorem b4F(l:Z7)(k:Int)(s:D6)(c:bP):PD l k s c []:=⟨λ_=>none,XJ _,λ_ _ _ h=>by cases h⟩
section
variable {l:Z7} {k:Int} {s:D6} {c:bP} {d:Int} {X:DB} {b:List DB} (h:EvC l k s c d X b)
include h
theorem EvC.eval{m x:Int}(hg:Gd l s c d m x)(acc:List G8){fd:Fnd}(hf:PD l k s c fd):
  ∃fd',fD (Bd l k c acc fd) (m,x)=some (((evM l k s c m x).1,(evM l k s c m x).2.1),Bd l k c acc fd')/\PD l k s c fd' :=by
 obtain⟨f,hf1,hf2⟩:=hf;obtain⟨v,r,q,e1,_⟩:=h.met hg;unfold fD;show ∃fd',l9 (Jr kq fd (m,x)) (some (IR kq fd (m,x) ((0,0,0),0),Bd l k c acc fd)) (o5 (l9 (J6 0 m) (o5 (H8 l.2.2 k) λ(y:D6)=>o5 (H8 c.2.2 m) λ(z:List Y2)=>some (y.2.1,c.1,z,[])) (some (k,c))) λ(y:Int×bP)=>
  o5 (jO l y.1 y.2 x) λ(z:Y2×Int×iq)=>o5 (l9 (E9 (o8 z.2.2.1 0)) (l9 (o8 0 0) (some (acc,l,k,c,fd,z.2.2)) (some (Bd l k c acc fd))) (some (Bd l k c acc fd))) λ(w:H5)=>some ((z.1,z.2.1),w.1,w.2.1,w.2.2.1,w.2.2.2.1,Ll kq w.2.2.2.2.1 (m,x) (z.1,z.2.1),w.2.2.2.2.2))=_/\_
 cases hm:Jr kq fd (m,x)
 ·rw[o6];have hput:PD l k s c (Ll kq fd (m,x) (v,r)):=by
   refine⟨_,XK Qi hf1 (m,x) (v,r),λm' x' w hw=>?_⟩;cases hk:kq (m',x') (m,x)<;>rw[hk]at hw
   ·exact hf2 m' x' w hw
   ·have e:=(Qi _ _).1 hk;cases e;cases hw;rw[e1]
  have hev:∃kk cc,l9 (J6 0 m) (o5 (H8 l.2.2 k) λ(y:D6)=>o5 (H8 c.2.2 m) λ(z:List Y2)=>some (y.2.1,c.1,z,[])) (some (k,c))=some (kk,cc)/\jO l kk cc x=some (v,r,0,0,0,0):=by
   rcases hg with⟨rfl,hx⟩|⟨j,u,rfl,hj,hx⟩
   ·refine⟨k,c,rfl,?_⟩;rw[PY h.hL h.hC h.hT];exact congrArg some e1
   ·rw[nX,o7,h.hs,o9,YN hj,o9];refine⟨_,_,rfl,?_⟩;have hi:DI c (j:Int)=u:=by unfold DI;rw[nX,o7,YN hj];rfl
    unfold evM at e1;rw[nX,o7,hi]at e1;rw[PY h.hL (c:=(c.1,u,[])) ⟨h.hC.nv u (su hj),A7,A7⟩ h.hT];exact congrArg some e1
  obtain⟨kk,cc,g1,g2⟩:=hev;rw[g1,o9,g2,o9];refine⟨Ll kq fd (m,x) (v,r),?_,hput⟩;rw[e1];rfl
 ·rw[o7];refine⟨fd,?_,f,hf1,hf2⟩;have h1:=hf1.has (m,x);rw[hm]at h1;cases hv:f (m,x)with
  |none=>rw[hv]at h1;cases h1|some w=>have h2:=hf1.get (m,x) ((0,0,0),0);rw[hv]at h2;rw[h2,hf2 m x w hv];rfl
theorem EvC.refs{m x:Int}(hg:Gd l s c d m x)(hM:c.2.2.length<=10)(acc:List G8){fd:Fnd}(hf:PD l k s c fd):
  ∃fd',lg (Bd l k c acc fd) (m,x)=some (Aw l k s c m x,Bd l k c acc fd')/\PD l k s c fd' :=by
 unfold lg;rcases hg with⟨rfl,hx⟩|⟨j,u,rfl,hj,hx⟩
 ·have hg:Gd l s c d (-1) x:=.inl ⟨rfl,hx⟩;obtain⟨fd',h1,h2⟩:=h.eval hg acc hf;obtain⟨v,r,q,e1,q0,q1,q2,q3,q4⟩:=h.met hg;refine⟨fd',?_,h2⟩;have hlen:=h.ruleLen hg;rw[show(D9 (-1,x).1 0)=true from rfl,o7];rw[show H8 (Bd l k c acc fd).2.1.2.2 (Bd l k c acc fd).2.2.1=some s from h.hs,o9,h1,o9];rw[show o8 (Bd l k c acc fd).2.2.1 (Bd l k c acc fd').2.2.1=true from O8 rfl,o7];simp only[show(Bd l k c acc fd).2.1=l from rfl,show(Bd l k c acc fd').2.1=l from rfl,a7X,o7];have es:scM l s (-1)=s:=rfl;rw[es]at q1;rw[e1];simp only;rw[q1,o9];rw[q4]at hlen;rw[a4v q A7 hlen.1 hlen.2,o9];unfold Aw;rw[show J6 0 (-1:Int)=false from rfl,o6,q4]
 ·have hg:Gd l s c d (j:Int) x:=.inr ⟨j,u,rfl,hj,hx⟩;obtain⟨e1,e2,e3,e4⟩:=h.scm hj;rw[show(D9 ((j:Int),x).1 0)=false from L6 (by show(0:Int)<=(j:Int);omega),o6];rw[show H8 (Bd l k c acc fd).2.1.2.2 (Bd l k c acc fd).2.2.1=some s from h.hs,o9];rw[show H8 (Bd l k c acc fd).2.1.2.2 s.2.1=some (U0 l s)from e1,o9];have key:=MM (σ:=H5×List E8×Int) (c.2.2) (λ(t:Fnd×List E8) i=>(Bd l k c acc t.1,t.2,i)) (λt=>(Bd l k c acc t.1,t.2))
   (λi t=>PD l k s c t.1/\t.2=(List.range i).foldl (λacc (j:Nat)=>Le acc (OY l k s c (j:Int) x)) []/\t.2.length<=100*i)
   (f:=λ(x_1:H5×List E8×Int)=>
    l9 (D9 x_1.2.2 (x8 (Bd l k c acc fd).2.2.2.1.2.2))
     (o5 (fD x_1.1 (x_1.2.2,((j:Int),x).2)) λ(x_2:X8×H5)=>
      o5 (H8 (U0 l s).2.2.2.2 x_2.1.2) λ(x:aK)=>
       o5 (jH x_1.2.1 x) λ(x:List E8)=>
        some (Sum.inl (x_2.2,x,D7 IntKind.i64 x_1.2.2 1)))
     (some (Sum.inr (x_1.1,x_1.2.1)))) (b:=(fd,[])) l7 ⟨hf,rfl,A7⟩ (λi a t ha ht=>?_) (λt ht=>?_)
  ·obtain⟨t,h1,h2,h3,h4⟩:=key;refine⟨t.1,?_,h2⟩;rw[h1,o9];rw[h3];unfold Aw;rw[nX,o7]
  ·obtain⟨ht1,ht2,ht3⟩:=ht;have hi:=(Z4.1 ha).1;have hgi:=Gd.all hg l7 hi;obtain⟨fd',g1,g2⟩:=h.eval hgi acc ht1;obtain⟨v,r,q,p1,p0,p2,p3,p4,p5⟩:=h.met hgi;have hlen:=h.ruleLen hgi;have es:scM l s (i:Int)=U0 l s:=by unfold scM;rw[nX];rfl
   rw[es]at p2;refine⟨(fd',Le t.2 q),?_,g2,?_,?_⟩
   ·simp only;rw[show D9 (i:Int) (x8 (Bd l k c acc fd).2.2.2.1.2.2)=true from X3 (l:=c.2.2) ha,o7];rw[g1,o9,p1];simp only;rw[p2,o9];rw[p5]at hlen;rw[a4v q l7 hlen.1 hlen.2,o9,fP l7]
   ·show Le t.2 q=_;rw[X6,dG,←ht2,←p5];rfl
   ·show(Le t.2 q).length<=_;rw[p5]at hlen;have:=TC t.2 q hlen.1 hlen.2;omega
  ·simp only;rw[show D9 (c.2.2.length:Int) (x8 (Bd l k c acc fd).2.2.2.1.2.2)=false from W9 c.2.2];rfl
end
end
section
def kM(q:E8):Int:=q.1
def kX(q:E8):Int:=q.2
def kC(q:E8):Int:=(kM q+1)*14+kX q
def isD(y:Nd):Bool:=o8 (eK y) 1
def ug(acc:List Nd):List E8:=(acc.filter isD).map Fh
abbrev AC(acc:List Nd):Nat:=(ug acc).length
theorem uh(a b:List Nd):ug (a++b)=ug a++ug b:=by unfold ug;rw[kK,bV]
theorem KG{y:Nd}(h:eK y=1):ug [y]=[Fh y]:=by unfold ug isD;rw[dn,O8 h];rfl
theorem UI{y:Nd}(h:eK y≠1):ug [y]=[]:=by unfold ug isD;rw[dn,L9 h];rfl
theorem Gh{acc:List Nd}{q:E8} :q∈ug acc↔∃y∈acc,eK y=1/\Fh y=q:=by
 unfold ug;rw[U8];constructor
 ·rintro⟨y,h1,h2⟩;obtain⟨h3,h4⟩:=N8.1 h1;exact⟨y,h3,O5.1 h4,h2⟩
 ·rintro⟨y,h1,h2,h3⟩;exact⟨y,N8.2 ⟨h1,O8 h2⟩,h3⟩
theorem QI{acc:List Nd}{m x:Int} :RV acc m x=true↔(m,x)∈ug acc:=by
 rw[Gh];unfold RV;rw[fQ];constructor
 ·rintro⟨y,h1,h2⟩;simp only[x9]at h2;obtain⟨⟨g1,g2⟩,g3⟩:=h2;exact⟨y,h1,O5.1 g1,dZ (O5.1 g2) (O5.1 g3)⟩
 ·rintro⟨y,h1,h2,h3⟩;refine⟨y,h1,?_⟩;have g2:y.2.2.1=m:=congrArg (·.1) h3;have g3:y.2.2.2.1=x:=congrArg (·.2) h3;simp only[x9];exact⟨⟨O8 h2,O8 g2⟩,O8 g3⟩
theorem Wq(y:Nd):∀(l pre:List Nd),wfR pre (l++[y])=(wfR pre l&&okR (pre++l) y)
 |[],pre=>by show(okR pre y&&true)=(true&&okR (pre++[]) y);rw[F7,Bool.and_true,aS]|x::l,pre=>by show(okR pre x&&wfR (pre++[x]) (l++[y]))=((okR pre x&&wfR (pre++[x]) l)&&okR (pre++x::l) y);rw[Wq y l (pre++[x]),oI,F6];rfl
def IV(acc:List Nd)(dep:Int):Prop:=(acc=[]/\dep=0)\/∃q,acc.getLast?=some q/\1<=dep/\(dep<=eD q\/(dep=eD q+1/\eK q=1))
theorem IV.nn{acc:List Nd}{dep:Int}(h:IV acc dep):0<=dep:=by rcases h with⟨_,e⟩|⟨q,_,e,_⟩<;>omega
theorem IV.fol{acc:List Nd}{y:Nd}{dep:Int}(h:IV acc dep)(hd:eD y=dep)(hb:dep<=1000)(h1:acc=[]->eK y=1):
  (match acc.getLast? with|none=>o8 y.2.1 0&&o8 y.1 1|some q=>a6e q y)=true:=by
 rcases h with⟨e1,e2⟩|⟨q,e1,e2,e3⟩
 ·rw[e1];show(o8 (eD y) 0&&o8 (eK y) 1)=true;rw[O8 l7,O8 (h1 e1)];rfl
 ·rw[e1];show(!(D9 (eD y) 1)&&(bif D9 (eD q) (eD y)then o8 (H9 .i64 (eD y) 1) (eD q)&&o8 (eK q) 1 else true))=true;rw[L6 l7];rcases e3 with e3|⟨e3,e4⟩
  ·rw[L6 l7];rfl
  ·rw[U5 l7,U2 O6,O8 l7,O8 e4];rfl
theorem a9a{pre:List Nd}{x:Nd}(h1:Lt x=true)(h2:(bif o8 x.1 1 then !(D9 x.2.2.2.2.1 0)&&!(BQ pre x false)else o8 x.2.2.2.2.1 (-1))=true)(h3:(bif o8 x.1 5 then BQ pre x true else true)=true)
  (h4:(match pre.getLast? with|none=>o8 x.2.1 0&&o8 x.1 1|some q=>a6e q x)=true):okR pre x=true:=by
 unfold okR;simp only[x9];exact⟨⟨⟨h1,h2⟩,h3⟩,h4⟩
section
variable (l:Z7) (k:Int) (s:D6) (c:bP) (d:Int)
def a7s(y:Nd):Prop:=
 (eK y=1/\Gd l s c d (eM y) (eI y)/\eR y=(evM l k s c (eM y) (eI y)).2.1/\IP y=(evM l k s c (eM y) (eI y)).1)\/
 (eK y=5/\Gd l s c d (eM y) (eI y)/\eR y=-1/\IP y=(evM l k s c (eM y) (eI y)).1)\/
 (eK y=2/\(∃x,Gd l s c d (eM y) x)/\0<=eI y/\eI y<x8 (DI c (eM y))/\eR y=-1/\IP y=(H8 (DI c (eM y)) (eI y)).getD (0,0,0))\/
 (eK y=4/\(∃x,Gd l s c d (eM y) x)/\eI y=0/\eR y=-1/\IP y=(5,0,c.1))\/
 (eK y=3/\(∃x,Gd l s c d (eM y) x)/\0<=eI y/\eR y=-1)
structure AOk (acc:List Nd):Prop where
 nd:∀y∈acc,a7s l k s c d y
 nu:(ug acc).Nodup
 wf:wfR [] acc=true
 dp:∀y∈acc,0<=eD y/\eD y<=1000
def Tgt(R:List Nd)(m x:Int):Prop:=∀r∈Aw l k s c m x,(r.1=1->(m,r.2)∈ug R)/\(r.1=4->∀j:Nat,j<c.2.2.length->((j:Int),r.2)∈ug R)
end
theorem Tgt.mono{l:Z7}{k:Int}{s:D6}{c:bP}{R t:List Nd}{m x:Int}(h:Tgt l k s c R m x):Tgt l k s c (R++t) m x:=λr hr=>
 ⟨λe=>by rw[uh];exact G6 _ ((h r hr).1 e),λe j hj=>by rw[uh];exact G6 _ ((h r hr).2 e j hj)⟩
section
variable {l:Z7} {k:Int} {s:D6} {c:bP} {d:Int} {X:DB} {b:List DB} (h:EvC l k s c d X b)
include h
theorem EvC.bd{m x:Int}(hg:Gd l s c d m x)(hM:c.2.2.length<=10):-1<=m/\m<10/\0<=x/\x<14:=by
 rcases hg with⟨rfl,hx⟩|⟨j,v,rfl,hj,hx⟩
 ·have:=hx.bd h.dd.1 h.dd.2;have:=h.sm.nd;unfold nD x8 at*;omega
 ·have:=hx.bd h.mb;have:=h.smm.nd;have:=(Z4.1 hj).1;unfold nD x8 at*;omega
theorem EvC.base{y:Nd}(hM:c.2.2.length<=10)(hy:a7s l k s c d y):Lt y=true/\(eK y=1->0<=eR y)/\(eK y≠1->eR y=-1):=by
 have key:(1<=eK y/\eK y<=5)/\0<=eI y/\-1<=eM y/\(eK y=1->0<=eR y)/\(eK y≠1->eR y=-1):=by
  rcases hy with⟨e,g,e2,_⟩|⟨e,g,e2,_⟩|⟨e,⟨x,g⟩,e0,_,e2,_⟩|⟨e,⟨x,g⟩,e0,e2,_⟩|⟨e,⟨x,g⟩,e0,e2⟩
  ·have hb:=h.bd g hM;obtain⟨v,r,q,p1,p2,_⟩:=h.met g;rw[p1]at e2;have e2:eR y=r:=e2;exact⟨l7,l7,l7,λ_=>by omega,λhn=>absurd e hn⟩
  ·have hb:=h.bd g hM;exact⟨l7,l7,l7,λhn=>by omega,λ_=>e2⟩
  ·have hb:=h.bd g hM;exact⟨l7,l7,l7,λhn=>by omega,λ_=>e2⟩
  ·have hb:=h.bd g hM;exact⟨l7,l7,l7,λhn=>by omega,λ_=>e2⟩
  ·have hb:=h.bd g hM;exact⟨l7,l7,l7,λhn=>by omega,λ_=>e2⟩
 obtain⟨⟨k1,k2⟩,k3,k4,k5⟩:=key;refine⟨?_,k5⟩;show(!(D9 (eK y) 1)&&!(D9 5 (eK y))&&!(D9 (eI y) 0)&&!(D9 (eM y) (-1)))=true;rw[L6 l7,L6 l7,L6 l7,L6 l7];rfl
theorem EvC.len{acc:List Nd}(hA:AOk l k s c d acc)(hM:c.2.2.length<=10):AC acc<=154:=by
 have hin:∀q∈ug acc,-1<=kM q/\kM q<10/\0<=kX q/\kX q<14:=λq hq=>by
  obtain⟨y,hy,h1,rfl⟩:=Gh.1 hq;rcases hA.nd y hy with⟨e,g,_⟩|⟨e,g,_⟩|⟨e,g,_⟩|⟨e,g,_⟩|⟨e,g,_⟩
  ·exact h.bd g hM
  all_goals exact absurd (h1.symm.trans e) G7
 have hn:((ug acc).map kC).Nodup:=by rw[List.Nodup,List.pairwise_map];refine List.Pairwise.imp_of_mem ?_ hA.nu;intro a b ha hb hab he;have h1:=hin a ha;have h2:=hin b hb;unfold kC at he;refine hab (dZ (show kM a=kM b by omega) (show kX a=kX b by omega))
 have:=KL (n:=154) hn (λz hz=>by obtain⟨q,hq,rfl⟩:=U8.1 hz;have:=hin q hq;unfold kC;omega)
 rw[J7]at this;exact this
theorem EvC.pushO{acc:List Nd}{y:Nd}{dep:Int}(hM:c.2.2.length<=10)(hA:AOk l k s c d acc)(hF:IV acc dep)(hy:a7s l k s c d y)(h1:eK y≠1)(hd:eD y=dep)(hb:dep<=1000)(hne:acc≠[])
  (h5:eK y=5->∃z∈acc,eK z=1/\Fh z=Fh y/\IP z=IP y):AOk l k s c d (acc++[y]):=by
 obtain⟨b1,b2,b3⟩:=h.base hM hy;have hnn:=hF.nn;refine⟨λz hz=>?_,?_,?_,λz hz=>?_⟩
 rotate_left 3
 ·rcases A8.1 hz with hz|hz
  ·exact hA.dp z hz
  ·rw[D8.1 hz];omega
 ·rcases A8.1 hz with hz|hz
  ·exact hA.nd z hz
  ·rw[D8.1 hz];exact hy
 ·rw[uh,UI h1,F7];exact hA.nu
 ·rw[Wq,hA.wf,aS,J4];refine a9a b1 ?_ ?_ (hF.fol hd hb (λe=>absurd e hne))
  ·rw[show o8 y.1 1=false from L9 h1,show o8 y.2.2.2.2.1 (-1)=true from O8 (b3 h1)];rfl
  cases h6:o8 y.1 5
  ·rfl
  ·rw[show BQ acc y true=true from VQ.2 (by
    obtain⟨z,z1,z2,z3,z4⟩:=h5 (O5.1 h6);exact⟨z,z1,z2,z3,λ_=>z4⟩)]
   rfl
theorem EvC.pushD{acc:List Nd}{m x dep:Int}(hM:c.2.2.length<=10)(hA:AOk l k s c d acc)(hF:IV acc dep)(hg:Gd l s c d m x)(hb:dep<=1000)(hs:RV acc m x=false):AOk l k s c d (acc++[ndD l k s c m x dep]):=by
 have hy:a7s l k s c d (ndD l k s c m x dep):=.inl ⟨rfl,hg,rfl,rfl⟩;obtain⟨b1,b2,b3⟩:=h.base hM hy;have hns:(m,x)∉ug acc:=λhh=>by rw[QI.2 hh]at hs;cases hs
 have hnn:=hF.nn;refine⟨λz hz=>?_,?_,?_,λz hz=>?_⟩
 rotate_left 3
 ·rcases A8.1 hz with hz|hz
  ·exact hA.dp z hz
  ·rw[D8.1 hz];show 0<=dep/\dep<=1000;omega
 ·rcases A8.1 hz with hz|hz
  ·exact hA.nd z hz
  ·rw[D8.1 hz];exact hy
 ·rw[uh,KG (y:=ndD l k s c m x dep) rfl];refine I7.2 ⟨hA.nu,A7,λa ha b' hb' e=>?_⟩;rw[D8.1 hb']at e;subst e;exact hns ha
 ·rw[Wq,hA.wf,aS,J4];refine a9a b1 ?_ rfl (hF.fol (y:=ndD l k s c m x dep) rfl hb (λ_=>rfl));rw[show o8 (ndD l k s c m x dep).1 1=true from rfl,show D9 (ndD l k s c m x dep).2.2.2.2.1 0=false from L6 (b2 rfl)];cases h6:BQ acc (ndD l k s c m x dep) false
  ·rfl
  ·obtain⟨z,z1,z2,z3,_⟩:=VQ.1 h6;exact absurd (Gh.2 ⟨z,z1,z2,z3⟩) hns
end
end
section
section
variable (l:Z7) (k:Int) (s:D6) (c:bP) (d:Int)
structure SPost (acc R:List Nd) (m x dep:Int):Prop where
 ok:AOk l k s c d R
 pre:∃t,R=acc++t
 cnt:R.length+1000*AC acc<=acc.length+1+1000*AC R
 fits:1<=dep->IV R dep
 key:(m,x)∈ug R
 clo:∀y∈R,eK y=1->y∈acc\/Tgt l k s c R (eM y) (eI y)
structure CPost (acc R:List Nd) (dep:Int) (w:Nat):Prop where
 ok:AOk l k s c d R
 pre:∃t,R=acc++t
 cnt:R.length+1000*AC acc<=acc.length+w+1000*AC R
 fits:IV R dep
 clo:∀y∈R,eK y=1->y∈acc\/Tgt l k s c R (eM y) (eI y)
def SOk(n:Nat):Prop:=∀(m x dep:Int) (acc:List Nd),Gd l s c d m x->rkM l s m x<n->AOk l k s c d acc->IV acc dep->0<=dep->dep+rkM l s m x<=100->acc.length<=1000*AC acc->SPost l k s c d acc (Ij l k s c n acc m x dep) m x dep
def wtM(m:Int):Nat:=l9 (J6 0 m) 1 10
def Lh(n:Nat)(m dep:Int)(acc:List Nd)(r:E8):List Nd:=chT c (λa m x d=>Ij l k s c n a m x d) acc m r dep
end
theorem a5H(m:Int):1<=wtM m/\wtM m<=10:=by unfold wtM;cases J6 0 m<;>exact⟨G7,G7⟩
theorem Xv(acc:List Nd){y:Nd}{dep:Int}(h:eD y=dep)(h1:1<=dep):IV (acc++[y]) dep:=.inr ⟨y,A7,h1,.inl l7⟩
theorem b2j{R:List Nd}{dep:Int}(h:IV R (dep+1))(h1:1<=dep):IV R dep:=by
 rcases h with⟨_,e⟩|⟨q,e1,e2,e3⟩
 ·omega
 ·exact .inr ⟨q,e1,h1,.inl l7⟩
section
variable {l:Z7} {k:Int} {s:D6} {c:bP} {d:Int} {X:DB} {b:List DB}
theorem CPost.refl{acc:List Nd}{dep:Int}{w:Nat}(hA:AOk l k s c d acc)(hF:IV acc dep):CPost l k s c d acc acc dep w:=⟨hA,⟨[],A7⟩,l7,hF,λy hy _=> .inl hy⟩
theorem CPost.trans{acc R Q:List Nd}{dep:Int}{w v:Nat}(h:CPost l k s c d acc R dep w)(g:CPost l k s c d R Q dep v):CPost l k s c d acc Q dep (w+v):=by
 obtain⟨t,ht⟩:=h.pre;obtain⟨u,hu⟩:=g.pre;refine⟨g.ok,⟨t++u,by rw[hu,ht,F6]⟩,by have:=h.cnt;have:=g.cnt;omega,g.fits,λy hy e=>?_⟩;rcases g.clo y hy e with h1|h1
 ·rcases h.clo y h1 e with h2|h2
  ·exact .inl h2
  ·right;rw[hu];exact h2.mono
 ·exact .inr h1
theorem CPost.keys{acc R:List Nd}{dep:Int}{w:Nat}(h:CPost l k s c d acc R dep w){q:E8}(hq:q∈ug acc):q∈ug R:=by obtain⟨t,ht⟩:=h.pre;rw[ht,uh];exact G6 _ hq
theorem SPost.toC{acc R:List Nd}{m x dep:Int}(h:SPost l k s c d acc R m x dep)(h1:1<=dep):CPost l k s c d acc R dep 1:=⟨h.ok,h.pre,h.cnt,h.fits h1,h.clo⟩
variable (h:EvC l k s c d X b)
include h
theorem EvC.refLen{m x:Int}(hg:Gd l s c d m x)(hM:c.2.2.length<=10):(Aw l k s c m x).length*wtM m<=1000:=by
 unfold Aw wtM;cases hm:J6 0 m
 ·have hl:=h.ruleLen hg;have:=TC [] (OY l k s c m x) hl.1 hl.2;simp only[o6];simp only[bU]at this;omega
 ·simp only[o7];have key:∀i,i<=c.2.2.length->((List.range i).foldl (λacc (j:Nat)=>Le acc (OY l k s c (j:Int) x)) []).length<=100*i:=by
   intro i;induction i with
   |zero=>intro _;simp|succ i ih=>intro hi;have ih:=ih l7;rw[X6,dG];have hl:=h.ruleLen (Gd.all hg (kR.1 hm) (i:=i) l7);have:=TC ((List.range i).foldl (λacc (j:Nat)=>Le acc (OY l k s c (j:Int) x)) []) (OY l k s c (i:Int) x) hl.1 hl.2;show(Le _ _).length<=_;omega
  have:=key c.2.2.length l7;omega
theorem EvC.refIn{m x:Int}(hg:Gd l s c d m x){r:E8}(hr:r∈Aw l k s c m x):
  (r.1=0/\0<=r.2/\r.2<x8 (DI c m))\/(r.1=1/\Gd l s c d m r.2/\rkM l s m r.2<rkM l s m x)\/(r.1=2/\r.2=0)\/(r.1=3/\0<=r.2)\/(r.1=4/\m=-1/\0<=r.2/\∀(j:Nat) (v:List V3),c.2.2[j]? =some v->Gd l s c d (j:Int) r.2/\rkM l s (j:Int) r.2<rkM l s m x):=by
 unfold Aw at hr;cases hm:J6 0 m
 ·rw[hm,o6]at hr;rcases a0Z.1 hr with hr|⟨n,hn,hr⟩
  ·cases hr
  ·obtain⟨v,r',q,_,_,_,q2,q3,q4⟩:=h.met hg;rw[q4]at hn;exact h.refN hg q2 q3 hn hr
 ·rw[hm,o7]at hr;have h0:=kR.1 hm;have key:∀i,i<=c.2.2.length->r∈(List.range i).foldl (λacc (j:Nat)=>Le acc (OY l k s c (j:Int) x)) []->∃j:Nat,j<c.2.2.length/\∃n∈JH (OY l k s c (j:Int) x),VD n=some r:=by
   intro i;induction i with
   |zero=>intro _ hh;cases hh|succ i ih=>
    intro hi hh;rw[X6,dG]at hh;rcases a0Z.1 (show r∈Le _ _ from hh)with g|⟨n,hn,g⟩
    ·exact ih l7 g
    ·exact⟨i,l7,n,hn,g⟩
  obtain⟨j,hj,n,hn,hr⟩:=key _ (E5 _) hr;have hgj:=Gd.all hg h0 hj;obtain⟨v,r',q,_,_,_,q2,q3,q4⟩:=h.met hgj;rw[q4]at hn;have es:∀i:Int,0<=i->scM l s i=U0 l s:=λi hi=>by unfold scM;rw[X5 hi];rfl
  have er:∀y,rkM l s (j:Int) y=rkM l s m y:=λy=>by unfold rkM;rw[nX,hm]
  rcases h.refN hgj q2 q3 hn hr with⟨e1,e2,e3⟩|⟨e1,e2,e3⟩|e|e|⟨e1,e2,e3⟩
  ·left;refine⟨e1,e2,?_⟩;have l1:=(h.inps hgj).1;have l2:=(h.inps hg).1;rw[es _ l7]at l1;rw[es _ h0]at l2;unfold x8 at e3 ⊢;rw[l2,←l1];exact e3
  ·right;left;rw[er,er]at e3;refine⟨e1,?_,e3⟩;rcases hg with⟨rfl,_⟩|⟨i,v,rfl,hi,_⟩
   ·exact absurd h0 G7
   ·exact Gd.all e2 l7 (Z4.1 hi).1
  ·exact .inr (.inr (.inl e))
  ·exact .inr (.inr (.inr (.inl e)))
  ·omega
theorem EvC.kid{n:Nat}(hS:SOk l k s c d n)(hM:c.2.2.length<=10){m x:Int}(hg:Gd l s c d m x)(hn:rkM l s m x<n+1){r:E8}(hr:r∈Aw l k s c m x){dep:Int}{acc:List Nd}(hA:AOk l k s c d acc)(hF:IV acc dep)(hne:acc≠[])(h1:1<=dep)(h2:dep+rkM l s m x<=101)(hc:acc.length+wtM m<=1+1000*AC acc):
  CPost l k s c d acc (Lh l k s c n m dep acc r) dep (wtM m)/\(r.1=1->(m,r.2)∈ug (Lh l k s c n m dep acc r))/\(r.1=4->∀j:Nat,j<c.2.2.length->((j:Int),r.2)∈ug (Lh l k s c n m dep acc r)):=by
 have hw:=a5H m;have push:∀y:Nd,a7s l k s c d y->eK y≠1->eK y≠5->eD y=dep->CPost l k s c d acc (acc++[y]) dep (wtM m):=λy hy k1 k5 hd=>by
  refine⟨h.pushO hM hA hF hy k1 hd l7 hne (λe=>absurd e k5),⟨[y],rfl⟩,?_,Xv acc hd h1,λz hz e=>?_⟩
  ·have:AC (acc++[y])=AC acc:=by unfold AC;rw[uh,UI k1,F7]
   rw[F5,this];simp only[af];omega
  ·rcases A8.1 hz with hz|hz
   ·exact .inl hz
   ·rw[D8.1 hz]at e;exact absurd e k1
 unfold Lh chT;rcases h.refIn hg hr with⟨e,e1,e2⟩|⟨e,e1,e2⟩|⟨e,e1⟩|⟨e,e1⟩|⟨e,e1,e2,e3⟩
 ·rw[show o8 r.1 0=true from O8 e,o7];exact⟨push _ (.inr (.inr (.inl ⟨rfl,⟨x,hg⟩,e1,e2,rfl,rfl⟩))) (show(2:Int)≠1 by decide) (show(2:Int)≠5 by decide) rfl,λg=>by rw[e]at g;exact absurd g G7,λg=>by rw[e]at g;exact absurd g G7⟩
 ·rw[show o8 r.1 0=false by rw[e];rfl,show o8 r.1 1=true from O8 e,o6,o7];have:=hS m r.2 dep acc e1 l7 hA hF l7 l7 l7;refine⟨?_,λ_=>this.key,λg=>by rw[e]at g;exact absurd g G7⟩;have hc2:=this.toC h1;exact⟨hc2.ok,hc2.pre,aF hc2.cnt (Nat.add_le_add_right (Nat.add_le_add_left hw.1 _) _),hc2.fits,hc2.clo⟩
 ·rw[show o8 r.1 0=false by rw[e];rfl,show o8 r.1 1=false by rw[e];rfl,show o8 r.1 2=true from O8 e,o6,o6,o7];exact⟨push _ (.inr (.inr (.inr (.inl ⟨rfl,⟨x,hg⟩,e1,rfl,rfl⟩)))) (show(4:Int)≠1 by decide) (show(4:Int)≠5 by decide) rfl,λg=>by rw[e]at g;exact absurd g G7,λg=>by rw[e]at g;exact absurd g G7⟩
 ·rw[show o8 r.1 0=false by rw[e];rfl,show o8 r.1 1=false by rw[e];rfl,show o8 r.1 2=false by rw[e];rfl,show o8 r.1 3=true from O8 e,o6,o6,o6,o7];exact⟨push _ (.inr (.inr (.inr (.inr ⟨rfl,⟨x,hg⟩,e1,rfl⟩)))) (show(3:Int)≠1 by decide) (show(3:Int)≠5 by decide) rfl,λg=>by rw[e]at g;exact absurd g G7,λg=>by rw[e]at g;exact absurd g G7⟩
 ·rw[show o8 r.1 0=false by rw[e];rfl,show o8 r.1 1=false by rw[e];rfl,show o8 r.1 2=false by rw[e];rfl,show o8 r.1 3=false by rw[e];rfl,o6,o6,o6,o6];have hw10:wtM m=10:=by rw[e1];rfl
  have key:∀i,i<=c.2.2.length->CPost l k s c d acc ((List.range i).foldl (λacc (j:Nat)=>Ij l k s c n acc (j:Int) r.2 dep) acc) dep i/\∀j:Nat,j<i->((j:Int),r.2)∈ug ((List.range i).foldl (λacc (j:Nat)=>Ij l k s c n acc (j:Int) r.2 dep) acc):=by
   intro i;induction i with
   |zero=>intro _;exact⟨CPost.refl hA hF,λj hj=>by omega⟩|succ i ih=>
    intro hi;obtain⟨p1,p2⟩:=ih l7;rw[X6,dG];obtain⟨g1,g2⟩:=e3 i _ (gY l7);have hp:=hS (i:Int) r.2 dep _ g1 l7 p1.ok p1.fits l7 l7 (by have:=p1.cnt;omega);have hpc:=hp.toC h1;refine⟨p1.trans hpc,λj hj=>?_⟩;by_cases hji:j=i
    ·subst hji;exact hp.key
    ·exact hpc.keys (p2 j l7)
  obtain⟨p1,p2⟩:=key _ (E5 _);refine⟨⟨p1.ok,p1.pre,aF p1.cnt (Nat.add_le_add_right (Nat.add_le_add_left l7 _) _),p1.fits,p1.clo⟩,λg=>by rw[e]at g;exact absurd g G7,λ_=>p2⟩
theorem EvC.kids{n:Nat}(hS:SOk l k s c d n)(hM:c.2.2.length<=10){m x:Int}(hg:Gd l s c d m x)(hn:rkM l s m x<n+1){dep:Int}{acc:List Nd}(hA:AOk l k s c d acc)(hF:IV acc dep)(h1:0<=dep)(h2:dep+rkM l s m x<=100)(hc:acc.length<=1000*AC acc)(hs:RV acc m x=false):
  ∀i,i<=(Aw l k s c m x).length->CPost l k s c d (acc++[ndD l k s c m x dep]) (((Aw l k s c m x).take i).foldl (Lh l k s c n m (dep+1)) (acc++[ndD l k s c m x dep])) (dep+1) (i*wtM m)/\
   (∀r∈(Aw l k s c m x).take i,(r.1=1->(m,r.2)∈ug (((Aw l k s c m x).take i).foldl (Lh l k s c n m (dep+1)) (acc++[ndD l k s c m x dep])))/\(r.1=4->∀j:Nat,j<c.2.2.length->((j:Int),r.2)∈ug (((Aw l k s c m x).take i).foldl (Lh l k s c n m (dep+1)) (acc++[ndD l k s c m x dep])))):=by
 have hw:=a5H m;have hrl:=h.refLen hg hM;intro i;induction i with
 |zero=>intro _;rw[List.take_zero];exact⟨CPost.refl (h.pushD hM hA hF hg l7 hs) (.inr ⟨ndD l k s c m x dep,A7,l7,.inr ⟨rfl,rfl⟩⟩),λr hr=>by cases hr⟩|succ i ih=>
  intro hi;obtain⟨p1,p2⟩:=ih l7;have hlt:i<(Aw l k s c m x).length:=l7;rw[P9 hlt,dG];have hcnt0:AC (acc++[ndD l k s c m x dep])=AC acc+1:=by unfold AC;rw[uh,KG (y:=ndD l k s c m x dep) rfl];simp
  have hne:((Aw l k s c m x).take i).foldl (Lh l k s c n m (dep+1)) (acc++[ndD l k s c m x dep])≠[]:=by obtain⟨t,ht⟩:=p1.pre;rw[ht];simp
  have hmul:(i+1)*wtM m<=1000:=aF (G9 _ hi) hrl;have hmul2:(i+1)*wtM m=i*wtM m+wtM m:=Nat.succ_mul _ _;have hpc:=p1.cnt;rw[F5,hcnt0]at hpc;simp only[af]at hpc;obtain⟨q1,q2,q3⟩:=h.kid hS hM hg hn (S9 hlt) p1.ok p1.fits hne l7 l7 l7;refine⟨?_,λr hr=>?_⟩
  ·rw[hmul2];exact p1.trans q1
  ·rcases A8.1 hr with hr|hr
   ·exact⟨λe=>q1.keys ((p2 r hr).1 e),λe j hj=>q1.keys ((p2 r hr).2 e j hj)⟩
   ·rw[D8.1 hr];exact⟨q2,q3⟩
theorem EvC.sub(hM:c.2.2.length<=10)(n:Nat):SOk l k s c d n:=by
 induction n with
 |zero=>intro m x dep acc hg hn;omega|succ n hS=>
  intro m x dep acc hg hn hA hF h1 h2 hc;unfold Ij;cases hs:RV acc m x
  ·rw[o6];obtain⟨p1,p2⟩:=h.kids hS hM hg hn hA hF h1 h2 hc hs _ (E5 _);rw[ax]at p1 p2;have hcnt0:AC (acc++[ndD l k s c m x dep])=AC acc+1:=by unfold AC;rw[uh,KG (y:=ndD l k s c m x dep) rfl];simp
   have hrl:=h.refLen hg hM;have hpc:=p1.cnt;rw[F5,hcnt0]at hpc;simp only[af]at hpc;have hself:(m,x)∈ug (acc++[ndD l k s c m x dep]):=Gh.2 ⟨ndD l k s c m x dep,A7,rfl,rfl⟩;refine⟨p1.ok,?_,by show List.length (((Aw l k s c m x)).foldl (Lh l k s c n m (dep+1)) (acc++[ndD l k s c m x dep]))+_<=_+1000*AC (((Aw l k s c m x)).foldl (Lh l k s c n m (dep+1)) (acc++[ndD l k s c m x dep]));omega,λg=>b2j p1.fits g,p1.keys hself,λy hy e=>?_⟩
   ·obtain⟨t,ht⟩:=p1.pre;exact⟨ndD l k s c m x dep::t,by show((Aw l k s c m x)).foldl (Lh l k s c n m (dep+1)) (acc++[ndD l k s c m x dep])=_;rw[ht];simp⟩
   ·rcases p1.clo y hy e with g|g
    ·rcases A8.1 g with g|g
     ·exact .inl g
     ·right;rw[D8.1 g];exact p2
    ·exact .inr g
  ·rw[o7];obtain⟨z,z1,z2,z3⟩:=Gh.1 (QI.1 hs);have hne:acc≠[]:=λe=>by rw[e]at z1;cases z1
   have hz:IP z=(evM l k s c m x).1:=by
    rcases hA.nd z z1 with⟨e,g,_,g2⟩|⟨e,g⟩|⟨e,g⟩|⟨e,g⟩|⟨e,g⟩
    ·rw[g2,show eM z=m from congrArg (·.1) z3,show eI z=x from congrArg (·.2) z3]
    all_goals exact absurd (z2.symm.trans e) G7
   have k1:eK (ndR l k s c m x dep)≠1:=show(5:Int)≠1 by decide
   refine⟨h.pushO hM hA hF (.inr (.inl ⟨rfl,hg,rfl,rfl⟩)) k1 rfl l7 hne (λ_=>⟨z,z1,z2,z3,hz⟩),⟨[_],rfl⟩,?_,λg=>Xv acc rfl g,?_,λy hy e=>?_⟩
   ·have:AC (acc++[ndR l k s c m x dep])=AC acc:=by unfold AC;rw[uh,UI k1,F7]
    rw[F5,this];simp only[af];omega
   ·rw[uh];exact G6 _ (QI.1 hs)
   ·rcases A8.1 hy with hy|hy
    ·exact .inl hy
    ·rw[D8.1 hy]at e;exact absurd e k1
end
end
section
theorem a0y{acc:List Nd}(hl:acc.length<=1000000)(B:H5)(hB:B.1=acc)(m x:Int):lM B m x=some (RV acc m x,B):=by
 unfold lM dJ eG;rw[hB];rw[xw acc (λy=>o8 y.1 1&&o8 y.2.2.1 m&&o8 y.2.2.2.1 x) hl (λi a ha=>?_) (by rw[W9];rfl)]
 ·rfl
 ·simp only[X3 ha,o7,J9,ha,o9];unfold oM;cases o8 a.1 1
  ·rfl
  ·cases o8 a.2.2.1 m
   ·rfl
   ·cases o8 a.2.2.2.1 x<;>rfl
section
variable {l:Z7} {k:Int} {s:D6} {c:bP} {d:Int} {X:DB} {b:List DB}
theorem TE{acc:List Nd}(fd:Fnd)(y:Nd)(hl:acc.length<=1000000):gI (Bd l k c acc fd) y=some (Bd l k c (acc++[y]) fd):=by unfold gI;rw[show(Bd l k c acc fd).1=acc from rfl,Hg az];rfl
variable (l k s c d)
def POk(n:Nat)(r20:H5->E8->Int->Option H5):Prop:=∀(m x dep:Int) (acc:List Nd) (fd:Fnd),Gd l s c d m x->rkM l s m x<n->AOk l k s c d acc->IV acc dep->0<=dep->dep+rkM l s m x<=100->acc.length<=1000*AC acc->PD l k s c fd->
 ∃fd',r20 (Bd l k c acc fd) (m,x) dep=some (Bd l k c (Ij l k s c n acc m x dep) fd')/\PD l k s c fd'
variable {l k s c d}
variable (h:EvC l k s c d X b)
include h
theorem EvC.childP{n:Nat}{r20:H5->E8->Int->Option H5}(r36:H5->E8->E8->Int->Option H5)(hP:POk l k s c d n r20)(hM:c.2.2.length<=10){m x:Int}(hg:Gd l s c d m x)(hn:rkM l s m x<n+1){r:E8}(hr:r∈Aw l k s c m x){dep:Int}{acc:List Nd}{fd:Fnd}(hA:AOk l k s c d acc)(hF:IV acc dep)(hne:acc≠[])(h1:1<=dep)(h2:dep+rkM l s m x<=101)(hc:acc.length+wtM m<=1+1000*AC acc)(hf:PD l k s c fd):
  ∃fd',kZ r20 r36 (Bd l k c acc fd) (m,x) r dep=some (Bd l k c (Lh l k s c n m dep acc r) fd')/\PD l k s c fd' :=by
 have hw:=a5H m;have hd:=h.len hA hM;unfold kZ Lh chT;rcases h.refIn hg hr with⟨e,e1,e2⟩|⟨e,e1,e2⟩|⟨e,e1⟩|⟨e,e1⟩|⟨e,e1,e2,e3⟩
 ·rw[show o8 r.1 0=true from O8 e,o7,o7];refine⟨fd,?_,hf⟩;obtain⟨v,hv,_⟩:=mf e1 e2;have hi:oL (Bd l k c acc fd) m=some (DI c m,Bd l k c acc fd):=by
   unfold oL DI;rcases hg with⟨rfl,_⟩|⟨j,u,rfl,hj,_⟩
   ·rfl
   ·rw[L6 l7,o6,nX,o7];rw[show H8 (Bd l k c acc fd).2.2.2.1.2.2 (j:Int)=some u from YN hj,YN hj];rfl
  rw[hi,o9];simp only;rw[hv,o9,TE _ _ l7,o9];rfl
 ·rw[show o8 r.1 0=false by rw[e];rfl,show o8 r.1 1=true from O8 e,o6,o7,o6,o7];obtain⟨fd',g1,g2⟩:=hP m r.2 dep acc fd e1 l7 hA hF l7 l7 l7 hf;refine⟨fd',?_,g2⟩;rw[g1];rfl
 ·rw[show o8 r.1 0=false by rw[e];rfl,show o8 r.1 1=false by rw[e];rfl,show o8 r.1 2=true from O8 e];simp only[o6,o7];refine⟨fd,?_,hf⟩;rw[TE _ _ l7,o9];rfl
 ·rw[show o8 r.1 0=false by rw[e];rfl,show o8 r.1 1=false by rw[e];rfl,show o8 r.1 2=false by rw[e];rfl,show o8 r.1 3=true from O8 e];simp only[o6,o7];refine⟨fd,?_,hf⟩;rw[TE _ _ l7,o9]
 ·rw[show o8 r.1 0=false by rw[e];rfl,show o8 r.1 1=false by rw[e];rfl,show o8 r.1 2=false by rw[e];rfl,show o8 r.1 3=false by rw[e];rfl,show o8 r.1 4=true from O8 e];simp only[o6,o7];have hw10:wtM m=10:=by rw[e1];rfl
  have hS:=h.sub hM n;have key:∀i,i<=c.2.2.length->CPost l k s c d acc ((List.range i).foldl (λacc (j:Nat)=>Ij l k s c n acc (j:Int) r.2 dep) acc) dep i:=by
   intro i;induction i with
   |zero=>intro _;exact CPost.refl hA hF|succ i ih=>intro hi;have p1:=ih l7;rw[X6,dG];obtain⟨g1,g2⟩:=e3 i _ (gY l7);have hp:=hS (i:Int) r.2 dep _ g1 l7 p1.ok p1.fits l7 l7 (by have:=p1.cnt;omega);exact p1.trans (hp.toC h1)
  have lw:=MM (σ:=H5×Int) (c.2.2) (λ(t:List Nd×Fnd) i=>(Bd l k c t.1 t.2,i)) (λt=>Bd l k c t.1 t.2)
   (λi t=>t.1=(List.range i).foldl (λacc (j:Nat)=>Ij l k s c n acc (j:Int) r.2 dep) acc/\PD l k s c t.2)
   (f:=λ(x:H5×Int)=>
        l9 (D9 x.2 (x8 (Bd l k c acc fd).2.2.2.1.2.2))
         (o5 (r20 x.1 (x.2,r.2) dep) λ(x_1:H5)=>
          some (Sum.inl (x_1,D7 IntKind.i64 x.2 1)))
         (some (Sum.inr x.1))) (b:=(acc,fd)) l7 ⟨rfl,hf⟩ (λi a t ha ht=>?_) (λt ht=>?_)
  ·obtain⟨t,t1,t2,t3⟩:=lw;refine⟨t.2,?_,t3⟩;rw[t1,o9,t2]
  ·obtain⟨ht1,ht2⟩:=ht;have hi:=(Z4.1 ha).1;have p1:=key i l7;obtain⟨g1,g2⟩:=e3 i _ ha;rw[←ht1]at p1;obtain⟨fd',f1,f2⟩:=hP (i:Int) r.2 dep t.1 t.2 g1 l7 p1.ok p1.fits l7 l7 (by have:=p1.cnt;omega) ht2;refine⟨(Ij l k s c n t.1 (i:Int) r.2 dep,fd'),?_,?_,f2⟩
   ·simp only;rw[show D9 (i:Int) (x8 (Bd l k c acc fd).2.2.2.1.2.2)=true from X3 (l:=c.2.2) ha,o7,f1,o9,fP l7]
   ·show Ij l k s c n t.1 (i:Int) r.2 dep=_;rw[X6,dG,←ht1];rfl
  ·simp only;rw[show D9 (c.2.2.length:Int) (x8 (Bd l k c acc fd).2.2.2.1.2.2)=false from W9 c.2.2];rfl
theorem EvC.subP(hM:c.2.2.length<=10)(n:Nat):∀N,2*n<=N->POk l k s c d n (I8 N).1:=by
 induction n with
 |zero=>intro N _ m x dep acc fd hg hn;omega|succ n ih=>
  intro N hN m x dep acc fd hg hn hA hF h1 h2 hc hf;obtain⟨N',rfl⟩:∃N',N=N' +2:=⟨N -2,l7⟩;have hP:=ih N' l7;have hS:=h.sub hM n;have hd:=h.len hA hM;show ∃fd',og (I8 (N' +1)).1 (I8 (N' +1)).2 (Bd l k c acc fd) (m,x) dep=_/\_;unfold og;obtain⟨fd1,a1,a2⟩:=h.eval hg acc hf;rw[a1,o9];simp only;rw[a0y (acc:=acc) l7 _ rfl,o9];simp only;unfold Ij;cases hs:RV acc m x
  ·rw[o6,o6,TE _ _ l7,o9];obtain⟨fd2,b1,b2⟩:=h.refs hg hM (acc++[ndD l k s c m x dep]) a2;rw[show(Bd l k c (acc++[((1,dep,m,x,(evM l k s c m x).2.1,(evM l k s c m x).1):G8)]) fd1)=Bd l k c (acc++[ndD l k s c m x dep]) fd1 from rfl,b1,o9];simp only;have hK:=h.kids hS hM hg hn hA hF h1 h2 hc hs;have hrl:=h.refLen hg hM;have hw:=a5H m;have hcnt0:AC (acc++[ndD l k s c m x dep])=AC acc+1:=by unfold AC;rw[uh,KG (y:=ndD l k s c m x dep) rfl];simp
   have lw:=MM (σ:=H5×Int) (Aw l k s c m x) (λ(t:List Nd×Fnd) i=>(Bd l k c t.1 t.2,i)) (λt=>Bd l k c t.1 t.2)
    (λi t=>t.1=((Aw l k s c m x).take i).foldl (Lh l k s c n m (dep+1)) (acc++[ndD l k s c m x dep])/\PD l k s c t.2)
    (f:=λ(x_2:H5×Int)=>
        l9 (D9 x_2.2 (x8 (Aw l k s c m x)))
         (o5 (H8 (Aw l k s c m x) x_2.2) λ(x_3:E8)=>
          o5 (Y3 (Aw l k s c m x) (Y0 x_2.2)) λ(x_4:E8)=>
           o5 ((I8 (N' +1)).2 x_2.1 (m,x) x_4 (D7 IntKind.i64 dep 1)) λ(x:H5)=>
            some (Sum.inl (x,D7 IntKind.i64 x_2.2 1)))
         (some (Sum.inr x_2.1))) (b:=(acc++[ndD l k s c m x dep],fd2)) (aF (aF (Nat.le_mul_of_pos_right _ hw.1) hrl) G7) ⟨rfl,b2⟩ (λi a t ha ht=>?_) (λt ht=>?_)
   ·obtain⟨t,t1,t2,t3⟩:=lw;refine⟨t.2,?_,t3⟩;rw[t1,o9,t2,ax];rfl
   ·obtain⟨ht1,ht2⟩:=ht;have hi:=(Z4.1 ha).1;have hi3:i<1000:=by
     have:=aF (Nat.le_mul_of_pos_right (Aw l k s c m x).length hw.1) hrl;omega
    have p1:=(hK i l7).1;rw[←ht1]at p1;have hne:t.1≠[]:=by obtain⟨u,hu⟩:=p1.pre;rw[hu];simp
    have hmul:(i+1)*wtM m<=1000:=aF (G9 _ hi) hrl;have hmul2:(i+1)*wtM m=i*wtM m+wtM m:=Nat.succ_mul _ _;have hpc:=p1.cnt;rw[F5,hcnt0]at hpc;simp only[af]at hpc;obtain⟨fd',f1,f2⟩:=h.childP (I8 N').2 hP hM hg hn (su ha) p1.ok p1.fits hne l7 l7 l7 ht2;refine⟨(Lh l k s c n m (dep+1) t.1 a,fd'),?_,?_,f2⟩
    ·simp only;rw[X3 ha,o7,J9,ha,o9];rw[show Y3 (Aw l k s c m x) (Y0 (i:Int))=some a by unfold Y3 Y0;simpa using ha,o9];rw[show D7 IntKind.i64 dep 1=dep+1 from V5 O6];rw[show(I8 (N' +1)).2 (Bd l k c t.1 t.2) (m,x) a (dep+1)=kZ (I8 N').1 (I8 N').2 (Bd l k c t.1 t.2) (m,x) a (dep+1)from rfl];rw[f1,o9,fP l7]
    ·show Lh l k s c n m (dep+1) t.1 a=_;rw[List.take_succ,ha,dG,←ht1];rfl
   ·simp only;rw[W9];rfl
  ·rw[o7,o7,TE _ _ l7,o9];exact⟨fd1,rfl,a2⟩
end
end
section
theorem Yw(l:Z7)(k:Int)(s:D6)(c:bP)(d:Int):AOk l k s c d []:=⟨(λy hy=>by cases hy),List.Pairwise.nil,rfl,(λy hy=>by cases hy)⟩
theorem a8f{l:Z7}{k:Int}{c:bP}{d:Int}(hL:SmL l)(hC:SmC c)(hT:∀t∈l.2.1,yQ t)(h:(evI l k c d).2.2.1=0):∃s X b,EvC l k s c d X b:=by
 unfold evI at h;by_cases ha:(BJ l k c true d).1=0
 ·rw[if_pos ha]at h;obtain⟨hv,s,hs⟩:=PM ha;rw[hs]at h;simp only at h;cases he:NQ l s c (wS s d) (wM s (U0 l s) d)with
  |inr e=>have h:(b7h d (NQ l s c (wS s d) (wM s (U0 l s) d))).2.2.1=0:=h;rw[he]at h;exact absurd h (a0t he)|inl x=>exact⟨s,x.1,x.2,hL,hC,hT,hs,ha,he⟩
 ·rw[if_neg ha]at h;exact absurd h ha
def exS(l:Z7)(k:Int)(c:bP)(d:Int):List Nd×E4:=
 if(evI l k c d).2.2.1=0 then(Ij l k ((H8 l.2.2 k).getD vV) c 40 [] (-1) d 0,0,0,0,0)else([],(evI l k c d).2.2)
section
variable {l:Z7} {k:Int} {s:D6} {c:bP} {d:Int} {X:DB} {b:List DB} (h:EvC l k s c d X b)
include h
theorem EvC.root:Gd l s c d (-1) d/\rkM l s (-1) d<40:=by refine⟨.inl ⟨rfl,.inl rfl⟩,?_⟩;have:=Gu h.sm d;show 15+_<40;omega
theorem EvC.nodes(hM:c.2.2.length<=10):SPost l k s c d [] (Ij l k s c 40 [] (-1) d 0) (-1) d 0:=
 h.sub hM 40 (-1) d 0 [] h.root.1 h.root.2 (Yw l k s c d) (.inl ⟨rfl,rfl⟩) l7 (by have:=h.root.2;omega) A7
theorem EvC.few(hM:c.2.2.length<=10):(Ij l k s c 40 [] (-1) d 0).length<=160000:=by have hp:=h.nodes hM;have h1:=hp.cnt;have h2:=h.len hp.ok hM;have h3:AC ([]:List Nd)=0:=rfl;rw[h3]at h1;simp only[bU]at h1;omega
theorem EvC.exS:exS l k c d=(Ij l k s c 40 [] (-1) d 0,0,0,0,0):=by
 obtain⟨v,r,_,_,h3,_⟩:=h.at (x:=d) (.inl rfl);have he:(evI l k c d).2.2.1=0:=by unfold evI;rw[if_pos h.ha,h.hs];simp only;rw[h3]
 unfold Go.GP.exS;rw[if_pos he,h.hs];rfl
theorem EvC.hd(hM:c.2.2.length<=10):∃t,Ij l k s c 40 [] (-1) d 0=ndD l k s c (-1) d 0::t:=by have hK:=(h.kids (n:=39) (h.sub hM 39) hM h.root.1 (by have:=h.root.2;omega) (Yw l k s c d) (.inl ⟨rfl,rfl⟩) l7 (by have:=h.root.2;omega) A7 rfl _ (E5 _)).1;rw[ax]at hK;obtain⟨t,ht⟩:=hK.pre;exact⟨t,ht⟩
end
theorem a2N{l:Z7}{k:Int}{c:bP}{d:Int}(hL:SmL l)(hC:SmC c)(hT:∀t∈l.2.1,yQ t)(hM:c.2.2.length<=10):uV l k c d=some (exS l k c d):=by
 unfold uV;rw[PY hL hC hT,o9];by_cases h0:(evI l k c d).2.2.1=0
 ·obtain⟨s,X,b,h⟩:=a8f hL hC hT h0;rw[O8 h0,F9,o6];have hf:2*40<=jS:=by unfold jS;omega
  obtain⟨fd',g1,g2⟩:=h.subP hM 40 jS hf (-1) d 0 [] [] h.root.1 h.root.2 (Yw l k s c d) (.inl ⟨rfl,rfl⟩) l7 (by have:=h.root.2;omega) A7 (b4F l k s c);rw[show tY ([],l,k,c,[],0,0,0,0) (-1,d) 0=(I8 jS).1 (Bd l k c [] []) (-1,d) 0 from rfl,g1,o9,h.exS];rfl
 ·unfold exS;rw[L9 h0,iw,o7,if_neg h0]
section
variable {l:Z7} {k:Int} {s:D6} {c:bP} {d:Int} {X:DB} {b:List DB} (h:EvC l k s c d X b)
include h
theorem EvC.wfm(hM:c.2.2.length<=10):lX (Ij l k s c 40 [] (-1) d 0)=some true:=by have hf:=h.few hM;have hp:=h.nodes hM;obtain⟨t,ht⟩:=h.hd hM;rw[WW l7];rw[b1R l7 (λx hx=>by have:=hp.ok.dp x hx;unfold jc;omega),hp.ok.wf];rw[ht];rw[show D9 0 (x8 (ndD l k s c (-1) d 0::t))=true from U5 (by simp only[x8,G5];omega)];rfl
end
end
section
theorem b3d{c:bP}(h:smC c=true):c.2.2.length<=10:=by
 unfold smC at h;cases h1:D9 14 (x8 c.2.1)<;>rw[h1]at h
 case true=>cases h
 cases h2:D9 10 (x8 c.2.2)<;>rw[h2]at h
 case true=>cases h
 rw[iL]at h2;unfold x8 at h2;omega
theorem b3B{α:Type}{l:List α}{i:Nat}{a:α}(h:l[i]? =some a):Y3 l (Y0 (i:Int))=some a:=by unfold Y3 Y0;simpa using h
def csM(s:D6)(k:Int)(c:bP)(m:Int):bP×Int:=l9 (J6 0 m) ((c.1,DI c m,[]),s.2.1) (c,k)
theorem a8e(l:Z7)(k:Int)(s:D6)(c:bP)(m x:Int):evM l k s c m x=evI l (csM s k c m).2 (csM s k c m).1 x:=by unfold evM csM;cases J6 0 m<;>rfl
theorem b4J(s:D6)(k:Int)(c:bP)(m:Int):(csM s k c m).1.2.1=DI c m:=by unfold csM DI;cases J6 0 m<;>rfl
section
variable {l:Z7} {k:Int} {s:D6} {c:bP} {d:Int} {X:DB} {b:List DB} (h:EvC l k s c d X b)
include h
theorem EvC.csOk{m x:Int}(hg:Gd l s c d m x):J6 (x8 c.2.2) m=false/\l9 (J6 0 m) (o5 (H8 c.2.2 m) λ(x:List Y2)=>o5 (H8 l.2.2 k) λ(x_9:D6)=>some (((c.1,x,[]):bP),x_9.2.1)) (some (c,k))=some (csM s k c m)/\SmC (csM s k c m).1:=by
 rcases hg with⟨rfl,_⟩|⟨j,u,rfl,hj,_⟩
 ·exact⟨Y1 (by unfold x8;omega),rfl,h.hC⟩
 ·have hi:DI c (j:Int)=u:=by unfold DI;rw[nX,o7,YN hj];rfl
  have hlt:=(Z4.1 hj).1;refine⟨Y1 (by unfold x8;omega),?_,?_⟩
  ·unfold csM;rw[nX,o7,o7,YN hj,o9,h.hs,hi];rfl
  ·unfold csM;rw[nX,o7,hi];exact⟨h.hC.nv u (su hj),A7,A7⟩
end
theorem NS{l:Z7}(hW:WfL l)(k:Int)(c:bP)(d:Int):xN l k c d=some true:=by
 unfold xN;rw[a1L,o9,ZA,b2b];cases hl:smL l
 ·rfl
 cases hc:smC c
 ·rfl
 obtain⟨hL,hT⟩:=b5w hl hW;have hC:=b5v hc;have hM:=b3d hc;rw[F9,o6,o9,F9,o6,o9,X7,a2N hL hC hT hM,o9,PY hL hC hT,o9];by_cases h0:(evI l k c d).2.2.1=0
 ·obtain⟨s,X,b,h⟩:=a8f hL hC hT h0;obtain⟨v,r,_,_,h3,_⟩:=h.at (x:=d) (.inl rfl);have he:evI l k c d=(v,r,0,0,0,0):=by
   unfold evI;rw[if_pos h.ha,h.hs];exact h3
  rw[h.exS,he];obtain⟨A,hA⟩:∃A,A=Ij l k s c 40 [] (-1) d 0:=⟨_,rfl⟩;have hf:=h.few hM;have hp:=h.nodes hM;have hwf:=h.wfm hM;obtain⟨t,ht⟩:=h.hd hM;rw[←hA]at hf hp hwf ht ⊢;have hk:=dW h.hs;simp only[show ∀(A:List Nd),((A,(0:Int),(0:Int),(0:Int),(0:Int)):List Nd×E4).1=A from λ_=>rfl];rw[show(E9 (dE (o8 0 0) (dE (o8 0 0) (dE (o8 0 0) (o8 0 0)))))=false from rfl,o6,show E9 (o8 0 0)=false from rfl,o6,hwf,o9,F9,o6,L6 hk.1,o6,Y1 hk.2.1,o6];have h00:A[0]? =some (ndD l k s c (-1) d 0):=by rw[ht];rfl
  have hl0:H8 A 0=some (ndD l k s c (-1) d 0):=YN (j:=0) h00;have hg0:Y3 A (Y0 0)=some (ndD l k s c (-1) d 0):=b3B (i:=0) h00;rw[hl0,o9,hg0,o9,o9,o9,show o8 (ndD l k s c (-1) d 0).2.2.2.1 d=true from O8 rfl,F9,o6,show o8 (ndD l k s c (-1) d 0).2.2.1 (-1)=true from rfl,F9,o6,o9,X7];refine fK (Gx A (λ_=>false) false PUnit.unit l7 (λi y hy=>?_) (by rw[W9];rfl)) ?_
  ·have hnd:=hp.ok.nd y (su hy);simp only[X3 hy,o7,J9,hy,o9,b3B hy];obtain⟨x,hg⟩:∃x,Gd l s c d y.2.2.1 x:=by
    rcases hnd with⟨_,g,_⟩|⟨_,g,_⟩|⟨_,⟨x,g⟩,_⟩|⟨_,⟨x,g⟩,_⟩|⟨_,⟨x,g⟩,_⟩
    ·exact⟨_,g⟩
    ·exact⟨_,g⟩
    ·exact⟨x,g⟩
    ·exact⟨x,g⟩
    ·exact⟨x,g⟩
   obtain⟨q1,q2,q3⟩:=h.csOk hg;rw[q1,o6,q2,o9];rcases hnd with⟨e,g,e2,e3⟩|⟨e,g,e2,e3⟩|⟨e,_,e0,e1,e2,e3⟩|⟨e,_,e1,e2,e3⟩|⟨e,_⟩
   ·rw[show o8 y.1 1=true from O8 e,o7,o9,o7,PY hL q3 hT,o9,←a8e];obtain⟨v',r',q',p1,_⟩:=h.met g;have hev:evM l k s c y.2.2.1 y.2.2.2.1=(v',r',0,0,0,0):=p1;have e2:y.2.2.2.2.1=(evM l k s c y.2.2.1 y.2.2.2.1).2.1:=e2;have e3:y.2.2.2.2.2=(evM l k s c y.2.2.1 y.2.2.2.1).1:=e3;rw[hev]at e2 e3;rw[hev];simp only;rw[e3,e2,show E9 (o8 0 0)=false from rfl,o6,pV,pV,pV,pV];rfl
   ·rw[show o8 y.1 1=false by rw[show y.1=5 from e];rfl,show o8 y.1 5=true from O8 e,o6,o9,o7,PY hL q3 hT,o9,←a8e];obtain⟨v',r',q',p1,_⟩:=h.met g;have hev:evM l k s c y.2.2.1 y.2.2.2.1=(v',r',0,0,0,0):=p1;have e3:y.2.2.2.2.2=(evM l k s c y.2.2.1 y.2.2.2.1).1:=e3;rw[hev]at e3;rw[hev];simp only;rw[e3,show E9 (o8 0 0)=false from rfl,o6,pV,pV,pV];rfl
   ·rw[show o8 y.1 1=false by rw[show y.1=2 from e];rfl,show o8 y.1 5=false by rw[show y.1=2 from e];rfl,show o8 y.1 2=true from O8 e,o6,o9,o6,o7,b4J];have e1:y.2.2.2.1<x8 (DI c y.2.2.1):=e1;obtain⟨w,hw,_⟩:=mf (l:=DI c y.2.2.1) (i:=y.2.2.2.1) e0 e1;have e3:y.2.2.2.2.2=(H8 (DI c y.2.2.1) y.2.2.2.1).getD (0,0,0):=e3;rw[hw]at e3;have e3:y.2.2.2.2.2=w:=e3;rw[Y1 e1,o6,hw,o9,e3,pV,pV,pV];rfl
   ·rw[show o8 y.1 1=false by rw[show y.1=4 from e];rfl,show o8 y.1 5=false by rw[show y.1=4 from e];rfl,show o8 y.1 2=false by rw[show y.1=4 from e];rfl,show o8 y.1 4=true from O8 e,o6,o9,o6,o6,o7];have e3:y.2.2.2.2.2=(5,0,c.1):=e3;rw[e3,pV c.1];rfl
   ·rw[show o8 y.1 1=false by rw[show y.1=3 from e];rfl,show o8 y.1 5=false by rw[show y.1=3 from e];rfl,show o8 y.1 2=false by rw[show y.1=3 from e];rfl,show o8 y.1 4=false by rw[show y.1=3 from e];rfl,o6,o9,o6,o6,o6];rfl
  ·rw[show A.any (λ_=>false)=false by simp];rfl
 ·unfold exS;rw[if_neg h0,pV,pV,pV,pV,L9 h0];rfl
end
end Go.GP
namespace Go.GP
open Gt
theorem MZ:∀x,a2k Gt.ps3 x->(Gt.s3.fn x:Option Bool)=some true:=λx h=>NS (c1A h.1) x.2.1 x.2.2.1 x.2.2.2
end Go.GP
