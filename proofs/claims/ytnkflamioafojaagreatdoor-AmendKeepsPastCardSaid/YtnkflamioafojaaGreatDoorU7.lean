import Derived.Test.YtnkflamioafojaaGreatDoorU5
import Derived.Test.YtnkflamioafojaaGreatDoorU6
set_option linter.all false
namespace Go.GP
open Gt
set_option maxRecDepth 100000
def a3c(r:lG):Prop:=kQ r.2.1/\kQ r.2.2.1/\kQ r.2.2.2
def rC(t:ak):Prop:=t.2.2.2.length<=200/\∀r∈t.2.2.2,a3c r
theorem a1E{len n:Int}(h:(ED len n).2.2=true)(hl:0<=len):-1000000000000000<=(ED len n).1/\(ED len n).1<=1000000000000000/\-1000000<=(ED len n).2.1/\(ED len n).2.1<=1000000:=by
 have hA:0<=len*ax n:=P7 hl (lQ n);unfold ED at*;generalize len*ax n=A at*;cases h1:E5 1000000000000000 (A / 1000000)<;>rw[h1]at h
 .rw[gU]at h1;cases E5 n 0
  .simp only[o6];omega
  .simp only[o6,o7];omega
 .cases h
def brG(date c:Int)(b:Int×Int)(r:lG):(Int×Int)⊕(Int×Int):=l7 (sW r.1 date) (l7 (J8 (qG r.2.2.1 c) (mZ r.2.1 0)) (.inl b)
 (l7 (ED (qG r.2.2.1 c -mZ r.2.1 0) r.2.2.2).2.2 (.inl (b.1+(ED (qG r.2.2.1 c -mZ r.2.1 0) r.2.2.2).1,b.2+(ED (qG r.2.2.1 c -mZ r.2.1 0) r.2.2.2).2.1)) (.inr (0,3)))) (.inl b)
def a5Y(t:ak)(date c mode:Int):Int×Int:=l7 (pU mode) (l7 (fG (o9 t.2.1.1 3) (o9 t.2.1.2 0)) (l7 (fG (o9 t.2.2.1.1 4) (o9 t.2.2.1.2 0)) (l7 (kZ c 1000000000000000) (0,3)
 (match dE (brG date c) t.2.2.2 (0,0)with| .inl b=>a0f b.1 b.2 mode| .inr r=>r)) (0,8)) (0,8)) (0,1)
def XQ(i:Nat)(b:Int×Int):Prop:=-(1000000000000000*(i:Int))<=b.1/\b.1<=1000000000000000*(i:Int)/\-(1000000*(i:Int))<=b.2/\b.2<=1000000*(i:Int)
theorem Yk{r:lG}{c:Int}(hr:a3c r)(hc:-1000000000000000<=c)(hc2:c<=1000000000000000)(h:J8 (qG r.2.2.1 c) (mZ r.2.1 0)=false):G8 .i64 (qG r.2.2.1 c) (mZ r.2.1 0)=qG r.2.2.1 c -mZ r.2.1 0/\1<=qG r.2.2.1 c -mZ r.2.1 0/\qG r.2.2.1 c -mZ r.2.1 0<=1000000000000000:=by
 obtain⟨h1,h2,h3⟩:=hr;obtain⟨lo,hlo⟩:∃lo:Int,r.2.1=lo:=⟨_,rfl⟩;obtain⟨hi,hhi⟩:∃hi:Int,r.2.2.1=hi:=⟨_,rfl⟩;rw[hlo]at h h1 ⊢;rw[hhi]at h h2 ⊢;rw[Fa]at h;have a1:0<=mZ lo 0:=by unfold mZ;split<;>omega
 have a2:qG hi c<=c:=by unfold qG;split<;>omega
 refine⟨V4 P6,o5,o5⟩
variable {i:Nat}
theorem b1M{date c:Int}{r:lG}{b:Int×Int}(hr:a3c r)(hc:-1000000000000000<=c)(hc2:c<=1000000000000000)(hi:i<=200)(hb:XQ i b):∀b',brG date c b r= .inl b' ->XQ (i+1) b' :=by
 intro b' h;unfold XQ at*;unfold brG at h;cases h1:sW r.1 date<;>rw[h1]at h
 .cases h;omega
 simp only[o7]at h;cases h2:J8 (qG r.2.2.1 c) (mZ r.2.1 0)<;>rw[h2]at h
 .obtain⟨_,g1,g2⟩:=Yk hr hc hc2 h2;simp only[o6]at h;cases h3:(ED (qG r.2.2.1 c -mZ r.2.1 0) r.2.2.2).2.2<;>rw[h3]at h
  .cases h
  .have hbd:=a1E h3 o5;cases h;simp only;omega
 .cases h;omega
variable {t:ak}
theorem a3p(date c mode:Int)(ht:rC t):Dk t date c mode=some (a5Y t date c mode):=by
 unfold Dk a5Y;rw[a4s];cases hm:pU mode
 .rfl
 simp only[o7,x8,aj];cases fG (o9 t.2.1.1 3) (o9 t.2.1.2 0)
 .rfl
 cases fG (o9 t.2.2.1.1 4) (o9 t.2.2.1.2 0)
 .rfl
 simp only[G6,o6,o7,x8,aj];have hbey:∀A B:Option (PUnit⊕(Int×Int)),l7 (E5 c (-1000000000000000)) A (l7 (E5 1000000000000000 c) A B)=l7 (kZ c 1000000000000000) A B:=λA B=>by unfold kZ;cases E5 c (-1000000000000000)<;>cases E5 1000000000000000 c<;>rfl
 rw[hbey];cases hb:kZ c 1000000000000000
 case true=>rfl
 have bb:=qL hb;simp only[o6,x8,aj];refine rY t.2.2.2 (brG date c) (λb i=>(b.1,b.2,i)) (λb=>b) XQ ((0,0):Int×Int) (by have:=ht.1;omega) (by unfold XQ;simp) (λi r b hr hi hI=>?_) (λb hI=>?_) (λhI=>?_)
 .have hro:=ht.2 r (mM hr);have hlt:=(aO.1 hr).1;have h200:=ht.1;refine⟨?_,b1M hro bb.1 bb.2 o5 hI⟩;simp only[V6 hr,o7,I5,hr,x8,Bg];rw[iy o5];unfold brG;cases sW r.1 date
  .rfl
  simp only[G6,o6,o7];cases h2:J8 (qG r.2.2.1 c) (mZ r.2.1 0)
  case true=>rfl
  obtain⟨g0,g1,g2⟩:=Yk hro bb.1 bb.2 h2;rw[g0,b6V g1 g2 hro.2.2];simp only[o6,x8];cases h3:(ED (qG r.2.2.1 c -mZ r.2.1 0) r.2.2.2).2.2
  .rfl
  .have hbd:=a1E h3 o5;unfold XQ at hI;rw[Z8 P6,Z8 P6];rfl
 .simp only[V5];rfl
 .cases hf:dE (brG date c) t.2.2.2 (0,0)with
  |inr r=>rfl|inl b=>have:=hI b hf;unfold XQ at this;have h200:=ht.1;simp only[aj];rw[a4U hm o5 o5 o5 o5];rfl
theorem LW(date c mode:Int)(ht:rC t):yH t date c mode=some (a5Y t date c mode):=by
 unfold yH a5Y;rw[Uo,x8];cases hm:pU mode
 .rfl
 simp only[G6,o6,o7];cases fG (o9 t.2.1.1 3) (o9 t.2.1.2 0)
 .rfl
 cases fG (o9 t.2.2.1.1 4) (o9 t.2.2.1.2 0)
 .rfl
 simp only[G6,o6,o7,x8,aj];rw[uH c o5 o5,x8];cases hb:kZ c 1000000000000000
 case true=>rfl
 have bb:=qL hb;simp only[o6];refine rY t.2.2.2 (brG date c) (λb i=>(b.1,b.2,i)) (λb=>b) XQ ((0,0):Int×Int) (by have:=ht.1;omega) (by unfold XQ;simp) (λi r b hr hi hI=>?_) (λb hI=>?_) (λhI=>?_)
 .have hro:=ht.2 r (mM hr);have hlt:=(aO.1 hr).1;have h200:=ht.1;refine⟨?_,b1M hro bb.1 bb.2 o5 hI⟩;simp only[V6 hr,o7,I5,hr,x8,Un];rw[iy o5];unfold brG;cases h2:J8 (qG r.2.2.1 c) (mZ r.2.1 0)
  case true=>cases sW r.1 date<;>rfl
  simp only[o6];cases sW r.1 date
  .rfl
  obtain⟨g0,g1,g2⟩:=Yk hro bb.1 bb.2 h2;rw[g0,b3V g1 g2 hro.2.2];simp only[G6,o6,o7,x8];cases h3:(ED (qG r.2.2.1 c -mZ r.2.1 0) r.2.2.2).2.2
  .rfl
  .have hbd:=a1E h3 o5;unfold XQ at hI;rw[Z8 P6,Z8 P6];rfl
 .simp only[V5];rfl
 .cases hf:dE (brG date c) t.2.2.2 (0,0)with
  |inr r=>rfl|inl b=>have:=hI b hf;unfold XQ at this;have h200:=ht.1;simp only[aj];rw[Y_ hm o5 o5 o5 o5,x8,uH _ o5 o5,x8];unfold a0f;cases kZ (rnd (b.1*1000000+b.2) 1000000 mode) 1000000000000000<;>rfl
def JJ(r:lG)(date key:Int):Bool:=l7 (sW r.1 date) (l7 (J8 r.2.1 key) (E5 key r.2.2.1) false) false
def Jd(rows:List lG)(date key:Int)(i:Nat):Option (Int×Bool):=match rows[i]? with|some r=>l7 (JJ r date key) (some ((i:Int),true)) none|none=>none
def OU(rows:List lG)(date key:Int):Int×Bool:=match ae rows.length (Jd rows date key)with|some x=>x|none=>(0,false)
theorem b0m(date key:Int)(ht:t.2.2.2.length<=1000000):Gv t date key=some (OU t.2.2.2 date key):=by
 unfold Gv wQ OU;rw[lm];refine fU (vJ (p:=Jd t.2.2.2 date key) t.2.2.2.length ht PUnit.unit (λi hi=>?_) ?_) ?_
 rotate_left 2
 .cases ae t.2.2.2.length (Jd t.2.2.2 date key)<;>rfl
 .have e:=fO hi;simp only[V6 e,o7,I5,e,x8,Iz,Bg,Jd,JJ];cases sW t.2.2.2[i].1 date
  .rfl
  cases J8 t.2.2.2[i].2.1 key
  .rfl
  cases E5 key t.2.2.2[i].2.2.1<;>rfl
 .simp only[V5];rfl
theorem SG(date key:Int)(ht:t.2.2.2.length<=1000000):Me t date key=some (OU t.2.2.2 date key):=by
 unfold Me OU;refine fU (vJ (p:=Jd t.2.2.2 date key) t.2.2.2.length ht PUnit.unit (λi hi=>?_) ?_) ?_
 rotate_left 2
 .cases ae t.2.2.2.length (Jd t.2.2.2 date key)<;>rfl
 .have e:=fO hi;simp only[V6 e,o7,I5,e,x8,Rk,Un,Jd,JJ];cases sW t.2.2.2[i].1 date
  .rfl
  cases J8 t.2.2.2[i].2.1 key
  .rfl
  cases E5 key t.2.2.2[i].2.2.1<;>rfl
 .simp only[V5];rfl
theorem b2A{rows:List lG}{date key i:Int}(h:OU rows date key=(i,true)):0<=i/\i<o8 rows:=by
 unfold OU at h;split at h
 .rename_i x hx;subst h;obtain⟨k,hk,hp⟩:=gZ hx;unfold Jd at hp;split at hp
  .rename_i r hr;cases hmb:JJ r date key<;>rw[hmb]at hp
   .cases hp
   .cases hp;simp only[o8];omega
  .cases hp
 .cases h
abbrev V3:Type:=Int×Int×Int
def GZ(k:Int):Int×Int:=l7 (o9 k 1) (0,1) (l7 (o9 k 2) (-1000000000000,1000000000000) (l7 (o9 k 3) (-1000000000000000,1000000000000000) (l7 (o9 k 4) (-1000000000,1000000000) (l7 (o9 k 5) (0,109572) (l7 (o9 k 6) (0,15) (0,-1))))))
theorem a8x(k:Int):CY k=some (GZ k):=by unfold CY GZ;cases o9 k 1<;>cases o9 k 2<;>cases o9 k 3<;>cases o9 k 4<;>cases o9 k 5<;>cases o9 k 6<;>rfl
def plB(v:V3):Bool:=l7 (J8 (GZ v.1).1 v.2.2) (l7 (J8 v.2.2 (GZ v.1).2) (l7 (o9 v.1 6) (l7 (J8 0 v.2.1) (E5 v.2.1 8) false) (o9 v.2.1 0)) false) false
theorem Eu(v:V3):jX v=some (plB v):=by
 unfold jX plB;rw[a8x,x8,ug,ug];cases J8 (GZ v.1).1 v.2.2
 .rfl
 cases J8 v.2.2 (GZ v.1).2
 .rfl
 cases o9 v.1 6
 .rfl
 cases J8 0 v.2.1<;>rfl
theorem yZ(v:V3):iM v=some (plB v):=by
 obtain⟨k,e,n⟩:=v;unfold iM plB;simp only;by_cases h6:k=6
 .subst h6;rw[show GZ 6=(0,15)from rfl,X0 (rfl:(6:Int)=6)];simp only[G6,o6,x8,aj,U2 (show(6:Int)≠1 by decide),U2 (show(6:Int)≠2 by decide),U2 (show(6:Int)≠3 by decide),U2 (show(6:Int)≠4 by decide),U2 (show(6:Int)≠5 by decide),o7];rw[show E5 n 16=J8 n 15 by unfold E5 J8;congr 1;simp;omega];cases J8 0 e<;>cases E5 e 8<;>cases J8 0 n<;>cases J8 n 15<;>rfl
 rw[U2 h6];simp only[gz,o7,o6];by_cases he:e=0
 case neg=>rw[U2 he];simp only[gz,o7,x8,Iy];cases J8 (GZ k).1 n<;>cases J8 n (GZ k).2<;>rfl
 rw[X0 he];simp only[G6,o6,x8,aj];by_cases h1:k=1
 .subst h1;rw[show GZ 1=(0,1)from rfl];simp only[X0 (rfl:(1:Int)=1),o7];by_cases n0:n=0
  .subst n0;rfl
  by_cases n1:n=1
  .subst n1;rfl
  rw[U2 n0,U2 n1];by_cases g:0<=n
  .rw[af g,aA o5];rfl
  .rw[aA o5];rfl
 rw[U2 h1,o6];by_cases h2:k=2
 .subst h2;rw[show GZ 2=(-1000000000000,1000000000000)from rfl,X0 (rfl:(2:Int)=2)];simp only[o7];cases J8 (-1000000000000) n<;>cases J8 n 1000000000000<;>rfl
 rw[U2 h2,o6];by_cases h3:k=3
 .subst h3;rw[show GZ 3=(-1000000000000000,1000000000000000)from rfl,X0 (rfl:(3:Int)=3)];simp only[o7];cases J8 (-1000000000000000) n<;>cases J8 n 1000000000000000<;>rfl
 rw[U2 h3,o6];by_cases h4:k=4
 .subst h4;rw[show GZ 4=(-1000000000,1000000000)from rfl,X0 (rfl:(4:Int)=4)];simp only[o7];cases J8 (-1000000000) n<;>cases J8 n 1000000000<;>rfl
 rw[U2 h4,o6];by_cases h5:k=5
 .subst h5;rw[show GZ 5=(0,109572)from rfl,X0 (rfl:(5:Int)=5)];simp only[o7];cases J8 0 n<;>cases J8 n 109572<;>rfl
 rw[U2 h5,o6,show GZ k=(0,-1) by unfold GZ;rw[U2 h1,U2 h2,U2 h3,U2 h4,U2 h5,U2 h6];rfl];simp only[o6];by_cases g:0<=n
 .rw[af g,aA (show(-1:Int)<n by omega)];rfl
 .rw[aA (show n<0 by omega)];rfl
def PV(v:V3):Prop:=(∃n,v=(1,0,n)/\(n=0\/n=1))\/(∃n,v=(2,0,n)/\-1000000000000<=n/\n<=1000000000000)\/(∃n,v=(3,0,n)/\-1000000000000000<=n/\n<=1000000000000000)\/(∃n,v=(4,0,n)/\-1000000000<=n/\n<=1000000000)\/(∃n,v=(5,0,n)/\0<=n/\n<=109572)\/(∃e n,v=(6,e,n)/\0<=n/\n<=15)
theorem a6W{v:V3}(h:plB v=true):PV v:=by
 obtain⟨k,e,n⟩:=v;unfold plB at h;simp only at h;cases h1:J8 (GZ k).1 n<;>rw[h1]at h
 .cases h
 cases h2:J8 n (GZ k).2<;>rw[h2]at h
 .cases h
 simp only[o7]at h;rw[sK]at h1 h2;unfold PV;by_cases k6:k=6
 .subst k6;rw[show GZ 6=(0,15)from rfl]at h1 h2;exact .inr (.inr (.inr (.inr (.inr ⟨e,n,rfl,h1,h2⟩))))
 rw[U2 k6,o6,Z5]at h;subst h;by_cases k1:k=1
 .subst k1;rw[show GZ 1=(0,1)from rfl]at h1 h2;exact .inl ⟨n,rfl,by simp only at h1 h2;omega⟩
 by_cases k2:k=2
 .subst k2;exact .inr (.inl ⟨n,rfl,h1,h2⟩)
 by_cases k3:k=3
 .subst k3;exact .inr (.inr (.inl ⟨n,rfl,h1,h2⟩))
 by_cases k4:k=4
 .subst k4;exact .inr (.inr (.inr (.inl ⟨n,rfl,h1,h2⟩)))
 by_cases k5:k=5
 .subst k5;exact .inr (.inr (.inr (.inr (.inl ⟨n,rfl,h1,h2⟩))))
 .rw[show GZ k=(0,-1) by unfold GZ;rw[U2 k1,U2 k2,U2 k3,U2 k4,U2 k5,U2 k6];rfl]at h1 h2;simp only at h1 h2;omega
def IG(v:V3):V3×Int:=l7 (plB v) (v,0) ((0,0,0),3)
def C_(v:V3)(c:Int):V3×Int:=l7 (o9 c 0) (IG v) ((0,0,0),c)
theorem TV(k n:Int):eU k n=some (IG (k,0,n)):=by unfold eU IG;rw[Eu,x8];cases plB (k,0,n)<;>rfl
theorem b8q(k n c:Int):qE k n c=some (C_ (k,0,n) c):=by
 unfold qE C_;cases o9 c 0
 .rfl
 simp only[G6,o6,o7];rw[TV];rfl
def d1J(b:Bool):V3×Int:=((1,0,l7 b 1 0),0)
theorem b0P(b:Bool):uw b=some (d1J b):=by cases b<;>rfl
theorem b6F(b:Bool):rM b=some (1,0,l7 b 1 0):=by cases b<;>rfl
theorem b6E(b:Bool):IG (1,0,l7 b 1 0)=d1J b:=by cases b<;>rfl
def a9Z(c:Option (V3×Int)):Option (V3×Int):=l9 c λ(x:V3×Int)=>l7 (D9 (o9 x.2 0)) (some ((0,0,0),x.2)) (l9 (iM x.1) λ(x_1:Bool)=>l7 (D9 x_1) (some ((0,0,0),3)) (some (x.1,0)))
theorem DR(v:V3)(c:Int):a9Z (some (v,c))=some (C_ v c):=by
 unfold a9Z C_ IG;simp only[x8];cases o9 c 0
 .rfl
 simp only[G6,o6,o7];rw[yZ,x8];cases plB v<;>rfl
theorem PW(v:V3):C_ v 0=IG v:=rfl
def EP(n:Int×Int)(args:List V3)(env:dK):Option (V3×Int):=l9 (aI n args env) λ(x:Bool)=>l7 (D9 x) (some ((0,0,0),8)) (a9Z (aJ n args env))
def RP(a0:Int×Int)(a1:List V3)(a2:dK):Option (V3×Int):=
 l7 (o9 (o8 a1) 0) (l7 (J8 36 a0.1) (l7 (J8 a0.1 39) (l9 (oV a0 a2) λ(x:V3×Int)=>some x) (l9 (iC a0 a2) λ(x:V3×Int)=>some x)) (l9 (iC a0 a2) λ(x:V3×Int)=>some x))
  (l7 (o9 (o8 a1) 1) (l9 (G9 a1 0) λ(x:V3)=>l9 (lF a0 x a2) λ(x:V3×Int)=>some x)
  (l7 (o9 (o8 a1) 2) (l9 (G9 a1 0) λ(x:V3)=>l9 (G9 a1 1) λ(x_1:V3)=>l9 (jB a0 x x_1) λ(x:V3×Int)=>some x)
  (l9 (G9 a1 0) λ(x:V3)=>l9 (G9 a1 1) λ(x_1:V3)=>l9 (G9 a1 2) λ(x_2:V3)=>l7 (D9 (o9 x.1 1)) (some ((0,0,0),8)) (l7 (D9 (o9 x_1.1 x_2.1)) (some ((0,0,0),8)) (l7 (D9 (o9 x_1.2.1 x_2.2.1)) (some ((0,0,0),8)) (l7 (o9 x.2.2 1) (some (x_1,0)) (some (x_2,0))))))))
def jE(n:Int×Int)(args:List V3)(env:dK):Prop:=∃r:V3×Int,RP n args env=some r/\EP n args env=some r
theorem ll0:o8 ([]:List V3)=0:=rfl
theorem ll1(a:V3):o8 [a]=1:=rfl
theorem ll2(a b:V3):o8 [a,b]=2:=rfl
theorem ll3(a b c:V3):o8 [a,b,c]=3:=rfl
theorem la0(a:V3)(l:List V3):G9 (a::l) 0=some a:=rfl
theorem la1(a b:V3)(l:List V3):G9 (a::b::l) 1=some b:=rfl
theorem la2(a b c:V3)(l:List V3):G9 (a::b::c::l) 2=some c:=rfl
def dh:=And.intro @X0 (And.intro @U2 (And.intro @af (And.intro @aA (And.intro @V7 (And.intro @O6 (And.intro @o7 (And.intro @o6 (And.intro @x8 (And.intro @aj (And.intro @Iy (And.intro @G6 (And.intro @gz (And.intro @ll0 (And.intro @ll1 (And.intro @ll2 (And.intro @ll3 (And.intro @la0 (And.intro @la1 (And.intro @la2 (And.intro @TV (And.intro @b8q (And.intro @Eu (And.intro @yZ (And.intro @DR (And.intro @PW (And.intro @b0P (And.intro @b6F (@b6E))))))))))))))))))))))))))))
theorem Tv(k N:Int)(env:dK)(hk:k=1\/k=2\/k=3\/k=4\/k=5):jE (k,N) [] env:=by
 rcases hk with rfl|rfl|rfl|rfl|rfl <;>
 .unfold jE RP iC EP aI aJ;simp (disch:=decide) only[dh];exact⟨_,rfl,rfl⟩
theorem c3J(N:Int)(env:dK):jE (6,N) [] env:=by unfold jE RP iC EP aI aJ;simp (disch:=decide) only[dh];unfold IG;cases plB (6,cZ IntKind.i64 N 16,dG N 16)<;>exact⟨_,rfl,rfl⟩
theorem c3N(N:Int)(env:dK):jE (9,N) [] env:=by unfold jE RP iC EP aI aJ;simp (disch:=decide) only[dh];exact⟨_,rfl,rfl⟩
theorem b9r(N:Int)(env:dK):jE (35,N) [] env:=by unfold jE RP iC EP aI aJ;simp (disch:=decide) only[dh];exact⟨_,rfl,rfl⟩
theorem c3K(N:Int)(env:dK)(h:jO (7,N) env=some true):jE (7,N) [] env:=by
 unfold jO at h;simp (disch:=decide) only[X0,U2,o7,o6]at h;by_cases g:0<=N
 case neg=>rw[aA o5]at h;cases h
 rw[af g,o7]at h;have h2:=ku.1 (aQ h);obtain⟨x,hx,hm⟩:=qA g h2;unfold jE RP iC EP aI aJ;simp (disch:=decide) only[dh];rw[hx];simp (disch:=decide) only[dh];unfold IG;cases plB x<;>exact⟨_,rfl,rfl⟩
theorem c3M(N:Int)(env:dK)(h:jO (8,N) env=some true):jE (8,N) [] env:=by
 unfold jO at h;simp (disch:=decide) only[X0,U2,o7,o6]at h;by_cases g:0<=N
 case neg=>rw[aA o5]at h;cases h
 rw[af g,o7]at h;by_cases h2:N<o8 env.2.2.1
 case neg=>rw[O6 o5]at h;cases h
 obtain⟨x,hx,hm⟩:=qA g h2;unfold jE RP iC EP aI aJ;simp (disch:=decide) only[dh];rw[hx];simp (disch:=decide) only[dh];unfold IG;cases plB x<;>exact⟨_,rfl,rfl⟩
def Sr(k:Int)(t:Int×Int):Bool:=l7 (o9 t.2 0) (l7 (o9 k 36) (l7 (o9 t.1 2) true (o9 t.1 3)) (l7 (o9 k 39) (l7 (J8 2 t.1) (J8 t.1 5) false) (o9 t.1 1))) false
theorem a2j(k:Int)(t:Int×Int):JO k t=some (Sr k t):=by unfold JO Sr;cases o9 t.2 0<;>cases o9 k 36<;>cases o9 k 39<;>cases o9 t.1 2<;>cases J8 2 t.1<;>rfl
theorem DZ(t:Int):uC t=some (l7 (J8 2 t) (J8 t 4) false):=by
 unfold uC;by_cases h2:t=2
 .subst h2;rfl
 by_cases h3:t=3
 .subst h3;rfl
 by_cases h4:t=4
 .subst h4;rfl
 rw[U2 h2,U2 h3,U2 h4];by_cases g:2<=t
 .rw[af g,aA o5];rfl
 .rw[aA o5];rfl
theorem Ij(t:Int):Gi t=some (l7 (J8 2 t) (J8 t 4) false):=DZ t
theorem R_(k:Int)(t:Int×Int):wF k t=some (Sr k t):=by
 unfold wF Sr;cases o9 t.2 0
 .rfl
 cases o9 k 36
 .cases o9 k 39
  .rfl
  .rw[DZ];simp only[G6,o6,o7,x8];by_cases g:2<=t.1
   .rw[af g];simp only[o7];by_cases g4:t.1<=4
    .rw[af g4,af (show t.1<=5 by omega)];rfl
    .rw[aA o5];by_cases g5:t.1=5
     .rw[X0 g5,af o5];rfl
     .rw[U2 g5,aA o5];rfl
   .rw[aA o5,U2 o5];rfl
 .cases o9 t.1 2<;>rfl
def Vx(v:V3)(t:Int×Int):Bool:=l7 (plB v) (l7 (o9 v.1 t.1) (o9 v.2.1 t.2) false) false
theorem YT(v:V3)(t:Int×Int):BZ v t=some (Vx v t):=by unfold BZ Vx;rw[yZ,x8];cases plB v<;>cases o9 v.1 t.1<;>rfl
theorem b3X(v:V3)(t:Int×Int):VL v t=some (Vx v t):=by unfold VL Vx;rw[Eu,x8];cases plB v<;>cases o9 v.1 t.1<;>rfl
def IE(k a b:Int)(first:Bool):Int:=l7 (o9 k 36) (C9 .i64 a b) (l7 (o9 k 37) (Z7 .i64 a b) (l7 (o9 k 38) (l7 (E5 a b) b a) (l7 first b (l7 (E5 a b) b a))))
theorem b3W(k a b:Int)(f:Bool):SK k a b f=some (IE k a b f):=by unfold SK IE;cases o9 k 36<;>cases o9 k 37<;>cases o9 k 38<;>cases f<;>cases E5 a b<;>rfl
def a1Z(m:List V3)(N:Int)(t:Int×Int):V3⊕Int:=
 match G9 m N with
 |none=> .inr 6|some x=>l7 (o9 x.1 0) (.inr 6) (l7 (Vx x t) (.inl x) (.inr 8))
def II(k N:Int)(t:Int×Int)(b:Int×Bool)(m:List V3):(Int×Bool)⊕(V3×Int):=
 match a1Z m N t with
 | .inr c=> .inr ((0,0,0),c)| .inl x=>l7 (plB (t.1,0,IE k b.1 x.2.2 b.2)) (.inl (IE k b.1 x.2.2 b.2,false)) (.inr ((0,0,0),3))
def a4o(k N:Int)(t:Int×Int)(ms:List (List V3)):V3×Int:=
 l7 (Sr k t) (match dE (II k N t) ms (l7 (o9 k 37) 1 0,true)with
  | .inr c=>c
  | .inl a=>l7 (o9 k 39) (l7 (o9 (o8 ms) 0) ((0,0,0),6) (IG (t.1,0,a.1))) (IG (t.1,0,a.1))) ((0,0,0),8)
theorem Pj(k N:Int)(env:dK)(t:Int×Int)(ht:G9 env.2.2.2.2.1 N=some t)(h0:0<=N)(hl:env.2.2.2.1.length<=1000000):oV (k,N) env=some (a4o k N t env.2.2.2.1):=by
 unfold oV a4o;simp only[ht,x8,a2j];cases Sr k t
 .rfl
 simp only[G6,o6,o7];rw[show l7 (o9 k 37) (some (1:Int)) (some 0)=some (l7 (o9 k 37) 1 0) by cases o9 k 37<;>rfl,x8];apply rY env.2.2.2.1 (II k N t) (λb i=>(((0,0,0),b.1,i):V3×Int×Int)) (λb=>(((0,0,0),b.1):V3×Int)) (λi b=>b.2=decide (i=0)) (l7 (o9 k 37) 1 0,true) hl rfl
 .intro i m b hi hi' hb;have hm:=I5 env.2.2.2.1 i;rw[hi]at hm;have hlt:(i:Int)<o8 env.2.2.2.1:=by
   have:=aO.1 hi;obtain⟨h,_⟩:=this;unfold o8;omega
  simp only[V7 hlt,o7,hm,x8];refine⟨?_,?_⟩
  .unfold II a1Z;by_cases g:o8 m<=N
   .rw[af g,zN (.inr (O6 g))];rfl
   .rw[aA o5];obtain⟨x,hx,_⟩:=qA h0 (show N<o8 m by omega);simp only[o6,hx,x8];cases o9 x.1 0
    case true=>rfl
    simp only[o6,x8,aj,b3X];cases Vx x t
    .rfl
    simp only[G6,o6,o7,b3W,x8,TV];have hz:o9 (i:Int) 0=b.2:=by rw[hb];unfold o9;congr 1;simp
    rw[hz];unfold IG;cases plB (t.1,0,IE k b.1 x.2.2 b.2)
    .rfl
    .rw[iy o5];rfl
  .intro b' hb';unfold II at hb';cases hf:a1Z m N t with
   |inr c=>rw[hf]at hb';cases hb'|inl x=>rw[hf]at hb';simp only at hb';cases hp:plB (t.1,0,IE k b.1 x.2.2 b.2)<;>rw[hp]at hb'<;>cases hb';simp
 .intro b hb;rw[O6 (show o8 env.2.2.2.1<=(env.2.2.2.1.length:Int)from fV _)];rfl
 .intro _;cases dE (II k N t) env.2.2.2.1 (l7 (o9 k 37) 1 0,true)with
  |inr c=>rfl|inl a=>simp only[aj,TV,x8];cases o9 k 39<;>cases o9 (o8 env.2.2.2.1) 0<;>rfl
theorem a6A{x:V3}{t:Int×Int}(h:Vx x t=true):plB x=true/\x.1=t.1/\x.2.1=t.2:=by
 unfold Vx at h;cases h1:plB x<;>rw[h1]at h
 .cases h
 cases h2:o9 x.1 t.1<;>rw[h2]at h
 .cases h
 simp only[o7]at h;exact⟨rfl,Z5.1 h2,Z5.1 h⟩
variable {k:Int}
theorem Qw(hk:k=1){n:Int}(h:plB (k,0,n)=true):n=0\/n=1:=by subst hk;rcases a6W h with⟨m,h,g⟩|⟨m,h,g⟩|⟨m,h,g⟩|⟨m,h,g⟩|⟨m,h,g⟩|⟨e',m,h,g⟩<;>cases h;exact g
theorem VB{t:Int×Int}(h:Sr k t=true):t.2=0:=by
 unfold Sr at h;cases g:o9 t.2 0<;>rw[g]at h
 .cases h
 exact Z5.1 g
theorem a8R{t:Int×Int}(h:Sr 37 t=true):t.1=1:=by have:=VB h;unfold Sr at h;rw[X0 this]at h;exact Z5.1 h
theorem b0G(k N:Int)(t:Int×Int)(hk:k=36\/k=37\/k=38\/k=39)(ha:Sr k t=true)(b:Int×Bool)(x:V3)(hx:Vx x t=true)(i:Nat)(hi:i<=1000000)(hb:b.2=decide (i=0))(hp:k=36\/b.2=true/\k=39\/plB (t.1,0,b.1)=true)(v:V3)(hv:v=(0,0,0)):
  (l7 (o9 k 36) (l9 (iM (t.1,t.2,C9 .i64 b.1 x.2.2)) λ(q:Bool)=>l7 (D9 q) (some (Out.rt (((0,0,0),3):V3×Int))) (some (Out.nx ((v,(t.1,t.2,C9 .i64 b.1 x.2.2),C9 .i64 (i:Int) 1):V3×V3×Int))))
   (l7 (o9 k 37) (some (Out.nx (v,(t.1,t.2,qG b.1 x.2.2),C9 .i64 (i:Int) 1)))
    (l7 (o9 k 38) (some (Out.nx (v,(t.1,t.2,mZ b.1 x.2.2),C9 .i64 (i:Int) 1)))
     (l7 (o9 k 39) (l7 (o9 (i:Int) 0) (some (Out.nx (v,x,C9 .i64 (i:Int) 1))) (l7 (E5 b.1 x.2.2) (some (Out.nx (v,x,C9 .i64 (i:Int) 1))) (some (Out.nx (v,(t.1,t.2,b.1),C9 .i64 (i:Int) 1)))))
      (some (Out.nx (v,(t.1,t.2,b.1),C9 .i64 (i:Int) 1)))))):Option (Out (V3×V3×Int) (V3×V3) (V3×Int)))=
  some (match(l7 (plB (t.1,0,IE k b.1 x.2.2 b.2)) (.inl (IE k b.1 x.2.2 b.2,false)) (.inr ((0,0,0),3)):(Int×Bool)⊕(V3×Int))with| .inl b' => .nx ((0,0,0),(t.1,t.2,b'.1),((i+1:Nat):Int))| .inr r=> .rt r)/\
  (k≠36->plB (t.1,0,IE k b.1 x.2.2 b.2)=true):=by
 subst hv;have hz:=VB ha;obtain⟨hx1,hx2,hx3⟩:=a6A hx;have hxe:x=(t.1,t.2,x.2.2):=by rw[←hx2,←hx3]
 have hxp:plB (t.1,0,x.2.2)=true:=by rw[←hz,←hxe];exact hx1
 obtain⟨acc,fi⟩:=b;simp only at hb hp ⊢;rw[iy o5];rcases hk with rfl|rfl|rfl|rfl
 .refine⟨?_,λh=>absurd rfl h⟩;simp (disch:=decide) only[X0,o7,yZ,x8];rw[hz,show IE 36 acc x.2.2 fi=C9 .i64 acc x.2.2 from rfl];cases plB (t.1,0,C9 .i64 acc x.2.2)<;>rfl
 .have ht1:=a8R ha;have hp' :plB (t.1,0,acc)=true:=by
   rcases hp with h|h|h
   .exact absurd h F8
   .exact absurd h.2 F8
   .exact h
  have e1:=Qw ht1 hp';have e2:=Qw ht1 hxp;have e3:IE 37 acc x.2.2 fi=qG acc x.2.2/\plB (t.1,0,IE 37 acc x.2.2 fi)=true:=by rw[ht1];generalize x.2.2=q at e2 ⊢;rcases e1 with rfl|rfl<;>rcases e2 with rfl|rfl<;>exact⟨rfl,rfl⟩
  refine⟨?_,λ_=>e3.2⟩;simp (disch:=decide) only[X0,U2,o7,o6];rw[e3.2,e3.1,o7]
 .have ht1:t.1=1:=by
   unfold Sr at ha;rw[X0 hz]at ha;exact Z5.1 ha
  have hp' :plB (t.1,0,acc)=true:=by
   rcases hp with h|h|h
   .exact absurd h F8
   .exact absurd h.2 F8
   .exact h
  have e1:=Qw ht1 hp';have e2:=Qw ht1 hxp;have e3:IE 38 acc x.2.2 fi=mZ acc x.2.2/\plB (t.1,0,IE 38 acc x.2.2 fi)=true:=by rw[ht1];generalize x.2.2=q at e2 ⊢;rcases e1 with rfl|rfl<;>rcases e2 with rfl|rfl<;>exact⟨rfl,rfl⟩
  refine⟨?_,λ_=>e3.2⟩;simp (disch:=decide) only[X0,U2,o7,o6];rw[e3.2,e3.1,o7]
 .have hf:IE 39 acc x.2.2 fi=l7 fi x.2.2 (l7 (E5 acc x.2.2) x.2.2 acc):=rfl;simp (disch:=decide) only[X0,U2,o7,o6];rw[hf];have hz' :o9 (i:Int) 0=fi:=by rw[hb];unfold o9;congr 1;simp
  rw[hz'];cases fi
  case true=>simp only[o7,hxp];exact⟨by rw[←hxe],λ_=>trivial⟩
  case false=>
   have hp' :plB (t.1,0,acc)=true:=by
    rcases hp with h|h|h
    .exact absurd h F8
    .exact absurd h.1 A7
    .exact h
   simp only[o6];cases E5 acc x.2.2
   .simp only[o6,hp',o7];exact⟨trivial,λ_=>trivial⟩
   .simp only[o7,hxp];exact⟨by rw[←hxe],λ_=>trivial⟩
theorem b0a{γ:Type}(c:Option γ)(K:γ->Option (V3×Int)):a9Z (l9 c K)=l9 c λo=>a9Z (K o):=by cases c<;>rfl
theorem xg{α β ρ:Type}(G:β->α->β⊕ρ)(P:ρ->Prop)(hG:∀b a r,G b a= .inr r->P r):∀(l:List α) (b:β) (r:ρ),dE G l b= .inr r->P r
 |[],b,r,h=>by cases h|a::l,b,r,h=>by
  unfold dE at h;cases hg:G b a with
  |inr r' =>rw[hg]at h;simp only at h;cases h;exact hG _ _ _ hg|inl b' =>rw[hg]at h;exact xg G P hG l b' r h
theorem b2E(k N:Int)(t:Int×Int)(b:Int×Bool)(m:List V3)(r:V3×Int)(h:II k N t b m= .inr r):r=((0,0,0),6)\/r=((0,0,0),8)\/r=((0,0,0),3):=by
 unfold II at h;cases hf:a1Z m N t with
 |inr c=>
  rw[hf]at h;simp only at h;cases h;unfold a1Z at hf;cases hm:G9 m N with
  |none=>rw[hm]at hf;cases hf;exact .inl rfl|some x=>
   rw[hm]at hf;simp only at hf;cases h1:o9 x.1 0<;>rw[h1]at hf
   .cases h2:Vx x t<;>rw[h2]at hf<;>cases hf;exact .inr (.inl rfl)
   .cases hf;exact .inl rfl
 |inl x=>rw[hf]at h;simp only at h;cases h1:plB (t.1,0,IE k b.1 x.2.2 b.2)<;>rw[h1]at h<;>cases h;exact .inr (.inr rfl)
theorem Xy(k N:Int)(env:dK)(hk:k=36\/k=37\/k=38\/k=39)(he:jO (k,N) env=some true)(hl:env.2.2.2.1.length<=1000000):jE (k,N) [] env:=by
 have hN:0<=N/\N<o8 env.2.2.2.2.1:=by
  unfold jO at he;rcases hk with rfl|rfl|rfl|rfl <;>
  .simp (disch:=decide) only[X0,U2,o7,o6,x8]at he;by_cases g:0<=N
   case neg=>rw[aA o5]at he;cases he
   rw[af g,o7]at he;exact⟨g,ku.1 (aQ he)⟩
 obtain⟨t,ht,_⟩:=qA hN.1 hN.2;refine⟨a4o k N t env.2.2.2.1,?_,?_⟩
 .unfold RP;rw[ll0,show J8 36 k=true from af o5,show J8 k 39=true from af o5,Pj k N env t ht hN.1 hl];rfl
 have hA:aI (k,N) [] env=some (Sr k t):=by
  unfold aI;rcases hk with rfl|rfl|rfl|rfl <;>
  .simp (disch:=decide) only[X0,U2,o7,o6,x8,ht,R_,Iy]
 have hC:aJ (k,N) [] env=vH (k,N) env:=by
  unfold aJ;rcases hk with rfl|rfl|rfl|rfl <;>
  .simp (disch:=decide) only[X0,U2,o7,o6,x8];generalize vH _ env=o;cases o<;>rfl
 unfold EP;rw[hA,x8,hC];unfold a4o;cases ha:Sr k t
 .rfl
 simp only[G6,o6,o7];have hz:=VB ha;unfold vH;simp only[ht,x8];rw[show l7 (o9 k 37) (some (t.1,t.2,(1:Int))) (some (t.1,t.2,0))=some (t.1,t.2,l7 (o9 k 37) 1 0) by cases o9 k 37<;>rfl,x8];have hinit:k=36\/(true=true/\k=39)\/plB (t.1,0,l7 (o9 k 37) 1 0)=true:=by
  rcases hk with rfl|rfl|rfl|rfl
  .exact .inl rfl
  .right;right;rw[a8R ha];rfl
  .right;right;have ht1:t.1=1:=by
    unfold Sr at ha;rw[X0 hz]at ha;exact Z5.1 ha
   rw[ht1];rfl
  .exact .inr (.inl ⟨rfl,rfl⟩)
 by_cases hz0:k=39/\o8 env.2.2.2.1=0
 .rw[X0 hz0.1,X0 hz0.2];have:env.2.2.2.1=[]:=by have:=hz0.2;unfold o8 at this;exact O7.1 o5
  rw[this];rfl
 rw[show(l7 (o9 k 39) (l7 (o9 (o8 env.2.2.2.1) 0) (some (Sum.inr (((0,0,0),6):V3×Int))) (some (Sum.inl ((0,0,0):V3)))) (some (Sum.inl (0,0,0))))=some (.inl (0,0,0)) by
  by_cases h1:k=39
  .rw[X0 h1,U2 (λh=>hz0 ⟨h1,h⟩)];rfl
  .rw[U2 h1];rfl]
 simp only[x8,aj];have hend:(match dE (II k N t) env.2.2.2.1 (l7 (o9 k 37) 1 0,true)with
  | .inr c=>c
  | .inl a=>l7 (o9 k 39) (l7 (o9 (o8 env.2.2.2.1) 0) ((0,0,0),6) (IG (t.1,0,a.1))) (IG (t.1,0,a.1)))=(match dE (II k N t) env.2.2.2.1 (l7 (o9 k 37) 1 0,true)with
  | .inr c=>c
  | .inl a=>IG (t.1,0,a.1)):=by
  cases dE (II k N t) env.2.2.2.1 (l7 (o9 k 37) 1 0,true)with
  |inr c=>rfl|inl a=>
   by_cases h1:k=39
   .rw[X0 h1,U2 (λh=>hz0 ⟨h1,h⟩)];rfl
   .rw[U2 h1];rfl
 refine Eq.trans ?_ (congrArg some hend.symm);rw[b0a];apply rY env.2.2.2.1 (II k N t) (λb i=>(((0,0,0),(t.1,t.2,b.1),i):V3×V3×Int)) (λb=>(((0,0,0),(t.1,t.2,b.1)):V3×V3)) (λi b=>b.2=decide (i=0)/\(k=36\/(b.2=true/\k=39)\/plB (t.1,0,b.1)=true)) (l7 (o9 k 37) 1 0,true) hl ⟨rfl,hinit⟩
 .intro i m b hi hi' hb;have hm:=I5 env.2.2.2.1 i;rw[hi]at hm;have hlt:(i:Int)<o8 env.2.2.2.1:=by
   have:=aO.1 hi;obtain⟨h,_⟩:=this;unfold o8;omega
  simp only[V7 hlt,o7,hm,x8];by_cases g:o8 m<=N
  .have e:II k N t b m= .inr ((0,0,0),6):=by unfold II a1Z;rw[zN (.inr (O6 g))]
   rw[e];refine⟨?_,λ_ h=>by cases h⟩;rw[af g];rfl
  rw[aA o5];obtain⟨x,hx,_⟩:=qA hN.1 (show N<o8 m by omega);simp only[o6,hx,x8];cases h0:o9 x.1 0
  case true=>
   have e:II k N t b m= .inr ((0,0,0),6):=by unfold II a1Z;rw[hx];simp only[h0];rfl
   rw[e];exact⟨rfl,λ_ h=>by cases h⟩
  simp only[o6,x8,aj,YT];cases hh:Vx x t
  .have e:II k N t b m= .inr ((0,0,0),8):=by unfold II a1Z;rw[hx];simp only[h0,hh];rfl
   rw[e];exact⟨rfl,λ_ h=>by cases h⟩
  have e:II k N t b m=l7 (plB (t.1,0,IE k b.1 x.2.2 b.2)) (.inl (IE k b.1 x.2.2 b.2,false)) (.inr ((0,0,0),3)):=by unfold II a1Z;rw[hx];simp only[h0,hh,o7,o6]
  obtain⟨s1,s2⟩:=b0G k N t hk ha b x hh i hi' hb.1 hb.2 (0,0,0) rfl;refine⟨?_,?_⟩
  .rw[e,G6,o6];refine Eq.trans (Eq.trans ?_ s1) ?_
   .rfl
   .cases plB (t.1,0,IE k b.1 x.2.2 b.2)<;>rfl
  .intro b' hb';rw[e]at hb';cases hp:plB (t.1,0,IE k b.1 x.2.2 b.2)<;>rw[hp]at hb'<;>cases hb';exact⟨A7,.inr (.inr hp)⟩
 .intro b hb;rw[O6 (show o8 env.2.2.2.1<=(env.2.2.2.1.length:Int)from fV _)];rfl
 .intro hf;cases hq:dE (II k N t) env.2.2.2.1 (l7 (o9 k 37) 1 0,true)with
  |inr c=>rcases xg (II k N t) (λr=>r=((0,0,0),6)\/r=((0,0,0),8)\/r=((0,0,0),3)) (b2E k N t) _ _ _ hq with rfl|rfl|rfl<;>rfl
  |inl a=>simp only[aj,DR,PW,hz]
theorem a9e{k e n:Int}(hk:k=5)(h:plB (k,e,n)=true):0<=n/\n<=109572:=by subst hk;rcases a6W h with⟨m,h,g⟩|⟨m,h,g⟩|⟨m,h,g⟩|⟨m,h,g⟩|⟨m,h,g⟩|⟨e',m,h,g⟩<;>cases h;exact g
theorem b9f(N:Int)(x:V3)(env:dK):jE (10,N) [x] env:=by
 unfold jE RP EP lF aI aJ Hl uf;simp (disch:=decide) only[dh];simp only[Ij,DZ,x8];cases l7 (J8 2 x.1) (J8 x.1 4) false
 .exact⟨_,rfl,rfl⟩
 .simp (disch:=decide) only[dh];exact⟨_,rfl,rfl⟩
theorem b9k(N:Int)(x:V3)(env:dK):jE (25,N) [x] env:=by
 unfold jE RP EP lF aI aJ Hl uf;simp (disch:=decide) only[dh];cases o9 x.1 1
 .exact⟨_,rfl,rfl⟩
 .simp (disch:=decide) only[dh];exact⟨_,rfl,rfl⟩
theorem a8s(k N:Int)(x:V3)(env:dK)(hk:k=31\/k=32)(hx:plB x=true):jE (k,N) [x] env:=by
 have hAB:∃q:Int×Int×Int,x.1=5->ww x.2.2=some q/\yF x.2.2=some q:=⟨_,λh=>⟨Eo (a9e h hx).1 (a9e h hx).2,Pn (a9e h hx).1 (a9e h hx).2⟩⟩;obtain⟨q,hAB⟩:=hAB;rcases hk with rfl|rfl
 all_goals
  unfold jE RP EP lF aI aJ Hl uf;simp (disch:=decide) only[dh];cases h5:o9 x.1 5
  .simp only[gz,o7,x8,Iy];exact⟨_,rfl,rfl⟩
  rw[(hAB (Z5.1 h5)).1,(hAB (Z5.1 h5)).2];simp (disch:=decide) only[dh];exact⟨_,rfl,rfl⟩
theorem b9p(N:Int)(x:V3)(env:dK)(hx:plB x=true)(he:jO (33,N) env=some true)(ht:∀t∈env.2.2.2.2.2,rC t):jE (33,N) [x] env:=by
 unfold jO at he;simp (disch:=decide) only[X0,U2,o7,o6,x8]at he;by_cases g:0<=N
 case neg=>rw[aA o5]at he;cases he
 rw[af g,o7]at he;obtain⟨t,hq,hm⟩:=qA g (ku.1 (aQ he));have hr:=ht t hm;unfold jE RP EP lF aI aJ wK;simp (disch:=decide) only[dh];simp only[hq,x8,YT,Vx,hx,o7];by_cases h1:x.1=t.2.1.1
 case neg=>rw[U2 h1];exact⟨_,rfl,rfl⟩
 rw[X0 h1];by_cases h2:x.2.1=t.2.1.2
 case neg=>rw[U2 h2];exact⟨_,rfl,rfl⟩
 rw[X0 h2];by_cases h3:1<=t.2.2.1.1
 case neg=>rw[aA (lw.1 h3),V7 (lw.1 h3)];exact⟨_,rfl,rfl⟩
 rw[af h3,O6 h3];by_cases h4:t.2.2.1.1<=6
 case neg=>rw[aA (lw.1 h4),V7 (lw.1 h4)];exact⟨_,rfl,rfl⟩
 rw[af h4,O6 h4];simp (disch:=decide) only[dh];rw[b0m _ _ (by have:=hr.1;omega),SG _ _ (by have:=hr.1;omega)];simp (disch:=decide) only[dh];cases hl:OU t.2.2.2 env.1 x.2.2 with
 |mk i b=>
  cases b
  .exact⟨_,rfl,rfl⟩
  .obtain⟨l1,l2⟩:=b2A hl;obtain⟨row,hrow,_⟩:=qA l1 l2;simp (disch:=decide) only[dh];rw[hrow];simp (disch:=decide) only[dh];unfold IG;cases plB (t.2.2.1.1,t.2.2.1.2,row.2.2.2)<;>exact⟨_,rfl,rfl⟩
theorem b9q(N:Int)(x:V3)(env:dK)(h0:0<=N)(hI:N<=9223372036854775807)(he:jO (34,N) env=some true)(ht:∀t∈env.2.2.2.2.2,rC t):jE (34,N) [x] env:=by
 unfold jO at he;simp (disch:=decide) only[X0,U2,o7,o6,x8]at he;have hq0:0<=cZ .i64 N 8:=by
  rw[show cZ .i64 N 8=N / 8 by unfold cZ;rw[Int.tdiv_eq_ediv_of_nonneg h0];exact mW P6]
  omega
 obtain⟨t,hq,hm⟩:=qA hq0 (ku.1 (aQ he));have hr:=ht t hm;unfold jE RP EP lF aI aJ;simp (disch:=decide) only[dh];simp only[hq,x8];cases o9 x.1 3
 .exact⟨_,rfl,rfl⟩
 cases o9 t.2.1.1 3
 .exact⟨_,rfl,rfl⟩
 cases o9 t.2.1.2 0
 .exact⟨_,rfl,rfl⟩
 cases o9 t.2.2.1.1 4
 .exact⟨_,rfl,rfl⟩
 cases o9 t.2.2.1.2 0
 .exact⟨_,rfl,rfl⟩
 simp (disch:=decide) only[dh];rw[show fG true true=true from rfl];simp (disch:=decide) only[dh];rw[a3p _ _ _ hr,LW _ _ _ hr];simp (disch:=decide) only[dh];exact⟨_,rfl,rfl⟩
theorem XM(x y:V3):uF x y=some (l7 (o9 x.1 y.1) (o9 x.2.1 y.2.1) false):=by unfold uF;cases o9 x.1 y.1<;>rfl
theorem a8q(k N:Int)(x y:V3)(env:dK)(hk:k=11\/k=12):jE (k,N) [x,y] env:=by
 rcases hk with rfl|rfl
 all_goals
  (unfold jE RP EP aI aJ kS bU jB;simp (disch:=decide) only[dh])
  unfold vS;simp (disch:=decide) only[dh];simp only[XM,DZ,Ij,x8];cases o9 x.1 y.1
  .exact⟨_,rfl,rfl⟩
  cases o9 x.2.1 y.2.1
  .exact⟨_,rfl,rfl⟩
  cases l7 (J8 2 x.1) (J8 x.1 4) false
  .exact⟨_,rfl,rfl⟩
  simp (disch:=decide) only[dh];exact⟨_,rfl,rfl⟩
theorem b1D(k N:Int)(x y:V3)(env:dK)(hk:k=19\/k=20):jE (k,N) [x,y] env:=by
 rcases hk with rfl|rfl
 all_goals
  (unfold jE RP EP aI aJ kS bU jB;simp (disch:=decide) only[dh])
  unfold vS;simp (disch:=decide) only[dh];simp only[XM,DZ,Ij,x8];cases o9 x.1 y.1
  .exact⟨_,rfl,rfl⟩
  cases o9 x.2.1 y.2.1
  .exact⟨_,rfl,rfl⟩
  simp (disch:=decide) only[dh];exact⟨_,rfl,rfl⟩
theorem a8r(k N:Int)(x y:V3)(env:dK)(hk:k=21\/k=22):jE (k,N) [x,y] env:=by
 rcases hk with rfl|rfl
 all_goals
  (unfold jE RP EP aI aJ kS bU jB;simp (disch:=decide) only[dh])
  unfold vS;simp (disch:=decide) only[dh];simp only[XM,DZ,Ij,x8];cases o9 x.1 y.1
  .exact⟨_,rfl,rfl⟩
  cases o9 x.2.1 y.2.1
  .exact⟨_,rfl,rfl⟩
  simp (disch:=decide) only[dh];cases l7 (J8 2 x.1) (J8 x.1 4) false
  .simp (disch:=decide) only[dh];cases o9 x.1 5
   .exact⟨_,rfl,rfl⟩
   simp (disch:=decide) only[dh];exact⟨_,rfl,rfl⟩
  simp (disch:=decide) only[dh];exact⟨_,rfl,rfl⟩
theorem Yd(k N:Int)(x y:V3)(env:dK)(hk:k=17\/k=18)(hx:plB x=true)(hy:plB y=true):jE (k,N) [x,y] env:=by
 have mx:IG x=(x,0):=by unfold IG;rw[hx];rfl
 have my:IG y=(y,0):=by unfold IG;rw[hy];rfl
 have hE:x.1=y.1->x.2.1=y.2.1->x.2.2=y.2.2->x=y:=λh1 h2 h3=>by rw[show x=(x.1,x.2.1,x.2.2)from rfl,h1,h2,h3]
 have fin:x.1=y.1->x.2.1=y.2.1->∀b:Bool,(∃r:V3×Int,l7 (jY b (E5 x.2.2 y.2.2)) (some (x,0)) (some (y,0))=some r/\a9Z (l7 (jY b (E5 y.2.2 x.2.2)) (some (y,0)) (some (x,0)))=some r):=by
  intro h1 h2 b;by_cases g:x.2.2<y.2.2
  .rw[V7 g,O6 (Int.le_of_lt g)];cases b
   .exact⟨(y,0),rfl,by rw[show l7 (jY false false) (some (y,(0:Int))) (some (x,0))=some (y,0)from rfl,DR,PW,my]⟩
   .exact⟨(x,0),rfl,by rw[show l7 (jY true false) (some (y,(0:Int))) (some (x,0))=some (x,0)from rfl,DR,PW,mx]⟩
  by_cases g' :y.2.2<x.2.2
  .rw[V7 g',O6 (Int.le_of_lt g')];cases b
   .exact⟨(x,0),rfl,by rw[show l7 (jY false true) (some (y,(0:Int))) (some (x,0))=some (x,0)from rfl,DR,PW,mx]⟩
   .exact⟨(y,0),rfl,by rw[show l7 (jY true true) (some (y,(0:Int))) (some (x,0))=some (y,0)from rfl,DR,PW,my]⟩
  have e:=hE h1 h2 (Int.le_antisymm (gW.1 g') (gW.1 g));refine⟨(x,0),?_,?_⟩
  .rw[e];cases jY b (E5 y.2.2 y.2.2)<;>rfl
  .rw[←e];rw[show l7 (jY b (E5 x.2.2 x.2.2)) (some (x,(0:Int))) (some (x,0))=some (x,0) by cases jY b (E5 x.2.2 x.2.2)<;>rfl,DR,PW,mx]
 have osum:∀(c:Bool),(l9 (l7 c (some (Sum.inr (y,(0:Int)):V3⊕(V3×Int))) (some (.inr (x,0)))) λo=>U4 o (λ_=>l9 (qg x.2.2 y.2.2) λ(q:Int)=>some ((2,0,q),(0:Int))) λr=>some r)=l7 c (some (y,0)) (some (x,0)):=λc=>by cases c<;>rfl
 rcases hk with rfl|rfl
 all_goals
  (unfold jE RP EP aI aJ kS bU jB;simp (disch:=decide) only[dh])
  unfold vS;simp (disch:=decide) only[dh];simp only[XM,DZ,Ij,x8];cases g1:o9 x.1 y.1
  .exact⟨_,rfl,rfl⟩
  cases g2:o9 x.2.1 y.2.1
  .exact⟨_,rfl,rfl⟩
  simp (disch:=decide) only[dh];have F:=fin (Z5.1 g1) (Z5.1 g2);rw[osum];cases l7 (J8 2 x.1) (J8 x.1 4) false
  .simp (disch:=decide) only[dh];cases o9 x.1 5
   .exact⟨_,rfl,rfl⟩
   simp (disch:=decide) only[dh];simp only[lm];first|exact F true|exact F false
  simp (disch:=decide) only[dh];simp only[lm];first|exact F true|exact F false
theorem b9l(N:Int)(x y:V3)(env:dK):jE (27,N) [x,y] env:=by
 (unfold jE RP EP aI aJ kS bU jB;simp (disch:=decide) only[dh])
 unfold BH;simp (disch:=decide) only[dh];cases g1:o9 x.1 5
 .exact⟨_,rfl,rfl⟩
 cases o9 y.1 2
 .exact⟨_,rfl,rfl⟩
 simp (disch:=decide) only[dh];rw[Z5.1 g1];exact⟨_,rfl,rfl⟩
theorem b9m(N:Int)(x y:V3)(env:dK):jE (28,N) [x,y] env:=by
 have hA:∃q,vG x.2.2 y.2.2=some q/\qC x.2.2 y.2.2=some q:=⟨_,Tn _ _,Rj _ _⟩;obtain⟨q,h1,h2⟩:=hA
 (unfold jE RP EP aI aJ kS bU jB;simp (disch:=decide) only[dh])
 unfold BH;simp (disch:=decide) only[dh];cases g1:o9 x.1 5
 .exact⟨_,rfl,rfl⟩
 cases o9 y.1 2
 .exact⟨_,rfl,rfl⟩
 simp (disch:=decide) only[dh];rw[h1,h2];simp (disch:=decide) only[dh];exact⟨_,rfl,rfl⟩
theorem b9n(N:Int)(x y:V3)(env:dK):jE (29,N) [x,y] env:=by
 (unfold jE RP EP aI aJ kS bU jB;simp (disch:=decide) only[dh])
 unfold BH;simp (disch:=decide) only[dh];cases g1:o9 x.1 5
 .exact⟨_,rfl,rfl⟩
 cases o9 y.1 5
 .exact⟨_,rfl,rfl⟩
 simp (disch:=decide) only[dh];exact⟨_,rfl,rfl⟩
theorem b9o(N:Int)(x y:V3)(env:dK):jE (30,N) [x,y] env:=by
 have hA:∃q,qg x.2.2 y.2.2=some q/\wJ x.2.2 y.2.2=some q:=⟨_,Xx _ _,VK _ _⟩;obtain⟨q,h1,h2⟩:=hA
 (unfold jE RP EP aI aJ kS bU jB;simp (disch:=decide) only[dh])
 unfold BH;simp (disch:=decide) only[dh];cases g1:o9 x.1 5
 .exact⟨_,rfl,rfl⟩
 cases o9 y.1 5
 .exact⟨_,rfl,rfl⟩
 simp (disch:=decide) only[dh];rw[h1,h2];simp (disch:=decide) only[dh];exact⟨_,rfl,rfl⟩
theorem b9h(N:Int)(x y:V3)(env:dK):jE (14,N) [x,y] env:=by
 have hA:∃q,Ik x.2.2 y.2.2 N=some q/\Ji x.2.2 y.2.2 N=some q:=⟨_,b1E _ _ _,b0O _ _ _⟩;have hB:∃q,Pm x.2.2 y.2.2 N=some q/\QB x.2.2 y.2.2 N=some q:=⟨_,b7H _ _ _,b3Y _ _ _⟩;obtain⟨q,h1,h2⟩:=hA;obtain⟨q',h3,h4⟩:=hB
 (unfold jE RP EP aI aJ kS bU jB;simp (disch:=decide) only[dh])
 unfold CZ Bj;simp (disch:=decide) only[dh];rw[h1,h2,h3,h4];cases o9 y.1 4
 .exact⟨_,rfl,rfl⟩
 by_cases g3:x.1=3
 .rw[X0 g3];simp (disch:=decide) only[dh];exact⟨_,rfl,rfl⟩
 rw[U2 g3];simp (disch:=decide) only[dh];cases o9 x.1 4
 .exact⟨_,rfl,rfl⟩
 simp (disch:=decide) only[dh];exact⟨_,rfl,rfl⟩
theorem b9j(N:Int)(x y:V3)(env:dK):jE (16,N) [x,y] env:=by
 have hA:∃q,zQ x.2.2 y.2.2 N=some q/\Ey x.2.2 y.2.2 N=some q:=⟨_,a7f _ _ _,a4O _ _ _⟩;obtain⟨q,h1,h2⟩:=hA
 (unfold jE RP EP aI aJ kS bU jB;simp (disch:=decide) only[dh])
 unfold CZ Bj;simp (disch:=decide) only[dh];rw[h1,h2];cases o9 x.1 3
 .exact⟨_,rfl,rfl⟩
 cases o9 y.1 3
 .exact⟨_,rfl,rfl⟩
 simp (disch:=decide) only[dh];exact⟨_,rfl,rfl⟩
theorem b9i(N:Int)(x y:V3)(env:dK):jE (15,N) [x,y] env:=by
 have hA:∃q,jS x.2.2 y.2.2 N=some q/\CW x.2.2 y.2.2 N=some q:=⟨_,IZ _ _ _,a2k _ _ _⟩;have hB:∃q,yD x.2.2 y.2.2 N=some q/\Ap x.2.2 y.2.2 N=some q:=⟨_,a1K _ _ _,X_ _ _ _⟩;obtain⟨q,h1,h2⟩:=hA;obtain⟨q',h3,h4⟩:=hB
 (unfold jE RP EP aI aJ kS bU jB;simp (disch:=decide) only[dh])
 unfold CZ Bj;simp (disch:=decide) only[dh];rw[h1,h2,h3,h4];by_cases g2:y.1=2
 .rw[X0 g2,U2 (show y.1≠3 by rw[g2];decide)];simp (disch:=decide) only[dh];by_cases g3:x.1=3
  .rw[X0 g3,U2 (show x.1≠2 by rw[g3];decide)];simp (disch:=decide) only[dh];exact⟨_,rfl,rfl⟩
  rw[U2 g3];cases o9 x.1 2
  .exact⟨_,rfl,rfl⟩
  simp (disch:=decide) only[dh];exact⟨_,rfl,rfl⟩
 rw[U2 g2];simp (disch:=decide) only[dh];cases o9 x.1 3
 .exact⟨_,rfl,rfl⟩
 simp (disch:=decide) only[dh];cases o9 y.1 3
 .exact⟨_,rfl,rfl⟩
 simp (disch:=decide) only[dh];exact⟨_,rfl,rfl⟩
theorem Bc(n:Int):(n<0/\ax n=-n)\/(0<=n/\ax n=n):=by
 unfold ax;by_cases h:n<0
 .left;exact⟨h,if_pos h⟩
 .right;exact⟨o5,if_neg h⟩
theorem a8l(a b:Int):(l7 (D9 (jY (E5 a 0) (E5 b 0))) (-(ax a*ax b)) (ax a*ax b))=a*b:=by
 rcases Bc a with⟨h1,e1⟩|⟨h1,e1⟩<;>rcases Bc b with⟨h2,e2⟩|⟨h2,e2⟩<;>rw[e1,e2]
 .rw[V7 h1,V7 h2];show -a*-b=a*b;rw[Int.neg_mul_neg]
 .rw[V7 h1,O6 h2];show -(-a*b)=a*b;rw[kz,Int.neg_neg]
 .rw[O6 h1,V7 h2];show -(a*-b)=a*b;rw[Int.mul_neg,Int.neg_neg]
 .rw[O6 h1,O6 h2];rfl
theorem a6Z{a b:Int}(ha:-1000000000000000<=a/\a<=1000000000000000)(hb:-1000000000000<=b/\b<=1000000000000):yS a b=some (l7 (E5 1000000000000000 (ax a*ax b)) (0,3) (a*b,0)):=by
 unfold yS;rw[TM o5 o5,TM o5 o5];have A0:0<=ax a/\ax a<=1000000000000000:=by rcases Bc a with⟨h1,e1⟩|⟨h1,e1⟩<;>omega
 have B0:0<=ax b/\ax b<=1000000000000:=by rcases Bc b with⟨h1,e1⟩|⟨h1,e1⟩<;>omega
 rw[Ua A0.1 o5 B0.1 o5,x8];have hm:=a8l a b;have hp:0<=ax a*ax b:=P7 A0.1 B0.1;generalize ax a*ax b=p at hm hp ⊢;simp only;by_cases g:p / 18446744073709551616=0
 case neg=>rw[U2 g,V7 (show(1000000000000000:Int)<p by omega)];rfl
 rw[X0 g,show p % 18446744073709551616=p by omega];by_cases g2:1000000000000000<p
 .rw[V7 g2];rfl
 rw[O6 o5];simp only[G6,o6];rw[show wrap .i64 p=p from mW P6,V4 P6,show(0:Int) -p=-p by omega];rw[←hm];cases D9 (jY (E5 a 0) (E5 b 0))<;>rfl
theorem MI{x y M:Int}(W:V3×Int)(hy:0<=y)(hM:0<=M)(hM2:M<=1000000000000000):l7 (D9 (o9 y 0)) (l9 (qH .i64 M y) λ(q:Int)=>l7 (E5 q x) (some ((0,0,0),3)) (some W)) (some W)=some (l7 (E5 M (x*y)) ((0,0,0),3) W):=by
 by_cases h:y=0
 .subst h;rw[X0 rfl,Int.mul_zero,O6 hM];rfl
 rw[U2 h];simp only[gz,o7];rw[xh hM o5 o5,x8];have e:M / y<x↔M<x*y:=Int.ediv_lt_iff_lt_mul o5;by_cases g:M / y<x
 .rw[V7 g,V7 (e.1 g)];rfl
 .rw[O6 (gW.1 g),O6 (gW.1 λh=>g (e.2 h))];rfl
theorem a4N{k a b M:Int}(hM:CY k=some (-M,M))(hM0:0<=M)(hM2:M<=1000000000000000)(ha:-1000000000000000<=a/\a<=1000000000000000)(hb:-1000000000000<=b/\b<=1000000000000):zU k a b=some (l7 (E5 M (ax a*ax b)) ((0,0,0),3) (IG (k,0,Z7 .i64 a b))):=by
 unfold zU;rw[hM,x8];simp only[TV,x8];have sa:G8 .i64 0 a=-a:=by rw[V4 P6];omega
 have sb:G8 .i64 0 b=-b:=by rw[V4 P6];omega
 rw[sa,sb];rcases Bc a with⟨h1,e1⟩|⟨h1,e1⟩<;>rcases Bc b with⟨h2,e2⟩|⟨h2,e2⟩<;>rw[e1,e2]
 .rw[V7 h1,V7 h2];exact MI _ o5 hM0 hM2
 .rw[V7 h1,O6 h2];exact MI _ o5 hM0 hM2
 .rw[O6 h1,V7 h2];exact MI _ o5 hM0 hM2
 .rw[O6 h1,O6 h2];exact MI _ o5 hM0 hM2
theorem ZH{k a b M:Int}(hk:GZ k=(-M,M))(hM0:0<=M)(hM2:M<=1000000000000000)(ha:-1000000000000000<=a/\a<=1000000000000000)(hb:-1000000000000<=b/\b<=1000000000000):∃r:V3×Int,zU k a b=some r/\∃q:Int×Int,yS a b=some q/\C_ (k,0,q.1) q.2=r:=by
 refine⟨_,a4N (by rw[a8x,hk]) hM0 hM2 ha hb,_,a6Z ha hb,?_⟩;have hm:=a8l a b;have hmd:ax a*ax b=ax (a*b):=by rcases Bc (a*b)with⟨h,e⟩|⟨h,e⟩<;>(have hn:=P7 (lQ a) (lQ b);cases hq:D9 (jY (E5 a 0) (E5 b 0))<;>rw[hq]at hm<;>simp only[o7,o6]at hm<;>omega)
 rw[hmd];have habs:=Bc (a*b);have hI:ax (a*b)<=1000000000000000->Z7 .i64 a b=a*b:=λh=>mJ P6;have hpl:M<ax (a*b)->plB (k,0,a*b)=false:=by
  intro h;unfold plB;rw[hk];simp only;by_cases g:-M<=a*b
  .rw[af g,aA (show M<a*b by omega)];rfl
  .rw[aA o5];rfl
 generalize a*b=p at*;by_cases g:1000000000000000<ax p
 .rw[V7 g,V7 o5];rfl
 rw[O6 o5,hI o5];simp only[o6,PW];by_cases g2:M<ax p
 .rw[V7 g2];unfold IG;rw[hpl g2];rfl
 .rw[O6 o5];rfl
theorem a9f{k e n:Int}(h:plB (k,e,n)=true):(k=2->-1000000000000<=n/\n<=1000000000000)/\(k=3->-1000000000000000<=n/\n<=1000000000000000):=by rcases a6W h with⟨m,h,g⟩|⟨m,h,g⟩|⟨m,h,g⟩|⟨m,h,g⟩|⟨m,h,g⟩|⟨e',m,h,g⟩<;>cases h<;>exact⟨λh=>by first|exact g|exact absurd h F8,λh=>by first|exact g|exact absurd h F8⟩
theorem b9g(N:Int)(x y:V3)(env:dK)(hx:plB x=true)(hy:plB y=true):jE (13,N) [x,y] env:=by
 have hX:=a9f (k:=x.1) (e:=x.2.1) (n:=x.2.2) hx;have hY:=a9f (k:=y.1) (e:=y.2.1) (n:=y.2.2) hy;have key:y.1=2->x.1=2\/x.1=3->∃r:V3×Int,zU x.1 x.2.2 y.2.2=some r/\∃q:Int×Int,yS x.2.2 y.2.2=some q/\C_ (x.1,0,q.1) q.2=r:=by
  intro h2 h;have hb:=hY.1 h2;rcases h with h|h
  .have ha:=hX.1 h;exact ZH (M:=1000000000000) (by rw[h];rfl) F8 F8 ⟨Int.le_trans F8 ha.1,Int.le_trans ha.2 F8⟩ hb
  .have ha:=hX.2 h;exact ZH (M:=1000000000000000) (by rw[h];rfl) F8 F8 ha hb
 (unfold jE RP EP aI aJ kS bU jB;simp (disch:=decide) only[dh])
 unfold CZ Bj;simp (disch:=decide) only[dh];cases g2:o9 y.1 2
 .exact⟨_,rfl,rfl⟩
 by_cases g3:x.1=3
 .obtain⟨r,e1,q,e2,e3⟩:=key (Z5.1 g2) (.inr g3);rw[X0 g3,U2 (show x.1≠2 by rw[g3];decide)];simp (disch:=decide) only[dh];rw[e1,e2];simp (disch:=decide) only[dh];exact⟨_,rfl,congrArg some e3⟩
 rw[U2 g3];cases g4:o9 x.1 2
 .exact⟨_,rfl,rfl⟩
 obtain⟨r,e1,q,e2,e3⟩:=key (Z5.1 g2) (.inl (Z5.1 g4));simp (disch:=decide) only[dh];rw[e1,e2];simp (disch:=decide) only[dh];exact⟨_,rfl,congrArg some e3⟩
theorem b1i:∀i:Fin 40,kJ ((i.1:Nat):Int)=xm ((i.1:Nat):Int):=by decide+kernel
theorem b1F:∀i:Fin 40,(arF ((i.1:Nat):Int)=0->i.1∈[1,2,3,4,5,6,7,8,9,35,36,37,38,39])/\(arF ((i.1:Nat):Int)=1->i.1∈[10,25,31,32,33,34])/\(arF ((i.1:Nat):Int)=2->i.1∈[11,12,13,14,15,16,17,18,19,20,21,22,23,24,27,28,29,30])/\(arF ((i.1:Nat):Int)=3->i.1=26):=by decide+kernel
theorem c3O(h:k<1\/39<k):arF k=-1:=by
 unfold arF jr;rw[U2 (show k≠10 by omega),U2 (show k≠25 by omega),U2 (show k≠31 by omega),U2 (show k≠32 by omega),U2 (show k≠33 by omega),U2 (show k≠34 by omega),U2 (show k≠26 by omega)];rcases h with h|h
 .rw[aA (show k<1 by omega),aA (show k<35 by omega),aA (show k<11 by omega)];rfl
 .rw[af (show 1<=k by omega),aA (show 9<k by omega),af (show 35<=k by omega),aA (show 39<k by omega),af (show 11<=k by omega),aA (show 30<k by omega)];rfl
theorem b9s(h:arF k≠-1):∃i:Fin 40,k=((i.1:Nat):Int):=by
 by_cases g:1<=k/\k<=39
 .exact⟨⟨k.toNat,o5⟩,by simp;omega⟩
 .exact absurd (c3O o5) h
theorem b6G(h:arF k≠-1):kJ k=xm k:=by obtain⟨i,rfl⟩:=b9s h;exact b1i i
theorem a0P(k:Int):∃b,xm k=some b:=by unfold xm;cases J8 1 k<;>cases J8 k 8<;>cases J8 36 k<;>cases J8 k 39<;>cases o9 k 14<;>cases o9 k 15<;>cases o9 k 16<;>cases o9 k 33<;>exact⟨_,rfl⟩
def b0e(k N:Int):Bool:=l7 (l7 (o9 k 14) true (l7 (o9 k 15) true (o9 k 16))) (l7 (J8 0 N) (J8 N 5) false) (l7 (o9 k 34) (l7 (J8 0 N) (J8 (dG N 8) 5) false) (l7 (o9 k 6) (J8 0 N) true))
theorem a3O(k N:Int):(l9 (l7 (o9 k 14) (some (o9 k 14)) (l7 (o9 k 15) (some (o9 k 15)) (some (o9 k 16)))) λ(x:Bool)=>l7 x (l7 (J8 0 N) (some (J8 N 5)) (some false)) (l7 (o9 k 34) (l7 (J8 0 N) (some (J8 (dG N 8) 5)) (some false)) (l7 (o9 k 6) (some (J8 0 N)) (some true))))=some (b0e k N):=by unfold b0e;cases o9 k 14<;>cases o9 k 15<;>cases o9 k 16<;>cases J8 0 N<;>cases o9 k 34<;>cases o9 k 6<;>rfl
def a6v(k N:Int):Bool:=l7 (o9 N 0) (b0e k N) (l7 ((xm k).getD false) (b0e k N) false)
theorem b0c{k N c:Int}(h:arF k=c):Gh (k,N) c=some (a6v k N):=by unfold Gh a6v;rw[b3Z,x8,X0 h];simp only[G6,o6,a3O];obtain⟨b,hb⟩:=a0P k;rw[hb];cases o9 N 0<;>cases b<;>rfl
variable {N:Int}
theorem a5H(h:arF k≠-1):tC (k,N)=some (a6v k N):=by unfold tC a6v;rw[Yg,x8,O6 (show 0<=arF k by have:=(Oe k).2.2;omega)];simp only[o6,a3O];rw[b6G h];obtain⟨b,hb⟩:=a0P k;rw[hb];cases o9 N 0<;>cases b<;>rfl
theorem a8g(k N:Int):∃b,tC (k,N)=some b:=by
 by_cases h:arF k=-1
 .refine⟨false,?_⟩;unfold tC;rw[Yg,x8,h];rfl
 .exact⟨_,a5H h⟩
theorem a3J(n:Int×Int)(env:dK):∃b,jO n env=some b:=by
 unfold jO;by_cases h7:n.1=7
 .rw[X0 h7,o7];cases J8 0 n.2<;>exact⟨_,rfl⟩
 rw[U2 h7,o6];by_cases h8:n.1=8
 .rw[X0 h8,o7];by_cases g:0<=n.2
  case neg=>rw[aA (lw.1 g)];exact⟨_,rfl⟩
  by_cases g2:n.2<o8 env.2.2.1
  case neg=>rw[af g,O6 (gW.1 g2)];exact⟨_,rfl⟩
  obtain⟨x,hx,_⟩:=qA g g2;rw[af g,V7 g2,hx];exact⟨_,rfl⟩
 rw[U2 h8,o6];cases o9 n.1 33
 .cases o9 n.1 34
  .cases o9 n.1 36<;>cases o9 n.1 37<;>cases o9 n.1 38<;>cases o9 n.1 39<;>cases J8 0 n.2<;>exact⟨_,rfl⟩
  .exact⟨_,rfl⟩
 .cases J8 0 n.2<;>exact⟨_,rfl⟩
variable {α:Type}
theorem b6M(l:List α)(p:α->Bool):l.all p= !l.any λv=> !p v:=by
 induction l with
 |nil=>rfl|cons a l ih=>rw[List.all_cons,List.any_cons,Bool.not_or,Bool.not_not,ih]
theorem b1z(l:List V3)(hl:l.length<=1000000):xH l=some (l.all plB):=by
 unfold xH;have e:=Lh l (λv=> !plB v) false PUnit.unit (f:=λ(x:Int)=>l7 (E5 x (o8 l)) (l9 (G9 l x) λ(x_1:V3)=>l9 (iM x_1) λ(x_2:Bool)=>l7 (D9 x_2) (some (Out.rt false)) (some (Out.nx (C9 IntKind.i64 x 1)))) (some (Out.ex PUnit.unit))) hl
  (λi a hi=>by
   have hlt:(i:Int)<o8 l:=by have:=aO.1 hi;obtain⟨h,_⟩:=this;unfold o8;omega
   have hm:=I5 l i;rw[hi]at hm;simp only[V7 hlt,o7,hm,x8,yZ];cases plB a<;>rfl) (by rw[O6 (show o8 l<=(l.length:Int)from fV _)];rfl)
 rw[show U3 _ _=_ from e];rw[b6M l plB];cases l.any λv=> !plB v<;>rfl
theorem b0N(l:List V3)(hl:l.length<=1000000){γ:Type}{K:V3⊕(V3×Int)->Option γ} :(l9 (U3
      (λ(x:V3×Int)=>
       l7 (E5 x.2 (o8 l))
        (l9 (G9 l x.2) λ(x_1:V3)=>
         l9 (jX x_1) λ(x_2:Bool)=>
          l7 (D9 x_2) (some (Out.rt (((0,0,0),8):V3×Int))) (some (Out.nx (x.1,C9 IntKind.i64 x.2 1))))
        (some (Out.ex x.1)))
      ((0,0,0),0)) K)=K (l7 (l.all plB) (.inl (0,0,0)) (.inr ((0,0,0),8))):=by
 have hf:∀(l:List V3) (u:V3),dE (λ(_:V3) (v:V3)=>(l7 (plB v) (.inl ((0,0,0):V3)) (.inr (((0,0,0),8):V3×Int)):V3⊕(V3×Int))) l (0,0,0)=l7 (l.all plB) (.inl (0,0,0)) (.inr ((0,0,0),8)):=by
  intro l u;induction l with
  |nil=>rfl|cons a l ih=>
   unfold dE;rw[List.all_cons];cases plB a
   .rfl
   .exact ih
 apply rY l (λ(_:V3) (v:V3)=>(l7 (plB v) (.inl ((0,0,0):V3)) (.inr (((0,0,0),8):V3×Int)):V3⊕(V3×Int))) (λb i=>((b,i):V3×Int)) (λb=>b) (λi b=>b=(0,0,0)) (0,0,0) hl rfl
 .intro i a b hi hi' hb;subst hb;have hlt:(i:Int)<o8 l:=by
   have:=aO.1 hi;obtain⟨h,_⟩:=this;unfold o8;omega
  have hm:=I5 l i;rw[hi]at hm;simp only[V7 hlt,o7,hm,x8,Eu];cases plB a
  .exact⟨rfl,λ_ h=>by cases h⟩
  .exact⟨by rw[iy o5];rfl,λ_ h=>by cases h;rfl⟩
 .intro b hb;simp only[O6 (show o8 l<=(l.length:Int)from fV _),o6]
 .intro _;rw[hf l (0,0,0)];cases l.all plB<;>rfl
structure EvOk (env:dK):Prop where
 ms:env.2.2.2.1.length<=1000000
 tb:∀t∈env.2.2.2.2.2,rC t
theorem b9e(k N:Int)(args:List V3)(env:dK)(hE:EvOk env)(hN:-9223372036854775808<=N/\N<=9223372036854775807)(hk:k≠23/\k≠24/\k≠26)(ha:arF k=o8 args)(hf:a6v k N=true)(he:jO (k,N) env=some true)(hp:args.all plB=true):jE (k,N) args env:=by
 have hne:arF k≠-1:=by rw[ha];unfold o8;omega
 have hN34:k=34->0<=N:=by
  rintro rfl;unfold a6v at hf;have:b0e 34 N=true:=by
   cases g:o9 N 0<;>rw[g]at hf
   .exact hf
   .exact hf
  unfold b0e at this;by_cases g:0<=N
  .exact g
  .rw[aA o5]at this;cases this
 obtain⟨i,hi⟩:=b9s hne;obtain⟨a0,a1,a2,a3⟩:=b1F i;rw[←hi,ha]at a0 a1 a2 a3;match args,ha,hp with
 |[],ha,hp=>
  have:=a0 rfl;simp only[D6,sS,or_false]at this;rcases this with h|h|h|h|h|h|h|h|h|h|h|h|h|h<;>rw[h]at hi<;>subst hi
  .exact Tv _ _ _ F8
  .exact Tv _ _ _ F8
  .exact Tv _ _ _ F8
  .exact Tv _ _ _ F8
  .exact Tv _ _ _ F8
  .exact c3J _ _
  .exact c3K _ _ he
  .exact c3M _ _ he
  .exact c3N _ _
  .exact b9r _ _
  .exact Xy _ _ _ F8 he hE.ms
  .exact Xy _ _ _ F8 he hE.ms
  .exact Xy _ _ _ F8 he hE.ms
  .exact Xy _ _ _ F8 he hE.ms
 |[x],ha,hp=>
  have hx:plB x=true:=by simpa using hp
  have:=a1 rfl;simp only[D6,sS,or_false]at this;rcases this with h|h|h|h|h|h<;>rw[h]at hi<;>subst hi
  .exact b9f _ _ _
  .exact b9k _ _ _
  .exact a8s _ _ _ _ F8 hx
  .exact a8s _ _ _ _ F8 hx
  .exact b9p _ _ _ hx he hE.tb
  .exact b9q _ _ _ (hN34 rfl) hN.2 he hE.tb
 |[x,y],ha,hp=>
  have hxy:plB x=true/\plB y=true:=by simpa using hp
  have:=a2 rfl;simp only[D6,sS,or_false]at this;rcases this with h|h|h|h|h|h|h|h|h|h|h|h|h|h|h|h|h|h<;>rw[h]at hi<;>subst hi
  .exact a8q _ _ _ _ _ F8
  .exact a8q _ _ _ _ _ F8
  .exact b9g _ _ _ _ hxy.1 hxy.2
  .exact b9h _ _ _ _
  .exact b9i _ _ _ _
  .exact b9j _ _ _ _
  .exact Yd _ _ _ _ _ F8 hxy.1 hxy.2
  .exact Yd _ _ _ _ _ F8 hxy.1 hxy.2
  .exact b1D _ _ _ _ _ F8
  .exact b1D _ _ _ _ _ F8
  .exact a8r _ _ _ _ _ F8
  .exact a8r _ _ _ _ _ F8
  .exact absurd rfl hk.1
  .exact absurd rfl hk.2.1
  .exact b9l _ _ _ _
  .exact b9m _ _ _ _
  .exact b9n _ _ _ _
  .exact b9o _ _ _ _
 |[x,y,z],ha,hp=>have h:=a3 rfl;rw[h]at hi;exact absurd hi hk.2.2|x::y::z::w::l,ha,hp=>
  have h1:=(Oe k).2.2;have:o8 (x::y::z::w::l)=(l.length:Int)+4:=by unfold o8;simp<;>omega
  rw[this]at ha;omega
theorem a3h(k N:Int)(args:List V3)(env:dK)(hE:EvOk env)(hN:-9223372036854775808<=N/\N<=9223372036854775807)(hk:k≠23/\k≠24/\k≠26)(hl:args.length<=1000000):∃r:V3×Int,vZ (k,N) args env=some r/\AL (k,N) args env=some r:=by
 by_cases ha:arF k=o8 args
 case neg=>
  refine⟨((0,0,0),2),?_,?_⟩
  .unfold vZ Gh;rw[b3Z,x8,U2 ha];rfl
  .unfold AL;obtain⟨b,hb⟩:=a8g k N;rw[hb,x8];cases b
   .rfl
   .rw[Yg,x8,U2 (λh=>ha h.symm)];rfl
 have hne:arF k≠-1:=by rw[ha];unfold o8;omega
 unfold vZ AL;rw[b0c ha,a5H hne,Yg];simp only[x8,X0 ha.symm];cases hf:a6v k N
 .exact⟨_,rfl,rfl⟩
 simp only[G6,o6,x8,aj];obtain⟨b,hb⟩:=a3J (k,N) env;rw[show wo (k,N) env=some b from hb,hb];cases b
 .exact⟨_,rfl,rfl⟩
 simp only[x8,G6,o6];rw[b0N args hl,b1z args hl,x8];cases hp:args.all plB
 .exact⟨_,rfl,rfl⟩
 exact b9e k N args env hE hN hk ha hf hb hp
def XT.node:XT->Int×Int
 | .l0 n=>n| .l1 n _=>n| .l2 n _ _=>n| .l3 n _ _ _=>n
def rtI(t:XT)(o:Nat):Nat:=o+t.size -1
def At(e:List (Int×Int))(S:d4I)(t:XT)(o:Nat):Prop:=∃pre suf S1 S2,e=pre++t.post++suf/\S=S1++t.sts o++S2/\pre.length=o/\S1.length=o
variable {e:List (Int×Int)}{n:Int×Int}{S:d4I}{o:Nat}
theorem b8z{a:XT}(h:At e S (.l1 n a) o):At e S a o:=by obtain⟨p,s,S1,S2,h1,h2,h3,h4⟩:=h;exact⟨p,[n]++s,S1,[(o:Int)]++S2,by rw[h1];simp[XT.post],by rw[h2];simp[XT.sts],h3,h4⟩
theorem a0p{a b:XT}(h:At e S (.l2 n a b) o):At e S a o/\At e S b (o+a.size):=by
 obtain⟨p,s,S1,S2,h1,h2,h3,h4⟩:=h;exact⟨⟨p,b.post++[n]++s,S1,b.sts (o+a.size)++[(o:Int)]++S2,by rw[h1];simp[XT.post],by rw[h2];simp[XT.sts],h3,h4⟩,
  ⟨p++a.post,[n]++s,S1++a.sts o,[(o:Int)]++S2,by rw[h1];simp[XT.post],by rw[h2];simp[XT.sts],by simp[XT.post_len,h3],by simp[XT.sts_len,h4]⟩⟩
theorem a0q{a b c:XT}(h:At e S (.l3 n a b c) o):At e S a o/\At e S b (o+a.size)/\At e S c (o+a.size+b.size):=by
 obtain⟨p,s,S1,S2,h1,h2,h3,h4⟩:=h;exact⟨⟨p,b.post++c.post++[n]++s,S1,b.sts (o+a.size)++c.sts (o+a.size+b.size)++[(o:Int)]++S2,by rw[h1];simp[XT.post],by rw[h2];simp[XT.sts],h3,h4⟩,
  ⟨p++a.post,c.post++[n]++s,S1++a.sts o,c.sts (o+a.size+b.size)++[(o:Int)]++S2,by rw[h1];simp[XT.post],by rw[h2];simp[XT.sts],by simp[XT.post_len,h3],by simp[XT.sts_len,h4]⟩,
  ⟨p++a.post++b.post,[n]++s,S1++a.sts o++b.sts (o+a.size),[(o:Int)]++S2,by rw[h1];simp[XT.post],by rw[h2];simp[XT.sts],by simp[XT.post_len,h3];try omega,by simp[XT.sts_len,h4];try omega⟩⟩
theorem b0L(t:XT):∃p,t.post=p++[t.node]/\p.length+1=t.size:=by
 have hl:=t.post_len;cases t with
 |l0 n=>exact⟨[],rfl,rfl⟩|l1 n a=>refine⟨a.post,rfl,?_⟩;simp only[XT.post,I9,gB]at hl;exact hl|l2 n a b=>refine⟨a.post++b.post,rfl,?_⟩;simp only[XT.post,I9,gB]at hl ⊢;exact hl|l3 n a b c=>refine⟨a.post++b.post++c.post,rfl,?_⟩;simp only[XT.post,I9,gB]at hl ⊢;exact hl
theorem b6p(t:XT)(o:Nat):∃p,t.sts o=p++[(o:Int)]/\p.length+1=t.size:=by
 have hl:=t.sts_len o;cases t with
 |l0 n=>exact⟨[],rfl,rfl⟩|l1 n a=>refine⟨a.sts o,rfl,?_⟩;simp only[XT.sts,I9,gB]at hl;exact hl|l2 n a b=>refine⟨a.sts o++b.sts (o+a.size),rfl,?_⟩;simp only[XT.sts,I9,gB]at hl ⊢;exact hl|l3 n a b c=>refine⟨a.sts o++b.sts (o+a.size)++c.sts (o+a.size+b.size),rfl,?_⟩;simp only[XT.sts,I9,gB]at hl ⊢;exact hl
theorem zZ{t:XT}(h:At e S t o):e[rtI t o]? =some t.node/\S[rtI t o]? =some (o:Int)/\rtI t o<e.length:=by
 obtain⟨p,s,S1,S2,h1,h2,h3,h4⟩:=h;obtain⟨q,e1,e2⟩:=b0L t;obtain⟨q',e1',e2'⟩:=b6p t o;have hp:=t.size_pos;have a1:e[rtI t o]? =some t.node:=by rw[h1,e1,G5,G5,←G5 p,H5 (by simp[rtI];omega)];rw[show rtI t o -(p++q).length=0 by simp[rtI];omega];rfl
 refine⟨a1,?_,(aO.1 a1).1⟩;rw[h2,e1',G5,G5,←G5 S1,H5 (by simp[rtI];omega)];rw[show rtI t o -(S1++q').length=0 by simp[rtI];omega];rfl
def ZA:XT->Nat->d4I
 | .l0 _,_=>[]| .l1 _ a,o=>[(rtI a o:Int)]| .l2 _ a b,o=>[(rtI a o:Int),(rtI b (o+a.size):Int)]| .l3 _ a b c,o=>[(rtI a o:Int),(rtI b (o+a.size):Int),(rtI c (o+a.size+b.size):Int)]
structure OStep (S:d4I) (f:d4I×Int×Int->Option ((d4I×Int×Int)⊕d4I)):Prop where
 step:∀(l:d4I) (c:Nat) (j:Nat) (x:Nat),j<l.length->l.length<=3->S[c]? =some ((x:Nat):Int)->x<=100->f (l,(c:Int),(j:Int))=some (.inl (l.set j (c:Int),(x:Int) -1,(j:Int) -1))
 stop:∀(l:d4I) (c:Int),f (l,c,-1)=some (.inr l)
variable {σ:Type}{ε:Type}{f:σ->Option (σ⊕ε)}
theorem BA{s s' :σ}{n:Nat}(h:f s=some (.inl s')):sZ f (n+1) s=sZ f n s' :=by rw[sZ,h]
theorem GM{s:σ}{e:ε}{n:Nat}(h:f s=some (.inr e)):sZ f (n+1) s=some e:=by rw[sZ,h]
theorem b3i{t:XT}{f:d4I×Int×Int->Option ((d4I×Int×Int)⊕d4I)}(hs:OStep S f)(h:At e S t o)(he:e.length<=48)(hw:t.wf):
  aX f (List.replicate (arF t.node.1).toNat 0,(rtI t o:Int) -1,arF t.node.1 -1)=some (ZA t o):=by
 obtain⟨k,hk⟩:∃k,lH=k+1+1+1+1:=⟨lH -4,by unfold lH;omega⟩;unfold aX;rw[hk];have hr:=zZ h;cases t with
 |l0 n=>rw[show arF (XT.l0 n).node.1=0 from hw];exact GM (hs.stop _ _)|l1 n a=>rw[show arF (XT.l1 n a).node.1=1 from hw.1];have ha:=zZ (b8z h);have p1:=a.size_pos;rw[show((rtI (.l1 n a) o:Nat):Int) -1=((rtI a o:Nat):Int) by simp only[rtI,XT.size];omega];rw[show((1:Int) -1)=((0:Nat):Int)from rfl,BA (hs.step _ _ 0 o A7 A7 ha.2.1 (by unfold rtI at hr;omega))];rw[show(((0:Nat):Int) -1)=-1 from rfl,GM (hs.stop _ _)];rfl|l2 n a b=>rw[show arF (XT.l2 n a b).node.1=2 from hw.1];have ha:=zZ (a0p h).1;have hb:=zZ (a0p h).2;have p1:=a.size_pos;have p2:=b.size_pos;rw[show((rtI (.l2 n a b) o:Nat):Int) -1=((rtI b (o+a.size):Nat):Int) by simp only[rtI,XT.size];omega];rw[show((2:Int) -1)=((1:Nat):Int)from rfl,BA (hs.step _ _ 1 (o+a.size) A7 A7 hb.2.1 (by unfold rtI at hb;omega))];rw[show((o+a.size:Nat):Int) -1=((rtI a o:Nat):Int) by unfold rtI;omega,show(((1:Nat):Int) -1)=((0:Nat):Int)from rfl];rw[BA (hs.step _ _ 0 o A7 A7 ha.2.1 (by unfold rtI at hr;omega))];rw[show(((0:Nat):Int) -1)=-1 from rfl,GM (hs.stop _ _)];rfl|l3 n a b c=>rw[show arF (XT.l3 n a b c).node.1=3 from hw.1];have ha:=zZ (a0q h).1;have hb:=zZ (a0q h).2.1;have hc:=zZ (a0q h).2.2;have p1:=a.size_pos;have p2:=b.size_pos;have p3:=c.size_pos;rw[show((rtI (.l3 n a b c) o:Nat):Int) -1=((rtI c (o+a.size+b.size):Nat):Int) by simp only[rtI,XT.size];omega];rw[show((3:Int) -1)=((2:Nat):Int)from rfl,BA (hs.step _ _ 2 (o+a.size+b.size) A7 A7 hc.2.1 (by unfold rtI at hc;omega))];rw[show((o+a.size+b.size:Nat):Int) -1=((rtI b (o+a.size):Nat):Int) by unfold rtI;omega,show(((2:Nat):Int) -1)=((1:Nat):Int)from rfl];rw[BA (hs.step _ _ 1 (o+a.size) A7 A7 hb.2.1 (by unfold rtI at hb;omega))];rw[show((o+a.size:Nat):Int) -1=((rtI a o:Nat):Int) by unfold rtI;omega,show(((1:Nat):Int) -1)=((0:Nat):Int)from rfl];rw[BA (hs.step _ _ 0 o A7 A7 ha.2.1 (by unfold rtI at hr;omega))];rw[show(((0:Nat):Int) -1)=-1 from rfl,GM (hs.stop _ _)];rfl
theorem d1N{t:XT}(h:t.wf):0<=arF t.node.1/\arF t.node.1<=3:=by
 cases t with
 |l0 n=>rw[show arF (XT.l0 n).node.1=0 from h];decide|l1 n a=>rw[show arF (XT.l1 n a).node.1=1 from h.1];decide|l2 n a b=>rw[show arF (XT.l2 n a b).node.1=2 from h.1];decide|l3 n a b c=>rw[show arF (XT.l3 n a b c).node.1=3 from h.1];decide
theorem Qp(h:0<=k)(h2:k<=1000000)(x:α):tq k x=some (List.replicate k.toNat x):=if_pos ⟨h,o5⟩
theorem Jg{t:XT}(env:dK)(h:At e S t o)(he:e.length<=48)(hw:t.wf):lM (e,S,env) (rtI t o:Int)=some (ZA t o):=by
 have hr:=zZ h;have ha:=d1N hw;unfold lM;simp only[I5,hr.1,x8,Yg];rw[Qp ha.1 o5,x8,lm];rw[show G8 .i64 ((rtI t o:Nat):Int) 1=(rtI t o:Int) -1 from V4 P6];rw[show G8 .i64 (o8 (List.replicate (arF t.node.1).toNat (0:Int))) 1=arF t.node.1 -1 by rw[show o8 (List.replicate (arF t.node.1).toNat (0:Int))=arF t.node.1 by unfold o8;rw[rV];omega];exact V4 P6]
 refine b3i ⟨λl c j x hj hl hx hx2=>?_,λl c=>?_⟩ h he hw
 .have hjl:l[j]? =some l[j]:=fO hj;simp only[af (show(0:Int)<=(j:Int) by omega),o7,I5,hjl,x8,hx,X8,U8,Y3,aW];rw[V4 P6,V4 P6]
 .rfl
def AB(n:Int×Int)(args:List V3)(env:dK):V3×Int:=(vZ n args env).getD ((0,0,0),0)
variable {env:dK}
theorem UZ(args:List V3)(hE:EvOk env)(hI:kQ n.2)(hk:n.1≠23/\n.1≠24/\n.1≠26)(hl:args.length<=3):vZ n args env=some (AB n args env)/\AL n args env=some (AB n args env):=by
 obtain⟨r,h1,h2⟩:=a3h n.1 n.2 args env hE (by unfold kQ at hI;omega) hk o5;have e:AB n args env=r:=by unfold AB;rw[show vZ n args env=some r from h1];rfl
 rw[e];exact⟨h1,h2⟩
def lzB(k:Int):Bool:=l7 (o9 k 23) true (l7 (o9 k 24) true (o9 k 26))
theorem c3X(h:lzB k=false):k≠23/\k≠24/\k≠26:=by refine⟨?_,?_,?_⟩<;>(rintro rfl;revert h;decide)
def IM(r:V3×Int):V3×Int:=l7 (o9 r.2 0) (l7 (o9 r.1.1 1) (l7 (plB r.1) (r.1,0) ((0,0,0),8)) ((0,0,0),8)) ((0,0,0),r.2)
def a8M(n:Int×Int)(ra rb:V3×Int):V3×Int:=l7 (o9 n.2 0) (l7 (o9 (IM ra).2 0) (l7 (jY (o9 n.1 23) (o9 (IM ra).1.2.2 0)) ((IM ra).1,0) (IM rb)) ((0,0,0),(IM ra).2)) ((0,0,0),2)
def b2u(n:Int×Int)(ra rb rc:V3×Int):V3×Int:=l7 (o9 n.2 0) (l7 (o9 (IM ra).2 0) (l7 (o9 (IM ra).1.2.2 1) rb rc) ((0,0,0),(IM ra).2)) ((0,0,0),2)
def evT(env:dK):XT->V3×Int
 | .l0 n=>AB n [] env| .l1 n a=>l7 (o9 (evT env a).2 0) (AB n [(evT env a).1] env) ((0,0,0),(evT env a).2)| .l2 n a b=>l7 (lzB n.1) (a8M n (evT env a) (evT env b)) (l7 (o9 (evT env a).2 0) (l7 (o9 (evT env b).2 0) (AB n [(evT env a).1,(evT env b).1] env) ((0,0,0),(evT env b).2)) ((0,0,0),(evT env a).2))| .l3 n a b c=>b2u n (evT env a) (evT env b) (evT env c)
abbrev VSt:Type:=V3×List V3×Int
structure VStep (ops:d4I) (ev:Int->Option (V3×Int)) (pad:List V3->List V3) (f:VSt->Option (Out VSt (V3×List V3) (V3×Int))):Prop where
 step:∀(l:List V3) (c:Int) (r:V3×Int),ops[l.length]? =some c->ev c=some r->f ((0,0,0),pad l,(l.length:Int))=some (l7 (o9 r.2 0) (.nx ((0,0,0),pad (l++[r.1]),((l.length+1:Nat):Int))) (.rt ((0,0,0),r.2)))
 stop:∀(l:List V3),l.length=ops.length->f ((0,0,0),pad l,(l.length:Int))=some (.ex ((0,0,0),l))
section
variable {ev:Int->Option (V3×Int)} {pad:List V3->List V3} {f:VSt->Option (Out VSt (V3×List V3) (V3×Int))}
theorem v0(h:VStep [] ev pad f):U3 f ((0,0,0),pad [],0)=some (.inl ((0,0,0),[])):=by obtain⟨k,hk⟩:∃k,lH=k+1:=⟨lH -1,by unfold lH;omega⟩;unfold U3;rw[hk,rX,show f ((0,0,0),pad [],0)=some (.ex ((0,0,0),[]))from h.stop [] rfl]
theorem v1{c:Int}{r:V3×Int}(h:VStep [c] ev pad f)(h1:ev c=some r):U3 f ((0,0,0),pad [],0)=some (l7 (o9 r.2 0) (.inl ((0,0,0),[r.1])) (.inr ((0,0,0),r.2))):=by
 obtain⟨k,hk⟩:∃k,lH=k+1+1:=⟨lH -2,by unfold lH;omega⟩;unfold U3;rw[hk,rX,show f ((0,0,0),pad [],0)=_ from h.step [] c r rfl h1];cases o9 r.2 0
 .rfl
 .simp only[o7];rw[rX,show f ((0,0,0),pad ([]++[r.1]),(([].length+1:Nat):Int))=_ from h.stop [r.1] rfl]
theorem v2{c d:Int}{r q:V3×Int}(h:VStep [c,d] ev pad f)(h1:ev c=some r)(h2:ev d=some q):U3 f ((0,0,0),pad [],0)=some (l7 (o9 r.2 0) (l7 (o9 q.2 0) (.inl ((0,0,0),[r.1,q.1])) (.inr ((0,0,0),q.2))) (.inr ((0,0,0),r.2))):=by
 obtain⟨k,hk⟩:∃k,lH=k+1+1+1:=⟨lH -3,by unfold lH;omega⟩;unfold U3;rw[hk,rX,show f ((0,0,0),pad [],0)=_ from h.step [] c r rfl h1];cases o9 r.2 0
 .rfl
 .simp only[o7];rw[rX,show f ((0,0,0),pad ([]++[r.1]),(([].length+1:Nat):Int))=_ from h.step [r.1] d q rfl h2];cases o9 q.2 0
  .rfl
  .simp only[o7];rw[rX,show f ((0,0,0),pad ([r.1]++[q.1]),(([r.1].length+1:Nat):Int))=_ from h.stop [r.1,q.1] rfl]
end
theorem b1G(h:arF k=0\/arF k=1):k≠23/\k≠24/\k≠26:=by refine⟨?_,?_,?_⟩<;>(rintro rfl;revert h;decide)
theorem b9t(h:arF k=2):k≠26:=by rintro rfl;revert h;decide
theorem b9u(h:arF k=3):k=26:=by obtain⟨i,rfl⟩:=b9s (by rw[h];decide);rw[(b1F i).2.2.2 h];rfl
theorem d0D(n:Nat)(E:aZ)(i:Int):(D7 (n+1)).1 E i=qM (D7 n).1 (D7 n).2.1 (D7 n).2.2 E i:=rfl
theorem d0E(n:Nat)(E:aZ)(i:Int):(D7 (n+1)).2.1 E i=uB (D7 n).1 (D7 n).2.1 (D7 n).2.2 E i:=rfl
theorem b8N(n:Nat)(E:aZ)(x:Int×Int)(l:d4I):(D7 (n+1)).2.2 E x l=oH (D7 n).1 (D7 n).2.1 (D7 n).2.2 E x l:=rfl
variable {E:aZ}
theorem RJ{n:Nat}{i:Int}{r:V3×Int}(h:(D7 n).2.1 E i=some r):(D7 (n+1)).1 E i=some (IM r):=by
 rw[d0D];unfold qM IM;rw[h,x8];cases o9 r.2 0
 .rfl
 cases o9 r.1.1 1
 .rfl
 simp only[G6,o6,o7];rw[yZ,x8];cases plB r.1<;>rfl
theorem b2t{n:Nat}{x:Int×Int}{i j:Int}{ra rb:V3×Int}(hx:x.1≠26)(h1:(D7 n).2.1 E i=some ra)(h2:(D7 n).2.1 E j=some rb):(D7 (n+2)).2.2 E x [i,j]=some (a8M x ra rb):=by
 rw[show n+2=(n+1)+1 from rfl,b8N];unfold oH a8M;rw[show G9 [i,j] 0=some i from rfl,show G9 [i,j] 1=some j from rfl];simp only[x8];rw[RJ h1,RJ h2,U2 hx];cases o9 x.2 0
 .rfl
 simp only[x8,G6,o6,o7];cases o9 (IM ra).2 0
 .rfl
 simp only[G6,o6,o7];cases jY (o9 x.1 23) (o9 (IM ra).1.2.2 0)<;>rfl
theorem b2v{n:Nat}{x:Int×Int}{i j l:Int}{ra rb rc:V3×Int}(hx:x.1=26)(h1:(D7 n).2.1 E i=some ra)(h2:(D7 (n+1)).2.1 E j=some rb)(h3:(D7 (n+1)).2.1 E l=some rc):(D7 (n+2)).2.2 E x [i,j,l]=some (b2u x ra rb rc):=by
 rw[show n+2=(n+1)+1 from rfl,b8N];unfold oH b2u;rw[show G9 [i,j,l] 0=some i from rfl,show G9 [i,j,l] 1=some j from rfl,show G9 [i,j,l] 2=some l from rfl];simp only[x8];rw[RJ h1,h2,h3,X0 hx];cases o9 x.2 0
 .rfl
 simp only[x8,G6,o6,o7];cases o9 (IM ra).2 0
 .rfl
 simp only[G6,o6,o7];cases o9 (IM ra).1.2.2 1<;>rfl
def W_(m:Nat)(l:List V3):List V3:=l++List.replicate (m -l.length) (0,0,0)
theorem b3n{m:Nat}{l:List V3}(h:l.length<m):(W_ m l)[l.length]? =some (0,0,0):=by unfold W_;rw[H5 (E8 _),bI,lC,if_pos o5]
theorem b3o{m:Nat}{l:List V3}(v:V3)(h:l.length<m):(W_ m l).set l.length v=W_ m (l++[v]):=by unfold W_;obtain⟨k,hk⟩:∃k,m -l.length=k+1:=⟨m -l.length -1,o5⟩;rw[iR _ _ (E8 _),bI,hk,jl,qh];rw[show m -(l++[v]).length=k by simp;omega];simp
theorem b0I{m:Nat}{l:List V3}(h:l.length=m):W_ m l=l:=by unfold W_;rw[h,bI];simp
def a8Y(ev:Int->Option (V3×Int))(ops:d4I)(x:VSt):Option (Out VSt (V3×List V3) (V3×Int)):=
 l7 (E5 x.2.2 (o8 ops))
  (l9 (G9 ops x.2.2) λ(x_4:Int)=>
   l9 (X8 ops (U8 x.2.2)) λ(x_5:Int)=>
    l9 (ev x_5) λ(x_6:V3×Int)=>
     l7 (D9 (o9 x_6.2 0)) (some (Out.rt ((0,0,0),x_6.2)))
      (l9 (G9 x.2.1 x.2.2) λ(x_7:V3)=>
       l9 (X8 x.2.1 (U8 x.2.2)) λ(x_8:V3)=>
        some (Out.nx (x.1,aW x.2.1 (U8 x.2.2) x_6.1,C9 IntKind.i64 x.2.2 1))))
  (some (Out.ex (x.1,x.2.1)))
theorem SA(ev:Int->Option (V3×Int))(ops:d4I)(ho:ops.length<=3):VStep ops ev (W_ ops.length) (a8Y ev ops):=by
 refine⟨λl c r h1 h2=>?_,λl h=>?_⟩
 .have hl:=(aO.1 h1).1;unfold a8Y;simp only[V6 h1,o7,I5,h1,x8,X8,U8,Y3,h2,b3n hl,aW,b3o _ hl];cases o9 r.2 0
  .rfl
  .simp only[G6,o6,o7];rw[iy o5]
 .unfold a8Y;rw[b0I h,h,V5];rfl
theorem XG(n:Nat)(E:aZ)(i:Int)(x:Int×Int)(ops:d4I)(h1:G9 E.1 i=some x)(h2:lM E i=some ops)(ho:ops.length<=3):
  (D7 (n+1)).2.1 E i=l7 (lzB x.1) ((D7 n).2.2 E x ops)
   (l9 (U3 (a8Y ((D7 n).2.1 E) ops) ((0,0,0),W_ ops.length [],0)) λ(o:V3×List V3⊕V3×Int)=>U4 o (λ(y:V3×List V3)=>AL x y.2 E.2.2) λ(r:V3×Int)=>some r):=by
 rw[d0E];unfold uB lzB;simp only[h1,h2,x8,lm];rw[show o8 ops=(ops.length:Int)from rfl];have hp:tq (ops.length:Int) (((0,0,0):Int×Int×Int))=some (W_ ops.length []):=by rw[Qp o5 o5];rfl
 cases g1:o9 x.1 23
 .cases g2:o9 x.1 24
  .cases g3:o9 x.1 26
   .simp only[o6,x8,aj];rw[show tq (ops.length:Int) _=_ from hp,x8];rfl
   .simp only[o6,o7];generalize (D7 n).2.2 E x ops=q;cases q<;>rfl
  .simp only[o6,o7];generalize (D7 n).2.2 E x ops=q;cases q<;>rfl
 .simp only[o7];generalize (D7 n).2.2 E x ops=q;cases q<;>rfl
theorem Uj(t:XT)(o:Nat):(ZA t o).length<=3:=by cases t<;>simp[ZA]
theorem a3F(hE:EvOk env)(he:e.length<=48)(hI:∀n∈e,kQ n.2):∀(t:XT) (o k:Nat),At e S t o->t.wf->3*t.size<=k->(D7 k).2.1 (e,S,env) (rtI t o:Int)=some (evT env t):=by
 intro t;induction t with
 |l0 n=>intro o k h hw hk;have hr:=zZ h;obtain⟨k,rfl⟩:∃m,k=m+3:=⟨k -3,by simp only[XT.size]at hk;omega⟩;have hz:=b1G (.inl (show arF n.1=0 from hw));rw[show k+3=(k+2)+1 from rfl,XG _ _ _ n (ZA (.l0 n) o) (by rw[I5];exact hr.1) (Jg env h he hw) (Uj _ _)];rw[show lzB n.1=false by unfold lzB;rw[U2 hz.1,U2 hz.2.1,U2 hz.2.2];rfl,o6];rw[show ZA (.l0 n) o=[]from rfl,v0 (SA _ _ A7),x8,aj];exact(UZ [] hE (hI n (mM hr.1)) hz A7).2
 |l1 n a iha=>
  intro o k h hw hk;have hr:=zZ h;simp only[XT.size]at hk;obtain⟨k,rfl⟩:∃m,k=m+3:=⟨k -3,o5⟩;have hz:=b1G (.inr (show arF n.1=1 from hw.1));rw[show k+3=(k+2)+1 from rfl,XG _ _ _ n (ZA (.l1 n a) o) (by rw[I5];exact hr.1) (Jg env h he hw) (Uj _ _)];rw[show lzB n.1=false by unfold lzB;rw[U2 hz.1,U2 hz.2.1,U2 hz.2.2];rfl,o6];rw[show ZA (.l1 n a) o=[(rtI a o:Int)]from rfl,v1 (SA _ _ A7) (iha o (k+2) (b8z h) hw.2 o5),x8];rw[show evT env (.l1 n a)=l7 (o9 (evT env a).2 0) (AB n [(evT env a).1] env) ((0,0,0),(evT env a).2)from rfl];cases o9 (evT env a).2 0
  .rfl
  exact(UZ [(evT env a).1] hE (hI n (mM hr.1)) hz A7).2
 |l2 n a b iha ihb=>
  intro o k h hw hk;have hr:=zZ h;simp only[XT.size]at hk;obtain⟨k,rfl⟩:∃m,k=m+3:=⟨k -3,o5⟩;have hz:=b9t (show arF n.1=2 from hw.1);rw[show k+3=(k+2)+1 from rfl,XG _ _ _ n (ZA (.l2 n a b) o) (by rw[I5];exact hr.1) (Jg env h he hw) (Uj _ _)];rw[show ZA (.l2 n a b) o=[(rtI a o:Int),(rtI b (o+a.size):Int)]from rfl];rw[show evT env (.l2 n a b)=l7 (lzB n.1) (a8M n (evT env a) (evT env b)) (l7 (o9 (evT env a).2 0) (l7 (o9 (evT env b).2 0) (AB n [(evT env a).1,(evT env b).1] env) ((0,0,0),(evT env b).2)) ((0,0,0),(evT env a).2))from rfl];cases hl:lzB n.1
  .have hz:=c3X hl;simp only[o6];rw[v2 (SA _ _ A7) (iha o (k+2) (a0p h).1 hw.2.1 o5) (ihb (o+a.size) (k+2) (a0p h).2 hw.2.2 o5),x8];cases o9 (evT env a).2 0
   .rfl
   cases o9 (evT env b).2 0
   .rfl
   exact(UZ [(evT env a).1,(evT env b).1] hE (hI n (mM hr.1)) hz A7).2
  .simp only[o7];exact b2t hz (iha o k (a0p h).1 hw.2.1 o5) (ihb (o+a.size) k (a0p h).2 hw.2.2 o5)
 |l3 n a b c iha ihb ihc=>intro o k h hw hk;have hr:=zZ h;simp only[XT.size]at hk;obtain⟨k,rfl⟩:∃m,k=m+3:=⟨k -3,o5⟩;have hz:=b9u (show arF n.1=3 from hw.1);rw[show k+3=(k+2)+1 from rfl,XG _ _ _ n (ZA (.l3 n a b c) o) (by rw[I5];exact hr.1) (Jg env h he hw) (Uj _ _)];rw[show lzB n.1=true by rw[hz];decide,o7];exact b2v hz (iha o k (a0q h).1 hw.2.1 o5) (ihb (o+a.size) (k+1) (a0q h).2.1 hw.2.2.1 o5) (ihc (o+a.size+b.size) (k+1) (a0q h).2.2 hw.2.2.2 o5)
def xG(e:List (Int×Int))(env:dK):V3×Int:=match oZ e with
 | .inl x=>((0,0,0),x.2)| .inr t=>evT env t
theorem b1H{t:XT}(h:oZ e= .inr t):At e (t.sts 0) t 0/\e.length<=48/\e.length=t.size/\G8 .i64 (o8 e) 1=(rtI t 0:Int):=by
 obtain⟨hp,h48⟩:=ES h;have hsz:e.length=t.size:=by rw[hp,XT.post_len]
 have hpos:=t.size_pos;refine⟨⟨[],[],[],[],by simp[←hp],A7,rfl,rfl⟩,h48,hsz,?_⟩;rw[V4 (by unfold kQ o8;omega)];unfold o8 rtI;omega
theorem a8E(hE:EvOk env)(hI:∀n∈e,kQ n.2):JZ e env=some (xG e env):=by
 unfold JZ EF xG;rw[UQ];unfold Gu;cases h:oZ e with
 |inl x=>simp only[x8,U2 (Jt h)];rfl|inr t=>obtain⟨h1,h2,h3,h4⟩:=b1H h;simp only[x8,X0 (rfl:(0:Int)=0),G6,o6,lm];rw[h4,show zB (e,t.sts 0,env) ((rtI t 0:Nat):Int)=some (evT env t)from a3F hE h2 hI t 0 lH h1 (Wh h) (by unfold lH;omega)]<;>rfl
abbrev E4:Type:=Int×Int×Int×Int
def NT(s:F5)(env:dK)(m d:Int)(ap:List Bool)(i:Int):List Bool⊕(Int×E4):=
 match G9 s.2.2.2.2 i with
 |none=> .inl ap|some r=>l7 (o9 (o8 r.2.2.2.2.2.1) 0) (.inl (ap++[true])) (l7 (o9 (xG r.2.2.2.2.2.1 env).2 0) (.inl (ap++[o9 (xG r.2.2.2.2.2.1 env).1.2.2 1])) (.inr (0,(xG r.2.2.2.2.2.1 env).2,m,d,i)))
def dV(s:F5)(env:dK)(m d:Int):Int×E4:=
 match dE (NT s env m d) (dF s d env.1).1 []with
 | .inr e=>e| .inl ap=>l7 (E5 (KT (dF s d env.1).2.1 (dF s d env.1).2.2 ap) 0) (KT (dF s d env.1).2.1 (dF s d env.1).2.2 ap,0,0,0,0) (((dF s d env.1).1.getD (KT (dF s d env.1).2.1 (dF s d env.1).2.2 ap).toNat 0),0,0,0,0)
variable {s:F5}
theorem a5C{d t i:Int}(h:i∈(dF s d t).1):∃r,G9 s.2.2.2.2 i=some r/\r∈s.2.2.2.2:=by have h:i∈castL (su s d t):=h;obtain⟨k,hk,rfl⟩:=O9.1 h;have:=(zn hk).1;exact qA o5 (by unfold o8;omega)
theorem PR(s:F5)(d t:Int):(dF s d t).1.length<=s.2.2.2.2.length/\(dF s d t).2.1.length=(dF s d t).1.length:=by
 refine⟨?_,?_⟩
 .show(castL (su s d t)).length<=_;rw[Gx];exact Jf _ _
 .show((su s d t).map _).length=(castL (su s d t)).length;rw[Gx,H9]
theorem b1O{oc pr:Int->Int}{l:d4I}{n:Int}(hn:0<=n)(h:∀x∈l,oc x<n):chF oc pr l<n:=by
 unfold chF;cases hb:Oh oc pr l with
 |nil=>show(-1:Int)<n;omega|cons b r=>
  cases r with
  |nil=>exact h b (Qe (oc:=oc) (pr:=pr) (by rw[hb];simp))|cons c r=>show(-2:Int)<n;omega
theorem b2V(par prio:d4I)(ap:List Bool):∀(k:Nat) (i:Int),i<par.length->ocF par prio ap k i<par.length
 |0,i,h=>by show(-1:Int)<_;omega|k+1,i,h=>by
  unfold ocF;have hb:chF (ocF par prio ap k) (prF prio) (castL (Fb par i))<(par.length:Int):=b1O o5 λx hx=>by unfold castL at hx;obtain⟨j,hj,rfl⟩:=O9.1 hx;have:=(a1Q hj).1;exact b2V par prio ap k _ o5
  cases o9 (chF (ocF par prio ap k) (prF prio) (castL (Fb par i))) (-1)
  .exact hb
  .cases apF ap i
   .show(-1:Int)<_;omega
   .exact h
theorem XN(par prio:d4I)(ap:List Bool):KT par prio ap<par.length:=by
 unfold KT;cases o9 (RF par prio) 0
 .show(-1:Int)<_;omega
 cases o9 (o8 ap) (o8 par)
 .show(-1:Int)<_;omega
 show chS par prio ap (-1)<_;unfold chS;refine b1O o5 λx hx=>?_;unfold castL at hx;obtain⟨j,hj,rfl⟩:=O9.1 hx;have:=(a1Q hj).1;unfold OC;exact b2V par prio ap _ _ o5
def a2f(m:Nat)(l:List Bool):List Bool:=l++List.replicate (m -l.length) false
theorem b3l{m:Nat}{l:List Bool}(h:l.length<m):(a2f m l)[l.length]? =some false:=by unfold a2f;rw[H5 (E8 _),bI,lC,if_pos o5]
theorem b3m{m:Nat}{l:List Bool}(v:Bool)(h:l.length<m):(a2f m l).set l.length v=a2f m (l++[v]):=by unfold a2f;obtain⟨k,hk⟩:∃k,m -l.length=k+1:=⟨m -l.length -1,o5⟩;rw[iR _ _ (E8 _),bI,hk,jl,qh];rw[show m -(l++[v]).length=k by simp;omega];simp
theorem b0H{m:Nat}{l:List Bool}(h:l.length=m):a2f m l=l:=by unfold a2f;rw[h,bI];simp
theorem a6b(s:F5)(env:dK)(m d:Int)(ap:List Bool):
  l7 (E5 (KT (dF s d env.1).2.1 (dF s d env.1).2.2 ap) 0) (some ((KT (dF s d env.1).2.1 (dF s d env.1).2.2 ap,0,0,0,0):Int×E4))
   (l9 (G9 (dF s d env.1).1 (KT (dF s d env.1).2.1 (dF s d env.1).2.2 ap)) λ(x_3:Int)=>l9 (X8 (dF s d env.1).1 (U8 (KT (dF s d env.1).2.1 (dF s d env.1).2.2 ap))) λ(x:Int)=>some (x,0,0,0,0))=
  some (l7 (E5 (KT (dF s d env.1).2.1 (dF s d env.1).2.2 ap) 0) (KT (dF s d env.1).2.1 (dF s d env.1).2.2 ap,0,0,0,0) (((dF s d env.1).1.getD (KT (dF s d env.1).2.1 (dF s d env.1).2.2 ap).toNat 0),0,0,0,0)):=by
 have hb:=XN (dF s d env.1).2.1 (dF s d env.1).2.2 ap;have hl:=(PR s d env.1).2;generalize KT (dF s d env.1).2.1 (dF s d env.1).2.2 ap=q at*;generalize (dF s d env.1).1=L at*;by_cases g:q<0
 .rw[V7 g];rfl
 rw[O6 (gW.1 g)];obtain⟨i,rfl⟩:∃i:Nat,q=(i:Int):=⟨q.toNat,o5⟩;have hi:i<L.length:=o5;have e:=fO hi;simp only[o6,I5,e,x8,X8,U8,Y3,zM,fD]
theorem a5e(hs:SmS s)(hE:EvOk env)(m d:Int):Ag s env m d=some (dV s env m d):=by
 have hnr:=hs.nr;have hlen:=(PR s d env.1).1;unfold Ag;rw[b1e o5,x8];rw[show tq (o8 (dF s d env.1).1) false=some (a2f (dF s d env.1).1.length []) by rw[show o8 (dF s d env.1).1=((dF s d env.1).1.length:Int)from rfl,Qp o5 o5];rfl,x8];unfold dV;apply rY (dF s d env.1).1 (NT s env m d) (λb i=>(((0,0,0,0),a2f (dF s d env.1).1.length b,i):E4×List Bool×Int)) (λb=>(((0,0,0,0),b):E4×List Bool)) (λi b=>b.length=i) [] o5 rfl
 .intro i a b hi hi' hb;obtain⟨r,hr,hm⟩:=a5C (mM hi);have hlt:=(aO.1 hi).1;have hI:=(hs.ro r hm).1.2.2;subst hb;simp only[V6 hi,o7,I5,hi,x8,X8,U8,Y3,hr,b3l hlt,aW,b3m _ hlt];unfold NT;rw[hr];simp only;cases o9 (o8 r.2.2.2.2.2.1) 0
  .simp only[o6];rw[a8E hE hI.1,x8];cases o9 (xG r.2.2.2.2.2.1 env).2 0
   .exact⟨rfl,λ_ h=>by cases h⟩
   .simp only[G6,o6,o7];rw[iy o5];exact⟨rfl,λ_ h=>by cases h;simp⟩
  .simp only[o7];rw[iy o5];exact⟨rfl,λ_ h=>by cases h;simp⟩
 .intro b hb;rw[V5,b0H hb];rfl
 .intro _;cases dE (NT s env m d) (dF s d env.1).1 []with
  |inr e=>rfl|inl ap=>simp only[aj,b0X,x8];exact a6b s env m d ap
theorem b1P{oc pr:Int->Int}{l:d4I}(h:∀x∈l,-2<=oc x):-2<=chF oc pr l:=by
 unfold chF;cases hb:Oh oc pr l with
 |nil=>show -2<=(-1:Int);omega|cons b r=>
  cases r with
  |nil=>exact h b (Qe (oc:=oc) (pr:=pr) (by rw[hb];simp))|cons c r=>show -2<=(-2:Int);omega
theorem b2W(par prio:d4I)(ap:List Bool):∀(k:Nat) (i:Int),0<=i->-2<=ocF par prio ap k i
 |0,i,h=>by show -2<=(-1:Int);omega|k+1,i,h=>by
  unfold ocF;have hb:-2<=chF (ocF par prio ap k) (prF prio) (castL (Fb par i)):=b1P λx hx=>by unfold castL at hx;obtain⟨j,hj,rfl⟩:=O9.1 hx;exact b2W par prio ap k _ o5
  cases o9 (chF (ocF par prio ap k) (prF prio) (castL (Fb par i))) (-1)
  .exact hb
  .cases apF ap i
   .show -2<=(-1:Int);omega
   .show -2<=i;omega
theorem a2y(par prio:d4I)(ap:List Bool):-2<=KT par prio ap:=by
 unfold KT;cases o9 (RF par prio) 0
 .show -2<=(-1:Int);omega
 cases o9 (o8 ap) (o8 par)
 .show -2<=(-1:Int);omega
 show -2<=chS par prio ap (-1);unfold chS;refine b1P λx hx=>?_;unfold castL at hx;obtain⟨j,hj,rfl⟩:=O9.1 hx;unfold OC;exact b2W par prio ap _ _ o5
variable {d:Int}{m:Int}
theorem YS(b:List Bool)(i:Int)(r:Int×E4)(h:NT s env m d b i= .inr r):r.2.1≠0:=by
 unfold NT at h;cases hl:G9 s.2.2.2.2 i with
 |none=>rw[hl]at h;cases h|some q=>
  rw[hl]at h;simp only at h;cases h1:o9 (o8 q.2.2.2.2.2.1) 0<;>rw[h1]at h
  .cases h2:o9 (xG q.2.2.2.2.2.1 env).2 0<;>rw[h2]at h<;>cases h;simp only;intro h3;rw[X0 h3]at h2;cases h2
  .cases h
theorem a3r(h0:(dV s env m d).2.1=0)(h1:(dV s env m d).1≠-1)(h2:(dV s env m d).1≠-2):∃r,G9 s.2.2.2.2 (dV s env m d).1=some r/\r∈s.2.2.2.2:=by
 unfold dV at*;cases hf:dE (NT s env m d) (dF s d env.1).1 []with
 |inr e=>rw[hf]at h0;exact absurd h0 (xg (NT s env m d) (λr=>r.2.1≠0) YS _ _ _ hf)|inl ap=>
  rw[hf]at h0 h1 h2;simp only at*;have hb:=XN (dF s d env.1).2.1 (dF s d env.1).2.2 ap;have hlo:=a2y (dF s d env.1).2.1 (dF s d env.1).2.2 ap;have hl:=(PR s d env.1).2;generalize KT (dF s d env.1).2.1 (dF s d env.1).2.2 ap=q at*;by_cases g:q<0
  .rw[V7 g]at h1 h2;simp only[o7]at h1 h2;omega
  rw[O6 (gW.1 g)];have hi:q.toNat<(dF s d env.1).1.length:=o5;simp only[o6,zM,fO hi,fD];exact a5C (O5 hi)
def Ov(s:F5)(env:dK)(m d:Int):(V3×Int)⊕E4:=
 l7 (o9 (dV s env m d).2.1 0) (l7 (o9 (dV s env m d).1 (-1)) (.inr (10,m,d,-1)) (l7 (o9 (dV s env m d).1 (-2)) (.inr (11,m,d,-1))
  (match G9 s.2.2.2.2 (dV s env m d).1 with
  |none=> .inr (1,0,0,0)
  |some r=>l7 (o9 (xG r.2.2.2.2.2.2.1 env).2 0) (.inl ((xG r.2.2.2.2.2.2.1 env).1,(dV s env m d).1)) (.inr ((xG r.2.2.2.2.2.2.1 env).2,m,d,(dV s env m d).1))))) (.inr (dV s env m d).2)
theorem b1T{e:E4}(h:Ov s env m d= .inr e):e.1≠0:=by
 unfold Ov at h;cases h0:o9 (dV s env m d).2.1 0<;>rw[h0]at h
 .cases h;intro h3;rw[X0 h3]at h0;cases h0
 cases h1:o9 (dV s env m d).1 (-1)<;>rw[h1]at h
 case true=>cases h;show(10:Int)≠0;decide
 cases h2:o9 (dV s env m d).1 (-2)<;>rw[h2]at h
 case true=>cases h;show(11:Int)≠0;decide
 simp only[o7,o6]at h;cases hl:G9 s.2.2.2.2 (dV s env m d).1 with
 |none=>rw[hl]at h;cases h;show(1:Int)≠0;decide|some r=>rw[hl]at h;simp only at h;cases h4:o9 (xG r.2.2.2.2.2.2.1 env).2 0<;>rw[h4]at h<;>cases h;simp only;intro h3;rw[X0 h3]at h4;cases h4
theorem a0W{s:F5} :∀(k:Nat) (O:d4I),(∀d∈O,0<=d/\d<nD s)->match ZB s k O with| .inl O' =>(∀d∈O',0<=d/\d<nD s)/\O'.length<=O.length+k| .inr x=>x.1=[]
 |0,O,h=>⟨h,o5⟩|k+1,O,h=>by
  unfold ZB;by_cases hc:O.length<s.2.2.2.1.length
  .rw[if_pos hc];cases hn:Rf s O with
   |none=>rfl|some d=>
    have hd:=(Zt hn).1;have:=a0W k (O++[(d:Int)]) (λx hx=>by
     rcases E9.1 hx with hx|hx
     .exact h x hx
     .rw[X5]at hx;subst hx;unfold nD o8;omega)
    simp only;cases ho:ZB s k (O++[(d:Int)])with
    |inl O' =>rw[ho]at this;exact⟨this.1,by have:=this.2;simp at this;omega⟩|inr x=>rw[ho]at this;exact this
  .rw[if_neg hc];exact⟨h,o5⟩
theorem a4H(s:F5):(∀d∈(qW s).1,0<=d/\d<nD s)/\(qW s).1.length<=100:=by
 have:=a0W (s:=s) 100 [] A7;unfold qW;cases ho:ZB s 100 []with
 |inl O=>rw[ho]at this;exact⟨this.1,by have:=this.2;simp at this;exact this⟩|inr x=>rw[ho]at this;simp only at this ⊢;rw[this];simp
abbrev DB:Type:=List V3×d4I
def xu(env:dK)(ds:List V3):dK:=(env.1,env.2.1,ds,env.2.2.2)
theorem xF(h:EvOk env)(ds:List V3):EvOk (xu env ds):=⟨h.ms,h.tb⟩
def scG(s:F5)(env:dK)(m:Int)(need:List Bool)(b:DB)(d:Int):DB⊕(E4×List V3):=
 l7 ((G9 need d).getD false) (match Ov s (xu env b.1) m d with
  | .inl v=> .inl (b.1.set d.toNat v.1,b.2.set d.toNat v.2)
  | .inr e=> .inr (e,b.1)) (.inl b)
def scS(s:F5)(env:dK)(m:Int)(need:List Bool):DB⊕(E4×List V3):=dE (scG s env m need) (qW s).1 (List.replicate s.2.2.2.1.length (0,0,0),List.replicate s.2.2.2.1.length 0)
variable {need:List Bool}
theorem b8d(b:DB)(d:Int)(r:E4×List V3)(h:scG s env m need b d= .inr r):r.1.1≠0:=by
 unfold scG at h;cases hb:(G9 need d).getD false<;>rw[hb]at h
 .cases h
 simp only[o7]at h;cases hd:Ov s (xu env b.1) m d with
 |inl v=>rw[hd]at h;cases h|inr e=>rw[hd]at h;cases h;exact b1T hd
theorem UL{r:E4×List V3}(h:scS s env m need= .inr r):r.1.1≠0:=xg (scG s env m need) (λr=>r.1.1≠0) b8d _ _ _ h
def a4l{β ρ ρ' :Type}(h:ρ->ρ'):β⊕ρ->β⊕ρ'| .inl b=> .inl b| .inr r=> .inr (h r)
theorem Vu{α β ρ ρ' :Type}(G:β->α->β⊕ρ)(G' :β->α->β⊕ρ')(h:ρ->ρ')(hG:∀b a,G' b a=a4l h (G b a)):∀(l:List α) (b:β),dE G' l b=a4l h (dE G l b)
 |[],b=>rfl|a::l,b=>by
  unfold dE;rw[hG b a];cases G b a with
  |inl b' =>exact Vu G G' h hG l b'|inr r=>rfl
theorem UE(s:F5)(hs:SmS s)(x:α):tq (o8 s.2.2.2.1) x=some (List.replicate s.2.2.2.1.length x):=by have:=hs.nd;rw[show o8 s.2.2.2.1=(s.2.2.2.1.length:Int)from rfl,Qp o5 o5];rfl
def scP(env:dK):E4×List V3->d4I×E4×dK:=λr=>([],r.1,xu env r.2)
theorem TK(hs:SmS s)(hE:EvOk env)(m:Int)(hn:need.length=s.2.2.2.1.length):jP s env m need=some (match scS s env m need with| .inl b=>(b.2,(0,0,0,0),xu env b.1)| .inr r=>([],r.1,xu env r.2)):=by
 obtain⟨o1,o2⟩:=a4H s;unfold jP;rw[UE s hs,x8,UE s hs,x8,b3j hs,x8];have hfold:=Vu (scG s env m need) (λb d=>a4l (scP env) (scG s env m need b d)) (scP env) (λ_ _=>rfl) (qW s).1 (List.replicate s.2.2.2.1.length (0,0,0),List.replicate s.2.2.2.1.length 0);unfold scS;apply rY (qW s).1 (λb d=>a4l (scP env) (scG s env m need b d)) (λb i=>((xu env b.1,(0,0,0,0),b.2,i):dK×E4×d4I×Int)) (λb=>((xu env b.1,(0,0,0,0),b.2):dK×E4×d4I)) (λi b=>b.1.length=s.2.2.2.1.length/\b.2.length=s.2.2.2.1.length) (List.replicate s.2.2.2.1.length (0,0,0),List.replicate s.2.2.2.1.length 0) o5 ⟨A7,A7⟩
 .intro i d b hi hi' hb;have hr:=o1 d (mM hi);have hnd:nD s=(s.2.2.2.1.length:Int):=rfl;obtain⟨k,rfl⟩:∃k:Nat,d=(k:Int):=⟨d.toNat,o5⟩;have hk:k<s.2.2.2.1.length:=o5;have e1:=fO (show k<need.length by omega);have e2:=fO (show k<b.1.length by omega);have e3:=fO (show k<b.2.length by omega);unfold scG;simp only[V6 hi,o7,I5,hi,x8,X8,U8,Y3,e1,fD];cases need[k]
  .simp only[gz,o7,o6];rw[iy o5];exact⟨rfl,λ_ h=>by cases h;exact hb⟩
  simp only[G6,o7,o6];rw[a5e hs (xF hE b.1),x8];unfold Ov;cases h0:o9 (dV s (xu env b.1) m (k:Int)).2.1 0
  .exact⟨rfl,λ_ h=>by cases h⟩
  cases h1:o9 (dV s (xu env b.1) m (k:Int)).1 (-1)
  case true=>exact⟨rfl,λ_ h=>by cases h⟩
  cases h2:o9 (dV s (xu env b.1) m (k:Int)).1 (-2)
  case true=>exact⟨rfl,λ_ h=>by cases h⟩
  obtain⟨r,hr,hm⟩:=a3r (Z5.1 h0) (λh=>by rw[X0 h]at h1;cases h1) (λh=>by rw[X0 h]at h2;cases h2);simp only[G6,o6,o7,hr,x8];rw[a8E (xF hE b.1) (hs.ro r hm).1.2.2.2,x8];cases h3:o9 (xG r.2.2.2.2.2.2.1 (xu env b.1)).2 0
  .exact⟨rfl,λ_ h=>by cases h⟩
  .simp only[G6,o6,o7];refine⟨?_,λ_ h=>by cases h;exact⟨by simp[hb.1],by simp[hb.2]⟩⟩;rw[iy o5];have e2' :(xu env b.1).2.2.1[k]? =some (b.1[k]'o5):=e2;simp only[e2',e3,x8];rfl
 .intro b hb;rw[V5];rfl
 .intro _;rw[hfold];cases dE (scG s env m need) (qW s).1 (List.replicate s.2.2.2.1.length (0,0,0),List.replicate s.2.2.2.1.length 0)<;>rfl
def Vb(l:U6)(k:Int)(c:pq)(ex:Bool)(d:Int):E4:=
 l7 (o9 (eX l).1 0) (match G9 l.2.2 k with
  |none=>(6,-1,-1,-1)
  |some s=>l7 (l7 ex (l7 (E5 d 0) true (J8 (o8 s.2.2.2.1) d)) false) (6,-1,-1,-1) (l7 (o9 (IP l k c).2.2 0) (0,0,0,0) ((IP l k c).2.2,(IP l k c).1,-1,-1))) (1,-1,-1,-1)
theorem b2s(l:List F5)(k:Int):(E5 k 0=true/\G9 l k=none)\/(E5 k 0=false/\J8 (o8 l) k=true/\G9 l k=none)\/(E5 k 0=false/\J8 (o8 l) k=false/\∃s,G9 l k=some s/\s∈l):=by
 by_cases h:k<0
 .exact .inl ⟨V7 h,zN (.inl (aA h))⟩
 by_cases h2:o8 l<=k
 .exact .inr (.inl ⟨O6 o5,af h2,zN (.inr (O6 h2))⟩)
 .exact .inr (.inr ⟨O6 o5,aA o5,qA o5 o5⟩)
variable {l:U6}{c:pq}
theorem b6Q(hL:SmL l)(k:Int)(hc:SmC c)(ex:Bool)(d:Int):sO l k c ex d=some (Vb l k c ex d):=by
 unfold sO Vb;rw[a5G hL,x8,b6S l k hc];cases o9 (eX l).1 0
 .rfl
 simp only[G6,o6,o7];rcases b2s l.2.2 k with⟨h1,h2⟩|⟨h1,h2,h3⟩|⟨h1,h2,s,h3,_⟩
 .rw[h1,h2];rfl
 .rw[h1,h2,h3];rfl
 .rw[h1,h2,h3];simp only[o6,x8];cases ex
  .simp only[o6,x8,aj];cases o9 (IP l k c).2.2 0<;>rfl
  .simp only[o7];cases E5 d 0
   .cases J8 (o8 s.2.2.2.1) d
    .simp only[o6,x8,aj];cases o9 (IP l k c).2.2 0<;>rfl
    .rfl
   .rfl
def sV:F5:=([],0,[],[],[])
def dR(l:U6)(s:F5):F5:=l7 (J8 0 s.2.1) ((G9 l.2.2 s.2.1).getD sV) sV
def nC(n:Nat):List Bool:=List.replicate n false
def jI(n:Nat):List Bool:=List.replicate n true
theorem Vd{ex:Bool}(h:(Vb l k c ex d).1=0):(eX l).1=0/\∃s,G9 l.2.2 k=some s:=by
 unfold Vb at h;cases h0:o9 (eX l).1 0<;>rw[h0]at h
 .exact absurd (show(1:Int)=0 from h) F8
 refine⟨Z5.1 h0,?_⟩;cases h1:G9 l.2.2 k with
 |none=>rw[h1]at h;exact absurd (show(6:Int)=0 from h) F8|some s=>exact⟨s,rfl⟩
theorem z_(h:(eX l).1=0)(hs:l.2.2[i]? =some s):(Iw l i s).1=0:=by
 unfold eX at h;cases h1:o9 (BV l).1 0<;>rw[h1]at h
 .simp only[o6]at h;rw[X0 h]at h1;cases h1
 cases h2:o9 (AA l).1 0<;>rw[h2]at h
 .simp only[o7,o6]at h;rw[X0 h]at h2;cases h2
 simp only[o7]at h;unfold MP at h;cases h3:E5 4 (o8 l.2.2)<;>rw[h3]at h
 case true=>exact absurd (show(4:Int)=0 from h) F8
 simp only[o6]at h;have hi:=(aO.1 hs).1;cases hf:ae l.2.2.length (MO l)with
 |some r=>
  rw[hf]at h;simp only at h;obtain⟨j,hj,hp⟩:=gZ hf;unfold MO at hp;cases hq:l.2.2[j]? with
  |none=>rw[hq]at hp;cases hp|some q=>
   rw[hq]at hp;simp only at hp;unfold TJ at hp;exact absurd h (by cases he:o9 (Iw l j q).1 0<;>rw[he]at hp<;>cases hp;simp only;intro h4;rw[X0 h4]at he;cases he)
 |none=>
  have hn:=oJ hf i hi;unfold MO at hn;rw[hs]at hn;simp only at hn;unfold TJ at hn;cases he:o9 (Iw l i s).1 0<;>rw[he]at hn
  .cases hn
  exact Z5.1 he
theorem Ld(h:(eX l).1=0)(hs:l.2.2[i]? =some s):DX l i s.2.1=false/\(Pg l s).1=0:=by
 have he:=z_ h hs;unfold Iw at he;cases g1:AQ s.1<;>rw[g1]at he
 .exact absurd (show(2:Int)=0 from he) F8
 cases g2:EU l 3 i s.1<;>rw[g2]at he
 case true=>exact absurd (show(7:Int)=0 from he) F8
 cases g3:DX l i s.2.1<;>rw[g3]at he
 case true=>exact absurd (show(6:Int)=0 from he) F8
 cases g4:E5 12 (o8 s.2.2.1)<;>rw[g4]at he
 case true=>exact absurd (show(4:Int)=0 from he) F8
 cases g5:E5 12 (o8 s.2.2.2.1)<;>rw[g5]at he
 case true=>exact absurd (show(4:Int)=0 from he) F8
 exact⟨rfl,he⟩
theorem b1j(h:(eX l).1=0)(hs:l.2.2[i]? =some s):DX l i s.2.1=false:=(Ld h hs).1
theorem PS(h:(eX l).1=0)(hs:G9 l.2.2 k=some s):(J8 0 s.2.1=false/\E5 s.2.1 0=true/\dR l s=sV)\/(J8 0 s.2.1=true/\E5 s.2.1 0=false/\J8 (o8 l.2.2) s.2.1=false/\G9 l.2.2 s.2.1=some (dR l s)/\dR l s∈l.2.2):=by
 obtain⟨k0,k1,k2,k3⟩:=rq hs;have hm:=b1j h k3;unfold DX at hm;by_cases g:0<=s.2.1
 .right;rw[U2 (show s.2.1≠-1 by intro e;rw[e]at g;exact absurd g F8),O6 g]at hm;simp only[o6]at hm;cases g2:J8 ((k.toNat:Nat):Int) s.2.1<;>rw[g2]at hm
  case true=>cases hm
  rw[Fa]at g2;have hlt:s.2.1<o8 l.2.2:=by have:((k.toNat:Nat):Int)=k:=X6 k0;rw[this]at g2;exact Int.lt_trans g2 k1
  obtain⟨q,hq,hqm⟩:=qA g hlt;have e:dR l s=q:=by unfold dR;rw[af g,hq];rfl
  rw[e];exact⟨af g,O6 g,aA hlt,hq,hqm⟩
 .left;have g' :=lw.1 g;refine⟨aA g',V7 g',?_⟩;unfold dR;rw[aA g'];rfl
theorem b6y(i j:Nat):(jI i++nC (j+1)).set i true=jI (i+1)++nC j:=by unfold jI nC;rw[iR _ _ A7,rV,bI,jl,qh,zu,G5];rfl
theorem b6x(i j:Nat):(jI i++nC (j+1))[i]? =some false:=by unfold jI nC;rw[H5 A7,rV,bI];rfl
theorem a0l{σ ε:Type}{f:σ->Option (σ⊕ε)}{mk:List Bool->Int->σ}{fin:List Bool->ε}{n:Nat}
  (hs:∀(i j:Nat),i+j+1=n->f (mk (jI i++nC (j+1)) (i:Int))=some (.inl (mk (jI (i+1)++nC j) ((i+1:Nat):Int))))
  (he:f (mk (jI n) (n:Int))=some (.inr (fin (jI n)))):∀(j i k:Nat),i+j=n->sZ f (k+1+j) (mk (jI i++nC j) (i:Int))=some (fin (jI n))
 |0,i,k,h=>by have:i=n:=o5;subst this;rw[show jI i++nC 0=jI i by unfold nC;simp];exact GM he|j+1,i,k,h=>by rw[show k+1+(j+1)=(k+1+j)+1 by omega,BA (hs i j o5)];exact a0l hs he j (i+1) k o5
theorem a3f{mk:List Bool->Int->σ}{fin:List Bool->ε}{n:Nat}(hn:n<=1000000)
  (hs:∀(i j:Nat),i+j+1=n->f (mk (jI i++nC (j+1)) (i:Int))=some (.inl (mk (jI (i+1)++nC j) ((i+1:Nat):Int))))
  (he:f (mk (jI n) (n:Int))=some (.inr (fin (jI n)))):aX f (mk (nC n) 0)=some (fin (jI n)):=by
 unfold aX;rw[show lH=(lH -n -1)+1+n by unfold lH;omega];exact a0l hs he n 0 _ o5
theorem a3g{σ ε α β:Type}{f:σ->Option (σ⊕ε)}{mk:List β->Int->σ}{fin:List β->ε}{l:List α}{g:α->β}
  (hs:∀(i:Nat) (a:α) (b:List β),l[i]? =some a->b.length=i->f (mk b (i:Int))=some (.inl (mk (b++[g a]) ((i+1:Nat):Int))))
  (he:∀b,f (mk b (l.length:Int))=some (.inr (fin b))):∀(l2 l1:List α) (k:Nat),l=l1++l2->sZ f (k+1+l2.length) (mk (l1.map g) (l1.length:Int))=some (fin (l.map g))
 |[],l1,k,h=>by
  have:l=l1:=by simpa using h
  subst this;exact GM (he _)
 |a::l2,l1,k,h=>by rw[show k+1+(a::l2).length=(k+1+l2.length)+1 by simp;omega,BA (hs l1.length a (l1.map g) (by rw[h];simp) A7)];have:=a3g hs he l2 (l1++[a]) k (by rw[h];simp);simpa using this
variable {β:Type}
theorem Tu(mk:List β->Int->σ)(fin:List β->ε)(l:List α)(g:α->β)(hn:l.length<=1000000)
  (hs:∀(i:Nat) (a:α) (b:List β),l[i]? =some a->b.length=i->f (mk b (i:Int))=some (.inl (mk (b++[g a]) ((i+1:Nat):Int))))
  (he:∀b,f (mk b (l.length:Int))=some (.inr (fin b))):aX f (mk [] 0)=some (fin (l.map g)):=by
 unfold aX;rw[show lH=(lH -l.length -1)+1+l.length by unfold lH;omega];exact a3g hs he l [] _ rfl
theorem a4u(hL:SmL l)(h:(eX l).1=0)(hs:G9 l.2.2 k=some s):Af l k=some (s,dR l s,nC s.2.2.2.1.length,nC (dR l s).2.2.2.1.length):=by
 have hm:=(rq hs).2.2.1;have hnd:=(hL.sc s hm).nd;unfold Af;rw[hs,x8,show tq (o8 s.2.2.2.1) false=some (nC s.2.2.2.1.length)from UE s (hL.sc s hm) false,x8];rcases PS h hs with⟨g1,g2,g3⟩|⟨g1,g2,g3,g4,g5⟩
 .rw[g1,g3];rfl
 .rw[g1,g4];simp only[o7,x8];rw[show tq (o8 (dR l s).2.2.2.1) false=some (nC (dR l s).2.2.2.1.length)from UE _ (hL.sc _ g5) false,x8]
theorem Zv:SmS sV:=⟨by simp[sV],by simp[sV],by simp[sV],by simp[sV],⟨by simp[sV],by simp[sV]⟩,by simp[sV]⟩
def Zl(l:U6)(c:pq)(v:List V3):dK:=(c.1,v,[],[],[],l.2.1)
def mG(l:U6)(c:pq)(ms:F5)(need:List Bool)(b:List DB)(a:List V3×Nat):List DB⊕E4:=
 match scS ms (Zl l c a.1) (a.2:Int) need with
 | .inl x=> .inl (b++[x])| .inr e=> .inr e.1
def mS(l:U6)(c:pq)(ms:F5)(need:List Bool):List DB⊕E4:=dE (mG l c ms need) c.2.2.zipIdx []
variable {ms:F5}
theorem b2B(b:List DB)(a:List V3×Nat)(r:E4)(h:mG l c ms need b a= .inr r):r.1≠0:=by
 unfold mG at h;cases hs:scS ms (Zl l c a.1) (a.2:Int) need with
 |inl x=>rw[hs]at h;cases h|inr e=>rw[hs]at h;cases h;exact UL hs
theorem b8t{l:List (List V3)}{a:List V3×Nat}(h:l.zipIdx[i]? =some a):l[i]? =some a.1/\a.2=i:=by
 rw[List.getElem?_zipIdx]at h;cases hl:l[i]? with
 |none=>rw[hl]at h;cases h|some v=>rw[hl]at h;cases h;exact⟨rfl,A7⟩
theorem TU(hT:∀t∈l.2.1,rC t)(c:pq)(v:List V3):EvOk (Zl l c v):=⟨by simp[Zl],hT⟩
def KG(l:U6)(s:F5)(c:pq)(b:List DB):dK:=(c.1,c.2.1,[],b.map (·.1),(dR l s).2.2.2.1.map (·.2),l.2.1)
def Xt(l:U6)(s:F5)(c:pq):sF×E4:=
 match mS l c (dR l s) (jI (dR l s).2.2.2.1.length)with
 | .inr e=>(([],[],[]),e)
 | .inl b=>match scS s (KG l s c b) (-1) (jI s.2.2.2.1.length)with
  | .inl x=>((x.1,x.2,b),0,0,0,0)| .inr r=>(([],[],[]),r.1)
theorem a4n(hL:SmL l)(h:(eX l).1=0)(hs:G9 l.2.2 k=some s):SmS (dR l s):=by
 rcases PS h hs with⟨_,_,g3⟩|⟨_,_,_,_,g5⟩
 .rw[g3];exact Zv
 .exact hL.sc _ g5
theorem a6H{b:List DB}(h:mS l c ms need= .inl b):b.length=c.2.2.length:=by
 have key:∀(L:List (List V3×Nat)) (b0 b:List DB),dE (mG l c ms need) L b0= .inl b->b.length=b0.length+L.length:=by
  intro L;induction L with
  |nil=>intro b0 b h;cases h;simp|cons a L ih=>
   intro b0 b h;unfold dE at h;cases hg:mG l c ms need b0 a with
   |inr e=>rw[hg]at h;cases h|inl b1=>
    rw[hg]at h;have:=ih b1 b h;have h1:b1.length=b0.length+1:=by
     unfold mG at hg;cases hs:scS ms (Zl l c a.1) (a.2:Int) need with
     |inr e=>rw[hs]at hg;cases hg|inl x=>rw[hs]at hg;cases hg;simp
    simp only[H8];omega
 have:=key _ _ _ h;simpa using this
theorem Pi(hT:∀t∈l.2.1,rC t)(s:F5)(c:pq){b:List DB}(hb:b.length<=1000):EvOk (KG l s c b):=⟨by simp[KG];omega,hT⟩
abbrev ZT:Type:=Int×List V3×PUnit×List (List V3)×List (Int×Int)×List ak
def b9A(l:U6)(s:F5)(c:pq)(nS nM:List Bool):DB×List DB⊕E4:=
 match mS l c (dR l s) nM with
 | .inr e=> .inr e
 | .inl b=>match scS s (KG l s c b) (-1) nS with
  | .inl x=> .inl (x,b)| .inr r=> .inr r.1
theorem a1I{nS nM:List Bool}(hS:SmS s)(hM:SmS (dR l s))(hC:SmC c)(hT:∀t∈l.2.1,rC t)(h1:nS.length=s.2.2.2.1.length)(h2:nM.length=(dR l s).2.2.2.1.length):
  Ae l k c (s,dR l s,nS,nM)=some (match b9A l s c nS nM with
   | .inl x=>((x.1.1,x.1.2,x.2),xu (KG l s c x.2) x.1.1,(0,0,0,0),(s,dR l s,nS,nM))
   | .inr e=>(([],[],[]),(0,[],[],[],[],[]),e,(s,dR l s,nS,nM))):=by
 have hnd:=hM.nd;have hnm:=hC.nm;unfold Ae;rw[show(aX _ _)=some (((c.1,c.2.1,PUnit.unit,PUnit.unit,(dR l s).2.2.2.1.map (λf=>f.2),l.2.1)):Int×List V3×PUnit×PUnit×List (Int×Int)×List ak)from ?_,x8]
 rotate_left
 .refine Tu (λL i=>(((c.1,c.2.1,PUnit.unit,PUnit.unit,L,l.2.1),i):(Int×List V3×PUnit×PUnit×List (Int×Int)×List ak)×Int)) (λL=>((c.1,c.2.1,PUnit.unit,PUnit.unit,L,l.2.1):Int×List V3×PUnit×PUnit×List (Int×Int)×List ak)) (dR l s).2.2.2.1 (λf=>f.2) o5 (λi a L hi hL=>?_) (λL=>?_)
  .have:=(aO.1 hi).1;simp only[V6 hi,o7,I5,hi,x8];rw[nT _ o5,x8,iy o5]
  .rw[V5];rfl
 have hfold:=Vu (mG l c (dR l s) nM) (λb a=>a4l (λe=>((([],[],[]),(0,[],[],[],[],[]),e,(s,dR l s,nS,nM)):sF×dK×E4×iW)) (mG l c (dR l s) nM b a)) (λe=>((([],[],[]),(0,[],[],[],[],[]),e,(s,dR l s,nS,nM)):sF×dK×E4×iW)) (λ_ _=>rfl) c.2.2.zipIdx [];have hzl:c.2.2.zipIdx.length=c.2.2.length:=A7;unfold b9A mS;apply rY c.2.2.zipIdx (λb a=>a4l (λe=>((([],[],[]),(0,[],[],[],[],[]),e,(s,dR l s,nS,nM)):sF×dK×E4×iW)) (mG l c (dR l s) nM b a))
  (λb i=>((([],[],[]),(0,[],[],[],[],[]),(0,0,0,0),(c.1,c.2.1,PUnit.unit,b.map (·.1),(dR l s).2.2.2.1.map (λf=>f.2),l.2.1),([],[],b),i):sF×dK×E4×ZT×sF×Int))
  (λb=>((([],[],[]),(0,[],[],[],[],[]),(0,0,0,0),(c.1,c.2.1,PUnit.unit,b.map (·.1),(dR l s).2.2.2.1.map (λf=>f.2),l.2.1),([],[],b)):sF×dK×E4×ZT×sF))
  (λi b=>b.length=i) [] o5 rfl
 .intro i a b hi hi' hb;obtain⟨z1,z2⟩:=b8t hi;have hil:=(aO.1 z1).1;unfold mG;simp only[V6 z1,o7,I5,z1,x8];rw[show jP (dR l s) (c.1,a.1,[],[],[],l.2.1) (i:Int) nM=_ from TK hM (TU hT c a.1) (i:Int) h2,x8,z2];unfold Zl;cases hq:scS (dR l s) (c.1,a.1,[],[],[],l.2.1) (i:Int) nM with
  |inr e=>simp only[U2 (UL hq)];exact⟨rfl,λ_ h=>by cases h⟩|inl x=>simp only[X0 (rfl:(0:Int)=0),G6,o6];rw[nT _ aH,x8,nT _ o5,x8,iy o5];exact⟨by simp[a4l,xu],λ_ h=>by cases h;simp[hb]⟩
 .intro b hb;rw[hzl,V5];rfl
 .intro _;rw[hfold];cases hq:dE (mG l c (dR l s) nM) c.2.2.zipIdx []with
  |inr e=>rfl|inl b=>
   have hbl:b.length=c.2.2.length:=a6H (ms:=dR l s) (need:=nM) hq;have hsc:=TK (need:=nS) hS (Pi hT s c (b:=b) o5) (-1) h1;unfold KG at hsc;simp only[a4l,aj];rw[show jP s (c.1,c.2.1,[],b.map (·.1),(dR l s).2.2.2.1.map (λf=>f.2),l.2.1) (-1) nS=_ from hsc,x8];unfold KG;cases hr:scS s (c.1,c.2.1,[],b.map (·.1),(dR l s).2.2.2.1.map (λf=>f.2),l.2.1) (-1) nS with
   |inr e=>simp only[U2 (UL hr)];rfl|inl x=>rfl
theorem b4m(hL:SmL l)(hC:SmC c)(hT:∀t∈l.2.1,rC t):AP l k c=some (if(Vb l k c false 0).1=0 then(match G9 l.2.2 k with|some s=>Xt l s c|none=>(([],[],[]),0,0,0,0))else(([],[],[]),Vb l k c false 0)):=by
 unfold AP;rw[b6Q hL k hC,x8];by_cases hA:(Vb l k c false 0).1=0
 case neg=>rw[if_neg hA,U2 hA];rfl
 rw[if_pos hA,X0 hA];obtain⟨h,s,hs⟩:=Vd hA;have hM:=a4n hL h hs;have hS:=hL.sc s (rq hs).2.2.1;have hn1:=hS.nd;have hn2:=hM.nd;rw[hs];simp only[G6,o6];rw[a4u hL h hs,x8];rw[show(aX _ _)=some ((s,dR l s,jI s.2.2.2.1.length,nC (dR l s).2.2.2.1.length):iW)from ?_,x8]
 rotate_left
 .refine a3f (n:=s.2.2.2.1.length) (mk:=λL i=>(((s,dR l s,L,nC (dR l s).2.2.2.1.length),i):iW×Int)) (fin:=λL=>((s,dR l s,L,nC (dR l s).2.2.2.1.length):iW)) o5 (λi j hij=>?_) ?_
  .simp only[show o8 (nC s.2.2.2.1.length)=(s.2.2.2.1.length:Int) by unfold o8 nC;simp,V7 (show(i:Int)<(s.2.2.2.1.length:Int) by omega),o7,I5,b6x,x8,X8,U8,Y3,aW,b6y];rw[iy o5]
  .simp only[show o8 (nC s.2.2.2.1.length)=(s.2.2.2.1.length:Int) by unfold o8 nC;simp,O6 (fV (s.2.2.2.1.length:Int)),o6]
 rw[show(aX _ _)=some ((s,dR l s,jI s.2.2.2.1.length,jI (dR l s).2.2.2.1.length):iW)from ?_,x8]
 rotate_left
 .refine a3f (n:=(dR l s).2.2.2.1.length) (mk:=λL i=>(((s,dR l s,jI s.2.2.2.1.length,L),i):iW×Int)) (fin:=λL=>((s,dR l s,jI s.2.2.2.1.length,L):iW)) o5 (λi j hij=>?_) ?_
  .simp only[show o8 (nC (dR l s).2.2.2.1.length)=((dR l s).2.2.2.1.length:Int) by unfold o8 nC;simp,V7 (show(i:Int)<((dR l s).2.2.2.1.length:Int) by omega),o7,I5,b6x,x8,X8,U8,Y3,aW,b6y];rw[iy o5]
  .simp only[show o8 (nC (dR l s).2.2.2.1.length)=((dR l s).2.2.2.1.length:Int) by unfold o8 nC;simp,O6 (fV ((dR l s).2.2.2.1.length:Int)),o6]
 rw[a1I hS hM hC hT (by simp[jI]) (by simp[jI]),x8];unfold b9A Xt;cases mS l c (dR l s) (jI (dR l s).2.2.2.1.length)with
 |inr e=>rfl|inl b=>simp only;cases scS s (KG l s c b) (-1) (jI s.2.2.2.1.length)<;>rfl
theorem jk{n:Nat}{l:List α}(h:E5 (n:Int) (o8 l)=false):l.length<=n:=by rw[gU]at h;unfold o8 at h;omega
def Zi(r:bf):Bool:=l7 (E5 80 (o8 r.1)) true (l7 (E5 80 (o8 r.2.2.2.2.2.2.2)) true (l7 (E5 50 (o8 r.2.2.2.2.2.1)) true (E5 50 (o8 r.2.2.2.2.2.2.1))))
def smS(s:F5):Bool:=l7 (E5 80 (o8 s.1)) false (l7 (E5 14 (o8 s.2.2.1)) false (l7 (E5 14 (o8 s.2.2.2.1)) false (l7 (E5 60 (o8 s.2.2.2.2)) false
 (l7 (s.2.2.1.any λf=>E5 80 (o8 f.1)) false (l7 (s.2.2.2.1.any λf=>E5 80 (o8 f.1)) false (D9 (s.2.2.2.2.any Zi)))))))
theorem YM{fs:List iH}(h:fs.length<=1000000):U3 (λ(x:Int)=>l7 (E5 x (o8 fs)) (l9 (G9 fs x) λ(x_1:iH)=>l7 (E5 80 (o8 x_1.1)) (some (Out.rt false)) (some (Out.nx (C9 IntKind.i64 x 1)))) (some (Out.ex PUnit.unit))) 0=some (bif fs.any (λf=>E5 80 (o8 f.1))then .inr false else .inl PUnit.unit):=by
 refine Lh fs (λf=>E5 80 (o8 f.1)) false PUnit.unit h (λi a ha=>?_) ?_
 .simp only[V6 ha,o7,I5,ha,x8];cases E5 80 (o8 a.1)<;>rfl
 .rw[V5];rfl
theorem a0d(s:F5):Az s=some (smS s):=by
 unfold Az smS;cases h1:E5 80 (o8 s.1)
 case true=>rfl
 cases h2:E5 14 (o8 s.2.2.1)
 case true=>rfl
 cases h3:E5 14 (o8 s.2.2.2.1)
 case true=>rfl
 cases h4:E5 60 (o8 s.2.2.2.2)
 case true=>rfl
 have l2:=jk (n:=14) h2;have l3:=jk (n:=14) h3;have l4:=jk (n:=60) h4;simp only[o6,x8,aj];rw[YM o5,YM o5,x8];cases s.2.2.1.any λf=>E5 80 (o8 f.1)
 case true=>rfl
 simp only[cond_false,aj,o6,x8];cases s.2.2.2.1.any λf=>E5 80 (o8 f.1)
 case true=>rfl
 simp only[cond_false,aj,o6];refine fU (Lh s.2.2.2.2 Zi false PUnit.unit o5 (λi a ha=>?_) ?_) ?_
 rotate_left 2
 .cases s.2.2.2.2.any Zi<;>rfl
 .simp only[V6 ha,o7,I5,ha,x8];unfold Zi;cases E5 80 (o8 a.1)<;>cases E5 80 (o8 a.2.2.2.2.2.2.2)<;>cases E5 50 (o8 a.2.2.2.2.2.1)<;>cases E5 50 (o8 a.2.2.2.2.2.2.1)<;>rfl
 .rw[V5];rfl
def ScI(s:F5):Prop:=∀r∈s.2.2.2.2,(∀n∈r.2.2.2.2.2.1,kQ n.2)/\∀n∈r.2.2.2.2.2.2.1,kQ n.2
theorem QL{a b:Bool}(h:l7 a false b=true):a=false/\b=true:=by cases a<;>cases b<;>first|exact⟨rfl,rfl⟩|cases h
theorem a0n{l:List α}{p:α->Bool}(h:l.any p=false):∀a∈l,p a=false:=by
 intro a ha;rw[ig]at h;have:=h a ha;cases hp:p a
 .rfl
 .exact absurd hp this
theorem c0S(h:smS s=true)(hI:ScI s):SmS s:=by
 unfold smS at h;obtain⟨h1,h⟩:=QL h;obtain⟨h2,h⟩:=QL h;obtain⟨h3,h⟩:=QL h;obtain⟨h4,h⟩:=QL h;obtain⟨h5,h⟩:=QL h;obtain⟨h6,h⟩:=QL h;have h7:s.2.2.2.2.any Zi=false:=by cases hq:s.2.2.2.2.any Zi<;>rw[hq]at h<;>first|rfl|cases h
 refine⟨by have:=jk (n:=80) h1;omega,jk (n:=14) h2,jk (n:=14) h3,aU (jk (n:=60) h4) o5,⟨λf hf=>?_,λf hf=>?_⟩,λr hr=>?_⟩
 .have:=jk (n:=80) (a0n h5 f hf);omega
 .have:=jk (n:=80) (a0n h6 f hf);omega
 .have hl:=a0n h7 r hr;unfold Zi at hl;cases g1:E5 80 (o8 r.1)<;>rw[g1]at hl
  case true=>cases hl
  cases g2:E5 80 (o8 r.2.2.2.2.2.2.2)<;>rw[g2]at hl
  case true=>cases hl
  cases g3:E5 50 (o8 r.2.2.2.2.2.1)<;>rw[g3]at hl
  case true=>cases hl
  have k1:=jk (n:=80) g1;have k2:=jk (n:=80) g2;exact⟨⟨o5,o5,(hI r hr).1,(hI r hr).2⟩,jk (n:=50) g3,jk (n:=50) hl⟩
def smC(c:pq):Bool:=l7 (E5 14 (o8 c.2.1)) false (l7 (E5 10 (o8 c.2.2)) false (D9 (c.2.2.any λv=>E5 14 (o8 v))))
theorem a2C(c:pq):Dh c=some (smC c):=by
 unfold Dh smC;cases h1:E5 14 (o8 c.2.1)
 case true=>rfl
 cases h2:E5 10 (o8 c.2.2)
 case true=>rfl
 have l2:=jk (n:=10) h2;simp only[o6];refine fU (Lh c.2.2 (λv=>E5 14 (o8 v)) false PUnit.unit o5 (λi a ha=>?_) ?_) ?_
 rotate_left 2
 .cases c.2.2.any λv=>E5 14 (o8 v)<;>rfl
 .simp only[V6 ha,o7,I5,ha,x8];cases E5 14 (o8 a)<;>rfl
 .rw[V5];rfl
theorem c0P(h:smC c=true):SmC c:=by
 unfold smC at h;obtain⟨h1,h⟩:=QL h;obtain⟨h2,h⟩:=QL h;have h3:(c.2.2.any λv=>E5 14 (o8 v))=false:=by cases hq:c.2.2.any λv=>E5 14 (o8 v)<;>rw[hq]at h<;>first|rfl|cases h
 exact⟨by have:=jk (n:=14) h1;omega,by have:=jk (n:=10) h2;omega,λv hv=>by have:=jk (n:=14) (a0n h3 v hv);omega⟩
theorem b2L{l:List α}{f:Int->Option (Out Int PUnit Bool)}(hl:l.length<=1000000)(hin:∀(i:Nat) (a:α),l[i]? =some a->f (i:Int)=some (.nx (C9 .i64 (i:Int) 1)))(hend:f (l.length:Int)=some (.ex PUnit.unit)):(l9 (U3 f 0) λ(o:PUnit⊕Bool)=>U4 o (λ_=>some true) λr=>some r)=some true:=by have:=Lh l (λ_=>false) false PUnit.unit hl (λi a ha=>by rw[hin i a ha];rfl) hend;rw[this,show l.any (λ_=>false)=false by simp];rfl
theorem Xk{a:List V3}(h:a.length<=1000000):EQ a a=some true:=by
 unfold EQ;rw[X0 rfl];refine b2L h (λi x hx=>?_) ?_
 .simp only[V6 hx,o7,I5,hx,x8,X0 (rfl:x.1=x.1),X0 (rfl:x.2.1=x.2.1),X0 (rfl:x.2.2=x.2.2)];rfl
 .rw[V5];rfl
theorem a0K{a:d4I}(h:a.length<=1000000):KR a a=some true:=by
 unfold KR;rw[X0 rfl];refine b2L h (λi x hx=>?_) ?_
 .simp only[V6 hx,o7,I5,hx,x8,X0 (rfl:x=x)];rfl
 .rw[V5];rfl
def b1o(b:DB):Prop:=b.1.length<=1000000/\b.2.length<=1000000
theorem a4p{b:DB}(h:b1o b):xP b b=some true:=by unfold xP;rw[Xk h.1,x8,a0K h.2];rfl
theorem a1Y{a:List DB}(h:a.length<=1000000)(hb:∀b∈a,b1o b):wO a a=some true:=by
 unfold wO;rw[X0 rfl];refine b2L h (λi x hx=>?_) ?_
 .simp only[V6 hx,o7,I5,hx,x8,a4p (hb x (mM hx))];rfl
 .rw[V5];rfl
def b1u(r:sF):Prop:=r.1.length<=1000000/\r.2.1.length<=1000000/\r.2.2.length<=1000000/\∀b∈r.2.2,b1o b
theorem Xb{r:sF}(h:b1u r):EO r r=some true:=by unfold EO;rw[Xk h.1,x8,a0K h.2.1,x8,a1Y h.2.2.1 h.2.2.2];rfl
theorem Ql{α β ρ:Type}(G:β->α->β⊕ρ)(Inv:β->Prop)(hG:∀b a b',Inv b->G b a= .inl b' ->Inv b'):∀(l:List α) (b b' :β),Inv b->dE G l b= .inl b' ->Inv b'
 |[],b,b',hi,h=>by cases h;exact hi|a::l,b,b',hi,h=>by
  unfold dE at h;cases hg:G b a with
  |inr r=>rw[hg]at h;cases h|inl b1=>rw[hg]at h;exact Ql G Inv hG l b1 b' (hG b a b1 hi hg) h
theorem UM{b:DB}(h:scS s env m need= .inl b):b.1.length=s.2.2.2.1.length/\b.2.length=s.2.2.2.1.length:=by
 refine Ql (scG s env m need) (λb=>b.1.length=s.2.2.2.1.length/\b.2.length=s.2.2.2.1.length) (λb a b' hi h=>?_) _ _ _ ⟨A7,A7⟩ h;unfold scG at h;cases hb:(G9 need a).getD false<;>rw[hb]at h
 .cases h;exact hi
 simp only[o7]at h;cases hd:Ov s (xu env b.1) m a with
 |inr e=>rw[hd]at h;cases h|inl v=>rw[hd]at h;cases h;exact⟨by simp[hi.1],by simp[hi.2]⟩
theorem c3Z{b:List DB}(hM:ms.2.2.2.1.length<=14)(h:mS l c ms need= .inl b):∀x∈b,b1o x:=by
 refine Ql (mG l c ms need) (λb=>∀x∈b,b1o x) (λb a b' hi h=>?_) _ _ _ A7 h;unfold mG at h;cases hs:scS ms (Zl l c a.1) (a.2:Int) need with
 |inr e=>rw[hs]at h;cases h|inl x=>
  rw[hs]at h;cases h;intro y hy;rcases E9.1 hy with hy|hy
  .exact hi y hy
  .rw[X5]at hy;subst hy;have:=UM hs;exact⟨o5,o5⟩
theorem b2O:b1u ([],[],[]):=⟨A7,A7,A7,A7⟩
theorem b4l(hS:SmS s)(hM:SmS (dR l s))(hC:SmC c):b1u (Xt l s c).1:=by
 unfold Xt;cases hq:mS l c (dR l s) (jI (dR l s).2.2.2.1.length)with
 |inr e=>exact b2O|inl b=>
  simp only;cases hr:scS s (KG l s c b) (-1) (jI s.2.2.2.1.length)with
  |inr e=>exact b2O|inl x=>
   have h1:=UM hr;have h2:=a6H hq;have h3:=hS.nd;have h4:=hC.nm;refine⟨?_,?_,?_,c3Z hM.nd hq⟩
   .show x.1.length<=_;omega
   .show x.2.length<=_;omega
   .show b.length<=_;omega
def a4g(e:dI):Bool:=l7 (E5 80 (o8 e.1)) true (l7 (E5 20 (o8 e.2)) true (e.2.any λm=>E5 80 (o8 m)))
def tG(b:Int)(t:ak):Int⊕Bool:=l7 (E5 80 (o8 t.1)) (.inr false) (l7 (E5 150 (C9 .i64 b (o8 t.2.2.2))) (.inr false) (.inl (C9 .i64 b (o8 t.2.2.2))))
def sG(b:Int)(s:F5):Int⊕Bool:=l7 (E5 60 (C9 .i64 b (o8 s.2.2.2.2))) (.inr false) (l7 (smS s) (.inl (C9 .i64 b (o8 s.2.2.2.2))) (.inr false))
def smL(l:U6):Bool:=l7 (E5 9 (o8 l.1)) false (l7 (E5 9 (o8 l.2.1)) false (l7 (E5 5 (o8 l.2.2)) false (l7 (l.1.any a4g) false
 (match dE tG l.2.1 0 with| .inr _=>false| .inl _=>match dE sG l.2.2 0 with| .inr _=>false| .inl _=>true))))
theorem c3u:∀(b:Int) (t:ak) (r:Bool),tG b t= .inr r->r=false:=by intro b t r h;unfold tG at h;cases g0:E5 80 (o8 t.1)<;>cases g:E5 150 (C9 .i64 b (o8 t.2.2.2))<;>simp only[g0,g,o7,o6]at h<;>cases h<;>rfl
theorem c0N:∀(b:Int) (s:F5) (r:Bool),sG b s= .inr r->r=false:=by intro b s r h;unfold sG at h;cases g:E5 60 (C9 .i64 b (o8 s.2.2.2.2))<;>cases g2:smS s<;>simp only[g,g2,o7,o6]at h<;>cases h<;>rfl
theorem a5g(l:U6):xq l=some (smL l):=by
 unfold xq smL;cases h1:E5 9 (o8 l.1)
 case true=>rfl
 cases h2:E5 9 (o8 l.2.1)
 case true=>rfl
 cases h3:E5 5 (o8 l.2.2)
 case true=>rfl
 have l1:=jk (n:=9) h1;have l2:=jk (n:=9) h2;have l3:=jk (n:=5) h3;simp only[o6,x8,aj];refine fU (Lh l.1 a4g false PUnit.unit o5 (λi a ha=>?_) ?_) ?_
 .simp only[V6 ha,o7,I5,ha,x8];unfold a4g;cases E5 80 (o8 a.1)
  case true=>rfl
  cases h5:E5 20 (o8 a.2)
  case true=>rfl
  have l5:=jk (n:=20) h5;simp only[o6];refine fU (Lh a.2 (λm=>E5 80 (o8 m)) false PUnit.unit o5 (λj m hm=>?_) ?_) ?_
  .simp only[V6 hm,o7,I5,hm,x8];cases E5 80 (o8 m)<;>rfl
  .rw[V5];rfl
  .cases a.2.any λm=>E5 80 (o8 m)<;>rfl
 .rw[V5];rfl
 cases l.1.any a4g
 case true=>rfl
 simp only[cond_false,aj,o6];apply rY l.2.1 tG (λb i=>((b,i):Int×Int)) (λ_=>PUnit.unit) (λ_ _=>True) 0 o5 trivial
 .intro i t b hi hi' _;refine⟨?_,λ_ _=>trivial⟩;simp only[V6 hi,o7,I5,hi,x8];unfold tG;rw[iy o5];cases E5 80 (o8 t.1)<;>cases E5 150 (C9 .i64 b (o8 t.2.2.2))<;>rfl
 .intro b _;rw[V5];rfl
 .intro _;cases ht:dE tG l.2.1 0 with
  |inr r=>rw[xg tG (λr=>r=false) c3u _ _ _ ht];rfl|inl b=>
   simp only[aj];apply rY l.2.2 sG (λb i=>((b,i):Int×Int)) (λ_=>PUnit.unit) (λ_ _=>True) 0 o5 trivial
   .intro i s b hi hi' _;refine⟨?_,λ_ _=>trivial⟩;simp only[V6 hi,o7,I5,hi,x8,a0d];unfold sG;rw[iy o5];cases E5 60 (C9 .i64 b (o8 s.2.2.2.2))<;>cases smS s<;>rfl
   .intro b _;rw[V5];rfl
   .intro _;cases hs:dE sG l.2.2 0 with
    |inr r=>rw[xg sG (λr=>r=false) c0N _ _ _ hs];rfl|inl b=>rfl
structure WfL (l:U6):Prop where
 rl:∀t∈l.2.1,t.2.2.2.length<=4611686018427387904
 ri:∀t∈l.2.1,∀r∈t.2.2.2,a3c r
 sl:∀s∈l.2.2,s.2.2.2.2.length<=4611686018427387904
 si:∀s∈l.2.2,ScI s
theorem b6r:∀(L:List ak) (b b' :Int),0<=b->b<=150->(∀t∈L,t.2.2.2.length<=4611686018427387904)->dE tG L b= .inl b' ->∀t∈L,t.1.length<=80/\t.2.2.2.length<=150
 |[],_,_,_,_,_,_=>by simp|t::L,b,b',h0,h1,hw,h=>by
  have hwt:=hw t A7;have ha:C9 .i64 b (o8 t.2.2.2)=b+o8 t.2.2.2:=Z8 (by unfold kQ o8;omega);unfold dE tG at h;rw[ha]at h;cases g0:E5 80 (o8 t.1)<;>rw[g0]at h
  case true=>cases h
  cases g1:E5 150 (b+o8 t.2.2.2)<;>rw[g1]at h
  case true=>cases h
  rw[gU]at g1;intro x hx;rcases D6.1 hx with rfl|hx
  .exact⟨jk (n:=80) g0,by unfold o8 at g1;omega⟩
  .exact b6r L (b+o8 t.2.2.2) b' (by unfold o8;omega) g1 (λq hq=>hw q (by simp[hq])) h x hx
theorem b4S:∀(L:List F5) (b b' :Int),0<=b->b<=60->(∀s∈L,s.2.2.2.2.length<=4611686018427387904)->dE sG L b= .inl b' ->∀s∈L,smS s=true
 |[],_,_,_,_,_,_=>by simp|s::L,b,b',h0,h1,hw,h=>by
  have hwt:=hw s A7;have ha:C9 .i64 b (o8 s.2.2.2.2)=b+o8 s.2.2.2.2:=Z8 (by unfold kQ o8;omega);unfold dE sG at h;rw[ha]at h;cases g1:E5 60 (b+o8 s.2.2.2.2)<;>rw[g1]at h
  case true=>cases h
  cases g2:smS s<;>rw[g2]at h
  case false=>cases h
  rw[gU]at g1;intro x hx;rcases D6.1 hx with rfl|hx
  .exact g2
  .exact b4S L (b+o8 s.2.2.2.2) b' (by unfold o8;omega) g1 (λq hq=>hw q (by simp[hq])) h x hx
theorem c0Q(h:smL l=true)(hW:WfL l):SmL l/\∀t∈l.2.1,rC t:=by
 unfold smL at h;obtain⟨h1,h⟩:=QL h;obtain⟨h2,h⟩:=QL h;obtain⟨h3,h⟩:=QL h;obtain⟨h4,h⟩:=QL h;have l1:=jk (n:=9) h1;have l2:=jk (n:=9) h2;have l3:=jk (n:=5) h3;cases ht:dE tG l.2.1 0 with
 |inr r=>rw[ht]at h;cases h|inl b=>
  rw[ht]at h;simp only at h;cases hs:dE sG l.2.2 0 with
  |inr r=>rw[hs]at h;cases h|inl b' =>
   have T:=b6r l.2.1 0 b o5 o5 hW.rl ht;have S:=b4S l.2.2 0 b' o5 o5 hW.sl hs;refine⟨⟨⟨o5,o5,o5⟩,λe he=>?_,λt ht=>by have:=(T t ht).1;omega,λs hs=>c0S (S s hs) (hW.si s hs)⟩,λt ht=>⟨by have:=(T t ht).2;omega,hW.ri t ht⟩⟩;have hl:=a0n h4 e he;unfold a4g at hl;cases g1:E5 80 (o8 e.1)<;>rw[g1]at hl
   case true=>cases hl
   cases g2:E5 20 (o8 e.2)<;>rw[g2]at hl
   case true=>cases hl
   have k1:=jk (n:=80) g1;exact⟨o5,λm hm=>by have:=jk (n:=80) (a0n hl m hm);omega⟩
theorem Il:reachBytes<=4611686018427387904:=by decide
theorem d1M(h:wf d4G l):WfL l:=by
 refine⟨λt ht=>?_,λt ht r hr=>?_,λs hs=>?_,λs hs r hr=>⟨λn hn=>?_,λn hn=>?_⟩⟩
 .have:=(h.2.1.2 t ht).2.2.2.1;exact aU this Il
 .have:=(h.2.1.2 t ht).2.2.2.2 r hr;exact⟨Fv this.2.1,Fv this.2.2.1,Fv this.2.2.2⟩
 .have:=(h.2.2.2 s hs).2.2.2.2.1;exact aU this Il
 .have:=(h.2.2.2 s hs).2.2.2.2.2 r hr;exact Fv (this.2.2.2.2.2.1.2 n hn).2
 .have:=(h.2.2.2 s hs).2.2.2.2.2 r hr;exact Fv (this.2.2.2.2.2.2.1.2 n hn).2
variable {sg:J4}
theorem b8H(hk:iY k=some true)(h:(UF (k,N) [] sg).2=0):((RR (k,N) [] sg).getD ((0,0),0)).2=0:=by
 unfold UF at h;rw[b1t]at h;revert h;cases D9 (o9 N 0)
 .exact id
 .rw[show iY (k,N).1=some true from hk];exact id
theorem b7E(h:(UF (8,N) [] sg).2=0):0<=N/\N<o8 sg.2.2.2.1:=by
 have h:=b8H rfl h;have hf:pW (8,N) sg=l7 (J8 0 N) (some (E5 N (o8 sg.2.2.2.1))) (some false):=rfl;unfold RR at h;rw[hf,show uu (8,N) sg=some true from rfl]at h;cases h1:J8 0 N<;>rw[h1]at h
 .exact absurd (show(6:Int)=0 from h) F8
 cases h2:E5 N (o8 sg.2.2.2.1)<;>rw[h2]at h
 .exact absurd (show(6:Int)=0 from h) F8
 exact⟨sK.1 h1,ku.1 h2⟩
theorem b7F(hk:k=36\/k=37\/k=38\/k=39)(h:(UF (k,N) [] sg).2=0):0<=N/\N<o8 sg.2.2.2.2.1/\sg.2.2.2.2.2=true:=by
 have h:=b8H (by rcases hk with rfl|rfl|rfl|rfl<;>rfl) h;have hr:RR (k,N) [] sg=l9 (l7 sg.2.2.2.2.2 (l7 (J8 0 N) (some (E5 N (o8 sg.2.2.2.2.1))) (some false)) (some false)) λ(x:Bool)=>l7 (D9 x) (some ((0,0),6))
   (l9 (mV (k,N) sg) λ(x:bQ×Bool)=>l7 (D9 x.2) (some ((0,0),8)) (some (x.1,0))):=by rcases hk with rfl|rfl|rfl|rfl<;>rfl
 rw[hr]at h;cases h0:sg.2.2.2.2.2<;>rw[h0]at h
 .exact absurd (show(6:Int)=0 from h) F8
 cases h1:J8 0 N<;>rw[h1]at h
 .exact absurd (show(6:Int)=0 from h) F8
 cases h2:E5 N (o8 sg.2.2.2.2.1)<;>rw[h2]at h
 .exact absurd (show(6:Int)=0 from h) F8
 exact⟨sK.1 h1,ku.1 h2,rfl⟩
def XU(sg:J4)(n:Int×Int):Prop:=(o9 n.1 8=true->0<=n.2/\n.2<o8 sg.2.2.2.1)/\(isM n.1=true->0<=n.2/\n.2<o8 sg.2.2.2.2.1/\sg.2.2.2.2.2=true)
theorem a0L(h:isM k=true):k=36\/k=37\/k=38\/k=39:=by
 unfold isM at h;cases h1:J8 36 k<;>rw[h1]at h
 .cases h
 have h2:=sK.1 h1;have h3:=sK.1 (show J8 k 39=true from h);omega
theorem b2R{t:Int×Int}(h:Dx sg n [] i= .inr t):XU sg n:=by
 unfold Dx at h;split at h
 .rename_i h0;obtain⟨k,N⟩:=n;refine⟨λhk=>?_,λhk=>b7F (a0L hk) h0⟩;have hk:k=8:=Z5.1 hk;subst hk;exact b7E h0
 .cases h
theorem Zw(h:arF n.1≠0):XU sg n:=by
 refine⟨λhk=>absurd ?_ h,λhk=>absurd ?_ h⟩
 .rw[Z5.1 hk];rfl
 .rcases a0L hk with e|e|e|e<;>rw[e]<;>rfl
theorem MX{sg:J4} :∀(t:XT) (o:Nat) {r:Int×Int},t.wf->jc sg t o= .inr r->∀n∈t.post,XU sg n
 | .l0 n,o,r,hw,h,x,hx=>by unfold XT.post at hx;rw[X5.1 hx];unfold jc at h;exact b2R h| .l1 n a,o,r,hw,h,x,hx=>by
  unfold XT.wf at hw;unfold XT.post at hx;unfold jc at h;cases ha:jc sg a o with
  |inl e=>rw[ha]at h;cases h|inr ta=>
   rcases E9.1 hx with hx|hx
   .exact MX a o hw.2 ha x hx
   .rw[X5.1 hx];exact Zw (by rw[hw.1];decide)
 | .l2 n a b,o,r,hw,h,x,hx=>by
  unfold XT.wf at hw;unfold XT.post at hx;unfold jc at h;cases ha:jc sg a o with
  |inl e=>rw[ha]at h;cases h|inr ta=>
   rw[ha]at h;simp only at h;cases hb:jc sg b (o+a.size)with
   |inl e=>rw[hb]at h;cases h|inr tb=>
    rcases E9.1 hx with hx|hx
    .rcases E9.1 hx with hx|hx
     .exact MX a o hw.2.1 ha x hx
     .exact MX b _ hw.2.2 hb x hx
    .rw[X5.1 hx];exact Zw (by rw[hw.1];decide)
 | .l3 n a b c,o,r,hw,h,x,hx=>by
  unfold XT.wf at hw;unfold XT.post at hx;unfold jc at h;cases ha:jc sg a o with
  |inl e=>rw[ha]at h;cases h|inr ta=>
   rw[ha]at h;simp only at h;cases hb:jc sg b (o+a.size)with
   |inl e=>rw[hb]at h;cases h|inr tb=>
    rw[hb]at h;simp only at h;cases hc:jc sg c (o+a.size+b.size)with
    |inl e=>rw[hc]at h;cases h|inr tc=>
     rcases E9.1 hx with hx|hx
     .rcases E9.1 hx with hx|hx
      .rcases E9.1 hx with hx|hx
       .exact MX a o hw.2.1 ha x hx
       .exact MX b _ hw.2.2.1 hb x hx
      .exact MX c _ hw.2.2.2 hc x hx
     .rw[X5.1 hx];exact Zw (by rw[hw.1];decide)
theorem LQ{ops:List (Int×Int)}{x:Int×Int}(h:Dx sg n ops i= .inl x):x.2≠0:=by
 unfold Dx at h;split at h
 .cases h
 .rename_i h0;cases h;exact h0
theorem Eh{sg:J4} :∀(t:XT) (o:Nat) {x:Int×Int},jc sg t o= .inl x->x.2≠0
 | .l0 n,o,x,h=>LQ h| .l1 n a,o,x,h=>by
  unfold jc at h;cases ha:jc sg a o with
  |inl e=>rw[ha]at h;cases h;exact Eh a o ha|inr ta=>rw[ha]at h;exact LQ h
 | .l2 n a b,o,x,h=>by
  unfold jc at h;cases ha:jc sg a o with
  |inl e=>rw[ha]at h;cases h;exact Eh a o ha|inr ta=>
   rw[ha]at h;simp only at h;cases hb:jc sg b (o+a.size)with
   |inl e=>rw[hb]at h;cases h;exact Eh b _ hb|inr tb=>rw[hb]at h;exact LQ h
 | .l3 n a b c,o,x,h=>by
  unfold jc at h;cases ha:jc sg a o with
  |inl e=>rw[ha]at h;cases h;exact Eh a o ha|inr ta=>
   rw[ha]at h;simp only at h;cases hb:jc sg b (o+a.size)with
   |inl e=>rw[hb]at h;cases h;exact Eh b _ hb|inr tb=>
    rw[hb]at h;simp only at h;cases hc:jc sg c (o+a.size+b.size)with
    |inl e=>rw[hc]at h;cases h;exact Eh c _ hc|inr tc=>rw[hc]at h;exact LQ h
theorem a1n(h:(pg e sg).2.2=0):∀n∈e,XU sg n:=by
 unfold pg at h;cases hs:oZ e with
 |inl x=>rw[hs]at h;exact absurd h (Jt hs)|inr t=>
  rw[hs]at h;simp only at h;cases ht:jc sg t 0 with
  |inl x=>rw[ht]at h;exact absurd h (Eh t 0 ht)|inr r=>intro n hn;rw[(ES hs).1]at hn;exact MX t 0 (Wh hs) ht n hn
theorem a1r{t:Int×Int}(h:Dz e sg t=0):pg e sg=(t,(pg e sg).2.1,0):=by
 unfold Dz at h;cases h1:o9 (pg e sg).2.2 0<;>rw[h1]at h
 .simp only[o6]at h;rw[X0 h]at h1;cases h1
 cases h2:o9 (pg e sg).1.1 t.1<;>rw[h2]at h
 .exact absurd (show(8:Int)=0 from h) F8
 cases h3:o9 (pg e sg).1.2 t.2<;>rw[h3]at h
 .exact absurd (show(8:Int)=0 from h) F8
 rw[Z5]at h1 h2 h3;exact fE (fE h2 h3) (fE rfl h1)
variable {r:bf}
theorem Na(h:(eX l).1=0)(hs:l.2.2[i]? =some s){k:Nat}(hr:s.2.2.2.2[k]? =some r):Dy s (IK l s) k r=0:=by
 have hp:=(Ld h hs).2;unfold Pg at hp;cases h1:yT l s with
 |some q=>rw[h1]at hp;exact absurd hp (Jb h1)|none=>
  rw[h1]at hp;simp only at hp;cases h2:ae s.2.2.2.2.length (Jn l s)with
  |some q=>
   rw[h2]at hp;obtain⟨j,hj,hq⟩:=gZ h2;unfold Jn at hq;cases h3:s.2.2.2.2[j]? with
   |none=>rw[h3]at hq;cases hq|some q2=>rw[h3]at hq;exact absurd hp (Qk hq)
  |none=>
   have hn:=oJ h2 k (aO.1 hr).1;unfold Jn at hn;rw[hr]at hn;simp only at hn;unfold Vq at hn;cases he:o9 (Dy s (IK l s) k r) 0<;>rw[he]at hn
   .cases hn
   .exact Z5.1 he
theorem b_{k:Nat}(h:Dy s sg k r=0):∃d,G9 s.2.2.2.1 r.2.1=some d/\JD r sg d.2=0:=by
 unfold Dy at h;cases g1:AQ r.1<;>rw[g1]at h
 .exact absurd (show(2:Int)=0 from h) F8
 cases g2:(s.2.2.2.2.take k).any λx=>seq x.1 r.1<;>rw[g2]at h
 case true=>exact absurd (show(7:Int)=0 from h) F8
 cases g3:G9 s.2.2.2.1 r.2.1 with
 |none=>rw[g3]at h;exact absurd (show(6:Int)=0 from h) F8|some d=>
  rw[g3]at h;refine⟨d,rfl,?_⟩;simp only[o7,o6]at h;revert h;generalize l7 (o9 r.2.2.1 (-1)) false (l7 (E5 r.2.2.1 0) true (l7 (J8 k r.2.2.1) true (match G9 s.2.2.2.2 r.2.2.1 with|some q=>D9 (o9 q.2.1 r.2.1)|none=>true)))=b1;generalize E5 r.2.2.2.1 0=b2;generalize E5 9 r.2.2.2.1=b3;generalize zI r.2.2.2.2.1=b4;generalize o9 r.2.2.2.2.1.1 r.2.2.2.2.1.2=b5;generalize J8 8 (Ot (s.2.2.2.2.take k) r.2.1)=b6;generalize a0e r.2.2.2.2.2.2.2=b7;intro h;cases b1
  case true=>exact absurd (show(9:Int)=0 from h) F8
  cases b2
  case true=>exact absurd (show(3:Int)=0 from h) F8
  cases b3
  case true=>exact absurd (show(3:Int)=0 from h) F8
  cases b4
  case false=>exact absurd (show(3:Int)=0 from h) F8
  cases b5
  case true=>exact absurd (show(3:Int)=0 from h) F8
  cases b6
  case true=>exact absurd (show(4:Int)=0 from h) F8
  cases b7
  case false=>exact absurd (show(2:Int)=0 from h) F8
  exact h
theorem Xh(h:(eX l).1=0)(hs:l.2.2[i]? =some s)(hr:r∈s.2.2.2.2):
  (r.2.2.2.2.2.1=[]\/Dz r.2.2.2.2.2.1 (IK l s) (1,0)=0)/\∃d,G9 s.2.2.2.1 r.2.1=some d/\Dz r.2.2.2.2.2.2.1 (IK l s) d.2=0:=by
 obtain⟨k,hk,e⟩:=Z9 hr;obtain⟨d,h1,h2⟩:=b_ (Na h hs (r:=r) (k:=k) (by rw[fO hk,e]));unfold JD at h2;cases h3:E5 0 (o8 r.2.2.2.2.2.1)<;>rw[h3]at h2
 .refine⟨.inl ?_,d,h1,h2⟩;rw[gU]at h3;exact O7.1 (by simp only[o8]at h3;omega)
 .simp only[o7]at h2;cases h4:o9 (Dz r.2.2.2.2.2.1 (IK l s) (1,0)) 0<;>rw[h4]at h2
  .simp only[o6]at h2;rw[X0 h2]at h4;cases h4
  .exact⟨.inr (Z5.1 h4),d,h1,h2⟩
theorem b5d(l:U6)(s:F5):(IK l s).2.2.2.1=s.2.2.2.1.map (·.2):=by unfold IK;split<;>rfl
theorem b8g(h:(IK l s).2.2.2.2.2=true):(IK l s).2.2.2.2.1=(dR l s).2.2.2.1.map (·.2):=by
 unfold IK at h ⊢;unfold dR G9
 by_cases g:0<=s.2.1
 .rw[if_pos g]at h ⊢;rw[af g];cases hq:l.2.2[s.2.1.toNat]? with
  |none=>rw[hq]at h;cases h|some q=>rfl
 .rw[if_neg g]at h;cases h
theorem b0V(h:(eX l).1=0)(hs:l.2.2[i]? =some s)(hr:r∈s.2.2.2.2)(he:e=r.2.2.2.2.2.1\/e=r.2.2.2.2.2.2.1):
  (∀x∈(yI e).2.1,0<=x/\x<nD s)/\∀x∈(yI e).2.2,0<=x/\x<nD (dR l s):=by
 obtain⟨h1,d,h2,h3⟩:=Xh h hs hr;have hn:∀n∈e,XU (IK l s) n:=by
  rcases he with rfl|rfl
  .rcases h1 with h1|h1
   .rw[h1];simp
   .exact a1n (by rw[a1r h1])
  .exact a1n (by rw[a1r h3])
 constructor
 .intro x hx;have hx:=(zO x _).1 (show x∈NW (Uc (λo=>o9 o 8) e)from hx);obtain⟨n,hn1,rfl⟩:=O9.1 hx;obtain⟨hn2,hn3⟩:=Y8.1 hn1;have:=(hn n hn2).1 hn3;rw[b5d]at this;simpa[o8,nD]using this
 .intro x hx;have hx:=(zO x _).1 (show x∈NW (Uc isM e)from hx);obtain⟨n,hn1,rfl⟩:=O9.1 hx;obtain⟨hn2,hn3⟩:=Y8.1 hn1;have:=(hn n hn2).2 hn3;rw[b8g this.2.2]at this;refine⟨this.1,?_⟩;have h2:=this.2.1;simpa[o8,nD]using h2
structure Sim (P Q:Int->Prop) (a b:dK):Prop where
 e1:a.1=b.1
 e2:a.2.1=b.2.1
 e3:a.2.2.2.2=b.2.2.2.2
 dl:a.2.2.1.length=b.2.2.1.length
 d:∀x,P x->G9 a.2.2.1 x=G9 b.2.2.1 x
 ml:a.2.2.2.1.length=b.2.2.2.1.length
 m:∀x,Q x->a.2.2.2.1.map (λv=>G9 v x)=b.2.2.2.1.map (λv=>G9 v x)
def a3b(P Q:Int->Prop)(n:Int×Int):Prop:=(n.1=8->P n.2)/\(isM n.1=true->Q n.2)
theorem a1U{a:List α}{b:List β}(h:a.length=b.length):o8 a=o8 b:=congrArg (λ(n:Nat)=>(n:Int)) h
variable {Q:Int->Prop}{P:Int->Prop}{a:dK}{b:dK}
theorem b0d(h:Sim P Q a b)(hn:a3b P Q n):wo n a=wo n b:=by
 obtain⟨d,i,D,M,T,B⟩:=a;obtain⟨d',i',D',M',T',B'⟩:=b;obtain⟨e1,e2,e3,dl,hd,ml,hm⟩:=h;cases e1;cases e2;cases e3;have hD:=a1U dl;unfold wo;simp only at hD hd ⊢;rw[hD];cases hk:o9 n.1 8
 .rfl
 .rw[hd _ (hn.1 (Z5.1 hk))]
theorem a4d(h:Sim P Q a b)(hn:a3b P Q n):iC n a=iC n b:=by
 obtain⟨d,i,D,M,T,B⟩:=a;obtain⟨d',i',D',M',T',B'⟩:=b;obtain⟨e1,e2,e3,dl,hd,ml,hm⟩:=h;cases e1;cases e2;cases e3;have hM:=a1U ml;unfold iC;simp only at hM hd ⊢;rw[hM];cases hk:o9 n.1 8
 .rfl
 .rw[hd _ (hn.1 (Z5.1 hk))]
theorem YP{α γ β ρ:Type}(f:α->γ)(g:β->γ->β⊕ρ):∀(l:List α) (b:β),dE (λb a=>g b (f a)) l b=dE g (l.map f) b
 |[],b=>rfl|a::l,b=>by
  rw[bW];unfold dE;cases g b (f a)with
  |inl b' =>exact YP f g l b'|inr r=>rfl
def c4a(k:Int)(t:Int×Int)(b:Int×Bool)(o:Option V3):(Int×Bool)⊕(V3×Int):=
 match(match o with|none=>(.inr 6:V3⊕Int)|some x=>l7 (o9 x.1 0) (.inr 6) (l7 (Vx x t) (.inl x) (.inr 8)))with
 | .inr c=> .inr ((0,0,0),c)| .inl x=>l7 (plB (t.1,0,IE k b.1 x.2.2 b.2)) (.inl (IE k b.1 x.2.2 b.2,false)) (.inr ((0,0,0),3))
theorem a8S(k N:Int)(t:Int×Int)(ms:List (List V3))(b:Int×Bool):dE (II k N t) ms b=dE (c4a k t) (ms.map λv=>G9 v N) b:=YP (λv=>G9 v N) (c4a k t) ms b
theorem a4q(h:Sim P Q a b)(hn:Q n.2)(ha:EvOk a)(hb:EvOk b):oV n a=oV n b:=by
 obtain⟨k,N⟩:=n;have h3:a.2.2.2.2.1=b.2.2.2.2.1:=by rw[h.e3]
 cases hl:G9 a.2.2.2.2.1 N with
 |none=>
  have hl2:G9 b.2.2.2.2.1 N=none:=by rw[←h3];exact hl
  unfold oV;simp only;rw[hl,hl2];rfl
 |some t=>
  have hl2:G9 b.2.2.2.2.1 N=some t:=by rw[←h3];exact hl
  have h0:=(rq hl).1;rw[Pj k N a t hl h0 ha.ms,Pj k N b t hl2 h0 hb.ms];unfold a4o;rw[a8S,a8S,h.m N hn,a1U h.ml]
theorem a7y(h:Sim P Q a b)(n:Int×Int)(x:V3):lF n x a=lF n x b:=by obtain⟨d,i,D,M,T,B⟩:=a;obtain⟨d',i',D',M',T',B'⟩:=b;obtain⟨e1,e2,e3,dl,hd,ml,hm⟩:=h;cases e1;cases e2;cases e3;rfl
theorem Va(h:Sim P Q a b)(hn:a3b P Q n)(ha:EvOk a)(hb:EvOk b)(args:List V3):AB n args a=AB n args b:=by
 unfold AB vZ;simp only[b0d h hn,a4d h hn,a7y h];cases h1:J8 36 n.1
 .rfl
 cases h2:J8 n.1 39
 .rfl
 rw[a4q h (hn.2 (by unfold isM;rw[h1];exact h2)) ha hb]
theorem LD{P Q:Int->Prop}{a b:dK}(h:Sim P Q a b)(ha:EvOk a)(hb:EvOk b):∀(t:XT),(∀n∈t.post,a3b P Q n)->evT a t=evT b t
 | .l0 n,hn=>Va h (hn n (by simp[XT.post])) ha hb []| .l1 n x,hn=>by unfold evT;rw[LD h ha hb x (λm hm=>hn m (by simp[XT.post,hm])),Va h (hn n (by simp[XT.post])) ha hb]| .l2 n x y,hn=>by unfold evT;rw[LD h ha hb x (λm hm=>hn m (by simp[XT.post,hm])),LD h ha hb y (λm hm=>hn m (by simp[XT.post,hm])),Va h (hn n (by simp[XT.post])) ha hb]| .l3 n x y z,hn=>by unfold evT;rw[LD h ha hb x (λm hm=>hn m (by simp[XT.post,hm])),LD h ha hb y (λm hm=>hn m (by simp[XT.post,hm])),LD h ha hb z (λm hm=>hn m (by simp[XT.post,hm]))]
theorem b0Q(h1:∀x∈(yI e).2.1,P x)(h2:∀x∈(yI e).2.2,Q x):∀n∈e,a3b P Q n:=λn hn=>by
 refine⟨λhk=>h1 _ ?_,λhk=>h2 _ ?_⟩
 .exact(zO _ _).2 (O9.2 ⟨n,Y8.2 ⟨hn,by simp[hk,o9]⟩,rfl⟩)
 .exact(zO _ _).2 (O9.2 ⟨n,Y8.2 ⟨hn,hk⟩,rfl⟩)
theorem GH(h:Sim P Q a b)(ha:EvOk a)(hb:EvOk b)(h1:∀x∈(yI e).2.1,P x)(h2:∀x∈(yI e).2.2,Q x):xG e a=xG e b:=by
 unfold xG;cases hs:oZ e with
 |inl x=>rfl|inr t=>simp only;exact LD h ha hb t (λn hn=>b0Q h1 h2 n (by rw[(ES hs).1];exact hn))
def a9H(s:F5)(P Q:Int->Prop)(d:Int):Prop:=∀r∈s.2.2.2.2,r.2.1=d->∀e,e=r.2.2.2.2.2.1\/e=r.2.2.2.2.2.2.1->(∀x∈(yI e).2.1,P x)/\∀x∈(yI e).2.2,Q x
theorem Wj{d t i:Int}(h:i∈(dF s d t).1):∃r,G9 s.2.2.2.2 i=some r/\r∈s.2.2.2.2/\r.2.1=d:=by
 have h:i∈castL (su s d t):=h;obtain⟨k,hk,rfl⟩:=O9.1 h;obtain⟨h1,h2⟩:=zn hk;obtain⟨r,hr,hm⟩:=qA (l:=s.2.2.2.2) (i:=(k:Int)) o5 (by unfold o8;omega);refine⟨r,hr,hm,?_⟩;unfold onR at h2;rw[I5]at hr;rw[hr]at h2;simp only at h2;cases h3:o9 r.2.1 d<;>rw[h3]at h2
 .cases h2
 .exact Z5.1 h3
theorem OH{α β ρ:Type}{G H:β->α->β⊕ρ} :∀(l:List α) (b:β),(∀a∈l,∀b,G b a=H b a)->dE G l b=dE H l b
 |[],b,h=>rfl|a::l,b,h=>by
  unfold dE;rw[h a A7];cases H b a with
  |inl b' =>exact OH l b' (λx hx=>h x (by simp[hx]))|inr r=>rfl
theorem a3s(h:Sim P Q a b)(ha:EvOk a)(hb:EvOk b)(hr:∀i∈(dF s d b.1).1,∀r,G9 s.2.2.2.2 i=some r->(∀x∈(yI r.2.2.2.2.2.1).2.1,P x)/\∀x∈(yI r.2.2.2.2.2.1).2.2,Q x)(m:Int):dV s a m d=dV s b m d:=by unfold dV;rw[h.e1,OH (G:=NT s a m d) (H:=NT s b m d) (dF s d b.1).1 [] (λi hi ap=>?_)];obtain⟨r,h1,h2,h3⟩:=Wj hi;obtain⟨p1,p2⟩:=hr i hi r h1;unfold NT;rw[h1];simp only;rw[GH h ha hb p1 p2]
theorem a6d(h:Sim P Q a b)(ha:EvOk a)(hb:EvOk b)(hr:a9H s P Q d)(m:Int):dV s a m d=dV s b m d:=
 a3s h ha hb (λi hi r hl=>by obtain⟨q,h1,h2,h3⟩:=Wj hi;rw[h1]at hl;cases hl;exact hr r h2 h3 _ (.inl rfl)) m
theorem a9S(h0:(dV s env m d).2.1=0)(h1:(dV s env m d).1≠-1)(h2:(dV s env m d).1≠-2):(dV s env m d).1∈(dF s d env.1).1:=by
 unfold dV at h0 h1 h2 ⊢;cases hf:dE (NT s env m d) (dF s d env.1).1 []with
 |inr e=>rw[hf]at h0;exact absurd h0 (xg (NT s env m d) (λr=>r.2.1≠0) (λb i r h=>YS b i r h) _ _ _ hf)|inl ap=>
  rw[hf]at h1 h2;simp only at h1 h2 ⊢;have hb:=XN (dF s d env.1).2.1 (dF s d env.1).2.2 ap;have hlo:=a2y (dF s d env.1).2.1 (dF s d env.1).2.2 ap;have hl:=(PR s d env.1).2;generalize KT (dF s d env.1).2.1 (dF s d env.1).2.2 ap=q at h1 h2 hb hlo ⊢;by_cases g:q<0
  .rw[V7 g]at h1 h2;simp only[o7]at h1 h2;omega
  rw[O6 (gW.1 g)];have hi:q.toNat<(dF s d env.1).1.length:=o5;simp only[o6,zM,fO hi,fD];exact O5 hi
theorem b1U(h:Sim P Q a b)(ha:EvOk a)(hb:EvOk b)(hr:a9H s P Q d)(m:Int):Ov s a m d=Ov s b m d:=by
 unfold Ov;rw[a6d h ha hb hr m];cases h0:o9 (dV s b m d).2.1 0
 .simp only[o6]
 cases h1:o9 (dV s b m d).1 (-1)
 case true=>simp only[o7]
 cases h2:o9 (dV s b m d).1 (-2)
 case true=>simp only[o7,o6]
 have hin:=a9S (Z5.1 h0) (λe=>by rw[X0 e]at h1;cases h1) (λe=>by rw[X0 e]at h2;cases h2);obtain⟨r,r1,r2,r3⟩:=Wj hin;obtain⟨p1,p2⟩:=hr r r2 r3 _ (.inr rfl);rw[r1];simp only;rw[GH h ha hb p1 p2]
def a1v(s:F5)(O:d4I):Prop:=O.Nodup/\(∀d∈O,0<=d/\d<nD s)/\∀(pre:d4I) (d:Int) (suf:d4I),O=pre++d::suf->∀x∈U7 s d,x∈pre
theorem a7S{O pre suf:d4I}{d e:Int}(h:O++[e]=pre++d::suf):(suf=[]/\pre=O/\d=e)\/∃suf',suf=suf' ++[e]/\O=pre++d::suf' :=by
 rcases List.eq_nil_or_concat suf with rfl|⟨suf',z,rfl⟩
 .have h:O++[e]=pre++[d]:=h;obtain⟨h1,h2⟩:=List.append_inj' h rfl;cases h2;exact .inl ⟨rfl,h1.symm,rfl⟩
 .rw[List.concat_eq_append,←bg,←G5]at h;obtain⟨h1,h2⟩:=List.append_inj' h rfl;cases h2;exact .inr ⟨suf',A7,h1⟩
variable {O:d4I}
theorem b1d{d:Nat}(h:a1v s O)(hd:d<s.2.2.2.1.length)(ho:okN s O d=true):a1v s (O++[(d:Int)]):=by
 obtain⟨h1,h2⟩:=a6P.1 ho;refine⟨?_,λx hx=>?_,λpre e suf he x hx=>?_⟩
 .exact L6.2 ⟨h.1,A7,λa ha b hb hab=>by simp at hb;subst hb;exact h1 (hab▸ha)⟩
 .rcases E9.1 hx with hx|hx
  .exact h.2.1 x hx
  .simp at hx;subst hx;unfold nD o8;omega
 .rcases a7S he with⟨_,rfl,rfl⟩|⟨suf',_,e2⟩
  .cases hq:NU pre x
   .have:x∈TR s pre (d:Int):=Y8.2 ⟨hx,by simp[hq]⟩;rw[h2]at this;cases this
   .exact Hr.1 hq
  .exact h.2.2 pre e suf' e2 x hx
variable {x:Int}
theorem b6B(hx:x∈U7 s d)(hn:x∉uN s x):(uN s x).length<(uN s d).length:=by
 obtain⟨a1,a2,a3,a4⟩:=Eg s d;obtain⟨b1,b2,b3,b4⟩:=Eg s x;have hxd:=a2 x hx;rcases UR b1 a1 (λy hy=>b4 (λz=>z∈uN s d) (a3 x hxd) (λz hz=>a3 z hz) y hy)with h|h
 .rw[←h]at hxd;exact absurd hxd hn
 .exact h
theorem b4c(hac:∀d,0<=d->d<nD s->d∉uN s d)(O:d4I):∀(n:Nat) (d:Int),0<=d->d<nD s->d∉O->(uN s d).length<=n->∃e,0<=e/\e<nD s/\e∉O/\∀x∈U7 s e,x∈O:=by
 intro n;induction n with
 |zero=>intro d h0 h1 h2 hl;refine⟨d,h0,h1,h2,λx hx=>?_⟩;have:=(Eg s d).2.1 x hx;rw[O7.1 (Nat.le_zero.1 hl)]at this;cases this|succ n ih=>
  intro d h0 h1 h2 hl;by_cases hq:∀x∈U7 s d,x∈O
  .exact⟨d,h0,h1,h2,hq⟩
  .obtain⟨x,hx⟩:=Classical.not_forall.1 hq;obtain⟨hx,hxO⟩:=Classical.not_imp.1 hx;obtain⟨q0,q1⟩:=DL hx;have:=b6B hx (hac x q0 q1);exact ih x q0 q1 hxO o5
theorem b9Q(hl:O.length<s.2.2.2.1.length):∃d:Int,0<=d/\d<nD s/\d∉O:=by
 refine iO λhq=>?_;have h1:∀x∈castL (List.range s.2.2.2.1.length),x∈NW O:=λx hx=>by obtain⟨j,hj,rfl⟩:=O9.1 hx;have:=X7.1 hj;exact(zO _ _).2 (iO λhn=>hq ⟨(j:Int),o5,by unfold nD o8;omega,hn⟩)
 have h2:=WE O;have h3:(castL (List.range s.2.2.2.1.length)).length=s.2.2.2.1.length:=by rw[Gx,ik]
 rcases UR (Yn qQ) (a2B O) h1 with h|h
 .rw[←h]at h2;omega
 .omega
theorem a0V{s:F5}(hac:∀d,0<=d->d<nD s->d∉uN s d):∀(k:Nat) (O:d4I),a1v s O->O.length<=s.2.2.2.1.length->s.2.2.2.1.length -O.length<=k->∃O',ZB s k O= .inl O' /\a1v s O' /\O'.length=s.2.2.2.1.length
 |0,O,h,hl,hk=>⟨O,rfl,h,o5⟩|k+1,O,h,hl,hk=>by
  unfold ZB;by_cases hq:O.length<s.2.2.2.1.length
  .rw[if_pos hq];cases hn:Rf s O with
   |none=>
    obtain⟨d,d0,d1,d2⟩:=b9Q hq;obtain⟨e,e0,e1,e2,e3⟩:=b4c hac O _ d d0 d1 d2 (E8 _);have hlt:e.toNat<s.2.2.2.1.length:=by unfold nD o8 at e1;omega
    have:=oJ hn e.toNat hlt;have hok:okN s O e.toNat=true:=a6P.2 (by rw[X6 e0];refine⟨e2,lX.2 λx hx=>by simp[Hr.2 (e3 x hx)]⟩)
    unfold WI at this;rw[hok]at this;cases this
   |some d=>obtain⟨n1,n2⟩:=Zt hn;exact a0V hac k (O++[(d:Int)]) (b1d h n1 n2) aH aH
  .rw[if_neg hq];exact⟨O,rfl,h,o5⟩
theorem SB(hs:SmS s)(hac:∀d,0<=d->d<nD s->d∉uN s d):a1v s (qW s).1/\∀d,0<=d->d<nD s->d∈(qW s).1:=by
 have hnd:=hs.nd;obtain⟨O,h1,h2,h3⟩:=a0V hac 100 [] ⟨A7,A7,λpre d suf h=>by simp at h⟩ A7 aH;have e:(qW s).1=O:=by unfold qW;rw[h1]
 rw[e];refine⟨h2,λd d0 d1=>?_⟩;refine iO λhn=>?_;have:=VE (l:=d::O) (n:=s.2.2.2.1.length) (az.2 ⟨hn,h2.1⟩) (λx hx=>by
  rcases D6.1 hx with rfl|hx
  .exact⟨d0,d1⟩
  .exact h2.2.1 x hx)
 simp at this;omega
theorem Tc(h:(eX l).1=0)(hs:l.2.2[i]? =some s):∀d,0<=d->d<nD s->d∉uN s d:=by
 intro d d0 d1 hd;have hp:=(Ld h hs).2;unfold Pg at hp;cases h1:yT l s with
 |some q=>rw[h1]at hp;exact absurd hp (Jb h1)|none=>
  rw[h1]at hp;simp only at hp;cases h2:ae s.2.2.2.2.length (Jn l s)with
  |some q=>
   rw[h2]at hp;obtain⟨j,hj,hq⟩:=gZ h2;unfold Jn at hq;cases h3:s.2.2.2.2[j]? with
   |none=>rw[h3]at hq;cases hq|some q2=>rw[h3]at hq;exact absurd hp (Qk hq)
  |none=>
   rw[h2]at hp;simp only at hp;have key:K_ s d.toNat=some (9,((200+d.toNat:Nat):Int)):=by unfold K_;rw[show((uN s d.toNat).any λx=>o9 (d.toNat:Int) x)=true from ?_];rfl;rw[X6 d0];exact nO.2 ⟨d,hd,X0 rfl⟩
   cases h3:ae s.2.2.2.1.length (K_ s)with
   |none=>have:=oJ h3 d.toNat (by unfold nD o8 at d1;omega);rw[key]at this;cases this|some q=>
    rw[h3]at hp;obtain⟨j,hj,hq⟩:=gZ h3;unfold K_ at hq;cases h4:(uN s (j:Int)).any λx=>o9 (j:Int) x<;>rw[h4]at hq
    .cases hq
    .cases hq;exact absurd (show(9:Int)=0 from hp) F8
theorem a0A{α β ρ:Type}(G:β->α->β⊕ρ):∀(l m:List α) (b:β),dE G (l++m) b=match dE G l b with| .inl b' =>dE G m b'| .inr r=> .inr r
 |[],m,b=>rfl|a::l,m,b=>by
  rw[bg];simp only[dE];cases G b a with
  |inl b' =>exact a0A G l m b'|inr r=>rfl
theorem Hw{l:List α}(v:α)(h0:0<=d)(h:x≠d):G9 (l.set d.toNat v) x=G9 l x:=by
 unfold G9
 split
 .rw[nJ o5]
 .rfl
theorem Sj{l:List α}(v:α)(h0:0<=d)(h:d<o8 l):G9 (l.set d.toNat v) d=some v:=by
 unfold G9
 rw[if_pos h0,iE (by unfold o8 at h;omega)]
theorem j_{s:F5}{env:dK}{m:Int}{need:List Bool}{x:Int} :∀(L:d4I) {B X:DB},(∀d∈L,0<=d)->x∉L->dE (scG s env m need) L B= .inl X->G9 X.1 x=G9 B.1 x/\G9 X.2 x=G9 B.2 x
 |[],B,X,_,_,h=>by cases h;exact⟨rfl,rfl⟩|d::L,B,X,hL,hx,h=>by
  unfold dE at h;cases hg:scG s env m need B d with
  |inr e=>rw[hg]at h;cases h|inl B' =>
   rw[hg]at h;obtain⟨k1,k2⟩:=j_ L (λy hy=>hL y (by simp[hy])) (λhm:x∈L=>hx (X9 _ hm)) h;have hd:x≠d:=λe=>hx (by simp[e]);unfold scG at hg;cases h1:(G9 need d).getD false<;>rw[h1]at hg
   .cases hg;exact⟨k1,k2⟩
   simp only[o7]at hg;cases h2:Ov s (xu env B.1) m d with
   |inr e=>rw[h2]at hg;cases hg|inl v=>rw[h2]at hg;cases hg;rw[k1,k2,Hw _ (hL d A7) hd,Hw _ (hL d A7) hd];exact⟨rfl,rfl⟩
theorem b8e{n:Nat}(L:d4I){B X:DB}(hB:B.1.length=n/\B.2.length=n)(h:dE (scG s env m need) L B= .inl X):X.1.length=n/\X.2.length=n:=by
 refine Ql (scG s env m need) (λx=>x.1.length=n/\x.2.length=n) (λb d b' hb hg=>?_) _ _ _ hB h;unfold scG at hg;cases h1:(G9 need d).getD false<;>rw[h1]at hg
 .cases hg;exact hb
 simp only[o7]at hg;cases hd:Ov s (xu env b.1) m d with
 |inr e=>rw[hd]at hg;cases hg|inl v=>rw[hd]at hg;cases hg;simp[hb]
theorem YD(h:(eX l).1=0)(hs:l.2.2[i]? =some s)(d:Int):a9H s (λx=>x∈U7 s d) (λx=>0<=x/\x<nD (dR l s)) d:=by
 intro r hr hd e he;obtain⟨p1,p2⟩:=b0V h hs hr he;refine⟨λx hx=>?_,p2⟩;obtain⟨q,hq,_⟩:=(Xh h hs hr).2;obtain⟨q0,q1,_⟩:=rq hq;have hin:inD (nD s) d=true:=by rw[←hd];unfold inD;rw[af q0];exact V7 q1
 unfold U7;rw[hin];refine(zO _ _).2 (a1W.2 ⟨r,hr,hd,?_⟩);obtain⟨x0,x1⟩:=p1 x hx;have hxi:inD (nD s) x=true:=by unfold inD;rw[af x0];exact V7 x1
 unfold NE;rcases he with rfl|rfl
 .exact E9.2 (.inl (Y8.2 ⟨hx,hxi⟩))
 .exact E9.2 (.inr (Y8.2 ⟨hx,hxi⟩))
theorem b2g{X:DB}(hE:EvOk env)(ht:a1v s (qW s).1)(hX:scS s env m need= .inl X)(hd:d∈(qW s).1)(hn:(G9 need d).getD false=true)(hr:a9H s (λx=>x∈U7 s d) Q d):
  ∃v r,G9 X.1 d=some v/\G9 X.2 d=some r/\Ov s (xu env X.1) m d= .inl (v,r):=by
 obtain⟨pre,suf,he⟩:=List.append_of_mem hd;have hlen:=UM hX;unfold scS at hX;rw[he,a0A]at hX;cases hB:dE (scG s env m need) pre (List.replicate s.2.2.2.1.length (0,0,0),List.replicate s.2.2.2.1.length 0)with
 |inr r=>rw[hB]at hX;cases hX|inl B=>
  rw[hB]at hX;simp only at hX;have hBl:=b8e (n:=s.2.2.2.1.length) pre A7 hB;unfold dE at hX;cases hg:scG s env m need B d with
  |inr r=>rw[hg]at hX;cases hX|inl B' =>
   rw[hg]at hX;simp only at hX;obtain⟨d0,d1⟩:=ht.2.1 d hd;have hnd:=ht.1;rw[he]at hnd;obtain⟨n1,n2,n3⟩:=L6.1 hnd;obtain⟨n4,n5⟩:=az.1 n2;have hpos:∀y∈suf,0<=y:=λy hy=>(ht.2.1 y (by rw[he];simp[hy])).1;unfold scG at hg;rw[hn]at hg;simp only[o7]at hg;cases hv:Ov s (xu env B.1) m d with
   |inr e=>rw[hv]at hg;cases hg
   |inl v=>rw[hv]at hg;cases hg;obtain⟨k1,k2⟩:=j_ (x:=d) suf hpos n4 hX;rw[Sj _ d0 (by unfold nD at d1;unfold o8 at d1 ⊢;omega)]at k1 k2;refine⟨v.1,v.2,k1,k2,?_⟩;rw[←hv];refine b1U (a:=xu env X.1) (b:=xu env B.1) (P:=λx=>x∈U7 s d) (Q:=Q) ⟨rfl,rfl,rfl,by show X.1.length=B.1.length;omega,λx hx=>?_,rfl,λ_ _=>rfl⟩ (xF hE _) (xF hE _) hr m;have hxp:=ht.2.2 pre d suf he x hx;have hxs:x∉suf:=λhy=>n3 x hxp x (by simp[hy]) rfl;have hxd:x≠d:=λhy=>n3 x hxp d A7 hy;have:=(j_ (x:=x) suf hpos hxs hX).1;rw[Hw _ d0 hxd]at this;exact this
theorem w_{n:Nat}(d0:0<=d)(d1:d<(n:Int)):(G9 (jI n) d).getD false=true:=by unfold G9 jI;rw[if_pos d0,lC,if_pos o5];rfl
theorem Hq{ρ:Type}{n:Nat}{p:Nat->Option ρ}(h:∀r,ae n p≠some r):∀i,i<n->p i=none:=by
 cases hf:ae n p with
 |some r=>exact absurd hf (h r)|none=>exact oJ hf
theorem Vs{k i:Int}{r:Int×Int}(h:TJ k i r=none):r.1=0:=by
 unfold TJ at h;cases he:o9 r.1 0<;>rw[he]at h
 .cases h
 .exact Z5.1 he
theorem Td(h:(eX l).1=0):∀e∈l.1,e.2.length<=16:=by
 intro e he;unfold eX at h;cases h1:o9 (BV l).1 0<;>rw[h1]at h
 .simp only[o6]at h;rw[X0 h]at h1;cases h1
 have h1:=Z5.1 h1;unfold BV at h1;cases h2:E5 8 (o8 l.1)<;>rw[h2]at h1
 case true=>exact absurd (show(4:Int)=0 from h1) F8
 simp only[o6]at h1;obtain⟨i,hi,e1⟩:=Z9 he;have hn:=Hq (n:=l.1.length) (p:=QW l) (λr hf=>by
  rw[hf]at h1;obtain⟨j,_,hj⟩:=gZ hf;unfold QW at hj;split at hj
  .exact Vr hj h1
  .cases hj) i hi
 unfold QW at hn;rw[fO hi,e1]at hn;have hz:=Vs hn;unfold YJ at hz;cases g1:AQ e.1<;>rw[g1]at hz
 .exact absurd (show(2:Int)=0 from hz) F8
 cases g2:EU l 1 i e.1<;>rw[g2]at hz
 case true=>exact absurd (show(7:Int)=0 from hz) F8
 cases g3:o9 (o8 e.2) 0<;>rw[g3]at hz
 case true=>exact absurd (show(5:Int)=0 from hz) F8
 cases g4:E5 16 (o8 e.2)<;>rw[g4]at hz
 case true=>exact absurd (show(4:Int)=0 from hz) F8
 rw[gU]at g4;unfold o8 at g4;omega
abbrev xU:Int×Int:=(0,109573)
def tOn(T:Int)(t:ak):ak:=(t.1,t.2.1,t.2.2.1,(t.2.2.2.filter λr=>sW r.1 T).map λr=>(xU,r.2))
def onA(s:F5)(T:Int)(i:Nat):Bool:=match s.2.2.2.2[i]? with|some r=>sW r.2.2.2.2.1 T|none=>false
def uh(s:F5)(T:Int):d4K:=onL (onA s T) s.2.2.2.2.length
def rOn(s:F5)(T:Int)(i:Nat):bf:=match s.2.2.2.2[i]? with
 |some r=>(r.1,r.2.1,anc (onA s T) (BM s) i,r.2.2.2.1,xU,r.2.2.2.2.2.1,r.2.2.2.2.2.2.1,r.2.2.2.2.2.2.2)|none=>([],0,0,0,xU,[],[],[])
def sOn(T:Int)(s:F5):F5:=(s.1,s.2.1,s.2.2.1,s.2.2.2.1,(uh s T).map (rOn s T))
def lOn(T:Int)(l:U6):U6:=(l.1,l.2.1.map (tOn T),l.2.2.map (sOn T))
theorem JX(l:List α)(h:l.length<=1000000):jd l=some l:=by unfold jd;rw[FX aH];rfl
theorem a7W(t:ak)(T:Int)(h:t.2.2.2.length<=1000000):xE t T=some (tOn T t):=by
 unfold xE;refine fU (o' :=some ((t.2.2.2.filter λr=>sW r.1 T).map λr=>((xU,r.2):lG))) ?_ rfl;have key:=(AV t.2.2.2 (λ(acc:List lG) r=>l7 (sW r.1 T) (acc++[(xU,r.2)]) acc) (λb i=>(b,i)) (λb=>b) (λi b=>b.length<=i) (b:=[]) (f:=λ(x:List lG×Int)=>l7 (E5 x.2 (o8 t.2.2.2)) (l9 (G9 t.2.2.2 x.2) λ(x_1:lG)=>l9 (je x_1.1 T) λ(x_2:Bool)=>l7 x_2 (l9 nY λ(x_3:bQ)=>l9 (dB x.1 [(x_3,x_1.2)]) λ(x_4:List lG)=>some (Sum.inl (x_4,C9 IntKind.i64 x.2 1))) (some (Sum.inl (x.1,C9 IntKind.i64 x.2 1)))) (some (Sum.inr x.1)))
  h A7 (λi r b hr hi hb=>?_) (λb hb=>?_)).1
 .rw[key];have hf:∀(l:List lG) (b:List lG),l.foldl (λ(acc:List lG) r=>l7 (sW r.1 T) (acc++[(xU,r.2)]) acc) b=b++(l.filter λr=>sW r.1 T).map λr=>((xU,r.2):lG):=by
   intro l;induction l with
   |nil=>intro b;simp|cons a l ih=>intro b;rw[dA,ih,Y7];cases sW a.1 T<;>simp
  rw[hf];rfl
 .simp only[V6 hr,o7,I5,hr,x8,Bg];rw[iy o5];cases sW r.1 T
  .exact⟨rfl,by show b.length<=_;omega⟩
  .simp only[o7];rw[show nY=some xU from rfl,x8,nT _ o5,x8];exact⟨rfl,by show(b++[_]).length<=_;simp;omega⟩
 .simp only[V5];rfl
theorem b9L(h:s.2.2.2.2[i]? =some r)(T:Int):uU r T=some (onA s T i):=by unfold uU onA;rw[h,Bg];rfl
variable {T:Int}
theorem XC(h:i∈uh s T):i<s.2.2.2.2.length/\onA s T i=true:=VF _ h
theorem a3X(s:F5)(T:Int):(uh s T).length<=s.2.2.2.2.length:=Jf _ _
theorem a7w(hS:SmS s)(T:Int):xC s T=some (sOn T s):=by
 have hnr:=hS.nr;have hni:=hS.ni;have hnd:=hS.nd;have hkl:=a3X s T;unfold xC;refine fU (o' :=some (castL (uh s T),(uh s T).map (anc (onA s T) (BM s)))) ?_ ?_
 .unfold wE;rw[show tq (o8 s.2.2.2.2) (0:Int)=some (List.replicate s.2.2.2.2.length 0) by unfold tq;rw[if_pos (by simp[o8];omega)];simp[o8],x8,lm];refine a1h o5 (λi r A B C hr=>?_) (λA B C=>?_)
  .simp only[V6 hr,o7,I5,hr,x8];rw[b9L hr];rfl
  .simp only[V5];rfl
 rw[x8];refine fU (o' :=some ((uh s T).map (rOn s T))) ?_ ?_
 .refine Tu (λL i=>((L,i):List bf×Int)) (λL=>L) (uh s T) (rOn s T) o5 (λi a L hi hL=>?_) (λL=>?_)
  .have hlt:=(aO.1 hi).1;obtain⟨a1,a2⟩:=XC (mM hi);have hc:=a9Q hi;have ha:s.2.2.2.2[a]? =some s.2.2.2.2[a]:=fO a1;have hp:((uh s T).map (anc (onA s T) (BM s)))[i]? =some (anc (onA s T) (BM s) a):=by rw[S9,hi];rfl
   obtain⟨_,r1,r2⟩:=hS.ro s.2.2.2.2[a] (O5 a1);simp only[V6 hc,o7,I5,hc,hp,ha,x8];rw[show X8 (castL (uh s T)) (U8 (i:Int))=some (a:Int)from hc,x8,I5,ha,x8,show X8 ((uh s T).map (anc (onA s T) (BM s))) (U8 (i:Int))=_ from hp,x8,show nY=some xU from rfl,x8,JX _ o5,x8,JX _ o5,x8,nT _ o5,x8,iy o5];unfold rOn;rw[ha]
  .rw[show((uh s T).length:Int)=((castL (uh s T)).length:Int) by rw[Gx],V5];rfl
 rw[x8,JX _ o5,x8,JX _ o5,x8];rfl
theorem a4b(hL:SmL l)(hT:∀t∈l.2.1,rC t)(hE:∀e∈l.1,e.2.length<=1000000)(T:Int):wX l T=some (lOn T l):=by
 obtain⟨f1,f2,f3⟩:=hL.few;unfold wX;refine fU (o' :=some ((l.1,PUnit.unit,PUnit.unit):List dI×PUnit×PUnit)) ?_ ?_
 .have:=Tu (f:=λ(x:(List dI×PUnit×PUnit)×Int)=>l7 (E5 x.2 (o8 l.1)) (l9 (G9 l.1 x.2) λ(x_1:dI)=>l9 (jd x_1.2) λ(x_2:List d4H)=>l9 (dB x.1.1 [(x_1.1,x_2)]) λ(x_3:List dI)=>some (Sum.inl ((x_3,PUnit.unit,PUnit.unit),C9 IntKind.i64 x.2 1))) (some (Sum.inr (x.1.1,PUnit.unit,PUnit.unit))))
   (λL i=>(((L,PUnit.unit,PUnit.unit),i):(List dI×PUnit×PUnit)×Int)) (λL=>((L,PUnit.unit,PUnit.unit):List dI×PUnit×PUnit)) l.1 (λe=>((e.1,e.2):dI)) o5 (λi a L hi hLl=>by have hlt:=(aO.1 hi).1;simp only[V6 hi,o7,I5,hi,x8];rw[JX _ (hE a (mM hi)),x8,nT _ o5,x8,iy o5]) (λL=>by rw[V5];rfl)
  rw[show(l.1.map λe=>((e.1,e.2):dI))=l.1 from List.map_id _]at this;exact this
 rw[x8];refine fU (o' :=some ((l.1,l.2.1.map (tOn T),PUnit.unit):List dI×List ak×PUnit)) ?_ ?_
 .refine Tu (λL i=>(((l.1,L,PUnit.unit),i):(List dI×List ak×PUnit)×Int)) (λL=>((l.1,L,PUnit.unit):List dI×List ak×PUnit)) l.2.1 (tOn T) o5 (λi a L hi hLl=>?_) (λL=>?_)
  .have hlt:=(aO.1 hi).1;have hr:=(hT a (mM hi)).1;simp only[V6 hi,o7,I5,hi,x8];rw[a7W a T o5,x8,nT _ o5,x8,iy o5]
  .rw[V5];rfl
 rw[x8,lm];refine Tu (λL i=>(((l.1,l.2.1.map (tOn T),L),i):U6×Int)) (λL=>((l.1,l.2.1.map (tOn T),L):U6)) l.2.2 (sOn T) o5 (λi a L hi hLl=>?_) (λL=>?_)
 .have hlt:=(aO.1 hi).1;simp only[V6 hi,o7,I5,hi,x8];rw[a7w (hL.sc a (mM hi)) T,x8,nT _ o5,x8,iy o5]
 .rw[V5];rfl
theorem a3w(h0:0<=T)(h1:T<=109572):sW xU T=true:=by unfold sW;rw[show zI xU=true from rfl];simp only[o7];rw[af (show xU.1<=T from h0),V7 (show T<xU.2 by show T<109573;omega)];rfl
theorem VQ(h:rC t)(T:Int):rC (tOn T t):=by
 refine⟨?_,λr hr=>?_⟩
 .show((t.2.2.2.filter _).map _).length<=200;rw[H9];exact aU (bz _ _) h.1
 .obtain⟨q,hq,rfl⟩:=O9.1 hr;exact h.2 q (Y8.1 hq).1
theorem b9x(t:ak)(h0:0<=T)(h1:T<=109572)(c mode:Int):a5Y (tOn T t) T c mode=a5Y t T c mode:=by
 have key:∀(l:List lG) (b:Int×Int),dE (brG T c) ((l.filter λr=>sW r.1 T).map λr=>((xU,r.2):lG)) b=dE (brG T c) l b:=by
  intro l;induction l with
  |nil=>intro b;rfl|cons a l ih=>
   intro b;rw[Y7];cases ha:sW a.1 T
   .rw[if_neg A7];rw[ih b];have e:brG T c b a= .inl b:=by unfold brG;rw[ha];rfl
    simp only[dE,e]
   .rw[if_pos rfl,bW];have e:brG T c b (xU,a.2)=brG T c b a:=by unfold brG;rw[ha,show sW (xU,a.2).1 T=true from a3w h0 h1]
    simp only[dE,e];cases brG T c b a with
    |inl b' =>exact ih b'|inr r=>rfl
 unfold a5Y;rw[show(tOn T t).2.2.2=(t.2.2.2.filter λr=>sW r.1 T).map λr=>((xU,r.2):lG)from rfl,key];rfl
theorem a4h(rows:List lG)(date key:Int):(((OU rows date key).2=false/\rows.find? (λr=>JJ r date key)=none)\/((OU rows date key).2=true/\G9 rows (OU rows date key).1=rows.find? (λr=>JJ r date key)/\(rows.find? (λr=>JJ r date key)).isSome=true)):=by
 unfold OU;cases hf:ae rows.length (Jd rows date key)with
 |none=>
  left;refine⟨rfl,List.find?_eq_none.2 λr hr=>?_⟩;obtain⟨i,hi,e⟩:=Z9 hr;have:=oJ hf i hi;unfold Jd at this;rw[fO hi,e]at this;simp only at this;cases hm:JJ r date key<;>rw[hm]at this
  .simp
  .cases this
 |some x=>
  right;have h1:∃l1 a l2,List.range rows.length=l1++a::l2/\Jd rows date key a=some x/\∀j∈l1,Jd rows date key j=none:=List.findSome?_eq_some_iff.1 hf;obtain⟨l1,a,l2,e1,e2,e3⟩:=h1;have hlen:l1.length=a:=by
   have:(List.range rows.length)[l1.length]? =some a:=by rw[e1];simp
   rw[oL (by have:=congrArg List.length e1;simp at this;omega)]at this;exact aQ this
  have hl1:l1=List.range a:=by have h:=congrArg (List.take a) e1;rw[List.take_range,Y5 o5,Y6 o5,ja (by have:=congrArg List.length e1;simp at this;omega)]at h;exact h.symm
  unfold Jd at e2;cases hr:rows[a]? with
  |none=>rw[hr]at e2;cases e2|some r=>
   rw[hr]at e2;simp only at e2;cases hm:JJ r date key<;>rw[hm]at e2
   .cases e2
   cases e2;have hfind:rows.find? (λr=>JJ r date key)=some r:=by
    obtain⟨ha,e⟩:=aO.1 hr;refine List.find?_eq_some_iff_getElem.2 ⟨hm,a,ha,e,λj hj=>?_⟩;have h4:=e3 j (by rw[hl1];exact X7.2 hj);unfold Jd at h4;rw[fO o5]at h4;simp only at h4;cases hq:JJ rows[j] date key<;>rw[hq]at h4
    .rfl
    .cases h4
   refine⟨rfl,?_,by rw[hfind];rfl⟩;show G9 rows ((a:Nat):Int)=_;rw[I5,hr,hfind]
theorem b7a(rows:List lG)(h0:0<=T)(h1:T<=109572)(key:Int):((rows.filter λr=>sW r.1 T).map λr=>((xU,r.2):lG)).find? (λr=>JJ r T key)=(rows.find? λr=>JJ r T key).map λr=>((xU,r.2):lG):=by
 induction rows with
 |nil=>rfl|cons a l ih=>
  rw[Y7];cases ha:sW a.1 T
  .rw[if_neg A7,ih];have e:JJ a T key=false:=by unfold JJ;rw[ha];rfl
   rw[List.find?_cons,e]
  .rw[if_pos rfl,bW,List.find?_cons,List.find?_cons];have e:JJ (xU,a.2) T key=JJ a T key:=by unfold JJ;rw[ha,show sW (xU,a.2).1 T=true from a3w h0 h1]
   rw[e];cases JJ a T key
   .exact ih
   .rfl
theorem b0n(hr:rC t)(h0:0<=T)(h1:T<=109572)(x:V3):wK (tOn T t) T x=wK t T x:=by
 have hr2:=VQ hr T;unfold wK;have e1:(tOn T t).2.1=t.2.1:=rfl;have e2:(tOn T t).2.2.1=t.2.2.1:=rfl;rw[e1,e2,SG T x.2.2 (show t.2.2.2.length<=1000000 by have:=hr.1;omega),SG T x.2.2 (show(tOn T t).2.2.2.length<=1000000 by have:=hr2.1;omega)];have ef:=b7a t.2.2.2 h0 h1 x.2.2;have ef:(tOn T t).2.2.2.find? (λr=>JJ r T x.2.2)=(t.2.2.2.find? λr=>JJ r T x.2.2).map λr=>((xU,r.2):lG):=ef;rcases a4h t.2.2.2 T x.2.2 with⟨a1,a2⟩|⟨a1,a2,a3⟩<;>rcases a4h (tOn T t).2.2.2 T x.2.2 with⟨b1,b2⟩|⟨b1,b2,b3⟩
 .simp only[x8,a1,b1,gz,o7]
 .rw[ef,a2]at b3;cases b3
 .rw[ef]at b2;obtain⟨r,hr⟩:=pR.1 a3;rw[hr]at b2;cases b2
 .obtain⟨r,hr⟩:=pR.1 a3;simp only[x8,a1,b1,G6,o6,a2,b2,ef,hr,jR]
def JC(env:dK):dK:=(env.1,env.2.1,env.2.2.1,env.2.2.2.1,env.2.2.2.2.1,env.2.2.2.2.2.map (tOn env.1))
theorem Hu(f:α->β)(l:List α)(i:Int):G9 (l.map f) i=(G9 l i).map f:=by
 unfold G9
 split
 .rw[S9]
 .rfl
theorem b0Z(hE:EvOk env)(h0:0<=env.1)(h1:env.1<=109572)(n:Int×Int)(x:V3):lF n x (JC env)=lF n x env:=by
 obtain⟨T,i,D,M,TY,B⟩:=env;have hB:=hE.tb;simp only at h0 h1 hB;unfold lF JC;simp only;have e33:(l9 (G9 (B.map (tOn T)) n.2) λ(x_1:ak)=>l9 (wK x_1 T x) λ(x:V3×Int)=>some (Sum.inr x:V3⊕(V3×Int)))=l9 (G9 B n.2) λ(x_1:ak)=>l9 (wK x_1 T x) λ(x:V3×Int)=>some (Sum.inr x):=by
  rw[Hu];cases hl:G9 B n.2 with
  |none=>rfl|some t=>simp only[jR,x8,b0n (hB t (rq hl).2.2.1) h0 h1]
 rw[e33];have e34:∀(K:V3),(l9 (G9 (B.map (tOn T)) (cZ .i64 n.2 8)) λ(x_1:ak)=>l9 (l7 (D9 (o9 x.1 3)) (some (Sum.inr ((0,0,0),8))) (l7 (D9 (o9 x_1.2.1.1 3)) (some (Sum.inr ((0,0,0),8))) (l7 (D9 (o9 x_1.2.1.2 0)) (some (Sum.inr ((0,0,0),8))) (l7 (D9 (o9 x_1.2.2.1.1 4)) (some (Sum.inr ((0,0,0),8))) (l7 (D9 (o9 x_1.2.2.1.2 0)) (some (Sum.inr ((0,0,0),8))) (some (Sum.inl K))))))) λ(o:V3⊕(V3×Int))=>U4 o (λ(x_2:V3)=>l9 (yH x_1 T x.2.2 (dG n.2 8)) λ(x:Int×Int)=>l9 (qE 3 x.1 x.2) λ(x:V3×Int)=>some x) λ(r:V3×Int)=>some r)
   =(l9 (G9 B (cZ .i64 n.2 8)) λ(x_1:ak)=>l9 (l7 (D9 (o9 x.1 3)) (some (Sum.inr ((0,0,0),8))) (l7 (D9 (o9 x_1.2.1.1 3)) (some (Sum.inr ((0,0,0),8))) (l7 (D9 (o9 x_1.2.1.2 0)) (some (Sum.inr ((0,0,0),8))) (l7 (D9 (o9 x_1.2.2.1.1 4)) (some (Sum.inr ((0,0,0),8))) (l7 (D9 (o9 x_1.2.2.1.2 0)) (some (Sum.inr ((0,0,0),8))) (some (Sum.inl K))))))) λ(o:V3⊕(V3×Int))=>U4 o (λ(x_2:V3)=>l9 (yH x_1 T x.2.2 (dG n.2 8)) λ(x:Int×Int)=>l9 (qE 3 x.1 x.2) λ(x:V3×Int)=>some x) λ(r:V3×Int)=>some r):=λK=>by
  rw[Hu];cases hl:G9 B (cZ .i64 n.2 8)with
  |none=>rfl|some t=>have hr:=hB t (rq hl).2.2.1;simp only[jR,x8,LW T x.2.2 (dG n.2 8) hr,LW T x.2.2 (dG n.2 8) (VQ hr T),b9x t h0 h1];rfl
 simp only[e34]
theorem Yf(hE:EvOk env)(h0:0<=env.1)(h1:env.1<=109572)(n:Int×Int)(args:List V3):AB n args (JC env)=AB n args env:=by
 unfold AB vZ;have ef:wo n (JC env)=wo n env:=by unfold wo JC;simp only[o8,H9]
 have el:iC n (JC env)=iC n env:=rfl;have em:oV n (JC env)=oV n env:=rfl;simp only[ef,el,em,b0Z hE h0 h1]
theorem RU{env:dK}(hE:EvOk env)(h0:0<=env.1)(h1:env.1<=109572):∀t:XT,evT (JC env) t=evT env t
 | .l0 n=>Yf hE h0 h1 n []| .l1 n a=>by unfold evT;rw[RU hE h0 h1 a,Yf hE h0 h1]| .l2 n a b=>by unfold evT;rw[RU hE h0 h1 a,RU hE h0 h1 b,Yf hE h0 h1]| .l3 n a b c=>by unfold evT;rw[RU hE h0 h1 a,RU hE h0 h1 b,RU hE h0 h1 c]
theorem a3G(hE:EvOk env)(h0:0<=env.1)(h1:env.1<=109572)(e:List (Int×Int)):xG e (JC env)=xG e env:=by
 unfold xG;cases oZ e with
 |inl x=>rfl|inr t=>exact RU hE h0 h1 t
theorem Yw(on:Nat->Bool)(i:Nat):vF on (i+1)=vF on i+(if on i=true then 1 else 0):=by unfold vF;rw[eP,lT,I9];cases h:on i<;>simp[h]
theorem a3u(on:Nat->Bool){i j:Nat}(h:i<=j):vF on i<=vF on j:=by
 induction j with
 |zero=>have:i=0:=o5;subst this;omega|succ j ih=>
  rw[Yw];by_cases e:i=j+1
  .subst e;rw[Yw];omega
  .have:=ih o5;omega
theorem b9z{on:Nat->Bool}{a i:Nat}(h:a<i)(ha:on a=true):vF on a<vF on i:=by have h1:=Yw on a;rw[if_pos ha]at h1;have h2:=a3u on (show a+1<=i from h);omega
abbrev kap(s:F5)(T:Int)(i:Nat):Nat:=vF (onA s T) i
theorem a9r(hi:i<s.2.2.2.2.length)(ha:onA s T i=true):(sOn T s).2.2.2.2[kap s T i]? =some (rOn s T i):=by show((uh s T).map (rOn s T))[vF (onA s T) i]? =_;rw[S9,show(uh s T)[vF (onA s T) i]? =some i from a9c _ hi ha];rfl
theorem VJ(h:s.2.2.2.2[i]? =some r):rOn s T i=(r.1,r.2.1,anc (onA s T) (BM s) i,r.2.2.2.1,xU,r.2.2.2.2.2.1,r.2.2.2.2.2.2.1,r.2.2.2.2.2.2.2):=by unfold rOn;rw[h]
structure OnOk (s:F5) (T:Int):Prop where
 h0:0<=T
 h1:T<=109572
 t1:a1v s (qW s).1
 f1:∀d,0<=d->d<nD s->d∈(qW s).1
 t2:a1v (sOn T s) (qW (sOn T s)).1
 f2:∀d,0<=d->d<nD s->d∈(qW (sOn T s)).1
 r1:∀d,a9H s (λx=>x∈U7 s d) (λ_=>True) d
 r2:∀d,a9H (sOn T s) (λx=>x∈U7 (sOn T s) d) (λ_=>True) d
theorem Sz(T:Int):sOn T sV=sV:=rfl
def sgT(T:Int)(sg:J4):J4:=(sg.1,sg.2.1.map (tOn T),sg.2.2)
theorem c0O(l:U6)(s:F5)(T:Int):IK (lOn T l) (sOn T s)=sgT T (IK l s):=by
 unfold IK;show(match(if 0<=s.2.1 then(l.2.2.map (sOn T))[s.2.1.toNat]? else none)with|some k=>_|none=>_)=_;by_cases h:0<=s.2.1
 .rw[if_pos h,if_pos h,S9];cases l.2.2[s.2.1.toNat]?<;>rfl
 .rw[if_neg h,if_neg h];rfl
theorem b1a(n:Int×Int)(a:Int×Int)(sg:J4)(T:Int):oU n a (sgT T sg)=oU n a sg:=by
 unfold oU sgT;simp only;rw[Hu,Hu];have e1:∀(K:ak->Option ((Int×Int)×Bool)) (hK:∀t,K (tOn T t)=K t) (o:Option ak),l9 (o.map (tOn T)) K=l9 o K:=λK hK o=>by
  cases o with
  |none=>rfl|some t=>exact hK t
 rw[e1 _ (λt=>rfl),e1 _ (λt=>rfl)]
theorem b2h(n:Int×Int)(sg:J4)(T:Int):pW n (sgT T sg)=pW n sg:=by unfold pW sgT;simp only[o8,H9]
theorem a2x(n:Int×Int)(ops:List (Int×Int))(sg:J4)(T:Int):UF n ops (sgT T sg)=UF n ops sg:=by
 have e:RR n ops (sgT T sg)=RR n ops sg:=by unfold RR;simp only[b1a,b2h];rfl
 unfold UF;rw[b1t,b1t,e]
theorem IA(sg:J4)(T:Int):∀(t:XT) (o:Nat),jc (sgT T sg) t o=jc sg t o
 | .l0 n,o=>by unfold jc Dx;rw[a2x]| .l1 n a,o=>by
  unfold jc;rw[IA sg T a];cases jc sg a o with
  |inl e=>rfl|inr ta=>simp only;unfold Dx;rw[a2x]
 | .l2 n a b,o=>by
  unfold jc;rw[IA sg T a,IA sg T b];cases jc sg a o with
  |inl e=>rfl|inr ta=>
   simp only;cases jc sg b (o+a.size)with
   |inl e=>rfl|inr tb=>simp only;unfold Dx;rw[a2x]
 | .l3 n a b c,o=>by
  unfold jc;rw[IA sg T a,IA sg T b,IA sg T c];cases jc sg a o with
  |inl e=>rfl|inr ta=>
   simp only;cases jc sg b (o+a.size)with
   |inl e=>rfl|inr tb=>
    simp only;cases jc sg c (o+a.size+b.size)with
    |inl e=>rfl|inr tc=>simp only;unfold Dx;rw[a2x]
theorem b8p(e:List (Int×Int))(sg:J4)(T:Int)(t:Int×Int):Dz e (sgT T sg) t=Dz e sg t:=by
 have h:pg e (sgT T sg)=pg e sg:=by
  unfold pg;cases oZ e with
  |inl x=>rfl|inr q=>simp only;rw[IA]
 unfold Dz;rw[h]
def Ll(s:F5)(k:Nat)(r:bf):Bool:=l7 (o9 r.2.2.1 (-1)) false (l7 (E5 r.2.2.1 0) true (l7 (J8 k r.2.2.1) true (match G9 s.2.2.2.2 r.2.2.1 with|some q=>D9 (o9 q.2.1 r.2.1)|none=>true)))
structure RuleV (s:F5) (sg:J4) (k:Nat) (r:bf):Prop where
 id:AQ r.1=true
 nm:((s.2.2.2.2.take k).any λx=>seq x.1 r.1)=false
 df:∃d,G9 s.2.2.2.1 r.2.1=some d/\JD r sg d.2=0
 pa:Ll s k r=false
 p0:E5 r.2.2.2.1 0=false
 p9:E5 9 r.2.2.2.1=false
 dv:zI r.2.2.2.2.1=true
 ne:o9 r.2.2.2.2.1.1 r.2.2.2.2.1.2=false
 ct:J8 8 (Ot (s.2.2.2.2.take k) r.2.1)=false
 sr:a0e r.2.2.2.2.2.2.2=true
theorem RuleV.zero{k:Nat}(h:RuleV s sg k r):Dy s sg k r=0:=by obtain⟨d,h1,h2⟩:=h.df;unfold Dy;rw[h.id,h.nm,h1];simp only[o7,o6];change l7 (Ll s k r) (9:Int) _=0;rw[h.pa,h.p0,h.p9,h.dv,h.ne,h.ct,h.sr,h2];rfl
theorem b9S{k:Nat}(h:Dy s sg k r=0):RuleV s sg k r:=by
 obtain⟨d,hd,hx⟩:=b_ h;unfold Dy at h;cases g1:AQ r.1<;>rw[g1]at h
 .exact absurd (show(2:Int)=0 from h) F8
 cases g2:(s.2.2.2.2.take k).any λx=>seq x.1 r.1<;>rw[g2]at h
 case true=>exact absurd (show(7:Int)=0 from h) F8
 rw[hd]at h;simp only[o7,o6]at h;change l7 (Ll s k r) (9:Int) _=0 at h;cases b1:Ll s k r<;>rw[b1]at h
 case true=>exact absurd (show(9:Int)=0 from h) F8
 cases b2:E5 r.2.2.2.1 0<;>rw[b2]at h
 case true=>exact absurd (show(3:Int)=0 from h) F8
 cases b3:E5 9 r.2.2.2.1<;>rw[b3]at h
 case true=>exact absurd (show(3:Int)=0 from h) F8
 cases b4:zI r.2.2.2.2.1<;>rw[b4]at h
 case false=>exact absurd (show(3:Int)=0 from h) F8
 cases b5:o9 r.2.2.2.2.1.1 r.2.2.2.2.1.2<;>rw[b5]at h
 case true=>exact absurd (show(3:Int)=0 from h) F8
 cases b6:J8 8 (Ot (s.2.2.2.2.take k) r.2.1)<;>rw[b6]at h
 case true=>exact absurd (show(4:Int)=0 from h) F8
 cases b7:a0e r.2.2.2.2.2.2.2<;>rw[b7]at h
 case false=>exact absurd (show(2:Int)=0 from h) F8
 exact⟨g1,g2,⟨d,hd,hx⟩,b1,b2,b3,b4,b5,b6,b7⟩
theorem b2X(on:Nat->Bool){n i:Nat}(hi:i<=n):(onL on n).take (vF on i)=onL on i:=by
 induction n with
 |zero=>have e:i=0:=o5;subst e;unfold onL vF;simp|succ n ih=>
  by_cases e:i=n+1
  .subst e;rw[Y6 (by unfold onL vF;omega)]
  .rw[Ih,Y5 (by have:=a3u on (show i<=n by omega);exact this)];exact ih o5
theorem b2I{A:Nat->Bool}(hp:∀(j:Nat) (r:bf),s.2.2.2.2[j]? =some r->Ll s j r=false):∀i,i<s.2.2.2.2.length->DY A (BM s) i=-1\/∃(a:Nat) (ra ri:bf),a<=i/\A a=true/\DY A (BM s) i=(vF A a:Int)/\s.2.2.2.2[a]? =some ra/\s.2.2.2.2[i]? =some ri/\ra.2.1=ri.2.1:=by
 intro i;induction i using Nat.strongRecOn with
 |ind i ih=>
  intro hi;have hr:s.2.2.2.2[i]? =some s.2.2.2.2[i]:=fO hi;rw[XE];cases ha:A i
  .rw[if_neg A7];unfold anc;by_cases hq:0<=BM s i/\BM s i<(i:Int)
   .rw[if_pos hq];have hpi:=hp i _ hr;have hpe:BM s i=s.2.2.2.2[i].2.2.1:=by unfold BM;rw[hr]
    rcases ih (BM s i).toNat o5 o5 with h|⟨a,ra,rj,a1,a2,a3,a4,a5,a6⟩
    .exact .inl h
    .right;refine⟨a,ra,_,o5,a2,a3,a4,hr,?_⟩;rw[a6];unfold Ll at hpi;rw[←hpe]at hpi;rw[U2 (show BM s i≠-1 by omega),O6 hq.1,aA hq.2]at hpi;simp only[o6]at hpi;have e:G9 s.2.2.2.2 (BM s i)=some rj:=by unfold G9;rw[if_pos hq.1];exact a5
     rw[e]at hpi;simp only at hpi;cases g:o9 rj.2.1 s.2.2.2.2[i].2.1<;>rw[g]at hpi
     .cases hpi
     .exact Z5.1 g
   .rw[if_neg hq];exact .inl rfl
  .rw[if_pos rfl];exact .inr ⟨i,_,_,E8 i,ha,rfl,hr,hr,rfl⟩
theorem b6P{A:Nat->Bool}(hp:∀(j:Nat) (r:bf),s.2.2.2.2[j]? =some r->Ll s j r=false)(hr:s.2.2.2.2[i]? =some r):anc A (BM s) i=-1\/∃(a:Nat) (ra:bf),a<i/\A a=true/\anc A (BM s) i=(vF A a:Int)/\s.2.2.2.2[a]? =some ra/\ra.2.1=r.2.1:=by
 have hi:=(aO.1 hr).1;have hpe:BM s i=r.2.2.1:=by unfold BM;rw[hr]
 unfold anc;by_cases hq:0<=BM s i/\BM s i<(i:Int)
 .rw[if_pos hq];rcases b2I (A:=A) hp (BM s i).toNat o5 with h|⟨a,ra,rj,a1,a2,a3,a4,a5,a6⟩
  .exact .inl h
  .right;refine⟨a,ra,o5,a2,a3,a4,?_⟩;rw[a6];have hpi:=hp i _ hr;unfold Ll at hpi;rw[←hpe,U2 (show BM s i≠-1 by omega),O6 hq.1,aA hq.2]at hpi;simp only[o6]at hpi;have e:G9 s.2.2.2.2 (BM s i)=some rj:=by unfold G9;rw[if_pos hq.1];exact a5
   rw[e]at hpi;simp only at hpi;cases g:o9 rj.2.1 r.2.1<;>rw[g]at hpi
   .cases hpi
   .exact Z5.1 g
 .rw[if_neg hq];exact .inl rfl
theorem a3t(s:F5)(T d:Int):∀i,i<=s.2.2.2.2.length->Ot ((onL (onA s T) i).map (rOn s T)) d<=Ot (s.2.2.2.2.take i) d
 |0,_=>by simp[onL,Ot]|i+1,hi=>by
  have ih:=a3t s T d i o5;have hr:s.2.2.2.2[i]? =some s.2.2.2.2[i]:=fO o5;rw[Ih,bJ,U1 o5];unfold Ot at ih ⊢;rw[List.countP_append,List.countP_append];cases onA s T i
  .simp only[cond_false,jy,List.countP_nil];omega
  .simp only[cond_true,bW,jy];rw[VJ hr];have e:List.countP (λ(o:bf)=>o9 o.2.1 d) [(s.2.2.2.2[i].1,s.2.2.2.2[i].2.1,anc (onA s T) (BM s) i,s.2.2.2.2[i].2.2.2.1,xU,s.2.2.2.2[i].2.2.2.2.2.1,s.2.2.2.2[i].2.2.2.2.2.2.1,s.2.2.2.2[i].2.2.2.2.2.2.2)]=List.countP (λ(o:bf)=>o9 o.2.1 d) [s.2.2.2.2[i]]:=by simp[List.countP_cons]
   rw[e];omega
theorem b0U(hV:∀(j:Nat) (r:bf),s.2.2.2.2[j]? =some r->RuleV s sg j r)(hi:i<s.2.2.2.2.length)(ha:onA s T i=true):RuleV (sOn T s) (sgT T sg) (kap s T i) (rOn s T i):=by
 have hr:s.2.2.2.2[i]? =some s.2.2.2.2[i]:=fO hi;have h:=hV i _ hr;have htake:(sOn T s).2.2.2.2.take (kap s T i)=(onL (onA s T) i).map (rOn s T):=by show((uh s T).map (rOn s T)).take (vF (onA s T) i)=_;rw[←List.map_take];unfold uh;rw[b2X _ o5]
 have hpar:=b6P (A:=onA s T) (λj r hj=>(hV j r hj).pa) hr;obtain⟨d,d1,d2⟩:=h.df;rw[VJ hr];refine⟨h.id,?_,⟨d,d1,?_⟩,?_,h.p0,h.p9,rfl,rfl,?_,h.sr⟩
 .rw[htake];rw[ig];intro x hx;obtain⟨j,hj,rfl⟩:=O9.1 hx;obtain⟨j1,_⟩:=VF _ hj;have hrj:s.2.2.2.2[j]? =some s.2.2.2.2[j]:=fO o5;have:=ig.1 h.nm s.2.2.2.2[j] (oq.2 ⟨j,o5,rfl⟩);rw[VJ hrj];exact this
 .unfold JD at d2 ⊢;simp only[b8p];exact d2
 .unfold Ll;simp only;rcases hpar with e|⟨a,ra,a1,a2,a3,a4,a5⟩
  .rw[e];rfl
  .have hlt:=b9z a1 a2;rw[a3,U2 (show((vF (onA s T) a:Nat):Int)≠-1 by omega),O6 (show(0:Int)<=(vF (onA s T) a:Nat) by omega),aA (show((vF (onA s T) a:Nat):Int)<((kap s T i:Nat):Int) by unfold kap;omega)];simp only[o6];rw[I5,show(sOn T s).2.2.2.2[vF (onA s T) a]? =some (rOn s T a)from a9r o5 a2,VJ a4];simp only;rw[X0 a5];rfl
 .rw[htake];simp only;have h1:=a3t s T s.2.2.2.2[i].2.1 i o5;have h2:=h.ct;rw[Fa]at h2 ⊢;omega
theorem t_(l:U6)(T:Int)(kind k:Nat)(n:d4H):EU (lOn T l) kind k n=EU l kind k n:=by
 have e1:∀(L:List ak),(L.map (tOn T)).any (λx=>seq x.1 n)=L.any λx=>seq x.1 n:=λL=>by rw[List.any_map];rfl
 have e2:∀(L:List F5),(L.map (sOn T)).any (λx=>seq x.1 n)=L.any λx=>seq x.1 n:=λL=>by rw[List.any_map];rfl
 unfold EU;split
 .rfl
 .show((l.1.any λx=>seq x.1 n) || (((l.2.1.map (tOn T)).take k).any λx=>seq x.1 n))=_;rw[←List.map_take,e1]
 .show((l.1.any λx=>seq x.1 n) || ((l.2.1.map (tOn T)).any λx=>seq x.1 n) || (((l.2.2.map (sOn T)).take k).any λx=>seq x.1 n))=_;rw[←List.map_take,e1,e2]
theorem a3y{r:Int×Int}(h:sW r T=true):zI r=true/\r.1<=T/\T<r.2:=by
 unfold sW at h;cases h1:zI r<;>rw[h1]at h
 .cases h
 cases h2:J8 r.1 T<;>rw[h2]at h
 .cases h
 exact⟨rfl,sK.1 h2,ku.1 h⟩
theorem b1Q{a b:lG}(ha:sW a.1 T=true)(hb:sW b.1 T=true)(h:xy a b=false):xy (xU,a.2) (xU,b.2)=false:=by
 obtain⟨a1,a2,a3⟩:=a3y ha;obtain⟨b1,b2,b3⟩:=a3y hb;have e:(YH a.1 b.1).2=true:=by
  unfold YH;rw[a1,b1];simp only[o7];have hq:mZ a.1.1 b.1.1<qG a.1.2 b.1.2:=by unfold mZ qG;split<;>split<;>omega
  rw[aA hq];rfl
 unfold xy at h ⊢;rw[e]at h;rw[show(YH (xU,a.2).1 (xU,b.2).1).2=true from rfl];exact h
theorem c3v{en:List dI}(h:(KZ t en).2=0):(KZ (tOn T t) en).2=0:=by
 unfold KZ at h ⊢;cases g4:E5 64 (o8 t.2.2.2)<;>rw[g4]at h
 case true=>exact absurd (show(4:Int)=0 from h) F8
 have hle:(tOn T t).2.2.2.length<=t.2.2.2.length:=by show((t.2.2.2.filter _).map _).length<=_;rw[H9];exact bz _ _
 rw[show E5 64 (o8 (tOn T t).2.2.2)=false from O6 (by rw[gU]at g4;unfold o8 at g4 ⊢;omega)];cases g5:vty t.2.1 en<;>rw[g5]at h
 .exact absurd (show(8:Int)=0 from h) F8
 cases g6:vty t.2.2.1 en<;>rw[g6]at h
 .exact absurd (show(8:Int)=0 from h) F8
 rw[show vty (tOn T t).2.1 en=true from g5,show vty (tOn T t).2.2.1 en=true from g6];simp only[o7,o6]at h ⊢;have hn:∀j,j<t.2.2.2.length->NV t en j=none:=Hq (n:=t.2.2.2.length) (p:=NV t en) (λq hf=>by
  rw[show(List.range t.2.2.2.length).findSome? (NV t en)=some q from hf]at h;obtain⟨j,_,hj⟩:=gZ hf;unfold NV at hj;split at hj
  .rename_i x _;cases k1:Fz x (bnd t.2.1 en) (bnd t.2.2.1 en)<;>rw[k1]at hj
   .revert hj;cases (t.2.2.2.take j).any λy=>xy y x
    .intro hj;cases hj
    .intro hj;cases hj;exact absurd h (by show ¬(11:Int)=0;decide)
   .cases hj;exact absurd h (by show ¬(3:Int)=0;decide)
  .cases hj)
 have hrow:∀(j:Nat) (r:lG),t.2.2.2[j]? =some r->Fz r (bnd t.2.1 en) (bnd t.2.2.1 en)=false/\((t.2.2.2.take j).any λy=>xy y r)=false:=λj r hj=>by
  have:=hn j (aO.1 hj).1;unfold NV at this;rw[hj]at this;simp only at this;cases k1:Fz r (bnd t.2.1 en) (bnd t.2.2.1 en)<;>rw[k1]at this
  .refine⟨rfl,?_⟩;cases k2:(t.2.2.2.take j).any λy=>xy y r<;>rw[k2]at this;cases this
  .cases this
 have hpw:t.2.2.2.Pairwise λy x=>xy y x=false:=by rw[dM];intro i j hi hj hij;have:=(hrow j _ (fO hj)).2;have h3:=ig.1 this t.2.2.2[i] (oq.2 ⟨i,o5,rfl⟩);simpa using h3
 have hpw2:(tOn T t).2.2.2.Pairwise λy x=>xy y x=false:=by show((t.2.2.2.filter λr=>sW r.1 T).map λr=>((xU,r.2):lG)).Pairwise _;rw[List.pairwise_map];refine List.Pairwise.imp_of_mem ?_ (hpw.filter _);intro a b ha hb hc;exact b1Q (Y8.1 ha).2 (Y8.1 hb).2 hc
 have hnone:(List.range (tOn T t).2.2.2.length).findSome? (NV (tOn T t) en)=none:=by
  rw[aK];intro j hj;have hj:=X7.1 hj;have e:=fO hj;unfold NV;rw[e];simp only;have hm:(tOn T t).2.2.2[j]∈(tOn T t).2.2.2:=O5 hj;obtain⟨q,hq,hqe⟩:=O9.1 (show(tOn T t).2.2.2[j]∈(t.2.2.2.filter λr=>sW r.1 T).map λr=>((xU,r.2):lG)from hm);obtain⟨q1,q2⟩:=Y8.1 hq;obtain⟨i,hi,hie⟩:=Z9 q1;have hw:=(hrow i q (by rw[fO hi,hie])).1;have hw2:Fz (tOn T t).2.2.2[j] (bnd (tOn T t).2.1 en) (bnd (tOn T t).2.2.1 en)=false:=by
   rw[←hqe];unfold Fz at hw ⊢;rw[show zI (xU,q.2).1=true from rfl,show o9 (xU,q.2).1.1 (xU,q.2).1.2=false from rfl];cases d1:zI q.1<;>rw[d1]at hw
   .cases hw
   cases d2:o9 q.1.1 q.1.2<;>rw[d2]at hw
   case true=>cases hw
   exact hw
  rw[hw2];have hc:(((tOn T t).2.2.2.take j).any λy=>xy y (tOn T t).2.2.2[j])=false:=by rw[ig];intro y hy;obtain⟨i,hi,rfl⟩:=oq.1 hy;have:=dM.1 hpw2 i j o5 hj o5;simpa using this
  rw[hc];rfl
 rw[hnone]
theorem b8B :∀x∈U7 (sOn T s) d,x∈U7 s d:=by
 intro x hx;unfold U7 at hx ⊢;have hn:nD (sOn T s)=nD s:=rfl;rw[hn]at hx;cases hq:inD (nD s) d<;>rw[hq]at hx
 .simp at hx
 .obtain⟨r,hr,h1,h2⟩:=a1W.1 ((zO _ _).1 hx);obtain⟨i,hi,rfl⟩:=O9.1 hr;obtain⟨i1,_⟩:=XC hi;have hri:s.2.2.2.2[i]? =some s.2.2.2.2[i]:=fO i1;rw[VJ hri]at h1 h2;exact(zO _ _).2 (a1W.2 ⟨s.2.2.2.2[i],O5 i1,h1,h2⟩)
theorem b6C :∀x∈uN (sOn T s) d,x∈uN s d:=by obtain⟨_,a2,a3,_⟩:=Eg s d;obtain⟨_,_,_,b4⟩:=Eg (sOn T s) d;exact λx hx=>b4 (λz=>z∈uN s d) (λy hy=>a2 y (b8B y hy)) (λy hy z hz=>a3 y hy z (b8B z hz)) x hx
theorem b4Y(h:(eX l).1=0)(hs:l.2.2[i]? =some s)(T:Int):(Iw (lOn T l) i (sOn T s)).1=0:=by
 have hz:=z_ h hs;have hp:=(Ld h hs).2;have hm:=(Ld h hs).1;have hac:=Tc h hs;unfold Iw at hz ⊢;rw[t_];have e1:DX (lOn T l) i (sOn T s).2.1=DX l i s.2.1:=by unfold DX;show l7 (o9 s.2.1 (-1)) false (l7 (E5 s.2.1 0) true (l7 (J8 (i:Int) s.2.1) true (match G9 (l.2.2.map (sOn T)) s.2.1 with|some q=>D9 (o9 q.2.1 (-1))|none=>true)))=_;rw[Hu];cases G9 l.2.2 s.2.1<;>rfl
 rw[e1];rw[show(sOn T s).1=s.1 from rfl,show(sOn T s).2.2.1=s.2.2.1 from rfl,show(sOn T s).2.2.2.1=s.2.2.2.1 from rfl];cases g1:AQ s.1<;>rw[g1]at hz
 .exact absurd (show(2:Int)=0 from hz) F8
 cases g2:EU l 3 i s.1<;>rw[g2]at hz
 case true=>exact absurd (show(7:Int)=0 from hz) F8
 rw[hm];cases g4:E5 12 (o8 s.2.2.1)<;>rw[g4]at hz
 case true=>rw[hm]at hz;exact absurd (show(4:Int)=0 from hz) F8
 cases g5:E5 12 (o8 s.2.2.2.1)<;>rw[g5]at hz
 case true=>rw[hm]at hz;exact absurd (show(4:Int)=0 from hz) F8
 simp only[o7,o6];have hf:yT l s=none:=by
  unfold Pg at hp;cases h1:yT l s with
  |some q=>rw[h1]at hp;exact absurd hp (Jb h1)|none=>rfl
 have hf2:yT (lOn T l) (sOn T s)=none:=hf;have hV:∀(j:Nat) (r:bf),s.2.2.2.2[j]? =some r->RuleV s (IK l s) j r:=λj r hr=>b9S (Na h hs hr);unfold Pg;rw[hf2];simp only;have hr:ae (sOn T s).2.2.2.2.length (Jn (lOn T l) (sOn T s))=none:=by
  unfold ae;rw[aK];intro j hj;have hj:j<((uh s T).map (rOn s T)).length:=X7.1 hj;rw[H9]at hj;have hk:(uh s T)[j]? =some (uh s T)[j]:=fO hj;obtain⟨k1,k2⟩:=XC (O5 hj);have hcj:kap s T (uh s T)[j]=j:=by have h1:(uh s T)[kap s T (uh s T)[j]]? =some (uh s T)[j]:=a9c _ k1 k2;exact b0y (a6Q _ _) h1 hk
  have hv:=b0U (T:=T) hV k1 k2;rw[hcj]at hv;have hrj:(sOn T s).2.2.2.2[j]? =some (rOn s T (uh s T)[j]):=by have:=a9r k1 k2;rw[hcj]at this;exact this
  unfold Jn;rw[hrj];simp only;rw[c0O,hv.zero];rfl
 rw[hr];simp only;have hc:ae (sOn T s).2.2.2.1.length (K_ (sOn T s))=none:=by
  unfold ae;rw[aK];intro j hj;have hj:j<s.2.2.2.1.length:=X7.1 hj;unfold K_;have e:((uN (sOn T s) (j:Int)).any λx=>o9 (j:Int) x)=false:=by rw[ig];intro x hx hq;have hx2:=b6C x hx;rw[←Z5.1 hq]at hx2;exact hac (j:Int) o5 (by unfold nD o8;omega) hx2
  rw[e];rfl
 rw[hc]
theorem a5F(h:(eX l).1=0)(T:Int):(eX (lOn T l)).1=0:=by
 have h0:=h;unfold eX at h0;cases h1:o9 (BV l).1 0<;>rw[h1]at h0
 .simp only[o6]at h0;rw[X0 h0]at h1;cases h1
 cases h2:o9 (AA l).1 0<;>rw[h2]at h0
 .simp only[o7,o6]at h0;rw[X0 h0]at h2;cases h2
 simp only[o7]at h0;have ee:BV (lOn T l)=BV l:=by
  have:QW (lOn T l)=QW l:=by
   funext i;unfold QW;show(match l.1[i]? with|some e=>TJ 1 i (YJ (lOn T l) i e)|none=>none)=_;cases l.1[i]? with
   |none=>rfl|some e=>simp only;unfold YJ;rw[t_]
  unfold BV;rw[this];rfl
 have et:(AA (lOn T l)).1=0:=by
  have h3:=Z5.1 h2;unfold AA at h3 ⊢;rw[show o8 (lOn T l).2.1=o8 l.2.1 by show((l.2.1.map _).length:Int)=_;rw[H9];rfl];cases g:E5 8 (o8 l.2.1)<;>rw[g]at h3
  case true=>exact absurd (show(4:Int)=0 from h3) F8
  simp only[o6]at h3 ⊢;have hn:∀i,i<l.2.1.length->JP l i=none:=Hq (λr hf=>by
   rw[hf]at h3;obtain⟨j,_,hj⟩:=gZ hf;unfold JP at hj;split at hj
   .exact Vr hj h3
   .cases hj)
  have hn2:ae (lOn T l).2.1.length (JP (lOn T l))=none:=by
   unfold ae;rw[aK];intro j hj;have hj:j<(l.2.1.map (tOn T)).length:=X7.1 hj;rw[H9]at hj;have e:=fO hj;have hz:=hn j hj;unfold JP at hz ⊢;rw[e]at hz;rw[show(lOn T l).2.1[j]? =some (tOn T l.2.1[j]) by show(l.2.1.map (tOn T))[j]? =_;rw[S9,e];rfl];simp only at hz ⊢;have hz:=Vs hz;unfold a2R at hz ⊢;rw[t_];rw[show(tOn T l.2.1[j]).1=l.2.1[j].1 from rfl];cases g1:AQ l.2.1[j].1<;>rw[g1]at hz
   .exact absurd (show(2:Int)=0 from hz) F8
   cases g2:EU l 2 j l.2.1[j].1<;>rw[g2]at hz
   case true=>exact absurd (show(7:Int)=0 from hz) F8
   cases g3:o9 (KZ l.2.1[j] l.1).2 0<;>rw[g3]at hz
   .simp only[o7,o6]at hz;rw[X0 hz]at g3;cases g3
   rw[show o9 (KZ (tOn T l.2.1[j]) (lOn T l).1).2 0=true from X0 (c3v (Z5.1 g3))];rfl
  rw[hn2]
 have es:(MP (lOn T l)).1=0:=by
  unfold MP at h0 ⊢;rw[show o8 (lOn T l).2.2=o8 l.2.2 by show((l.2.2.map _).length:Int)=_;rw[H9];rfl];cases g:E5 4 (o8 l.2.2)<;>rw[g]at h0
  case true=>exact absurd (show(4:Int)=0 from h0) F8
  simp only[o6];have hn2:ae (lOn T l).2.2.length (MO (lOn T l))=none:=by unfold ae;rw[aK];intro j hj;have hj:j<(l.2.2.map (sOn T)).length:=X7.1 hj;rw[H9]at hj;have e:=fO hj;unfold MO;rw[show(lOn T l).2.2[j]? =some (sOn T l.2.2[j]) by show(l.2.2.map (sOn T))[j]? =_;rw[S9,e];rfl];simp only;unfold TJ;rw[X0 (b4Y h e T)];rfl
  rw[hn2]
 unfold eX;rw[ee,h1];simp only[o7];rw[X0 et];exact es
theorem b5e(h:SmS s)(T:Int):SmS (sOn T s):=by
 refine⟨h.nm,h.ni,h.nd,?_,h.fo,λr hr=>?_⟩
 .show((uh s T).map (rOn s T)).length<=96;rw[H9];exact aU (a3X s T) h.nr
 .obtain⟨i,hi,rfl⟩:=O9.1 (show r∈(uh s T).map (rOn s T)from hr);obtain⟨i1,_⟩:=XC hi;rw[VJ (fO i1)];exact h.ro s.2.2.2.2[i] (O5 i1)
theorem c0R(h:SmL l)(T:Int):SmL (lOn T l):=by
 obtain⟨f1,f2,f3⟩:=h.few;refine⟨⟨f1,?_,?_⟩,h.en,λt ht=>?_,λs hs=>?_⟩
 .show(l.2.1.map (tOn T)).length<=100000;rw[H9];exact f2
 .show(l.2.2.map (sOn T)).length<=100000;rw[H9];exact f3
 .obtain⟨q,hq,rfl⟩:=O9.1 (show t∈l.2.1.map (tOn T)from ht);exact h.tb q hq
 .obtain⟨q,hq,rfl⟩:=O9.1 (show s∈l.2.2.map (sOn T)from hs);exact b5e (h.sc q hq) T
theorem a8y(l:U6)(k:Int)(c:pq)(T:Int):IP (lOn T l) k c=IP l k c:=by
 have hm:∀s:F5,Fg (lOn T l) (sOn T s)=Fg l s:=λs=>by unfold Fg;show(match G9 (l.2.2.map (sOn T)) s.2.1 with|some q=>(q.2.2.1,(8:Int))|none=>([],0))=_;rw[Hu];cases G9 l.2.2 s.2.1<;>rfl
 unfold IP;rw[show G9 (lOn T l).2.2 k=(G9 l.2.2 k).map (sOn T)from Hu _ _ _];cases G9 l.2.2 k with
 |none=>rfl|some s=>simp only[jR];rw[hm s];rfl
theorem a9K(h:(Vb l k c false 0).1=0):0<=c.1/\c.1<=109572:=by
 obtain⟨hv,s,hs⟩:=Vd h;unfold Vb at h;rw[X0 hv,hs]at h;simp only[o7,o6]at h;cases h1:o9 (IP l k c).2.2 0<;>rw[h1]at h
 .simp only[o6]at h;rw[X0 h]at h1;cases h1
 have h1:=Z5.1 h1;unfold IP at h1;rw[hs]at h1;simp only at h1;cases g1:E5 c.1 0<;>rw[g1]at h1
 case true=>exact absurd (show(3:Int)=0 from h1) F8
 cases g2:E5 109572 c.1<;>rw[g2]at h1
 case true=>exact absurd (show(3:Int)=0 from h1) F8
 rw[gU]at g1 g2;exact⟨g1,g2⟩
theorem a2a(hL:SmL l)(h:(eX l).1=0)(hs:G9 l.2.2 k=some s)(h0:0<=T)(h1:T<=109572):OnOk s T:=by
 obtain⟨_,_,sm,s2⟩:=rq hs;have hv2:=a5F h T;have hs2:(lOn T l).2.2[k.toNat]? =some (sOn T s):=by show(l.2.2.map (sOn T))[k.toNat]? =_;rw[S9,s2];rfl
 have hS:=hL.sc s sm;obtain⟨a1,a2⟩:=SB hS (Tc h s2);obtain⟨b1,b2⟩:=SB (b5e hS T) (Tc hv2 hs2);refine⟨h0,h1,a1,a2,b1,b2,λd r hr hd e he=>⟨(YD h s2 d r hr hd e he).1,λ_ _=>trivial⟩,λd r hr hd e he=>⟨(YD hv2 hs2 d r hr hd e he).1,λ_ _=>trivial⟩⟩
theorem b0z(h0:0<=T)(h1:T<=109572):OnOk sV T:=by
 have hac:∀d,0<=d->d<nD sV->d∉uN sV d:=λd d0 d1=>absurd d1 (by show ¬d<(0:Int);omega);obtain⟨a1,a2⟩:=SB Zv hac;refine⟨h0,h1,a1,a2,?_,?_,λd r hr=>?_,λd r hr=>?_⟩
 .rw[Sz];exact a1
 .rw[Sz];exact a2
 .cases hr
 .rw[Sz]at hr;cases hr
end Go.GP
namespace Gt
open Go Go.GP
theorem Gw(t:Int×Int)(en:List dI):fF t en=bF t en:=by
 unfold fF bF;by_cases h1:t.1=1
 .simp[o9,h1,J8]
 by_cases h2:t.1=2
 .simp[o9,h2,J8]
 by_cases h3:t.1=3
 .simp[o9,h3,J8]
 by_cases h4:t.1=4
 .simp[o9,h4,J8]
 by_cases h5:t.1=5
 .simp[o9,h5,J8]
 by_cases h6:t.1=6
 .simp[o9,h6,J8]
 .simp only[o9,h1,h2,h3,h4,h5,h6,decide_false,o6,x8];by_cases h7:1<=t.1
  .rw[En (af h7),FP (aA o5)]
  .rw[FP (aA o5)]
theorem a0s(t:Int×Int)(en:List dI):kG t en=jA t en:=by unfold kG jA;rw[Gw]
end Gt
namespace Go.GP
open Gt
set_option maxRecDepth 100000
theorem hc0{P:Nat->Int->d4H->Prop} :∀(a:Nat) (o:Int) (s:d4H),([]:d4I)[a]? =some o->([]:List d4H)[a]? =some s->P a o s:=by intro a o s h;cases a<;>cases h
variable {x:Int}
theorem hc1{y:d4H}{P:Int->d4H->Prop}(h0:P x y):∀(a:Nat) (o:Int) (s:d4H),[x][a]? =some o->[y][a]? =some s->P o s:=by
 intro a o s h1 h2;match a with
 |0=>cases h1;cases h2;exact h0|a+1=>simp at h1
theorem hc2{x x' :Int}{y y' :d4H}{P:Int->d4H->Prop}(h0:P x y)(h1:P x' y'):∀(a:Nat) (o:Int) (s:d4H),[x,x'][a]? =some o->[y,y'][a]? =some s->P o s:=by
 intro a o s g1 g2;match a with
 |0=>cases g1;cases g2;exact h0|1=>cases g1;cases g2;exact h1|a+2=>simp at g1
theorem a0x{c e:Int}(h:Vq c e=none):c=0:=by
 unfold Vq at h;cases he:o9 c 0<;>rw[he]at h
 .cases h
 .exact Z5.1 he
theorem a3l{b:Bool}{x y:Int}(h:l7 b x y=0)(hx:x≠0):b=false/\y=0:=by
 cases b
 .exact⟨rfl,h⟩
 .exact absurd h hx
theorem a6u{n:Nat}{p:Nat->Option (Int×Int×Int×Int)}{z:Int×Int×Int×Int}(h:(match ae n p with|some r=>r|none=>z).1=0)(hp:∀i r,p i=some r->r.1≠0):∀i,i<n->p i=none:=
 Hq λr hf=>by rw[hf]at h;obtain⟨j,_,hj⟩:=gZ hf;exact hp j r hj h
variable {l:U6}
theorem b9b(h:(eX l).1=0):(BV l).1=0:=by
 unfold eX at h;cases h1:o9 (BV l).1 0<;>rw[h1]at h
 .exact h
 .exact Z5.1 h1
theorem b9c(h:(eX l).1=0):(AA l).1=0:=by
 have h0:=b9b h;unfold eX at h;rw[X0 h0,o7]at h;cases h1:o9 (AA l).1 0<;>rw[h1]at h
 .exact h
 .exact Z5.1 h1
structure RwV (t:ak) (en:List dI) (x:lG):Prop where
 dv:zI x.1=true
 dn:x.1.1≠x.1.2
 lh:x.2.1<x.2.2.1
 lo:inB x.2.1 (bnd t.2.1 en)=true
 hi:inB (G8 .i64 x.2.2.1 1) (bnd t.2.1 en)=true
 n:inB x.2.2.2 (bnd t.2.2.1 en)=true
theorem b6J{t:ak}{en:List dI}{x:lG}(h:Fz x (bnd t.2.1 en) (bnd t.2.2.1 en)=false):RwV t en x:=by
 unfold Fz at h;cases g1:zI x.1<;>rw[g1]at h
 .cases h
 cases g2:o9 x.1.1 x.1.2<;>rw[g2]at h
 case true=>cases h
 cases g3:J8 x.2.2.1 x.2.1<;>rw[g3]at h
 case true=>cases h
 cases g4:inB x.2.1 (bnd t.2.1 en)<;>rw[g4]at h
 .cases h
 cases g5:inB (G8 .i64 x.2.2.1 1) (bnd t.2.1 en)<;>rw[g5]at h
 .cases h
 cases g6:inB x.2.2.2 (bnd t.2.2.1 en)<;>rw[g6]at h
 .cases h
 exact⟨g1,zC.1 g2,Fa.1 g3,g4,g5,g6⟩
structure TbV (l:U6) (i:Nat) (t:ak):Prop where
 id:AQ t.1=true
 tk:EU l 2 i t.1=false
 le:t.2.2.2.length<=64
 vk:vty t.2.1 l.1=true
 vv:vty t.2.2.1 l.1=true
 rows:∀x∈t.2.2.2,RwV t l.1 x
theorem a1p(h:(eX l).1=0):l.2.1.length<=8/\∀i t,l.2.1[i]? =some t->TbV l i t:=by
 have h1:=b9c h;unfold AA at h1;cases h2:E5 8 (o8 l.2.1)<;>rw[h2]at h1
 case true=>exact absurd (show(4:Int)=0 from h1) F8
 rw[o6]at h1;refine⟨by rw[gU]at h2;unfold o8 at h2;omega,λi t he=>?_⟩;have hn:=a6u h1 (λj r hj=>by
  unfold JP at hj;split at hj
  .exact Vr hj
  .cases hj) i (aO.1 he).1
 unfold JP at hn;rw[he]at hn;have hz:=Vs hn;unfold a2R at hz;cases g1:AQ t.1<;>rw[g1]at hz
 .exact absurd (show(2:Int)=0 from hz) F8
 cases g2:EU l 2 i t.1<;>rw[g2]at hz
 case true=>exact absurd (show(7:Int)=0 from hz) F8
 have hc:(KZ t l.1).2=0:=by
  cases g3:o9 (KZ t l.1).2 0<;>rw[g3]at hz
  .exact hz
  .exact Z5.1 g3
 unfold KZ at hc;cases g4:E5 64 (o8 t.2.2.2)<;>rw[g4]at hc
 case true=>exact absurd (show(4:Int)=0 from hc) F8
 cases g5:vty t.2.1 l.1<;>rw[g5]at hc
 .exact absurd (show(8:Int)=0 from hc) F8
 cases g6:vty t.2.2.1 l.1<;>rw[g6]at hc
 .exact absurd (show(8:Int)=0 from hc) F8
 simp only[o7,o6]at hc;refine⟨g1,g2,by rw[gU]at g4;unfold o8 at g4;omega,g5,g6,λx hx=>?_⟩;obtain⟨j,hj,e1⟩:=Z9 hx;have hf:∀r,ae t.2.2.2.length (NV t l.1)≠some r:=λr hf=>by
  have hc' :(match ae t.2.2.2.length (NV t l.1)with|some r=>r|none=>(0,0)).2=0:=hc;rw[hf]at hc';obtain⟨q,_,hq⟩:=gZ hf;unfold NV at hq;split at hq
  .rename_i x' _;cases a1:Fz x' (bnd t.2.1 l.1) (bnd t.2.2.1 l.1)<;>rw[a1]at hq
   .cases a2:(t.2.2.2.take q).any λy=>xy y x'<;>rw[a2]at hq
    .cases hq
    .cases hq;exact absurd (show(11:Int)=0 from hc') F8
   .cases hq;exact absurd (show(3:Int)=0 from hc') F8
  .cases hq
 have hj' :=Hq hf j hj;unfold NV at hj';rw[fO hj,e1]at hj';simp only at hj';cases a1:Fz x (bnd t.2.1 l.1) (bnd t.2.2.1 l.1)<;>rw[a1]at hj'
 .exact b6J a1
 .cases hj'
structure RuV (s:F5) (sg:J4) (k:Nat) (r:bf):Prop where
 id:AQ r.1=true
 nm:((s.2.2.2.2.take k).any λx=>seq x.1 r.1)=false
 df:∃d,G9 s.2.2.2.1 r.2.1=some d/\JD r sg d.2=0
 pa:r.2.2.1=-1\/∃(p:Nat) (q:bf),r.2.2.1=(p:Int)/\p<k/\s.2.2.2.2[p]? =some q
 p0:0<=r.2.2.2.1
 p9:r.2.2.2.1<=9
 dv:zI r.2.2.2.2.1=true
 dn:r.2.2.2.2.1.1≠r.2.2.2.2.1.2
 src:a0e r.2.2.2.2.2.2.2=true
theorem a7g{s:F5}{sg:J4}{k:Nat}{r:bf}(h:Dy s sg k r=0):RuV s sg k r:=by
 unfold Dy at h;cases g1:AQ r.1<;>rw[g1]at h
 .exact absurd (show(2:Int)=0 from h) F8
 cases g2:(s.2.2.2.2.take k).any λx=>seq x.1 r.1<;>rw[g2]at h
 case true=>exact absurd (show(7:Int)=0 from h) F8
 simp only[o7,o6]at h;cases g3:G9 s.2.2.2.1 r.2.1 with
 |none=>rw[g3]at h;exact absurd (show(6:Int)=0 from h) F8|some d=>
  rw[g3]at h;simp only at h;obtain⟨g4,h⟩:=a3l h F8;cases g5:E5 r.2.2.2.1 0<;>rw[g5]at h
  case true=>exact absurd (show(3:Int)=0 from h) F8
  cases g6:E5 9 r.2.2.2.1<;>rw[g6]at h
  case true=>exact absurd (show(3:Int)=0 from h) F8
  cases g7:zI r.2.2.2.2.1<;>rw[g7]at h
  .exact absurd (show(3:Int)=0 from h) F8
  cases g8:o9 r.2.2.2.2.1.1 r.2.2.2.2.1.2<;>rw[g8]at h
  case true=>exact absurd (show(3:Int)=0 from h) F8
  cases g9:J8 8 (Ot (s.2.2.2.2.take k) r.2.1:Int)<;>rw[g9]at h
  case true=>exact absurd (show(4:Int)=0 from h) F8
  cases g10:a0e r.2.2.2.2.2.2.2<;>rw[g10]at h
  .exact absurd (show(2:Int)=0 from h) F8
  simp only[o7,o6]at h;refine⟨g1,g2,⟨d,g3,h⟩,?_,gU.1 g5,gU.1 g6,g7,zC.1 g8,g10⟩;cases a1:o9 r.2.2.1 (-1)<;>rw[a1]at g4
  .rw[o6]at g4;cases a2:E5 r.2.2.1 0<;>rw[a2]at g4
   case true=>cases g4
   rw[o6]at g4;cases a3:J8 (k:Int) r.2.2.1<;>rw[a3]at g4
   case true=>cases g4
   rw[o6]at g4;have b2:=gU.1 a2;have b3:=Fa.1 a3;right;obtain⟨p,hp⟩:∃p:Nat,r.2.2.1=(p:Int):=⟨r.2.2.1.toNat,(X6 b2).symm⟩;rw[hp,I5]at g4;cases hq:s.2.2.2.2[p]? with
   |none=>rw[hq]at g4;cases g4|some q=>exact⟨p,q,hp,Int.ofNat_lt.1 (by rw[hp]at b3;exact b3),hq⟩
  .exact .inl (Z5.1 a1)
structure FdV (en:List dI) (f:iH) (a b:List iH):Prop where
 id:AQ f.1=true
 a:(a.any λx=>seq x.1 f.1)=false
 b:(b.any λx=>seq x.1 f.1)=false
 ty:vty f.2 en=true
theorem Wx{en:List dI}{f:iH}{a b:List iH}(h:OE en f a b=0):FdV en f a b:=by
 unfold OE at h;cases g1:AQ f.1<;>rw[g1]at h
 .exact absurd (show(2:Int)=0 from h) F8
 cases g2:a.any λx=>seq x.1 f.1<;>rw[g2]at h
 case true=>exact absurd (show(7:Int)=0 from h) F8
 cases g3:b.any λx=>seq x.1 f.1<;>rw[g3]at h
 case true=>exact absurd (show(7:Int)=0 from h) F8
 cases g4:vty f.2 en<;>rw[g4]at h
 .exact absurd (show(8:Int)=0 from h) F8
 exact⟨g1,g2,g3,g4⟩
structure ScV (l:U6) (i:Nat) (s:F5):Prop where
 id:AQ s.1=true
 tk:EU l 3 i s.1=false
 mb:s.2.1=-1\/∃(p:Nat) (q:F5),s.2.1=(p:Int)/\p<i/\l.2.2[p]? =some q
 li:s.2.2.1.length<=12
 ld:s.2.2.2.1.length<=12
 ins:∀j f,s.2.2.1[j]? =some f->FdV l.1 f (s.2.2.1.take j) []
 defs:∀j f,s.2.2.2.1[j]? =some f->FdV l.1 f s.2.2.1 (s.2.2.2.1.take j)
 rules:∀k r,s.2.2.2.2[k]? =some r->RuV s (IK l s) k r
theorem a1o(h:(eX l).1=0):l.2.2.length<=4/\∀i s,l.2.2[i]? =some s->ScV l i s:=by
 have h0:=h;refine⟨?_,λi s hs=>?_⟩
 .unfold eX at h;rw[X0 (b9b h0),o7,X0 (b9c h0),o7]at h;unfold MP at h;cases h3:E5 4 (o8 l.2.2)<;>rw[h3]at h
  case true=>exact absurd (show(4:Int)=0 from h) F8
  rw[gU]at h3;unfold o8 at h3;omega
 have he:=z_ h hs;unfold Iw at he;cases g1:AQ s.1<;>rw[g1]at he
 .exact absurd (show(2:Int)=0 from he) F8
 cases g2:EU l 3 i s.1<;>rw[g2]at he
 case true=>exact absurd (show(7:Int)=0 from he) F8
 cases g3:DX l i s.2.1<;>rw[g3]at he
 case true=>exact absurd (show(6:Int)=0 from he) F8
 cases g4:E5 12 (o8 s.2.2.1)<;>rw[g4]at he
 case true=>exact absurd (show(4:Int)=0 from he) F8
 cases g5:E5 12 (o8 s.2.2.2.1)<;>rw[g5]at he
 case true=>exact absurd (show(4:Int)=0 from he) F8
 simp only[o7,o6]at he;have hfs:yT l s=none:=by
  unfold Pg at he;cases hf:yT l s with
  |none=>rfl|some q=>rw[hf]at he;exact absurd he (Jb hf)
 refine⟨g1,g2,?_,by rw[gU]at g4;unfold o8 at g4;omega,by rw[gU]at g5;unfold o8 at g5;omega,λj f hf=>?_,λj f hf=>?_,λk r hr=>a7g (Na h hs hr)⟩
 .unfold DX at g3;cases a1:o9 s.2.1 (-1)<;>rw[a1]at g3
  .rw[o6]at g3;cases a2:E5 s.2.1 0<;>rw[a2]at g3
   case true=>cases g3
   rw[o6]at g3;cases a3:J8 (i:Int) s.2.1<;>rw[a3]at g3
   case true=>cases g3
   rw[o6]at g3;have b2:=gU.1 a2;have b3:=Fa.1 a3;right;obtain⟨p,hp⟩:∃p:Nat,s.2.1=(p:Int):=⟨s.2.1.toNat,(X6 b2).symm⟩;rw[hp,I5]at g3;cases hq:l.2.2[p]? with
   |none=>rw[hq]at g3;cases g3|some q=>exact⟨p,q,hp,Int.ofNat_lt.1 (by rw[hp]at b3;exact b3),hq⟩
  .exact .inl (Z5.1 a1)
 .unfold yT at hfs;have hin:ae s.2.2.1.length (inP l s)=none:=by
   cases hq:ae s.2.2.1.length (inP l s)with
   |none=>rfl|some q=>rw[hq]at hfs;cases hfs
  have hj:=oJ hin j (aO.1 hf).1;unfold inP at hj;rw[hf]at hj;exact Wx (a0x hj)
 .unfold yT at hfs;have hdf:ae s.2.2.2.1.length (a6j l s)=none:=by
   cases hq:ae s.2.2.1.length (inP l s)with
   |none=>rw[hq]at hfs;exact hfs|some q=>rw[hq]at hfs;cases hfs
  have hj:=oJ hdf j (aO.1 hf).1;unfold a6j at hj;rw[hf]at hj;exact Wx (a0x hj)
theorem VC(n:Nat):Fh n n=true:=by unfold Fh;exact Nat.beq_refl n
structure LenL (l:U6):Prop where
 e:l.1.length<=1000000/\∀e∈l.1,e.2.length<=1000000
 t:l.2.1.length<=1000000/\∀t∈l.2.1,t.2.2.2.length<=1000000
 s:l.2.2.length<=1000000/\∀s∈l.2.2,s.2.2.1.length<=1000000/\s.2.2.2.1.length<=1000000/\s.2.2.2.2.length<=1000000/\∀r∈s.2.2.2.2,r.2.2.2.2.2.1.length<=1000000/\r.2.2.2.2.2.2.1.length<=1000000
theorem a0B{α β ρ:Type}(b:β):∀l:List α,dE (λ(b:β) (_:α)=>(.inl b:β⊕ρ)) l b= .inl b
 |[]=>rfl|_::l=>a0B b l
variable {α:Type}
theorem BK{a:List α}(hl:a.length<=1000000){f:Int->Option (Out Int PUnit Bool)}
  (hin:∀(i:Nat) x,a[i]? =some x->f (i:Int)=some (.nx (C9 .i64 (i:Int) 1))) (hend:f (a.length:Int)=some (.ex PUnit.unit)):
  (l7 (D9 (o9 (o8 a) (o8 a))) (some false) (l9 (U3 f 0) λo=>U4 o (λ_=>some true) λr=>some r))=some true:=by
 rw[X0 rfl,G6,o6];refine rY a (λ(b:Unit) _=>(.inl b:Unit⊕Bool)) (λ_ i=>i) (λ_=>PUnit.unit) (λ_ _=>True) () hl trivial (λi x _ hx hi _=>⟨?_,λ_ _=>trivial⟩) (λ_ _=>hend) (λ_=>?_)
 .rw[hin i x hx,iy o5]
 .rw[a0B];rfl
theorem KU(a:d4H):seq a a=true:=a9u.2 rfl
theorem Kt(a:Int):o9 a a=true:=X0 rfl
theorem Tz:fG true true=true:=rfl
theorem UJ{a:List d4H}(h:a.length<=1000000):Gq a a=some true:=by unfold Gq;refine BK h (λi x hx=>?_) (by simp only[V5,o6]);simp only[V6 hx,o7,I5,hx,x8,KU,G6,o6]
theorem NQ{a:List bQ}(h:a.length<=1000000):Ba a a=some true:=by unfold Ba;refine BK h (λi x hx=>?_) (by simp only[V5,o6]);simp only[V6 hx,o7,I5,hx,x8,Kt,Tz,G6,o6]
theorem h_{a:List lG}(h:a.length<=1000000):QG a a=some true:=by unfold QG;refine BK h (λi x hx=>?_) (by simp only[V5,o6]);simp only[V6 hx,o7,I5,hx,x8,Kt,Tz,G6,o6]
theorem KQ{a:List iH}(h:a.length<=1000000):EM a a=some true:=by unfold EM;refine BK h (λi x hx=>?_) (by simp only[V5,o6]);simp only[V6 hx,o7,I5,hx,x8,Kt,KU,Tz,G6,o6]
theorem Xu{a:List dI}(h:a.length<=1000000)(h2:∀e∈a,e.2.length<=1000000):MK a a=some true:=by
 unfold MK;refine BK h (λi x hx=>?_) (by simp only[V5,o6]);have e:QF x x=some true:=by unfold QF;rw[KU,o7,UJ (h2 x (mM hx)),x8]
 simp only[V6 hx,o7,I5,hx,x8,e,G6,o6]
theorem VR{a:List ak}(h:a.length<=1000000)(h2:∀t∈a,t.2.2.2.length<=1000000):Jp a a=some true:=by
 unfold Jp;refine BK h (λi x hx=>?_) (by simp only[V5,o6]);have e:MN x x=some true:=by unfold MN;simp only[KU,Kt,Tz,o7];rw[h_ (h2 x (mM hx)),x8]
 simp only[V6 hx,o7,I5,hx,x8,e,G6,o6]
theorem Xv{a:List bf}(h:a.length<=1000000)(h2:∀r∈a,r.2.2.2.2.2.1.length<=1000000/\r.2.2.2.2.2.2.1.length<=1000000):ML a a=some true:=by
 unfold ML;refine BK h (λi x hx=>?_) (by simp only[V5,o6]);have e:QH x x=some true:=by obtain⟨g1,g2⟩:=h2 x (mM hx);unfold QH;simp only[KU,Kt,Tz,o7];rw[NQ g1,x8,o7,NQ g2,x8]
 simp only[V6 hx,o7,I5,hx,x8,e,G6,o6]
theorem a0b(h:LenL l):UI l l=some true:=by
 unfold UI;rw[Xu h.e.1 h.e.2,x8,o7,VR h.t.1 h.t.2,x8,o7];have e:Jo l.2.2 l.2.2=some true:=by
  unfold Jo;refine BK h.s.1 (λi x hx=>?_) (by simp only[V5,o6]);have e:MM x x=some true:=by obtain⟨g1,g2,g3,g4⟩:=h.s.2 x (mM hx);unfold MM;simp only[KU,Kt,o7];rw[KQ g1,x8,o7,KQ g2,x8,o7,Xv g3 g4,x8]
  simp only[V6 hx,o7,I5,hx,x8,e,G6,o6]
 rw[e,x8]
theorem a3M{ρ:Type}{n:Nat}{p:Nat->Option ρ}(h:∀i,i<n->p i=none):ae n p=none:=by unfold ae;exact aK.2 λi hi=>h i (X7.1 hi)
theorem b8A{L:List α}{a:α}(h:a∈L):∃i:Nat,L[i]? =some a:=by obtain⟨i,hi,e⟩:=Z9 h;exact⟨i,by rw[fO hi,e]⟩
theorem d1I(hw:SwL l)(hv:(eX l).1=0):SmL l:=by refine⟨hw.few,hw.en,hw.tb,λs hs=>?_⟩;obtain⟨i,hi⟩:=b8A hs;have hV:=(a1o hv).2 i s hi;refine a5f (l:=l) (hw.sc s hs) hV.li hV.ld (a3M λk hk=>?_);have e:=fO hk;have hr:=Na hv hi e;unfold Jn;rw[e];simp only[Vq,hr];rfl
def nmP(L:List α)(f:α->d4H)(n:d4H)(i:Nat):d4M:=match L[i]? with|some a=>l7 (seq (f a) n) (some (i:Int)) none|none=>none
def nmI(L:List α)(f:α->d4H)(n:d4H):Int:=match ae L.length (nmP L f n)with|some r=>r|none=>-1
theorem KE(L:List α)(f:α->d4H)(n:d4H):nmI L f n=-1\/∃(i:Nat) (a:α),nmI L f n=(i:Int)/\L[i]? =some a/\f a=n/\G9 L (nmI L f n)=some a/\a∈L:=by
 unfold nmI;cases h:ae L.length (nmP L f n)with
 |none=>exact .inl rfl|some r=>
  right;obtain⟨i,hi,hp⟩:=gZ h;unfold nmP at hp;have e:=fO hi;rw[e]at hp;simp only at hp;cases g:seq (f L[i]) n<;>rw[g]at hp
  .cases hp
  .rw[o7]at hp;cases hp;exact⟨i,L[i],rfl,e,a9u.1 g,by simp only;rw[I5];exact e,O5 hi⟩
theorem XF(L:List α)(fl:α->d4H)(n:d4H)(hl:L.length<=1000000){f:Int->Option (Out Int PUnit Int)}
  (h1:∀(i:Nat) (a:α),L[i]? =some a->f (i:Int)=some (l7 (seq (fl a) n) (.rt (i:Int)) (.nx (C9 .i64 (i:Int) 1)))) (h2:f (L.length:Int)=some (.ex PUnit.unit)):
  (l9 (U3 f 0) λ(o:PUnit⊕Int)=>U4 o (λ(y:PUnit)=>some (-1)) λ(r:Int)=>some r)=some (nmI L fl n):=by
 refine fU (vJ (p:=nmP L fl n) L.length hl PUnit.unit (λi hi=>?_) h2) ?_
 .have e:=fO hi;rw[h1 i _ e];unfold nmP;rw[e];simp only;cases seq (fl L[i]) n<;>rfl
 .unfold nmI;cases ae L.length (nmP L fl n)<;>rfl
theorem Rz(n:d4H)(h:l.2.2.length<=1000000):nV l n=some (nmI l.2.2 (λ(s:F5)=>s.1) n):=by unfold nV;refine XF l.2.2 (λ(s:F5)=>s.1) n h (λi a ha=>?_) (by rw[V5];rfl);simp only[V6 ha,o7,I5,ha,x8];cases seq a.1 n<;>rfl
theorem RD(n:d4H)(h:l.2.1.length<=1000000):nX l n=some (nmI l.2.1 (λ(s:ak)=>s.1) n):=by unfold nX;refine XF l.2.1 (λ(s:ak)=>s.1) n h (λi a ha=>?_) (by rw[V5];rfl);simp only[V6 ha,o7,I5,ha,x8];cases seq a.1 n<;>rfl
structure AmW (a:J7):Prop where
 d:kQ a.2.1
 s:a.2.2.1.length<=4611686018427387904
 n:a.2.2.2.1.length<=4611686018427387904
 f:a.2.2.2.2.1.length<=4611686018427387904
 p:a.2.2.2.2.2.1.length<=4611686018427387904
 pr:kQ a.2.2.2.2.2.2.1
 g:∀n∈a.2.2.2.2.2.2.2.1,kQ n.2
 v:∀n∈a.2.2.2.2.2.2.2.2.1,kQ n.2
 t:a.2.2.2.2.2.2.2.2.2.2.1.length<=4611686018427387904
 lo:kQ a.2.2.2.2.2.2.2.2.2.2.2.2.1
 hi:kQ a.2.2.2.2.2.2.2.2.2.2.2.2.2.1
 rn:kQ a.2.2.2.2.2.2.2.2.2.2.2.2.2.2
structure AmF (a:J7):Prop where
 g:a.2.2.2.2.2.2.2.1.length<=60
 v:a.2.2.2.2.2.2.2.2.1.length<=60
 s:a.2.2.2.2.2.2.2.2.2.1.length<=200
def a5O(a:J7):Bool:=l7 (E5 60 (o8 a.2.2.2.2.2.2.2.1)) false (l7 (E5 60 (o8 a.2.2.2.2.2.2.2.2.1)) false (D9 (E5 200 (o8 a.2.2.2.2.2.2.2.2.2.1))))
theorem b6O{a:J7}(h:a5O a=true):AmF a:=by
 unfold a5O at h;obtain⟨h1,h⟩:=QL h;obtain⟨h2,h⟩:=QL h;have h3:E5 200 (o8 a.2.2.2.2.2.2.2.2.2.1)=false:=by revert h;cases E5 200 (o8 a.2.2.2.2.2.2.2.2.2.1)<;>intro h<;>first|rfl|cases h
 exact⟨jk (n:=60) h1,jk (n:=60) h2,jk (n:=200) h3⟩
theorem b9C(act:List J7):∃b,GL act=some b/\(b=true->act.length<=8/\∀a∈act,AmF a):=by
 unfold GL;have key:=DW (f:=λ(x:Int)=>
   l7 (E5 x (o8 act))
    (l7 (E5 x 12)
     (l9 (G9 act x) λ(x_1:J7)=>
      l7 (E5 60 (o8 x_1.2.2.2.2.2.2.2.1)) (some (Out.rt false))
       (l9 (G9 act x) λ(x_2:J7)=>
        l7 (E5 60 (o8 x_2.2.2.2.2.2.2.2.2.1)) (some (Out.rt false))
         (l9 (G9 act x) λ(x_3:J7)=>
          l7 (E5 200 (o8 x_3.2.2.2.2.2.2.2.2.2.1)) (some (Out.rt false))
           (some (Out.nx (C9 IntKind.i64 x 1))))))
     (some (Out.ex PUnit.unit)))
    (some (Out.ex PUnit.unit))) (s:=0) (λx=>∃i:Nat,x=(i:Int)/\i<=12/\i<=act.length/\∀a∈act.take i,a5O a=true) (λ_=>act.length<=8->∀a∈act,a5O a=true) (λr=>r=false) (λx=>12 -x.toNat)
  ⟨0,rfl,o5,o5,A7⟩ A7 ?_
 .rcases key with⟨e,k1,k2⟩|⟨r,k1,k2⟩
  .refine⟨J8 (o8 act) 8,fU k1 rfl,λhb=>?_⟩;have hl:act.length<=8:=by have:=sK.1 hb;unfold o8 at this;omega
   exact⟨hl,λa ha=>b6O (k2 hl a ha)⟩
  .exact⟨r,fU k1 rfl,λhb=>by rw[k2]at hb;cases hb⟩
 .rintro x ⟨i,rfl,h1,h2,h3⟩;by_cases hi:i<act.length
  .by_cases h12:i<12
   .have e:=fO hi;simp only[V6 e,o7,V7 (show(i:Int)<12 by omega),I5,e,x8];cases g:a5O act[i]
    .right;right;refine⟨false,?_,rfl⟩;unfold a5O at g;cases g1:E5 60 (o8 act[i].2.2.2.2.2.2.2.1)<;>rw[g1]at g
     .cases g2:E5 60 (o8 act[i].2.2.2.2.2.2.2.2.1)<;>rw[g2]at g
      .cases g3:E5 200 (o8 act[i].2.2.2.2.2.2.2.2.2.1)<;>rw[g3]at g
       .cases g
       .rfl
      .rfl
     .rfl
    .left;refine⟨((i+1:Nat):Int),?_,⟨i+1,rfl,h12,hi,λa ha=>?_⟩,by simp;omega⟩
     .unfold a5O at g;obtain⟨g1,g⟩:=QL g;obtain⟨g2,g⟩:=QL g;have g3:E5 200 (o8 act[i].2.2.2.2.2.2.2.2.2.1)=false:=by revert g;cases E5 200 (o8 act[i].2.2.2.2.2.2.2.2.2.1)<;>intro g<;>first|rfl|cases g
      rw[g1,g2,g3,iy o5];rfl
     .rw[U1 hi]at ha;rcases E9.1 ha with ha|ha
      .exact h3 a ha
      .rw[X5.1 ha];exact g
   .right;left;refine⟨PUnit.unit,?_,λhl=>by omega⟩;rw[V7 (show(i:Int)<o8 act by unfold o8;omega),O6 (show(12:Int)<=(i:Int) by omega)];rfl
  .right;left;have:i=act.length:=o5;subst this;rw[bM]at h3;exact⟨PUnit.unit,by rw[V5];rfl,λ_=>h3⟩
theorem a5Q:jq=some true:=by decide+kernel
end Go.GP
namespace Go.GP
open Gt
abbrev yAm:Ty:=(.prod (.int .i64) (.prod (.int .i64) (.prod .str (.prod .str (.prod .str (.prod .str (.prod (.int .i64) (.prod (.sl (.prod (.int .i64) (.int .i64))) (.prod (.sl (.prod (.int .i64) (.int .i64))) (.prod .str (.prod .str (.prod (.prod (.int .i64) (.int .i64)) (.prod (.int .i64) (.prod (.int .i64) (.int .i64)))))))))))))))
theorem d4F{a:J7}(h:wf yAm a):AmW a:=by
 refine⟨Fv h.2.1,aU h.2.2.1 Il,aU h.2.2.2.1 Il,aU h.2.2.2.2.1 Il,aU h.2.2.2.2.2.1 Il,Fv h.2.2.2.2.2.2.1,λn hn=>?_,λn hn=>?_,?_,?_,?_,?_⟩
 .exact Fv (h.2.2.2.2.2.2.2.1.2 n hn).2
 .exact Fv (h.2.2.2.2.2.2.2.2.1.2 n hn).2
 .exact aU h.2.2.2.2.2.2.2.2.2.2.1 Il
 .exact Fv h.2.2.2.2.2.2.2.2.2.2.2.2.1
 .exact Fv h.2.2.2.2.2.2.2.2.2.2.2.2.2.1
 .exact Fv h.2.2.2.2.2.2.2.2.2.2.2.2.2.2
end Go.GP
namespace Go.GP
open Gt
set_option maxRecDepth 100000
structure SeenR (T:Int) (s s' :F5):Prop where
 le:s.2.2.2.2.length<=s'.2.2.2.2.length
 old:∀(i:Nat) (r:bf),s.2.2.2.2[i]? =some r->∃r' :bf,s'.2.2.2.2[i]? =some r' /\r'.1=r.1/\r'.2.1=r.2.1/\r'.2.2.1=r.2.2.1/\r'.2.2.2.1=r.2.2.2.1/\sW r'.2.2.2.2.1 T=sW r.2.2.2.2.1 T/\r'.2.2.2.2.2=r.2.2.2.2.2
 new:∀(i:Nat) (r' :bf),s.2.2.2.2.length<=i->s'.2.2.2.2[i]? =some r' ->sW r'.2.2.2.2.1 T=false
 e1:s'.1=s.1
 e2:s'.2.1=s.2.1
 e3:s'.2.2.1=s.2.2.1
 e4:s'.2.2.2.1=s.2.2.2.1
theorem SeenR.refl(T:Int)(s:F5):SeenR T s s where
 le:=E8 _
 old:=λi r h=>⟨r,h,rfl,rfl,rfl,rfl,rfl,rfl⟩
 new:=λi r' h h' =>by rw[U5 h]at h';cases h'
 e1:=rfl
 e2:=rfl
 e3:=rfl
 e4:=rfl
theorem b2J{on:Nat->Bool}{par par' :Nat->Int}(i:Nat)(h:∀j,j<=i->par' j=par j):DY on par' i=DY on par i:=by
 induction i using Nat.strongRecOn with
 |_ i ih=>
  rw[XE,XE];unfold anc;rw[h i (E8 _)];by_cases g:on i=true
  .rw[if_pos g,if_pos g]
  .rw[if_neg g,if_neg g];by_cases g2:0<=par i/\par i<(i:Int)
   .rw[if_pos g2,if_pos g2];exact ih _ o5 λj hj=>h j o5
   .rw[if_neg g2,if_neg g2]
theorem a8p{on:Nat->Bool}{par par' :Nat->Int}(i:Nat)(h:∀j,j<=i->par' j=par j):anc on par' i=anc on par i:=by
 unfold anc;rw[h i (E8 _)];by_cases g2:0<=par i/\par i<(i:Int)
 .rw[if_pos g2,if_pos g2];exact b2J _ λj hj=>h j o5
 .rw[if_neg g2,if_neg g2]
theorem Zz{on:Nat->Bool}{n:Nat}(hn:∀i,n<=i->on i=false):∀k,onL on (n+k)=onL on n
 |0=>rfl|k+1=>by rw[←ou,Ih,hn _ (jv _ _),Zz hn k];exact G7 _
section
variable {T:Int} {s s' :F5} (h:SeenR T s s')
include h
theorem a4D(d:Int):onR s' d T=onR s d T:=by
 funext i;unfold onR;cases hr:s.2.2.2.2[i]? with
 |some r=>obtain⟨r',e,_,e1,_,_,e2,_⟩:=h.old i r hr;rw[e];simp only;rw[e1,e2]
 |none=>
  cases hr' :s'.2.2.2.2[i]? with
  |none=>rfl|some r' =>simp only;rw[h.new i r' (kC.1 hr) hr'];cases o9 r'.2.1 d<;>rfl
theorem a4B:onA s' T=onA s T:=by
 funext i;unfold onA;cases hr:s.2.2.2.2[i]? with
 |some r=>obtain⟨r',e,_,e1,_,_,e2,_⟩:=h.old i r hr;rw[e];exact e2
 |none=>
  cases hr' :s'.2.2.2.2[i]? with
  |none=>rfl|some r' =>exact h.new i r' (kC.1 hr) hr'
theorem a4X(d:Int):su s' d T=su s d T:=by unfold su;rw[a4D h];obtain⟨k,hk⟩:=Nat.exists_eq_add_of_le h.le;rw[hk];exact Zz (λi hi=>by unfold onR;rw[U5 hi]) k
theorem a6E:uh s' T=uh s T:=by unfold uh;rw[a4B h];obtain⟨k,hk⟩:=Nat.exists_eq_add_of_le h.le;rw[hk];exact Zz (λi hi=>by unfold onA;rw[U5 hi]) k
theorem a0X{j:Nat}(hj:j<s.2.2.2.2.length):BM s' j=BM s j:=by obtain⟨r',e,_,_,e1,_⟩:=h.old j _ (fO hj);unfold BM;rw[e,fO hj];exact e1
theorem a6Y{j:Nat}(hj:j<s.2.2.2.2.length):a0Z s' j=a0Z s j:=by obtain⟨r',e,_,_,_,e1,_⟩:=h.old j _ (fO hj);unfold a0Z;rw[e,fO hj];exact e1
theorem b1f(d:Int):dF s' d T=dF s d T:=by unfold dF;rw[a4X h,a4D h];refine fE rfl (fE (aT λi hi=>a8p i λj hj=>a0X h ?_) (aT λi hi=>a6Y h (zn hi).1));have:=(zn hi).1;omega
theorem b4T:sOn T s' =sOn T s:=by unfold sOn;rw[h.e1,h.e2,h.e3,h.e4,a6E h];refine fE rfl (fE rfl (fE rfl (fE rfl (aT λi hi=>?_))));have hi' :i<s.2.2.2.2.length:=(VF (onA s T) hi).1;obtain⟨r',e,f1,f2,f3,f4,f5,f6⟩:=h.old i _ (fO hi');unfold rOn;rw[e,fO hi',a4B h];simp only;rw[f1,f2,f4,f6,a8p i λj hj=>a0X h o5]
end
theorem a6c{s:F5}{env:dK}{m d:Int}(h0:(dV s env m d).2.1=0)(h1:(dV s env m d).1≠-1)(h2:(dV s env m d).1≠-2):(dV s env m d).1∈(dF s d env.1).1:=by
 unfold dV at*;cases hf:dE (NT s env m d) (dF s d env.1).1 []with
 |inr e=>rw[hf]at h0;exact absurd h0 (xg (NT s env m d) (λr=>r.2.1≠0) YS _ _ _ hf)|inl ap=>
  rw[hf]at h0 h1 h2;simp only at*;have hb:=XN (dF s d env.1).2.1 (dF s d env.1).2.2 ap;have hlo:=a2y (dF s d env.1).2.1 (dF s d env.1).2.2 ap;have hl:=(PR s d env.1).2;generalize KT (dF s d env.1).2.1 (dF s d env.1).2.2 ap=q at*;by_cases g:q<0
  .rw[V7 g]at h1 h2;simp only[o7]at h1 h2;omega
  rw[O6 (gW.1 g)];have hi:q.toNat<(dF s d env.1).1.length:=o5;simp only[o6,zM,fO hi,fD];exact O5 hi
theorem a3A{T:Int}{s s' :F5}(h:SeenR T s s'){a b:dK}{m d:Int}(ha:a.1=T)(hb:b.1=T)
  (hv:∀i∈su s d T,∀r,s.2.2.2.2[i]? =some r->xG r.2.2.2.2.2.1 b=xG r.2.2.2.2.2.1 a/\xG r.2.2.2.2.2.2.1 b=xG r.2.2.2.2.2.2.1 a):Ov s' b m d=Ov s a m d:=by
 have hg:∀i∈(dF s d T).1,∀ap,NT s' b m d ap i=NT s a m d ap i:=λi hi ap=>by obtain⟨k,hk,rfl⟩:=O9.1 (show i∈castL (su s d T)from hi);have hl:=(zn hk).1;obtain⟨r',e,f1,f2,f3,f4,f5,f6⟩:=h.old k _ (fO hl);have hv:=(hv k hk _ (fO hl)).1;unfold NT;rw[I5,I5,e,fO hl];simp only;rw[f6,hv]
 have hc:dV s' b m d=dV s a m d:=by unfold dV;rw[ha,hb,b1f h,OH _ _ hg]
 have hm:=@a6c s a m d;unfold Ov;rw[hc];generalize dV s a m d=q at*;cases h0:o9 q.2.1 0
 .simp only[o6]
 cases h1:o9 q.1 (-1)
 case true=>simp only[o7]
 cases h2:o9 q.1 (-2)
 case true=>simp only[o7,o6]
 have hq:=hm (Z5.1 h0) (λe=>by rw[X0 e]at h1;cases h1) (λe=>by rw[X0 e]at h2;cases h2);rw[ha]at hq;obtain⟨k,hk,hkq⟩:=O9.1 (show q.1∈castL (su s d T)from hq);have hl:=(zn hk).1;obtain⟨r',e,f1,f2,f3,f4,f5,f6⟩:=h.old k _ (fO hl);have hv:=(hv k hk _ (fO hl)).2;rw[←hkq,I5,I5,e,fO hl];simp only[o7,o6];rw[f6,hv]
variable {s:F5}
theorem a9s{env:dK}{m:Int}{V:List V3}{R:d4I}(ht:a1v s (qW s).1)(hf:∀d,0<=d->d<nD s->d∈(qW s).1)(hV:V.length=s.2.2.2.1.length)(hR:R.length=s.2.2.2.1.length)
  (h:∀d,0<=d->d<nD s->∀B:List V3,B.length=s.2.2.2.1.length->(∀x∈U7 s d,G9 B x=G9 V x)->∃v r,Ov s (xu env B) m d= .inl (v,r)/\G9 V d=some v/\G9 R d=some r):
  scS s env m (jI s.2.2.2.1.length)= .inl (V,R):=by
 have key:∀(suf pre:d4I) (B:DB),(qW s).1=pre++suf->B.1.length=s.2.2.2.1.length->B.2.length=s.2.2.2.1.length->(∀x∈pre,G9 B.1 x=G9 V x/\G9 B.2 x=G9 R x)->
   ∃X,dE (scG s env m (jI s.2.2.2.1.length)) suf B= .inl X/\X.1.length=s.2.2.2.1.length/\X.2.length=s.2.2.2.1.length/\∀x∈pre++suf,G9 X.1 x=G9 V x/\G9 X.2 x=G9 R x:=by
  intro suf;induction suf with
  |nil=>intro pre B _ hl hl2 hB;exact⟨B,rfl,hl,hl2,by simpa using hB⟩|cons d suf ih=>
   intro pre B he hl hl2 hB;have hd:d∈(qW s).1:=by rw[he];simp
   obtain⟨d0,d1⟩:=ht.2.1 d hd;obtain⟨v,r,h1,h2,h3⟩:=h d d0 d1 B.1 hl (λx hx=>(hB x (ht.2.2 pre d suf he x hx)).1);have hg:scG s env m (jI s.2.2.2.1.length) B d= .inl (B.1.set d.toNat v,B.2.set d.toNat r):=by unfold scG;rw[w_ d0 (by unfold nD o8 at d1;omega),h1];rfl
   obtain⟨X,x1,x2,x3,x4⟩:=ih (pre++[d]) (B.1.set d.toNat v,B.2.set d.toNat r) (by rw[he];simp) (by simp[hl]) (by simp[hl2]) (λx hx=>by
    by_cases hxd:x=d
    .subst hxd;refine⟨?_,?_⟩
     .show G9 (B.1.set x.toNat v) x=_;rw[Sj _ d0 (by unfold nD at d1;unfold o8 at d1 ⊢;omega),h2]
     .show G9 (B.2.set x.toNat r) x=_;rw[Sj _ d0 (by unfold nD at d1;unfold o8 at d1 ⊢;omega),h3]
    .have hx:x∈pre:=by
      rcases E9.1 hx with hx|hx
      .exact hx
      .exact absurd (by simpa using hx) hxd
     refine⟨?_,?_⟩
     .show G9 (B.1.set d.toNat v) x=_;rw[Hw _ d0 hxd];exact(hB x hx).1
     .show G9 (B.2.set d.toNat r) x=_;rw[Hw _ d0 hxd];exact(hB x hx).2)
   refine⟨X,?_,x2,x3,λx hx=>x4 x (by simpa using hx)⟩;unfold dE;rw[hg];exact x1
 obtain⟨X,x1,x2,x3,x4⟩:=key (qW s).1 [] (List.replicate s.2.2.2.1.length (0,0,0),List.replicate s.2.2.2.1.length 0) rfl A7 A7 A7;have e:X=(V,R):=by
  refine fE ?_ ?_
  .apply ai;intro i;by_cases hi:i<s.2.2.2.1.length
   .have:=(x4 (i:Int) (by simpa using hf (i:Int) o5 (by unfold nD o8;omega))).1;rw[I5,I5]at this;exact this
   .rw[U5 o5,U5 (by simp only;omega)]
  .apply ai;intro i;by_cases hi:i<s.2.2.2.1.length
   .have:=(x4 (i:Int) (by simpa using hf (i:Int) o5 (by unfold nD o8;omega))).2;rw[I5,I5]at this;exact this
   .rw[U5 o5,U5 (by simp only;omega)]
 rw[←e];exact x1
theorem XA{a b:dK}(ha:EvOk a)(hb:EvOk b)(h0:0<=a.1)(h1:a.1<=109572)(he:JC b=JC a)(B:List V3)(e:List (Int×Int)):xG e (xu b B)=xG e (xu a B):=by
 have h:b.1=a.1:=congrArg (·.1) he;rw[←a3G (xF ha B) h0 h1,←a3G (xF hb B) (by show 0<=b.1;rw[h];exact h0) (by show b.1<=109572;rw[h];exact h1)];have:JC (xu b B)=JC (xu a B):=by show xu (JC b) B=xu (JC a) B;rw[he]
 rw[this]
section
variable {T:Int} {s s' :F5} {a b:dK} {m:Int} (hs:SeenR T s s') (hO:OnOk s T) (hO' :OnOk s' T) (hA:EvOk a) (hB:EvOk b) (hT:a.1=T) (he:JC b=JC a)
include hs hO hO' hA hB hT he
theorem a5c{X:DB}(hX:scS s a m (jI s.2.2.2.1.length)= .inl X):scS s' b m (jI s'.2.2.2.1.length)= .inl X:=by
 obtain⟨x1,x2⟩:=UM hX;have hb:b.1=T:=by rw[←hT];exact congrArg (·.1) he
 have h0:0<=a.1:=by rw[hT];exact hO.h0
 have h1:a.1<=109572:=by rw[hT];exact hO.h1
 have hn:nD s' =nD s:=by unfold nD;rw[hs.e4]
 have hl:s'.2.2.2.1.length=s.2.2.2.1.length:=by rw[hs.e4]
 refine a9s (s:=s') (V:=X.1) (R:=X.2) hO'.t1 hO'.f1 o5 o5 (λd d0 d1 D hD hag=>?_);obtain⟨v,r,k1,k2,k3⟩:=b2g hA hO.t1 hX (hO.f1 d d0 o5) (w_ d0 (by rw[hn]at d1;unfold nD o8 at d1;omega)) (hO.r1 d);refine⟨v,r,?_,k1,k2⟩;rw[←k3];refine a3A hs (show(xu a X.1).1=T from hT) (show(xu b D).1=T from hb) (λi hi q hq=>?_);obtain⟨hlt,ho⟩:=zn hi;have hd:q.2.1=d:=by
  unfold onR at ho;rw[hq]at ho;simp only at ho;cases h3:o9 q.2.1 d<;>rw[h3]at ho
  .cases ho
  .exact Z5.1 h3
 obtain⟨r',f0,_,f1,_,_,_,f2⟩:=hs.old i q hq;have hr:∀e,(e=q.2.2.2.2.2.1\/e=q.2.2.2.2.2.2.1)->∀x∈(yI e).2.1,x∈U7 s' d:=λe h=>(hO'.r1 d r' (mM f0) (by rw[f1];exact hd) e (by rw[f2];exact h)).1;have hsim:Sim (λx=>x∈U7 s' d) (λ_=>True) (xu a D) (xu a X.1):=⟨rfl,rfl,rfl,by show D.length=X.1.length;omega,λx hx=>hag x hx,rfl,λ_ _=>rfl⟩;rw[XA hA hB h0 h1 he,XA hA hB h0 h1 he];exact⟨GH hsim (xF hA D) (xF hA X.1) (hr _ (.inl rfl)) (λ_ _=>trivial),GH hsim (xF hA D) (xF hA X.1) (hr _ (.inr rfl)) (λ_ _=>trivial)⟩
theorem a5d{X:DB}(hX:scS s' b m (jI s'.2.2.2.1.length)= .inl X):scS s a m (jI s.2.2.2.1.length)= .inl X:=by
 obtain⟨x1,x2⟩:=UM hX;have hb:b.1=T:=by rw[←hT];exact congrArg (·.1) he
 have h0:0<=a.1:=by rw[hT];exact hO.h0
 have h1:a.1<=109572:=by rw[hT];exact hO.h1
 have hn:nD s' =nD s:=by unfold nD;rw[hs.e4]
 have hl:s'.2.2.2.1.length=s.2.2.2.1.length:=by rw[hs.e4]
 refine a9s (s:=s) (V:=X.1) (R:=X.2) hO.t1 hO.f1 o5 o5 (λd d0 d1 D hD hag=>?_);obtain⟨v,r,k1,k2,k3⟩:=b2g hB hO'.t1 hX (hO'.f1 d d0 o5) (w_ d0 (by unfold nD o8 at d1;omega)) (hO'.r1 d);refine⟨v,r,?_,k1,k2⟩;rw[←k3];refine(a3A hs (show(xu a D).1=T from hT) (show(xu b X.1).1=T from hb) (λi hi q hq=>?_)).symm;obtain⟨hlt,ho⟩:=zn hi;have hd:q.2.1=d:=by
  unfold onR at ho;rw[hq]at ho;simp only at ho;cases h3:o9 q.2.1 d<;>rw[h3]at ho
  .cases ho
  .exact Z5.1 h3
 have hr:∀e,(e=q.2.2.2.2.2.1\/e=q.2.2.2.2.2.2.1)->∀x∈(yI e).2.1,x∈U7 s d:=λe h=>(hO.r1 d q (mM hq) hd e h).1;have hsim:Sim (λx=>x∈U7 s d) (λ_=>True) (xu a X.1) (xu a D):=⟨rfl,rfl,rfl,by show X.1.length=D.length;omega,λx hx=>(hag x hx).symm,rfl,λ_ _=>rfl⟩;rw[XA hA hB h0 h1 he,XA hA hB h0 h1 he];exact⟨GH hsim (xF hA X.1) (xF hA D) (hr _ (.inl rfl)) (λ_ _=>trivial),GH hsim (xF hA X.1) (xF hA D) (hr _ (.inr rfl)) (λ_ _=>trivial)⟩
end
theorem a8Q{l l' :U6}{c:pq}{ms ms' :F5}(hs:SeenR c.1 ms ms')(hO:OnOk ms c.1)(hO' :OnOk ms' c.1)(hT:∀t∈l.2.1,rC t)(hT' :∀t∈l'.2.1,rC t)(ht:l'.2.1.map (tOn c.1)=l.2.1.map (tOn c.1)):∀(L:List (List V3×Nat)) (b:List DB),
  (∃X,dE (mG l c ms (jI ms.2.2.2.1.length)) L b= .inl X/\dE (mG l' c ms' (jI ms'.2.2.2.1.length)) L b= .inl X)\/(∃e e',dE (mG l c ms (jI ms.2.2.2.1.length)) L b= .inr e/\dE (mG l' c ms' (jI ms'.2.2.2.1.length)) L b= .inr e')
 |[],b=> .inl ⟨b,rfl,rfl⟩|a::L,b=>by
  have he:JC (Zl l' c a.1)=JC (Zl l c a.1):=by show(c.1,a.1,[],[],[],l'.2.1.map (tOn c.1))=(c.1,a.1,[],[],[],l.2.1.map (tOn c.1));rw[ht]
  have h1:=@a5c c.1 ms ms' _ _ (a.2:Int) hs hO hO' (TU hT c a.1) (TU hT' c a.1) rfl he;have h2:=@a5d c.1 ms ms' _ _ (a.2:Int) hs hO hO' (TU hT c a.1) (TU hT' c a.1) rfl he;unfold dE mG;cases g:scS ms (Zl l c a.1) (a.2:Int) (jI ms.2.2.2.1.length)with
  |inl x=>rw[h1 g];exact a8Q hs hO hO' hT hT' ht L (b++[x])|inr e=>
   cases g2:scS ms' (Zl l' c a.1) (a.2:Int) (jI ms'.2.2.2.1.length)with
   |inl x' =>rw[h2 g2]at g;cases g|inr e' =>exact .inr ⟨_,_,rfl,rfl⟩
theorem b4n{l l' :U6}{s s' :F5}{c:pq}(hs:SeenR c.1 s s')(hm:SeenR c.1 (dR l s) (dR l' s'))(hO:OnOk s c.1)(hO' :OnOk s' c.1)(hM:OnOk (dR l s) c.1)(hM' :OnOk (dR l' s') c.1)
  (hT:∀t∈l.2.1,rC t) (hT' :∀t∈l'.2.1,rC t) (ht:l'.2.1.map (tOn c.1)=l.2.1.map (tOn c.1)) (hc:c.2.2.length<=1000):
  Xt l' s' c=Xt l s c/\(Xt l s c).2=(0,0,0,0)\/((Xt l s c).2.1≠0/\(Xt l' s' c).2.1≠0/\(Xt l s c).1=([],[],[])/\(Xt l' s' c).1=([],[],[])):=by
 unfold Xt mS;rcases a8Q (l:=l) (l' :=l') (c:=c) hm hM hM' hT hT' ht c.2.2.zipIdx []with⟨b,e1,e2⟩|⟨e,e',e1,e2⟩
 .rw[e1,e2];simp only;have hbl:b.length=c.2.2.length:=a6H (ms:=dR l s) e1;have he:JC (KG l' s' c b)=JC (KG l s c b):=by
   show(c.1,c.2.1,[],b.map (·.1),(dR l' s').2.2.2.1.map (·.2),l'.2.1.map (tOn c.1))=(c.1,c.2.1,[],b.map (·.1),(dR l s).2.2.2.1.map (·.2),l.2.1.map (tOn c.1));rw[ht,hm.e4]
  have h1:=@a5c c.1 s s' _ _ (-1) hs hO hO' (Pi hT s c o5) (Pi hT' s' c o5) rfl he;have h2:=@a5d c.1 s s' _ _ (-1) hs hO hO' (Pi hT s c o5) (Pi hT' s' c o5) rfl he;cases g:scS s (KG l s c b) (-1) (jI s.2.2.2.1.length)with
  |inl x=>rw[h1 g];exact .inl ⟨rfl,rfl⟩|inr e=>
   cases g2:scS s' (KG l' s' c b) (-1) (jI s'.2.2.2.1.length)with
   |inl x' =>rw[h2 g2]at g;cases g|inr e' =>exact .inr ⟨UL g,UL g2,rfl,rfl⟩
 .rw[e1,e2];exact .inr ⟨xg _ (λr=>r.1≠0) b2B _ _ _ e1,xg _ (λr=>r.1≠0) b2B _ _ _ e2,rfl,rfl⟩
end Go.GP
namespace Go.GP
open Gt
set_option maxRecDepth 100000
theorem XY{L:List iH}(n:d4H)(h:L.length<=1000000):yQ L n=some (nmI L (λ(s:iH)=>s.1) n):=by unfold yQ;refine XF L (λ(s:iH)=>s.1) n h (λi a ha=>?_) (by rw[V5];rfl);simp only[V6 ha,o7,I5,ha,x8];cases seq a.1 n<;>rfl
theorem QS{L:List bf}(n:d4H)(h:L.length<=1000000):wW L n=some (nmI L (λ(s:bf)=>s.1) n):=by unfold wW;refine XF L (λ(s:bf)=>s.1) n h (λi a ha=>?_) (by rw[V5];rfl);simp only[V6 ha,o7,I5,ha,x8];cases seq a.1 n<;>rfl
inductive Amd (l:U6) (a:J7):U6->Prop
 |ruleIn (k:Nat) (s:F5) (d p:Int) (hk:l.2.2[k]? =some s):Amd l a (l.1,l.2.1,l.2.2.set k (s.1,s.2.1,s.2.2.1,s.2.2.2.1,s.2.2.2.2++[(a.2.2.2.1,d,p,a.2.2.2.2.2.2.1,(a.2.1,109573),a.2.2.2.2.2.2.2.1,a.2.2.2.2.2.2.2.2.1,a.2.2.2.2.2.2.2.2.2.1)]))
 |ruleOut (k:Nat) (s:F5) (i:Nat) (r:bf) (hk:l.2.2[k]? =some s) (hi:s.2.2.2.2[i]? =some r) (h1:r.2.2.2.2.1.1<a.2.1) (h2:a.2.1<r.2.2.2.2.1.2):Amd l a (l.1,l.2.1,l.2.2.set k (s.1,s.2.1,s.2.2.1,s.2.2.2.1,s.2.2.2.2.set i (r.1,r.2.1,r.2.2.1,r.2.2.2.1,(r.2.2.2.2.1.1,a.2.1),r.2.2.2.2.2)))
 |rowIn (k:Nat) (t:ak) (hk:l.2.1[k]? =some t):Amd l a (l.1,l.2.1.set k (t.1,t.2.1,t.2.2.1,t.2.2.2++[((a.2.1,109573),a.2.2.2.2.2.2.2.2.2.2.2.2)]),l.2.2)
 |rowOut (k:Nat) (t:ak) (i:Nat) (r:lG) (hk:l.2.1[k]? =some t) (hi:t.2.2.2[i]? =some r) (h1:r.1.1<a.2.1) (h2:a.2.1<r.1.2):Amd l a (l.1,l.2.1.set k (t.1,t.2.1,t.2.2.1,t.2.2.2.set i ((r.1.1,a.2.1),r.2)),l.2.2)
theorem KC{α:Type}{L:List α}{k:Nat}{x:α}(h:L[k]? =some x):X8 L (U8 (k:Int))=some x:=by show L[((k:Int)).toNat]? =some x;rw[Y3];exact h
theorem XB{α:Type}{L:List α}{k:Nat}{x:α}(h:L[k]? =some x):inb (k:Int) (o8 L)=true:=by have:=(aO.1 h).1;unfold inb o8;exact decide_eq_true ⟨o5,o5⟩
theorem QJ(k:Nat):U8 (k:Int)=k:=Y3 k
section
variable {l:U6} {a:J7} (h1:l.2.1.length<=100000) (h2:l.2.2.length<=100000) (hs:∀s∈l.2.2,s.2.2.2.1.length<=100000/\s.2.2.2.2.length<=100000) (ht:∀t∈l.2.1,t.2.2.2.length<=100000) (hF:AmF a)
include h2 hs hF in
theorem O_:∃e m,vg l a=some (e,m)/\(e=0->Amd l a m):=by
 have f1:=hF.g;have f2:=hF.v;unfold vg;rw[Rz _ o5,x8];rcases KE l.2.2 (λ(s:F5)=>s.1) a.2.2.1 with h|⟨k,s,h,hk,-,-,hm⟩
 .rw[h,V7 F8,o7];exact⟨_,_,rfl,λh=>absurd h F8⟩
 obtain⟨s1,s2⟩:=hs s hm;have hg:=KC hk;have hno:∀e:Int,e=6->∀m,(e=0->Amd l a m):=λe he m h=>absurd (he.symm.trans h) F8;have hu:∀d p:Int,((0:Int)=0->Amd l a (l.1,l.2.1,aW l.2.2 (U8 (k:Int)) (s.1,s.2.1,s.2.2.1,s.2.2.2.1,s.2.2.2.2++[(a.2.2.2.1,d,p,a.2.2.2.2.2.2.1,(a.2.1,109573),a.2.2.2.2.2.2.2.1,a.2.2.2.2.2.2.2.2.1,a.2.2.2.2.2.2.2.2.2.1)]))):=λd p _=>by rw[QJ];exact Amd.ruleIn k s d p hk
 rw[h,O6 (show(0:Int)<=(k:Int) by omega),o6,XB hk,o7,hg,x8,XY _ o5,x8];generalize nmI s.2.2.2.1 (λ(f:iH)=>f.1) a.2.2.2.2.1=d;cases seq a.2.2.2.2.2.1 []
 .rw[gz,o7,x8,QS _ o5,x8];generalize nmI s.2.2.2.2 (λ(f:bf)=>f.1) a.2.2.2.2.2.1=p;cases E5 d 0
  case true=>rw[o7,x8];exact⟨_,_,rfl,hno _ rfl _⟩
  rw[o6,o7];cases E5 p 0
  case true=>rw[o7,x8];exact⟨_,_,rfl,hno _ rfl _⟩
  rw[o6,VC,o7,FX aH,x8,FX aH,x8,nT _ o5,x8,o7,x8];exact⟨_,_,rfl,hu _ _⟩
 .rw[G6,o6];cases E5 d 0
  case true=>rw[o7];exact⟨_,_,rfl,hno _ rfl _⟩
  rw[o6,o6,x8,FX aH,x8,FX aH,x8,nT _ o5,x8,VC,o7,x8];exact⟨_,_,rfl,hu _ _⟩
include h2 hs in
theorem Z_:∃e m,vC l a=some (e,m)/\(e=0->Amd l a m):=by
 unfold vC;rw[Rz _ o5,x8];rcases KE l.2.2 (λ(s:F5)=>s.1) a.2.2.1 with h|⟨k,s,h,hk,-,-,hm⟩
 .rw[h,V7 F8,o7];exact⟨_,_,rfl,λh=>absurd h F8⟩
 obtain⟨s1,s2⟩:=hs s hm;have hg:=KC hk;rw[h,O6 (show(0:Int)<=(k:Int) by omega),o6,XB hk,o7,hg,x8,QS _ o5,x8];rcases KE s.2.2.2.2 (λ(s:bf)=>s.1) a.2.2.2.1 with h|⟨i,r,h,hi,-,-,hm⟩
 .rw[h,V7 F8,o7,x8];exact⟨_,_,rfl,λh=>absurd h F8⟩
 have hri:=KC hi;rw[h,O6 (show(0:Int)<=(i:Int) by omega),o6,I5,hi,x8,hri,x8];unfold BN;cases g1:E5 r.2.2.2.2.1.1 a.2.1
 .rw[o6,x8,gz,o7,x8];exact⟨_,_,rfl,λh=>absurd h F8⟩
 cases g2:E5 a.2.1 r.2.2.2.2.1.2
 .rw[o7,x8,gz,o7,x8];exact⟨_,_,rfl,λh=>absurd h F8⟩
 rw[o7,x8,G6,o6,x8,x8,x8];refine⟨_,_,rfl,λ_=>?_⟩;rw[QJ,QJ];exact Amd.ruleOut k s i r hk hi (ku.1 g1) (ku.1 g2)
include h1 ht in
theorem a1P:∃e m,wU l a=some (e,m)/\(e=0->Amd l a m):=by
 unfold wU;rw[RD _ o5,x8];rcases KE l.2.1 (λ(s:ak)=>s.1) a.2.2.2.2.2.2.2.2.2.2.1 with h|⟨k,t,h,hk,-,-,hm⟩
 .rw[h,V7 F8,o7];exact⟨_,_,rfl,λh=>absurd h F8⟩
 have t1:=ht t hm;have hg:=KC hk;rw[h,O6 (show(0:Int)<=(k:Int) by omega),o6,XB hk,o7,hg,x8,nT _ o5,x8,o7,VC,o7,x8];refine⟨_,_,rfl,λ_=>?_⟩;rw[QJ];exact Amd.rowIn k t hk
include h1 ht in
theorem a2v:∃e m,wV l a=some (e,m)/\(e=0->Amd l a m):=by
 unfold wV;rw[RD _ o5,x8];rcases KE l.2.1 (λ(s:ak)=>s.1) a.2.2.2.2.2.2.2.2.2.2.1 with h|⟨k,t,h,hk,-,-,hm⟩
 .rw[h,V7 F8,o7];exact⟨_,_,rfl,λh=>absurd h F8⟩
 have t1:=ht t hm;have hg:=KC hk;rw[h,O6 (show(0:Int)<=(k:Int) by omega),o6,XB hk,o7,hg,x8];let pr:Nat->Option (Int×U6):=λi=>match t.2.2.2[i]? with
  |some r=>l7 (o9 r.2.1 a.2.2.2.2.2.2.2.2.2.2.2.2.1) (l7 (o9 r.2.2.1 a.2.2.2.2.2.2.2.2.2.2.2.2.2.1) (l7 (l7 (E5 r.1.1 a.2.1) (E5 a.2.1 r.1.2) false) (some (0,l.1,aW l.2.1 (U8 (k:Int)) (t.1,t.2.1,t.2.2.1,aW t.2.2.2 i ((r.1.1,a.2.1),r.2)),l.2.2)) none) none) none|none=>none
 rw[vJ (p:=pr) t.2.2.2.length o5 PUnit.unit (λi hi=>?_) (by rw[V5];rfl)]
 .rw[x8];cases hf:ae t.2.2.2.length pr with
  |none=>simp only[aj];exact⟨_,_,rfl,λh=>absurd h F8⟩|some x=>
   simp only[Iy];refine⟨_,_,rfl,λ_=>?_⟩;obtain⟨i,hi,hp⟩:=gZ hf;have hri:t.2.2.2[i]? =some t.2.2.2[i]:=fO hi;simp only[pr]at hp;rw[hri]at hp;simp only at hp;cases g1:o9 t.2.2.2[i].2.1 a.2.2.2.2.2.2.2.2.2.2.2.2.1<;>rw[g1]at hp
   .cases hp
   cases g2:o9 t.2.2.2[i].2.2.1 a.2.2.2.2.2.2.2.2.2.2.2.2.2.1<;>rw[g2]at hp
   .cases hp
   cases g3:E5 t.2.2.2[i].1.1 a.2.1<;>rw[g3]at hp
   .cases hp
   cases g4:E5 a.2.1 t.2.2.2[i].1.2<;>rw[g4]at hp
   .cases hp
   cases hp;rw[QJ];exact Amd.rowOut k t i _ hk hri (ku.1 g3) (ku.1 g4)
 .have hri:t.2.2.2[i]? =some t.2.2.2[i]:=fO hi;simp only[pr];rw[V6 hri,o7,I5,hri,x8,KC hri,x8];unfold BN;simp only;cases o9 t.2.2.2[i].2.1 a.2.2.2.2.2.2.2.2.2.2.2.2.1
  .rfl
  cases o9 t.2.2.2[i].2.2.1 a.2.2.2.2.2.2.2.2.2.2.2.2.2.1
  .rfl
  cases E5 t.2.2.2[i].1.1 a.2.1
  .rfl
  cases E5 a.2.1 t.2.2.2[i].1.2
  .rfl
  rw[o7,o7,o7,x8,o7,x8,x8,x8,QJ i];rfl
end
end Go.GP
namespace Go.GP
open Gt
set_option maxRecDepth 100000
theorem EI{α:Type} :∀(l p:List α),l.foldl (λb a=>b++[a]) p=p++l
 |[],p=>by simp|a::l,p=>by rw[dA,EI l];simp
theorem Gy{α:Type}{l:List α}(h:l.length<=1000000):jd l=some l:=by unfold jd;rw[FX aH,J9]
theorem Yv{a:List dI}(h:a.length<=1000000)(h2:∀e∈a,e.2.length<=1000000):yA a=some a:=by
 unfold yA;refine yB a (λ(b:List dI) x=>b++[x]) (λb i=>(b,i)) (λb=>b) (λi b=>b.length=i) [] h rfl (λi x b hx hi hb=>⟨?_,by simp[hb]⟩) (λb hb=>?_) (λhb=>?_)
 .simp only[V6 hx,o7,I5,hx,x8];rw[Gy (h2 x (mM hx)),x8,nT _ o5,x8,iy o5]
 .simp only[V5,o6]
 .rw[EI,J9]
theorem Xm{a:List ak}(h:a.length<=1000000)(h2:∀e∈a,e.2.2.2.length<=1000000):Aj a=some a:=by
 unfold Aj;refine yB a (λ(b:List ak) x=>b++[x]) (λb i=>(b,i)) (λb=>b) (λi b=>b.length=i) [] h rfl (λi x b hx hi hb=>⟨?_,by simp[hb]⟩) (λb hb=>?_) (λhb=>?_)
 .simp only[V6 hx,o7,I5,hx,x8];rw[Gy (h2 x (mM hx)),x8,nT _ o5,x8,iy o5]
 .simp only[V5,o6]
 .rw[EI,J9]
variable {l:U6}
theorem a6e(h:LenL l):Kw l=some l:=by
 unfold Kw;rw[Yv h.e.1 h.e.2,x8,Xm h.t.1 h.t.2,x8];refine yB l.2.2 (λ(b:List F5) x=>b++[x]) (λb i=>((l.1,l.2.1,b),i)) (λb=>(l.1,l.2.1,b)) (λi b=>b.length=i) [] h.s.1 rfl (λi x b hx hi hb=>⟨?_,by simp[hb]⟩) (λb hb=>?_) (λhb=>?_)
 .obtain⟨g1,g2,g3,g4⟩:=h.s.2 x (mM hx);simp only[V6 hx,o7,I5,hx,x8];rw[Gy g1,x8,Gy g2,x8];refine yB x.2.2.2.2 (λ(b:List bf) x=>b++[x]) (λb i=>((x.1,x.2.1,x.2.2.1,x.2.2.2.1,b),i)) (λb=>(x.1,x.2.1,x.2.2.1,x.2.2.2.1,b)) (λi b=>b.length=i) [] g3 rfl (λi y b hy hi hb=>⟨?_,by simp[hb]⟩) (λb hb=>?_) (λhb=>?_)
  .obtain⟨k1,k2⟩:=g4 y (mM hy);simp only[V6 hy,o7,I5,hy,x8];rw[Gy k1,x8,Gy k2,x8,nT _ o5,x8,iy o5]
  .simp only[V5,o6]
  .rw[EI,J9,nT _ o5,x8,iy o5]
 .simp only[V5,o6]
 .rw[EI,J9]
variable {m:U6}{a:J7}
theorem b1C(h:Amd l a m)(hS:SmL l)(hF:AmF a)(hw:AmW a):SwL m:=by
 have hW:=hS.w;cases h with
 |ruleIn k s d p hk=>
  refine⟨⟨hW.few.1,hW.few.2.1,by show(l.2.2.set k _).length<=_;rw[eH];exact hW.few.2.2⟩,hW.en,hW.tb,λs' hs' =>?_⟩;rcases bK hs' with hs'|rfl
  .exact hW.sc s' hs'
  have hs:=mM hk;have hm:=hW.sc s hs;have hr:=(hS.sc s hs).nr;refine⟨hm.nm,hm.ni,hm.nd,?_,hm.fo,λr hr=>?_⟩
  .show(s.2.2.2.2++_).length<=_;rw[I9];simp only[gB];omega
  .rcases E9.1 hr with hr|hr
   .exact hm.ro r hr
   .rw[X5.1 hr];exact⟨hw.n,by have:=hF.s;show a.2.2.2.2.2.2.2.2.2.1.length<=1000000;omega,hw.g,hw.v⟩
 |ruleOut k s i r hk hi g1 g2=>
  refine⟨⟨hW.few.1,hW.few.2.1,by show(l.2.2.set k _).length<=_;rw[eH];exact hW.few.2.2⟩,hW.en,hW.tb,λs' hs' =>?_⟩;rcases bK hs' with hs'|rfl
  .exact hW.sc s' hs'
  have hs:=mM hk;have hm:=hW.sc s hs;refine⟨hm.nm,hm.ni,hm.nd,by show(s.2.2.2.2.set i _).length<=_;rw[eH];exact hm.nr,hm.fo,λr' hr=>?_⟩;rcases bK hr with hr|rfl
  .exact hm.ro r' hr
  .exact hm.ro r (mM hi)
 |rowIn k t hk=>
  refine⟨⟨hW.few.1,by show(l.2.1.set k _).length<=_;rw[eH];exact hW.few.2.1,hW.few.2.2⟩,hW.en,λt' ht' =>?_,hW.sc⟩;rcases bK ht' with ht'|rfl
  .exact hW.tb t' ht'
  .exact hW.tb t (mM hk)
 |rowOut k t i r hk hi g1 g2=>
  refine⟨⟨hW.few.1,by show(l.2.1.set k _).length<=_;rw[eH];exact hW.few.2.1,hW.few.2.2⟩,hW.en,λt' ht' =>?_,hW.sc⟩;rcases bK ht' with ht'|rfl
  .exact hW.tb t' ht'
  .exact hW.tb t (mM hk)
theorem b1A(h:Amd l a m)(hT:∀t∈l.2.1,rC t)(hw:AmW a)(hv:(eX m).1=0):∀t∈m.2.1,rC t:=by
 have key:∀t∈m.2.1,∀r∈t.2.2.2,a3c r:=by
  cases h with
  |ruleIn k s d p hk=>exact λt ht=>(hT t ht).2
  |ruleOut k s i r hk hi g1 g2=>exact λt ht=>(hT t ht).2|rowIn k t hk=>
   intro t' ht';rcases bK ht' with ht'|rfl
   .exact(hT t' ht').2
   intro r hr;rcases E9.1 hr with hr|hr
   .exact(hT t (mM hk)).2 r hr
   .rw[X5.1 hr];exact⟨hw.lo,hw.hi,hw.rn⟩
  |rowOut k t i r hk hi g1 g2=>
   intro t' ht';rcases bK ht' with ht'|rfl
   .exact(hT t' ht').2
   intro r' hr;have hT:=hT t (mM hk);rcases bK hr with hr|rfl
   .exact hT.2 r' hr
   .exact hT.2 r (mM hi)
 intro t ht;obtain⟨i,hi⟩:=b8A ht;have:=((a1p hv).2 i t hi).le;exact⟨o5,key t ht⟩
theorem b1q{z:Int}(h1:1<=z)(h2:z<=4):z=1\/z=2\/z=3\/z=4:=o5
theorem Yb(hS:SmL l)(hl:(eX l).1=0->LenL l)(hT:∀t∈l.2.1,rC t)(hF:AmF a)(hw:AmW a):
  ∃m e,Bd l a=some (m,e)/\(e=0->(eX l).1=0/\a.2.1<=109572/\Amd l a m/\(eX m).1=0):=by
 have hno:∀e:Int,e≠0->∀m:U6,(e=0->(eX l).1=0/\a.2.1<=109572/\Amd l a m/\(eX m).1=0):=λe he m h=>absurd h he;unfold Bd;rw[Nb hS.w,x8];cases hz:fG (o9 (eX l).1 0) (fG (o9 (eX l).2.1 0) (fG (o9 (eX l).2.2.1 0) (o9 (eX l).2.2.2 0)))
 .exact⟨_,_,rfl,hno _ F8 _⟩
 have hv:(eX l).1=0:=by
  cases g:o9 (eX l).1 0
  .rw[g]at hz;cases hz
  .exact Z5.1 g
 rw[G6,o6];unfold DD;cases g1:E5 a.1 1
 case true=>exact⟨_,_,rfl,hno _ F8 _⟩
 cases g2:E5 4 a.1
 case true=>exact⟨_,_,rfl,hno _ F8 _⟩
 simp only[o6,x8,aj];cases g3:E5 a.2.1 0
 case true=>exact⟨_,_,rfl,hno _ F8 _⟩
 cases g4:E5 109572 a.2.1
 case true=>exact⟨_,_,rfl,hno _ F8 _⟩
 simp only[o6,x8,aj];rw[a6e (hl hv),x8];have hd:a.2.1<=109572:=by rw[gU]at g4;exact g4
 have h1:l.2.1.length<=100000:=hS.few.2.1;have h2:l.2.2.length<=100000:=hS.few.2.2;have hs:∀s∈l.2.2,s.2.2.2.1.length<=100000/\s.2.2.2.2.length<=100000:=λs h=>⟨by have:=(hS.sc s h).nd;omega,by have:=(hS.sc s h).nr;omega⟩;have ht:∀t∈l.2.1,t.2.2.2.length<=100000:=λt h=>by have:=(hT t h).1;omega
 have key:∃e m,(l7 (o9 a.1 1) (l9 (vg l a) λ(x:Int×U6)=>some (x.2,x.1)) (l7 (o9 a.1 2) (l9 (vC l a) λ(x:Int×U6)=>some (x.2,x.1))
   (l7 (o9 a.1 3) (l9 (wU l a) λ(x:Int×U6)=>some (x.2,x.1)) (l7 (o9 a.1 4) (l9 (wV l a) λ(x:Int×U6)=>some (x.2,x.1)) (some (l,0))))))=some (m,e)/\(e=0->Amd l a m):=by
  cases k1:o9 a.1 1
  case true=>obtain⟨e,m,q1,q2⟩:=O_ h2 hs hF;rw[q1];exact⟨e,m,rfl,q2⟩
  cases k2:o9 a.1 2
  case true=>obtain⟨e,m,q1,q2⟩:=Z_ (a:=a) h2 hs;rw[q1];exact⟨e,m,rfl,q2⟩
  cases k3:o9 a.1 3
  case true=>obtain⟨e,m,q1,q2⟩:=a1P (a:=a) h1 ht;rw[q1];exact⟨e,m,rfl,q2⟩
  cases k4:o9 a.1 4
  case true=>obtain⟨e,m,q1,q2⟩:=a2v (a:=a) h1 ht;rw[q1];exact⟨e,m,rfl,q2⟩
  exfalso;have e1:a.1≠1:=λh=>by rw[X0 h]at k1;cases k1
  have e2:a.1≠2:=λh=>by rw[X0 h]at k2;cases k2
  have e3:a.1≠3:=λh=>by rw[X0 h]at k3;cases k3
  have e4:a.1≠4:=λh=>by rw[X0 h]at k4;cases k4
  rw[gU]at g1 g2;generalize a.1=z at*;have z1:(1:Int)<=z:=g1;have z2:z<=(4:Int):=g2;clear g1 g2;have:z=1\/z=2\/z=3\/z=4:=by revert z1 z2;show(1:Int)<=(z:Int)->(z:Int)<=4->_;exact λz1 z2=>b1q z1 z2
  rcases this with h|h|h|h
  .exact e1 h
  .exact e2 h
  .exact e3 h
  .exact e4 h
 obtain⟨e,m,q1,q2⟩:=key;rw[q1,x8];cases k:o9 e 0
 .simp only[gz,o7,o6];exact⟨_,_,rfl,hno _ (λh=>by rw[X0 h]at k;cases k) _⟩
 have hA:=q2 (Z5.1 k);simp only[o7];rw[Nb (b1C hA hS hF hw),x8];cases kv:o9 (eX m).1 0
 .simp only[gz,o7];exact⟨_,_,rfl,hno _ (λh=>by rw[X0 h]at kv;cases kv) _⟩
 simp only[G6,o6];exact⟨_,_,rfl,λ_=>⟨hv,hd,hA,Z5.1 kv⟩⟩
theorem a8O(hv:(eX l).1=0)(hL:SmL l)(hT:∀t∈l.2.1,rC t):LenL l where
 e:=⟨by have:=hL.few.1;omega,λe he=>by have:=Td hv e he;omega⟩
 t:=⟨by have:=hL.few.2.1;omega,λt ht=>by have:=(hT t ht).1;omega⟩
 s:=⟨by have:=hL.few.2.2;omega,λs hs=>⟨by have:=(hL.sc s hs).ni;omega,by have:=(hL.sc s hs).nd;omega,by have:=(hL.sc s hs).nr;omega,λr hr=>⟨by have:=((hL.sc s hs).ro r hr).2.1;omega,by have:=((hL.sc s hs).ro r hr).2.2;omega⟩⟩⟩
theorem a3z{d T e:Int}(h:T<d):sW (d,e) T=false:=by unfold sW;rw[aA (show T<d from h)];cases zI (d,e)<;>rfl
theorem a3x{f e d T:Int}(hv:zI (f,e)=true)(h1:f<d)(h2:d<e)(hT:T<d):sW (f,d) T=sW (f,e) T:=by
 have hd:zI (f,d)=true:=by
  unfold zI at hv ⊢;cases g1:J8 0 f<;>rw[g1]at hv
  .cases hv
  cases g2:J8 f e<;>rw[g2]at hv
  .cases hv
  have g3:e<=109573:=sK.1 hv;simp only;rw[af (show f<=d by omega),af (show d<=109573 by omega)];rfl
 unfold sW;rw[hv,hd,V7 hT,V7 (show T<e by omega)]
theorem a3K{α β:Type}{c:α->Bool}{g:α->β} :∀(L:List α) (i:Nat) (r r' :α),L[i]? =some r->c r' =c r->g r' =g r->((L.set i r').filter c).map g=(L.filter c).map g
 |[],i,r,r',h,_,_=>by simp at h|x::L,0,r,r',h,hc,hg=>by simp only[ji,H7]at h;subst h;show((r' ::L).filter c).map g=_;rw[Y7,Y7,hc];cases c x<;>simp[hg]|x::L,i+1,r,r',h,hc,hg=>by have ih:=a3K L i r r' (by simpa using h) hc hg;show((x::L.set i r').filter c).map g=_;rw[Y7,Y7];cases c x<;>simp[ih]
theorem TW{α β:Type}{f:α->β}{L:List α}{k:Nat}{t t' :α}(h:L[k]? =some t)(he:f t' =f t):(L.set k t').map f=L.map f:=by
 apply ai;intro i;rw[S9,S9];by_cases hk:k=i
 .subst hk;rw[iE (aO.1 h).1,h];exact congrArg some he
 .rw[nJ hk]
structure SeenL (T:Int) (l m:U6):Prop where
 e:m.1=l.1
 t:m.2.1.map (tOn T)=l.2.1.map (tOn T)
 len:m.2.2.length=l.2.2.length
 s:∀(k:Nat) (s:F5),l.2.2[k]? =some s->∃s' :F5,m.2.2[k]? =some s' /\SeenR T s s'
variable {T:Int}
theorem b4W{L:List F5}{k:Nat}{s s' :F5}(hk:L[k]? =some s)(h:SeenR T s s'):∀(j:Nat) (q:F5),L[j]? =some q->∃q' :F5,(L.set k s')[j]? =some q' /\SeenR T q q' :=by
 intro j q hj;by_cases hkj:k=j
 .subst hkj;rw[hk]at hj;cases hj;exact⟨s',iE (aO.1 hk).1,h⟩
 .exact⟨q,by rw[nJ hkj];exact hj,SeenR.refl T q⟩
theorem b1B(h:Amd l a m)(hv:(eX l).1=0)(hT:T<a.2.1):SeenL T l m:=by
 cases h with
 |ruleIn k s d p hk=>
  refine⟨rfl,rfl,eH,b4W hk ⟨?_,λi r hi=>⟨r,?_,rfl,rfl,rfl,rfl,rfl,rfl⟩,λi r' hi hr=>?_,rfl,rfl,rfl,rfl⟩⟩
  .show s.2.2.2.2.length<=(s.2.2.2.2++_).length;rw[I9];omega
  .show(s.2.2.2.2++_)[i]? =some r;rw[N8 (aO.1 hi).1];exact hi
  .have hr:(s.2.2.2.2++_)[i]? =some r' :=hr;rw[H5 hi]at hr;rw[X5.1 (mM hr)];exact a3z hT
 |ruleOut k s i r hk hi g1 g2=>
  have hlt:=(aO.1 hi).1;have hdv:=(((a1o hv).2 k s hk).rules i r hi).dv;refine⟨rfl,rfl,eH,b4W hk ⟨?_,λj q hj=>?_,λj r' hj hr=>?_,rfl,rfl,rfl,rfl⟩⟩
  .show s.2.2.2.2.length<=(s.2.2.2.2.set i _).length;rw[eH];exact E8 _
  .by_cases hij:i=j
   .subst hij;rw[hi]at hj;cases hj;exact⟨_,iE hlt,rfl,rfl,rfl,rfl,a3x hdv g1 g2 hT,rfl⟩
   .exact⟨q,(nJ hij).trans hj,rfl,rfl,rfl,rfl,rfl,rfl⟩
  .have hr:(s.2.2.2.2.set i _)[j]? =some r' :=hr;rw[U5 (by rw[eH];exact hj)]at hr;cases hr
 |rowIn k t hk=>refine⟨rfl,TW hk ?_,rfl,λk s hs=>⟨s,hs,SeenR.refl T s⟩⟩;show(t.1,t.2.1,t.2.2.1,((t.2.2.2++[((a.2.1,109573),a.2.2.2.2.2.2.2.2.2.2.2.2)]).filter λ(r:lG)=>sW r.1 T).map λ(r:lG)=>(xU,r.2))=tOn T t;unfold tOn;rw[lT,Y7,a3z hT];simp|rowOut k t i r hk hi g1 g2=>refine⟨rfl,TW hk ?_,rfl,λk s hs=>⟨s,hs,SeenR.refl T s⟩⟩;have hdv:=(((a1p hv).2 k t hk).rows r (mM hi)).dv;refine fE rfl (fE rfl (fE rfl ?_));exact a3K (c:=λ(r:lG)=>sW r.1 T) (g:=λ(r:lG)=>(xU,r.2)) t.2.2.2 i r _ hi (a3x hdv g1 g2 hT) rfl
theorem a4a(h:SeenL T l m):lOn T m=lOn T l:=by
 unfold lOn;refine fE h.e (fE h.t ?_);show m.2.2.map (sOn T)=l.2.2.map (sOn T);apply ai;intro i;rw[S9,S9];cases hs:l.2.2[i]? with
 |some s=>obtain⟨s',e,hss⟩:=h.s i s hs;rw[e];exact congrArg some (b4T hss)
 |none=>have:=kC.1 hs;rw[U5 (by rw[h.len];exact this)]
theorem Zf(h:SeenL T l m)(k:Int):(G9 l.2.2 k=none/\G9 m.2.2 k=none)\/∃s s' :F5,G9 l.2.2 k=some s/\G9 m.2.2 k=some s' /\SeenR T s s' :=by
 unfold G9
 by_cases h0:0<=k
 .rw[if_pos h0,if_pos h0];cases hs:l.2.2[k.toNat]? with
  |some s=>obtain⟨s',e,hss⟩:=h.s _ s hs;exact .inr ⟨s,s',rfl,e,hss⟩
  |none=>have:=kC.1 hs;exact .inl ⟨rfl,U5 (by rw[h.len];exact this)⟩
 .rw[if_neg h0,if_neg h0];exact .inl ⟨rfl,rfl⟩
theorem a9L(h:SeenL T l m)(hv:(eX l).1=0)(hv' :(eX m).1=0)(k:Int)(c:pq):Vb m k c false 0=Vb l k c false 0:=by
 have hc:IP m k c=IP l k c:=by rw[←a8y m k c T,a4a h,a8y]
 unfold Vb;rw[X0 hv,X0 hv',hc];rcases Zf h k with⟨e1,e2⟩|⟨s,s',e1,e2,_⟩<;>rw[e1,e2]<;>rfl
theorem a6J(h:SeenL T l m){s s' :F5}(hs:SeenR T s s'):SeenR T (dR l s) (dR m s'):=by
 unfold dR;rw[hs.e2];cases J8 0 s.2.1
 .exact SeenR.refl T sV
 rcases Zf h s.2.1 with⟨e1,e2⟩|⟨q,q',e1,e2,hq⟩
 .rw[e1,e2];exact SeenR.refl T sV
 .rw[e1,e2];exact hq
variable {s:F5}
theorem a4C(hL:SmL l)(h:(eX l).1=0){k:Int}(hs:G9 l.2.2 k=some s)(d0:0<=T)(d1:T<=109572):OnOk (dR l s) T:=by
 rcases PS h hs with⟨_,_,g⟩|⟨_,_,_,g,_⟩
 .rw[g];exact b0z d0 d1
 .exact a2a hL h g d0 d1
theorem a0r(b:Bool):jY b b=true:=by cases b<;>rfl
theorem a9o:EO ([],[],[]) ([],[],[])=some true:=Xb ⟨A7,A7,A7,A7⟩
theorem P_{k:Int}{c:pq}(hW:WfL l)(hw:AmW a):yx l a k c=some true:=by
 unfold yx;rw[a5g,x8];simp only[a5Q,x8];cases h1:smL l
 case false=>rfl
 obtain⟨hL,hT⟩:=c0Q h1 hW;simp only[G6,o6];obtain⟨b,hb,hb2⟩:=b9C [a];rw[hb,x8];cases b with
 |false=>rfl|true=>
  have hF:=(hb2 rfl).2 a (X5.2 rfl);simp only[G6,o6];rw[a2C,x8];cases h3:smC c
  case false=>rfl
  have hC:=c0P h3;simp only[G6,o6,x8,aj];obtain⟨m,e,hA,hA2⟩:=Yb hL (λhv=>a8O hv hL hT) hT hF hw;rw[hA,x8];simp only;cases ke:o9 e 0
  .rfl
  obtain⟨hv,hd,hAm,hv'⟩:=hA2 (Z5.1 ke);cases kd:J8 a.2.1 c.1
  case true=>rfl
  cases k0:E5 c.1 0
  case true=>rfl
  have hc1:c.1<a.2.1:=Fa.1 kd;have hM:=d1I (b1C hAm hL hF hw) hv';have hT' :=b1A hAm hT hw hv';have hS:=b1B hAm hv hc1;have hT2:∀t∈(lOn c.1 l).2.1,rC t:=λt ht=>by obtain⟨q,hq,rfl⟩:=O9.1 (show t∈l.2.1.map (tOn c.1)from ht);exact VQ (hT q hq) c.1
  simp only[G6,o6,x8,aj];rw[a4b hL hT (λe he=>by have:=Td hv e he;omega) c.1,x8,a4b hM hT' (λe he=>by have:=Td hv' e he;omega) c.1,x8,a4a hS,
   a0b (a8O (a5F hv c.1) (c0R hL c.1) hT2),x8]
  simp only[G6,o6];rw[b4m hL hC hT,x8,b4m hM hC hT',x8,a9L hS hv hv'];by_cases hA:(Vb l k c false 0).1=0
  .rw[if_pos hA,if_pos hA];obtain⟨d0,d1⟩:=a9K hA;obtain⟨-,s,hs⟩:=Vd hA;rcases Zf hS k with⟨e1,_⟩|⟨q,s',e1,e2,hss⟩
   .rw[e1]at hs;cases hs
   rw[e1]at hs;cases hs;rw[e1,e2];simp only;rcases b4n hss (a6J hS hss) (a2a hL hv e1 d0 d1) (a2a hM hv' e2 d0 d1) (a4C hL hv e1 d0 d1) (a4C hM hv' e2 d0 d1) hT hT' hS.t hC.nm with⟨q1,q2⟩|⟨q1,q2,q3,q4⟩
   .rw[q1,Xb (b4l (hL.sc _ (rq e1).2.2.1) (a4n hL hv e1) hC),x8,o7,a0r,o7]
   .rw[q3,q4,a9o,x8,o7,U2 q1,U2 q2];rfl
  .rw[if_neg hA,if_neg hA];simp only;rw[a9o,x8,o7,a0r,o7]
end Go.GP
namespace Go.GP
open Gt
theorem QN:∀x,a5I Gt.ps5 x->(Gt.s5.fn x:d4L)=some true:=λx h=>P_ (l:=x.1) (a:=x.2.1) (k:=x.2.2.1) (c:=x.2.2.2) (d1M h.1) (d4F h.2.1)
end Go.GP
