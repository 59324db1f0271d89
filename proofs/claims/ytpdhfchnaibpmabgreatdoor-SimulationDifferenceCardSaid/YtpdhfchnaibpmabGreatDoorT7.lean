import Derived.Test.YtpdhfchnaibpmabGreatDoorT4
import Derived.Test.YtpdhfchnaibpmabGreatDoorT6
set_option linter.all false
namespace Go.GP
open Gt
set_option maxRecDepth 100000
section
abbrev eqN:bQ->bQ->Bool:=λa b=>V9 (seq a.1 b.1) (seq a.2 b.2)
abbrev Um:=List (bQ×Bool)
variable {s:A8}
theorem ZY(hS:SmS s)(L:Um){D:c9h}(hD:D.length<=1000000):∃L',tq L s D=some L' :=by
 have hn:=hS.nr;refine⟨s.2.2.2.2.foldl (λ(acc:Um) r=>l7 (oQ (λ(a b:Int)=>x8 a b) (D.foldl (λ(acc:List (Int×Bool)) d=>AU (λ(a b:Int)=>x8 a b) acc d true) []) r.2.1 false) (AU (λ(a b:bQ)=>V9 (seq a.1 b.1) (seq a.2 b.2)) acc (s.1,r.1) true) acc) L,?_⟩;unfold tq;refine aO D (λ(acc:List (Int×Bool)) d=>AU (λ(a b:Int)=>x8 a b) acc d true) (λb i=>(b,i)) (λb=>b) (λ_ _=>True) [] hD trivial (λi d acc hd hi _=>⟨?_,trivial⟩) (λacc _=>?_) (λ_=>?_)
 .simp only[H5 hd,o7,F5,hd,o8,Z5 (show i<=9000000000000000000 by omega)]
 .simp only[G7];rfl
 refine aO s.2.2.2.2 (λ(acc:Um) r=>l7 (oQ (λ(a b:Int)=>x8 a b) (D.foldl (λ(acc:List (Int×Bool)) d=>AU (λ(a b:Int)=>x8 a b) acc d true) []) r.2.1 false) (AU (λ(a b:bQ)=>V9 (seq a.1 b.1) (seq a.2 b.2)) acc (s.1,r.1) true) acc) (λb i=>(b,i)) (λb=>b) (λ_ _=>True) L l9 trivial (λi r acc hr hi _=>⟨?_,trivial⟩) (λacc _=>?_) (λ_=>rfl)
 .simp only[H5 hr,o7,F5,hr,o8,Z5 (show i<=9000000000000000000 by omega)];cases oQ (λ(a b:Int)=>x8 a b) (D.foldl (λ(acc:List (Int×Bool)) d=>AU (λ(a b:Int)=>x8 a b) acc d true) []) r.2.1 false<;>rfl
 .simp only[G7];rfl
variable {k:Int}{d:Int}{l:S9}
theorem YE(hL:SmL l)(hv:(dK l).1=0)(hs:F9 l.2.2 k=some s)(h0:0<=d)(h1:d<nD s):∃L,lM l k d=some L:=by
 have hk:=cO hs;have hS:=hL.sc s hk.2.2.1;have ht:=sS hS d;obtain⟨L1,hL1⟩:=ZY hS [] (D:=aB s d++[d]) (by rw[E8];simp;omega);unfold lM;rw[hs,o8,vV hS h0 h1,o8,yg Y2,o8,hL1,o8];rcases vk hv hs with⟨g1,g2,g3⟩|⟨g1,g2,g3,g4,g5⟩
 .rw[g2];exact⟨L1,rfl⟩
 .rw[g2,g3];simp only[o6,o8,L6];have hM:=hL.sc _ g5;have hml:=Rw hS d;rw[g4,o8,KU hS h0 h1,o8];obtain⟨L2,hL2⟩:=ZY hM L1 (D:=(mbS s d).foldl (λ(acc:c9h) x=>acc++[x]++aB (Y6 l s) x) []) (by
   rw[show(λ(acc:c9h) x=>acc++[x]++aB (Y6 l s) x)=(λ(acc:c9h) x=>acc++([x]++aB (Y6 l s) x)) by funext acc x;rw[F8]];rw[wO,H9];have:=pX (λx=>[x]++aB (Y6 l s) x) 15 (l:=mbS s d) (λx _=>by have:=sS hM x;rw[E8];simp;omega);omega)
  refine⟨L2,?_⟩;refine aO (mbS s d) (λ(acc:c9h) x=>acc++[x]++aB (Y6 l s) x) (λb i=>(b,i)) (λb=>b) (λi acc=>acc.length<=15*i) [] l9 x9 (λi x acc hx hi hI=>?_) (λacc _=>?_) (λ_=>?_)
  .have hlt:=(V6.1 hx).1;have hin:=WQ hv hk.2.2.2 d x (iL hx);have htm:=sS hM x;have hg:O8 (mbS s d) (U6 (i:Int))=some x:=by unfold O8 U6;simpa using hx
   refine⟨?_,by simp only[E8,dE];omega⟩;simp only[H5 hx,o7,F5,hx,o8,hg];rw[yg Y2,o8,vV hM hin.1 hin.2,o8,yg Y2,o8,Z5 (show i<=9000000000000000000 by omega)]
  .simp only[G7];rfl
  .rw[hL2];rfl
def edS(l:S9)(k:Int)(c:dI)(d:Int):V3×Int×E4:=if(Gf l k c true d).1=0 then(match F9 l.2.2 k with|some s=>a3E l s c d|none=>((0,0,0),0,0,0,0,0))else((0,0,0),0,Gf l k c true d)
variable {c:dI}
theorem b8F(h:(edS l k c d).2.2.1≠0):(edS l k c d).1=(0,0,0):=by
 unfold edS at h ⊢;split
 .rename_i hA;rw[if_pos hA]at h;cases hs:F9 l.2.2 k with
  |none=>rfl|some s=>
   rw[hs]at h;simp only at h ⊢;unfold a3E at h ⊢;revert h;generalize TF l s c (Le s (xE s.2.2.2.1.length) d) (EY (Y6 l s) (xE (Y6 l s).2.2.2.1.length) (mbS s d))=z;intro h;cases z with
   |inl x=>exact absurd (show(0:Int)=0 from rfl) h|inr e=>rfl
 .rfl
def evS(l:S9)(k:Int)(c:dI)(d:Int):V3×Int:=l7 (D9 (x8 (edS l k c d).2.2.1 0)) ((0,0,0),(edS l k c d).2.2.1) ((edS l k c d).1,0)
theorem a8p(l:S9)(k:Int)(c:dI)(d:Int):evS l k c d=((edS l k c d).1,(edS l k c d).2.2.1):=by
 unfold evS;by_cases h:(edS l k c d).2.2.1=0
 .rw[J7 h,h];rfl
 .rw[J6 h,b8F h];rfl
theorem Ia(hL:SmL l)(hC:SmC c)(hT:∀t∈l.2.1,kR t):yf l k c d=some (evS l k c d):=by unfold yf evS;rw[a8q hL hC hT,o8];show l7 (D9 (x8 (edS l k c d).2.2.1 0)) (some ((0,0,0),(edS l k c d).2.2.1)) (some ((edS l k c d).1,0))=_;cases D9 (x8 (edS l k c d).2.2.1 0)<;>rfl
abbrev zI:X4:=((0,0,0),(0,0,0),0,0,[])
def b1v(e:Int×Int×Int×Int):Bool:=V9 (x8 e.1 0) (V9 (x8 e.2.1 0) (V9 (x8 e.2.2.1 0) (x8 e.2.2.2 0)))
theorem a5K{n:Nat}{p:Nat->Option (Int×Int×Int×Int)}(hp:∀i r,p i=some r->r.1≠0):(match au n p with|some r=>r|none=>((0,0,0,0):Int×Int×Int×Int)).1=0->(match au n p with|some r=>r|none=>((0,0,0,0):Int×Int×Int×Int))=(0,0,0,0):=by
 cases h:au n p with
 |none=>exact λ_=>rfl
 |some r=>obtain⟨i,_,hi⟩:=fV h;exact λe=>absurd e (hp i r hi)
theorem KE(l:S9):b1v (dK l)=x8 (dK l).1 0:=by
 have key:(dK l).1=0->dK l=(0,0,0,0):=by
  unfold dK;cases h1:x8 (IR l).1 0
  .simp only[o6];exact λh=>absurd h (yD.1 h1)
  simp only[o7];cases h2:x8 (FX l).1 0
  .simp only[o6];exact λh=>absurd h (yD.1 h2)
  simp only[o7];unfold RV;cases E9 4 (o9 l.2.2)
  .simp only[o6];refine a5K λi r h=>?_;unfold JA at h;split at h
   .exact LJ h
   .cases h
  .simp only[o7];exact λh=>absurd h G6
 by_cases h:(dK l).1=0
 .rw[key h];rfl
 .unfold b1v;rw[J6 h];rfl
def a9f(a:S9)(k d:Int):Bool:=l7 (E9 k 0) false (l7 (N7 (o9 a.2.2) k) false (l7 (E9 d 0) false (match F9 a.2.2 k with|some s=>D9 (N7 (o9 s.2.2.2.1) d)|none=>false)))
noncomputable def okC (a b:S9) (k d:Int):Bool:=x8 (dK a).1 0&&(x8 (dK b).1 0&&(a9f a k d&&siS a b))
def rvS(LA LB:Um)(x:O0):Bool:=
 l7 (D9 (x8 x.2.2 2)) (l7 (oQ eqN LA (x.1,x.2.1) false) true (l7 (D9 (x8 x.2.2 1)) (oQ eqN LB (x.1,x.2.1) false) false)) (l7 (D9 (x8 x.2.2 1)) (oQ eqN LB (x.1,x.2.1) false) false)
theorem Nr{α:Type}(p:α->Bool):∀(l b:List α),l.foldl (λacc x=>l7 (p x) (acc++[x]) acc) b=b++l.filter p
 |[],b=>by simp|a::l,b=>by rw[G9,Nr p l,fK];cases p a<;>simp[l7]
variable {a:S9}{b:S9}
theorem a5q(hA:SmL a)(hB:SmL b):(Sl a b).length<=120000:=by
 unfold Sl;have h1:(a.2.2.flatMap λs=>s.2.2.2.2.flatMap (GZ b s)).length<=60*a.2.2.length:=pX _ 60 λs hs=>by have:=pX (GZ b s) 1 (l:=s.2.2.2.2) (λr _=>Jw b s r);have h2:=(hA.sc s hs).nr;omega
 have h2:(b.2.2.flatMap λs=>s.2.2.2.2.flatMap (MQ a s)).length<=60*b.2.2.length:=pX _ 60 λs hs=>by have:=pX (MQ a s) 1 (l:=s.2.2.2.2) (λr _=>Pv a s r);have h2:=(hB.sc s hs).nr;omega
 have fA:=hA.few.2.2;have fB:=hB.few.2.2;rw[E8];omega
theorem a6Y(h:a9f a k d=true):∃s,F9 a.2.2 k=some s/\0<=d/\d<nD s:=by
 unfold a9f at h;cases h1:E9 k 0<;>rw[h1]at h
 case true=>cases h
 cases h2:N7 (o9 a.2.2) k<;>rw[h2]at h
 case true=>cases h
 cases h3:E9 d 0<;>rw[h3]at h
 case true=>cases h
 simp only[o6]at h;cases hs:F9 a.2.2 k with
 |none=>rw[hs]at h;cases h|some s=>
  rw[hs]at h;simp only at h;refine⟨s,rfl,iU.1 h3,?_⟩;cases h4:N7 (o9 s.2.2.2.1) d<;>rw[h4]at h
  .exact BZ.1 h4
  .cases h
theorem a0Y(h:siS a b=true)(hs:F9 a.2.2 k=some s):∃t,F9 b.2.2 k=some t/\JE s=JE t:=by
 unfold siS at h;simp only[C9,Bo]at h;have h3:=h.2.2;obtain⟨h0,h1,_,h2⟩:=cO hs;have e:=congrArg (λl=>l[k.toNat]?) h3;simp only[U8,h2,aJ]at e;cases ht:b.2.2[k.toNat]? with
 |none=>rw[ht]at e;cases e|some t=>
  rw[ht]at e;simp only[aJ,H6]at e;refine⟨t,?_,e⟩;unfold F9
  rw[if_pos h0,ht]
theorem a8d(hA:SmL a)(hB:SmL b)(hC:SmC c)(tA:∀t∈a.2.1,kR t)(tB:∀t∈b.2.1,kR t)(k d:Int):
  (okC a b k d=true/\∃LA LB,lM a k d=some LA/\lM b k d=some LB/\
   nG a b k c d=some (((evS a k c d).1,(evS b k c d).1,(evS a k c d).2,(evS b k c d).2,(Sl a b).filter (rvS LA LB)),0))\/
  (okC a b k d=false/\∃e,e≠0/\nG a b k c d=some (zI,e)):=by
 unfold nG okC;rw[Gy hA,o8,Gy hB,o8];have zA:=KE a;have zB:=KE b;unfold b1v at zA zB;rw[zA,zB];cases vA:x8 (dK a).1 0
 .exact .inr ⟨rfl,1,G6,rfl⟩
 cases vB:x8 (dK b).1 0
 .exact .inr ⟨rfl,1,G6,rfl⟩
 simp only[E5,o6,o8,L6,eG];have hvA:=O9.1 vA;have hvB:=O9.1 vB;cases hr:a9f a k d
 .right;refine⟨rfl,6,G6,?_⟩;unfold a9f at hr;cases h1:E9 k 0
  case true=>rfl
  rw[h1]at hr;cases h2:N7 (o9 a.2.2) k
  case true=>rfl
  rw[h2]at hr;cases h3:E9 d 0
  case true=>rfl
  rw[h3]at hr;simp only[o6]at hr ⊢;obtain⟨s,hs⟩:∃s,F9 a.2.2 k=some s:=TL (jJ.2 (iU.1 h1)) (iW.2 (BZ.1 h2));rw[hs]at hr ⊢;simp only[o8]at hr ⊢;cases h4:N7 (o9 s.2.2.2.1) d<;>rw[h4]at hr
  .cases hr
  .rfl
 obtain⟨s,hs,h0,h1⟩:=a6Y hr;obtain⟨k0,k1,_,_⟩:=cO hs;rw[N9 k0,ax k1,N9 h0,hs];simp only[o6,o8];rw[ax (show d<o9 s.2.2.2.1 from h1)];simp only[o6,o8,L6,eG];rw[ML b hA tA hvA,o8];cases hsi:siS a b
 .exact .inr ⟨rfl,8,G6,rfl⟩
 left;simp only[E5,o6];obtain⟨t,ht,e⟩:=a0Y hsi hs;have e4:s.2.2.2.1=t.2.2.2.1:=congrArg (·.2.2.2) e;obtain⟨LA,hLA⟩:=YE hA hvA hs h0 h1;obtain⟨LB,hLB⟩:=YE hB hvB ht h0 (by unfold nD at h1 ⊢;rw[←e4];exact h1);refine⟨by first|rfl|trivial,LA,LB,hLA,hLB,?_⟩;rw[Ia hA hC tA,o8,Ia hB hC tB,o8,hLA,o8,hLB,o8,OJ hA hB,o8];have hcl:=a5q hA hB;have e0:=Nr (rvS LA LB) (Sl a b) [];rw[H9]at e0;refine aO (Sl a b) (λ(acc:List O0) x=>l7 (rvS LA LB x) (acc++[x]) acc) (λacc i=>(((evS a k c d).1,(evS b k c d).1,(evS a k c d).2,(evS b k c d).2,acc),i)) (λacc=>((evS a k c d).1,(evS b k c d).1,(evS a k c d).2,(evS b k c d).2,acc)) (λi acc=>acc.length<=i) [] l9 x9 (λi x acc hx hi hI=>?_) (λacc _=>?_) (λ_=>by rw[e0])
 .have hg:O8 (Sl a b) (U6 (i:Int))=some x:=by unfold O8 U6;simpa using hx
  refine⟨?_,by cases rvS LA LB x<;>simp[l7]<;>omega⟩;simp only[H5 hx,o7,F5,hx,o8,hg,yg (show acc.length+[x].length<=1073741824 by simp;omega),Z5 (show i<=9000000000000000000 by omega)];unfold rvS;cases x8 x.2.2 2<;>cases x8 x.2.2 1<;>cases oQ eqN LA (x.1,x.2.1) false<;>cases oQ eqN LB (x.1,x.2.1) false<;>rfl
 .simp only[G7];rfl
def icS(i:X4):Bool:=l7 (x8 i.2.2.1 0) (l7 (x8 i.2.2.2.1 0) (D9 (V9 (x8 i.1.1 i.2.1.1) (V9 (x8 i.1.2.1 i.2.1.2.1) (x8 i.1.2.2 i.2.1.2.2)))) true) (x8 i.2.2.2.1 0)
theorem Nw(i:X4):kH i=some (icS i):=by unfold kH icS;cases x8 i.2.2.1 0<;>cases x8 i.2.2.2.1 0<;>rfl
end
section
def a9M(oc pr:Int->Int)(seen acc:c9h):Prop:=acc.Nodup/\∀x,x∈acc↔x∈seen/\oc x≠-1/\∀y∈seen,oc y≠-1->pr y<=pr x
variable {a:Int}
theorem c1i{oc pr:Int->Int}{seen acc:c9h}(h:a9M oc pr seen acc)(ha:a∉seen):a9M oc pr (seen++[a]) (bG oc pr acc a):=by
 obtain⟨hn,hi⟩:=h;unfold bG;cases h1:x8 (oc a) (-1)
 case true=>
  have e:=O9.1 h1;refine⟨hn,λx=>?_⟩;rw[o7,hi];constructor
  .rintro⟨g1,g2,g3⟩;refine⟨P8 _ g1,g2,λy hy hy2=>?_⟩;rcases D6.1 hy with hy|hy
   .exact g3 y hy hy2
   .rw[G5.1 hy]at hy2;exact absurd e hy2
  .rintro⟨g1,g2,g3⟩;rcases D6.1 g1 with g1|g1
   .exact⟨g1,g2,λy hy=>g3 y (P8 _ hy)⟩
   .rw[G5.1 g1]at g2;exact absurd e g2
 have na:oc a≠-1:=yD.1 h1;rw[o6];have hmax:∀b,b∈acc->∀y∈seen,oc y≠-1->pr y<=pr b:=λb hb=>((hi b).1 hb).2.2;cases acc with
 |nil=>
  have hnone:∀y∈seen,oc y=-1:=by
   refine λy hy=>af λhne=>?_;have:∀(L:c9h),(∀z∈L,z∈seen)->(∃z∈L,oc z≠-1)->∃z∈L,oc z≠-1/\∀w∈L,oc w≠-1->pr w<=pr z:=by
    intro L;induction L with
    |nil=>rintro _ ⟨z,hz,_⟩;cases hz
    |cons c L ih=>
     intro hL _;by_cases hc:∃z∈L,oc z≠-1
     .obtain⟨z,hz,z1,z2⟩:=ih (λw hw=>hL w (X5 _ hw)) hc;by_cases hcc:oc c≠-1/\pr z<pr c
      .refine⟨c,x9,hcc.1,λw hw w1=>?_⟩;rcases D5.1 hw with rfl|hw
       .exact aX _
       .have:=z2 w hw w1;omega
      .refine⟨z,X5 _ hz,z1,λw hw w1=>?_⟩;rcases D5.1 hw with rfl|hw
       .have:=not_and.1 hcc w1;omega
       .exact z2 w hw w1
     .rename_i hex;obtain⟨z,hz,hz1⟩:=hex;rcases D5.1 hz with rfl|hz
      .refine⟨z,x9,hz1,λw hw w1=>?_⟩;rcases D5.1 hw with rfl|hw
       .exact aX _
       .exact absurd ⟨w,hw,w1⟩ hc
      .exact absurd ⟨z,hz,hz1⟩ hc
   obtain⟨z,hz,z1,z2⟩:=this seen (λ_ h=>h) ⟨y,hy,hne⟩;have:=(hi z).2 ⟨hz,z1,z2⟩;cases this
  refine⟨x9,λx=>?_⟩;simp only[G5];constructor
  .rintro rfl;refine⟨x9,na,λy hy hy2=>?_⟩;rcases D6.1 hy with hy|hy
   .exact absurd (hnone y hy) hy2
   .rw[G5.1 hy];exact aX _
  .rintro⟨g1,g2,g3⟩;rcases D6.1 g1 with g1|g1
   .exact absurd (hnone x g1) g2
   .exact G5.1 g1
 |cons b r=>
  have hb:=(hi b).1 x9;simp only;cases h2:E9 (pr b) (pr a)
  .rw[o6];have g2:=iU.1 h2;cases h3:x8 (pr a) (pr b)
   .rw[o6];have g3:=yD.1 h3;refine⟨hn,λx=>?_⟩;rw[hi];constructor
    .rintro⟨k1,k2,k3⟩;refine⟨P8 _ k1,k2,λy hy hy2=>?_⟩;rcases D6.1 hy with hy|hy
     .exact k3 y hy hy2
     .rw[G5.1 hy];have:=k3 b hb.1 hb.2.1;omega
    .rintro⟨k1,k2,k3⟩;rcases D6.1 k1 with k1|k1
     .exact⟨k1,k2,λy hy=>k3 y (P8 _ hy)⟩
     .rw[G5.1 k1]at k3;have:=k3 b (P8 _ hb.1) hb.2.1;omega
   .rw[o7];have g3:=O9.1 h3;have hna:a∉b::r:=λh=>ha ((hi a).1 h).1;refine⟨O5.2 ⟨hn,x9,λx hx y hy hxy=>by simp at hy;subst hy;exact hna (hxy▸hx)⟩,λx=>?_⟩;constructor
    .intro hx;rcases D6.1 hx with hx|hx
     .obtain⟨k1,k2,k3⟩:=(hi x).1 hx;refine⟨P8 _ k1,k2,λy hy hy2=>?_⟩;rcases D6.1 hy with hy|hy
      .exact k3 y hy hy2
      .rw[G5.1 hy,g3];exact k3 b hb.1 hb.2.1
     .rw[G5.1 hx];refine⟨x9,na,λy hy hy2=>?_⟩;rcases D6.1 hy with hy|hy
      .rw[g3];exact hb.2.2 y hy hy2
      .rw[G5.1 hy];exact aX _
    .rintro⟨k1,k2,k3⟩;rcases D6.1 k1 with k1|k1
     .exact P8 _ ((hi x).2 ⟨k1,k2,λy hy=>k3 y (P8 _ hy)⟩)
     .exact gV _ k1
  .rw[o7];have g2:=iW.1 h2;refine⟨x9,λx=>?_⟩;simp only[G5];constructor
   .rintro rfl;refine⟨x9,na,λy hy hy2=>?_⟩;rcases D6.1 hy with hy|hy
    .have:=hb.2.2 y hy hy2;omega
    .rw[G5.1 hy];exact aX _
   .rintro⟨k1,k2,k3⟩;rcases D6.1 k1 with k1|k1
    .have h4:=k3 a x9 na;have h5:=hb.2.2 x k1 k2;omega
    .exact G5.1 k1
theorem a5m{oc pr:Int->Int} :∀(l seen acc:c9h),a9M oc pr seen acc->(seen++l).Nodup->a9M oc pr (seen++l) (l.foldl (bG oc pr) acc)
 |[],seen,acc,h,_=>by rw[H8];exact h|a::l,seen,acc,h,hn=>by
  have hn' :(seen++[a]++l).Nodup:=by rw[F8];exact hn
  have ha:a∉seen:=λhs=>by have:=(O5.1 hn).2.2 a hs a x9;exact this rfl
  have:=a5m l (seen++[a]) (bG oc pr acc a) (c1i h ha) hn';rw[F8]at this;exact this
theorem a6j{oc pr:Int->Int}{l:c9h}(hn:l.Nodup):(xU oc pr l).Nodup/\∀x,x∈xU oc pr l↔x∈l/\oc x≠-1/\∀y∈l,oc y≠-1->pr y<=pr x:=
 a5m l [] [] ⟨x9,λx=>by simp⟩ (by simpa using hn)
structure TreeR (nA nB:Nat) (par prio:c9h) (ap:c9s) (par' prio' :c9h) (ap' :c9s) (R:Int->Int->Prop):Prop where
 v:Et par prio=0
 v' :Et par' prio' =0
 n:par.length=nA
 n' :par'.length=nB
 rng:∀x y,R x y->(0<=x/\x<(nA:Int))/\0<=y/\y<(nB:Int)
 dom:∀x,0<=x->x<(nA:Int)->∃y,R x y
 cod:∀y,0<=y->y<(nB:Int)->∃x,R x y
 fn:∀x y z,R x y->R x z->y=z
 inj:∀x y z,R x z->R y z->x=y
 pr:∀x y,R x y->prF prio x=prF prio' y
 ap:∀x y,R x y->apF ap x=apF ap' y
 pa:∀(x y:Nat) (p q:Int),R (x:Int) (y:Int)->par[x]? =some p->par'[y]? =some q->(p=-1/\q=-1)\/R p q
def RO(R:Int->Int->Prop)(a b:Int):Prop:=(a=-1/\b=-1)\/R a b
def RX(R:Int->Int->Prop)(a b:Int):Prop:=(a=-1/\b=-1)\/(a=-2/\b=-2)\/R a b
variable {b:Int}
section
variable {n n' :Nat} {par prio par' prio' :c9h} {ap ap' :c9s} {R:Int->Int->Prop}
theorem Zd{par:c9h}{at' x:Int} :x∈castL (qx par at')↔∃i:Nat,x=(i:Int)/\par[i]? =some at' :=by
 unfold castL;constructor
 .intro h;obtain⟨i,hi,rfl⟩:=aF.1 h;exact⟨i,rfl,(Ze hi).2⟩
 .rintro⟨i,rfl,h⟩;refine aF.2 ⟨i,?_,rfl⟩;unfold qx onL;refine Y4.2 ⟨X6.2 (V6.1 h).1,?_⟩;unfold a3N;rw[h];exact J7 rfl
theorem I_(par:c9h)(at' :Int):(castL (qx par at')).Nodup:=by unfold castL qx onL;refine List.Pairwise.map _ (λa b h=>?_) ((List.nodup_range (n:=par.length)).filter _);omega
theorem TreeR.kid(T:TreeR n n' par prio ap par' prio' ap' R){a b x y:Int}(hab:RO R a b)(hxy:R x y):x∈castL (qx par a)↔y∈castL (qx par' b):=by
 obtain⟨⟨x0,x1⟩,y0,y1⟩:=T.rng x y hxy;obtain⟨i,rfl⟩:∃i:Nat,x=(i:Int):=⟨x.toNat,l9⟩;obtain⟨j,rfl⟩:∃j:Nat,y=(j:Int):=⟨y.toNat,l9⟩;have hi:par[i]? =some (par[i]'(by rw[T.n];omega)):=dh _;have hj:par'[j]? =some (par'[j]'(by rw[T.n'];omega)):=dh _;have hp:=T.pa i j _ _ hxy hi hj;rw[Zd,Zd];constructor
 .rintro⟨k,hk,h⟩;have ek:k=i:=l9;subst ek;rw[hi]at h;have h:=I8 h;refine⟨j,rfl,?_⟩;rw[hj];congr 1;rw[h]at hp;rcases hp with⟨p1,p2⟩|hp<;>rcases hab with⟨q1,q2⟩|hab
  .rw[p2,q2]
  .have:=(T.rng _ _ hab).1.1;omega
  .have:=(T.rng _ _ hp).1.1;omega
  .exact T.fn _ _ _ hp hab
 .rintro⟨k,hk,h⟩;have ek:k=j:=l9;subst ek;rw[hj]at h;have h:=I8 h;refine⟨i,rfl,?_⟩;rw[hi];congr 1;rw[h]at hp;rcases hp with⟨p1,p2⟩|hp<;>rcases hab with⟨q1,q2⟩|hab
  .rw[p1,q1]
  .have:=(T.rng _ _ hab).2.1;omega
  .have:=(T.rng _ _ hp).2.1;omega
  .exact T.inj _ _ _ hp hab
theorem RX.neg(T:TreeR n n' par prio ap par' prio' ap' R)(h:RX R a b):a=-1↔b=-1:=by
 rcases h with⟨h1,h2⟩|⟨h1,h2⟩|h
 .omega
 .omega
 .have:=T.rng _ _ h;omega
theorem TreeR.ch(T:TreeR n n' par prio ap par' prio' ap' R){oc oc' :Int->Int}(hab:RO R a b)(ho:∀x y,R x y->x∈castL (qx par a)->RX R (oc x) (oc' y)):
  RX R (chF oc (prF prio) (castL (qx par a))) (chF oc' (prF prio') (castL (qx par' b))):=by
 obtain⟨n1,m1⟩:=a6j (oc:=oc) (pr:=prF prio) (I_ par a);obtain⟨n2,m2⟩:=a6j (oc:=oc') (pr:=prF prio') (I_ par' b);have rg:∀x,x∈castL (qx par a)->∃y,R x y:=λx hx=>by obtain⟨i,rfl,h⟩:=Zd.1 hx;have:=(V6.1 h).1;rw[T.n]at this;exact T.dom _ l9 l9
 have rg' :∀y,y∈castL (qx par' b)->∃x,R x y:=λy hy=>by obtain⟨i,rfl,h⟩:=Zd.1 hy;have:=(V6.1 h).1;rw[T.n']at this;exact T.cod _ l9 l9
 have key:∀x y,R x y->(x∈xU oc (prF prio) (castL (qx par a))↔y∈xU oc' (prF prio') (castL (qx par' b))):=λx y hxy=>by
  rw[m1,m2];have hk:=T.kid hab hxy;constructor
  .rintro⟨g1,g2,g3⟩;have gy:=hk.1 g1;refine⟨gy,λh=>g2 (((ho x y hxy g1).neg T).2 h),λz hz hz2=>?_⟩;obtain⟨w,hw⟩:=rg' z hz;have gw:=(T.kid hab hw).2 hz;have:=g3 w gw (λh=>hz2 (((ho w z hw gw).neg T).1 h));rw[←T.pr w z hw,←T.pr x y hxy];exact this
  .rintro⟨g1,g2,g3⟩;have gx:=hk.2 g1;refine⟨gx,λh=>g2 (((ho x y hxy gx).neg T).1 h),λw hw hw2=>?_⟩;obtain⟨z,hz⟩:=rg w hw;have:=g3 z ((T.kid hab hz).1 hw) (λh=>hw2 (((ho w z hz hw).neg T).2 h));rw[T.pr w z hz,T.pr x y hxy];exact this
 have sub1:∀x,x∈xU oc (prF prio) (castL (qx par a))->∃y,R x y/\y∈xU oc' (prF prio') (castL (qx par' b)):=λx hx=>by obtain⟨y,hy⟩:=rg x ((m1 x).1 hx).1;exact⟨y,hy,(key x y hy).1 hx⟩
 have sub2:∀y,y∈xU oc' (prF prio') (castL (qx par' b))->∃x,R x y/\x∈xU oc (prF prio) (castL (qx par a)):=λy hy=>by obtain⟨x,hx⟩:=rg' y ((m2 y).1 hy).1;exact⟨x,hx,(key x y hx).2 hy⟩
 have hin:∀x,x∈xU oc (prF prio) (castL (qx par a))->x∈castL (qx par a):=λx hx=>((m1 x).1 hx).1;unfold chF;revert n1 n2 sub1 sub2 hin;generalize xU oc (prF prio) (castL (qx par a))=B;generalize xU oc' (prF prio') (castL (qx par' b))=B';intro n1 n2 sub1 sub2 hin;match B,B' with
 |[],[]=>exact .inl ⟨rfl,rfl⟩|[],y::_=>obtain⟨x,_,hx⟩:=sub2 y x9;cases hx
 |x::_,[]=>obtain⟨y,_,hy⟩:=sub1 x x9;cases hy
 |[x],[y]=>obtain⟨z,hz,hz2⟩:=sub1 x x9;have:=G5.1 hz2;subst this;exact ho x z hz (hin x x9)
 |[x],y::z::r=>obtain⟨w,hw,hw2⟩:=sub2 y x9;obtain⟨u,hu,hu2⟩:=sub2 z x9;have e1:=G5.1 hw2;have e2:=G5.1 hu2;subst e1;subst e2;have e3:=T.fn _ _ _ hw hu;rw[e3]at n2;simp at n2
 |x::z::r,[y]=>obtain⟨w,hw,hw2⟩:=sub1 x x9;obtain⟨u,hu,hu2⟩:=sub1 z x9;have e1:=G5.1 hw2;have e2:=G5.1 hu2;subst e1;subst e2;have e3:=T.inj _ _ _ hw hu;rw[e3]at n1;simp at n1
 |x::z::r,y::w::r' =>exact .inr (.inl ⟨rfl,rfl⟩)
theorem TreeR.oc(T:TreeR n n' par prio ap par' prio' ap' R):∀(k:Nat) (x y:Int),(n:Int) -x<=k->R x y->RX R (OC par prio ap x) (OC par' prio' ap' y):=by
 intro k;induction k with
 |zero=>intro x y hk h;have:=T.rng x y h;omega|succ k ih=>
  intro x y hk h;obtain⟨⟨x0,x1⟩,y0,y1⟩:=T.rng x y h;rw[a9P par prio ap T.v l9 (by rw[T.n];exact x1),a9P par' prio' ap' T.v' l9 (by rw[T.n'];exact y1)];have hc:RX R (chS par prio ap x) (chS par' prio' ap' y):=T.ch (.inr h) λu w hu hm=>ih u w (by have:=TK par prio T.v hm;omega) hu;have hneg:=hc.neg T;cases h1:x8 (chS par prio ap x) (-1)
  .have:x8 (chS par' prio' ap' y) (-1)=false:=J6 λe=>(yD.1 h1) (hneg.2 e);rw[this,o6,o6];exact hc
  .have:x8 (chS par' prio' ap' y) (-1)=true:=J7 (hneg.1 (O9.1 h1));rw[this,o7,o7,T.ap x y h];cases apF ap' y
   .exact .inl ⟨rfl,rfl⟩
   .exact .inr (.inr h)
theorem TreeR.sel(T:TreeR n n' par prio ap par' prio' ap' R)(ha:ap.length=n)(ha' :ap'.length=n'):RX R (Hf par prio ap) (Hf par' prio' ap'):=by unfold Hf;rw[J7 T.v,J7 T.v',J7 (show o9 ap=o9 par by unfold o9;rw[ha,T.n]),J7 (show o9 ap' =o9 par' by unfold o9;rw[ha',T.n'])];rw[o7,o7,o7,o7];exact T.ch (.inl ⟨rfl,rfl⟩) λx y h _=>T.oc ((n:Int) -x).toNat x y l9 h
end
end
section
def VR(s:A8):Prop:=∃sg,∀(j:Nat) (r:V8),s.2.2.2.2[j]? =some r->RuleV s sg j r
variable {i:Nat}{s:A8}{j:Nat}
theorem VR.uniq(h:VR s){r q:V8}(hr:s.2.2.2.2[i]? =some r)(hq:s.2.2.2.2[j]? =some q)(e:r.1=q.1):i=j:=by
 obtain⟨sg,h⟩:=h;have key:∀(a b:Nat) (x y:V8),s.2.2.2.2[a]? =some x->s.2.2.2.2[b]? =some y->x.1=y.1->¬a<b:=λa b x y hx hy he hlt=>by have:=fZ.1 (h b y hy).nm x (ES.2 ⟨a,by have:=(V6.1 hx).1;have:=(V6.1 hy).1;omega,(V6.1 hx).2⟩);exact this (ig.2 he)
 have h1:=key i j r q hr hq e;have h2:=key j i q r hq hr e.symm;omega
variable {r:V8}
theorem VR.par(h:VR s)(hr:s.2.2.2.2[i]? =some r):vW s i=-1\/∃(p:Nat) (q:V8),vW s i=(p:Int)/\p<i/\s.2.2.2.2[p]? =some q/\q.2.1=r.2.1:=by
 obtain⟨sg,h⟩:=h;have hb:=(h i r hr).pa;have e:vW s i=r.2.2.1:=by unfold vW;rw[hr]
 unfold a3s at hb;rw[←e]at hb;generalize vW s i=z at*;cases h1:x8 z (-1)<;>rw[h1]at hb
 .rw[o6]at hb;cases h2:E9 z 0<;>rw[h2]at hb
  case true=>cases hb
  rw[o6]at hb;cases h3:N7 (i:Int) z<;>rw[h3]at hb
  case true=>cases hb
  rw[o6]at hb;have g2:=iU.1 h2;have g3:=BZ.1 h3;right;obtain⟨p,rfl⟩:∃p:Nat,z=(p:Int):=⟨z.toNat,l9⟩;rw[F5]at hb;cases hq:s.2.2.2.2[p]? with
  |none=>rw[hq]at hb;cases hb|some q=>
   rw[hq]at hb;simp only at hb;refine⟨p,q,rfl,l9,hq,?_⟩;cases g:x8 q.2.1 r.2.1<;>rw[g]at hb
   .cases hb
   .exact O9.1 g
 .exact .inl (O9.1 h1)
def PaR(s t:A8)(p p' :Int):Prop:=(p=-1/\p' =-1)\/∃(i j:Nat) (r q:V8),p=(i:Int)/\p' =(j:Int)/\s.2.2.2.2[i]? =some r/\t.2.2.2.2[j]? =some q/\r.1=q.1
structure EqR (s t:A8) (r q:V8):Prop where
 nm:r.1=q.1
 df:r.2.1=q.2.1
 rest:r.2.2.2=q.2.2.2
 pa:PaR s t r.2.2.1 q.2.2.1
structure SameR (s t:A8) (d:Int):Prop where
 fwd:∀(i:Nat) (r:V8),s.2.2.2.2[i]? =some r->r.2.1=d->∃(j:Nat) (q:V8),t.2.2.2.2[j]? =some q/\EqR s t r q
 bwd:∀(j:Nat) (q:V8),t.2.2.2.2[j]? =some q->q.2.1=d->∃(i:Nat) (r:V8),s.2.2.2.2[i]? =some r/\EqR s t r q
def Rn(s t:A8)(d:Int)(i j:Nat):Prop:=∃r q,s.2.2.2.2[i]? =some r/\t.2.2.2.2[j]? =some q/\r.1=q.1/\r.2.1=d/\q.2.1=d
section
variable {s t:A8} {d:Int} (hs:VR s) (ht:VR t) (hR:SameR s t d)
include hs ht hR
omit hs in
theorem a6W{r q:V8}(h:Rn s t d i j)(hr:s.2.2.2.2[i]? =some r)(hq:t.2.2.2.2[j]? =some q):EqR s t r q:=by obtain⟨r',q',h1,h2,h3,h4,h5⟩:=h;rw[hr]at h1;cases h1;rw[hq]at h2;cases h2;obtain⟨j',q'',g1,g2⟩:=hR.fwd i _ hr h4;have:j' =j:=ht.uniq g1 hq (g2.nm.symm.trans h3);subst this;rw[hq]at g1;cases g1;exact g2
omit hs in
theorem a6X(h:Rn s t d i j)(T:Int):onR s d T i=onR t d T j:=by obtain⟨r,q,h1,h2,h3,h4,h5⟩:=id h;have e:=a6W ht hR h h1 h2;unfold onR;rw[h1,h2];simp only;rw[J7 h4,J7 h5,e.rest]
def RP' (s t:A8) (d T:Int) (x y:Int):Prop:=∃i j,Rn s t d i j/\onR s d T i=true/\x=(pV (onR s d T) i:Int)/\y=(pV (onR t d T) j:Int)
theorem b8u(T:Int):∀i j,Rn s t d i j->RO (RP' s t d T) (anc (onR s d T) (vW s) i) (anc (onR t d T) (vW t) j):=by
 intro i;induction i using Nat.strongRecOn with
 |ind i ih=>
  intro j h;obtain⟨r,q,h1,h2,h3,h4,h5⟩:=id h;have e:=a6W ht hR h h1 h2;have ep:vW s i=r.2.2.1:=by unfold vW;rw[h1]
  have ep' :vW t j=q.2.2.1:=by unfold vW;rw[h2]
  have hpa:=e.pa;rw[←ep,←ep']at hpa;unfold anc;rcases hpa with⟨p1,p2⟩|⟨i',j',r',q',p1,p2,p3,p4,p5⟩
  .rw[if_neg l9,if_neg l9];exact .inl ⟨rfl,rfl⟩
  .rcases hs.par h1 with g|⟨a,ra,a1,a2,a3,a4⟩
   .omega
   rcases ht.par h2 with g|⟨b,rb,b1,b2,b3,b4⟩
   .omega
   have ea:a=i' :=l9;have eb:b=j' :=l9;subst ea;subst eb;rw[p3]at a3;cases a3;rw[p4]at b3;cases b3;have hn:Rn s t d a b:=⟨r',q',p3,p4,p5,a4.trans h4,b4.trans h5⟩;rw[if_pos l9,if_pos l9,a1,b1,J9,J9,Ve,Ve,←a6X ht hR hn T];cases ho:onR s d T a
   .rw[if_neg x9,if_neg x9];exact ih a a2 b hn
   .rw[if_pos rfl,if_pos rfl];exact .inr ⟨a,b,hn,ho,rfl,rfl⟩
end
theorem b0i{s:A8}(h:VR s)(d:Int):∀n,n<=s.2.2.2.2.length->Lt (s.2.2.2.2.take n) d<=8
 |0,_=>by simp[Lt]|n+1,hn=>by
  have ih:=b0i h d n l9;have hlt:n<s.2.2.2.2.length:=l9;have hr:s.2.2.2.2[n]? =some s.2.2.2.2[n]:=dh hlt;obtain⟨sg,h⟩:=h;have hc:=(h n _ hr).ct;rw[U9 hlt];unfold Lt at ih hc ⊢;rw[CQ];rw[BZ]at hc;by_cases e:s.2.2.2.2[n].2.1=d
  .rw[e]at hc;have h1:List.countP (λ(o:V8)=>x8 o.2.1 d) [s.2.2.2.2[n]]<=1:=tJ;omega
  .have h1:List.countP (λ(o:V8)=>x8 o.2.1 d) [s.2.2.2.2[n]]=0:=by
    rw[List.countP_eq_zero];intro x hx;rw[G5.1 hx,J6 e];simp
   omega
theorem b5p(s:A8)(d T:Int):∀n,n<=s.2.2.2.2.length->(onL (onR s d T) n).length<=Lt (s.2.2.2.2.take n) d
 |0,_=>by simp[onL,Lt]|n+1,hn=>by
  have ih:=b5p s d T n l9;have hlt:n<s.2.2.2.2.length:=l9;have hr:s.2.2.2.2[n]? =some s.2.2.2.2[n]:=dh hlt;rw[MC,E8,U9 hlt];unfold Lt at ih ⊢;rw[CQ];cases ho:onR s d T n
  .simp only[cond_false,bT];omega
  .have hd:x8 s.2.2.2.2[n].2.1 d=true:=by
    unfold onR at ho;rw[hr]at ho;simp only at ho;cases g:x8 s.2.2.2.2[n].2.1 d
    .rw[g]at ho;cases ho
    .rfl
   have h1:List.countP (λ(o:V8)=>x8 o.2.1 d) [s.2.2.2.2[n]]=1:=by simp[hd]
   rw[h1];show _+1<=_+1;omega
theorem c0O(on:Nat->Bool)(par:Nat->Int):∀i,-1<=anc on par i/\anc on par i<(pV on i:Int)\/anc on par i=-1:=by
 intro i;induction i using Nat.strongRecOn with
 |ind i ih=>
  unfold anc;by_cases h:0<=par i/\par i<(i:Int)
  .rw[if_pos h,Ve];have hlt:(par i).toNat<i:=l9;cases ho:on (par i).toNat
   .rw[if_neg x9];rcases ih _ hlt with g|g
    .have:=a5u on (Nat.le_of_lt hlt);exact .inl ⟨g.1,l9⟩
    .exact .inr g
   .rw[if_pos rfl];have:=c1k hlt ho;exact .inl ⟨l9,l9⟩
  .rw[if_neg h];exact .inr rfl
theorem a1h(h:VR s)(d T:Int):Et (dJ s d T).2.1 (dJ s d T).2.2=0:=by
 have hlen:(aG s d T).length<=8:=by have h1:=b5p s d T s.2.2.2.2.length (F7 _);have h2:=b0i h d s.2.2.2.2.length (F7 _);unfold aG;omega
 show Et ((aG s d T).map (anc (onR s d T) (vW s))) ((aG s d T).map (Gn s))=0;unfold Et;have l1:o9 ((aG s d T).map (anc (onR s d T) (vW s)))=((aG s d T).length:Int):=by unfold o9;rw[P6]
 have l2:o9 ((aG s d T).map (Gn s))=((aG s d T).length:Int):=by unfold o9;rw[P6]
 rw[l1,l2,J7 rfl,E5,o6,N9 l9,o6];have:au ((aG s d T).map (anc (onR s d T) (vW s))).length (Pg ((aG s d T).map (anc (onR s d T) (vW s))) ((aG s d T).map (Gn s)))=none:=by
  unfold au;rw[iT];intro k hk;have hk:k<(aG s d T).length:=by have:=X6.1 hk;rwa[P6]at this
  have e:=dh hk;unfold Pg;rw[U8,U8,e];simp only[aJ];obtain⟨i1,i2⟩:=qI (N8 hk);generalize hi:(aG s d T)[k]=i at*;have hcnt:pV (onR s d T) i=k:=WW (a0k _ _) (Vm _ i1 i2) e;have hr:s.2.2.2.2[i]? =some s.2.2.2.2[i]:=dh i1;obtain⟨sg,h⟩:=h;have hv:=h i _ hr;have hpr:Gn s i=s.2.2.2.2[i].2.2.2.1:=by unfold Gn;rw[hr]
  have p0:=hv.p0;have p9:=hv.p9;rw[←hpr]at p0 p9;have ha:=c0O (onR s d T) (vW s) i;rw[hcnt]at ha;rw[N9 (show -1<=anc (onR s d T) (vW s) i by omega),ax (show anc (onR s d T) (vW s) i<(k:Int) by omega),p0,p9];rfl
 rw[this]
end
section
def gOk(s:A8)(env:aK)(i:Nat):Bool:=match s.2.2.2.2[i]? with|some r=>l7 (x8 (o9 r.2.2.2.2.2.1) 0) true (x8 (uH r.2.2.2.2.2.1 env).2 0)|none=>true
def gAp(s:A8)(env:aK)(i:Nat):Bool:=match s.2.2.2.2[i]? with|some r=>l7 (x8 (o9 r.2.2.2.2.2.1) 0) true (x8 (uH r.2.2.2.2.2.1 env).1.2.2 1)|none=>true
theorem UJ(s:A8)(env:aK)(m d:Int):∀(L:c9j) (ap:c9s),(∀i∈L,i<s.2.2.2.2.length)->
  ((∀i∈L,gOk s env i=true)/\aP (IX s env m d) (castL L) ap= .inl (ap++L.map (gAp s env)))\/((∃i∈L,gOk s env i=false)/\∃e:Int×E4,aP (IX s env m d) (castL L) ap= .inr e/\e.2.1≠0)
 |[],ap,_=> .inl ⟨λi hi=>by(cases hi),by simp[castL,aP]⟩|i::L,ap,h=>by
  have hr:s.2.2.2.2[i]? =some (s.2.2.2.2[i]'(h i x9)):=dh _;have hc:castL (i::L)=(i:Int)::castL L:=rfl;rw[hc];unfold aP;have hg:IX s env m d ap (i:Int)=l7 (gOk s env i) (.inl (ap++[gAp s env i])) (.inr (0,(uH (s.2.2.2.2[i]'(h i x9)).2.2.2.2.2.1 env).2,m,d,(i:Int))):=by
   unfold IX gOk gAp;rw[F5,hr];simp only;cases x8 (o9 (s.2.2.2.2[i]'(h i x9)).2.2.2.2.2.1) 0
   .cases x8 (uH (s.2.2.2.2[i]'(h i x9)).2.2.2.2.2.1 env).2 0<;>rfl
   .rfl
  rw[hg];cases ho:gOk s env i
  .refine .inr ⟨⟨i,x9,ho⟩,_,rfl,?_⟩;unfold gOk at ho;rw[hr]at ho;simp only at ho;cases h1:x8 (o9 (s.2.2.2.2[i]'(h i x9)).2.2.2.2.2.1) 0<;>rw[h1]at ho
   .exact yD.1 ho
   .cases ho
  .simp only[o7];rcases UJ s env m d L (ap++[gAp s env i]) (λj hj=>h j (by simp[hj]))with⟨g1,g2⟩|⟨⟨j,g1,g2⟩,g3⟩
   .refine .inl ⟨λj hj=>?_,by rw[g2];simp⟩;rcases D5.1 hj with rfl|hj
    .exact ho
    .exact g1 j hj
   .exact .inr ⟨⟨j,by simp[g1],g2⟩,g3⟩
variable {i:Nat}{T:Int}
section
variable {s t:A8} {d:Int} (hs:VR s) (ht:VR t) (hR:SameR s t d)
include ht hR
theorem c1G{i j:Nat}(h:Rn s t d i j)(env:aK):gOk s env i=gOk t env j/\gAp s env i=gAp t env j:=by obtain⟨r,q,h1,h2,_⟩:=id h;have e:=a6W ht hR h h1 h2;unfold gOk gAp;rw[h1,h2];simp only;rw[e.rest];exact⟨rfl,rfl⟩
theorem b6s(hi:i∈aG s d T):∃j,Rn s t d i j/\j∈aG t d T:=by
 obtain⟨i1,i2⟩:=qI hi;have hr:s.2.2.2.2[i]? =some s.2.2.2.2[i]:=dh i1;have hd:s.2.2.2.2[i].2.1=d:=by
  have ho:=i2;unfold onR at ho;rw[hr]at ho;simp only at ho;cases g:x8 s.2.2.2.2[i].2.1 d
  .rw[g]at ho;cases ho
  .exact O9.1 g
 obtain⟨j,q,g1,g2⟩:=hR.fwd i _ hr hd;have hn:Rn s t d i j:=⟨_,q,hr,g1,g2.nm,hd,g2.df.symm.trans hd⟩;refine⟨j,hn,?_⟩;unfold aG onL;refine Y4.2 ⟨X6.2 (V6.1 g1).1,?_⟩;rw[←a6X ht hR hn T];exact i2
include hs
theorem b6r{j:Nat}(hj:j∈aG t d T):∃i,Rn s t d i j/\i∈aG s d T:=by
 obtain⟨i1,i2⟩:=qI hj;have hr:t.2.2.2.2[j]? =some t.2.2.2.2[j]:=dh i1;have hd:t.2.2.2.2[j].2.1=d:=by
  have ho:=i2;unfold onR at ho;rw[hr]at ho;simp only at ho;cases g:x8 t.2.2.2.2[j].2.1 d
  .rw[g]at ho;cases ho
  .exact O9.1 g
 obtain⟨i,q,g1,g2⟩:=hR.bwd j _ hr hd;have hn:Rn s t d i j:=⟨q,_,g1,hr,g2.nm,g2.df.trans hd,hd⟩;refine⟨i,hn,?_⟩;unfold aG onL;refine Y4.2 ⟨X6.2 (V6.1 g1).1,?_⟩;rw[a6X ht hR hn T];exact i2
theorem Jh{s:A8}{d T:Int}(h:i∈aG s d T):(aG s d T)[pV (onR s d T) i]? =some i:=by obtain⟨i1,i2⟩:=qI h;exact Vm _ i1 i2
theorem b8c(T:Int)(env:aK):TreeR (aG s d T).length (aG t d T).length (dJ s d T).2.1 (dJ s d T).2.2 ((aG s d T).map (gAp s env)) (dJ t d T).2.1 (dJ t d T).2.2 ((aG t d T).map (gAp t env)) (RP' s t d T):=by
 have mem:∀{i j:Nat},Rn s t d i j->onR s d T i=true->i∈aG s d T/\j∈aG t d T:=λ{i j} h ho=>by obtain⟨r,q,h1,h2,_⟩:=id h;unfold aG onL;exact⟨Y4.2 ⟨X6.2 (V6.1 h1).1,ho⟩,Y4.2 ⟨X6.2 (V6.1 h2).1,by rw[←a6X ht hR h T];exact ho⟩⟩
 have at1:∀{s:A8} {i:Nat},i∈aG s d T->pV (onR s d T) i<(aG s d T).length:=λ{s i} h=>by have:=Jh hs ht hR h;exact(V6.1 this).1
 have eqi:∀{s:A8} {i j:Nat},i∈aG s d T->j∈aG s d T->pV (onR s d T) i=pV (onR s d T) j->i=j:=λ{s i j} hi hj e=>by have h1:=Jh hs ht hR hi;have h2:=Jh hs ht hR hj;rw[e,h2]at h1;exact(I8 h1).symm
 have posn:∀{s:A8} (x:Nat),x<(aG s d T).length->∃i,i∈aG s d T/\pV (onR s d T) i=x:=λ{s} x hx=>by have e:=dh hx;obtain⟨i1,i2⟩:=qI (N8 hx);exact⟨_,N8 hx,WW (a0k _ _) (Vm _ i1 i2) e⟩
 have uniqL:∀{i j j' :Nat},Rn s t d i j->Rn s t d i j' ->j=j' :=λ{i j j'} h h' =>by obtain⟨r,q,h1,h2,h3,_⟩:=h;obtain⟨r',q',g1,g2,g3,_⟩:=h';rw[h1]at g1;cases g1;exact ht.uniq h2 g2 (h3.symm.trans g3)
 have uniqR:∀{i i' j:Nat},Rn s t d i j->Rn s t d i' j->i=i' :=λ{i i' j} h h' =>by obtain⟨r,q,h1,h2,h3,_⟩:=h;obtain⟨r',q',g1,g2,g3,_⟩:=h';rw[h2]at g2;cases g2;exact hs.uniq h1 g1 (h3.trans g3.symm)
 refine⟨a1h hs d T,a1h ht d T,?_,?_,?_,?_,?_,?_,?_,?_,?_,?_⟩
 .show((aG s d T).map _).length=_;rw[P6]
 .show((aG t d T).map _).length=_;rw[P6]
 .rintro x y ⟨i,j,h,ho,rfl,rfl⟩;obtain⟨m1,m2⟩:=mem h ho;have:=at1 m1;have:=at1 m2;omega
 .intro x h0 h1;obtain⟨a,rfl⟩:∃a:Nat,x=(a:Int):=⟨x.toNat,l9⟩;obtain⟨i,hi,rfl⟩:=posn (s:=s) a l9;obtain⟨j,hj,_⟩:=b6s ht hR hi;exact⟨_,i,j,hj,(qI hi).2,rfl,rfl⟩
 .intro y h0 h1;obtain⟨a,rfl⟩:∃a:Nat,y=(a:Int):=⟨y.toNat,l9⟩;obtain⟨j,hj,rfl⟩:=posn (s:=t) a l9;obtain⟨i,hi,him⟩:=b6r hs ht hR hj;exact⟨_,i,j,hi,(qI him).2,rfl,rfl⟩
 .rintro x y z ⟨i,j,h,ho,rfl,rfl⟩ ⟨i',j',h',ho',e,rfl⟩;have ei:=eqi (mem h ho).1 (mem h' ho').1 l9;subst ei;rw[uniqL h h']
 .rintro x y z ⟨i,j,h,ho,rfl,rfl⟩ ⟨i',j',h',ho',rfl,e⟩;have ej:=eqi (mem h ho).2 (mem h' ho').2 l9;subst ej;rw[uniqR h h']
 .rintro x y ⟨i,j,h,ho,rfl,rfl⟩;obtain⟨m1,m2⟩:=mem h ho;have p1:=Jh hs ht hR m1;have p2:=Jh hs ht hR m2;show((aG s d T).map (Gn s)).getD ((pV (onR s d T) i:Nat):Int).toNat 0=((aG t d T).map (Gn t)).getD ((pV (onR t d T) j:Nat):Int).toNat 0;rw[J9,J9,vK,vK,U8,U8,p1,p2];obtain⟨r,q,h1,h2,_⟩:=id h;have e:=a6W ht hR h h1 h2;show Gn s i=Gn t j;unfold Gn;rw[h1,h2];simp only;rw[e.rest]
 .rintro x y ⟨i,j,h,ho,rfl,rfl⟩;obtain⟨m1,m2⟩:=mem h ho;have p1:=Jh hs ht hR m1;have p2:=Jh hs ht hR m2;unfold apF;rw[J9,J9,vK,vK,U8,U8,p1,p2];show gAp s env i=gAp t env j;exact(c1G ht hR h env).2
 .rintro x y p q ⟨i,j,h,ho,ex,ey⟩ hp hq;have ex:x=pV (onR s d T) i:=l9;have ey:y=pV (onR t d T) j:=l9;subst ex;subst ey;obtain⟨m1,m2⟩:=mem h ho;have p1:=Jh hs ht hR m1;have p2:=Jh hs ht hR m2;have hp:((aG s d T).map (anc (onR s d T) (vW s)))[pV (onR s d T) i]? =some p:=hp;have hq:((aG t d T).map (anc (onR t d T) (vW t)))[pV (onR t d T) j]? =some q:=hq;rw[U8,p1]at hp;rw[U8,p2]at hq;have hp:=I8 hp;have hq:=I8 hq;rw[←hp,←hq];exact b8u hs ht hR T i j h
theorem a5s(env:aK)(m:Int):((aC s env m d).2.1≠0/\(aC t env m d).2.1≠0)\/
  ((aC s env m d).2.1=0/\(aC t env m d).2.1=0/\(((aC s env m d).1=-1/\(aC t env m d).1=-1)\/((aC s env m d).1=-2/\(aC t env m d).1=-2)\/∃i j,Rn s t d i j/\(aC s env m d).1=(i:Int)/\(aC t env m d).1=(j:Int))):=by
 have T:=b8c hs ht hR env.1 env;have hsel:=T.sel (by rw[P6]) (by rw[P6]);have e1:(dJ s d env.1).1=castL (aG s d env.1):=rfl;have e2:(dJ t d env.1).1=castL (aG t d env.1):=rfl;unfold aC;rw[e1,e2];rcases UJ s env m d (aG s d env.1) [] (λi hi=>(qI hi).1)with⟨g1,g2⟩|⟨⟨i,g1,g2⟩,e,g3,g4⟩
 .rcases UJ t env m d (aG t d env.1) [] (λi hi=>(qI hi).1)with⟨k1,k2⟩|⟨⟨j,k1,k2⟩,_⟩
  .rw[g2,k2];simp only[H9];right;rcases hsel with⟨q1,q2⟩|⟨q1,q2⟩|⟨i,j,q1,q2,q3,q4⟩
   .rw[q1,q2];exact⟨rfl,rfl,.inl ⟨rfl,rfl⟩⟩
   .rw[q1,q2];exact⟨rfl,rfl,.inr (.inl ⟨rfl,rfl⟩)⟩
   .obtain⟨r,q,h1,h2,_⟩:=id q1;have m1:i∈aG s d env.1:=by unfold aG onL;exact Y4.2 ⟨X6.2 (V6.1 h1).1,q2⟩
    have m2:j∈aG t d env.1:=by unfold aG onL;exact Y4.2 ⟨X6.2 (V6.1 h2).1,by rw[←a6X ht hR q1 env.1];exact q2⟩
    rw[q3,q4,N9 (show(0:Int)<=(pV (onR s d env.1) i:Nat) by omega),N9 (show(0:Int)<=(pV (onR t d env.1) j:Nat) by omega),o6,o6,J9,J9];refine⟨rfl,rfl,.inr (.inr ⟨i,j,q1,?_,?_⟩)⟩
    .show(castL (aG s d env.1)).getD _ 0=_;rw[vK,Ws (Jh hs ht hR m1)];rfl
    .show(castL (aG t d env.1)).getD _ 0=_;rw[vK,Ws (Jh hs ht hR m2)];rfl
  .obtain⟨i,hi,him⟩:=b6r hs ht hR k1;have:=g1 i him;rw[(c1G ht hR hi env).1,k2]at this;cases this
 .left;obtain⟨j,hj,hjm⟩:=b6s ht hR g1;rcases UJ t env m d (aG t d env.1) [] (λi hi=>(qI hi).1)with⟨k1,k2⟩|⟨_,e',k3,k4⟩
  .have:=k1 j hjm;rw[←(c1G ht hR hj env).1,g2]at this;cases this
  .rw[g3,k3];exact⟨g4,k4⟩
theorem b4h(env:aK)(m:Int):(∃v i j,Ey s env m d= .inl (v,i)/\Ey t env m d= .inl (v,j))\/(∃e e',Ey s env m d= .inr e/\Ey t env m d= .inr e'):=by
 unfold Ey;rcases a5s hs ht hR env m with⟨h1,h2⟩|⟨h1,h2,h3⟩
 .rw[J6 h1,J6 h2];exact .inr ⟨_,_,rfl,rfl⟩
 .rw[J7 h1,J7 h2,o7,o7];rcases h3 with⟨k1,k2⟩|⟨k1,k2⟩|⟨i,j,q1,k1,k2⟩
  .rw[k1,k2];exact .inr ⟨_,_,rfl,rfl⟩
  .rw[k1,k2];exact .inr ⟨_,_,rfl,rfl⟩
  .rw[k1,k2,J6 (show(i:Int)≠-1 by omega),J6 (show(i:Int)≠-2 by omega),J6 (show(j:Int)≠-1 by omega),J6 (show(j:Int)≠-2 by omega),F5,F5];obtain⟨r,q,h1,h2,_⟩:=id q1;have e:=a6W ht hR q1 h1 h2;rw[h1,h2];simp only[o6];rw[e.rest];cases x8 (uH q.2.2.2.2.2.2.1 env).2 0
   .exact .inr ⟨_,_,rfl,rfl⟩
   .exact .inl ⟨_,_,_,rfl,rfl⟩
end
end
section
structure Two (s t:A8) (nS nT:c9s) (Q:Int->Prop):Prop where
 n:t.2.2.2.1.length=s.2.2.2.1.length
 vs:VR s
 vt:VR t
 os:a1t s (mf s).1/\∀d,0<=d->d<nD s->d∈(mf s).1
 ot:a1t t (mf t).1/\∀d,0<=d->d<nD t->d∈(mf t).1
 at' :∀d,ND nT d->(0<=d/\d<nD s)/\ND nS d/\SameR s t d/\(∀x∈O6 t d,ND nT x)/\a1s t (λx=>x∈O6 t d) Q d/\a1s s (λx=>x∈O6 s d) Q d
theorem c6q{s t:A8}{a b:aK}{m:Int}{nS nT:c9s}{Q:Int->Prop}{X:DB}(hT:Two s t nS nT Q)(hE:SimE Q a b)(ha:EvOk a)(hb:EvOk b)(hX:scS s a m nS= .inl X):
  ∃Y,scS t b m nT= .inl Y/\∀x,ND nT x->F9 Y.1 x=F9 X.1 x:=by
 have hXl:=RU hX;have key:∀(suf pre:c9h) (B:DB),(mf t).1=pre++suf->B.1.length=s.2.2.2.1.length/\B.2.length=s.2.2.2.1.length->(∀x∈pre,ND nT x->F9 B.1 x=F9 X.1 x)->
   ∃Y,aP (scG t b m nT) suf B= .inl Y/\∀x∈pre++suf,ND nT x->F9 Y.1 x=F9 X.1 x:=by
  intro suf;induction suf with
  |nil=>intro pre B he hl hi;exact⟨B,rfl,λx hx=>hi x (by simpa using hx)⟩|cons d suf ih=>
   intro pre B he hl hi;have hdr:=hT.ot.1.2.1 d (by rw[he];simp);have hnn:nD t=nD s:=by unfold nD o9;rw[hT.n]
   have step:∃B2,scG t b m nT B d= .inl B2/\(B2.1.length=s.2.2.2.1.length/\B2.2.length=s.2.2.2.1.length)/\∀x∈pre++[d],ND nT x->F9 B2.1 x=F9 X.1 x:=by
    unfold scG;cases hn:(F9 nT d).getD false
    .refine⟨B,rfl,hl,λx hx hxn=>?_⟩;rcases D6.1 hx with hx|hx
     .exact hi x hx hxn
     .rw[G5.1 hx]at hxn;unfold ND at hxn;rw[hn]at hxn;cases hxn
    .obtain⟨_,k2,k3,k4,k5,k6⟩:=hT.at' d hn;obtain⟨v,r,f1,f2,f3⟩:=a8u ha hT.os.1 hX (hT.os.2 d hdr.1 l9) k2 k6;have hd:∃j,Ey t (AP a X.1) m d= .inl (v,j):=by
      rcases b4h hT.vs hT.vt k3 (AP a X.1) m with⟨v',i,j,g1,g2⟩|⟨e,e',g1,g2⟩
      .rw[f3]at g1;cases g1;exact⟨j,g2⟩
      .rw[f3]at g1;cases g1
     obtain⟨j,hd⟩:=hd;have hsim:=d_ (s:=t) (hE.at (P:=λx=>x∈O6 t d) (D:=X.1) (D' :=B.1) (by rw[hXl.1,hl.1]) (λx hx=>(hi x (hT.ot.1.2.2 pre d suf he x hx) (k4 x hx)).symm)) (FD ha _) (FD hb _) k5 m;rw[hd]at hsim;simp only[o7];rw[←hsim];refine⟨_,rfl,⟨by simp[hl.1],by simp[hl.2]⟩,λx hx hxn=>?_⟩;show F9 (B.1.set d.toNat v) x=_;by_cases e:x=d
     .subst e;rw[TM _ hdr.1 (by unfold o9;unfold nD o9 at hdr hnn;omega),f1]
     .rw[IZ _ hdr.1 e];rcases D6.1 hx with hx|hx
      .exact hi x hx hxn
      .exact absurd (G5.1 hx) e
   obtain⟨B2,h1,h2,h3⟩:=step;obtain⟨Y,h4,h5⟩:=ih (pre++[d]) B2 (by rw[he];simp) h2 h3;refine⟨Y,?_,λx hx=>h5 x (by simpa using hx)⟩;unfold aP;rw[h1];exact h4
 obtain⟨Y,h1,h2⟩:=key (mf t).1 [] (List.replicate t.2.2.2.1.length (0,0,0),List.replicate t.2.2.2.1.length 0) rfl ⟨by simp[hT.n],by simp[hT.n]⟩ (λx hx=>by cases hx);refine⟨Y,h1,λx hx=>h2 x ?_ hx⟩;have hr:=(hT.at' x hx).1;have hnn:nD t=nD s:=by unfold nD o9;rw[hT.n]
 exact hT.ot.2 x hr.1 l9
theorem c4f{l l' :S9}{c:dI}{ms mt:A8}{nM nN:c9s}(htb:l'.2.1=l.2.1)(hTb:∀t∈l.2.1,kR t)(hT:Two ms mt nM nN (λ_=>False)):
  ∀(L:List (List V3×Nat)) (b b' X:List DB),(b.length=b'.length/\∀x,ND nN x->b.map (λv=>F9 v.1 x)=b'.map (λv=>F9 v.1 x))->aP (mG l c ms nM) L b= .inl X->
   ∃Y,aP (mG l' c mt nN) L b' = .inl Y/\X.length=Y.length/\∀x,ND nN x->X.map (λv=>F9 v.1 x)=Y.map (λv=>F9 v.1 x)
 |[],b,b',X,hb,h=>by cases h;exact⟨b',rfl,hb.1,hb.2⟩|a::L,b,b',X,hb,h=>by
  unfold aP at h;cases hg:mG l c ms nM b a with
  |inr e=>rw[hg]at h;cases h|inl b1=>
   rw[hg]at h;simp only at h;unfold mG at hg;cases hs:scS ms (YT l c a.1) (a.2:Int) nM with
   |inr e=>rw[hs]at hg;cases hg|inl x=>
    rw[hs]at hg;cases hg;have he:YT l' c a.1=YT l c a.1:=by unfold YT;rw[htb]
    obtain⟨y,y1,y2⟩:=c6q hT (b:=YT l c a.1) ⟨rfl,rfl,rfl,rfl,λ_ _=>rfl⟩ (Zf hTb c a.1) (Zf hTb c a.1) hs;obtain⟨Y,h3,h4,h5⟩:=c4f htb hTb hT L (b++[x]) (b' ++[y]) X ⟨by simp[hb.1],λz hz=>by rw[gz,gz,hb.2 z hz];exact congrArg (λq=>_++[q]) (y2 z hz).symm⟩ h;refine⟨Y,?_,h4,h5⟩;unfold aP mG;rw[he,y1];exact h3
end
section
variable {s:A8}
theorem b9O{l:S9}(h:(dK l).1=0)(hs:s∈l.2.2):VR s:=by obtain⟨i,hi,rfl⟩:=X3 hs;exact⟨_,λj r hr=>c1I (a1o h (dh hi) hr)⟩
theorem b8k{l:S9}(h:(dK l).1=0){k:Int}(hs:F9 l.2.2 k=some s):VR (Y6 l s):=by
 rcases vk h hs with⟨_,_,g⟩|⟨_,_,_,_,g⟩
 .rw[g];exact⟨Dn l s,λj r hr=>by cases hr⟩
 .exact b9O h g
def DpS(s:A8)(d x:Int):Prop:=x=d\/x∈aB s d
def DpM(s m:A8)(d x:Int):Prop:=∃z∈mbS s d,DpS m z x
abbrev wS(s:A8)(d:Int):c9s:=Le s (xE s.2.2.2.1.length) d
abbrev wM(s m:A8)(d:Int):c9s:=EY m (xE m.2.2.2.1.length) (mbS s d)
variable {d:Int}
theorem b3t(h0:0<=d)(h1:d<nD s)(x:Int):ND (wS s d) x↔DpS s d x:=by
 rw[c0d,b4Z (EL _) h0 h1];unfold DpS;constructor
 .rintro(h|h|h)
  .unfold xE at h;rw[WU]at h;cases h
  .exact .inl h
  .exact .inr h
 .rintro(h|h)
  .exact .inr (.inl h)
  .exact .inr (.inr h)
variable {m:A8}
theorem b8l(hr:∀x∈mbS s d,0<=x/\x<nD m)(x:Int):ND (wM s m d) x↔DpM s m d x:=by
 rw[c0d,b4Y _ (EL _) hr];unfold DpM DpS;constructor
 .rintro(h|h)
  .unfold xE at h;rw[WU]at h;cases h
  .exact h
 .exact λh=> .inr h
variable {x:Int}
theorem a3V :x∈mbS s d↔inD (nD s) d=true/\∃r∈s.2.2.2.2,DpS s d r.2.1/\x∈DU r:=by
 unfold mbS;cases hq:inD (nD s) d
 .simp
 .rw[o7,Bd,b0J];constructor
  .rintro⟨r,hr,h1,h2⟩;exact⟨rfl,r,hr,(NC _ _ _).1 (xZ.1 h1),h2⟩
  .rintro⟨_,r,hr,h1,h2⟩;exact⟨r,hr,xZ.2 ((NC _ _ _).2 h1),h2⟩
variable {y:Int}
theorem DpS.trans(h:DpS s d x)(k:DpS s x y):DpS s d y:=by
 rcases k with rfl|k
 .exact h
 .obtain⟨_,t1,t2,_⟩:=xh s d;obtain⟨_,_,_,u⟩:=xh s x;refine .inr (u (λz=>z∈aB s d) (λz hz=>?_) (λz hz w hw=>t2 z hz w hw) y k);rcases h with rfl|h
  .exact t1 z hz
  .exact t2 x h z hz
theorem DpS.dir(h:DpS s d x)(k:y∈O6 s x):DpS s d y:=h.trans (.inr ((xh s x).2.1 y k))
theorem DpS.bd(h:DpS s d x)(h0:0<=d)(h1:d<nD s):0<=x/\x<nD s:=by
 rcases h with rfl|h
 .exact⟨h0,h1⟩
 .exact zZ h
theorem a3L{n d:Int} :inD n d=true↔0<=d/\d<n:=by
 unfold inD;cases h:N7 0 d
 .rw[BZ]at h;simp only[o6];constructor
  .intro x;cases x
  .intro x;omega
 .rw[jJ]at h;simp only[o7];rw[iW];omega
theorem DpM.up(h0:0<=d)(h1:d<nD s)(h:DpS s d x)(k:DpM s m x y):DpM s m d y:=by obtain⟨z,hz,hy⟩:=k;obtain⟨_,r,hr,h2,h3⟩:=a3V.1 hz;exact⟨z,a3V.2 ⟨a3L.2 ⟨h0,h1⟩,r,hr,h.trans h2,h3⟩,hy⟩
theorem DpM.bd(hr:∀x∈mbS s d,0<=x/\x<nD m)(h:DpM s m d x):0<=x/\x<nD m:=by obtain⟨z,hz,hx⟩:=h;exact hx.bd (hr z hz).1 (hr z hz).2
theorem a0T(h:VR s)(d:Int):SameR s s d:=by
 have key:∀(i:Nat) (r:V8),s.2.2.2.2[i]? =some r->EqR s s r r:=λi r hr=>by
  refine⟨rfl,rfl,rfl,?_⟩;rcases h.par hr with e|⟨p,q,e,_,hq,_⟩
  .have:r.2.2.1=-1:=by rw[←e];unfold vW;rw[hr]
   exact .inl ⟨this,this⟩
  .have:r.2.2.1=(p:Int):=by rw[←e];unfold vW;rw[hr]
   exact .inr ⟨p,p,q,q,this,this,hq,hq,rfl⟩
 exact⟨λi r hr _=>⟨i,r,hr,key i r hr⟩,λj q hq _=>⟨j,q,hq,key j q hq⟩⟩
structure EvC (l:S9) (k:Int) (s:A8) (c:dI) (d:Int) (X:DB) (b:List DB):Prop where
 hL:SmL l
 hC:SmC c
 hT:∀t∈l.2.1,kR t
 hs:F9 l.2.2 k=some s
 ha:(Gf l k c true d).1=0
 ev:TF l s c (wS s d) (wM s (Y6 l s) d)= .inl (X,b)
section
variable {l:S9} {k:Int} {s:A8} {c:dI} {d:Int} {X:DB} {b:List DB} (h:EvC l k s c d X b)
include h
theorem EvC.hv:(dK l).1=0:=(QS h.ha).1
theorem EvC.dd:0<=d/\d<nD s:=ZG h.ha h.hs
theorem EvC.sm:SmS s:=h.hL.sc s (cO h.hs).2.2.1
theorem EvC.smm:SmS (Y6 l s):=T_ h.hL h.hv h.hs
theorem EvC.mb:∀x∈mbS s d,0<=x/\x<nD (Y6 l s):=WQ h.hv (cO h.hs).2.2.2 d
theorem EvC.mb2(x:Int):∀y∈mbS s x,0<=y/\y<nD (Y6 l s):=WQ h.hv (cO h.hs).2.2.2 x
theorem EvC.os:a1t s (mf s).1/\∀d,0<=d->d<nD s->d∈(mf s).1:=a0l h.sm (a1n h.hv (cO h.hs).2.2.2)
theorem EvC.om:a1t (Y6 l s) (mf (Y6 l s)).1/\∀d,0<=d->d<nD (Y6 l s)->d∈(mf (Y6 l s)).1:=a0l h.smm (b4W h.hv h.hs)
theorem EvC.refp(hx:DpS s d x):a1s s (λy=>y∈O6 s x) (λy=>ND (wM s (Y6 l s) d) y) x:=λr hr hd e he=>
 ⟨(TB h.hv (cO h.hs).2.2.2 x r hr hd e he).1,λy hy=>(b8l h.mb y).2 ⟨y,a3V.2 ⟨a3L.2 h.dd,r,hr,by rw[hd];exact hx,by
  unfold DU;rcases he with rfl|rfl
  .exact P8 _ hy
  .exact gV _ hy⟩,.inl rfl⟩⟩
theorem EvC.mS' :mS l c (Y6 l s) (wM s (Y6 l s) d)= .inl b/\scS s (wZ l s c b) (-1) (wS s d)= .inl X:=by
 have he:=h.ev;unfold TF at he;cases hb:mS l c (Y6 l s) (wM s (Y6 l s) d)with
 |inr e=>rw[hb]at he;cases he|inl b0=>
  rw[hb]at he;simp only at he;cases hx:scS s (wZ l s c b0) (-1) (wS s d)with
  |inr e=>rw[hx]at he;cases he|inl X0=>rw[hx]at he;cases he;exact⟨rfl,hx⟩
theorem EvC.bl:b.length=c.2.2.length:=a3T h.mS'.1
theorem EvC.eo:EvOk (wZ l s c b):=Qi h.hT s c (by have:=h.bl;have:=h.hC.nm;omega)
theorem EvC.fix(hx:DpS s d x):∃v r,F9 X.1 x=some v/\F9 X.2 x=some r/\Ey s (AP (wZ l s c b) X.1) (-1) x= .inl (v,r):=by have hb:=hx.bd h.dd.1 h.dd.2;exact a8u h.eo h.os.1 h.mS'.2 (h.os.2 x hb.1 hb.2) ((b3t h.dd.1 h.dd.2 x).2 hx) (h.refp hx)
theorem EvC.two(hx:DpS s d x):Two s s (wS s d) (wS s x) (λy=>ND (wM s (Y6 l s) x) y):=by
 have hb:=hx.bd h.dd.1 h.dd.2;have hk:=cO h.hs;refine⟨rfl,b9O h.hv hk.2.2.1,b9O h.hv hk.2.2.1,h.os,h.os,λy hy=>?_⟩;have hy' :=(b3t hb.1 hb.2 y).1 hy;have hr:a1s s (λz=>z∈O6 s y) (λz=>ND (wM s (Y6 l s) x) z) y:=λr hr hd e he=>
  ⟨(TB h.hv hk.2.2.2 y r hr hd e he).1,λz hz=>(b8l (h.mb2 x) z).2 ⟨z,a3V.2 ⟨a3L.2 hb,r,hr,by rw[hd];exact hy',by
   unfold DU;rcases he with rfl|rfl
   .exact P8 _ hz
   .exact gV _ hz⟩,.inl rfl⟩⟩
 exact⟨hy'.bd hb.1 hb.2,(b3t h.dd.1 h.dd.2 y).2 (hx.trans hy'),a0T (b9O h.hv hk.2.2.1) y,λz hz=>(b3t hb.1 hb.2 z).2 (hy'.dir hz),hr,hr⟩
theorem EvC.twoM(hx:DpS s d x):Two (Y6 l s) (Y6 l s) (wM s (Y6 l s) d) (wM s (Y6 l s) x) (λ_=>False):=by refine⟨rfl,b8k h.hv h.hs,b8k h.hv h.hs,h.om,h.om,λy hy=>?_⟩;have hy' :=(b8l (h.mb2 x) y).1 hy;refine⟨hy'.bd (h.mb2 x),(b8l h.mb y).2 (hy'.up h.dd.1 h.dd.2 hx),a0T (b8k h.hv h.hs) y,λz hz=>(b8l (h.mb2 x) z).2 ?_,XQ h.hv h.hs y,XQ h.hv h.hs y⟩;obtain⟨w,hw,hyw⟩:=hy';exact⟨w,hw,hyw.dir hz⟩
theorem EvC.at(hx:DpS s d x):∃v r,F9 X.1 x=some v/\F9 X.2 x=some r/\a3E l s c x=(v,r,0,0,0,0)/\Ey s (AP (wZ l s c b) X.1) (-1) x= .inl (v,r):=by
 have hb:=hx.bd h.dd.1 h.dd.2;obtain⟨v,r,f1,f2,f3⟩:=h.fix hx;obtain⟨m1,m2⟩:=h.mS';obtain⟨b',g1,g2,g3⟩:=c4f rfl h.hT (h.twoM hx) c.2.2.zipIdx [] [] b ⟨rfl,λ_ _=>rfl⟩ m1;have hE:SimE (λz=>ND (wM s (Y6 l s) x) z) (wZ l s c b) (wZ l s c b'):=by refine⟨rfl,rfl,rfl,by simp[wZ,g2],λz hz=>?_⟩;have:=g3 z hz;simp only[wZ,uN];exact this
 have hbl:=h.bl;have hcm:=h.hC.nm;have hb' :EvOk (wZ l s c b'):=Qi h.hT s c l9;obtain⟨Y,y1,y2⟩:=c6q (h.two hx) hE h.eo hb' m2;have hself:DpS s x x:=.inl rfl;have hnx:=(b3t hb.1 hb.2 x).2 hself;have hrx:a1s s (λz=>z∈O6 s x) (λz=>ND (wM s (Y6 l s) x) z) x:=(h.two hx).at' x hnx |>.2.2.2.2.1;obtain⟨v',r',f1',f2',f3'⟩:=a8u hb' h.os.1 y1 (h.os.2 x hb.1 hb.2) hnx hrx;have hsim:=d_ (s:=s) (hE.at (P:=λz=>z∈O6 s x) (D:=X.1) (D' :=Y.1) (by rw[(RU m2).1,(RU y1).1]) (λz hz=>(y2 z ((b3t hb.1 hb.2 z).2 (hself.dir hz))).symm)) (FD h.eo _) (FD hb' _) hrx (-1);rw[f3,f3']at hsim;cases hsim;refine⟨v,r,f1,f2,?_,f3⟩;unfold a3E TF;rw[show mS l c (Y6 l s) (EY (Y6 l s) (xE (Y6 l s).2.2.2.1.length) (mbS s x))= .inl b' from g1];simp only;rw[show scS s (wZ l s c b') (-1) (Le s (xE s.2.2.2.1.length) x)= .inl Y from y1];have e1:Y.1.getD x.toNat (0,0,0)=v:=by unfold F9 at f1';rw[if_pos hb.1]at f1';rw[vK,f1'];rfl
 have e2:Y.2.getD x.toNat 0=r:=by unfold F9 at f2';rw[if_pos hb.1]at f2';rw[vK,f2'];rfl
 show(Y.1.getD x.toNat (0,0,0),Y.2.getD x.toNat 0,(0:Int),(0:Int),(0:Int),(0:Int))=_;rw[e1,e2]
end
end
section
theorem a7Q{l:S9}{k:Int}{c:dI}{d:Int}(h:(Gf l k c true d).1=0):(Gf l k c false 0).1=0:=by
 unfold Gf at h ⊢;cases h0:x8 (dK l).1 0<;>rw[h0]at h
 .exact h
 cases hs:F9 l.2.2 k with
 |none=>rw[hs]at h;exact h|some s=>
  rw[hs]at h;simp only[o7,o6]at h ⊢;cases h1:(l7 (E9 d 0) true (N7 (o9 s.2.2.2.1) d))<;>rw[h1]at h
  .exact h
  .exact absurd (show(6:Int)=0 from h) G6
section
variable {l:S9} {k:Int} {s:A8} {c:dI} {d:Int} {X:DB} {b:List DB} (h:EvC l k s c d X b)
include h
end
end
section
variable {α:Type}{β:Type}
theorem Rf(g:α->β)(q:α->α->Bool)(hq:∀x y,q x y=true↔g x=g y){a b:List α}(hl:a.length<=1000000){f:Int->Option (Out Int PUnit Bool)}
  (hin:∀(i:Nat) x y,a[i]? =some x->b[i]? =some y->f (i:Int)=l7 (E9 (i:Int) (o9 a)) (l7 (E9 (i:Int) (o9 b)) (l7 (D9 (q x y)) (some (.rt false)) (some (.nx (A7 .i64 (i:Int) 1)))) (some (.ex PUnit.unit))) (some (.ex PUnit.unit))) (hend:f (a.length:Int)=some (.ex PUnit.unit)):
  (l7 (D9 (x8 (o9 a) (o9 b))) (some false) (o5 (V7 f 0) λo=>X9 o (λ_=>some true) λr=>some r))=some (eqB (a.map g) (b.map g)):=
 Nh g q hq hl (λi x y hx hy=>by rw[hin i x y hx hy,H5 hx,o7,H5 hy,o7]) hend
theorem a7f{a:List c9i}(b:List c9i)(h:a.length<=1000000):Oo a b=some (eqB a b):=by
 unfold Oo;rw[←Bq];refine Rf (λx=>x) (λx y=>seq x y) (λx y=>ig) h (λi x y hx hy=>?_) ?_
 .simp only[F5,hx,hy,o8]
 .simp only[G7];rfl
theorem b6U{a:List rF}(b:List rF)(h:a.length<=1000000):Xy a b=some (eqB a b):=by
 unfold Xy;rw[←Bq];refine Rf (λx=>x) (λ(x y:rF)=>V9 (x8 x.1.1 y.1.1) (V9 (x8 x.1.2 y.1.2) (V9 (x8 x.2.1 y.2.1) (V9 (x8 x.2.2.1 y.2.2.1) (x8 x.2.2.2 y.2.2.2)))))
  (λx y=>by simp only[wF,O9,kZ,and_assoc]) h (λi x y hx hy=>?_) ?_
 .simp only[F5,hx,hy,o8]
 .simp only[G7];rfl
theorem a0R{a:List bH}(b:List bH)(h:a.length<=1000000):Dh a b=some (eqB a b):=by
 unfold Dh;rw[←Bq];refine Rf (λx=>x) (λ(x y:bH)=>V9 (seq x.1 y.1) (V9 (x8 x.2.1 y.2.1) (x8 x.2.2 y.2.2)))
  (λx y=>by simp only[wF,O9,ig,kZ]) h (λi x y hx hy=>?_) ?_
 .simp only[F5,hx,hy,o8]
 .simp only[G7];rfl
theorem a3b{a:List ak}(b:List ak)(h:a.length<=1000000):Om a b=some (eqB a b):=by
 unfold Om;rw[←Bq];refine Rf (λx=>x) (λ(x y:ak)=>V9 (x8 x.1 y.1) (x8 x.2 y.2))
  (λx y=>by simp only[wF,O9,kZ]) h (λi x y hx hy=>?_) ?_
 .simp only[F5,hx,hy,o8]
 .simp only[G7];rfl
theorem b6S{x:dB}(y:dB)(h:x.2.length<=1000000):Xw x y=some (eqB x y):=by
 unfold Xw;rw[a7f y.2 h,o8];by_cases e:x.1=y.1
 .rw[ig.2 e,o7];congr 1;exact LD ⟨λh=>Y0 e h,λh=>by rw[h]⟩
 .rw[Ot.2 e,o6,xY (λh=>e (by rw[h]))]
theorem b3a{x:bn}(y:bn)(h:x.2.2.2.length<=1000000):Uh x y=some (eqB x y):=by
 unfold Uh;rw[b6U y.2.2.2 h,o8];by_cases e:x=y
 .subst e;rw[ig.2 rfl,J7 rfl,J7 rfl,J7 rfl,J7 rfl,Hq rfl,Hq rfl];rfl
 .rw[xY e];by_cases e1:x.1=y.1
  case neg=>rw[Ot.2 e1];rfl
  rw[ig.2 e1,o7];cases h2:V9 (x8 x.2.1.1 y.2.1.1) (x8 x.2.1.2 y.2.1.2)
  .rfl
  cases h3:V9 (x8 x.2.2.1.1 y.2.2.1.1) (x8 x.2.2.1.2 y.2.2.1.2)
  .rfl
  simp only[wF,O9]at h2 h3;rw[o7,o7,xY];intro h4;exact e (Y0 e1 (Y0 (Y0 h2.1 h2.2) (Y0 (Y0 h3.1 h3.2) h4)))
variable {a:S9}
theorem Vz(b:S9)(hA:SmL a)(hT:∀t∈a.2.1,kR t)(hv:(dK a).1=0):AX a b=some (siS a b):=by
 have hf:=hA.few;have h1:Ug a.1 b.1=some (eqB a.1 b.1):=by
  unfold Ug;rw[←Bq];refine Rf (λx=>x) (λ(x y:dB)=>eqB x y) (λx y=>Bo) (by have:=hf.1;omega) (λi x y hx hy=>?_) ?_
  .have:=Ui hv x (iL hx);simp only[F5,hx,hy,o8,b6S y (show x.2.length<=1000000 by omega)]
  .simp only[G7];rfl
 have h2:QD a.2.1 b.2.1=some (eqB a.2.1 b.2.1):=by
  unfold QD;rw[←Bq];refine Rf (λx=>x) (λ(x y:bn)=>eqB x y) (λx y=>Bo) (by have:=hf.2.1;omega) (λi x y hx hy=>?_) ?_
  .have:=(hT x (iL hx)).1;simp only[F5,hx,hy,o8,b3a y (show x.2.2.2.length<=1000000 by omega)]
  .simp only[G7];rfl
 have h3:=Nh (f:=λ(x:Int)=>
      l7 (E9 x (o9 a.2.2))
       (o5 (F9 a.2.2 x) λ(x_1:A8)=>
        o5 (F9 b.2.2 x) λ(x_2:A8)=>
         l7 (D9 (seq x_1.1 x_2.1)) (some (Out.rt false))
          (l7 (D9 (x8 x_1.2.1 x_2.2.1)) (some (Out.rt false))
           (o5 (Dh x_1.2.2.1 x_2.2.2.1) λ(x_3:Bool)=>
            l7 (D9 x_3) (some (Out.rt false))
             (o5 (Dh x_1.2.2.2.1 x_2.2.2.2.1) λ(x_4:Bool)=>
              l7 (D9 x_4) (some (Out.rt false)) (some (Out.nx (A7 IntKind.i64 x 1)))))))
       (some (Out.ex PUnit.unit))) (a:=a.2.2) (b:=b.2.2) JE (λ(x y:A8)=>eqB (JE x) (JE y)) (λx y=>Bo) (by have:=hf.2.2;omega) (λi x y hx hy=>by
  have hS:=hA.sc x (iL hx);have hni:=hS.ni;have hnd:=hS.nd;simp only[H5 hx,o7,F5,hx,hy,o8,a0R y.2.2.1 (show x.2.2.1.length<=1000000 by omega),a0R y.2.2.2.1 (show x.2.2.2.1.length<=1000000 by omega)];have key:JE x=JE y↔(x.1=y.1/\x.2.1=y.2.1/\x.2.2.1=y.2.2.1/\x.2.2.2.1=y.2.2.2.1):=by unfold JE;simp only[dG]
  by_cases e1:x.1=y.1
  case neg=>rw[Ot.2 e1,xY (λh=>e1 (key.1 h).1)];rfl
  by_cases e2:x.2.1=y.2.1
  case neg=>rw[ig.2 e1,J6 e2,xY (λh=>e2 (key.1 h).2.1)];rfl
  by_cases e3:x.2.2.1=y.2.2.1
  case neg=>rw[ig.2 e1,J7 e2,xY e3,xY (λh=>e3 (key.1 h).2.2.1)];rfl
  rw[ig.2 e1,J7 e2,Hq e3,LD (show x.2.2.2.1=y.2.2.2.1↔JE x=JE y from⟨λh=>key.2 ⟨e1,e2,e3,h⟩,λh=>(key.1 h).2.2.2⟩)];rfl) (by simp only[G7];rfl)
 unfold AX siS;rw[h1,o8,h2,o8];cases eqB a.1 b.1
 .rfl
 cases eqB a.2.1 b.2.1
 .rfl
 simp only[E5,o6,eG];cases hl:x8 (o9 a.2.2) (o9 b.2.2)
 .rw[hl]at h3;simp only[aV,o7]at h3;simp only[aV,o7,o8,uh];exact h3
 .rw[hl]at h3;simp only[E5,o6]at h3;simp only[E5,o6,o8,L6];exact h3
def b2D(o:Option (α×Int)):Int:=match o with|some x=>x.2|none=>-1
variable {l:List α}
theorem b0p(hl:l.length<=1000000)(p:α->Bool){f:Int->Option (Out Int PUnit Int)} (hin:∀(i:Nat) x,l[i]? =some x->f (i:Int)=l7 (p x) (some (.rt (i:Int))) (some (.nx (A7 .i64 (i:Int) 1)))) (hend:f (l.length:Int)=some (.ex PUnit.unit)):
  (o5 (V7 f 0) λ(o:PUnit⊕Int)=>X9 o (λ(_:PUnit)=>some (-1)) λ(r:Int)=>some r)=some (b2D (ul p l 0)):=by
 have key:=sH (p:=λi=>match l[i]? with|some x=>l7 (p x) (some (i:Int)) none|none=>none) l.length hl PUnit.unit (f:=f) (λi hi=>by have hx:=dh hi;rw[hin i _ hx,hx];simp only;cases p l[i]<;>rfl) hend
 rw[key];cases hf:ul p l 0 with
 |some x=>
  obtain⟨j,h1,h2,h3,h4⟩:=EO (a:=x.1) (i:=x.2) hf;have hj:=(V6.1 h1).1;have:au l.length (λi=>match l[i]? with|some x=>l7 (p x) (some (i:Int)) none|none=>none)=some (j:Int):=by
   unfold au;rw[List.findSome?_eq_some_iff];refine⟨List.range j,j,(List.range (l.length -j -1)).map (λi=>j+1+i),?_,by rw[h1];simp only[h3,o7],λi hi=>?_⟩
   .apply lu
    .simp;omega
    .intro n g1 g2;simp only[List.getElem_range];rcases Nat.lt_trichotomy n j with h|h|h
     .rw[qf (by simpa using h)];simp
     .subst h;rw[List.getElem_append_right x9];simp
     .rw[List.getElem_append_right Y2,List.getElem_cons];simp only[gp];rw[dif_neg l9];simp;omega
   .have hij:i<j:=by simpa using hi
    have hx:=dh (show i<l.length by omega);rw[hx];simp only[h4 i _ hij hx,o6]
  rw[this];simp only[o8,uh,b2D];rw[h2];congr 1;omega
 |none=>
  have hn:=XX hf;have:au l.length (λi=>match l[i]? with|some x=>l7 (p x) (some (i:Int)) none|none=>none)=none:=by unfold au;rw[iT];intro i hi;have hx:=dh (show i<l.length by simpa using hi);rw[hx];simp only[hn _ (N8 _),o6]
  rw[this];rfl
theorem UH{p q:α->Bool}(h:∀a,p a=q a)(l:List α)(k:Nat):ul p l k=ul q l k:=by rw[show p=q from funext h]
theorem a6P{l:S9}(hl:l.2.2.length<=1000000)(n:c9i):Lc l n=some (b2D (BP l n)):=by
 unfold Lc BP;rw[UH (α:=A8) (λs=>QE n s.1)];refine b0p hl (λ(s:A8)=>seq s.1 n) (λi x hx=>?_) ?_
 .simp only[H5 hx,o7,F5,hx,o8]
 .simp only[G7];rfl
variable {s:A8}
theorem a8Y(hl:s.2.2.2.2.length<=1000000)(n:c9i):Og s n=some (b2D (Oj s n)):=by
 unfold Og Oj;rw[UH (α:=V8) (λr=>QE n r.1)];refine b0p hl (λ(r:V8)=>seq r.1 n) (λi x hx=>?_) ?_
 .simp only[H5 hx,o7,F5,hx,o8]
 .simp only[G7];rfl
theorem OV{l:S9}(hL:SmL l)(sn rn:c9i):yR l sn rn=some (cpS l sn rn):=by
 have hf:=hL.few.2.2;unfold yR cpS;rw[a6P l9,o8];cases hs:BP l sn with
 |none=>rfl|some x=>
  obtain⟨s,i⟩:=x;obtain⟨j,h1,h2,h3,_⟩:=EO hs;have h2:i=(j:Int):=by rw[h2];congr 1;omega
  subst h2;have hS:=hL.sc s (iL h1);have hn:=hS.nr;simp only[b2D];rw[N9 (show(0:Int)<=(j:Int) by omega),o6,F5,h1,o8,a8Y l9,o8];cases hr:Oj s rn with
  |none=>rfl|some y=>
   obtain⟨r,k⟩:=y;obtain⟨m,_,g2,_,_⟩:=EO hr;have g2:k=(m:Int):=by rw[g2];congr 1;omega
   subst g2;simp only[b2D];rw[N9 (show(0:Int)<=(m:Int) by omega),o6,o8]
theorem a6I(s:A8)(d:Int):FU s d=some (a3B s d):=by
 unfold FU a3B;rw[pI d 0,Bz (o9 s.2.2.2.1) d];cases h0:N7 0 d
 .rw[kw (.inl h0)];rfl
 cases h1:E9 d (o9 s.2.2.2.1)
 .rw[kw (.inr h1)];rfl
 obtain⟨x,hx⟩:=TL h0 h1;rw[hx];rfl
theorem a6L(s:A8)(d:Int):Au s d=some (a6D s d):=by
 unfold Au a6D;rw[pI d 0,Bz (o9 s.2.2.2.2) d];cases h0:N7 0 d
 .rw[kw (.inl h0)];rfl
 cases h1:E9 d (o9 s.2.2.2.2)
 .rw[kw (.inr h1)];rfl
 obtain⟨x,hx⟩:=TL h0 h1;rw[hx];rfl
theorem b2H{s t:A8}{i j:Int}{p q:V8}(hp:F9 s.2.2.2.2 i=some p)(hq:F9 t.2.2.2.2 j=some q)(h1:p.2.2.2.2.2.1.length<=1000000)(h2:p.2.2.2.2.2.2.1.length<=1000000):
  Qq s i t j=some (srS s p t q):=by
 unfold Qq srS;rw[hp,o8,hq,o8];simp only[a6I,a6L,o8,a3b q.2.2.2.2.2.1 h1,a3b q.2.2.2.2.2.2.1 h2];have key:trS s p=trS t q↔(a3B s p.2.1=a3B t q.2.1/\a6D s p.2.2.1=a6D t q.2.2.1/\p.2.2.2.1=q.2.2.2.1/\p.2.2.2.2.1=q.2.2.2.2.1/\p.2.2.2.2.2.1=q.2.2.2.2.2.1/\p.2.2.2.2.2.2.1=q.2.2.2.2.2.2.1/\p.2.2.2.2.2.2.2=q.2.2.2.2.2.2.2):=by unfold trS prS;simp only[dG];exact⟨λ⟨⟨a1,a2,a3,a4,a5⟩,a6,a7⟩=>⟨a1,a2,a3,a4,a6,a7,a5⟩,λ⟨a1,a2,a3,a4,a6,a7,a5⟩=>⟨⟨a1,a2,a3,a4,a5⟩,a6,a7⟩⟩
 have hF:¬trS s p=trS t q->eqB (trS s p) (trS t q)=false:=xY;by_cases e1:a3B s p.2.1=a3B t q.2.1
 case neg=>rw[Ot.2 e1,hF (λh=>e1 (key.1 h).1)];rfl
 by_cases e2:a6D s p.2.2.1=a6D t q.2.2.1
 case neg=>rw[ig.2 e1,Ot.2 e2,hF (λh=>e2 (key.1 h).2.1)];rfl
 by_cases e3:p.2.2.2.1=q.2.2.2.1
 case neg=>rw[ig.2 e1,ig.2 e2,J6 e3,hF (λh=>e3 (key.1 h).2.2.1)];rfl
 rw[ig.2 e1,ig.2 e2,J7 e3];simp only[o7];cases h4:V9 (x8 p.2.2.2.2.1.1 q.2.2.2.2.1.1) (x8 p.2.2.2.2.1.2 q.2.2.2.2.1.2)
 .rw[hF (λh=>by
   have e4:=(key.1 h).2.2.2.1;rw[show V9 (x8 p.2.2.2.2.1.1 q.2.2.2.2.1.1) (x8 p.2.2.2.2.1.2 q.2.2.2.2.1.2)=true from wF.2 ⟨J7 (by rw[e4]),J7 (by rw[e4])⟩]at h4;cases h4)]
  rfl
 simp only[wF,O9]at h4;have e4:p.2.2.2.2.1=q.2.2.2.2.1:=Y0 h4.1 h4.2;simp only[o7];by_cases e5:p.2.2.2.2.2.1=q.2.2.2.2.2.1
 case neg=>rw[xY e5,hF (λh=>e5 (key.1 h).2.2.2.2.1)];rfl
 by_cases e6:p.2.2.2.2.2.2.1=q.2.2.2.2.2.2.1
 case neg=>rw[Hq e5,xY e6,hF (λh=>e6 (key.1 h).2.2.2.2.2.1)];rfl
 rw[Hq e5,Hq e6];simp only[o7];congr 1;by_cases e7:p.2.2.2.2.2.2.2=q.2.2.2.2.2.2.2
 .rw[ig.2 e7,Hq (key.2 ⟨e1,e2,e3,e4,e5,e6,e7⟩)]
 .rw[Ot.2 e7,hF (λh=>e7 (key.1 h).2.2.2.2.2.2)]
variable {b:S9}
theorem Xd(hA:SmL a)(hB:SmL b):Ci a b=some (Sl a b):=by
 have fA:=hA.few.2.2;have fB:=hB.few.2.2;unfold Ci Sl;have e0:=wO (λs:A8=>s.2.2.2.2.flatMap (GZ b s)) a.2.2 [];rw[H9]at e0;have hlen:(a.2.2.flatMap λs=>s.2.2.2.2.flatMap (GZ b s)).length<=60*a.2.2.length:=pX _ 60 λs hs=>by have:=pX (GZ b s) 1 (l:=s.2.2.2.2) (λr _=>Jw b s r);have h2:=(hA.sc s hs).nr;omega
 refine aO a.2.2 (λ(acc:List O0) s=>acc++s.2.2.2.2.flatMap (GZ b s)) (λb i=>(b,i)) (λb=>b) (λi acc=>acc.length<=60*i) [] l9 x9 (λi s acc hs hi hI=>?_) (λacc hI=>?_) (λ_=>?_)
 .have hS:=hA.sc s (iL hs);have hlt:=(V6.1 hs).1;have hn:=hS.nr;have hl1:=pX (GZ b s) 1 (l:=s.2.2.2.2) (λr _=>Jw b s r);refine⟨?_,by rw[E8];omega⟩;simp only[H5 hs,o7,F5,hs,o8];have e1:=wO (GZ b s) s.2.2.2.2 acc;refine aO s.2.2.2.2 (λ(acc:List O0) r=>acc++GZ b s r) (λb i=>(b,i)) (λb=>b) (λj c=>c.length<=60*i+j) acc l9 l9 (λj r c hr hj hJ=>?_) (λc hJ=>?_) (λ_=>?_)
  .have hjl:=(V6.1 hr).1;obtain⟨_,g1,g2⟩:=hS.ro r (iL hr);have hrl:=Jw b s r;refine⟨?_,by rw[E8];omega⟩;simp only[H5 hr,o7,F5,hr,o8,OV hB];have e2:=Z5 (show j<=9000000000000000000 by omega);rcases QV b s.1 r.1 with⟨q1,q2⟩|⟨t,q,k,q1,q2,q3,q4,q5,q6,q7⟩
   .rw[q2];unfold GZ;rw[q1];simp only[aV,o7];rw[yg Y2,o8,e2]
   .rw[q2];have hsr:=b2H (s:=s) (t:=t) (i:=(j:Int)) (j:=k) (p:=r) (q:=q) (by rw[F5];exact hr) q3 l9 l9;simp only[E5,o6,hsr,o8];unfold GZ;rw[q1];simp only;cases srS s r t q
    .simp only[aV,o7,o6];rw[yg Y2,o8,e2]
    .simp only[E5,o7,o6,H8,e2]
  .simp only[G7];rfl
  .rw[e1];simp only[Z5 (show i<=9000000000000000000 by omega)]
 .simp only[G7];rfl
 rw[e0];generalize (a.2.2.flatMap λs=>s.2.2.2.2.flatMap (GZ b s))=base at*;have e3:=wO (λs:A8=>s.2.2.2.2.flatMap (MQ a s)) b.2.2 base;refine aO b.2.2 (λ(acc:List O0) s=>acc++s.2.2.2.2.flatMap (MQ a s)) (λb i=>(b,i)) (λb=>b) (λi acc=>acc.length<=60000+60*i) base l9 l9 (λi s acc hs hi hI=>?_) (λacc hI=>?_) (λ_=>by rw[e3])
 .have hS:=hB.sc s (iL hs);have hlt:=(V6.1 hs).1;have hn:=hS.nr;have hl1:=pX (MQ a s) 1 (l:=s.2.2.2.2) (λr _=>Pv a s r);refine⟨?_,by rw[E8];omega⟩;simp only[H5 hs,o7,F5,hs,o8];have e1:=wO (MQ a s) s.2.2.2.2 acc;refine aO s.2.2.2.2 (λ(acc:List O0) r=>acc++MQ a s r) (λb i=>(b,i)) (λb=>b) (λj c=>c.length<=60000+60*i+j) acc l9 l9 (λj r c hr hj hJ=>?_) (λc hJ=>?_) (λ_=>?_)
  .have hjl:=(V6.1 hr).1;have hrl:=Pv a s r;refine⟨?_,by rw[E8];omega⟩;simp only[H5 hr,o7,F5,hr,o8,OV hA];have e2:=Z5 (show j<=9000000000000000000 by omega);rcases QV a s.1 r.1 with⟨q1,q2⟩|⟨t,q,k,q1,q2,q3,q4,q5,q6,q7⟩
   .rw[q2];unfold MQ;rw[q1];simp only[aV,o7];rw[yg Y2,o8,e2]
   .rw[q2];unfold MQ;rw[q1];simp only[E5,o6,H8,e2]
  .simp only[G7];rfl
  .rw[e1];simp only[Z5 (show i<=9000000000000000000 by omega)]
 .simp only[G7];rfl
def a3M(D:c9h)(x:Int):Bool:=D.any λd=>x8 d x
def dfS(s:A8)(D:c9h)(n:c9i):Bool:=s.2.2.2.2.any λr=>seq r.1 n&&a3M D r.2.1
theorem a6n{eq:α->α->Bool}(hE:∀a b,eq a b=true↔a=b)(l:List (α×Bool))(k k' :α):oQ eq (AU eq l k true) k' false=(eq k' k || oQ eq l k' false):=by have:=(WT hE k true k' l).2 false;show JX eq (Qc eq l k true) k' false=_;rw[this];show l7 (eq k' k) true (JX eq l k' false)=(eq k' k || JX eq l k' false);cases eq k' k<;>rfl
theorem b4C(a b:Int):x8 a b=x8 b a:=by
 by_cases h:a=b
 .rw[h]
 .rw[J6 h,J6 (λe=>h e.symm)]
theorem b8G(a b:Int):(λ(a b:Int)=>x8 a b) a b=true↔a=b:=O9
theorem b8H(a b:bQ):eqN a b=true↔a=b:=b6X a b
theorem b6o:∀(D:c9h) (acc:List (Int×Bool)) (x:Int),oQ (λ(a b:Int)=>x8 a b) (D.foldl (λ(acc:List (Int×Bool)) d=>AU (λ(a b:Int)=>x8 a b) acc d true) acc) x false=(a3M D x || oQ (λ(a b:Int)=>x8 a b) acc x false)
 |[],acc,x=>rfl|d::D,acc,x=>by rw[G9,b6o D,a6n b8G];unfold a3M;rw[lZ,b4C x d];cases x8 d x<;>cases D.any (λd=>x8 d x)<;>rfl
theorem a6p(sn:c9i)(p:V8->Bool)(q n:c9i):∀(rs:List V8) (acc:Um),oQ eqN (rs.foldl (λ(acc:Um) r=>l7 (p r) (AU eqN acc (sn,r.1) true) acc) acc) (q,n) false=(oQ eqN acc (q,n) false || (seq sn q&&rs.any λr=>seq r.1 n&&p r))
 |[],acc=>by simp|r::rs,acc=>by
  rw[G9,a6p sn p q n rs,lZ];cases hp:p r
  .simp
  .rw[o7,a6n b8H];show((V9 (seq q sn) (seq n r.1) || oQ eqN acc (q,n) false) || _)=_;rw[QE q sn,QE n r.1];unfold V9;cases seq sn q<;>cases seq r.1 n<;>cases oQ eqN acc (q,n) false<;>simp
variable {D:c9h}
theorem ZX(hS:SmS s)(L:Um)(hD:D.length<=1000000):∃L',tq L s D=some L' /\∀q n,oQ eqN L' (q,n) false=(oQ eqN L (q,n) false || (seq s.1 q&&dfS s D n)):=by
 have hn:=hS.nr;refine⟨s.2.2.2.2.foldl (λ(acc:Um) r=>l7 (oQ (λ(a b:Int)=>x8 a b) (D.foldl (λ(acc:List (Int×Bool)) d=>AU (λ(a b:Int)=>x8 a b) acc d true) []) r.2.1 false) (AU eqN acc (s.1,r.1) true) acc) L,?_,λq n=>?_⟩
 .unfold tq;refine aO D (λ(acc:List (Int×Bool)) d=>AU (λ(a b:Int)=>x8 a b) acc d true) (λb i=>(b,i)) (λb=>b) (λ_ _=>True) [] hD trivial (λi d acc hd hi _=>⟨?_,trivial⟩) (λacc _=>?_) (λ_=>?_)
  .simp only[H5 hd,o7,F5,hd,o8,Z5 (show i<=9000000000000000000 by omega)]
  .simp only[G7];rfl
  refine aO s.2.2.2.2 (λ(acc:Um) r=>l7 (oQ (λ(a b:Int)=>x8 a b) (D.foldl (λ(acc:List (Int×Bool)) d=>AU (λ(a b:Int)=>x8 a b) acc d true) []) r.2.1 false) (AU (λ(a b:bQ)=>V9 (seq a.1 b.1) (seq a.2 b.2)) acc (s.1,r.1) true) acc) (λb i=>(b,i)) (λb=>b) (λ_ _=>True) L l9 trivial (λi r acc hr hi _=>⟨?_,trivial⟩) (λacc _=>?_) (λ_=>rfl)
  .simp only[H5 hr,o7,F5,hr,o8,Z5 (show i<=9000000000000000000 by omega)];cases oQ (λ(a b:Int)=>x8 a b) (D.foldl (λ(acc:List (Int×Bool)) d=>AU (λ(a b:Int)=>x8 a b) acc d true) []) r.2.1 false<;>rfl
  .simp only[G7];rfl
 .rw[a6p s.1 (λr=>oQ (λ(a b:Int)=>x8 a b) (D.foldl (λ(acc:List (Int×Bool)) d=>AU (λ(a b:Int)=>x8 a b) acc d true) []) r.2.1 false) q n];unfold dfS;congr 3;funext r;rw[b6o];show(seq r.1 n&&(a3M D r.2.1 || false))=_;rw[Bool.or_false]
def b8Q(s m:A8)(d:Int):c9h:=(mbS s d).flatMap λx=>[x]++aB m x
def rlS(l:S9)(s:A8)(d:Int)(q n:c9i):Bool:=
 (seq s.1 q&&dfS s (aB s d++[d]) n) || (N7 0 s.2.1&&(seq (Y6 l s).1 q&&dfS (Y6 l s) (b8Q s (Y6 l s) d) n))
theorem b0G(s m:A8)(d:Int):(mbS s d).foldl (λ(acc:c9h) x=>acc++[x]++aB m x) []=b8Q s m d:=by rw[show(λ(acc:c9h) x=>acc++[x]++aB m x)=(λ(acc:c9h) x=>acc++([x]++aB m x)) by funext acc x;rw[F8]];rw[wO,H9];rfl
theorem b4U{s m:A8}(hS:SmS s)(hM:SmS m)(d:Int):(b8Q s m d).length<=100000:=by have hml:=Rw hS d;have:=pX (λx=>[x]++aB m x) 15 (l:=mbS s d) (λx _=>by have:=sS hM x;rw[E8];simp;omega);unfold b8Q;omega
variable {d:Int}{k:Int}
theorem YD{l:S9}(hL:SmL l)(hv:(dK l).1=0)(hs:F9 l.2.2 k=some s)(h0:0<=d)(h1:d<nD s):∃L,lM l k d=some L/\∀q n,oQ eqN L (q,n) false=rlS l s d q n:=by
 have hk:=cO hs;have hS:=hL.sc s hk.2.2.1;have ht:=sS hS d;obtain⟨L1,hL1,a1⟩:=ZX hS [] (D:=aB s d++[d]) (by rw[E8];simp;omega);unfold lM rlS;rw[hs,o8,vV hS h0 h1,o8,yg Y2,o8,hL1,o8];rcases vk hv hs with⟨g1,g2,g3⟩|⟨g1,g2,g3,g4,g5⟩
 .rw[g2];refine⟨L1,rfl,λq n=>?_⟩;rw[a1,g1];show(false || _)=_;simp
 .rw[g2,g3];simp only[o6,o8,L6];have hM:=hL.sc _ g5;have hml:=Rw hS d;rw[g4,o8,KU hS h0 h1,o8];have hfl:=b0G s (Y6 l s) d;have hdl:=b4U hS hM d;obtain⟨L2,hL2,b1⟩:=ZX hM L1 (D:=(mbS s d).foldl (λ(acc:c9h) x=>acc++[x]++aB (Y6 l s) x) []) (by rw[hfl];omega);refine⟨L2,?_,λq n=>?_⟩
  .refine aO (mbS s d) (λ(acc:c9h) x=>acc++[x]++aB (Y6 l s) x) (λb i=>(b,i)) (λb=>b) (λi acc=>acc.length<=15*i) [] l9 x9 (λi x acc hx hi hI=>?_) (λacc _=>?_) (λ_=>?_)
   .have hlt:=(V6.1 hx).1;have hin:=WQ hv hk.2.2.2 d x (iL hx);have htm:=sS hM x;have hg:O8 (mbS s d) (U6 (i:Int))=some x:=by unfold O8 U6;simpa using hx
    refine⟨?_,by simp only[E8,dE];omega⟩;simp only[H5 hx,o7,F5,hx,o8,hg];rw[yg Y2,o8,vV hM hin.1 hin.2,o8,yg Y2,o8,Z5 (show i<=9000000000000000000 by omega)]
   .simp only[G7];rfl
   .rw[hL2];rfl
  .rw[b1,a1,hfl,g1];show((false || _) || _)=_;simp
theorem b2I(hD:D.length<=1000000)(x:Int):Xj D x=some (a3M D x):=by
 unfold Xj a3M;refine X8 (vX D (λd=>x8 d x) true PUnit.unit hD (λi a ha=>?_) ?_) ?_
 .simp only[H5 ha,o7,F5,ha,o8];cases x8 a x<;>rfl
 .rw[G7];rfl
 .cases D.any (λd=>x8 d x)<;>rfl
theorem Yu(hS:SmS s)(hD:D.length<=1000000)(n:c9i):FV s D n=some (dfS s D n):=by
 have hn:=hS.nr;unfold FV dfS;refine X8 (vX s.2.2.2.2 (λr=>seq r.1 n&&a3M D r.2.1) true PUnit.unit l9 (λi a ha=>?_) ?_) ?_
 .simp only[H5 ha,o7,F5,ha,o8,b2I hD];cases seq a.1 n<;>cases a3M D a.2.1<;>rfl
 .rw[G7];rfl
 .cases s.2.2.2.2.any (λr=>seq r.1 n&&a3M D r.2.1)<;>rfl
theorem Vy{l:S9}(hL:SmL l)(hv:(dK l).1=0)(hs:F9 l.2.2 k=some s)(q n:c9i):zM l k d q n=some (rlS l s d q n):=by
 have hk:=cO hs;have hS:=hL.sc s hk.2.2.1;have ht:=sS hS d;unfold zM rlS;rw[hs,o8,zt hS,o8,yg Y2,o8];simp only[Yu hS (D:=aB s d++[d]) (by rw[E8];simp;omega),o8];cases h1:(seq s.1 q&&dfS s (aB s d++[d]) n)
 case true=>rw[C9]at h1;rw[h1.1,h1.2];rfl
 have key:∀(A:Unit),l7 (seq s.1 q) (l7 (dfS s (aB s d++[d]) n) (some (Sum.inr true)) (some (Sum.inl PUnit.unit))) (some (Sum.inl PUnit.unit))=(some (Sum.inl PUnit.unit):Option (PUnit.{1}⊕Bool)):=λ_=>by
  cases h2:seq s.1 q
  .rfl
  .rw[h2,eG]at h1;rw[h1];rfl
 rw[key ()];simp only[o8,L6,lY];rcases vk hv hs with⟨g1,g2,g3⟩|⟨g1,g2,g3,g4,g5⟩
 .rw[g2,g1];rfl
 .rw[g2,g1];have hM:=hL.sc _ g5;have hml:=Rw hS d;have hdl:=b4U hS hM d;simp only[o6,eG];rw[g4,o8,Qj hS,o8];have hfl:=b0G s (Y6 l s) d;refine aO (mbS s d) (λ(acc:c9h) x=>acc++[x]++aB (Y6 l s) x) (λb i=>(b,i)) (λb=>b) (λi acc=>acc.length<=15*i) [] l9 x9 (λi x acc hx hi hI=>?_) (λacc _=>?_) (λ_=>?_)
  .have hlt:=(V6.1 hx).1;have htm:=sS hM x;have hg:O8 (mbS s d) (U6 (i:Int))=some x:=by unfold O8 U6;simpa using hx
   refine⟨?_,by simp only[E8,dE];omega⟩;simp only[H5 hx,o7,F5,hx,o8,hg];rw[yg Y2,o8,zt hM,o8,yg Y2,o8,Z5 (show i<=9000000000000000000 by omega)]
  .simp only[G7];rfl
  .rw[hfl,Yu hM l9,o8];cases seq (Y6 l s).1 q<;>rfl
def rvR(a:S9)(s:A8)(b:S9)(t:A8)(d:Int)(x:O0):Bool:=
 l7 (D9 (x8 x.2.2 2)) (l7 (rlS a s d x.1 x.2.1) true (l7 (D9 (x8 x.2.2 1)) (rlS b t d x.1 x.2.1) false)) (l7 (D9 (x8 x.2.2 1)) (rlS b t d x.1 x.2.1) false)
variable {c:dI}
theorem a8c(hA:SmL a)(hB:SmL b)(hC:SmC c)(tA:∀t∈a.2.1,kR t)(tB:∀t∈b.2.1,kR t)(k d:Int):
  ∃r,nG a b k c d=some r/\Ld a b k c d=some r/\r.1.2.2.2.2.length<=120000:=by
 unfold nG Ld;rw[Gy hA,o8,Gy hB,o8,NQ hA,o8,NQ hB,o8];have zA:=KE a;have zB:=KE b;unfold b1v at zA zB;rw[zA,zB];cases vA:x8 (dK a).1 0
 .exact⟨_,rfl,rfl,eH _⟩
 cases vB:x8 (dK b).1 0
 .exact⟨_,rfl,rfl,eH _⟩
 simp only[E5,o6,o8,L6];have hvA:=O9.1 vA;have hvB:=O9.1 vB;cases hr:a9f a k d
 .unfold a9f at hr;cases h1:E9 k 0
  case true=>exact⟨_,rfl,rfl,eH _⟩
  rw[h1]at hr;cases h2:N7 (o9 a.2.2) k
  case true=>exact⟨_,rfl,rfl,eH _⟩
  rw[h2]at hr;cases h3:E9 d 0
  case true=>exact⟨_,rfl,rfl,eH _⟩
  rw[h3]at hr;simp only[o6]at hr ⊢;obtain⟨s,hs⟩:∃s,F9 a.2.2 k=some s:=TL (jJ.2 (iU.1 h1)) (iW.2 (BZ.1 h2));rw[hs]at hr ⊢;simp only[o8]at hr ⊢;cases h4:N7 (o9 s.2.2.2.1) d<;>rw[h4]at hr
  .cases hr
  .exact⟨_,rfl,rfl,eH _⟩
 obtain⟨s,hs,h0,h1⟩:=a6Y hr;obtain⟨k0,k1,_,_⟩:=cO hs;rw[N9 k0,ax k1,N9 h0,hs];simp only[o6,o8];rw[ax (show d<o9 s.2.2.2.1 from h1)];simp only[o6,o8,L6];rw[ML b hA tA hvA,o8,Vz b hA tA hvA,o8];cases hsi:siS a b
 .exact⟨_,rfl,rfl,eH _⟩
 simp only[E5,o6];obtain⟨t,ht,e⟩:=a0Y hsi hs;have e4:s.2.2.2.1=t.2.2.2.1:=congrArg (·.2.2.2) e;obtain⟨LA,hLA,eA⟩:=YD hA hvA hs h0 h1;obtain⟨LB,hLB,eB⟩:=YD hB hvB ht h0 (by unfold nD at h1 ⊢;rw[←e4];exact h1);have hcl:=a5q hA hB;have e0:=Nr (rvR a s b t d) (Sl a b) [];rw[H9]at e0;refine⟨(((evS a k c d).1,(evS b k c d).1,(evS a k c d).2,(evS b k c d).2,(Sl a b).filter (rvR a s b t d)),0),?_,?_,iI (bD _ _) hcl⟩
 .rw[Ia hA hC tA,o8,Ia hB hC tB,o8,hLA,o8,hLB,o8,OJ hA hB,o8];refine aO (Sl a b) (λ(acc:List O0) x=>l7 (rvR a s b t d x) (acc++[x]) acc) (λacc i=>(((evS a k c d).1,(evS b k c d).1,(evS a k c d).2,(evS b k c d).2,acc),i)) (λacc=>((evS a k c d).1,(evS b k c d).1,(evS a k c d).2,(evS b k c d).2,acc)) (λi acc=>acc.length<=i) [] l9 x9 (λi x acc hx hi hI=>?_) (λacc _=>?_) (λ_=>by rw[e0])
  .have hg:O8 (Sl a b) (U6 (i:Int))=some x:=by unfold O8 U6;simpa using hx
   refine⟨?_,by cases rvR a s b t d x<;>simp[l7]<;>omega⟩;simp only[H5 hx,o7,F5,hx,o8,hg,yg (show acc.length+[x].length<=1073741824 by simp;omega),Z5 (show i<=9000000000000000000 by omega)];rw[show oQ (λ(a b:bQ)=>V9 (seq a.1 b.1) (seq a.2 b.2)) LA (x.1,x.2.1) false=rlS a s d x.1 x.2.1 from eA _ _,show oQ (λ(a b:bQ)=>V9 (seq a.1 b.1) (seq a.2 b.2)) LB (x.1,x.2.1) false=rlS b t d x.1 x.2.1 from eB _ _];unfold rvR;cases x8 x.2.2 2<;>cases x8 x.2.2 1<;>cases rlS a s d x.1 x.2.1<;>cases rlS b t d x.1 x.2.1<;>rfl
  .simp only[G7];rfl
 .rw[Yv hA hC tA,o8,Yv hB hC tB,o8,Xd hA hB,o8];have vA2:=a8p a k c d;have vB2:=a8p b k c d;rw[vA2,vB2];refine aO (Sl a b) (λ(acc:List O0) x=>l7 (rvR a s b t d x) (acc++[x]) acc) (λacc i=>(((edS a k c d).1,(edS b k c d).1,(edS a k c d).2.2.1,(edS b k c d).2.2.1,acc),i)) (λacc=>((edS a k c d).1,(edS b k c d).1,(edS a k c d).2.2.1,(edS b k c d).2.2.1,acc)) (λi acc=>acc.length<=i) [] l9 x9 (λi x acc hx hi hI=>?_) (λacc _=>?_) (λ_=>by rw[e0])
  .have hg:O8 (Sl a b) (U6 (i:Int))=some x:=by unfold O8 U6;simpa using hx
   refine⟨?_,by cases rvR a s b t d x<;>simp[l7]<;>omega⟩;simp only[H5 hx,o7,F5,hx,o8,hg,yg (show acc.length+[x].length<=1073741824 by simp;omega),Z5 (show i<=9000000000000000000 by omega),Vy hA hvA hs,Vy hB hvB ht];unfold rvR;cases x8 x.2.2 2<;>cases x8 x.2.2 1<;>cases rlS a s d x.1 x.2.1<;>cases rlS b t d x.1 x.2.1<;>rfl
  .simp only[G7];rfl
theorem b3e{k i:Nat}{a:α}(h:(l.take k)[i]? =some a):l[i]? =some a/\i<k:=by
 rw[Y9]at h;split at h
 .exact⟨h,l9⟩
 .cases h
theorem b7V(l:List α)(k:Nat):(E9 (((l.take k).length:Nat):Int) (o9 l)=false)\/((l.take k).length=k):=by
 by_cases h:l.length<=k
 .left;rw[U5 h];exact G7 l
 .right;rw[az];omega
def b4v(a b:S9)(l:List dI):Bool:=bif (l.take 20).any (λc=> !smC c)then false else(smL a&&(smL b&&N7 (o9 l) 8))
theorem b4u(a b:S9)(l:List dI):Rk (a,b) l=some (b4v a b l):=by
 unfold Rk b4v;refine X8 (vX (l.take 20) (λc=> !smC c) false PUnit.unit (by rw[az];omega) (λi c hc=>?_) ?_) ?_
 rotate_left 2
 .cases (l.take 20).any (λc=> !smC c)
  .simp only[cond_false,L6,a7m,o8];cases smL a<;>cases smL b<;>rfl
  .rfl
 .obtain⟨h1,h2⟩:=b3e hc;simp only[H5 h1,o7,V5 (show(i:Int)<20 by omega),F5,h1,o8,a4L];cases smC c<;>rfl
 .rcases b7V l 20 with h|h
  .rw[h];rfl
  .rw[h];cases E9 ((20:Nat):Int) (o9 l)<;>rfl
theorem a8t{l:List dI}(h:b4v a b l=true):smL a=true/\smL b=true/\l.length<=8/\∀c∈l,SmC c:=by
 unfold b4v at h;cases h1:(l.take 20).any (λc=> !smC c)<;>rw[h1]at h
 case true=>cases h
 simp only[cond_false,C9,jJ]at h;obtain⟨h2,h3,h4⟩:=h;have hl:l.length<=8:=by simp only[o9]at h4;omega
 refine⟨h2,h3,hl,λc hc=>c2g ?_⟩;rw[U5 l9]at h1;have:=fZ.1 h1 c hc;simpa using this
def YX(acc x:Int):Int⊕(Int×Int):=l7 (jM x 1000000000000000) (.inr (0,3)) (l7 (jM (acc+x) 1000000000000000) (.inr (0,3)) (.inl (acc+x)))
def Iw(l:c9h):Int×Int:=match aP YX l 0 with| .inl n=>(n,0)| .inr r=>r
theorem b0F{l:c9h}(hl:l.length<=1000000):Md l=some (Iw l):=by
 unfold Md Iw;refine kU l YX (λn i=>((n,i):Int×Int)) (λn=>n) (λ_ n=>-1000000000000000<=n/\n<=1000000000000000) 0 hl l9 (λi x n hx hi hn=>?_) (λn _=>?_) (λ_=>?_)
 .simp only[H5 hx,o7,F5,hx,o8,wG _ (show(0:Int)<=1000000000000000 by omega) (show(1000000000000000:Int)<=9000000000000000000 by omega)];unfold YX;cases h1:jM x 1000000000000000
  case true=>exact⟨rfl,λ_ h=>by cases h⟩
  have hx1:=oL h1;simp only[o6];rw[X7 (show jl (n+x) by unfold jl;omega)];cases h2:jM (n+x) 1000000000000000
  case true=>exact⟨rfl,λ_ h=>by cases h⟩
  have hx2:=oL h2;simp only[o6];exact⟨by rw[Z5 (show i<=9000000000000000000 by omega)],λ_ h=>by cases h;omega⟩
 .simp only[G7];rfl
 .cases aP YX l 0<;>rfl
theorem a1c:∀{l:c9h} {n:Int} {r:Int×Int},aP YX l n= .inr r->r=(0,3)
 |[],n,r,h=>by cases h|x::l,n,r,h=>by
  unfold aP at h;cases hg:YX n x with
  |inl m=>rw[hg]at h;exact a1c h|inr q=>
   rw[hg]at h;cases h;unfold YX at hg;cases h1:jM x 1000000000000000<;>rw[h1]at hg
   .cases h2:jM (n+x) 1000000000000000<;>rw[h2]at hg<;>cases hg;rfl
   .cases hg;rfl
theorem b1q:∀{l:c9h} {n r:Int},(-1000000000000000<=n/\n<=1000000000000000)->aP YX l n= .inl r->(-1000000000000000<=r/\r<=1000000000000000)/\r=n+l.foldl (·+ ·) 0
 |[],n,r,hn,h=>by cases h;exact⟨hn,x9⟩|x::l,n,r,hn,h=>by
  unfold aP at h;cases hg:YX n x with
  |inr q=>rw[hg]at h;cases h|inl q=>
   rw[hg]at h;unfold YX at hg;cases h1:jM x 1000000000000000<;>rw[h1]at hg
   case true=>cases hg
   cases h2:jM (n+x) 1000000000000000<;>rw[h2]at hg
   case true=>cases hg
   have hb2:=oL h2;simp only[o6,Sum.inl.injEq]at hg;have fa:∀(l:c9h) (m:Int),l.foldl (·+ ·) m=m+l.foldl (·+ ·) 0:=by
    intro l;induction l with
    |nil=>intro m;simp|cons y l ih=>intro m;rw[G9,G9,ih (m+y),ih (0+y)];omega
   obtain⟨g1,g2⟩:=b1q l9 h;refine⟨g1,?_⟩;rw[G9,fa l (0+x),g2,←hg];omega
theorem a3h(l:c9h):(Iw l).2=0\/Iw l=(0,3):=by
 unfold Iw;cases h:aP YX l 0 with
 |inl n=>exact .inl rfl|inr r=>exact .inr (a1c h)
theorem a4R{l:c9h}(h:(Iw l).2=0):(-1000000000000000<=(Iw l).1/\(Iw l).1<=1000000000000000)/\(Iw l).1=l.foldl (·+ ·) 0:=by
 unfold Iw at h ⊢;cases hf:aP YX l 0 with
 |inl n=>obtain⟨g1,g2⟩:=b1q l9 hf;exact⟨g1,by simp only;omega⟩
 |inr r=>rw[hf]at h;rw[a1c hf]at h;exact absurd h G6
abbrev T7:=Int×Int×Int×Int×Int×Int×Int
def b2i(b:Bool):Int:=l7 b 1 0
def cn(p:α->Bool)(l:List α):Int:=((l.countP p:Nat):Int)
theorem a7Z(p:α->Bool):cn p []=0:=rfl
theorem a3y(p:α->Bool)(x:α)(l:List α):cn p (x::l)=b2i (p x)+cn p l:=by unfold cn b2i;rw[yE];cases p x<;>simp[l7]<;>omega
theorem KI(b:Bool):0<=b2i b/\b2i b<=1:=by cases b<;>decide
def b3U(x:X4):Bool:=x8 x.2.2.1 0&&x8 x.2.2.2.1 0
def pG(x:X4):Bool:=b3U x&&E9 x.1.2.2 x.2.1.2.2
def pR(x:X4):Bool:=b3U x&&E9 x.2.1.2.2 x.1.2.2
def pF(x:X4):Bool:=x8 x.2.2.1 0&&D9 (x8 x.2.2.2.1 0)
def cT(x:X4):T7:=(1,b2i (icS x),b2i (pG x),b2i (pR x),b2i (pF x),0,0)
theorem b1N(x:X4):yV x=some (cT x):=by
 unfold yV cT pG pR pF b3U;rw[Nw,o8];have hlt:E9 x.1.2.2 x.2.1.2.2=true->E9 x.2.1.2.2 x.1.2.2=false:=λh=>N9 (by rw[iW]at h;omega);cases icS x<;>cases x8 x.2.2.1 0<;>cases x8 x.2.2.2.1 0<;>try rfl
 all_goals
  cases h1:E9 x.1.2.2 x.2.1.2.2
  .cases E9 x.2.1.2.2 x.1.2.2<;>rfl
  .rw[hlt h1];rfl
def NH(x:X4):c9h:=l7 (x8 x.2.2.1 0) (l7 (x8 x.1.1 3) [x.1.2.2] []) []
def NF(x:X4):c9h:=l7 (x8 x.2.2.2.1 0) (l7 (x8 x.2.1.1 3) [x.2.1.2.2] []) []
theorem a6x(x:X4):(NH x).length<=1:=by unfold NH;cases x8 x.2.2.1 0<;>cases x8 x.1.1 3<;>simp[l7]
theorem a6q(x:X4):(NF x).length<=1:=by unfold NF;cases x8 x.2.2.2.1 0<;>cases x8 x.2.1.1 3<;>simp[l7]
def Zy(t u:T7):T7:=(t.1+u.1,t.2.1+u.2.1,t.2.2.1+u.2.2.1,t.2.2.2.1+u.2.2.2.1,t.2.2.2.2.1+u.2.2.2.2.1,t.2.2.2.2.2.1,t.2.2.2.2.2.2)
theorem b9Y:∀(L:List X4) (t:T7),L.foldl (λt x=>Zy t (cT x)) t=(t.1+o9 L,t.2.1+cn icS L,t.2.2.1+cn pG L,t.2.2.2.1+cn pR L,t.2.2.2.2.1+cn pF L,t.2.2.2.2.2.1,t.2.2.2.2.2.2)
 |[],t=>by simp only[List.foldl_nil,a7Z,o9,bT,yN,Int.natCast_zero]|x::L,t=>by rw[G9,b9Y L];unfold Zy cT;simp only[a3y,o9,G8,dG,and_true];refine⟨?_,?_,?_,?_,?_⟩<;>omega
def smT(i:Nat)(t:T7):Prop:=(0<=t.1/\t.1<=i)/\(0<=t.2.1/\t.2.1<=i)/\(0<=t.2.2.1/\t.2.2.1<=i)/\(0<=t.2.2.2.1/\t.2.2.2.1<=i)/\(0<=t.2.2.2.2.1/\t.2.2.2.2.1<=i)
variable {i:Nat}{t:T7}
theorem b9z(h:smT i t)(x:X4):smT (i+1) (Zy t (cT x)):=by have h1:=KI (icS x);have h2:=KI (pG x);have h3:=KI (pR x);have h4:=KI (pF x);unfold smT at h ⊢;unfold Zy cT;simp only;refine⟨⟨?_,?_⟩,⟨?_,?_⟩,⟨?_,?_⟩,⟨?_,?_⟩,?_,?_⟩<;>omega
theorem b8r(hi:i<=1000000)(h:smT i t)(x:X4):zX t (cT x)=some (Zy t (cT x)):=by have h1:=KI (icS x);have h2:=KI (pG x);have h3:=KI (pR x);have h4:=KI (pF x);unfold smT at h;unfold zX Zy cT;simp only;rw[X7 (show jl (t.1+1) by unfold jl;omega),X7 (show jl (t.2.1+b2i (icS x)) by unfold jl;omega),X7 (show jl (t.2.2.1+b2i (pG x)) by unfold jl;omega),X7 (show jl (t.2.2.2.1+b2i (pR x)) by unfold jl;omega),X7 (show jl (t.2.2.2.2.1+b2i (pF x)) by unfold jl;omega)]
def zT:T7:=(0,0,0,0,0,0,0)
def a7D(L:List X4):T7:=(o9 L,cn icS L,cn pG L,cn pR L,cn pF L,(Iw (L.flatMap NH)).1,(Iw (L.flatMap NF)).1)
def a1R(L:List X4):T7×Int:=l7 (D9 (x8 (Iw (L.flatMap NH)).2 0)) (zT,3) (l7 (D9 (x8 (Iw (L.flatMap NF)).2 0)) (zT,3) (a7D L,0))
theorem c1y(hi:i<=1000000)(h:smT i t)(x:X4):
  (l7 (V9 (x8 (cT x).1 1) (V9 (x8 (cT x).2.1 0) (V9 (x8 (cT x).2.2.1 0) (V9 (x8 (cT x).2.2.2.1 0) (V9 (x8 (cT x).2.2.2.2.1 0) (V9 (x8 (cT x).2.2.2.2.2.1 0) (x8 (cT x).2.2.2.2.2.2 0)))))))
   (some ((A7 .i64 t.1 1,t.2):jm)) (o5 (zX t (cT x)) λ(x:jm)=>some x))=some (Zy t (cT x)):=by
 rw[b8r hi h x,o8];cases hc:V9 (x8 (cT x).1 1) (V9 (x8 (cT x).2.1 0) (V9 (x8 (cT x).2.2.1 0) (V9 (x8 (cT x).2.2.2.1 0) (V9 (x8 (cT x).2.2.2.2.1 0) (V9 (x8 (cT x).2.2.2.2.2.1 0) (x8 (cT x).2.2.2.2.2.2 0))))))
 .rfl
 .simp only[wF,O9]at hc;obtain⟨h1,h2,h3,h4,h5,_,_⟩:=hc;rw[o7];unfold smT at h;rw[X7 (show jl (t.1+1) by unfold jl;omega)];unfold Zy;rw[h1,h2,h3,h4,h5];simp only[yN]
theorem b0q:∀(L:List X4) (b:T7×c9h×c9h),L.foldl (λ(b:T7×c9h×c9h) x=>(Zy b.1 (cT x),b.2.1++NH x,b.2.2++NF x)) b=(L.foldl (λt x=>Zy t (cT x)) b.1,b.2.1++L.flatMap NH,b.2.2++L.flatMap NF)
 |[],b=>by simp|x::L,b=>by rw[G9,b0q L];simp only[G9,kK,F8]
theorem b5o(L:List X4):(L.flatMap NH).length<=L.length:=by have:=pX NH 1 (l:=L) (λx _=>a6x x);omega
theorem b5d(L:List X4):(L.flatMap NF).length<=L.length:=by have:=pX NF 1 (l:=L) (λx _=>a6q x);omega
theorem b7R{L:List X4}(hl:L.length<=1000):Em L=some (a1R L):=by
 unfold Em;refine aO L (λ(b:T7×c9h×c9h) x=>(Zy b.1 (cT x),b.2.1++NH x,b.2.2++NF x)) (λb i=>(b.1,b.2.1,b.2.2,i)) (λb=>(b.1,b.2.1,b.2.2)) (λi b=>smT i b.1/\b.2.1.length<=i/\b.2.2.length<=i) (zT,[],[]) l9 ⟨by unfold smT zT;decide,F7 _,F7 _⟩ (λi x b hx hi hb=>?_) (λb _=>?_) (λ_=>?_)
 .obtain⟨h1,h2,h3⟩:=hb;have hil:=(V6.1 hx).1;have o1:=a6x x;have o2:=a6q x;refine⟨?_,b9z h1 x,by rw[E8];omega,by rw[E8];omega⟩;simp only[H5 hx,o7,F5,hx,o8,b1N,c1y (show i<=1000000 by omega) h1 x,yg (show b.2.1.length+[x.1.2.2].length<=1073741824 by simp;omega),yg (show b.2.2.length+[x.2.1.2.2].length<=1073741824 by simp;omega),Z5 (show i<=9000000000000000000 by omega)];unfold NH NF;cases x8 x.2.2.1 0<;>cases x8 x.1.1 3<;>cases x8 x.2.2.2.1 0<;>cases x8 x.2.1.1 3<;>simp only[o7,o6,o8,H8]
 .simp only[G7];rfl
 .rw[b0q,b9Y];have l1:=b5o L;have l2:=b5d L;simp only[H9,b0F (show(L.flatMap NH).length<=1000000 by omega),b0F (show(L.flatMap NF).length<=1000000 by omega),o8];unfold a1R a7D zT;simp only[yO];cases D9 (x8 (Iw (L.flatMap NH)).2 0)<;>cases D9 (x8 (Iw (L.flatMap NF)).2 0)<;>rfl
def BU(a b:S9)(k:Int)(c:dI)(d:Int):X4×Int:=match nG a b k c d with|some r=>r|none=>(zI,0)
theorem b4b(hA:SmL a)(hB:SmL b)(hC:SmC c)(tA:∀t∈a.2.1,kR t)(tB:∀t∈b.2.1,kR t)(k d:Int):
  nG a b k c d=some (BU a b k c d)/\Ld a b k c d=some (BU a b k c d)/\(BU a b k c d).1.2.2.2.2.length<=120000:=by
 obtain⟨r,h1,h2,h3⟩:=a8c hA hB hC tA tB k d;unfold BU;rw[h1];exact⟨rfl,h2,h3⟩
abbrev c3N:=List X4×T7×Int
def a0P(a b:S9)(k d:Int)(acc:List X4)(c:dI):List X4⊕c3N:=l7 (D9 (x8 (BU a b k c d).2 0)) (.inr ([],zT,(BU a b k c d).2)) (.inl (acc++[(BU a b k c d).1]))
def Xu(a b:S9)(k:Int)(l:List dI)(d:Int):c3N:=match aP (a0P a b k d) l []with
 | .inr r=>r| .inl L=>l7 (D9 (x8 (a1R L).2 0)) ([],zT,(a1R L).2) (L,(a1R L).1,0)
theorem b6x(hA:SmL a)(hB:SmL b)(tA:∀t∈a.2.1,kR t)(tB:∀t∈b.2.1,kR t){l:List dI}(hl:l.length<=8)(hC:∀c∈l,SmC c)(k d:Int):zW a b k l d=some (Xu a b k l d):=by
 unfold zW;rw[show qp 0 (o9 l) 1073741824=true from by unfold qp o9;rw[decide_eq_true_eq];omega,o7];rw[show qU 0 (((0,0,0),(0,0,0),0,0,[]):X4)=some []from by unfold qU;rw[if_pos l9];rfl,o8];refine kU l (a0P a b k d) (λacc i=>(((0,0,0,0,0,0,0),acc,i):jm×List X4×Int)) (λacc=>(((0,0,0,0,0,0,0),acc):jm×List X4)) (λi acc=>acc.length=i) [] l9 rfl (λi c acc hx hi hb=>?_) (λacc _=>?_) (λhinv=>?_)
 .have hc:=hC c (iL hx);obtain⟨c1,_,_⟩:=b4b hA hB hc tA tB k d;have hil:=(V6.1 hx).1;simp only[H5 hx,o7,F5,hx,o8,c1];unfold a0P;cases D9 (x8 (BU a b k c d).2 0)
  .simp only[o6,yg (show acc.length+[(BU a b k c d).1].length<=1073741824 by simp;omega),o8,Z5 (show i<=9000000000000000000 by omega)];exact⟨trivial,λ_ h=>by cases h;simp[hb]⟩
  .exact⟨rfl,λ_ h=>by cases h⟩
 .simp only[G7];rfl
 .unfold Xu;cases hf:aP (a0P a b k d) l []with
  |inr r=>rfl|inl L=>have hL:=hinv L hf;simp only[L6,b7R (show L.length<=1000 by omega),o8];cases D9 (x8 (a1R L).2 0)<;>rfl
theorem a7R:xn=some true:=by decide+kernel
abbrev Dy:O0->O0->Bool:=λa b=>V9 (seq a.1 b.1) (V9 (seq a.2.1 b.2.1) (x8 a.2.2 b.2.2))
theorem LG(a b:O0):Dy a b=true↔a=b:=by simp only[Dy,wF,ig,O9,kZ]
theorem QZ(a:O0):Dy a a=true:=(LG a a).2 rfl
def ixC:List O0->O0->c9q
 |[],_=>none|a::l,r=>l7 (Dy a r) (some 0) ((ixC l r).map (·+1))
theorem PW:∀{l:List O0} {r:O0} {i:Nat},ixC l r=some i->l[i]? =some r
 |[],_,_,h=>by cases h|a::l,r,i,h=>by
  unfold ixC at h;cases he:Dy a r<;>rw[he]at h
  .simp only[o6,jK]at h;obtain⟨j,h1,rfl⟩:=h;simpa using PW h1
  .simp only[o7,H6]at h;subst h;simp[(LG a r).1 he]
theorem a5W:∀{l:List O0} {r:O0},ixC l r=none->r∉l
 |[],_,_=>by simp|a::l,r,h=>by
  unfold ixC at h;cases he:Dy a r<;>rw[he]at h
  .simp only[o6,Option.map_eq_none_iff]at h;intro hm;rcases D5.1 hm with rfl|hm
   .rw[QZ]at he;cases he
   .exact a5W h hm
  .cases h
theorem UQ{l:List O0}{r:O0} :(l.any λa=>Dy a r)=true↔r∈l:=by rw[jH];exact⟨λ⟨a,h1,h2⟩=>by rw[←(LG a r).1 h2];exact h1,λh=>⟨r,h,QZ r⟩⟩
theorem b0A:∀(l:List O0) (r k:O0),ixC (l++[r]) k=match ixC l k with|some i=>some i|none=>l7 (Dy r k) (some l.length) none
 |[],r,k=>by simp only[H9,ixC];cases Dy r k<;>rfl|a::l,r,k=>by
  simp only[Y7,ixC,b0A l r k];cases Dy a k
  .simp only[o6];cases ixC l k with
   |some i=>rfl|none=>simp only[uP];cases Dy r k<;>rfl
  .rfl
abbrev BR:=List O0×c9h×c9h
def Cm(dlt:Int)(st:BR)(r:O0):BR:=match ixC st.1 r with
 |some i=>(st.1,bu st.2.1 i (A7 .i64 (st.2.1.getD i 0) 1),bu st.2.2 i (A7 .i64 (st.2.2.getD i 0) dlt))|none=>(st.1++[r],st.2.1++[1],st.2.2++[A7 .i64 0 dlt])
def Kw(dlt:Int)(st:BR×List O0)(r:O0):BR×List O0:=(l7 (st.2.any λa=>Dy a r) st.1 (Cm dlt st.1 r),st.2++[r])
def Dl(x:X4):Int:=l7 (D9 (x8 x.2.2.1 0)) 0 (l7 (D9 (x8 x.2.2.2.1 0)) 0 (l7 (D9 (x8 x.1.1 3)) 0 (l7 (D9 (x8 x.2.1.1 3)) 0 (J3 .i64 x.2.1.2.2 x.1.2.2))))
def Sr(st:BR)(x:X4):BR:=l7 (D9 (icS x)) st (x.2.2.2.2.foldl (Kw (Dl x)) (st,[])).1
def byS(L:List X4):BR:=L.foldl Sr ([],[],[])
theorem b4i(x:X4):oK x=some (Dl x):=by unfold oK Dl;cases D9 (x8 x.2.2.1 0)<;>cases D9 (x8 x.2.2.2.1 0)<;>cases D9 (x8 x.1.1 3)<;>cases D9 (x8 x.2.1.1 3)<;>rfl
theorem b9c(x:X4):sO x=some (Dl x):=by unfold sO Dl;cases D9 (x8 x.2.2.1 0)<;>cases D9 (x8 x.2.2.2.1 0)<;>cases D9 (x8 x.1.1 3)<;>cases D9 (x8 x.2.1.1 3)<;>rfl
variable {R:List β}
theorem a3O{a:α}(h:l.length=R.length):F9 (l++[a]) (o9 R)=some a:=by unfold o9;rw[F5,←h];simp
theorem K_{a:α}(h:l.length=R.length):O8 (l++[a]) (U6 (o9 R))=some a:=by unfold O8 U6 o9;simp[←h]
theorem P_{a b:α}(h:l.length=R.length):bu (l++[a]) (U6 (o9 R)) b=l++[b]:=by unfold bu U6 o9;simp[←h]
theorem a3P(h:i<l.length)(z:α):F9 l (i:Int)=some (l.getD i z):=by rw[F5,dh h];simp[List.getD,dh h]
theorem b4N(h:i<l.length)(z:α):O8 l (U6 (i:Int))=some (l.getD i z):=by unfold O8 U6;simp[List.getD,dh h]
theorem a6c(h:i<l.length)(z:α):O8 l i=some (l.getD i z):=by unfold O8;simp[List.getD,dh h]
theorem b9K(i:Nat):U6 (i:Int)=i:=by unfold U6;simp
def ln3(st:BR):Prop:=st.2.1.length=st.1.length/\st.2.2.length=st.1.length
variable {st:BR}
theorem a3u(h:ln3 st)(d:Int)(r:O0):ln3 (Cm d st r)/\(Cm d st r).1.length<=st.1.length+1:=by
 unfold Cm;cases ixC st.1 r with
 |some i=>exact⟨⟨by simpa[bu]using h.1,by simpa[bu]using h.2⟩,x9⟩|none=>exact⟨⟨by simp[h.1],by simp[h.2]⟩,x9⟩
theorem a4F{st:BR×List O0}(h:ln3 st.1)(d:Int)(r:O0):ln3 (Kw d st r).1/\(Kw d st r).1.1.length<=st.1.1.length+1:=by
 unfold Kw;cases st.2.any λa=>Dy a r
 .exact a3u h d r
 .exact⟨h,sJ _⟩
abbrev PB:=BR×c9h×List (O0×Int)×List O0
def GM(n d:Int)(s:PB)(r:O0):PB:=match ixC s.1.1 r with
 |none=>(Cm d s.1 r,s.2.1++[n],AU Dy s.2.2.1 r (o9 s.1.1),s.2.2.2++[r])|some i=>l7 (s.2.2.2.any λa=>Dy a r) (s.1,s.2.1,s.2.2.1,s.2.2.2++[r]) (Cm d s.1 r,bu s.2.1 i n,s.2.2.1,s.2.2.2++[r])
structure PO (n:Int) (st:BR) (last:c9h) (mp:List (O0×Int)):Prop where
 ln:ln3 st
 ll:last.length=st.1.length
 nd:st.1.Nodup
 mp:FZ Dy mp (λr=>(ixC st.1 r).map λi=>((i:Nat):Int))
 lt:∀v∈last,v<n
structure PI53 (n:Int) (s:PB):Prop where
 ln:ln3 s.1
 ll:s.2.1.length=s.1.1.length
 nd:s.1.1.Nodup
 mp:FZ Dy s.2.2.1 (λr=>(ixC s.1.1 r).map λi=>((i:Nat):Int))
 lt:∀v∈s.2.1,v<=n
 sub:∀a∈s.2.2.2,a∈s.1.1
 is:∀(i:Nat) a,s.1.1[i]? =some a->(s.2.1[i]? =some n↔a∈s.2.2.2)
variable {n:Int}
theorem PO.start{last:c9h}{mp:List (O0×Int)}(h:PO n st last mp):PI53 n (st,last,mp,[]):=
 ⟨h.ln,h.ll,h.nd,h.mp,λv hv=>Int.le_of_lt (h.lt v hv),λa ha=>(lw ha).elim,λi a hi=>⟨λhn=>absurd (h.lt n (iL hn)) (Int.lt_irrefl n),λha=>(lw ha).elim⟩⟩
theorem PI53.stop{s:PB}(h:PI53 n s):PO (n+1) s.1 s.2.1 s.2.2.1:=⟨h.ln,h.ll,h.nd,h.mp,λv hv=>by have:=h.lt v hv;omega⟩
theorem a7U(d:Int)(st:BR)(r:O0):(Cm d st r).1=match ixC st.1 r with|some _=>st.1|none=>st.1++[r]:=by unfold Cm;cases ixC st.1 r<;>rfl
theorem PI53.step(hn:0<=n){s:PB}(h:PI53 n s)(d:Int)(r:O0):PI53 n (GM n d s r)/\((GM n d s r).1,(GM n d s r).2.2.2)=Kw d (s.1,s.2.2.2) r:=by
 obtain⟨st,last,mp,done⟩:=s;unfold GM Kw;have hbl:=a3u h.ln d r;have hbr:=a7U d st r;cases hi:ixC st.1 r with
 |none=>
  rw[hi]at hbr;simp only at hbr;have hnr:=a5W hi;have hdone:(done.any λa=>Dy a r)=false:=by
   cases hq:done.any λa=>Dy a r
   .rfl
   .exact absurd (h.sub r (UQ.1 hq)) hnr
  simp only;refine⟨⟨hbl.1,?_,?_,?_,?_,?_,?_⟩,by rw[hdone];rfl⟩
  .show(last++[n]).length=(Cm d st r).1.length;rw[hbr];simp[h.ll]
  .show(Cm d st r).1.Nodup;rw[hbr,O5];exact⟨h.nd,x9,λa ha b hb e=>by simp at hb;subst hb;subst e;exact hnr ha⟩
  .show FZ Dy (AU Dy mp r (o9 st.1)) (λk=>(ixC (Cm d st r).1 k).map λi=>((i:Nat):Int));refine(WO LG h.mp r (o9 st.1)).congr λk=>?_;rw[hbr,b0A];cases hk:Dy k r
   .simp only[o6];have hk' :Dy r k=false:=by
     cases hq:Dy r k
     .rfl
     .rw[(LG r k).1 hq,QZ]at hk;cases hk
    rw[hk'];cases ixC st.1 k<;>rfl
   .have e:=(LG k r).1 hk;subst e;rw[hi,QZ];rfl
  .intro v hv;rcases D6.1 hv with hv|hv
   .exact h.lt v hv
   .simp at hv;omega
  .intro a ha;show a∈(Cm d st r).1;rw[hbr];rcases D6.1 ha with ha|ha
   .exact D6.2 (.inl (h.sub a ha))
   .exact D6.2 (.inr ha)
  .intro i a hia;have hia:(Cm d st r).1[i]? =some a:=hia;rw[hbr]at hia;show(last++[n])[i]? =some n↔a∈done++[r];have hll:last.length=st.1.length:=h.ll;by_cases hlt:i<st.1.length
   .rw[L8 hlt]at hia;rw[L8 l9];have hne:a≠r:=λe=>hnr (e▸iL hia);rw[h.is i a hia];simp[hne]
   .have hlen:=(V6.1 hia).1;simp at hlen;have hi0:i=st.1.length:=l9;subst hi0;rw[H7 (F7 _)]at hia;simp at hia;subst hia;rw[H7 l9];simp[hll]
 |some q=>
  rw[hi]at hbr;simp only at hbr;have hq:=PW hi;simp only;cases hd:done.any λa=>Dy a r
  .simp only[o6];have hrd:r∉done:=λe=>by rw[UQ.2 e]at hd;cases hd
   have hql:=(V6.1 hq).1;have hll:last.length=st.1.length:=h.ll;refine⟨⟨hbl.1,?_,?_,?_,?_,?_,?_⟩,trivial⟩
   .show(bu last q n).length=(Cm d st r).1.length;rw[hbr];simp[bu,hll]
   .show(Cm d st r).1.Nodup;rw[hbr];exact h.nd
   .show FZ Dy mp (λk=>(ixC (Cm d st r).1 k).map λi=>((i:Nat):Int));rw[hbr];exact h.mp
   .intro v hv;have hv:v∈last.set q n:=hv;rcases List.mem_or_eq_of_mem_set hv with hv|rfl
    .exact h.lt v hv
    .exact aX _
   .intro a ha;show a∈(Cm d st r).1;rw[hbr];rcases D6.1 ha with ha|ha
    .exact h.sub a ha
    .simp at ha;subst ha;exact iL hq
   .intro i a hia;have hia:(Cm d st r).1[i]? =some a:=hia;rw[hbr]at hia;show(last.set q n)[i]? =some n↔a∈done++[r];have hil:=(V6.1 hia).1;rw[Y3];by_cases e:q=i
    .subst e;rw[hq]at hia;cases hia;simp only[if_true,show q<last.length by omega];simp
    .simp only[e,if_false];rw[h.is i a hia];have hnd:st.1.Nodup:=h.nd;have hia2:st.1[i]? =some a:=hia;have hne:a≠r:=λe' =>by
      obtain⟨h1,e1⟩:=V6.1 hq;obtain⟨h2,e2⟩:=V6.1 hia2;exact e ((List.getElem_inj hnd).1 (e1.trans (e'.symm.trans e2.symm)))
     simp[hne]
  .simp only[o7];have hrd:=UQ.1 hd;refine⟨⟨h.ln,h.ll,h.nd,h.mp,h.lt,?_,?_⟩,trivial⟩
   .intro a ha;rcases D6.1 ha with ha|ha
    .exact h.sub a ha
    .simp at ha;subst ha;exact iL hq
   .intro i a hia;show last[i]? =some n↔a∈done++[r];rw[h.is i a hia];constructor
    .exact λha=>D6.2 (.inl ha)
    .intro ha;rcases D6.1 ha with ha|ha
     .exact ha
     .simp at ha;subst ha;exact hrd
theorem a0s{n:Int}(hn:0<=n)(d:Int):∀(l:List O0) (s:PB),PI53 n s->PI53 n (l.foldl (GM n d) s)/\((l.foldl (GM n d) s).1,(l.foldl (GM n d) s).2.2.2)=l.foldl (Kw d) (s.1,s.2.2.2)
 |[],s,h=>⟨h,rfl⟩|r::l,s,h=>by obtain⟨h1,h2⟩:=h.step hn d r;rw[G9,G9,←h2];exact a0s hn d l _ h1
abbrev PS:=BR×c9h×List (O0×Int)
def Vt(n:Int)(s:PS)(x:X4):PS:=l7 (D9 (icS x)) s ((x.2.2.2.2.foldl (GM n (Dl x)) (s.1,s.2.1,s.2.2,[])).1,(x.2.2.2.2.foldl (GM n (Dl x)) (s.1,s.2.1,s.2.2,[])).2.1,(x.2.2.2.2.foldl (GM n (Dl x)) (s.1,s.2.1,s.2.2,[])).2.2.1)
theorem PO.up{n m:Int}{last:c9h}{mp:List (O0×Int)}(h:PO n st last mp)(hm:n<=m):PO m st last mp:=⟨h.ln,h.ll,h.nd,h.mp,λv hv=>by have:=h.lt v hv;omega⟩
theorem b0V(hn:0<=n){s:PS}(h:PO n s.1 s.2.1 s.2.2)(x:X4):PO (n+1) (Vt n s x).1 (Vt n s x).2.1 (Vt n s x).2.2/\(Vt n s x).1=Sr s.1 x:=by
 unfold Vt Sr;cases D9 (icS x)
 .obtain⟨h1,h2⟩:=a0s hn (Dl x) x.2.2.2.2 (s.1,s.2.1,s.2.2,[]) h.start;exact⟨h1.stop,congrArg (·.1) h2⟩
 .exact⟨h.up l9,rfl⟩
def pG2(b:PS×Int)(x:X4):PS×Int:=(Vt b.2 b.1 x,b.2+1)
theorem a5M:∀(L:List X4) (b:PS×Int),0<=b.2->PO b.2 b.1.1 b.1.2.1 b.1.2.2->(L.foldl pG2 b).1.1=L.foldl Sr b.1.1
 |[],_,_,_=>rfl|x::L,b,hn,h=>by obtain⟨h1,h2⟩:=b0V hn h x;rw[G9,a5M L (pG2 b x) (by show 0<=b.2+1;omega) h1,G9];show L.foldl Sr (Vt b.2 b.1 x).1=_;rw[h2]
theorem F_(d:Int)(l:List O0):∀(q:BR×List O0),ln3 q.1->ln3 (l.foldl (Kw d) q).1/\(l.foldl (Kw d) q).1.1.length<=q.1.1.length+l.length:=by
 induction l with
 |nil=>exact λq h=>⟨h,x9⟩|cons r l ih=>intro q h;obtain⟨a1,a2⟩:=a4F h d r;obtain⟨b1,b2⟩:=ih (Kw d q r) a1;exact⟨b1,by simp only[G9,G8];omega⟩
variable {x:X4}
theorem b0w{B:Nat}(h:ln3 st)(hx:x.2.2.2.2.length<=B):(Sr st x).1.length<=st.1.length+B:=by
 unfold Sr;cases D9 (icS x)
 .obtain⟨a1,a2⟩:=F_ (Dl x) x.2.2.2.2 (st,[]) h;have a2:_<=st.1.length+_:=a2;simp only[o6];omega
 .simp only[o7];omega
theorem c3Z{L:List X4}{B:Nat}(hl:L.length<=1000)(hr:∀x∈L,x.2.2.2.2.length<=B)(hB:L.length*B<=1000000):vg L=some (byS L):=by
 unfold vg byS;refine aO L pG2 (λ(b:PS×Int) i=>(b.1.1.1,b.1.1.2.1,b.1.1.2.2,b.1.2.1,b.1.2.2,i)) (λb=>(b.1.1.1,b.1.1.2.1,b.1.1.2.2)) (λi b=>b.2=(i:Int)/\PO b.2 b.1.1 b.1.2.1 b.1.2.2/\b.1.1.1.length<=i*B) ((([],[],[]),[],[]),0) l9 ⟨rfl,⟨⟨rfl,rfl⟩,rfl,dH,Rt _,λv hv=>by cases hv⟩,eH _⟩ (λi x b hx hi hb=>?_) (λb _=>?_) (λ_=>?_)
 .obtain⟨h0,h1,h2⟩:=hb;have hil:=(V6.1 hx).1;have hrx:=hr x (iL hx);have hiB:i*B+B<=1000000:=by
   have:(i+1)*B<=L.length*B:=I5 _ l9;rw[J8,aS]at this;omega
  have hn:0<=b.2:=l9;obtain⟨p1,p2⟩:=b0V hn h1 x;refine⟨?_,by show b.2+1=_;omega,p1,?_⟩
  rotate_left
  .show(Vt b.2 b.1 x).1.1.length<=_;rw[p2,J8,aS];have:=b0w h1.ln hrx;omega
  simp only[H5 hx,o7,F5,hx,o8,Nw];unfold pG2 Vt;cases hc:icS x
  .simp only[aV,o7,Z5 (show i<=9000000000000000000 by omega)]
  .simp only[E5,o6];refine aO x.2.2.2.2 (GM b.2 (Dl x)) (λ(s:PB) j=>(s.1.1,s.1.2.1,s.1.2.2,s.2.1,s.2.2.1,j)) (λs=>(s.1.1,s.1.2.1,s.1.2.2,s.2.1,s.2.2.1)) (λj s=>PI53 b.2 s/\s.1.1.length<=i*B+j) (b.1.1,b.1.2.1,b.1.2.2,[]) l9 ⟨h1.start,h2⟩ (λj r s hj hj2 hs=>?_) (λs _=>?_) (λ_=>?_)
   .obtain⟨s1,s2⟩:=hs;have hjl:=(V6.1 hj).1;obtain⟨q1,q2⟩:=s1.step hn (Dl x) r;have hbl:=a3u s1.ln (Dl x) r;refine⟨?_,q1,?_⟩
    rotate_left
    .have:=(a4F (st:=(s.1,s.2.2.2)) s1.ln (Dl x) r).2;rw[←q2]at this;exact iI this (by show s.1.1.length+1<=_;omega)
    have hhas:Sv (λ(a b:O0)=>V9 (seq a.1 b.1) (V9 (seq a.2.1 b.2.1) (x8 a.2.2 b.2.2))) s.2.2.1 r=(ixC s.1.1 r).isSome:=by have:=s1.mp.has r;rw[Option.isSome_map]at this;exact this
    have hget:oQ (λ(a b:O0)=>V9 (seq a.1 b.1) (V9 (seq a.2.1 b.2.1) (x8 a.2.2 b.2.2))) s.2.2.1 r 0=((ixC s.1.1 r).map λi=>((i:Nat):Int)).getD 0:=s1.mp.get r 0;obtain⟨l1,l2⟩:=s1.ln;have l3:=s1.ll;simp only[H5 hj,o7,F5,hj,o8,hhas,hget,Z5 (show j<=9000000000000000000 by omega)];unfold GM Cm;cases h4:ixC s.1.1 r with
    |none=>simp only[qF,aV,o7,yg (show s.1.1.length+[r].length<=1073741824 by simp;omega),yg (show s.1.2.1.length+[(0:Int)].length<=1073741824 by simp;omega),yg (show s.1.2.2.length+[(0:Int)].length<=1073741824 by simp;omega),yg (show s.2.1.length+[(-1:Int)].length<=1073741824 by simp;omega),o8,a3O l1,K_ l1,a3O l2,K_ l2,P_ l1,P_ l2,a3O l3,K_ l3,P_ l3,b4i,show A7 .i64 0 1=1 from rfl,J6 (show ¬(-1:Int)=(i:Int) by omega),o6,h0]|some q=>
     have hq:=(V6.1 (PW h4)).1;simp only[qG,E5,o6,aJ,aN,a3P (show q<s.2.1.length by omega) 0,b4N (show q<s.2.1.length by omega) 0,o8];have hd:x8 (s.2.1.getD q 0) (i:Int)=(s.2.2.2.any λa=>Dy a r):=by
      have hiff:=s1.is q r (PW h4);have hv:s.2.1[q]? =some (s.2.1.getD q 0):=by rw[dh l9];simp[List.getD,dh (show q<s.2.1.length by omega)]
      rw[hv]at hiff;rw[gu,O9,UQ,←hiff,h0];simp
     rw[hd];cases s.2.2.2.any λa=>Dy a r
     .simp only[o6,a3P (show q<s.1.2.1.length by omega) 0,a6c (show q<s.1.2.1.length by omega) 0,a3P (show q<s.1.2.2.length by omega) 0,a6c (show q<s.1.2.2.length by omega) 0,o8,b4i,b9K,h0]
     .simp only[o7]
   .simp only[G7];rfl
   .simp only[Z5 (show i<=9000000000000000000 by omega)]
 .simp only[G7];rfl
 .rw[a5M L _ (aX 0) ⟨⟨rfl,rfl⟩,rfl,dH,Rt _,λv hv=>by cases hv⟩]
theorem a7V{B:Nat} :∀(L:List X4) (st:BR),(∀x∈L,x.2.2.2.2.length<=B)->ln3 st->ln3 (L.foldl Sr st)/\(L.foldl Sr st).1.length<=st.1.length+L.length*B
 |[],st,_,h=>⟨h,x9⟩|x::L,st,hx,h=>by
  have hxB:=hx x x9;have h1:ln3 (Sr st x):=by
   unfold Sr;cases D9 (icS x)
   .exact(F_ (Dl x) x.2.2.2.2 (st,[]) h).1
   .exact h
  obtain⟨g1,g2⟩:=a7V L (Sr st x) (λy hy=>hx y (by simp[hy])) h1;have:=b0w h hxB;exact⟨g1,by simp only[G9,G8,J8,aS];omega⟩
theorem c1n{l:S9}(hL:SmL l)(hC:SmC c)(hT:∀t∈l.2.1,kR t)(h:(edS l k c d).2.2.1=0):∃s X b,EvC l k s c d X b:=by
 unfold edS at h;by_cases ha:(Gf l k c true d).1=0
 .rw[if_pos ha]at h;obtain⟨hv,s,hs⟩:=QS ha;rw[hs]at h;simp only at h;cases he:TF l s c (wS s d) (wM s (Y6 l s) d)with
  |inr e=>have h:(c4j d (TF l s c (wS s d) (wM s (Y6 l s) d))).2.2.1=0:=h;rw[he]at h;exact absurd h (a5F he)|inl x=>exact⟨s,x.1,x.2,hL,hC,hT,hs,ha,he⟩
 .rw[if_neg ha]at h;exact absurd h ha
theorem b0n{l:S9}(hL:SmL l)(hC:SmC c)(hT:∀t∈l.2.1,kR t)(h:(edS l k c d).2.2.1=0):∃s f,F9 l.2.2 k=some s/\F9 s.2.2.2.1 d=some f/\PVV l.1 f.2 (edS l k c d).1:=by
 obtain⟨s,X,b,e⟩:=c1n hL hC hT h;obtain⟨v,r,h1,h2,h3,h4⟩:=e.at (x:=d) (.inl rfl);obtain⟨h0,h1'⟩:=e.dd;obtain⟨f,hf⟩:∃f,F9 s.2.2.2.1 d=some f:=TL (jJ.2 h0) (iW.2 h1');refine⟨s,f,e.hs,hf,?_⟩;have hed:(edS l k c d).1=v:=by unfold edS;rw[if_pos e.ha,e.hs];show(a3E l s c d).1=v;rw[h3]
 rw[hed];have hA:=a7Q e.ha;obtain⟨m1,m2⟩:=e.mS';have hb:b.length<=1000:=by have:=a3T m1;have:=hC.nm;omega
 have hD:=b1Q hL hT hb hA e.hv e.hs m2;exact a5y hL hT hb hA e.hv e.hs hD h4 (by unfold F9 at hf ⊢;rw[if_pos h0]at hf ⊢;rw[U8,hf];rfl)
theorem b1L(hA:SmL a)(hB:SmL b)(hC:SmC c)(tA:∀t∈a.2.1,kR t)(tB:∀t∈b.2.1,kR t)(h:(BU a b k c d).2=0):
  siS a b=true/\(BU a b k c d).1.1=(edS a k c d).1/\(BU a b k c d).1.2.1=(edS b k c d).1/\(BU a b k c d).1.2.2.1=(edS a k c d).2.2.1/\(BU a b k c d).1.2.2.2.1=(edS b k c d).2.2.1:=by
 rcases a8d hA hB hC tA tB k d with⟨ho,LA,LB,_,_,h1⟩|⟨_,e,he,h1⟩
 .unfold BU;rw[h1];simp only[a8p];refine⟨?_,trivial,trivial,trivial,trivial⟩;unfold okC at ho;simp only[C9]at ho;exact ho.2.2.2
 .unfold BU at h;rw[h1]at h;exact absurd h he
theorem b4a(hA:SmL a)(hB:SmL b)(hC:SmC c)(tA:∀t∈a.2.1,kR t)(tB:∀t∈b.2.1,kR t)(h:(BU a b k c d).2=0)(h1:(BU a b k c d).1.2.2.1=0)(h2:(BU a b k c d).1.2.2.2.1=0):
  (BU a b k c d).1.1.1=(BU a b k c d).1.2.1.1/\plB (BU a b k c d).1.1=true/\plB (BU a b k c d).1.2.1=true:=by
 obtain⟨p0,p1,p2,p3,p4⟩:=b1L hA hB hC tA tB h;rw[p3]at h1;rw[p4]at h2;obtain⟨s,f,s1,f1,v1⟩:=b0n hA hC tA h1;obtain⟨t,g,t1,g1,v2⟩:=b0n hB hC tB h2;obtain⟨t',t2,e⟩:=a0Y p0 s1;rw[t1]at t2;cases t2;have e4:s.2.2.2.1=t.2.2.2.1:=congrArg (·.2.2.2) e;rw[←e4,f1]at g1;cases g1;rw[p1,p2];exact⟨v1.1.trans v2.1.symm,v1.2.2.1,v2.2.2.1⟩
def MP(l:c9h):Int:=l.foldl (·+ ·) 0
theorem Rh:∀(l:c9h) (n:Int),l.foldl (·+ ·) n=n+MP l
 |[],n=>by unfold MP;simp|x::l,n=>by unfold MP;rw[G9,G9,Rh l (n+x),Rh l (0+x)];omega
theorem a3i(x:Int)(l:c9h):MP (x::l)=x+MP l:=by unfold MP;rw[G9,Rh,yO];rfl
theorem a7y(l m:c9h):MP (l++m)=MP l+MP m:=by unfold MP;rw[rO,Rh];rfl
theorem b1p{l:c9h}(h:(Iw l).2=0):(Iw l).1=MP l:=(a4R h).2
def clB(x:X4):Bool:=l7 (x8 x.2.2.1 0) (x8 x.2.2.2.1 0) false
def b3P(n:Int):Prop:=-1000000000000000<=n/\n<=1000000000000000
def b8I(x:X4):Prop:=x.2.2.1=0->x.2.2.2.1=0->x.1.1=x.2.1.1/\(x.1.1=3->b3P x.1.2.2/\b3P x.2.1.2.2)
theorem c1l(h:b8I x):-2000000000000000<=Dl x/\Dl x<=2000000000000000:=by
 unfold Dl;by_cases h1:x.2.2.1=0
 case neg=>rw[J6 h1];exact(by decide:-2000000000000000<=(0:Int)/\(0:Int)<=2000000000000000)
 by_cases h2:x.2.2.2.1=0
 case neg=>rw[J7 h1,J6 h2];exact(by decide:-2000000000000000<=(0:Int)/\(0:Int)<=2000000000000000)
 by_cases h3:x.1.1=3
 case neg=>rw[J7 h1,J7 h2,J6 h3];exact(by decide:-2000000000000000<=(0:Int)/\(0:Int)<=2000000000000000)
 by_cases h4:x.2.1.1=3
 case neg=>rw[J7 h1,J7 h2,J7 h3,J6 h4];exact(by decide:-2000000000000000<=(0:Int)/\(0:Int)<=2000000000000000)
 obtain⟨_,g⟩:=h h1 h2;obtain⟨g1,g2⟩:=g h3;unfold b3P at g1 g2;rw[J7 h1,J7 h2,J7 h3,J7 h4];simp only[E5,o6];rw[U2 (show jl (x.2.1.2.2 -x.1.2.2) by unfold jl;omega)];omega
theorem c1m(h:b8I x)(hc:clB x=true):Dl x=MP (NF x) -MP (NH x):=by
 unfold clB at hc;by_cases h1:x.2.2.1=0
 case neg=>rw[J6 h1]at hc;cases hc
 by_cases h2:x.2.2.2.1=0
 case neg=>rw[J7 h1,J6 h2]at hc;cases hc
 obtain⟨g,g'⟩:=h h1 h2;unfold Dl NF NH;rw[J7 h1,J7 h2];simp only[E5,o6,o7];by_cases h3:x.1.1=3
 .obtain⟨g1,g2⟩:=g' h3;unfold b3P at g1 g2;rw[J7 h3,J7 (g.symm.trans h3)];simp only[E5,o6,o7];rw[U2 (show jl (x.2.1.2.2 -x.1.2.2) by unfold jl;omega)];simp[MP]
 .rw[J6 h3,J6 (λe=>h3 (g.trans e))];rfl
theorem b1r:∀(L:List X4),(∀x∈L,b8I x)->L.all clB=true->MP (L.map Dl)=MP (L.flatMap NF) -MP (L.flatMap NH)
 |[],_,_=>rfl|x::L,h,hc=>by simp only[List.all_cons,C9]at hc;rw[gU,a3i,b1r L (λy hy=>h y (by simp[hy])) hc.2,c1m (h x x9) hc.1,kK,kK,a7y,a7y];omega
abbrev DG:=Int×Bool×Int
def b8C(b:DG)(x:X4):DG:=(b.1+Dl x,b.2.1&&clB x,b.2.2+b2i (icS x))
theorem a2g:∀(L:List X4) (b:DG),L.foldl b8C b=(b.1+MP (L.map Dl),b.2.1&&L.all clB,b.2.2+cn icS L)
 |[],b=>by simp[MP,a7Z]|x::L,b=>by rw[G9,a2g L];unfold b8C;simp only[gU,a3i,List.all_cons,a3y,dG];refine⟨l9,by rw[Bool.and_assoc],l9⟩
def b0h(st:BR)(n:Int):Prop:=∀v∈st.2.1,1<=v/\v<=n
def b4c(s:BR×List O0)(n:Int):Prop:=∀(i:Nat) a v,s.1.1[i]? =some a->s.1.2.1[i]? =some v->1<=v/\v<=n+1/\(a∉s.2->v<=n)
theorem b1M{s:BR×List O0}(hn0:0<=n)(hn:n<=1000000)(hl:ln3 s.1)(h:b4c s n)(r:O0):b4c (Kw d s r) n:=by
 unfold Kw;cases hd:s.2.any λa=>Dy a r
 .have hrd:r∉s.2:=λe=>by rw[UQ.2 e]at hd;cases hd
  simp only[o6];unfold Cm;cases hi:ixC s.1.1 r with
  |some q=>
   have hq:=PW hi;have hql:=(V6.1 hq).1;intro i a v ha hv;simp only at ha hv;have hcl:q<s.1.2.1.length:=by have:=hl.1;omega
   unfold bu at hv;rw[Y3]at hv;by_cases e:q=i
   .subst e;rw[hq]at ha;cases ha;simp only[if_true,hcl,H6]at hv;obtain⟨c1,c2,c3⟩:=h q r (s.1.2.1.getD q 0) hq (by rw[vK,dh hcl];rfl);have c3:=c3 hrd;rw[X7 (show jl (s.1.2.1.getD q 0+1) by unfold jl;omega)]at hv;refine⟨l9,l9,λhna=>?_⟩;exact absurd (D6.2 (.inr x9)) hna
   .simp only[e,if_false]at hv;obtain⟨c1,c2,c3⟩:=h i a v ha hv;exact⟨c1,c2,λhna=>c3 λhm=>hna (D6.2 (.inl hm))⟩
  |none=>
   intro i a v ha hv;simp only at ha hv;by_cases hlt:i<s.1.1.length
   .rw[L8 hlt]at ha;rw[L8 (by have:=hl.1;omega)]at hv;obtain⟨c1,c2,c3⟩:=h i a v ha hv;exact⟨c1,c2,λhna=>c3 λhm=>hna (D6.2 (.inl hm))⟩
   .have hlen:=(V6.1 ha).1;simp at hlen;have hi0:i=s.1.1.length:=l9;subst hi0;rw[H7 (F7 _)]at ha;rw[H7 (by have:=hl.1;omega)]at hv;simp[hl.1]at ha hv;subst ha;subst hv;exact⟨l9,l9,λhna=>absurd (D6.2 (.inr x9)) hna⟩
 .intro i a v ha hv;simp only[o7]at ha hv;obtain⟨c1,c2,c3⟩:=h i a v ha hv;exact⟨c1,c2,λhna=>c3 λhm=>hna (D6.2 (.inl hm))⟩
theorem a2f{n d:Int}(hn0:0<=n)(hn:n<=1000000):∀(l:List O0) (s:BR×List O0),ln3 s.1->b4c s n->b4c (l.foldl (Kw d) s) n
 |[],s,_,h=>h|r::l,s,hl,h=>by rw[G9];exact a2f hn0 hn l _ (a4F hl d r).1 (b1M hn0 hn hl h r)
theorem b8J(hn0:0<=n)(hn:n<=1000000)(hl:ln3 st)(h:b0h st n)(x:X4):b0h (Sr st x) (n+b2i (icS x)):=by
 unfold Sr;cases icS x
 .intro v hv;have:=h v (by simpa[l7]using hv);simp only[b2i,o6];omega
 .simp only[E5,o6,b2i,o7];have h0:b4c (st,[]) n:=λi a v ha hv=>by
   have:=h v (iL hv);exact⟨this.1,l9,λ_=>this.2⟩
  have h1:=a2f (d:=Dl x) hn0 hn x.2.2.2.2 (st,[]) hl h0;have h2:=(F_ (Dl x) x.2.2.2.2 (st,[]) hl).1;intro v hv;obtain⟨i,hi,rfl⟩:=X3 hv;have hi' :i<(x.2.2.2.2.foldl (Kw (Dl x)) (st,[])).1.1.length:=by rw[←h2.1];exact hi
  obtain⟨c1,c2,_⟩:=h1 i _ _ (dh hi') (dh hi);exact⟨c1,c2⟩
theorem b3W{B:Nat} :∀(L:List X4) (st:BR) (n:Int),0<=n->n+L.length<=1000000->(∀x∈L,x.2.2.2.2.length<=B)->ln3 st->b0h st n->b0h (L.foldl Sr st) (n+cn icS L)
 |[],st,n,_,_,_,_,h=>by rw[a7Z,yN];exact h|x::L,st,n,h0,h1,hx,hl,h=>by rw[G9,a3y];have hb:=KI (icS x);simp only[G8]at h1;have h2:=(a7V (B:=B) [x] st (λy hy=>hx y (by simp at hy;simp[hy])) hl).1;have:=b3W L (Sr st x) (n+b2i (icS x)) l9 l9 (λy hy=>hx y (by simp[hy])) h2 (b8J h0 l9 hl h x);rw[Int.add_assoc]at this;exact this
theorem a7d{l:List dI}(h:(Xu a b k l d).2.2=0):
  ∃L,Xu a b k l d=(L,a7D L,0)/\L.length=l.length/\(∀x∈L,∃c∈l,(BU a b k c d).2=0/\x=(BU a b k c d).1)/\(Iw (L.flatMap NH)).2=0/\(Iw (L.flatMap NF)).2=0:=by
 have key:∀(l:List dI) (acc:List X4),(∀L,aP (a0P a b k d) l acc= .inl L->L.length=acc.length+l.length/\∀x∈L,x∈acc\/∃c∈l,(BU a b k c d).2=0/\x=(BU a b k c d).1)/\∀r,aP (a0P a b k d) l acc= .inr r->r.2.2≠0:=by
  intro l;induction l with
  |nil=>exact λacc=>⟨λL h=>by cases h;exact⟨x9,λx hx=> .inl hx⟩,λr h=>by cases h⟩|cons c l ih=>
   intro acc;unfold aP;by_cases hz:(BU a b k c d).2=0
   .have hg:a0P a b k d acc c= .inl (acc++[(BU a b k c d).1]):=by unfold a0P;rw[J7 hz];rfl
    rw[hg];obtain⟨i1,i2⟩:=ih (acc++[(BU a b k c d).1]);refine⟨λL h=>?_,i2⟩;obtain⟨j1,j2⟩:=i1 L h;refine⟨by rw[j1];simp;omega,λx hx=>?_⟩;rcases j2 x hx with h1|⟨c',h1,h2⟩
    .rcases D6.1 h1 with h1|h1
     .exact .inl h1
     .exact .inr ⟨c,x9,hz,by simpa using h1⟩
    .exact .inr ⟨c',by simp[h1],h2⟩
   .have hg:a0P a b k d acc c= .inr ([],zT,(BU a b k c d).2):=by unfold a0P;rw[J6 hz];rfl
    rw[hg];exact⟨λL h=>(by cases h),λr h=>by cases h;exact hz⟩
 obtain⟨k1,k2⟩:=key l [];unfold Xu at h ⊢;cases hf:aP (a0P a b k d) l []with
 |inr r=>rw[hf]at h;exact absurd h (k2 r hf)|inl L=>
  rw[hf]at h;obtain⟨j1,j2⟩:=k1 L hf;simp only at h ⊢;have ht:(a1R L).2=0:=by
   by_cases e:(a1R L).2=0
   .exact e
   .rw[J6 e]at h;exact h
  rw[J7 ht];have hs:a1R L=(a7D L,0)/\(Iw (L.flatMap NH)).2=0/\(Iw (L.flatMap NF)).2=0:=by
   unfold a1R at ht ⊢;rcases a3h (L.flatMap NH)with q|q
   .rw[J7 q]at ht ⊢;rcases a3h (L.flatMap NF)with q'|q'
    .rw[J7 q']at ht ⊢;exact⟨rfl,q,q'⟩
    .rw[q']at ht;exact absurd (show(3:Int)=0 from ht) G6
   .rw[q]at ht;exact absurd (show(3:Int)=0 from ht) G6
  obtain⟨s1,s2,s3⟩:=hs;refine⟨L,by rw[s1];rfl,by rw[j1];simp,λx hx=>(j2 x hx).elim (λh=>by cases h) id,s2,s3⟩
theorem c4b(h:inB n (Dq 3)=true):b3P n:=by
 rw[show Dq 3=(-1000000000000000,1000000000000000)from by decide]at h;unfold inB at h;simp only at h;cases h1:N7 (-1000000000000000) n<;>rw[h1]at h
 .cases h
 .exact⟨jJ.1 h1,jJ.1 h⟩
theorem a9p(wA:WfL a)(wB:WfL b)(k:Int)(l:List dI)(d:Int):tV (a,b) k l d=some true:=by
 unfold tV;rw[b4u,o8,a7R];cases hf:b4v a b l
 .rfl
 obtain⟨h1,h2,hl,hC⟩:=a8t hf;obtain⟨hA,tA⟩:=b7c h1 wA;obtain⟨hB,tB⟩:=b7c h2 wB;simp only[E5,o6,b6x hA hB tA tB hl hC,o8];by_cases h0:(Xu a b k l d).2.2=0
 case neg=>rw[J6 h0];rfl
 obtain⟨L,hr,hlen,hx,so,sn⟩:=a7d h0;rw[hr];have hll:o9 L=o9 l:=by unfold o9;rw[hlen]
 have t1:(a7D L).1=o9 l:=by rw[←hll];rfl
 simp only[J7 (rfl:(0:Int)=0),hll,t1,J7 (rfl:o9 l=o9 l),E5,o6,o8,L6];have hgood:∀x∈L,b8I x:=λx hxL=>by obtain⟨c,hc,hz,rfl⟩:=hx x hxL;intro c1 c2;obtain⟨g1,g2,g3⟩:=b4a hA hB (hC c hc) tA tB hz c1 c2;refine⟨g1,λh3=>?_⟩;have e2:=b5G g2;have e3:=b5G g3;rw[←g1]at e3;rw[h3]at e2 e3;exact⟨c4b e2,c4b e3⟩
 have hrl:∀x∈L,x.2.2.2.2.length<=120000:=λx hxL=>by obtain⟨c,hc,hz,rfl⟩:=hx x hxL;exact(b4b hA hB (hC c hc) tA tB k d).2.2
 refine aO L b8C (λ(b:DG) i=>(b.1,b.2.1,b.2.2,i)) (λb=>b) (λi b=>(-2000000000000000*(i:Int)<=b.1/\b.1<=2000000000000000*(i:Int))/\(0<=b.2.2/\b.2.2<=i)) (0,true,0) l9 G6 (λi x b hxi hi hb=>?_) (λb _=>?_) (λ_=>?_)
 .obtain⟨⟨b1,b2⟩,b3,b4⟩:=hb;have hil:=(V6.1 hxi).1;have hd:=c1l (hgood x (iL hxi));have hi2:=KI (icS x);have hg:O8 L (U6 (i:Int))=some x:=by unfold O8 U6;simpa using hxi
  refine⟨?_,⟨by show _<=b.1+Dl x;omega,by show b.1+Dl x<=_;omega⟩,by show 0<=b.2.2+b2i (icS x);omega,by show b.2.2+b2i (icS x)<=_;omega⟩;simp only[show E9 (i:Int) (o9 l)=true from by rw[←hll];exact H5 hxi,o7,F5,hxi,o8,hg,b9c,Nw,X7 (show jl (b.1+Dl x) by unfold jl;omega),X7 (show jl (b.2.2+1) by unfold jl;omega),Z5 (show i<=9000000000000000000 by omega)];unfold b8C clB;cases b.2.1<;>cases x8 x.2.2.1 0<;>cases icS x<;>simp only[o7,o6,o8,b2i,yN,eG,Bool.false_and]
 .simp only[show E9 (L.length:Int) (o9 l)=false from by rw[←hll];exact G7 L];rfl
 .rw[a2g];simp only[yO,eG];rw[c3Z (B:=120000) l9 hrl l9,o8];have hcnt:=b3W (B:=120000) L ([],[],[]) 0 (aX 0) l9 hrl ⟨rfl,rfl⟩ (λv hv=>by cases hv);obtain⟨⟨g1,g2⟩,g3⟩:=a7V (B:=120000) L ([],[],[]) hrl ⟨rfl,rfl⟩;have hN:(byS L).2.1.length<=1000000:=by
   unfold byS;rw[g1];simp only[bT,dF]at g3;omega
  rw[yO]at hcnt;refine X8 (vX (byS L).2.1 (λv=>E9 v 1 || E9 (cn icS L) v) false PUnit.unit hN (λi v hv=>?_) ?_) ?_
  rotate_left 2
  .have hno:((byS L).2.1.any λv=>E9 v 1 || E9 (cn icS L) v)=false:=by
    rw[fZ];intro v hv;obtain⟨c1,c2⟩:=hcnt v hv;rw[N9 c1,N9 c2];simp
   rw[hno];simp only[cond_false,L6];rw[show x8 (a7D L).2.1 (cn icS L)=true from J7 rfl,o7];cases hall:L.all clB
   .rfl
   .rw[E5,o6];have hs:=b1r L hgood hall;have hsum:J3 .i64 (a7D L).2.2.2.2.2.2 (a7D L).2.2.2.2.2.1=MP (L.map Dl):=by
     show J3 .i64 (Iw (L.flatMap NF)).1 (Iw (L.flatMap NH)).1=_;have d1:=(a4R sn).1;have d2:=(a4R so).1;rw[U2 U0,hs,b1p sn,b1p so]
    rw[hsum,J7 rfl];rfl
  .have hg:O8 (byS L).2.1 (U6 (i:Int))=some v:=by unfold O8 U6;simpa using hv
   simp only[H5 hv,o7,F5,hv,o8,hg];cases E9 v 1<;>cases E9 (cn icS L) v<;>rfl
  .simp only[G7];rfl
end
end Go.GP
namespace Go.GP
open Gt
theorem JG:∀x,a7I Gt.ps3 x->(Gt.s3.fn x:c9n)=some true:=λx h=>a9p (c0L h.1.1) (c0L h.1.2) x.2.1 x.2.2.1 x.2.2.2
end Go.GP
