import Derived.Test.YtenobbecpmncbaaGreatDoorT1
import Derived.Test.YtenobbecpmncbaaGreatDoorT2
set_option linter.all false
namespace Go.GP
section
variable {α β σ ε ρ:Type}
@[simp] theorem o9 (x:α) (f:α->Option β):o5 (some x) f=f x:=rfl
@[simp] theorem b4P (f:α->Option β):o5 none f=none:=rfl
theorem rC{o:Option α}{x:α}(h:o=some x)(f:α->Option β):o5 o f=f x:=by rw[h];rfl
theorem fK{o o' :Option α}(h:o=o'){K:α->Option β}{r:Option β}(h2:o5 o' K=r):o5 o K=r:=by rw[h];exact h2
theorem bb(a b:Bool):l9 a (some b) (some false)=some (a&&b):=by cases a<;>rfl
theorem jm(o:Option α):o5 o (λx=>some x)=o:=by cases o<;>rfl
@[simp] theorem o7 (x y:α):l9 true x y=x:=rfl
@[simp] theorem o6 (x y:α):l9 false x y=y:=rfl
theorem CO{b:Bool}(h:b=true)(x y:α):l9 b x y=x:=by rw[h];rfl
theorem Gz{b:Bool}(h:b=false)(x y:α):l9 b x y=y:=by rw[h];rfl
@[simp] theorem X7 (s:σ) (f:σ->α) (g:ε->α):aI (.inl s) f g=f s:=rfl
@[simp] theorem Gs (s:ε) (f:σ->α) (g:ε->α):aI (.inr s) f g=g s:=rfl
@[simp] theorem F9:E9 true=false:=rfl
@[simp] theorem iw:E9 false=true:=rfl
theorem U5{a b:Int}(h:a<b):D9 a b=true:=by simp[D9,h]
theorem L6{a b:Int}(h:b<=a):D9 a b=false:=by simp[D9];omega
theorem X5{a b:Int}(h:a<=b):J6 a b=true:=by simp[J6,h]
theorem Y1{a b:Int}(h:b<a):J6 a b=false:=by simp[J6];omega
theorem O8{a b:Int}(h:a=b):o8 a b=true:=by simp[o8,h]
theorem L9{a b:Int}(h:a≠b):o8 a b=false:=by simp[o8,h]
theorem jC{a b:Int} :D9 a b=true↔a<b:=by simp[D9]
theorem kR{a b:Int} :J6 a b=true↔a<=b:=by simp[J6]
theorem O5{a b:Int} :o8 a b=true↔a=b:=by simp[o8]
theorem iL{a b:Int} :D9 a b=false↔b<=a:=by simp[D9]
theorem Fz{a b:Int} :J6 a b=false↔b<a:=by simp[J6]
theorem yU{a b:Int} :o8 a b=false↔a≠b:=by simp[o8]
theorem b3a{a b:List UInt8} :seq a b=true↔a=b:=by simp[seq]
theorem iW{a b:Int}(h:0<=a):a.tdiv b=a / b:=Int.tdiv_eq_ediv_of_nonneg h
theorem xX{a b:Int}(h:0<=a):cZ a b=a % b:=dD h
def jc(n:Int):Prop:=-9223372036854775808<=n/\n<=9223372036854775807
theorem O6{p:Int}(h:jc p:=by unfold jc;omega):jc p:=h
def U64(n:Int):Prop:=0<=n/\n<=18446744073709551615
theorem lF{n:Int}(h:jc n):IntKind.wrap .i64 n=n:=by unfold jc at h;unfold IntKind.wrap;simp[IntKind.signed,IntKind.bits];omega
theorem b1S{n:Int}(h:U64 n):IntKind.wrap .u64 n=n:=by unfold U64 at h;unfold IntKind.wrap;simp[IntKind.signed,IntKind.bits];omega
theorem V5{a b:Int}(h:jc (a+b)):D7 .i64 a b=a+b:=lF h
theorem U2{a b:Int}(h:jc (a -b)):H9 .i64 a b=a -b:=lF h
theorem lh{a b:Int}(h:jc (a*b)):X9 .i64 a b=a*b:=lF h
theorem xW{a b:Int}(h:jc (a.tdiv b)):bQ .i64 a b=a.tdiv b:=lF h
theorem Ws{n:Int}(h:(Lit.int .i64 n).wf=true):jc n:=by simp[Lit.wf,IntKind.min,IntKind.max,IntKind.signed,IntKind.bits]at h;unfold jc;omega
theorem a0Q(l:List α):0<=x8 l:=by simp[x8]
theorem J9(l:List α)(i:Nat):H8 l (i:Int)=l[i]?:=by simp[H8]
theorem dW{l:List α}{i:Int}{x:α}(h:H8 l i=some x):0<=i/\i<x8 l/\x∈l/\l[i.toNat]? =some x:=by
 unfold H8 at h;split at h
 ·rename_i h0;obtain⟨h1,h2⟩:=Z4.1 h;refine⟨h0,by simp[x8];omega,?_,h⟩;rw[←h2];exact S9 h1
 ·cases h
theorem mf{l:List α}{i:Int}(h0:0<=i)(h:i<x8 l):∃x,H8 l i=some x/\x∈l:=by
 unfold x8 at h;refine⟨l[i.toNat]'l7,?_,S9 _⟩;unfold H8
 rw[if_pos h0,gY]
theorem a5y(l:List UInt8)(i:Nat):sat l (i:Int)=(l[i]?).map λc=>(c.toNat:Int):=by simp[sat]
theorem Hg{a b:List α}(h:a.length+b.length<=1073741824):mM a b=some (a++b):=by simp[mM,h]
theorem b2p{l:List α}{lo hi:Int}(h0:0<=lo)(h1:lo<=hi)(h2:hi<=l.length):BM l lo hi=some ((l.take hi.toNat).drop lo.toNat):=by simp[BM,h0,h1,h2]
theorem b2q{l:List α}{hi:Int}(h1:0<=hi)(h2:hi<=l.length):BM l 0 hi=some (l.take hi.toNat):=by rw[b2p l7 h1 h2];simp
end
section
variable {σ ε ρ:Type}
theorem Rk{f:σ->Option (σ⊕ε)}(Inv:σ->Prop)(Q:ε->Prop)(meas:σ->Nat)
  (h:∀s,Inv s->(∃s',f s=some (.inl s')/\Inv s' /\meas s' <meas s)\/(∃e,f s=some (.inr e)/\Q e)):
  ∀n s,Inv s->meas s<n->∃e,qi f n s=some e/\Q e
 |0,_,_,h=>by omega|n+1,s,hi,hm=>by
  unfold qi;rcases h s hi with⟨s',e,hi',hm'⟩|⟨x,e,hx⟩
  ·rw[e];exact Rk Inv Q meas h n s' hi' l7
  ·rw[e];exact⟨x,rfl,hx⟩
theorem gW{f:σ->Option (σ⊕ε)}{s:σ}(Inv:σ->Prop)(Q:ε->Prop)(meas:σ->Nat)(hi:Inv s)(hm:meas s<18446744073709551616)
  (h:∀s,Inv s->(∃s',f s=some (.inl s')/\Inv s' /\meas s' <meas s)\/(∃e,f s=some (.inr e)/\Q e)):∃e,dC f s=some e/\Q e:=
 Rk Inv Q meas h _ s hi hm
theorem UQ{f:σ->Option (Out σ ε ρ)}(Inv:σ->Prop)(Q:ε->Prop)(Qr:ρ->Prop)(meas:σ->Nat)
  (h:∀s,Inv s->(∃s',f s=some (.nx s')/\Inv s' /\meas s' <meas s)\/(∃e,f s=some (.ex e)/\Q e)\/(∃r,f s=some (.rt r)/\Qr r)):
  ∀n s,Inv s->meas s<n->(∃e,qj f n s=some (.inl e)/\Q e)\/(∃r,qj f n s=some (.inr r)/\Qr r)
 |0,_,_,h=>by omega|n+1,s,hi,hm=>by
  unfold qj;rcases h s hi with⟨s',e,hi',hm'⟩|⟨x,e,hx⟩|⟨x,e,hx⟩
  ·rw[e];exact UQ Inv Q Qr meas h n s' hi' l7
  ·rw[e];exact .inl ⟨x,rfl,hx⟩
  ·rw[e];exact .inr ⟨x,rfl,hx⟩
theorem DL{f:σ->Option (Out σ ε ρ)}{s:σ}(Inv:σ->Prop)(Q:ε->Prop)(Qr:ρ->Prop)(meas:σ->Nat)(hi:Inv s)(hm:meas s<18446744073709551616)
  (h:∀s,Inv s->(∃s',f s=some (.nx s')/\Inv s' /\meas s' <meas s)\/(∃e,f s=some (.ex e)/\Q e)\/(∃r,f s=some (.rt r)/\Qr r)):
  (∃e,aY f s=some (.inl e)/\Q e)\/(∃r,aY f s=some (.inr r)/\Qr r):=
 UQ Inv Q Qr meas h _ s hi hm
end
section
variable {α β ε ρ:Type}
open Classical in
theorem XH(l:List α)(p:Nat->α->Bool)(r:ρ)(e:ε)(f:Int->Option (Out Int ε ρ))(hl:l.length<18446744073709551616)
  (hin:∀(i:Nat) (a:α),l[i]? =some a->f (i:Int)=if p i a=true then some (.nx ((i+1:Nat):Int))else some (.rt r))
  (hend:f (l.length:Int)=some (.ex e)):
  aY f 0=if(∀i a,l[i]? =some a->p i a=true)then some (.inl e)else some (.inr r):=by
 have key:∀(n i:Nat),i<=l.length->l.length -i<n->(∀j a,j<i->l[j]? =some a->p j a=true)->qj f n (i:Int)=if(∀i a,l[i]? =some a->p i a=true)then some (.inl e)else some (.inr r):=by
  intro n;induction n with
  |zero=>intro i _ h;omega|succ n ih=>
   intro i hi hn hp;unfold qj;by_cases h:i<l.length
   ·have e' :=gY h;rw[hin i _ e'];by_cases hpi:p i l[i]=true
    ·rw[if_pos hpi];exact ih (i+1) l7 l7 λj a hj ha=>by
      by_cases hji:j=i
      ·subst hji;rw[e']at ha;cases ha;exact hpi
      ·exact hp j a l7 ha
    ·rw[if_neg hpi,if_neg];intro hall;exact hpi (hall i _ e')
   ·have:i=l.length:=l7;subst this;rw[hend,if_pos];intro j a ha;exact hp j a (Z4.1 ha).1 ha
 exact key _ 0 (pI _) hl λj a hj=>by omega
end
end Go.GP
namespace Go.GP
section
variable {α β α' β' σ τ ε ε' ρ ρ' :Type}
def Ag(R:α->β->Prop)(o:Option α)(p:Option β):Prop:=∃a b,o=some a/\p=some b/\R a b
theorem Ag.mk{R:α->β->Prop}{a:α}{b:β}(h:R a b):Ag R (some a) (some b):=⟨a,b,rfl,rfl,h⟩
theorem Ag.mono{R S:α->β->Prop}{o:Option α}{p:Option β}(h:Ag R o p)(hs:∀a b,o=some a->p=some b->R a b->S a b):Ag S o p:=by obtain⟨a,b,h1,h2,h3⟩:=h;exact⟨a,b,h1,h2,hs a b h1 h2 h3⟩
theorem Ag.bind{R:α->β->Prop}{S:α' ->β' ->Prop}{o:Option α}{p:Option β}{f:α->Option α'}{g:β->Option β'}(h:Ag R o p)
  (hk:∀a b,o=some a->p=some b->R a b->Ag S (f a) (g b)):Ag S (o5 o f) (o5 p g):=by
 obtain⟨a,b,h1,h2,h3⟩:=h;have:=hk a b h1 h2 h3;rw[h1,h2];exact this
theorem Ag.left{S:α' ->β->Prop}{o:Option α}{a:α}{f:α->Option α'}{p:Option β}(h:o=some a)(hk:Ag S (f a) p):Ag S (o5 o f) p:=by rw[h];exact hk
theorem Ag.right{S:α->β' ->Prop}{p:Option β}{b:β}{g:β->Option β'}{o:Option α}(h:p=some b)(hk:Ag S o (g b)):Ag S o (o5 p g):=by rw[h];exact hk
theorem Ag.cond{S:α->β->Prop}{b c:Bool}{x y:Option α}{u v:Option β}(h:b=c)(h1:b=true->Ag S x u)(h2:b=false->Ag S y v):Ag S (l9 b x y) (l9 c u v):=by
 subst h;cases b
 ·exact h2 rfl
 ·exact h1 rfl
theorem Ag.eq{o p:Option α}(h:Ag Eq o p):∃a,o=some a/\p=some a:=by obtain⟨a,b,h1,h2,rfl⟩:=h;exact⟨a,h1,h2⟩
def c1C(E:ε->ε' ->Prop)(Q:ρ->ρ' ->Prop):ε⊕ρ->ε' ⊕ρ' ->Prop
 | .inl a,.inl b=>E a b| .inr a,.inr b=>Q a b|_,_=>False
theorem Ag.sum{E:ε->ε' ->Prop}{Q:ρ->ρ' ->Prop}{S:α->β->Prop}{o:ε⊕ρ}{p:ε' ⊕ρ'}{f:ε->Option α}{g:ρ->Option α}{f' :ε' ->Option β}{g' :ρ' ->Option β}(h:c1C E Q o p)
  (h1:∀a b,E a b->Ag S (f a) (f' b)) (h2:∀a b,Q a b->Ag S (g a) (g' b)):Ag S (aI o f g) (aI p f' g'):=by
 cases o<;>cases p<;>first|exact h1 _ _ h|exact h2 _ _ h|exact h.elim
theorem Jn{p:Nat->Option ρ}(n:Nat)(hn:n<18446744073709551616)(e:ε){f:Int->Option (Out Int ε ρ)}
  (h1:∀i,i<n->f (i:Int)=some (match p i with|some r=> .rt r|none=> .nx ((i+1:Nat):Int))) (h2:f (n:Int)=some (.ex e)):
  aY f 0=some (match(List.range n).findSome? p with|some r=> .inr r|none=> .inl e):=by
 have key:∀m i,i+m=n->∀k,m<k->qj f k (i:Int)=some (match(List.range' i m).findSome? p with|some r=> .inr r|none=> .inl e):=by
  intro m;induction m with
  |zero=>intro i hi k hk;obtain⟨k,rfl⟩:∃k',k=k' +1:=⟨k -1,l7⟩;have:i=n:=l7;subst this;unfold qj;rw[h2];rfl
  |succ m ih=>
   intro i hi k hk;obtain⟨k,rfl⟩:∃k',k=k' +1:=⟨k -1,l7⟩;unfold qj;rw[h1 i l7,lT,List.findSome?_cons];cases hp:p i with
   |some r=>rfl|none=>exact ih (i+1) l7 k l7
 have:=key n 0 l7 jS hn;rw[List.range_eq_range'];exact this
end
end Go.GP
namespace Go.GP
open Gt
set_option maxRecDepth 100000
section
theorem fP{i:Nat}(h:i<=9000000000000000000):D7 .i64 (i:Int) 1=((i+1:Nat):Int):=by rw[V5 O6];omega
def YR(c:UInt8):Bool:=decide (97<=c.toNat)&&decide (c.toNat<=122)
def IJ(c:UInt8):Bool:=YR c || (decide (48<=c.toNat)&&decide (c.toNat<=57)) || decide (c.toNat=95)
def WQ:List (List UInt8):=Ed.getD []
def IQ(s:List UInt8):Bool:=match s with|[]=>false|c::r=>decide (s.length<=16)&&YR c&&s.all IJ&&!(WQ.any λw=>seq s w)
theorem a6o(c:UInt8)(r:List UInt8):IQ (c::r)=(decide ((c::r).length<=16)&&YR c&&(c::r).all IJ&&!(WQ.any λw=>seq (c::r) w)):=rfl
theorem a0U(c:UInt8):vG (c.toNat:Int)=some (YR c):=by
 unfold vG YR;cases h:decide (97<=c.toNat)<;>simp only[decide_eq_true_eq,decide_eq_false_iff_not]at h
 ·rw[Y1 l7];rfl
 ·rw[X5 l7];simp only[o7,aS,J6];congr 1;by_cases h2:c.toNat<=122<;>simp[h2]<;>omega
def a7Y(c:UInt8):Bool:=decide (48<=c.toNat)&&decide (c.toNat<=57)
theorem a7Z(c:UInt8):xY (c.toNat:Int)=some (a7Y c):=by
 unfold xY a7Y;cases h:decide (48<=c.toNat)<;>simp only[decide_eq_true_eq,decide_eq_false_iff_not]at h
 ·rw[Y1 l7];rfl
 ·rw[X5 l7];simp only[o7,aS,J6];congr 1;by_cases h2:c.toNat<=57<;>simp[h2]<;>omega
theorem b6W(c:UInt8):o8 (c.toNat:Int) 95=decide (c.toNat=95):=by unfold o8;by_cases h:c.toNat=95<;>simp[h]<;>omega
theorem WI{s:List UInt8}(h:s.length<=1000000):∃k,xx s=some k/\(k=x8 s↔s.all IJ=true):=by
 unfold xx;have:=gW (f:=λ(x:Int)=>l9 (D9 x (x8 s)) (o5 (sat s x) λx_1=>o5 (vG x_1) λx_2=>l9 x_2 (some (Sum.inl (D7 IntKind.i64 x 1)))
   (o5 (sat s x) λx_3=>o5 (xY x_3) λx_4=>l9 x_4 (some (Sum.inl (D7 IntKind.i64 x 1))) (o5 (sat s x) λx_5=>l9 (o8 x_5 95) (some (Sum.inl (D7 IntKind.i64 x 1))) (some (Sum.inr x))))) (some (Sum.inr x)))
  (s:=0) (λx=>∃i:Nat,x=i/\i<=s.length/\(s.take i).all IJ=true) (λk=>k=x8 s↔s.all IJ=true) (λx=>s.length -x.toNat) ⟨0,rfl,l7,rfl⟩ az ?_
 ·obtain⟨k,h1,h2⟩:=this;refine⟨k,?_,h2⟩;rw[jm];exact h1
 ·rintro x ⟨i,rfl,hi,hall⟩;by_cases hl:i<s.length
  ·have e:=gY hl;simp only[U5 (show(i:Int)<x8 s by simp[x8];omega),o7,a5y,e,iU,o9,a0U,a7Z,b6W];have hst:(s.take (i+1)).all IJ=((s.take i).all IJ&&IJ s[i]):=by rw[P9 hl,List.all_append];simp
   have hw:IJ s[i]=(YR s[i] || a7Y s[i] || decide (s[i].toNat=95)):=rfl;cases hwb:IJ s[i]with
   |true=>left;refine⟨((i+1:Nat):Int),?_,⟨i+1,rfl,hl,by rw[hst,hall,hwb];rfl⟩,by simp;omega⟩;rw[fP l7];rw[hw]at hwb;cases h1:YR s[i]<;>cases h2:a7Y s[i]<;>cases h3:decide (s[i].toNat=95)<;>rw[h1,h2,h3]at hwb<;>first|rfl|cases hwb
   |false=>
    right;refine⟨(i:Int),?_,?_⟩
    ·rw[hw]at hwb;cases h1:YR s[i]<;>cases h2:a7Y s[i]<;>cases h3:decide (s[i].toNat=95)<;>rw[h1,h2,h3]at hwb<;>first|rfl|cases hwb
    ·constructor
     ·intro h;simp[x8]at h;omega
     ·intro h;have:=lQ.1 h s[i] (S9 hl);rw[hwb]at this;cases this
  ·right;have:i=s.length:=l7;subst this;rw[ax]at hall;exact⟨_,by rw[L6 (by simp[x8])];rfl,by simp[x8,hall]⟩
theorem a6Z{a:List UInt8}{w:List UInt8}{r:Option Bool}{x:Bool}(h:r=some x):l9 (seq a w) (some (seq a w)) r=some (seq a w || x):=by rw[h];cases seq a w<;>rfl
theorem a1D(s:List UInt8):zT s=some (WQ.any λw=>seq s w):=by
 unfold zT;refine fK (o' :=some (WQ.any λw=>seq s w)) ?_ (by cases WQ.any λw=>seq s w<;>rfl);have hr:WQ=(Ed).getD []:=rfl;rw[show(WQ.any λw=>seq s w)=List.foldr (λw b=>seq s w || b) false WQ from by induction WQ with|nil=>rfl|cons w l ih=>simp[yV,ih]];unfold WQ Ed;simp only[dB,List.foldr]
 repeat (refine a6Z ?_)
 simp
theorem qI{s:List UInt8}(h:s.length<=1000000):gV s=some (IQ s):=by
 unfold gV;cases s with
 |nil=>rfl|cons c r=>
  have h1:seq (c::r) []=false:=by simp[seq]
  obtain⟨k,h2,h3⟩:=WI h;rw[h1];simp only[iw,o7];rw[show sat (c::r) 0=some (c.toNat:Int)from rfl,o9,a0U,o9,h2,o9,a1D,o9];have h4:o8 k (x8 (c::r))=(c::r).all IJ:=by rw[eU,O5];exact h3
  have h5:J6 (x8 (c::r)) 16=decide ((c::r).length<=16):=by simp only[J6,x8];congr 1;simp;omega
  rw[h4,h5,a6o];cases YR c<;>cases (c::r).all IJ<;>cases decide ((c::r).length<=16)<;>rfl
theorem Pq(t:Int×Int)(en:List kW):gm t en=iZ t en:=by
 unfold gm iZ;by_cases h1:t.1=1
 ·simp[o8,h1,J6]
 by_cases h2:t.1=2
 ·simp[o8,h2,J6]
 by_cases h3:t.1=3
 ·simp[o8,h3,J6]
 by_cases h4:t.1=4
 ·simp[o8,h4,J6]
 by_cases h5:t.1=5
 ·simp[o8,h5,J6]
 by_cases h6:t.1=6
 ·simp[o8,h6,J6]
 ·simp only[o8,h1,h2,h3,h4,h5,h6,decide_false,o6,o9];by_cases h7:1<=t.1
  ·rw[CO (X5 h7),Gz (Y1 l7)]
  ·rw[Gz (Y1 l7)]
theorem a5U(t:Int×Int)(en:List kW):pq t en=rF t en:=by unfold pq rF;rw[Pq]
def vty(t:Int×Int)(en:List kW):Bool:=l9 (o8 t.1 6) (l9 (J6 0 t.2) (D9 t.2 (x8 en)) false) (l9 (J6 1 t.1) (l9 (J6 t.1 5) (o8 t.2 0) false) false)
theorem pG(t:Int×Int)(en:List kW):iZ t en=some (vty t en):=by unfold iZ vty;cases o8 t.1 6<;>cases J6 0 t.2<;>cases J6 1 t.1<;>cases J6 t.1 5<;>rfl
theorem xE(t:Int×Int)(en:List kW):gm t en=some (vty t en):=(Pq t en).trans (pG t en)
theorem Zl(t:Int×Int)(en:List kW):∃b:Int×Int,rF t en=some b:=by
 unfold rF;rw[pG,o9];cases hv:vty t en
 ·exact⟨_,rfl⟩
 simp only[F9,o6];cases h1:o8 t.1 1<;>simp only[o7,o6]
 ·cases h2:o8 t.1 2<;>simp only[o7,o6]
  ·cases h3:o8 t.1 3<;>simp only[o7,o6]
   ·cases h4:o8 t.1 4<;>simp only[o7,o6]
    ·cases h5:o8 t.1 5<;>simp only[o7,o6]
     ·have h6:o8 t.1 6=true/\J6 0 t.2=true/\D9 t.2 (x8 en)=true:=by
       unfold vty at hv;rw[yU]at h1 h2 h3 h4 h5;cases h6:o8 t.1 6<;>rw[h6]at hv
       ·rw[yU]at h6;cases h7:J6 1 t.1<;>rw[h7]at hv
        ·cases hv
        cases h8:J6 t.1 5<;>rw[h8]at hv
        ·cases hv
        rw[kR]at h7 h8;omega
       ·cases h7:J6 0 t.2<;>rw[h7]at hv
        ·cases hv
        ·exact⟨rfl,rfl,hv⟩
      obtain⟨x,hx,_⟩:=mf (kR.1 h6.2.1) (jC.1 h6.2.2);rw[hx];exact⟨_,rfl⟩
     ·exact⟨_,rfl⟩
    ·exact⟨_,rfl⟩
   ·exact⟨_,rfl⟩
  ·exact⟨_,rfl⟩
 ·exact⟨_,rfl⟩
def bnd(t:Int×Int)(en:List kW):Int×Int:=(rF t en).getD (0,0)
theorem VA(t:Int×Int)(en:List kW):rF t en=some (bnd t en):=by obtain⟨b,h⟩:=Zl t en;unfold bnd;rw[h];rfl
theorem PN(t:Int×Int)(en:List kW):pq t en=some (bnd t en):=(a5U t en).trans (VA t en)
def inB(n:Int)(b:Int×Int):Bool:=l9 (J6 b.1 n) (J6 n b.2) false
def IM(r:Int×Int):Bool:=l9 (J6 0 r.1) (l9 (J6 r.1 r.2) (J6 r.2 109573) false) false
theorem Kz(r:Int×Int):qJ r=some (IM r):=by unfold qJ IM;cases J6 0 r.1<;>cases J6 r.1 r.2<;>rfl
def a4M(a b:Int×Int):(Int×Int)×Bool:=l9 (IM a) (l9 (IM b) (l9 (J6 (qF a.2 b.2) (nz a.1 b.1)) ((0,0),false) ((nz a.1 b.1,qF a.2 b.2),true)) ((0,0),false)) ((0,0),false)
theorem b2Z(a b:Int×Int):sZ a b=some (a4M a b):=by
 unfold sZ vP a4M;rw[Kz,o9,Kz,o9];cases IM a
 ·rfl
 simp only[o7];cases h1:D9 a.1 a.2
 ·rw[iL]at h1;rw[X5 (show qF a.2 b.2<=nz a.1 b.1 by unfold qF nz;omega)];cases IM b<;>rfl
 simp only[o9,F9,o6];cases IM b
 ·rfl
 simp only[o7];cases h2:D9 b.1 b.2
 ·rw[iL]at h2;rw[X5 (show qF a.2 b.2<=nz a.1 b.1 by unfold qF nz;omega)];rfl
 ·cases J6 (qF a.2 b.2) (nz a.1 b.1)<;>rfl
def Ey(a b:Dx):Bool:=l9 (a4M a.1 b.1).2 (D9 (nz a.2.1 b.2.1) (qF a.2.2.1 b.2.2.1)) false
theorem a0l(a b:Dx):Ap a b=some (Ey a b):=by unfold Ap Ey;rw[b2Z,o9];cases (a4M a.1 b.1).2<;>rfl
theorem a8l{l:List Dx}(r:Dx)(h:l.length<=1000000):∃k:Int,tH l r=some (k,l.any λy=>Ey y r):=by
 unfold tH;have key:=DL (f:=λ(x:Int)=>l9 (D9 x (x8 l)) (o5 (H8 l x) λx_1=>o5 (ut x_1 r) λx_2=>l9 x_2 (some (Out.rt (x,true))) (some (Out.nx (D7 IntKind.i64 x 1)))) (some (Out.ex PUnit.unit)))
   (s:=0) (λx=>∃i:Nat,x=i/\i<=l.length/\(l.take i).any (λy=>Ey y r)=false) (λ_=>(l.any λy=>Ey y r)=false) (λk=>k.2=true/\(l.any λy=>Ey y r)=true) (λx=>l.length -x.toNat) ⟨0,rfl,l7,rfl⟩ az ?_
 ·rcases key with⟨e,h1,h2⟩|⟨k,h1,h2,h3⟩
  ·exact⟨0,by rw[h1,h2];rfl⟩
  ·refine⟨k.1,?_⟩;rw[h1,h3,←h2];rfl
 ·rintro x ⟨i,rfl,hi,hall⟩;by_cases hl:i<l.length
  ·have e:=gY hl;have hst:(l.take (i+1)).any (λy=>Ey y r)=((l.take i).any (λy=>Ey y r) || Ey l[i] r):=by rw[P9 hl,wG];simp
   have hv:ut l[i] r=some (Ey l[i] r):=by unfold ut;rw[a0l];rfl
   simp only[U5 (show(i:Int)<x8 l by simp[x8];omega),o7,J9,e,o9,hv];cases hc:Ey l[i] r with
   |true=>exact .inr (.inr ⟨_,rfl,rfl,fQ.2 ⟨l[i],S9 hl,hc⟩⟩)|false=>exact .inl ⟨((i+1:Nat):Int),by rw[fP l7];rfl,⟨i+1,rfl,hl,by rw[hst,hall,hc];rfl⟩,by simp;omega⟩
  ·have:i=l.length:=l7;subst this;rw[ax]at hall;exact .inr (.inl ⟨_,by rw[L6 (by simp[x8])];rfl,hall⟩)
def a4m(x:Dx)(bl br:Int×Int):Bool:=
 l9 (IM x.1) (l9 (o8 x.1.1 x.1.2) true (l9 (J6 x.2.2.1 x.2.1) true (l9 (inB x.2.1 bl) (l9 (inB (H9 .i64 x.2.2.1 1) bl) (E9 (inB x.2.2.2 br)) true) true))) true
def a3B(t:iD)(en:List kW)(i:Nat):Option (Int×Int):=match t.2.2.2[i]? with
 |some x=>l9 (a4m x (bnd t.2.1 en) (bnd t.2.2.1 en)) (some ((i:Int),3)) (l9 ((t.2.2.2.take i).any λy=>Ey y x) (some ((i:Int),11)) none)|none=>none
def SE(t:iD)(en:List kW):Int×Int:=
 l9 (D9 64 (x8 t.2.2.2)) (64,4) (l9 (vty t.2.1 en) (l9 (vty t.2.2.1 en) (match(List.range t.2.2.2.length).findSome? (a3B t en)with|some r=>r|none=>(0,0)) (-1,8)) (-1,8))
theorem qW(a b:Int):D9 a b= !J6 b a:=by simp only[D9,J6];rw[←decide_not];congr 1;simp
theorem zo{α:Type}{l:List α}{i:Nat}(h:i<=l.length):BM l 0 (i:Int)=some (l.take i):=by rw[b2q l7 l7];simp
theorem b1F(t:iD)(en:List kW):Am t en=some (SE t en):=by
 unfold Am SE;rw[xE,o9,xE,o9];cases h64:D9 64 (x8 t.2.2.2)
 case true=>rfl
 simp only[o6];cases vty t.2.1 en
 ·rfl
 cases vty t.2.2.1 en
 ·rfl
 simp only[F9,o6,o9,X7,o7,PN];have hlen:t.2.2.2.length<=64:=by rw[iL]at h64;simp only[x8]at h64;omega
 refine fK (Jn (p:=a3B t en) t.2.2.2.length l7 PUnit.unit (λi hi=>?_) ?_) ?_
 rotate_left 2
 ·cases (List.range t.2.2.2.length).findSome? (a3B t en)<;>rfl
 ·have e:=gY hi;simp only[U5 (show(i:Int)<x8 t.2.2.2 by simp only[x8];omega),o7,J9,e,o9,a3B,Kz,zo (show i<=t.2.2.2.length by omega)];obtain⟨k,hk⟩:=a8l (l:=t.2.2.2.take i) t.2.2.2[i] az;rw[hk,fP l7];unfold a4m inB;simp only[qW];generalize bnd t.2.1 en=bl;generalize bnd t.2.2.1 en=br;cases IM t.2.2.2[i].1
  ·rfl
  cases o8 t.2.2.2[i].1.1 t.2.2.2[i].1.2
  case true=>rfl
  cases J6 t.2.2.2[i].2.2.1 t.2.2.2[i].2.1
  case true=>rfl
  cases J6 bl.1 t.2.2.2[i].2.1
  ·rfl
  cases J6 t.2.2.2[i].2.1 bl.2
  ·rfl
  cases J6 bl.1 (H9 IntKind.i64 t.2.2.2[i].2.2.1 1)
  ·rfl
  cases J6 (H9 IntKind.i64 t.2.2.2[i].2.2.1 1) bl.2
  ·rfl
  cases J6 br.1 t.2.2.2[i].2.2.2
  ·rfl
  cases J6 t.2.2.2[i].2.2.2 br.2
  ·rfl
  cases (t.2.2.2.take i).any λy=>Ey y t.2.2.2[i]<;>rfl
 ·rw[L6 (by simp[x8])];rfl
section
variable {α ε ρ:Type}
theorem Gx(l:List α)(p:α->Bool)(r:ρ)(e:ε){f:Int->Option (Out Int ε ρ)}(hl:l.length<=1000000)
  (hin:∀(i:Nat) (a:α),l[i]? =some a->f (i:Int)=some (bif p a then .rt r else .nx (D7 .i64 (i:Int) 1))) (hend:f (l.length:Int)=some (.ex e)):
  aY f 0=some (bif l.any p then .inr r else .inl e):=by
 rw[XH l (λi a=> !p a) r e f l7 (λi a ha=>?_) hend]
 ·have hb:(∀(j:Nat) (a:α),l[j]? =some a->(!p a)=true)↔l.any p=false:=by
   rw[oN];constructor
   ·intro h x hx;obtain⟨j,hj,rfl⟩:=bI hx;have:=h j _ (gY hj);simpa using this
   ·intro h j a hj;have:=h a (su hj);simpa using this
  by_cases hv:l.any p=false
  ·rw[if_pos (hb.2 hv),hv];rfl
  ·rw[if_neg (λh=>hv (hb.1 h))];simp only[Hf]at hv;rw[hv];rfl
 ·have hi:=(Z4.1 ha).1;rw[hin i a ha,fP l7];cases p a<;>rfl
theorem xw(l:List α)(p:α->Bool){f:Int->Option (Out Int PUnit Int)}(hl:l.length<=1000000)
  (hin:∀(i:Nat) (a:α),l[i]? =some a->f (i:Int)=some (bif p a then .rt (i:Int)else .nx (D7 .i64 (i:Int) 1))) (hend:f (l.length:Int)=some (.ex PUnit.unit)):
  o5 (o5 (aY f 0) λo=>aI o (λ_=>some (-1)) λr=>some r) (λx=>some (J6 0 x))=some (l.any p):=by
 have key:=DL (f:=f) (s:=0) (λx=>∃i:Nat,x=i/\i<=l.length/\(l.take i).any p=false) (λ_=>l.any p=false) (λk=>0<=k/\l.any p=true) (λx=>l.length -x.toNat) ⟨0,rfl,l7,rfl⟩ az ?_
 ·rcases key with⟨e,h1,h2⟩|⟨k,h1,h2,h3⟩
  ·rw[h1,h2];rfl
  ·rw[h1,h3,o9,Gs,o9,X5 h2]
 ·rintro x ⟨i,rfl,hi,hall⟩;by_cases h:i<l.length
  ·have e:=gY h;have hst:(l.take (i+1)).any p=((l.take i).any p || p l[i]):=by rw[P9 h,wG];simp
   rw[hin i _ e];cases hc:p l[i]with
   |true=>exact .inr (.inr ⟨_,rfl,l7,fQ.2 ⟨l[i],S9 h,hc⟩⟩)|false=>exact .inl ⟨((i+1:Nat):Int),by rw[fP l7];rfl,⟨i+1,rfl,h,by rw[hst,hall,hc];rfl⟩,by simp;omega⟩
  ·have:i=l.length:=l7;subst this;rw[ax]at hall;exact .inr (.inl ⟨_,hend,hall⟩)
theorem X3{i:Nat}{l:List α}{a:α}(h:l[i]? =some a):D9 (i:Int) (x8 l)=true:=U5 (by have:=(Z4.1 h).1;simp only[x8];omega)
theorem W9(l:List α):D9 (l.length:Int) (x8 l)=false:=L6 (by simp[x8])
end
theorem MJ{l:List kW}(n:List UInt8)(h:l.length<=1000000):zn l n=some (l.any λx=>seq x.1 n):=by unfold zn jl ku;rw[jm];refine xw l (λx=>seq x.1 n) h (λi a ha=>?_) (by rw[W9];rfl);rw[X3 ha,o7,J9,ha,o9];unfold FB;rw[o9];cases seq a.1 n<;>rfl
theorem Rh{l:List iD}(n:List UInt8)(h:l.length<=1000000):zS l n=some (l.any λx=>seq x.1 n):=by unfold zS iE jA;rw[jm];refine xw l (λx=>seq x.1 n) h (λi a ha=>?_) (by rw[W9];rfl);rw[X3 ha,o7,J9,ha,o9];unfold DK;rw[o9];cases seq a.1 n<;>rfl
theorem a0E{l:List D6}(s:D6)(h:l.length<=1000000):eF l s=some (l.any λx=>seq x.1 s.1):=by unfold eF jy;refine xw l (λx=>seq x.1 s.1) h (λi a ha=>?_) (by rw[W9];rfl);rw[X3 ha,o7,J9,ha,o9];unfold Ba;rw[o9];cases seq a.1 s.1<;>rfl
theorem a2R{l:List aK}(s:aK)(h:l.length<=1000000):fG l s=some (l.any λx=>seq x.1 s.1):=by unfold fG kw;refine xw l (λx=>seq x.1 s.1) h (λi a ha=>?_) (by rw[W9];rfl);rw[X3 ha,o7,J9,ha,o9];unfold Cc;rw[o9];cases seq a.1 s.1<;>rfl
theorem Rf{l:List lL}(s:lL)(h:l.length<=1000000):bC l s=some (l.any λx=>seq x.1 s.1):=by unfold bC jw;refine xw l (λx=>seq x.1 s.1) h (λi a ha=>?_) (by rw[W9];rfl);rw[X3 ha,o7,J9,ha,o9];unfold AZ;rw[o9];cases seq a.1 s.1<;>rfl
theorem a6k{l:List (List UInt8)}(s:List UInt8)(h:l.length<=1000000):jG l s=some (l.any λx=>seq s x):=by unfold jG qp;refine xw l (λx=>seq s x) h (λi a ha=>?_) (by rw[W9];rfl);rw[X3 ha,o7,J9,ha,o9];cases seq s a<;>rfl
theorem a6j{l:List Int}(s:Int)(h:l.length<=1000000):nY l s=some (l.any λx=>o8 s x):=by unfold nY xe;refine xw l (λx=>o8 s x) h (λi a ha=>?_) (by rw[W9];rfl);rw[X3 ha,o7,J9,ha,o9];cases o8 s a<;>rfl
section
variable {α ε ρ:Type}
end
theorem a4U(i k:Nat):D9 (i:Int) (k:Int)=decide (i<k):=by unfold D9;by_cases h:i<k<;>simp[h]<;>omega
def We(l:Z7)(kind:Nat)(k:Nat)(n:List UInt8):Bool:=
 match kind with
 |1=>(l.1.take k).any λx=>seq x.1 n|2=>(l.1.any λx=>seq x.1 n) || ((l.2.1.take k).any λx=>seq x.1 n)|_=>(l.1.any λx=>seq x.1 n) || (l.2.1.any λx=>seq x.1 n) || ((l.2.2.take k).any λx=>seq x.1 n)
def Few(l:Z7):Prop:=l.1.length<=1000/\l.2.1.length<=1000/\l.2.2.length<=1000
def b2t(ms:List (List UInt8))(i:Nat):Option (Int×Int):=match ms[i]? with
 |some m=>l9 (IQ m) (l9 ((ms.take i).any λx=>seq m x) (some (7,((100+i:Nat):Int))) none) (some (2,((100+i:Nat):Int)))|none=>none
def a4O(l:Z7)(i:Nat)(e:kW):Int×Int:=
 l9 (IQ e.1) (l9 (We l 1 i e.1) (7,0) (l9 (o8 (x8 e.2) 0) (5,0) (l9 (D9 16 (x8 e.2)) (4,116) (match(List.range e.2.length).findSome? (b2t e.2)with|some r=>r|none=>(0,0))))) (2,0)
theorem b2l{i:Nat}(h:i<=1000000):D7 .i64 100 (i:Int)=((100+i:Nat):Int):=by rw[V5 O6];omega
theorem Yz{l:Z7}(h:Few l){i:Nat}(hi:i<=l.1.length)(e:kW)(h1:e.1.length<=1000000)(h2:∀m∈e.2,m.length<=1000000):
  Bz l (i:Int) e=some (a4O l i e):=by
 unfold Bz a4O We;rw[qI h1,o9,zo hi,o9,MJ _ (by have:=h.1;simp;omega),o9];cases IQ e.1
 ·rfl
 simp only[F9,o6,o7];cases (l.1.take i).any λx=>seq x.1 e.1
 case true=>rfl
 cases o8 (x8 e.2) 0
 case true=>rfl
 cases h16:D9 16 (x8 e.2)
 case true=>rfl
 simp only[o6];have hlen:e.2.length<=16:=by rw[iL]at h16;simp only[x8]at h16;omega
 refine fK (Jn (p:=b2t e.2) e.2.length l7 PUnit.unit (λj hj=>?_) ?_) ?_
 rotate_left 2
 ·cases (List.range e.2.length).findSome? (b2t e.2)<;>rfl
 ·have e' :=gY hj;rw[X3 e',o7,J9,e',o9,qI (h2 _ (S9 hj)),o9,zo l7,o9,a6k _ az,o9,b2l l7,fP l7];simp only[b2t,e'];cases IQ e.2[j]
  ·rfl
  cases (e.2.take j).any λx=>seq e.2[j] x<;>rfl
 ·rw[W9];rfl
theorem a0C{β:Type}{p:Nat->Option β}{n j:Nat}{c:β}(h0:(List.range j).findSome? p=none)(h1:p j=some c)(hj:j<n):(List.range n).findSome? p=some c:=by
 induction n with
 |zero=>omega|succ n ih=>
  rw[X6,wI];by_cases h:j<n
  ·rw[ih h];rfl
  ·have:j=n:=l7;subst this;rw[h0];simp[h1]
theorem b2k{β:Type}{p:Nat->Option β}{j:Nat}(h0:(List.range j).findSome? p=none)(h1:p j=none):(List.range (j+1)).findSome? p=none:=by rw[X6,wI,h0];simp[h1]
def bD{ρ:Type}(n:Nat)(p:Nat->Option ρ):Option ρ:=(List.range n).findSome? p
theorem Ji{σ ε ρ:Type}{p:Nat->Option ρ}(n:Nat)(hn:n<=1000000)(a:σ)(e:ε){f:σ×Int->Option (Out (σ×Int) ε ρ)}
  (h1:∀i,i<n->f (a,(i:Int))=some (match p i with|some r=> .rt r|none=> .nx (a,D7 .i64 (i:Int) 1))) (h2:f (a,(n:Int))=some (.ex e)):
  aY f (a,0)=some (match bD n p with|some r=> .inr r|none=> .inl e):=by
 have key:=DL (f:=f) (s:=(a,0)) (λx=>∃i:Nat,x=(a,(i:Int))/\i<=n/\bD i p=none) (λx=>x=e/\bD n p=none) (λr=>bD n p=some r) (λx=>n -x.2.toNat) ⟨0,rfl,l7,rfl⟩ az ?_
 ·rcases key with⟨x,k1,rfl,k2⟩|⟨r,k1,k2⟩
  ·rw[k1,k2]
  ·rw[k1,k2]
 ·rintro x ⟨i,rfl,hi,hnone⟩;by_cases h:i<n
  ·rw[h1 i h];cases hp:p i with
   |some r=>exact .inr (.inr ⟨_,rfl,a0C hnone hp h⟩)|none=>exact .inl ⟨(a,((i+1:Nat):Int)),by rw[fP l7],⟨i+1,rfl,h,b2k hnone hp⟩,by simp;omega⟩
  ·have:i=n:=l7;subst this;exact .inr (.inl ⟨_,h2,rfl,hnone⟩)
def a0s(kind i:Int)(r:Int×Int):Option (Int×Int×Int×Int):=l9 (o8 r.1 0) none (some (r.1,kind,i,r.2))
def a4N(l:Z7)(i:Nat):Option (Int×Int×Int×Int):=match l.1[i]? with|some e=>a0s 1 i (a4O l i e)|none=>none
def PW(l:Z7):Int×Int×Int×Int:=l9 (D9 8 (x8 l.1)) (4,1,8,0) (match bD l.1.length (a4N l)with|some r=>r|none=>(0,0,0,0))
def a4p(l:Z7):Prop:=∀e∈l.1,e.1.length<=1000000/\∀m∈e.2,m.length<=1000000
theorem Wy{l:Z7}(h:Few l)(hE:a4p l):zO l=some (PW l):=by
 unfold zO PW;cases D9 8 (x8 l.1)
 case true=>rfl
 simp only[o6];refine fK (Ji (p:=a4N l) l.1.length (by have:=h.1;omega) _ (0,0,0,0) (λi hi=>?_) ?_) ?_
 rotate_left 2
 ·cases bD l.1.length (a4N l)<;>rfl
 ·have e:=gY hi;have hm:=hE _ (S9 hi);simp only[X3 e,o7,J9,e,o9,Yz h (show i<=l.1.length by omega) _ hm.1 hm.2,a4N,a0s];cases o8 (a4O l i l.1[i]).1 0<;>rfl
 ·rw[W9];rfl
theorem mJ{ρ:Type}{n:Nat}{p:Nat->Option ρ}{r:ρ}(h:bD n p=some r):∃i,i<n/\p i=some r:=by unfold bD at h;obtain⟨i,hi,hp⟩:=List.exists_of_findSome?_eq_some h;exact⟨i,U3.1 hi,hp⟩
theorem b1D(t:iD)(en:List kW):(SE t en).1=-1\/0<=(SE t en).1:=by
 unfold SE;cases D9 64 (x8 t.2.2.2)
 case true=>right;simp only[o7];decide
 cases vty t.2.1 en
 ·left;rfl
 cases vty t.2.2.1 en
 ·left;rfl
 right;simp only[o7,o6];cases hf:(List.range t.2.2.2.length).findSome? (a3B t en)with
 |none=>exact aV _|some r=>
  obtain⟨i,hi,hp⟩:=mJ (p:=a3B t en) hf;unfold a3B at hp;split at hp
  ·rename_i x hx;cases hw:a4m x (bnd t.2.1 en) (bnd t.2.2.1 en)<;>rw[hw]at hp
   ·cases ha:(t.2.2.2.take i).any λy=>Ey y x<;>rw[ha]at hp
    ·cases hp
    ·cases hp;show(0:Int)<=(i:Int);omega
   ·cases hp;show(0:Int)<=(i:Int);omega
  ·cases hp
def b1E(l:Z7)(i:Nat)(t:iD):Int×Int:=
 l9 (IQ t.1) (l9 (We l 2 i t.1) (7,0) (l9 (o8 (SE t l.1).2 0) (0,0) ((SE t l.1).2,l9 (J6 0 (SE t l.1).1) (D7 .i64 100 (SE t l.1).1) 0))) (2,0)
def ZI(l:Z7)(i:Nat):Option (Int×Int×Int×Int):=match l.2.1[i]? with|some t=>a0s 2 i (b1E l i t)|none=>none
def KZ(l:Z7):Int×Int×Int×Int:=l9 (D9 8 (x8 l.2.1)) (4,2,8,0) (match bD l.2.1.length (ZI l)with|some r=>r|none=>(0,0,0,0))
def ZU(l:Z7):Prop:=∀t∈l.2.1,t.1.length<=1000000
theorem Ub{l:Z7}(h:Few l)(hT:ZU l):yH l=some (KZ l):=by
 unfold yH KZ;cases D9 8 (x8 l.2.1)
 case true=>rfl
 simp only[o6];refine fK (Ji (p:=ZI l) l.2.1.length (by have:=h.2.1;omega) _ (0,0,0,0) (λi hi=>?_) ?_) ?_
 rotate_left 2
 ·cases bD l.2.1.length (ZI l)<;>rfl
 ·have e:=gY hi;have hm:=hT _ (S9 hi);simp only[X3 e,o7,J9,e,o9,b1F,qI hm,MJ _ (show l.1.length<=1000000 by have:=h.1;omega),zo (show i<=l.2.1.length by omega),
   Rh _ (show(l.2.1.take i).length<=1000000 by have:=h.2.1;simp;omega),ZI,b1E,We]
  cases IQ l.2.1[i].1
  ·rfl
  cases l.1.any λx=>seq x.1 l.2.1[i].1
  case true=>rfl
  cases (l.2.1.take i).any λx=>seq x.1 l.2.1[i].1
  case true=>rfl
  simp only[F9,o6,o7,o9,Bool.or_false];cases hz:o8 (SE l.2.1[i] l.1).2 0
  case true=>rfl
  simp only[iw,o7,o6,a0s,hz];rcases b1D l.2.1[i] l.1 with hr|hr
  ·rw[O8 hr,Y1 (show(SE l.2.1[i] l.1).1<0 by omega)];simp only[F9,o6,o9,hz,iw,o7]
  ·rw[L9 (show(SE l.2.1[i] l.1).1≠-1 by omega),X5 hr];simp only[iw,o7,o9,hz]
 ·rw[W9];rfl
theorem a8m{α β ε:Type}(l:List α)(g:α->β)(hl:l.length<=1000000){f:List β×Int->Option ((List β×Int)⊕ε)}{F:List β->ε}
  (hin:∀(i:Nat) (a:α) (acc:List β),l[i]? =some a->acc.length=i->f (acc,(i:Int))=some (.inl (acc++[g a],D7 .i64 (i:Int) 1))) (hend:∀acc,f (acc,(l.length:Int))=some (.inr (F acc))):
  dC f ([],0)=some (F (l.map g)):=by
 obtain⟨e,h1,h2⟩:=gW (f:=f) (s:=([],0)) (λx=>∃i:Nat,x=((l.take i).map g,(i:Int))/\i<=l.length) (λe=>e=F (l.map g)) (λx=>l.length -x.2.toNat) ⟨0,rfl,l7⟩ az (by
  rintro x ⟨i,rfl,hi⟩;by_cases h:i<l.length
  ·have e:=gY h;refine .inl ⟨((l.take (i+1)).map g,((i+1:Nat):Int)),?_,⟨i+1,rfl,h⟩,by simp;omega⟩;rw[hin i _ _ e az,fP l7,P9 h,bV];rfl
  ·have:i=l.length:=l7;subst this;refine .inr ⟨_,hend _,?_⟩;rw[ax])
 rw[h1,h2]
theorem Fp{l:List lL}(h:l.length<=1000000):uj l=some (l.map (·.2)):=by
 unfold uj;rw[jm];refine a8m (F:=id) l (λx=>x.2) h (λi a acc ha hacc=>?_) (λacc=>?_)
 ·have hi:=(Z4.1 ha).1;simp only[X3 ha,o7,J9,ha,o9];rw[Hg (by simp[hacc];omega)];rfl
 ·simp only[W9];rfl
def ZR(l:Z7):Prop:=∀s∈l.2.2,s.1.length<=1000000/\s.2.2.1.length<=1000/\s.2.2.2.1.length<=1000/\s.2.2.2.2.length<=1000
def FI(l:Z7)(s:D6):List kW×List iD×List (Int×Int)×List (Int×Int)×List (Int×Int)×Bool:=
 match(if 0<=s.2.1 then l.2.2[s.2.1.toNat]? else none)with
 |some k=>(l.1,l.2.1,s.2.2.1.map (·.2),s.2.2.2.1.map (·.2),k.2.2.2.1.map (·.2),true)|none=>(l.1,l.2.1,s.2.2.1.map (·.2),s.2.2.2.1.map (·.2),[],false)
theorem Np{l:Z7}(h:ZR l){i:Nat}{s:D6}(hs:l.2.2[i]? =some s):tC l (i:Int)=some (FI l s):=by
 have hm:=h s (su hs);unfold tC FI;rw[J9,hs,o9,Fp l7,o9,Fp l7,o9];by_cases h0:0<=s.2.1
 ·rw[X5 h0,if_pos h0,o7];by_cases h1:s.2.1<x8 l.2.2
  ·obtain⟨k,hk,hkm⟩:=mf h0 h1;have hk' :l.2.2[s.2.1.toNat]? =some k:=(dW hk).2.2.2;rw[U5 h1,o7,hk,o9,Fp (by have:=h k hkm;omega),o9,hk']
  ·have h1' :x8 l.2.2<=s.2.1:=fZ.1 h1;rw[L6 h1',o6,gu (by simp only[x8]at h1';exact Int.le_toNat h0 |>.2 h1')]
 ·have h0' :s.2.1<(0:Int):=jU.1 h0;rw[Y1 h0',if_neg h0];rfl
abbrev SI(l:List Int):Prop:=l.Pairwise (·< ·)
theorem a3L:∀{a b:List Int},SI a->SI b->(∀x,x∈a↔x∈b)->a=b
 |[],[],_,_,_=>rfl|[],y::b,_,_,h=>absurd ((h y).2 A7) A7|x::a,[],_,_,h=>absurd ((h x).1 A7) A7|x::a,y::b,ha,hb,h=>by
  have ha' :=U9.1 ha;have hb' :=U9.1 hb;have hxy:x=y:=by
   rcases C9.1 ((h x).1 A7)with h1|h1
   ·exact h1
   ·rcases C9.1 ((h y).2 A7)with h2|h2
    ·exact h2.symm
    ·have:=hb'.1 _ h1;have:=ha'.1 _ h2;omega
  subst hxy;congr 1;refine a3L ha'.2 hb'.2 λz=>⟨λhz=>?_,λhz=>?_⟩
  ·rcases C9.1 ((h z).1 (by simp[hz]))with h1|h1
   ·have:=ha'.1 _ hz;omega
   ·exact h1
  ·rcases C9.1 ((h z).2 (by simp[hz]))with h1|h1
   ·have:=hb'.1 _ hz;omega
   ·exact h1
def ins(n:Int):List Int->List Int
 |[]=>[n]|a::l=>if n<=a then(if n<a then n::a::l else a::l)else a::ins n l
theorem Ho(n x:Int):∀l,x∈ins n l↔x=n\/x∈l
 |[]=>by simp[ins]|a::l=>by
  unfold ins;by_cases h:n<=a
  ·rw[if_pos h];by_cases h2:n<a
   ·rw[if_pos h2];simp
   ·rw[if_neg h2];have:n=a:=l7;subst this;simp
  ·rw[if_neg h,C9,Ho n x l,C9];constructor
   ·rintro(h|h|h)<;>simp[h]
   ·rintro(h|h|h)<;>simp[h]
theorem b0K(n:Int):∀{l},SI l->SI (ins n l)
 |[],_=>List.pairwise_singleton _ _|a::l,h=>by
  have h' :=U9.1 h;unfold ins;by_cases h1:n<=a
  ·rw[if_pos h1];by_cases h2:n<a
   ·rw[if_pos h2];refine U9.2 ⟨λx hx=>?_,h⟩;rcases C9.1 hx with rfl|hx
    ·exact h2
    ·have:=h'.1 x hx;omega
   ·rw[if_neg h2];exact h
  ·rw[if_neg h1];refine U9.2 ⟨λx hx=>?_,b0K n h'.2⟩;rcases(Ho n x l).1 hx with rfl|hx
   ·omega
   ·exact h'.1 x hx
def UF(ns:List Int)(l:List Int):List Int:=ns.foldl (λacc n=>ins n acc) l
theorem UW(x:Int):∀ns l,x∈UF ns l↔x∈ns\/x∈l
 |[],l=>by simp[UF]|n::ns,l=>by
  show x∈UF ns (ins n l)↔_;rw[UW x ns,Ho,C9];constructor
  ·rintro(h|h|h)<;>simp[h]
  ·rintro((h|h)|h)<;>simp[h]
theorem Zy:∀ns {l},SI l->SI (UF ns l)
 |[],_,h=>h|n::ns,_,h=>Zy ns (b0K n h)
def Ih(l:List Int):List Int:=UF l []
theorem rf(x:Int)(l:List Int):x∈Ih l↔x∈l:=by unfold Ih;rw[UW];simp
theorem Zz(l:List Int):SI (Ih l):=Zy l List.Pairwise.nil
theorem UM(n:Int):∀l,(ins n l).length<=l.length+1
 |[]=>by simp[ins]|a::l=>by
  unfold ins;by_cases h1:n<=a
  ·rw[if_pos h1];by_cases h2:n<a
   ·rw[if_pos h2];simp
   ·rw[if_neg h2];simp
  ·rw[if_neg h1];have:=UM n l;simp only[G5];omega
theorem Ri:∀ns l,(UF ns l).length<=l.length+ns.length
 |[],l=>by simp[UF]|n::ns,l=>by have h1:=Ri ns (ins n l);have h2:=UM n l;show(UF ns (ins n l)).length<=_;simp only[G5];omega
theorem EK(l:List Int):(Ih l).length<=l.length:=by have:=Ri l [];unfold Ih;simpa using this
theorem VV{l:List Int}(n:Nat)(h:SI l)(h2:∀x∈l,0<=x/\x<n):l.length<=n:=by
 have key:∀(l:List Int) (lo:Int),SI l->(∀x∈l,lo<=x/\x<n)->lo<=n->(l.length:Int)<=n -lo:=by
  intro l;induction l with
  |nil=>intro lo _ _ hlo;simp;omega|cons a l ih=>intro lo hs hb hlo;have h' :=U9.1 hs;have ha:=hb a A7;have:=ih (a+1) h'.2 (λx hx=>⟨by have:=h'.1 x hx;omega,(hb x (by simp[hx])).2⟩) l7;simp only[G5];omega
 have:=key l 0 h (λx hx=>h2 x hx) l7;omega
theorem Uf(x:Int):∀(l:List Int) (p:Int),(p::l).Pairwise (·<=·)->SI (p::ddp p l)/\(x∈p::ddp p l↔x∈p::l)
 |[],p,_=>⟨List.pairwise_singleton _ _,Iff.rfl⟩|a::l,p,h=>by
  have h1:=U9.1 h;obtain⟨i1,i2⟩:=Uf x l a h1.2;have h2:=U9.1 h1.2;have hpa:=h1.1 a A7;unfold ddp;cases hq:o8 a p
  ·rw[yU]at hq;simp only[cond_false];refine⟨U9.2 ⟨λy hy=>?_,i1⟩,?_⟩
   ·rcases C9.1 hy with rfl|hy
    ·omega
    ·have:=(U9.1 i1).1 y hy;omega
   ·rw[C9,i2,C9 (a:=x) (b:=p)]
  ·rw[O5]at hq;subst hq;simp only[cond_true];refine⟨i1,?_⟩;rw[i2];simp
theorem a7S(l:List Int):dd (Gf l)=Ih l:=by
 have hs:=CU l;have hp:=DJ l;refine a3L ?_ (Zz l) λx=>?_
 ·cases he:Gf l with
  |nil=>exact List.Pairwise.nil|cons a r=>rw[he]at hs;exact(Uf a r a hs).1
 ·rw[rf,←hp.mem_iff];cases he:Gf l with
  |nil=>exact Iff.rfl|cons a r=>rw[he]at hs;exact(Uf x r a hs).2
theorem a6p(l:List Int):(Gf l).length=l.length:=(DJ l).length_eq
theorem b3m{l:List Int}(h:l.length<=1000000):o5 (Dv l) (λx=>qQ x)=some (Ih l):=by unfold Dv qQ;rw[show Nat.blt l.length 4611686018427387904=true from by simp[Nat.blt];omega];simp only[cond_true,o9];rw[show Nat.blt (Gf l).length 4611686018427387904=true from by rw[a6p];simp[Nat.blt];omega];rw[cond_true,a7S]
def hg(l:List Int)(i:Nat):Int:=l.getD i 0
def swp(l:List Int)(i j:Nat):List Int:=(l.set i (hg l j)).set j (hg l i)
theorem xq{l:List Int}{i:Nat}(h:i<l.length):l[i]? =some (hg l i):=by unfold hg;rw[rZ,gY h];rfl
theorem Ik(l:List Int)(i j:Nat):(swp l i j).length=l.length:=by simp[swp]
theorem YJ{l:List Int}{i j:Nat}(hi:i<l.length)(hj:j<l.length)(k:Nat):hg (swp l i j) k=if k=j then hg l i else if k=i then hg l j else hg l k:=by
 unfold hg swp;simp only[rZ,V7,nC];by_cases h1:k=j
 ·subst h1;simp[hj,hg,rZ]
 ·rw[if_neg (λh=>h1 h.symm),if_neg h1];by_cases h2:k=i
  ·subst h2;simp[hi,hg,rZ]
  ·rw[if_neg (λh=>h2 h.symm),if_neg h2]
theorem JQ{l:List Int}{i j:Nat}(hi:i<l.length)(hj:j<l.length):(swp l i j).Perm l:=by
 have e1:hg l i=l[i]:=by have:=xq hi;rw[gY hi]at this;exact(V6 this).symm
 have e2:hg l j=l[j]:=by have:=xq hj;rw[gY hj]at this;exact(V6 this).symm
 unfold swp;rw[e1,e2];exact List.set_set_perm hi hj
def IW(l:List Int)(n:Nat):Prop:=∀k,0<k->k<n->hg l ((k -1) / 2)<=hg l k
def PE(l:List Int)(j:Nat):Prop:=(∀k,0<k->k<l.length->k≠j->hg l ((k -1) / 2)<=hg l k)/\(0<j->∀k,0<k->k<l.length->(k -1) / 2=j->hg l ((j -1) / 2)<=hg l k)
def FM(l:List Int)(n i:Nat):Prop:=(∀k,0<k->k<n->(k -1) / 2≠i->hg l ((k -1) / 2)<=hg l k)/\(0<i->∀k,0<k->k<n->(k -1) / 2=i->hg l ((i -1) / 2)<=hg l k)
theorem a0F{l:List Int}{j:Nat}(h:PE l j)(h0:0<j)(hj:j<l.length)(hlt:hg l j<hg l ((j -1) / 2)):PE (swp l ((j -1) / 2) j) ((j -1) / 2):=by
 have hi:(j -1) / 2<l.length:=l7;have hij:(j -1) / 2<j:=l7;generalize hp:(j -1) / 2=i at*;have G:=YJ hi hj;refine⟨λk k0 k1 k2=>?_,λi0 k k0 k1 k2=>?_⟩
 ·rw[Ik]at k1;rw[G k,G];by_cases a:k=j
  ·subst a;rw[if_pos rfl,hp,if_neg l7,if_pos rfl];omega
  rw[if_neg a,if_neg k2];by_cases b:(k -1) / 2=j
  ·rw[if_pos b];have:=h.2 h0 k k0 k1 b;rw[hp]at this;exact this
  rw[if_neg b];by_cases c:(k -1) / 2=i
  ·rw[if_pos c];have:=h.1 k k0 k1 a;rw[c]at this;omega
  rw[if_neg c];exact h.1 k k0 k1 a
 ·rw[Ik]at k1;rw[G,G,if_neg l7,if_neg l7];have e1:=h.1 i i0 hi l7;by_cases a:k=j
  ·rw[if_pos a];exact e1
  ·rw[if_neg a,if_neg l7];have:=h.1 k k0 k1 a;rw[k2]at this;omega
theorem UA{l:List Int}{j:Nat}(h:PE l j)(he:j=0\/hg l ((j -1) / 2)<=hg l j):IW l l.length:=λk k0 k1=>by
 by_cases a:k=j
 ·subst a;rcases he with he|he
  ·omega
  ·exact he
 ·exact h.1 k k0 k1 a
theorem Fv{l:List Int}{n i j:Nat}(h:FM l n i)(hn:n<=l.length)(hj:(j -1) / 2=i)(hj0:0<j)(hjn:j<n)(hmin:∀k,0<k->k<n->(k -1) / 2=i->hg l j<=hg l k)(hlt:hg l j<hg l i):FM (swp l i j) n j:=by
 have G:=YJ (l:=l) (i:=i) (j:=j) l7 l7;refine⟨λk k0 k1 k2=>?_,λj0 k k0 k1 k2=>?_⟩
 ·rw[G k,G,if_neg k2];by_cases a:k=j
  ·rw[if_pos a,if_pos l7];omega
  rw[if_neg a];by_cases b:k=i
  ·rw[if_pos b,if_neg l7];rw[b];exact h.2 l7 j hj0 hjn hj
  rw[if_neg b];by_cases c:(k -1) / 2=i
  ·rw[if_pos c];exact hmin k k0 k1 c
  ·rw[if_neg c];exact h.1 k k0 k1 c
 ·rw[G,G,if_neg l7,if_pos hj,if_neg l7,if_neg l7];have:=h.1 k k0 k1 l7;rw[k2]at this;exact this
theorem CS{l:List Int}{n i:Nat}(h:FM l n i)(he:∀k,0<k->k<n->(k -1) / 2=i->hg l i<=hg l k):IW l n:=λk k0 k1=>by
 by_cases a:(k -1) / 2=i
 ·rw[a];exact he k k0 k1 a
 ·exact h.1 k k0 k1 a
theorem a8n{l:List Int}{n:Nat}(h:IW l n):∀k,k<n->hg l 0<=hg l k:=by
 intro k;induction k using Nat.strongRecOn with
 |ind k ih=>
  intro hk;by_cases h0:k=0
  ·subst h0;exact aV _
  ·have h1:=h k l7 hk;have h2:=ih ((k -1) / 2) l7 l7;omega
theorem a2T{l:List Int}{n:Nat}(h:IW l l.length)(hn:n+1=l.length):FM (swp l 0 n) n 0:=by have G:=YJ (l:=l) (i:=0) (j:=n) l7 l7;refine⟨λk k0 k1 k2=>?_,λh0=>by omega⟩;rw[G k,G,if_neg l7,if_neg k2,if_neg l7,if_neg l7];exact h k k0 l7
theorem a2b{α:Type}{l:List α}{n i:Nat}{a:α}(h:(l.take n)[i]? =some a):i<n/\l[i]? =some a:=by
 rw[ak]at h;split at h
 ·exact⟨by assumption,h⟩
 ·cases h
def PZ(en:List kW)(f:lL)(a b:List lL):Int:=
 l9 (IQ f.1) (l9 (a.any λx=>seq x.1 f.1) 7 (l9 (b.any λx=>seq x.1 f.1) 7 (l9 (vty f.2 en) 0 8))) 2
theorem Lu{l:Z7}{f:lL}{a b:List lL}(h:f.1.length<=1000000)(ha:a.length<=1000000)(hb:b.length<=1000000):wK l f a b=some (PZ l.1 f a b):=by
 unfold wK PZ;rw[qI h,o9,Rf _ ha,o9,Rf _ hb,o9,xE,o9];cases IQ f.1
 ·rfl
 cases a.any λx=>seq x.1 f.1
 case true=>rfl
 cases b.any λx=>seq x.1 f.1
 case true=>rfl
 cases vty f.2 l.1<;>rfl
def YE(c e:Int):Option (Int×Int):=l9 (o8 c 0) none (some (c,e))
def inP(l:Z7)(s:D6)(i:Nat):Option (Int×Int):=match s.2.2.1[i]? with|some f=>YE (PZ l.1 f (s.2.2.1.take i) []) (100+i:Nat)|none=>none
def a7T(l:Z7)(s:D6)(i:Nat):Option (Int×Int):=match s.2.2.2.1[i]? with|some f=>YE (PZ l.1 f s.2.2.1 (s.2.2.2.1.take i)) (200+i:Nat)|none=>none
def a7r(s:D6):Prop:=(∀f∈s.2.2.1,f.1.length<=1000000)/\(∀f∈s.2.2.2.1,f.1.length<=1000000)
theorem a4Q{c i:Nat}(hc:c<=1000)(h:i<=1000000):D7 .i64 (c:Int) (i:Int)=((c+i:Nat):Int):=by rw[V5 O6];omega
def KD(l:Z7)(s:D6):Option (Int×Int):=match bD s.2.2.1.length (inP l s)with|some r=>some r|none=>bD s.2.2.2.1.length (a7T l s)
def arF(op:Int):Int:=(lJ op).getD 0
theorem b4U{op:Int}(h:1<=op/\op<=39):∃k:Fin 40,op=(k.val:Int):=⟨⟨op.toNat,l7⟩,by simp;omega⟩
theorem b6U:∀k:Fin 40,1<=k.val->(oh (k.val:Int)=lJ (k.val:Int))/\(lJ (k.val:Int)=some 0\/lJ (k.val:Int)=some 1\/lJ (k.val:Int)=some 2\/lJ (k.val:Int)=some 3):=by decide+kernel
theorem YL{op:Int}(h:¬(1<=op/\op<=39))(k:Int)(h1:1<=k)(h2:k<=39):o8 op k=false:=L9 l7
theorem a5r{op:Int}(h:¬(1<=op/\op<=39)):lJ op=some (-1):=by
 unfold lJ;by_cases h1:1<=op
 ·rw[X5 h1,o7,Y1 (show(9:Int)<op by omega),o6,Y1 (show(39:Int)<op by omega),Y1 (show(30:Int)<op by omega)];simp[YL h];cases J6 35 op<;>cases J6 11 op<;>rfl
 ·rw[Y1 (show op<1 by omega),o6,Y1 (show op<35 by omega),Y1 (show op<11 by omega)];simp[YL h]
theorem b4z{op:Int}(h:¬(1<=op/\op<=39)):oh op=some (-1):=by unfold oh;simp[YL h]
theorem IZ(op:Int):oh op=some (arF op)/\lJ op=some (arF op)/\(arF op=-1\/arF op=0\/arF op=1\/arF op=2\/arF op=3):=by
 unfold arF;by_cases h:1<=op/\op<=39
 ·obtain⟨k,rfl⟩:=b4U h;obtain⟨h1,h2⟩:=b6U k l7;rcases h2 with h2|h2|h2|h2<;>rw[h1,h2]<;>simp
 ·rw[b4z h,a5r h];simp
theorem TL(op:Int):oh op=some (arF op):=(IZ op).1
theorem a9V(op:Int):lJ op=some (arF op):=(IZ op).2.1
inductive XT where
 |l0 (n:Int×Int)|l1 (n:Int×Int) (a:XT)|l2 (n:Int×Int) (a b:XT)|l3 (n:Int×Int) (a b c:XT)
def XT.size:XT->Nat
 | .l0 _=>1| .l1 _ a=>a.size+1| .l2 _ a b=>a.size+b.size+1| .l3 _ a b c=>a.size+b.size+c.size+1
def XT.post:XT->List (Int×Int)
 | .l0 n=>[n]| .l1 n a=>a.post++[n]| .l2 n a b=>a.post++b.post++[n]| .l3 n a b c=>a.post++b.post++c.post++[n]
def XT.sts(o:Nat):XT->List Int
 | .l0 _=>[(o:Int)]| .l1 _ a=>a.sts o++[(o:Int)]| .l2 _ a b=>a.sts o++b.sts (o+a.size)++[(o:Int)]| .l3 _ a b c=>a.sts o++b.sts (o+a.size)++c.sts (o+a.size+b.size)++[(o:Int)]
theorem XT.size_pos(t:XT):0<t.size:=by cases t<;>simp[XT.size]
theorem XT.post_len(t:XT):t.post.length=t.size:=by
 induction t with
 |l0 n=>rfl|l1 n a ha=>simp[XT.post,XT.size,ha]|l2 n a b ha hb=>simp[XT.post,XT.size,ha,hb];try omega
 |l3 n a b c ha hb hc=>simp[XT.post,XT.size,ha,hb,hc];try omega
theorem XT.sts_len(t:XT):∀o,(t.sts o).length=t.size:=by
 induction t with
 |l0 n=>intro o;rfl|l1 n a ha=>intro o;simp[XT.sts,XT.size,ha]|l2 n a b ha hb=>intro o;simp[XT.sts,XT.size,ha,hb];try omega
 |l3 n a b c ha hb hc=>intro o;simp[XT.sts,XT.size,ha,hb,hc];try omega
def kV:List XT->Nat
 |[]=>0|t::r=>kV r+t.size
def IA:List XT->List (Int×Int)
 |[]=>[]|t::r=>IA r++t.post
def stR:List XT->List Int
 |[]=>[]|t::r=>stR r++t.sts (kV r)
def uu:List XT->List Int
 |[]=>[]|t::r=>uu r++[(kV r:Int)]
theorem ul:∀ts,(uu ts).length=ts.length
 |[]=>rfl|t::r=>by simp[uu,ul r]
theorem Ph:∀ts,(stR ts).length=kV ts
 |[]=>rfl|t::r=>by simp[stR,kV,Ph r,XT.sts_len]
theorem KP:∀ts,(IA ts).length=kV ts
 |[]=>rfl|t::r=>by simp[IA,kV,KP r,XT.post_len]
def push(n:Int×Int)(ts:List XT):Int⊕List XT:=
 if arF n.1=0 then .inr (.l0 n::ts)
 else if arF n.1=1 then(match ts with|a::r=> .inr (.l1 n a::r)|_=> .inl 5)
 else if arF n.1=2 then(match ts with|b::a::r=> .inr (.l2 n a b::r)|_=> .inl 5)
 else if arF n.1=3 then(match ts with|c::b::a::r=> .inr (.l3 n a b c::r)|_=> .inl 5)
 else .inl 2
def xP:Nat->List (Int×Int)->List XT->(Int×Int)⊕List XT
 |_,[],ts=> .inr ts
 |i,n::es,ts=>match push n ts with
  | .inl c=> .inl ((i:Int),c)| .inr ts' =>if 12<ts'.length then .inl ((i:Int),16)else xP (i+1) es ts'
def oV(e:List (Int×Int)):(Int×Int)⊕XT:=
 if 48<e.length then .inl (0,4)else if e.length=0 then .inl (0,5)else
  match xP 0 e []with
  | .inl x=> .inl x| .inr [t]=> .inr t| .inr _=> .inl ((e.length:Int),4)
theorem Yb{n:Int×Int}{ts ts' :List XT}(h:push n ts= .inr ts'):IA ts' =IA ts++[n]/\ts' ≠[]:=by
 unfold push at h;split at h
 ·cases h;exact⟨rfl,A7⟩
 split at h
 ·split at h
  ·cases h;exact⟨by simp[IA,XT.post],A7⟩
  ·cases h
 split at h
 ·split at h
  ·cases h;exact⟨by simp[IA,XT.post],A7⟩
  ·cases h
 split at h
 ·split at h
  ·cases h;exact⟨by simp[IA,XT.post],A7⟩
  ·cases h
 ·cases h
theorem KR{n:Int×Int}{ts ts' :List XT}(h:push n ts= .inr ts'):kV ts' =kV ts+1:=by rw[←KP,←KP,(Yb h).1];simp
theorem Hu:∀(es:List (Int×Int)) (i:Nat) (ts ts' :List XT),xP i es ts= .inr ts' ->IA ts' =IA ts++es/\(ts≠[]\/es≠[]->ts' ≠[])
 |[],i,ts,ts',h=>by cases h;exact⟨A7,A7⟩|n::es,i,ts,ts',h=>by
  unfold xP at h;cases hp:push n ts with
  |inl c=>rw[hp]at h;cases h|inr t2=>
   rw[hp]at h;simp only at h;split at h
   ·cases h
   ·obtain⟨h1,h2⟩:=Hu es (i+1) t2 ts' h;obtain⟨h3,h4⟩:=Yb hp;exact⟨by rw[h1,h3];simp,λ_=>h2 (.inl h4)⟩
theorem BU{e:List (Int×Int)}{t:XT}(h:oV e= .inr t):e=t.post/\e.length<=48:=by
 unfold oV at h;split at h
 ·cases h
 split at h
 ·cases h
 split at h
 ·cases h
 ·rename_i t' hp;cases h;have:=(Hu e 0 [] [t] hp).1;exact⟨by simpa[IA]using this.symm,l7⟩
 ·cases h
theorem a1X{σ ε ρ:Type}(e:List (Int×Int))(he:e.length<=48)(g:List XT->σ)(fin:List XT->ε)(rt:Int×Int->ρ){f:σ->Option (Out σ ε ρ)}
  (hs:∀(i:Nat) (n:Int×Int) (ts:List XT),e[i]? =some n->i=kV ts->ts.length<=12->f (g ts)=some (match push n ts with
   | .inl c=> .rt (rt ((i:Int),c))
   | .inr ts' =>if 12<ts'.length then .rt (rt ((i:Int),16))else .nx (g ts')))
  (hend:∀ts,kV ts=e.length->f (g ts)=some (.ex (fin ts))):
  aY f (g [])=some (match xP 0 e []with| .inl x=> .inr (rt x)| .inr ts=> .inl (fin ts)):=by
 have key:∀(es:List (Int×Int)) (i:Nat) (ts:List XT) (k:Nat),e.drop i=es->i=kV ts->ts.length<=12->i<=e.length->es.length<k->
   qj f k (g ts)=some (match xP i es ts with| .inl x=> .inr (rt x)| .inr ts=> .inl (fin ts)):=by
  intro es;induction es with
  |nil=>
   intro i ts k hd hi hl hle hk;obtain⟨k,rfl⟩:∃k',k=k' +1:=⟨k -1,l7⟩;have:i=e.length:=by have:=congrArg List.length hd;simp at this;omega
   unfold qj;rw[hend ts l7];rfl
  |cons n es ih=>
   intro i ts k hd hi hl hle hk;obtain⟨k,rfl⟩:∃k',k=k' +1:=⟨k -1,l7⟩;have hn:e[i]? =some n:=by
    have:(e.drop i)[0]? =some n:=by rw[hd];rfl
    simpa using this
   have hlt:=(Z4.1 hn).1;unfold qj;rw[hs i n ts hn hi hl];unfold xP;cases hp:push n ts with
   |inl c=>rfl|inr ts' =>
    simp only;by_cases h12:12<ts'.length
    ·rw[if_pos h12,if_pos h12]
    ·rw[if_neg h12,if_neg h12];exact ih (i+1) ts' k (by rw[←ae,hd];rfl) (by rw[KR hp,hi]) l7 l7 (by simp at hk;omega)
 exact key e 0 [] jS rfl rfl A7 l7 (by unfold jS;omega)
theorem a1l:∀(p r:List XT),∃X,uu (p++r)=uu r++X/\X.length=p.length/\(p≠[]->X.head?=some (kV r:Int))
 |[],r=>⟨[],A7,rfl,λh=>absurd rfl h⟩|a::p,r=>by
  obtain⟨X,h1,h2,h3⟩:=a1l p r;refine⟨X++[(kV (p++r):Int)],?_,by simp[h2],λ_=>?_⟩
  ·show uu (p++r)++[(kV (p++r):Int)]=_;rw[h1,F6]
  ·cases p with
   |nil=>simp at h2;subst h2;rfl|cons b p=>rw[List.head?_append,h3 A7];rfl
theorem a3s(p r:List XT)(k:Int)(hk:k=(p.length:Int))(h:p.length+r.length<=100)(hp:p≠[]):
  H9 .i64 (x8 (uu (p++r))) k=(r.length:Int)/\H8 (uu (p++r)) (r.length:Int)=some (kV r:Int)/\Y3 (uu (p++r)) (Y0 (r.length:Int))=some (kV r:Int)
  /\sS 0 (r.length:Int) (x8 (uu (p++r)))=true/\pF (uu (p++r)) (Y0 0) (Y0 (r.length:Int))=uu r:=by
 obtain⟨X,h1,h2,h3⟩:=a1l p r;have hl:(uu (p++r)).length=r.length+p.length:=by rw[ul];simp;omega
 have hg:(uu (p++r))[r.length]? =some (kV r:Int):=by rw[h1,H6 (by rw[ul];omega),ul,bn,←List.head?_eq_getElem?];exact h3 hp
 refine⟨?_,?_,?_,?_,?_⟩
 ·simp only[x8,hl];rw[U2 O6];omega
 ·rw[J9];exact hg
 ·exact hg
 ·simp only[sS,x8,hl,decide_eq_true_eq];omega
 ·show((uu (p++r)).take r.length).drop 0=_;rw[h1,List.drop_zero,aC (by rw[ul];omega),aJ (by rw[ul];omega)]
theorem a4T(ts:List XT):D9 12 (x8 (uu ts))=decide (12<ts.length):=by rw[show x8 (uu ts)=((ts.length:Nat):Int) by simp[x8,ul]];exact a4U 12 ts.length
theorem uY{α:Type}{l:List α}(x:α)(h:l.length<=1000000):mM l [x]=some (l++[x]):=Hg az
theorem UD(ts:List XT)(k:Nat):D9 (x8 (uu ts)) (k:Int)=decide (ts.length<k):=by rw[show x8 (uu ts)=((ts.length:Nat):Int) by simp[x8,ul]];exact a4U _ _
def Di(e:List (Int×Int)):List Int×Int×Int:=match oV e with| .inl x=>([],x)| .inr t=>(t.sts 0,0,0)
theorem a6N{e:List (Int×Int)}(h0:e.length≠0){K:List Int×Int×Int->List Int×Int×Int}(h48:¬48<e.length)
  {r:List Int×Int×Int} (h:∀ts,xP 0 e []= .inr ts->r=l9 (D9 1 (x8 (uu ts))) ([],x8 e,4) (stR ts,0,0)) (hi:∀x,xP 0 e []= .inl x->r=([],x)):r=Di e:=by
 unfold Di oV;rw[if_neg h48,if_neg h0];cases hp:xP 0 e []with
 |inl x=>exact hi x hp|inr ts=>
  rw[h ts hp];have:=(Hu e 0 [] ts hp).2 (.inr (by intro he;subst he;exact h0 rfl));match ts,this with
  |[t],_=>simp[uu,x8,D9,stR,kV]|a::b::ts,_=>rw[U5 (by simp[x8,ul];omega)];rfl
def pd(l:List Int)(k:Nat):List Int:=l++List.replicate k 0
theorem Zf(l:List Int)(m:Nat):H8 (pd l (m+1)) (l.length:Int)=some 0:=by rw[J9];unfold pd;rw[H6 l7,bn];rfl
theorem Zg(l:List Int)(m:Nat):Y3 (pd l (m+1)) (Y0 (l.length:Int))=some 0:=by have:=Zf l m;rw[J9]at this;exact this
theorem a3p(l:List Int)(m:Nat)(v:Int):bu (pd l (m+1)) (Y0 (l.length:Int)) v=pd (l++[v]) m:=by show(l++List.replicate (m+1) 0).set l.length v=_;rw[iQ _ _ l7,bn,jQ];simp[pd]
theorem Oz(l:List Int)(m:Nat)(v w:Int):bu (pd (l++[v]) m) (Y0 (l.length:Int)) w=pd (l++[w]) m:=by show(l++[v]++List.replicate m 0).set l.length w=_;rw[F6,iQ _ _ l7,bn];simp[pd]
theorem KN(l:List Int)(m:Nat)(v:Int):H8 (pd (l++[v]) m) (l.length:Int)=some v:=by rw[J9];unfold pd;rw[F6,H6 l7,bn];rfl
theorem Jy(l:List Int)(m:Nat)(v:Int):Y3 (pd (l++[v]) m) (Y0 (l.length:Int))=some v:=by have:=KN l m v;rw[J9]at this;exact this
theorem Pi(e:List (Int×Int)):wE e=some (Di e):=by
 unfold wE;by_cases h48:48<e.length
 ·rw[U5 (by simp[x8];omega),o7];unfold Di oV;rw[if_pos h48]
 by_cases h0:e.length=0
 ·rw[L6 (by simp[x8];omega),o6,O8 (by simp[x8,h0]),o7];unfold Di oV;rw[if_neg h48,if_pos h0]
 rw[L6 (by simp[x8];omega),o6,L9 (by simp[x8];intro h;exact h0 (by simp[h])),o6];rw[show sU (x8 e) (0:Int)=some (pd (stR []) (e.length -kV [])) by simp[sU,x8,pd,stR,kV];omega,o9];refine fK (a1X e l7 (λts=>(pd (stR ts) (e.length -kV ts),uu ts,(kV ts:Int))) (λts=>(pd (stR ts) (e.length -kV ts),uu ts)) (λx=>(([]:List Int),x)) (λi n ts hn hi hl=>?_) (λts hsz=>?_)) ?_
 rotate_left 2
 ·rw[←a6N h0 h48 (K:=id) (r:=match xP 0 e []with| .inl x=>([],x)| .inr ts=>l9 (D9 1 (x8 (uu ts))) ([],x8 e,4) (stR ts,0,0)) (λts h=>by rw[h]) (λx h=>by rw[h])];cases hp:xP 0 e []with
  |inl x=>rfl|inr ts=>
   have:=(Hu e 0 [] ts hp).1;have hz:e.length -kV ts=0:=by have:=congrArg List.length this;rw[KP]at this;simp[IA]at this;omega
   simp only[o9,X7,hz,pd,List.replicate_zero,F7];cases D9 1 (x8 (uu ts))<;>rfl
 ·subst hi;have hlt:=(Z4.1 hn).1;have hst:=Ph ts;have hof:=ul ts;obtain⟨m,hm⟩:∃m,e.length -kV ts=m+1:=⟨e.length -kV ts -1,l7⟩;simp only[X3 hn,o7,J9 e,hn,o9,TL,hm];rw[←hst];simp only[Zf,Zg,o9,a3p,KN,Jy,Oz];rw[hst];rcases(IZ n.1).2.2 with h|h|h|h|h
  ·rw[show push n ts= .inl 2 by simp[push,h],h];rfl
  ·have e0:H9 .i64 (x8 (uu ts)) 0=((uu ts).length:Int):=by rw[U2 (by unfold jc x8;omega)];simp[x8]
   rw[show push n ts= .inr (.l0 n::ts) by simp[push,h],h,L6 l7,o6,L6 (a0Q _),o6,o6,e0,show sS 0 ((uu ts).length:Int) (x8 (uu ts))=true by simp[sS,x8],o7,
    show pF (uu ts) (Y0 0) (Y0 ((uu ts).length:Int))=uu ts by simp[pF,Y0],uY _ l7,o9,fP l7]
   rw[show uu ts++[(kV ts:Int)]=uu (.l0 n::ts)from rfl,a4T];by_cases hc:12<(XT.l0 n::ts).length
   ·simp only[hc,decide_true,if_true,o7]
   ·simp only[hc,decide_false,if_false,o6,kV,XT.size,stR,XT.sts,show e.length -(kV ts+1)=m by omega]
  ·match ts with
   |[]=>rw[show push n []= .inl 5 by simp[push,h],h];rfl|a::r=>
    obtain⟨p1,p2,p3,p4,p5⟩:=a3s [a] r 1 rfl (by simp at hl ⊢;omega) A7;simp only[au,J4]at p1 p2 p3 p4 p5;have:=Ph (a::r);have:=ul r;simp only[G5]at hl;rw[show push n (a::r)= .inr (.l1 n a::r) by simp[push,h],h,L6 l7,o6,show(1:Int)=((1:Nat):Int)from rfl,UD,show decide ((a::r).length<1)=false by simp];simp only[Int.natCast_one]at p1 ⊢;rw[o6,U5 l7,o7,p1,p2,o9,p3,o9,p4,o7,p5];rw[←hst]
    try simp only[Oz,KN,Jy,o9]
    rw[hst,uY _ l7,o9,fP l7];rw[show uu r++[(kV r:Int)]=uu (.l1 n a::r)from rfl,a4T];have hz:=KR (show push n (a::r)= .inr (.l1 n a::r) by simp[push,h]);by_cases hc:12<(XT.l1 n a::r).length
    ·simp only[hc,decide_true,if_true,o7]
    ·simp only[hc,decide_false,if_false,o6,hz,show e.length -(kV (a::r)+1)=m by omega,stR,XT.sts,F6]
  ·match ts with
   |[]=>rw[show push n []= .inl 5 by simp[push,h],h];rfl|[a]=>rw[show push n [a]= .inl 5 by simp[push,h],h];rfl|b::a::r=>
    obtain⟨p1,p2,p3,p4,p5⟩:=a3s [b,a] r 2 rfl (by simp at hl ⊢;omega) A7;simp only[au,J4]at p1 p2 p3 p4 p5;have:=Ph (b::a::r);have:=ul r;simp only[G5]at hl;rw[show push n (b::a::r)= .inr (.l2 n a b::r) by simp[push,h],h,L6 l7,o6,show(2:Int)=((2:Nat):Int)from rfl,UD,show decide ((b::a::r).length<2)=false by simp];rw[o6,U5 l7,o7,show((2:Nat):Int)=2 from rfl,p1,p2,o9,p3,o9,p4,o7,p5];rw[←hst]
    try simp only[Oz,KN,Jy,o9]
    rw[hst,uY _ l7,o9,fP l7];rw[show uu r++[(kV r:Int)]=uu (.l2 n a b::r)from rfl,a4T];have hz:=KR (show push n (b::a::r)= .inr (.l2 n a b::r) by simp[push,h]);by_cases hc:12<(XT.l2 n a b::r).length
    ·simp only[hc,decide_true,if_true,o7]
    ·rw[hz,show e.length -(kV (b::a::r)+1)=m by omega,show stR (.l2 n a b::r)=stR (b::a::r)++[(kV r:Int)] by simp only[stR,XT.sts,F6,kV]];simp only[hc,decide_false,if_false,o6]
  ·match ts with
   |[]=>rw[show push n []= .inl 5 by simp[push,h],h];rfl|[a]=>rw[show push n [a]= .inl 5 by simp[push,h],h];rfl|[b,a]=>rw[show push n [b,a]= .inl 5 by simp[push,h],h];rfl|c::b::a::r=>
    obtain⟨p1,p2,p3,p4,p5⟩:=a3s [c,b,a] r 3 rfl (by simp at hl ⊢;omega) A7;simp only[au,J4]at p1 p2 p3 p4 p5;have:=Ph (c::b::a::r);have:=ul r;simp only[G5]at hl;rw[show push n (c::b::a::r)= .inr (.l3 n a b c::r) by simp[push,h],h,L6 l7,o6,show(3:Int)=((3:Nat):Int)from rfl,UD,show decide ((c::b::a::r).length<3)=false by simp];rw[o6,U5 l7,o7,show((3:Nat):Int)=3 from rfl,p1,p2,o9,p3,o9,p4,o7,p5];rw[←hst]
    try simp only[Oz,KN,Jy,o9]
    rw[hst,uY _ l7,o9,fP l7];rw[show uu r++[(kV r:Int)]=uu (.l3 n a b c::r)from rfl,a4T];have hz:=KR (show push n (c::b::a::r)= .inr (.l3 n a b c::r) by simp[push,h]);by_cases hc:12<(XT.l3 n a b c::r).length
    ·simp only[hc,decide_true,if_true,o7]
    ·rw[hz,show e.length -(kV (c::b::a::r)+1)=m by omega,show stR (.l3 n a b c::r)=stR (c::b::a::r)++[(kV r:Int)] by simp only[stR,XT.sts,F6,kV]];simp only[hc,decide_false,if_false,o6]
 ·simp only[hsz,W9];rfl
end
section
def VT(t:Int×Int):Prop:=t=(1,0)\/t=(2,0)\/t=(3,0)\/t=(4,0)\/t=(5,0)\/∃e,t=(6,e)
theorem JV{t:Int×Int}{en:List kW}(h:vty t en=true):VT t:=by
 obtain⟨k,e⟩:=t;unfold vty at h;simp only at h;cases h6:o8 k 6
 ·rw[h6,o6]at h;cases h1:J6 1 k<;>rw[h1]at h
  ·cases h
  cases h5:J6 k 5<;>rw[h5]at h
  ·cases h
  simp only[o7,O5]at h;rw[kR]at h1 h5;subst h;have:k=1\/k=2\/k=3\/k=4\/k=5:=l7;rcases this with rfl|rfl|rfl|rfl|rfl<;>simp[VT]
 ·rw[O5]at h6;subst h6;exact .inr (.inr (.inr (.inr (.inr ⟨e,rfl⟩))))
def EN(n:Int×Int)(ops:List (Int×Int))(sg:J5):Option ((Int×Int)×Int):=
 l9 (E9 (o8 n.2 0)) (o5 (jY n.1) λu=>l9 (E9 u) (some ((0,0),2)) (bf n ops sg)) (bf n ops sg)
def uA(n:Int×Int)(ops:List (Int×Int))(sg:J5):Prop:=∃r:(Int×Int)×Int,CY n ops sg=some r/\EN n ops sg=some r/\(r.2=0->VT r.1)
theorem VT.lit{k:Int}(h:1<=k/\k<=5):VT (k,0):=by have:k=1\/k=2\/k=3\/k=4\/k=5:=l7;rcases this with rfl|rfl|rfl|rfl|rfl<;>simp[VT]
theorem EJ(a b:Int):J6 a b= !D9 b a:=by simp only[D9,J6];rw[←decide_not];congr 1;simp
theorem EW{α β:Type}(o:Option β)(f:α->Option β):o5 (o5 o λx=>some (Sum.inr x)) (λq=>aI q f λr=>some r)=o:=by cases o<;>rfl
theorem VT.enum(e:Int):VT (6,e):=.inr (.inr (.inr (.inr (.inr ⟨e,rfl⟩))))
theorem rq{R E:Option ((Int×Int)×Int)}{c:Int}(hc:c≠0)(h1:R=some ((0,0),c))(h2:E=some ((0,0),c)):∃r:(Int×Int)×Int,R=some r/\E=some r/\(r.2=0->VT r.1):=⟨_,h1,h2,λh=>absurd h hc⟩
theorem nok{R E:Option ((Int×Int)×Int)}{t:Int×Int}(hv:VT t)(h1:R=some (t,0))(h2:E=some (t,0)):∃r:(Int×Int)×Int,R=some r/\E=some r/\(r.2=0->VT r.1):=⟨_,h1,h2,λ_=>hv⟩
def RR(a0:Int×Int)(a1:List (Int×Int))(a2:J5):Option ((Int×Int)×Int):=
 o5 (mV a0 a2) λ(x:Bool)=>l9 (E9 x) (some ((0,0),3)) (o5 (rH a0 a2) λ(x:Bool)=>l9 (E9 x) (some ((0,0),6))
  (l9 (o8 (x8 a1) 0) (o5 (mg a0 a2) λ(x:E8×Bool)=>l9 (E9 x.2) (some ((0,0),8)) (some (x.1,0)))
  (l9 (o8 (x8 a1) 1) (o5 (H8 a1 0) λ(x:E8)=>o5 (xA a0 x a2) λ(x:E8×Bool)=>l9 (E9 x.2) (some ((0,0),8)) (some (x.1,0)))
  (l9 (o8 (x8 a1) 2) (o5 (H8 a1 0) λ(x:E8)=>o5 (H8 a1 1) λ(x_1:E8)=>o5 (Aa a0.1 x x_1) λ(x:E8×Bool)=>l9 (E9 x.2) (some ((0,0),8)) (some (x.1,0)))
  (o5 (H8 a1 1) λ(x:E8)=>o5 (H8 a1 0) λ(x_1:E8)=>l9 (o8 x_1.1 1) (o5 (H8 a1 1) λ(x_2:E8)=>o5 (H8 a1 2) λ(x_3:E8)=>
   l9 (E9 (dE (o8 x_2.1 x_3.1) (o8 x_2.2 x_3.2))) (some ((0,0),8)) (some (x,0))) (l9 (E9 false) (some ((0,0),8)) (some (x,0))))))))
theorem b1V(n:Int×Int)(ops:List (Int×Int))(sg:J5):CY n ops sg=l9 (E9 (o8 n.2 0)) (o5 (fE n.1) λx=>l9 x (RR n ops sg) (some ((0,0),2))) (RR n ops sg):=by
 unfold CY;cases o8 n.2 0
 ·simp only[iw,o7];cases fE n.1 with
  |none=>rfl|some b=>cases b<;>rfl
 ·rfl
theorem Ju{op N:Int}{ops:List (Int×Int)}{sg:J5}(h1:jY op=some true)(h2:fE op=some true)
  (h:∃r:(Int×Int)×Int,RR (op,N) ops sg=some r/\bf (op,N) ops sg=some r/\(r.2=0->VT r.1)):uA (op,N) ops sg:=by
 unfold uA;rw[b1V];unfold EN;dsimp only;rw[h1,h2];cases o8 N 0<;>exact h
theorem Qq{op N:Int}{ops:List (Int×Int)}{sg:J5}(h1:jY op=some false)(h2:fE op=some false)
  (h:∃r:(Int×Int)×Int,RR (op,0) ops sg=some r/\bf (op,0) ops sg=some r/\(r.2=0->VT r.1)):uA (op,N) ops sg:=by
 unfold uA;rw[b1V];unfold EN;dsimp only;rw[h1,h2];cases hz:o8 N 0
 ·exact rq (c:=2) G7 rfl rfl
 ·rw[O5]at hz;subst hz;exact h
section
variable (N:Int) (sg:J5)
theorem a8V{k:Int}(hk:k=1\/k=2\/k=3\/k=4\/k=5):uA (k,N) [] sg:=by
 have hv:vty (k,0) sg.1=true:=by rcases hk with rfl|rfl|rfl|rfl|rfl<;>rfl
 have hm:jY k=some true/\fE k=some true:=by rcases hk with rfl|rfl|rfl|rfl|rfl<;>exact⟨rfl,rfl⟩
 refine Ju hm.1 hm.2 ?_;have key:bf (k,N) [] sg=kF N k sg:=by rcases hk with rfl|rfl|rfl|rfl|rfl<;>exact EW _ _
 have key2:RR (k,N) [] sg=o5 (o5 (rF (k,0) sg.1) λ(x:E8)=>l9 (J6 x.1 N) (some (J6 N x.2)) (some false)) λ(x:Bool)=>l9 (E9 x) (some ((0,0),3)) (some ((k,0),0)):=by rcases hk with rfl|rfl|rfl|rfl|rfl<;>rfl
 rw[key,key2];unfold kF;rw[PN,VA,o9,o9,qW,qW];cases J6 (bnd (k,0) sg.1).1 N
 ·exact rq (c:=3) G7 rfl rfl
 cases J6 N (bnd (k,0) sg.1).2
 ·exact rq (c:=3) G7 rfl rfl
 ·exact nok (JV hv) rfl rfl
theorem a6A(hN:jc N):uA (6,N) [] sg:=by
 have hq:0<=N->bQ .i64 N 16=N / 16:=λh=>by rw[xW (by rw[iW h];unfold jc at*;omega),iW h]
 refine Ju rfl rfl ?_;have hf:rH (6,N) sg=l9 (D9 (bQ .i64 N 16) (x8 sg.1)) (o5 (H8 sg.1 (bQ .i64 N 16)) λ(x:kW)=>some (D9 (cZ N 16) (x8 x.2))) (some false):=rfl;have hl:mg (6,N) sg=some ((6,bQ .i64 N 16),vty (6,bQ .i64 N 16) sg.1):=by unfold mg;simp only[pG];rfl
 rw[show bf (6,N) [] sg=Bv N sg from EW _ _];unfold RR Bv;rw[hf,show mV (6,N) sg=some (J6 0 N)from rfl,hl];by_cases h0:0<=N
 ·rw[L6 h0,X5 h0,hq h0];by_cases h1:N / 16<x8 sg.1
  ·obtain⟨x,hx,_⟩:=mf (show 0<=N / 16 by omega) h1;rw[U5 h1,Y1 h1,hx,show vty (6,N / 16) sg.1=true by unfold vty;simp only[X5 (show 0<=N / 16 by omega),U5 h1];rfl];simp only[o9,qW];cases J6 (x8 x.2) (cZ N 16)
   ·exact nok (VT.enum (N / 16)) rfl rfl
   ·exact rq (c:=6) G7 rfl rfl
  ·have h1' :x8 sg.1<=N / 16:=l7;rw[L6 h1',X5 h1'];exact rq (c:=6) G7 rfl rfl
 ·rw[U5 (show N<0 by omega),Y1 (show N<0 by omega)];exact rq (c:=3) G7 rfl rfl
theorem zU(ts:List (Int×Int))(en:J5):(∃x,H8 ts N=some x/\J6 0 N=true/\D9 N (x8 ts)=true/\jR N ts en=some (l9 (vty x en.1) (x,0) ((0,0),8)))\/((J6 0 N=false\/J6 0 N=true/\D9 N (x8 ts)=false)/\jR N ts en=some ((0,0),6)):=by
 unfold jR;rw[qW N 0,EJ (x8 ts) N];cases h0:J6 0 N
 ·exact .inr ⟨.inl A7,rfl⟩
 cases h1:D9 N (x8 ts)
 ·exact .inr ⟨.inr A7,rfl⟩
 rw[kR]at h0;rw[jC]at h1;obtain⟨x,hx,_⟩:=mf h0 h1;rw[hx];simp only[lY,Bool.not_false,o6,o7,o9,xE];exact .inl ⟨x,rfl,A7,A7,by cases vty x en.1<;>rfl⟩
theorem b2w:uA (7,N) [] sg:=by
 refine Ju rfl rfl ?_;rw[show bf (7,N) [] sg=jR N sg.2.2.1 sg from EW _ _];have hf:rH (7,N) sg=l9 (J6 0 N) (some (D9 N (x8 sg.2.2.1))) (some false):=rfl;unfold RR;rw[hf,show mV (7,N) sg=some true from rfl];rcases zU N sg.2.2.1 sg with⟨x,h1,h2,h3,h4⟩|⟨h1|⟨h1,h2⟩,h4⟩
 ·have hl:mg (7,N) sg=some (x,vty x sg.1):=by
   unfold mg;dsimp only;rw[h1];simp only[pG];rfl
  rw[h2,h3,h4,hl];cases hv:vty x sg.1
  ·exact rq (c:=8) G7 rfl rfl
  ·exact nok (JV hv) rfl rfl
 ·rw[h1,h4];exact rq (c:=6) G7 rfl rfl
 ·rw[h1,h2,h4];exact rq (c:=6) G7 rfl rfl
theorem a8T:uA (8,N) [] sg:=by
 refine Ju rfl rfl ?_;rw[show bf (8,N) [] sg=jR N sg.2.2.2.1 sg from EW _ _];have hf:rH (8,N) sg=l9 (J6 0 N) (some (D9 N (x8 sg.2.2.2.1))) (some false):=rfl;unfold RR;rw[hf,show mV (8,N) sg=some true from rfl];rcases zU N sg.2.2.2.1 sg with⟨x,h1,h2,h3,h4⟩|⟨h1|⟨h1,h2⟩,h4⟩
 ·have hl:mg (8,N) sg=some (x,vty x sg.1):=by
   unfold mg;dsimp only;rw[h1];simp only[pG];rfl
  rw[h2,h3,h4,hl];cases hv:vty x sg.1
  ·exact rq (c:=8) G7 rfl rfl
  ·exact nok (JV hv) rfl rfl
 ·rw[h1,h4];exact rq (c:=6) G7 rfl rfl
 ·rw[h1,h2,h4];exact rq (c:=6) G7 rfl rfl
theorem a6z:uA (9,N) [] sg:=Qq rfl rfl (nok (VT.lit (k:=5) l7) rfl rfl)
theorem a3g:uA (35,N) [] sg:=by
 refine Qq rfl rfl ?_;rw[show bf (35,0) [] sg=qN (35,0) sg from EW _ _];unfold RR qN;simp only[mV,rH,mg,pG,o9];cases sg.2.2.2.2.2
 ·exact rq (c:=6) G7 rfl rfl
 ·exact nok (VT.lit (k:=2) l7) rfl rfl
theorem a8W{k:Int}(hk:k=36\/k=37\/k=38\/k=39):uA (k,N) [] sg:=by
 have hm:jY k=some true/\fE k=some true/\o8 k 35=false:=by rcases hk with rfl|rfl|rfl|rfl<;>exact⟨rfl,rfl,rfl⟩
 refine Ju hm.1 hm.2.1 ?_;rw[show bf (k,N) [] sg=qN (k,N) sg by rcases hk with rfl|rfl|rfl|rfl<;>exact EW _ _];have hr:RR (k,N) [] sg=o5 (l9 sg.2.2.2.2.2 (l9 (J6 0 N) (some (D9 N (x8 sg.2.2.2.2.1))) (some false)) (some false)) λ(x:Bool)=>l9 (E9 x) (some ((0,0),6))
   (o5 (mg (k,N) sg) λ(x:E8×Bool)=>l9 (E9 x.2) (some ((0,0),8)) (some (x.1,0))):=by rcases hk with rfl|rfl|rfl|rfl<;>rfl
 rw[hr];unfold qN;rw[hm.2.2,o6];cases sg.2.2.2.2.2
 ·exact rq (c:=6) G7 rfl rfl
 simp only[o7,F9,o6];rcases zU N sg.2.2.2.2.1 sg with⟨x,h1,h2,h3,h4⟩|⟨h1|⟨h1,h2⟩,h4⟩
 ·rw[h2,h3,h4];have hl:mg (k,N) sg=o5 (some (l9 (o8 k 36) (l9 (vty x sg.1) (l9 (o8 x.1 2) true (o8 x.1 3)) false) (l9 (o8 k 39) (l9 (vty x sg.1) (l9 (o8 x.1 2) true (l9 (o8 x.1 3) true (l9 (o8 x.1 4) true (o8 x.1 5)))) false) (l9 (vty x sg.1) (o8 x.1 1) false)))) λb=>some (x,b):=by
   unfold mg;simp only[pG,vH,Ac];rcases hk with rfl|rfl|rfl|rfl<;>(rw[h1];simp only[o8,Int.reduceEq,decide_true,decide_false,o7,o6,o9];cases vty x sg.1<;>cases decide (x.1=2)<;>cases decide (x.1=3)<;>cases decide (x.1=4)<;>rfl)
  rw[hl];simp only[o9,mF];cases hv:vty x sg.1
  ·rcases hk with rfl|rfl|rfl|rfl<;>exact rq (c:=8) G7 rfl rfl
  ·have hx:=JV hv;rcases hk with rfl|rfl|rfl|rfl<;>rcases hx with rfl|rfl|rfl|rfl|rfl|⟨e,rfl⟩ <;>
    first
    |exact nok (JV hv) rfl rfl
    |exact rq (c:=8) G7 rfl rfl
 ·rw[h1,h4];exact rq (c:=6) G7 rfl rfl
 ·rw[h1,h2,h4];exact rq (c:=6) G7 rfl rfl
end
end
section
section
variable (N:Int) (sg:J5)
theorem b2x{k:Int}(hk:k=10\/k=25\/k=31\/k=32){a:Int×Int}(ha:VT a):uA (k,N) [a] sg:=by
 have hm:jY k=some false/\fE k=some false:=by rcases hk with rfl|rfl|rfl|rfl<;>exact⟨rfl,rfl⟩
 refine Qq hm.1 hm.2 ?_;rcases hk with rfl|rfl|rfl|rfl<;>rcases ha with rfl|rfl|rfl|rfl|rfl|⟨e,rfl⟩ <;>
  first
  |exact nok (VT.lit (k:=1) l7) rfl rfl
  |exact nok (VT.lit (k:=2) l7) rfl rfl
  |exact nok (VT.lit (k:=3) l7) rfl rfl
  |exact nok (VT.lit (k:=4) l7) rfl rfl
  |exact rq (c:=8) G7 rfl rfl
theorem a8S{k:Int}(hk:k=13\/k=23\/k=24\/k=27\/k=28\/k=29\/k=30){a b:Int×Int}(ha:VT a)(hb:VT b):uA (k,N) [a,b] sg:=by
 have hm:jY k=some false/\fE k=some false:=by rcases hk with rfl|rfl|rfl|rfl|rfl|rfl|rfl<;>exact⟨rfl,rfl⟩
 refine Qq hm.1 hm.2 ?_;rcases hk with rfl|rfl|rfl|rfl|rfl|rfl|rfl<;>rcases ha with rfl|rfl|rfl|rfl|rfl|⟨e,rfl⟩<;>rcases hb with rfl|rfl|rfl|rfl|rfl|⟨f,rfl⟩ <;>
  first
  |exact rq (c:=8) G7 rfl rfl
  |exact nok (VT.lit (k:=1) l7) rfl rfl
  |exact nok (VT.lit (k:=2) l7) rfl rfl
  |exact nok (VT.lit (k:=3) l7) rfl rfl
  |exact nok (VT.lit (k:=4) l7) rfl rfl
  |exact nok (VT.lit (k:=5) l7) rfl rfl
theorem a6B{k:Int}(hk:k=14\/k=15\/k=16){a b:Int×Int}(ha:VT a)(hb:VT b):uA (k,N) [a,b] sg:=by
 have hm:jY k=some true/\fE k=some true:=by rcases hk with rfl|rfl|rfl<;>exact⟨rfl,rfl⟩
 refine Ju hm.1 hm.2 ?_;have hr:RR (k,N) [a,b] sg=o5 (l9 (J6 0 N) (some (J6 N 5)) (some false)) λx=>l9 (E9 x) (some ((0,0),3)) (o5 (Aa k a b) λx=>l9 (E9 x.2) (some ((0,0),8)) (some (x.1,0))):=by rcases hk with rfl|rfl|rfl<;>rfl
 have he:bf (k,N) [a,b] sg=o5 (l9 (J6 0 N) (some (J6 N 5)) (some false)) λx=>l9 (E9 x) (some ((0,0),3)) (o5 (ou k [a,b]) λx=>l9 (E9 x.2) (some ((0,0),8)) (some (x.1,0))):=by
  rcases hk with rfl|rfl|rfl <;>
   (show o5 (o5 (ng N) λx=>l9 (E9 x) (some (Sum.inr (((0:Int),(0:Int)),(3:Int)))) (some (.inl ((0:Int),(0:Int))))) _=_
    unfold ng;cases J6 0 N<;>cases J6 N 5<;>rfl)
 rw[hr,he];cases J6 0 N
 ·exact rq (c:=3) G7 rfl rfl
 cases J6 N 5
 ·exact rq (c:=3) G7 rfl rfl
 rcases hk with rfl|rfl|rfl<;>rcases ha with rfl|rfl|rfl|rfl|rfl|⟨e,rfl⟩<;>rcases hb with rfl|rfl|rfl|rfl|rfl|⟨f,rfl⟩ <;>
  first
  |exact rq (c:=8) G7 rfl rfl
  |exact nok (VT.lit (k:=2) l7) rfl rfl
  |exact nok (VT.lit (k:=3) l7) rfl rfl
  |exact nok (VT.lit (k:=4) l7) rfl rfl
theorem a6C{k:Int}(hk:k=11\/k=12\/k=17\/k=18\/k=19\/k=20\/k=21\/k=22){a b:Int×Int}(ha:VT a):uA (k,N) [a,b] sg:=by
 have hm:jY k=some false/\fE k=some false:=by rcases hk with rfl|rfl|rfl|rfl|rfl|rfl|rfl|rfl<;>exact⟨rfl,rfl⟩
 refine Qq hm.1 hm.2 ?_;have hr:RR (k,0) [a,b] sg=o5 (Aa k a b) λx=>l9 (E9 x.2) (some ((0,0),8)) (some (x.1,0)):=by rcases hk with rfl|rfl|rfl|rfl|rfl|rfl|rfl|rfl<;>rfl
 have he:bf (k,0) [a,b] sg=o5 (ou k [a,b]) λx=>l9 (E9 x.2) (some ((0,0),8)) (some (x.1,0)):=by rcases hk with rfl|rfl|rfl|rfl|rfl|rfl|rfl|rfl<;>rfl
 rw[hr,he];unfold Aa ou;simp only[show H8 [a,b] 0=some a from rfl,show H8 [a,b] 1=some b from rfl,o9,Ac,vH,jv,mF];cases h1:o8 a.1 b.1
 ·rcases hk with rfl|rfl|rfl|rfl|rfl|rfl|rfl|rfl<;>exact rq (c:=8) G7 rfl rfl
 cases h2:o8 a.2 b.2
 ·rcases hk with rfl|rfl|rfl|rfl|rfl|rfl|rfl|rfl<;>exact rq (c:=8) G7 rfl rfl
 have ha' :=ha;rcases hk with rfl|rfl|rfl|rfl|rfl|rfl|rfl|rfl<;>rcases ha with rfl|rfl|rfl|rfl|rfl|⟨e,rfl⟩ <;>
  first
  |exact nok ha' rfl rfl
  |exact nok (VT.lit (k:=1) l7) rfl rfl
  |exact rq (c:=8) G7 rfl rfl
theorem b2v{a b c:Int×Int}(ha:VT a)(hb:VT b):uA (26,N) [a,b,c] sg:=by
 refine Qq rfl rfl ?_;have hr:RR (26,0) [a,b,c] sg=l9 (o8 a.1 1) (l9 (E9 (dE (o8 b.1 c.1) (o8 b.2 c.2))) (some ((0,0),8)) (some (b,0))) (some ((0,0),8)):=rfl;have he:bf (26,0) [a,b,c] sg=o5 (ou 26 [a,b,c]) λx=>l9 (E9 x.2) (some ((0,0),8)) (some (x.1,0)):=rfl;have he2:ou 26 [a,b,c]=o5 (l9 (o8 a.1 1) (some (Sum.inr (b,dE (o8 b.1 c.1) (o8 b.2 c.2)))) (some (Sum.inr (b,false)))) λ(o:E8⊕E8×Bool)=>aI o (λ(x:E8)=>some ((0,0),false)) λ(r:E8×Bool)=>some r:=rfl;rw[hr,he,he2];cases o8 a.1 1
 ·exact rq (c:=8) G7 rfl rfl
 cases o8 b.1 c.1
 ·exact rq (c:=8) G7 rfl rfl
 cases o8 b.2 c.2
 ·exact rq (c:=8) G7 rfl rfl
 ·exact nok hb rfl rfl
theorem a1j{a:Int×Int}(ha:VT a):uA (33,N) [a] sg:=by
 refine Ju rfl rfl ?_;have he:bf (33,N) [a] sg=tZ (33,N) a sg:=EW _ _;have hr:RR (33,N) [a] sg=o5 (l9 (J6 0 N) (some (D9 N (x8 sg.2.1))) (some false)) λx=>l9 (E9 x) (some ((0,0),6)) (o5 (xA (33,N) a sg) λx=>l9 (E9 x.2) (some ((0,0),8)) (some (x.1,0))):=rfl;have hs:xA (33,N) a sg=o5 (H8 sg.2.1 N) λ(x:iD)=>o5 (iZ x.2.1 sg.1) λ(x_1:Bool)=>l9 x_1 (o5 (iZ x.2.2.1 sg.1) λ(x_2:Bool)=>l9 x_2 (some (x.2.2.1,dE (o8 a.1 x.2.1.1) (o8 a.2 x.2.1.2))) (some (x.2.2.1,false))) (some (x.2.2.1,false)):=rfl;rw[he,hr,hs];unfold tZ;simp only[o8,Int.reduceEq,decide_false,o6,o9,X7,qW N 0,EJ (x8 sg.2.1) N];cases h0:J6 0 N
 ·exact rq (c:=6) G7 rfl rfl
 cases h1:D9 N (x8 sg.2.1)
 ·exact rq (c:=6) G7 rfl rfl
 rw[kR]at h0;rw[jC]at h1;obtain⟨x,hx,_⟩:=mf h0 h1;simp only[o9,X7,lY,o6,hx,xE,pG,iw,o7];cases vty x.2.1 sg.1
 ·exact rq (c:=8) G7 rfl rfl
 cases hv:vty x.2.2.1 sg.1
 ·exact rq (c:=8) G7 rfl rfl
 simp only[F9,o6,o7,o9];cases dE (decide (a.1=x.2.1.1)) (decide (a.2=x.2.1.2))
 ·exact rq (c:=8) G7 rfl rfl
 ·exact nok (JV hv) rfl rfl
theorem WJ(hN:jc N){a:Int×Int}(ha:VT a):uA (34,N) [a] sg:=by
 refine Ju rfl rfl ?_;have he:bf (34,N) [a] sg=tZ (34,N) a sg:=EW _ _;have hr:RR (34,N) [a] sg=o5 (l9 (J6 0 N) (some (J6 (cZ N 8) 5)) (some false)) λx=>l9 (E9 x) (some ((0,0),3)) (l9 (E9 (D9 (bQ .i64 N 8) (x8 sg.2.1))) (some ((0,0),6)) (o5 (xA (34,N) a sg) λx=>l9 (E9 x.2) (some ((0,0),8)) (some (x.1,0)))):=rfl;have hs:xA (34,N) a sg=o5 (H8 sg.2.1 (bQ .i64 N 8)) λ(x:iD)=>l9 (o8 a.1 3) (l9 (dE (o8 x.2.1.1 3) (o8 x.2.1.2 0)) (some (a,dE (o8 x.2.2.1.1 4) (o8 x.2.2.1.2 0))) (some (a,false))) (some (a,false)):=rfl;rw[he,hr,hs];unfold tZ ng;by_cases h0:0<=N
 case neg=>rw[Y1 (show N<0 by omega),U5 (show N<0 by omega)];exact rq (c:=3) G7 rfl rfl
 have hq:bQ .i64 N 8=N / 8:=by rw[xW (by rw[iW h0];unfold jc at*;omega),iW h0]
 rw[X5 h0,L6 h0,hq,xX h0];simp only[o8,Int.reduceEq,decide_true,o7,o6,X5 (show 0<=N % 8 by omega),o9];cases J6 (N % 8) 5
 ·exact rq (c:=3) G7 rfl rfl
 simp only[F9,o6,o9,X7,L6 (show 0<=N / 8 by omega),EJ];cases h1:D9 (N / 8) (x8 sg.2.1)
 ·exact rq (c:=6) G7 rfl rfl
 rw[jC]at h1;obtain⟨x,hx,_⟩:=mf (show 0<=N / 8 by omega) h1;simp only[hx,lY,o6,o9,X7,xE,F9];obtain⟨nm,⟨k1,k2⟩,⟨v1,v2⟩,rows⟩:=x;dsimp only;by_cases hK:k1=3/\k2=0
 ·obtain⟨rfl,rfl⟩:=hK;by_cases hV:v1=4/\v2=0
  ·obtain⟨rfl,rfl⟩:=hV;rcases ha with rfl|rfl|rfl|rfl|rfl|⟨e,rfl⟩ <;>
    first
    |exact nok (VT.lit (k:=3) l7) rfl rfl
    |exact rq (c:=8) G7 rfl rfl
  ·have hE:vty (v1,v2) sg.1=true->v1≠4:=λhv h=>by
    subst h;rcases JV hv with h|h|h|h|h|⟨e,h⟩<;>cases h;exact hV ⟨rfl,rfl⟩
   have hR:dE (decide (v1=4)) (decide (v2=0))=false:=by
    by_cases h1:v1=4
    ·have:v2≠0:=λh2=>hV ⟨h1,h2⟩;simp[dE,h1,this]
    ·simp[dE,h1]
   rw[hR];cases hv:vty (v1,v2) sg.1
   ·rcases ha with rfl|rfl|rfl|rfl|rfl|⟨e,rfl⟩<;>exact rq (c:=8) G7 rfl rfl
   ·have h4:=hE hv;rw[show decide (v1=4)=false by simp[h4]];rcases ha with rfl|rfl|rfl|rfl|rfl|⟨e,rfl⟩<;>exact rq (c:=8) G7 rfl rfl
 ·have hR:dE (decide (k1=3)) (decide (k2=0))=false:=by
   by_cases h1:k1=3
   ·have:k2≠0:=λh2=>hK ⟨h1,h2⟩;simp[dE,h1,this]
   ·simp[dE,h1]
  rw[hR];cases hv:vty (k1,k2) sg.1
  ·rcases ha with rfl|rfl|rfl|rfl|rfl|⟨e,rfl⟩<;>exact rq (c:=8) G7 rfl rfl
  cases hw:vty (v1,v2) sg.1
  ·rcases ha with rfl|rfl|rfl|rfl|rfl|⟨e,rfl⟩<;>exact rq (c:=8) G7 rfl rfl
  have h3:k1≠3:=λh=>by subst h;rcases JV hv with h|h|h|h|h|⟨e,h⟩<;>cases h;exact hK ⟨rfl,rfl⟩
  simp only[show decide (k1=3)=false by simp[h3],F9,o6,o7,o9];cases dE (decide (a.1=k1)) (decide (a.2=k2))
  ·cases decide (a.1=3)<;>exact rq (c:=8) G7 rfl rfl
  ·cases decide (a.1=3)<;>exact rq (c:=8) G7 rfl rfl
theorem a5k(n:Int×Int)(hN:jc n.2)(ops:List (Int×Int))(hv:∀t∈ops,VT t)(hl:x8 ops=arF n.1):uA n ops sg:=by
 obtain⟨op,N⟩:=n;dsimp only at hN hl;have hr:1<=op/\op<=39:=by
  by_cases h:1<=op/\op<=39
  ·exact h
  ·have:arF op=-1:=by unfold arF;rw[a5r h];rfl
   rw[this]at hl;simp[x8]at hl
 have hc:op=1\/op=2\/op=3\/op=4\/op=5\/op=6\/op=7\/op=8\/op=9\/op=10\/op=11\/op=12\/op=13\/op=14\/op=15\/op=16\/op=17\/op=18\/op=19\/op=20\/op=21\/op=22\/op=23\/op=24\/op=25\/op=26\/op=27\/op=28\/op=29\/op=30\/op=31\/op=32\/op=33\/op=34\/op=35\/op=36\/op=37\/op=38\/op=39:=l7;have L0:arF op=0->ops=[]:=λh=>by rw[h]at hl;simp only[x8]at hl;exact O7.1 l7
 have L1:arF op=1->∃a,ops=[a]/\VT a:=λh=>by
  rw[h]at hl;simp only[x8]at hl;match ops,hl,hv with
  |[a],_,hv=>exact⟨a,rfl,hv a A7⟩|[],hl,_=>simp at hl|a::b::r,hl,_=>simp at hl;omega
 have L2:arF op=2->∃a b,ops=[a,b]/\VT a/\VT b:=λh=>by
  rw[h]at hl;simp only[x8]at hl;match ops,hl,hv with
  |[a,b],_,hv=>exact⟨a,b,rfl,hv a A7,hv b A7⟩|[],hl,_=>simp at hl|[a],hl,_=>simp at hl|a::b::c::r,hl,_=>simp at hl;omega
 have L3:arF op=3->∃a b c,ops=[a,b,c]/\VT a/\VT b:=λh=>by
  rw[h]at hl;simp only[x8]at hl;match ops,hl,hv with
  |[a,b,c],_,hv=>exact⟨a,b,c,rfl,hv a A7,hv b A7⟩|[],hl,_=>simp at hl|[a],hl,_=>simp at hl|[a,b],hl,_=>simp at hl|a::b::c::d::r,hl,_=>simp at hl;omega
 rcases hc with rfl|rfl|rfl|rfl|rfl|rfl|rfl|rfl|rfl|rfl|rfl|rfl|rfl|rfl|rfl|rfl|rfl|rfl|rfl|rfl|rfl|rfl|rfl|rfl|rfl|rfl|rfl|rfl|rfl|rfl|rfl|rfl|rfl|rfl|rfl|rfl|rfl|rfl|rfl <;>
  first
  |(rw[L0 rfl];first|exact a8V N sg l7|exact a6A N sg hN|exact b2w N sg|exact a8T N sg|exact a6z N sg|exact a3g N sg|exact a8W N sg l7)
  |(obtain⟨a,rfl,ha⟩:=L1 rfl;first|exact b2x N sg l7 ha|exact a1j N sg ha|exact WJ N sg hN ha)
  |(obtain⟨a,b,rfl,ha,hb⟩:=L2 rfl;first|exact a8S N sg l7 ha hb|exact a6B N sg l7 ha hb|exact a6C N sg l7 ha)
  |(obtain⟨a,b,c,rfl,ha,hb⟩:=L3 rfl;exact b2v N sg ha hb)
end
end
section
def XT.wf:XT->Prop
 | .l0 n=>arF n.1=0| .l1 n a=>arF n.1=1/\a.wf| .l2 n a b=>arF n.1=2/\a.wf/\b.wf| .l3 n a b c=>arF n.1=3/\a.wf/\b.wf/\c.wf
theorem b2D{n:Int×Int}{ts ts' :List XT}(h:push n ts= .inr ts')(hw:∀t∈ts,t.wf):∀t∈ts',t.wf:=by
 unfold push at h;split at h
 ·cases h;intro t ht;rcases C9.1 ht with rfl|ht
  ·assumption
  ·exact hw t ht
 split at h
 ·split at h
  ·cases h;intro t ht;rcases C9.1 ht with rfl|ht
   ·exact⟨by assumption,hw _ A7⟩
   ·exact hw t (by simp[ht])
  ·cases h
 split at h
 ·split at h
  ·cases h;intro t ht;rcases C9.1 ht with rfl|ht
   ·exact⟨by assumption,hw _ A7,hw _ A7⟩
   ·exact hw t (by simp[ht])
  ·cases h
 split at h
 ·split at h
  ·cases h;intro t ht;rcases C9.1 ht with rfl|ht
   ·exact⟨by assumption,hw _ A7,hw _ A7,hw _ A7⟩
   ·exact hw t (by simp[ht])
  ·cases h
 ·cases h
theorem a1r:∀(es:List (Int×Int)) (i:Nat) (ts ts' :List XT),xP i es ts= .inr ts' ->(∀t∈ts,t.wf)->∀t∈ts',t.wf
 |[],i,ts,ts',h,hw=>by cases h;exact hw|n::es,i,ts,ts',h,hw=>by
  unfold xP at h;cases hp:push n ts with
  |inl c=>rw[hp]at h;cases h|inr t2=>
   rw[hp]at h;simp only at h;split at h
   ·cases h
   ·exact a1r es (i+1) t2 ts' h (b2D hp hw)
theorem QN{e:List (Int×Int)}{t:XT}(h:oV e= .inr t):t.wf:=by
 unfold oV at h;split at h
 ·cases h
 split at h
 ·cases h
 split at h
 ·cases h
 ·rename_i t' hp;cases h;exact a1r e 0 [] [t] hp A7 t A7
 ·cases h
def Gn(n:Int×Int)(ops:List (Int×Int))(sg:J5):(Int×Int)×Int:=(CY n ops sg).getD ((0,0),0)
def Cm(sg:J5)(n:Int×Int)(ops:List (Int×Int))(i:Nat):(Int×Int)⊕(Int×Int):=if(Gn n ops sg).2=0 then .inr (Gn n ops sg).1 else .inl ((i:Int),(Gn n ops sg).2)
def gK(sg:J5):XT->Nat->(Int×Int)⊕(Int×Int)
 | .l0 n,o=>Cm sg n [] o
 | .l1 n a,o=>match gK sg a o with
  | .inl x=> .inl x| .inr ta=>Cm sg n [ta] (o+a.size)
 | .l2 n a b,o=>match gK sg a o with
  | .inl x=> .inl x
  | .inr ta=>match gK sg b (o+a.size)with
   | .inl x=> .inl x| .inr tb=>Cm sg n [ta,tb] (o+a.size+b.size)
 | .l3 n a b c,o=>match gK sg a o with
  | .inl x=> .inl x
  | .inr ta=>match gK sg b (o+a.size)with
   | .inl x=> .inl x
   | .inr tb=>match gK sg c (o+a.size+b.size)with
    | .inl x=> .inl x| .inr tc=>Cm sg n [ta,tb,tc] (o+a.size+b.size+c.size)
theorem Oj{sg:J5}{n:Int×Int}{ops:List (Int×Int)}{i:Nat}{t:Int×Int}(hN:jc n.2)(hv:∀t∈ops,VT t)(hl:x8 ops=arF n.1)(h:Cm sg n ops i= .inr t):VT t:=by
 obtain⟨r,h1,h2,h3⟩:=a5k sg n hN ops hv hl;unfold Cm at h;split at h
 ·rename_i h0;cases h;have e:Gn n ops sg=r:=by unfold Gn;rw[h1];rfl
  rw[e]at h0 ⊢;exact h3 h0
 ·cases h
section
variable (e:List (Int×Int)) (sg:J5) (z:Int×Int)
def b3x(f:(Int×Int)×List (Int×Int)×Int->Option (Out ((Int×Int)×List (Int×Int)×Int) ((Int×Int)×List (Int×Int)) ((Int×Int)×Int×Int))):Prop:=
 ∀(i:Nat) (n:Int×Int) (s ops:List (Int×Int)),e[i]? =some n->i<=100->x8 ops=arF n.1->(∀t∈ops,VT t)->s.length+ops.length<=100->
  f (z,s++ops,(i:Int))=some (match Cm sg n ops i with| .inl x=> .rt ((0,0),x)| .inr t=> .nx (z,s++[t],((i+1:Nat):Int)))
theorem a7j{f:(Int×Int)×List (Int×Int)×Int->Option (Out ((Int×Int)×List (Int×Int)×Int) ((Int×Int)×List (Int×Int)) ((Int×Int)×Int×Int))}
  (he:e.length<=48) (hI:∀n∈e,jc n.2) (hs:b3x e sg z f):∀(t:XT),t.wf->∀(pre suf s:List (Int×Int)) (k:Nat),e=pre++t.post++suf->s.length<=pre.length->
  qj f (k+t.size) (z,s,(pre.length:Int))=(match gK sg t pre.length with| .inl x=>some (.inr ((0,0),x))| .inr r=>qj f k (z,s++[r],((pre.length+t.size:Nat):Int)))/\∀r,gK sg t pre.length= .inr r->VT r:=by
 intro t;have step:∀(i k:Nat) (n:Int×Int) (s ops:List (Int×Int)),e[i]? =some n->x8 ops=arF n.1->(∀t∈ops,VT t)->s.length+ops.length<=100->
   qj f (k+1) (z,s++ops,(i:Int))=(match Cm sg n ops i with| .inl x=>some (.inr ((0,0),x))| .inr r=>qj f k (z,s++[r],((i+1:Nat):Int))):=by
  intro i k n s ops h1 h2 h3 h4;rw[qj,hs i n s ops h1 (by have:=(Z4.1 h1).1;omega) h2 h3 h4];cases Cm sg n ops i<;>rfl
 have getn:∀(pre suf:List (Int×Int)) (n:Int×Int),e=pre++[n]++suf->e[pre.length]? =some n:=by intro pre suf n h;rw[h,F6,H6 l7,bn];rfl
 have mem:∀(i:Nat) (n:Int×Int),e[i]? =some n->jc n.2:=λi n h=>hI n (su h);induction t with
 |l0 n=>
  intro hw pre suf s k hd hl;have hn:=getn pre suf n hd;have hlen:pre.length<e.length:=(Z4.1 hn).1;have hz:x8 ([]:List (Int×Int))=arF n.1:=by rw[show arF n.1=0 from hw];rfl
  have h:=step pre.length k n s [] hn hz A7 az;rw[F7]at h;exact⟨h,λr hr=>Oj (mem _ n hn) A7 hz hr⟩
 |l1 n a iha=>
  intro hw pre suf s k hd hl;simp only[XT.post,F6]at hd;have hpa:(pre++a.post).length=pre.length+a.size:=by simp[XT.post_len]
  have hn:=getn (pre++a.post) suf n (by simpa using hd);rw[hpa]at hn;have hlen:=(Z4.1 hn).1;obtain⟨i1,i2⟩:=iha hw.2 pre ([n]++suf) s (k+1) (by simpa using hd) hl;simp only[XT.size,gK];rw[show k+(a.size+1)=(k+1)+a.size by omega,i1];cases ht:gK sg a pre.length with
  |inl x=>exact⟨rfl,λr hr=>by cases hr⟩|inr ta=>
   have hz:x8 [ta]=arF n.1:=by rw[show arF n.1=1 from hw.1];rfl
   have hv:∀t∈[ta],VT t:=by simpa using i2 ta ht
   exact⟨step _ k n s [ta] hn hz hv az,λr hr=>Oj (mem _ n hn) hv hz hr⟩
 |l2 n a b iha ihb=>
  intro hw pre suf s k hd hl;simp only[XT.post,F6]at hd;have hpa:(pre++a.post).length=pre.length+a.size:=by simp[XT.post_len]
  have hpb:(pre++a.post++b.post).length=pre.length+a.size+b.size:=by simp[XT.post_len];omega
  have hn:=getn (pre++a.post++b.post) suf n (by simpa using hd);rw[hpb]at hn;have hlen:=(Z4.1 hn).1;obtain⟨i1,i2⟩:=iha hw.2.1 pre (b.post++[n]++suf) s (k+1+b.size) (by simpa using hd) hl;simp only[XT.size,gK];rw[show k+(a.size+b.size+1)=(k+1+b.size)+a.size by omega,i1];cases ht:gK sg a pre.length with
  |inl x=>exact⟨rfl,λr hr=>by cases hr⟩|inr ta=>
   have hsa:=a.size_pos;obtain⟨j1,j2⟩:=ihb hw.2.2 (pre++a.post) ([n]++suf) (s++[ta]) (k+1) (by simpa using hd) (by simp[XT.post_len];omega);rw[hpa]at j1 j2;simp only;rw[j1];cases hu:gK sg b (pre.length+a.size)with
   |inl x=>exact⟨rfl,λr hr=>by cases hr⟩|inr tb=>
    have hz:x8 [ta,tb]=arF n.1:=by rw[show arF n.1=2 from hw.1];rfl
    have hv:∀t∈[ta,tb],VT t:=by simpa using ⟨i2 ta ht,j2 tb hu⟩
    have:=step _ k n s [ta,tb] hn hz hv az;simp only[F6,au,J4];rw[show pre.length+(a.size+b.size+1)=pre.length+a.size+b.size+1 by omega];exact⟨this,λr hr=>Oj (mem _ n hn) hv hz hr⟩
 |l3 n a b c iha ihb ihc=>
  intro hw pre suf s k hd hl;simp only[XT.post,F6]at hd;have hpa:(pre++a.post).length=pre.length+a.size:=by simp[XT.post_len]
  have hpb:(pre++a.post++b.post).length=pre.length+a.size+b.size:=by simp[XT.post_len];omega
  have hpc:(pre++a.post++b.post++c.post).length=pre.length+a.size+b.size+c.size:=by simp[XT.post_len];omega
  have hn:=getn (pre++a.post++b.post++c.post) suf n (by simpa using hd);rw[hpc]at hn;have hlen:=(Z4.1 hn).1;obtain⟨i1,i2⟩:=iha hw.2.1 pre (b.post++(c.post++([n]++suf))) s (k+1+c.size+b.size) (by simpa using hd) hl;simp only[XT.size,gK];rw[show k+(a.size+b.size+c.size+1)=(k+1+c.size+b.size)+a.size by omega,i1];have hsa:=a.size_pos;have hsb:=b.size_pos;cases ht:gK sg a pre.length with
  |inl x=>exact⟨rfl,λr hr=>by cases hr⟩|inr ta=>
   obtain⟨j1,j2⟩:=ihb hw.2.2.1 (pre++a.post) (c.post++([n]++suf)) (s++[ta]) (k+1+c.size) (by simpa using hd) (by simp[XT.post_len];omega);rw[hpa]at j1 j2;simp only;rw[j1];cases hu:gK sg b (pre.length+a.size)with
   |inl x=>exact⟨rfl,λr hr=>by cases hr⟩|inr tb=>
    obtain⟨q1,q2⟩:=ihc hw.2.2.2 (pre++a.post++b.post) ([n]++suf) (s++[ta]++[tb]) (k+1) (by simpa using hd) (by simp[XT.post_len];omega);rw[hpb]at q1 q2;simp only;rw[q1];cases hc:gK sg c (pre.length+a.size+b.size)with
    |inl x=>exact⟨rfl,λr hr=>by cases hr⟩|inr tc=>
     have hz:x8 [ta,tb,tc]=arF n.1:=by rw[show arF n.1=3 from hw.1];rfl
     have hv:∀t∈[ta,tb,tc],VT t:=by simpa using ⟨i2 ta ht,j2 tb hu,q2 tc hc⟩
     have:=step _ k n s [ta,tb,tc] hn hz hv az;simp only[F6,au,J4];rw[show pre.length+(a.size+b.size+c.size+1)=pre.length+a.size+b.size+c.size+1 by omega];exact⟨this,λr hr=>Oj (mem _ n hn) hv hz hr⟩
end
def pg(e:List (Int×Int))(sg:J5):(Int×Int)×Int×Int:=match oV e with
 | .inl x=>((0,0),x)
 | .inr t=>match gK sg t 0 with
  | .inl x=>((0,0),x)| .inr r=>(r,0,0)
theorem a4e{α:Type}(s ops:List α)(k:Int)(hk:x8 ops=k)(h:s.length+ops.length<=100):
  H9 .i64 (x8 (s++ops)) k=(s.length:Int)/\sS (s.length:Int) (x8 (s++ops)) (x8 (s++ops))=true/\pF (s++ops) (Y0 (s.length:Int)) (Y0 (x8 (s++ops)))=ops
  /\sS 0 (s.length:Int) (x8 (s++ops))=true/\pF (s++ops) (Y0 0) (Y0 (s.length:Int))=s:=by
 subst hk;refine⟨?_,?_,?_,?_,?_⟩
 ·rw[U2 (by unfold jc;simp[x8];omega)];simp[x8]
 ·simp[sS,x8];omega
 ·show((s++ops).take (((s++ops).length:Nat):Int).toNat).drop s.length=ops;rw[O9,ax,List.drop_left]
 ·simp[sS,x8];omega
 ·simp[pF,Y0]
theorem a4d{e:List (Int×Int)}{sg:J5}{f:(Int×Int)×List (Int×Int)×Int->Option (Out ((Int×Int)×List (Int×Int)×Int) ((Int×Int)×List (Int×Int)) ((Int×Int)×Int×Int))}
  (hI:∀n∈e,jc n.2) (hs:b3x e sg (0,0) f) (hend:∀s,f ((0,0),s,(e.length:Int))=some (.ex ((0,0),s))) (hcode:∀x,oV e= .inl x->x.2≠0):
  l9 (E9 (o8 (Di e).2.2 0)) (some ((((0:Int),(0:Int)),(Di e).2):(Int×Int)×Int×Int)) (o5 (aY f (((0:Int),(0:Int)),([]:List (Int×Int)),(0:Int))) λ(o:(Int×Int)×List (Int×Int)⊕(Int×Int)×Int×Int)=>
   aI o (λ(y:(Int×Int)×List (Int×Int))=>o5 (H8 y.2 0) λ(x:Int×Int)=>o5 (Y3 y.2 (Y0 0)) λ(x:Int×Int)=>some (x,0,0)) λ(r:(Int×Int)×Int×Int)=>some r)=some (pg e sg):=by
 unfold Di pg;cases h:oV e with
 |inl x=>simp only[L9 (hcode x h),iw,o7]|inr t=>
  obtain⟨hp,h48⟩:=BU h;have hw:=QN h;obtain⟨l1,_⟩:=a7j e sg (0,0) h48 hI hs t hw [] [] [] (jS -t.size) (by simpa using hp) A7;have hsz:e.length=t.size:=by rw[hp,XT.post_len]
  have hlo:aY f (((0:Int),(0:Int)),([]:List (Int×Int)),(0:Int))=qj f (jS -t.size+t.size) ((0,0),[],(([]:List (Int×Int)).length:Int)):=by unfold aY;rw[Nat.sub_add_cancel (by unfold jS;omega)];rfl
  simp only[O8 (rfl:(0:Int)=0),F9,o6];rw[hlo,l1];simp only[bU,iy];cases gK sg t 0 with
  |inl x=>rfl|inr r=>obtain⟨k,hk⟩:∃k,jS -t.size=k+1:=⟨jS -t.size -1,by unfold jS;omega⟩;simp only[J4];rw[hk,qj,←hsz,hend];rfl
theorem Fa{e:List (Int×Int)}{x:Int×Int}(h:oV e= .inl x):x.2≠0:=by
 have key:∀(es:List (Int×Int)) (i:Nat) (ts:List XT) (x:Int×Int),xP i es ts= .inl x->x.2≠0:=by
  intro es;induction es with
  |nil=>intro i ts x h;cases h|cons n es ih=>
   intro i ts x h;unfold xP at h;cases hp:push n ts with
   |inl c=>
    rw[hp]at h;cases h;show c≠0;unfold push at hp
    (repeat' split at hp)<;>first|(cases hp;done)|(cases hp;decide)
   |inr t2=>
    rw[hp]at h;simp only at h;split at h
    ·cases h;show(16:Int)≠0;decide
    ·exact ih _ _ _ h
 unfold oV at h;split at h
 ·cases h;show(4:Int)≠0;decide
 split at h
 ·cases h;show(5:Int)≠0;decide
 split at h
 ·rename_i y hp;cases h;exact key _ _ _ _ hp
 ·cases h
 ·cases h;show(4:Int)≠0;decide
theorem a7i{e:List (Int×Int)}(sg:J5)(hI:∀n∈e,jc n.2):EI e sg=some (pg e sg):=by
 unfold EI;rw[Pi,o9];refine a4d hI (λi n s ops hn hi2 hl hv hlen=>?_) (λs=>?_) (λx h=>Fa h)
 ·obtain⟨r,h1,h2,h3⟩:=a5k sg n (hI n (su hn)) ops hv hl;obtain⟨v1,v2,v3,v4,v5⟩:=a4e s ops _ hl hlen;have e' :Gn n ops sg=r:=by unfold Gn;rw[h1];rfl
  have hi:=(Z4.1 hn).1;simp only[X3 hn,o7,J9,hn,o9,TL,v1,v2,v3,v4,v5];unfold Cm;rw[e'];unfold EN at h2;have fin:bf n ops sg=some r->(o5 (bf n ops sg) λ(x_3:E8×Int)=>l9 (E9 (o8 x_3.2 0)) (some (Out.rt ((((0:Int),(0:Int)),((i:Int),x_3.2)):(Int×Int)×Int×Int)))
    (o5 (mM s [x_3.1]) λ(x_4:List E8)=>some (Out.nx (((0:Int),(0:Int)),x_4,D7 .i64 (i:Int) 1))))=
    some (match if r.2=0 then(.inr r.1:(Int×Int)⊕(Int×Int))else .inl ((i:Int),r.2)with| .inl x=>Out.rt ((0,0),x)| .inr t=>(Out.nx ((0,0),s++[t],((i+1:Nat):Int)):Out ((Int×Int)×List (Int×Int)×Int) ((Int×Int)×List (Int×Int)) ((Int×Int)×Int×Int))):=by
   intro hr;rw[hr,o9];by_cases h0:r.2=0
   ·rw[if_pos h0,O8 h0];simp only[F9,o6];rw[uY _ l7,o9,fP l7]
   ·rw[if_neg h0,L9 h0];rfl
  cases hz:o8 n.2 0
  ·rw[hz]at h2;simp only[iw,o7]at h2 ⊢;cases hu:jY n.1 with
   |none=>rw[hu]at h2;cases h2|some u=>
    rw[hu]at h2;simp only[o9]at h2 ⊢;cases u
    ·simp only[iw,o7]at h2 ⊢;cases h2;rfl
    ·exact fin h2
  ·rw[hz]at h2;exact fin h2
 ·rw[W9];rfl
section
variable {α β σ ε ρ:Type}
theorem sF(l:List α)(G:β->α->β)(mk:β->Int->σ)(fin:β->ε)(Inv:Nat->β->Prop){f:σ->Option (σ⊕ε)}{b:β}(hl:l.length<=1000000)(h0:Inv 0 b)
  (hin:∀(i:Nat) (a:α) (b:β),l[i]? =some a->i<=1000000->Inv i b->f (mk b (i:Int))=some (.inl (mk (G b a) ((i+1:Nat):Int)))/\Inv (i+1) (G b a))
  (hend:∀b,Inv l.length b->f (mk b (l.length:Int))=some (.inr (fin b))):
  dC f (mk b 0)=some (fin (l.foldl G b))/\Inv l.length (l.foldl G b):=by
 have key:∀(n i:Nat) (b:β),i<=l.length->l.length -i<n->Inv i b->qi f n (mk b (i:Int))=some (fin ((l.drop i).foldl G b))/\Inv l.length ((l.drop i).foldl G b):=by
  intro n;induction n with
  |zero=>intro i b _ h _;omega|succ n ih=>
   intro i b hi hn hI;unfold qi;by_cases h:i<l.length
   ·have e:=gY h;obtain⟨h1,h2⟩:=hin i _ b e l7 hI;rw[h1,jh h];exact ih (i+1) _ l7 l7 h2
   ·have:i=l.length:=l7;subst this;rw[hend b hI,AA];exact⟨rfl,hI⟩
 have:=key jS 0 b l7 (by unfold jS;omega) h0;exact this
theorem yX{γ:Type}(l:List α)(G:β->α->β)(mk:β->Int->σ)(fin:β->ε)(Inv:Nat->β->Prop)(b:β){f:σ->Option (σ⊕ε)}{K:ε->Option γ}{r:Option γ}(hl:l.length<=1000000)(h0:Inv 0 b)
  (hin:∀(i:Nat) (a:α) (b:β),l[i]? =some a->i<=1000000->Inv i b->f (mk b (i:Int))=some (.inl (mk (G b a) ((i+1:Nat):Int)))/\Inv (i+1) (G b a))
  (hend:∀b,Inv l.length b->f (mk b (l.length:Int))=some (.inr (fin b))) (hk:Inv l.length (l.foldl G b)->K (fin (l.foldl G b))=r):o5 (dC f (mk b 0)) K=r:=by
 obtain⟨h1,h2⟩:=sF l G mk fin Inv hl h0 hin hend;rw[h1];exact hk h2
def aG(G:β->α->β⊕ρ):List α->β->β⊕ρ
 |[],b=> .inl b
 |a::l,b=>match G b a with| .inl b' =>aG G l b'| .inr r=> .inr r
theorem a2X(l:List α)(G:β->α->β⊕ρ)(mk:β->Int->σ)(fin:β->ε)(Inv:Nat->β->Prop){f:σ->Option (Out σ ε ρ)}{b:β}(hl:l.length<=1000000)(h0:Inv 0 b)
  (hin:∀(i:Nat) (a:α) (b:β),l[i]? =some a->i<=1000000->Inv i b->f (mk b (i:Int))=some (match G b a with| .inl b' => .nx (mk b' ((i+1:Nat):Int))| .inr r=> .rt r)/\∀b',G b a= .inl b' ->Inv (i+1) b')
  (hend:∀b,Inv l.length b->f (mk b (l.length:Int))=some (.ex (fin b))):
  aY f (mk b 0)=some (match aG G l b with| .inl b' => .inl (fin b')| .inr r=> .inr r)/\∀b',aG G l b= .inl b' ->Inv l.length b' :=by
 have key:∀(n i:Nat) (b:β),i<=l.length->l.length -i<n->Inv i b->qj f n (mk b (i:Int))=some (match aG G (l.drop i) b with| .inl b' => .inl (fin b')| .inr r=> .inr r)/\∀b',aG G (l.drop i) b= .inl b' ->Inv l.length b' :=by
  intro n;induction n with
  |zero=>intro i b _ h _;omega|succ n ih=>
   intro i b hi hn hI;unfold qj;by_cases h:i<l.length
   ·have e:=gY h;obtain⟨h1,h2⟩:=hin i _ b e l7 hI;rw[h1,jh h];unfold aG;cases hg:G b l[i]with
    |inr r=>exact⟨rfl,λb' hb=>by cases hb⟩|inl b' =>exact ih (i+1) _ l7 l7 (h2 b' hg)
   ·have:i=l.length:=l7;subst this;rw[hend b hI,AA];exact⟨rfl,λb' hb=>by cases hb;exact hI⟩
 have:=key jS 0 b l7 (by unfold jS;omega) h0;exact this
theorem ql{γ:Type}(l:List α)(G:β->α->β⊕ρ)(mk:β->Int->σ)(fin:β->ε)(Inv:Nat->β->Prop)(b:β){f:σ->Option (Out σ ε ρ)}{K:ε⊕ρ->Option γ}{r:Option γ}(hl:l.length<=1000000)(h0:Inv 0 b)
  (hin:∀(i:Nat) (a:α) (b:β),l[i]? =some a->i<=1000000->Inv i b->f (mk b (i:Int))=some (match G b a with| .inl b' => .nx (mk b' ((i+1:Nat):Int))| .inr r=> .rt r)/\∀b',G b a= .inl b' ->Inv (i+1) b')
  (hend:∀b,Inv l.length b->f (mk b (l.length:Int))=some (.ex (fin b)))
  (hk:(∀b',aG G l b= .inl b' ->Inv l.length b')->K (match aG G l b with| .inl b' => .inl (fin b')| .inr r=> .inr r)=r):o5 (aY f (mk b 0)) K=r:=by
 obtain⟨h1,h2⟩:=a2X l G mk fin Inv hl h0 hin hend;rw[h1];exact hk h2
end
def ZG(c:UInt8):Bool:=decide (32<=c.toNat)&&decide (c.toNat<=126)&&decide (c.toNat≠34)
def a3Z(s:List UInt8):Bool:=decide (s.length<=64)&&s.all ZG
theorem a4S(c:UInt8):∀s:List UInt8,decide (0<=Lib.indexByte s c)=s.any λx=>decide (x.toNat=c.toNat)
 |[]=>by simp[Lib.indexByte]|b::l=>by
  have ih:=a4S c l;have hge:=Lib.indexByte_ge l c;rw[yV,←ih];have e:Lib.indexByte (b::l) c=if b=c then 0 else if Lib.indexByte l c=-1 then -1 else Lib.indexByte l c+1:=by rw[Lib.indexByte];simp
  rw[e];by_cases h:b=c
  ·subst h;simp
  ·have h2:b.toNat≠c.toNat:=λhh=>h (UInt8.toNat_inj.1 hh);rw[if_neg h,show decide (b.toNat=c.toNat)=false by simp[h2],ML];by_cases h3:Lib.indexByte l c=-1
   ·rw[h3];rfl
   ·rw[if_neg h3];simp;omega
theorem b1y(c:UInt8):ZG c=(!D9 (c.toNat:Int) 32&&!D9 126 (c.toNat:Int)&&!o8 (c.toNat:Int) 34):=by unfold ZG D9 o8;rw[eU];simp;omega
theorem a4y(s:List UInt8)(p:UInt8->Bool):(∀(i:Nat) (a:UInt8),s[i]? =some a->p a=true)↔s.all p=true:=by rw[lQ];exact⟨λh x hx=>by obtain⟨i,hi,rfl⟩:=bI hx;exact h i _ (gY hi),λh i a hi=>h a (su hi)⟩
theorem Wl{s:List UInt8}(h:s.length<=1000000):yI s=some (a3Z s):=by
 unfold yI;have h5:D9 64 (x8 s)= !decide (s.length<=64):=by simp only[D9,x8];rw[←decide_not];congr 1;simp;omega
 rw[h5,show xQ s [34]=some (s.any λx=>decide (x.toNat=(34:UInt8).toNat))from congrArg some (a4S 34 s)];unfold a3Z;cases decide (s.length<=64)
 ·rfl
 simp only[lY,o6,o9,aS];cases h34:s.any λx=>decide (x.toNat=(34:UInt8).toNat)
 case true=>
  obtain⟨x,hx,hx2⟩:=fQ.1 h34;simp only[decide_eq_true_eq]at hx2;have:s.all ZG=false:=by rw[List.all_eq_false];refine⟨x,hx,?_⟩;unfold ZG;rw[hx2];decide
  rw[this];rfl
 simp only[o6];refine fK (XH s (λi a=>ZG a) false PUnit.unit _ l7 (λi x hx=>?_) ?_) ?_
 rotate_left 2
 ·by_cases hw:s.all ZG=true
  ·rw[if_pos ((a4y s ZG).2 hw),hw];rfl
  ·rw[if_neg (λh=>hw ((a4y s ZG).1 h))];simp only[qA]at hw;rw[hw];rfl
 ·have hi:=(Z4.1 hx).1;have hne:o8 (x.toNat:Int) 34=false:=by
   have:=(oN.1 h34) x (su hx);simp only[decide_eq_true_eq]at this;exact L9 (by have h:(34:UInt8).toNat=34:=rfl;omega)
  simp only[X3 hx,o7,a5y,hx,iU,o9];rw[fP l7,b1y,hne];cases D9 (x.toNat:Int) 32<;>cases D9 126 (x.toNat:Int)<;>rfl
 ·rw[W9];rfl
def II(e:List (Int×Int))(sg:J5)(t:Int×Int):Int:=l9 (o8 (pg e sg).2.2 0) (l9 (dE (o8 (pg e sg).1.1 t.1) (o8 (pg e sg).1.2 t.2)) 0 8) (pg e sg).2.2
theorem NJ{e:List (Int×Int)}(sg:J5)(t:Int×Int)(hI:∀n∈e,jc n.2):vF e sg t=some (II e sg t):=by
 unfold vF II;rw[a7i sg hI,o9];cases o8 (pg e sg).2.2 0
 ·rfl
 simp only[F9,o6,o7];cases dE (o8 (pg e sg).1.1 t.1) (o8 (pg e sg).1.2 t.2)<;>rfl
def a7w(r:aK):Prop:=r.1.length<=1000000/\r.2.2.2.2.2.2.2.length<=1000000/\(∀n∈r.2.2.2.2.2.1,jc n.2)/\(∀n∈r.2.2.2.2.2.2.1,jc n.2)
def MF(rs:List aK)(d:Int):Nat:=rs.countP λo=>o8 o.2.1 d
def Un(r:aK)(sg:J5)(t:Int×Int):Int:=
 l9 (D9 0 (x8 r.2.2.2.2.2.1)) (l9 (o8 (II r.2.2.2.2.2.1 sg (1,0)) 0) (II r.2.2.2.2.2.2.1 sg t) (II r.2.2.2.2.2.1 sg (1,0))) (II r.2.2.2.2.2.2.1 sg t)
def IE(s:D6)(sg:J5)(k:Nat)(r:aK):Int:=
 l9 (IQ r.1) (l9 ((s.2.2.2.2.take k).any λx=>seq x.1 r.1) 7 (match H8 s.2.2.2.1 r.2.1 with
  |none=>6|some d=>l9 (l9 (o8 r.2.2.1 (-1)) false (l9 (D9 r.2.2.1 0) true (l9 (J6 k r.2.2.1) true (match H8 s.2.2.2.2 r.2.2.1 with|some q=>E9 (o8 q.2.1 r.2.1)|none=>true)))) 9
   (l9 (D9 r.2.2.2.1 0) 3 (l9 (D9 9 r.2.2.2.1) 3 (l9 (IM r.2.2.2.2.1) (l9 (o8 r.2.2.2.2.1.1 r.2.2.2.2.1.2) 3
    (l9 (J6 8 (MF (s.2.2.2.2.take k) r.2.1)) 4 (l9 (a3Z r.2.2.2.2.2.2.2) (Un r sg d.2) 2))) 3))))) 2
theorem wJ{α:Type}{l:List α}{i:Int}(h:J6 0 i=false\/D9 i (x8 l)=false):H8 l i=none:=by
 unfold H8
 split
 ·rename_i h0;rcases h with h|h
  ·rw[Fz]at h;omega
  ·rw[iL]at h;simp only[x8]at h;exact gu l7
 ·rfl
theorem YA{s:D6}(sg:J5){k:Nat}{r:aK}(hr:s.2.2.2.2[k]? =some r)(hl:s.2.2.2.2.length<=1000)(h:a7w r):BA s (k:Int) sg=some (IE s sg k r):=by
 have hk:=(Z4.1 hr).1;have hcnt:MF (s.2.2.2.2.take k) r.2.1<=1000:=by have:=wH (l:=s.2.2.2.2.take k) (p:=λ(o:aK)=>o8 o.2.1 r.2.1);unfold MF;simp at this;omega
 unfold BA;rw[J9,hr,o9,zo l7,o9];refine fK (sF (s.2.2.2.2.take k) (λ(c:Nat) (o:aK)=>l9 (o8 o.2.1 r.2.1) (c+1) c) (λc i=>((c:Int),i)) (λc=>(c:Int)) (λi c=>c<=i) (b:=0) az l7 (λi a c ha hi hc=>?_) (λc hc=>?_)).1 ?_
 rotate_left 2
 ·have hf:∀(l:List aK) (c:Nat),l.foldl (λ(c:Nat) (o:aK)=>l9 (o8 o.2.1 r.2.1) (c+1) c) c=c+MF l r.2.1:=by
   intro l;induction l with
   |nil=>intro c;rfl|cons a l ih=>intro c;rw[aH,ih];unfold MF;rw[List.countP_cons];cases o8 a.2.1 r.2.1<;>simp<;>omega
  rw[hf,iy,o9,qI h.1,o9,o9,a2R _ az,o9];unfold IE;cases IQ r.1
  ·rfl
  simp only[F9,o6,o7,o9];cases (s.2.2.2.2.take k).any λx=>seq x.1 r.1
  case true=>rfl
  simp only[o6];rw[qW r.2.1 0,EJ (x8 s.2.2.2.1) r.2.1];cases h0:J6 0 r.2.1
  ·rw[wJ (.inl h0)];rfl
  cases h1:D9 r.2.1 (x8 s.2.2.2.1)
  ·rw[wJ (.inr h1)];rfl
  obtain⟨d,hd,_⟩:=mf (kR.1 h0) (jC.1 h1);rw[hd];simp only[lY,o6,o9,Wl h.2.1];have hpar:(l9 (E9 (o8 r.2.2.1 (-1))) (l9 (D9 r.2.2.1 0) (some true) (l9 (J6 (k:Int) r.2.2.1) (some true) (o5 (H8 s.2.2.2.2 r.2.2.1) λ(x_6:aK)=>some (E9 (o8 x_6.2.1 r.2.1))))) (some false))=
    some (l9 (o8 r.2.2.1 (-1)) false (l9 (D9 r.2.2.1 0) true (l9 (J6 k r.2.2.1) true (match H8 s.2.2.2.2 r.2.2.1 with|some q=>E9 (o8 q.2.1 r.2.1)|none=>true)))):=by
   cases o8 r.2.2.1 (-1)
   case true=>rfl
   simp only[iw,o7,o6];cases hp0:D9 r.2.2.1 0
   case true=>rfl
   cases hp1:J6 (k:Int) r.2.2.1
   case true=>rfl
   rw[iL]at hp0;rw[Fz]at hp1;obtain⟨q,hq,_⟩:=mf (l:=s.2.2.2.2) hp0 (by simp only[x8];omega);rw[hq];rfl
  rw[hpar,o9];cases (l9 (o8 r.2.2.1 (-1)) false (l9 (D9 r.2.2.1 0) true (l9 (J6 k r.2.2.1) true (match H8 s.2.2.2.2 r.2.2.1 with|some q=>E9 (o8 q.2.1 r.2.1)|none=>true))))
  case true=>rfl
  simp only[o6];cases D9 r.2.2.2.1 0
  case true=>rfl
  simp only[o6,o9];cases D9 9 r.2.2.2.1
  case true=>rfl
  simp only[o6];have hval:∀(A B:Option (aK⊕Int)),l9 (D9 r.2.2.2.2.1.1 0) A (l9 (J6 r.2.2.2.2.1.2 r.2.2.2.2.1.1) A (l9 (D9 109573 r.2.2.2.2.1.2) A B))=l9 (IM r.2.2.2.2.1) (l9 (o8 r.2.2.2.2.1.1 r.2.2.2.2.1.2) A B) A:=by
   intro A B;unfold IM;by_cases v0:r.2.2.2.2.1.1<(0:Int)
   ·rw[U5 v0,Y1 (show r.2.2.2.2.1.1<(0:Int)from v0)];rfl
   rw[L6 (fZ.1 v0),X5 (fZ.1 v0)];by_cases v1:(r.2.2.2.2.1.2:Int)<=r.2.2.2.2.1.1
   ·rw[X5 v1];by_cases v2:(r.2.2.2.2.1.1:Int)<=r.2.2.2.2.1.2
    ·rw[X5 v2,O8 (Int.le_antisymm v2 v1)];cases J6 r.2.2.2.2.1.2 109573<;>rfl
    ·rw[Y1 (jU.1 v2)];rfl
   ·have v1' :=jU.1 v1;rw[Y1 v1',X5 (Int.le_of_lt v1'),L9 (λhh=>by rw[hh]at v1';exact Int.lt_irrefl _ v1'),qW];cases J6 r.2.2.2.2.1.2 109573<;>rfl
  rw[hval];cases IM r.2.2.2.2.1
  ·rfl
  cases o8 r.2.2.2.2.1.1 r.2.2.2.2.1.2
  case true=>rfl
  simp only[o7,o6];cases J6 8 ((MF (s.2.2.2.2.take k) r.2.1:Nat):Int)
  case true=>rfl
  cases a3Z r.2.2.2.2.2.2.2
  ·rfl
  simp only[F9,o6,o7,o9,X7,Un,hd,NJ sg _ h.2.2.1,NJ sg _ h.2.2.2];cases D9 0 (x8 r.2.2.2.2.2.1)
  ·rfl
  simp only[o7];cases o8 (II r.2.2.2.2.2.1 sg (1,0)) 0<;>rfl
 ·have hc' :c<=1000000:=l7;obtain⟨ha1,ha2⟩:=a2b ha;simp only[X3 ha,o7,J9,ha,o9];rw[fP (show i<=9000000000000000000 by omega),fP (show c<=9000000000000000000 by omega)];cases o8 a.2.1 r.2.1
  ·exact⟨rfl,by show c<=i+1;omega⟩
  ·exact⟨rfl,by show c+1<=i+1;omega⟩
 ·simp only[W9];rfl
structure SmS (s:D6):Prop where
 nm:s.1.length<=1000000
 ni:s.2.2.1.length<=14
 nd:s.2.2.2.1.length<=14
 nr:s.2.2.2.2.length<=60
 fo:a7r s
 ro:∀r∈s.2.2.2.2,a7w r/\r.2.2.2.2.2.1.length<=50/\r.2.2.2.2.2.2.1.length<=50
def isM(op:Int):Bool:=l9 (J6 36 op) (J6 op 39) false
theorem a8r(op:Int):isM op=l9 (o8 op 36) true (l9 (o8 op 37) true (l9 (o8 op 38) true (o8 op 39))):=by
 unfold isM;by_cases h1:36<=op
 ·rw[X5 h1,o7];by_cases h2:op<=39
  ·rw[X5 h2];have:op=36\/op=37\/op=38\/op=39:=l7;rcases this with rfl|rfl|rfl|rfl<;>rfl
  ·rw[Y1 l7,L9 l7,L9 l7,L9 l7,L9 l7];rfl
 ·rw[Y1 l7,L9 l7,L9 l7,L9 l7,L9 l7];rfl
def Lm(p:Int->Bool)(e:List (Int×Int)):List Int:=(e.filter λn=>p n.1).map (·.2)
def uz(e:List (Int×Int)):List Int×List Int×List Int:=(Ih (Lm (λo=>o8 o 7) e),Ih (Lm (λo=>o8 o 8) e),Ih (Lm isM e))
def b2F(g:List Int->Int->List Int)(b:List Int×List Int×List Int)(n:Int×Int):List Int×List Int×List Int:=
 (l9 (o8 n.1 7) (g b.1 n.2) b.1,l9 (o8 n.1 8) (g b.2.1 n.2) b.2.1,l9 (isM n.1) (g b.2.2 n.2) b.2.2)
theorem Ye(g:List Int->Int->List Int):∀(e:List (Int×Int)) (b:List Int×List Int×List Int),e.foldl (b2F g) b=((Lm (λo=>o8 o 7) e).foldl g b.1,(Lm (λo=>o8 o 8) e).foldl g b.2.1,(Lm isM e).foldl g b.2.2)
 |[],b=>rfl|n::e,b=>by
  have hn:∀p:Int->Bool,Lm p (n::e)=l9 (p n.1) (n.2::Lm p e) (Lm p e):=λp=>by unfold Lm;rw[dn];cases p n.1<;>rfl
  rw[aH,Ye g e,hn,hn,hn];unfold b2F;simp only;cases o8 n.1 7<;>cases o8 n.1 8<;>cases isM n.1<;>rfl
theorem Xx:∀(l b:List Int),l.foldl (λacc n=>acc++[n]) b=b++l
 |[],b=>by simp|a::l,b=>by rw[aH,Xx l];simp
theorem He{a k:Int}(h:a=k)(m:Int)(hm:k≠m):o8 a m=false:=L9 l7
theorem EE{l:List Int}(hl:l.length<=1000000):vk l=some (Ih l):=by unfold vk;have:=b3m (l:=l) hl;rw[show(λx=>o5 (qQ x) λ(x:List Int)=>some x)=λx=>qQ x from funext λx=>jm _];exact this
theorem BG{e:List (Int×Int)}(h:e.length<=1000000):oq e=some (uz e):=by
 unfold oq;refine yX e (b2F (λacc n=>acc++[n])) (λb i=>(b.1,b.2.1,b.2.2,i)) (λb=>b) (λi b=>b.1.length<=i/\b.2.1.length<=i/\b.2.2.length<=i) (([],[],[]):List Int×List Int×List Int) h A7 (λi a b ha hi hI=>?_) (λb hI=>?_) (λh2=>?_)
 ·obtain⟨b1,b2,b3⟩:=b;simp only at hI;simp only[X3 ha,o7,J9,ha,o9,uY a.2 (show b1.length<=1000000 by omega),uY a.2 (show b2.length<=1000000 by omega),uY a.2 (show b3.length<=1000000 by omega),b2F,a8r];rw[fP l7];by_cases h7:a.1=7
  ·rw[O8 h7,He h7 8 G7,He h7 36 G7,He h7 37 G7,He h7 38 G7,He h7 39 G7];exact⟨rfl,by simp<;>omega,by simp<;>omega,by simp<;>omega⟩
  rw[L9 h7];by_cases h8:a.1=8
  ·rw[O8 h8,He h8 36 G7,He h8 37 G7,He h8 38 G7,He h8 39 G7];exact⟨rfl,by simp<;>omega,by simp<;>omega,by simp<;>omega⟩
  rw[L9 h8];cases o8 a.1 36<;>cases o8 a.1 37<;>cases o8 a.1 38<;>cases o8 a.1 39<;>exact⟨rfl,by simp<;>omega,by simp<;>omega,by simp<;>omega⟩
 ·simp only[W9];rfl
 ·rw[Ye]at h2 ⊢;simp only[Xx,J4]at h2 ⊢;rw[EE l7,o9,EE l7,o9,EE l7];rfl
theorem a1k(p:Int->Bool)(e:List (Int×Int)):(Lm p e).length<=e.length:=by unfold Lm;rw[J7];exact bT _ _
theorem KW(e:List (Int×Int)):(uz e).2.1.length<=e.length:=aF (EK _) (a1k _ e)
theorem KX(e:List (Int×Int)):(uz e).2.2.length<=e.length:=aF (EK _) (a1k _ e)
def inD(n d:Int):Bool:=l9 (J6 0 d) (D9 d n) false
def IB(n:Int)(r:aK):List Int:=(uz r.2.2.2.2.2.1).2.1.filter (inD n)++(uz r.2.2.2.2.2.2.1).2.1.filter (inD n)
theorem Ux(p:Int->Bool):∀(l b:List Int),l.foldl (λacc x=>l9 (p x) (acc++[x]) acc) b=b++l.filter p
 |[],b=>by simp|a::l,b=>by rw[aH,Ux p l,dn];cases p a<;>simp
theorem Xu{f:List Int×Int->Option ((List Int×Int)⊕List Int)}(l b:List Int)(n:Int)(hl:l.length<=1000)(hb:b.length<=1000)
  (hin:∀(i:Nat) (a:Int) (acc:List Int),l[i]? =some a->i<=1000000->f (acc,(i:Int))=l9 (J6 0 a) (l9 (D9 a n) (o5 (mM acc [a]) λx=>some (.inl (x,D7 .i64 (i:Int) 1))) (some (.inl (acc,D7 .i64 (i:Int) 1)))) (some (.inl (acc,D7 .i64 (i:Int) 1))))
  (hend:∀acc,f (acc,(l.length:Int))=some (.inr acc)):dC f (b,0)=some (b++l.filter (inD n)):=by
 have key:=sF l (λ(acc:List Int) x=>l9 (inD n x) (acc++[x]) acc) (λb i=>(b,i)) (λb=>b) (λi acc=>acc.length<=1000+i) (f:=f) (b:=b) l7 l7 ?_ ?_
 ·rw[key.1,Ux]
 ·intro i a acc ha hi hI;have:=(Z4.1 ha).1;rw[hin i a acc ha hi,fP l7,uY _ l7];unfold inD;cases J6 0 a
  ·exact⟨rfl,by show acc.length<=_;omega⟩
  cases D9 a n
  ·exact⟨rfl,by show acc.length<=_;omega⟩
  ·exact⟨rfl,by simp;omega⟩
 ·intro acc hI;rw[hend]
theorem PT{r:aK}(n:Int)(h1:r.2.2.2.2.2.1.length<=50)(h2:r.2.2.2.2.2.2.1.length<=50):uF r n=some (IB n r):=by
 have g1:=KW r.2.2.2.2.2.1;have g2:=KW r.2.2.2.2.2.2.1;unfold uF IB;rw[BG l7,o9,BG l7,o9];refine fK (Xu (uz r.2.2.2.2.2.1).2.1 [] n l7 A7 (λi a acc ha hi=>?_) (λacc=>?_)) ?_
 rotate_left 2
 ·rw[o9,jm,J4];have:=bT (inD n) (uz r.2.2.2.2.2.1).2.1;refine Xu (uz r.2.2.2.2.2.2.1).2.1 _ n l7 l7 (λi a acc ha hi=>?_) (λacc=>?_)
  ·simp only[X3 ha,o7,J9,ha,o9];rw[show Y3 (uz r.2.2.2.2.2.2.1).2.1 (Y0 (i:Int))=some a from ha,o9]
  ·simp only[W9];rfl
 ·simp only[X3 ha,o7,J9,ha,o9];rw[show Y3 (uz r.2.2.2.2.2.1).2.1 (Y0 (i:Int))=some a from ha,o9]
 ·simp only[W9];rfl
def nD(s:D6):Int:=x8 s.2.2.2.1
def dl(n:Int)(rs:List aK)(d:Int):List Int:=rs.flatMap λr=>l9 (o8 r.2.1 d) (IB n r) []
def O0(s:D6)(d:Int):List Int:=l9 (inD (nD s) d) (Ih (dl (nD s) s.2.2.2.2 d)) []
theorem Yc{s:D6}(h:SmS s){r:aK}(hr:r∈s.2.2.2.2)(n:Int):(IB n r).length<=100:=by obtain⟨_,h1,h2⟩:=h.ro r hr;have a1:=KW r.2.2.2.2.2.1;have a2:=KW r.2.2.2.2.2.2.1;have b1:=bT (inD n) (uz r.2.2.2.2.2.1).2.1;have b2:=bT (inD n) (uz r.2.2.2.2.2.2.1).2.1;unfold IB;rw[F5];omega
theorem a4K(n:Int)(rs:List aK)(r:aK)(d:Int):dl n (rs++[r]) d=dl n rs d++l9 (o8 r.2.1 d) (IB n r) []:=by unfold dl;rw[List.flatMap_append];simp
theorem b2g(n:Int)(rs:List aK)(r:aK)(d:Int):dl n (r::rs) d=l9 (o8 r.2.1 d) (IB n r) []++dl n rs d:=rfl
theorem a2D{s:D6}(h:SmS s)(n d:Int):∀(rs:List aK),(∀r∈rs,r∈s.2.2.2.2)->(dl n rs d).length<=100*rs.length
 |[],_=>by simp[dl]|r::rs,hm=>by
  have ih:=a2D h n d rs λr hr=>hm r (by simp[hr]);have h1:=Yc h (hm r A7) n;rw[b2g,F5,G5];cases o8 r.2.1 d
  ·simp only[o6,bU];omega
  ·simp only[o7];omega
theorem a8L{n:Int}{rs:List aK}{d x:Int} :x∈dl n rs d↔∃r∈rs,r.2.1=d/\x∈IB n r:=by
 unfold dl;rw[List.mem_flatMap];constructor
 ·rintro⟨r,hr,hx⟩;cases hq:o8 r.2.1 d<;>rw[hq]at hx
  ·simp at hx
  ·exact⟨r,hr,O5.1 hq,hx⟩
 ·rintro⟨r,hr,hq,hx⟩;exact⟨r,hr,by rw[O8 hq];exact hx⟩
theorem a9W{n:Int}{r:aK}{x:Int}(h:x∈IB n r):0<=x/\x<n:=by
 have key:inD n x=true:=by unfold IB at h;rcases A8.1 h with h|h<;>exact(N8.1 h).2
 unfold inD at key;cases h0:J6 0 x<;>rw[h0]at key
 ·cases key
 ·exact⟨kR.1 h0,jC.1 key⟩
theorem AQ(s:D6)(d:Int):SI (O0 s d):=by
 unfold O0;cases inD (nD s) d
 ·exact List.Pairwise.nil
 ·exact Zz _
theorem vg{s:D6}{d x:Int}(h:x∈O0 s d):0<=x/\x<nD s:=by
 unfold O0 at h;cases hq:inD (nD s) d<;>rw[hq]at h
 ·simp at h
 ·obtain⟨r,_,_,hx⟩:=a8L.1 ((rf _ _).1 h);exact a9W hx
theorem SS{α:Type}(m k:Nat)(f:Nat->α)(v:α):((List.range m).map f).set k v=(List.range m).map λd=>if d=k then v else f d:=by
 apply dF;intro i;rw[V7,Y8,Y8,J7,eX];by_cases hi:i<m
 ·rw[sD hi];by_cases h:k=i
  ·subst h;simp[hi]
  ·simp[h,Ne.symm h]
 ·have:(List.range m)[i]? =none:=by simp;omega
  rw[this];by_cases h:k=i
  ·subst h;simp[hi]
  ·simp[h]
def TM(m:Nat)(rs:List aK):List (List Int):=(List.range m).map λ(d:Nat)=>dl (m:Int) rs (d:Int)
theorem Pg{l:List Int}(hl:l.length<=1000000):zH l=some (Ih l):=EE hl
theorem CW{α:Type}(m:Nat)(f:Nat->α){k:Nat}(h:k<m):((List.range m).map f)[k]? =some (f k):=by rw[Y8,sD h];rfl
theorem Gw{s:D6}(h:SmS s):tV s=some ((List.range s.2.2.2.1.length).map λ(d:Nat)=>O0 s (d:Int)):=by
 have hnr:=h.nr;have hnd:=h.nd;unfold tV;generalize hm:s.2.2.2.1.length=m at*;have hn:nD s=(m:Int):=by unfold nD x8;rw[hm]
 rw[show x8 s.2.2.2.1=(m:Int)from hn,show sU (m:Int) ([]:List Int)=some (TM m []) by unfold sU TM dl;rw[if_pos l7];simp[List.map_const'],o9];refine yX s.2.2.2.2 (λ(b:List (List Int)) r=>l9 (inD m r.2.1) (b.set r.2.1.toNat ((b.getD r.2.1.toNat [])++IB m r)) b) (λb i=>(b,i)) (λb=>b) (λi b=>b=TM m (s.2.2.2.2.take i)) (TM m []) l7 A7 (λi r b ha hi hI=>?_) (λb hI=>?_) (λh2=>?_)
 ·have hlt:=(Z4.1 ha).1;obtain⟨_,h1,h2⟩:=h.ro r (su ha);have hst:s.2.2.2.2.take (i+1)=s.2.2.2.2.take i++[r]:=by
   rw[P9 hlt,(Z4.1 ha).2]
  have hlb:x8 b=(m:Int):=by rw[hI];simp[x8,TM]
  obtain⟨rd,hrd⟩:∃rd:Int,r.2.1=rd:=⟨r.2.1,rfl⟩;simp only[X3 ha,o7,J9,ha,o9,hlb,hrd];rw[fP l7,hst];by_cases hd:0<=rd/\rd<(m:Int)
  ·obtain⟨d0,d1⟩:=hd;have hk:rd.toNat<m:=l7;have hkk:((rd.toNat:Nat):Int)=rd:=l7;have hg:b[rd.toNat]? =some (dl m (s.2.2.2.2.take i) rd):=by rw[hI];unfold TM;rw[CW m _ hk,hkk]
   have hll:=a2D h m rd (s.2.2.2.2.take i) λr hr=>List.mem_of_mem_take hr;have hrl:=Yc h (su ha) m;have htl:(s.2.2.2.2.take i).length<=60:=by simp;omega
   rw[X5 d0,U5 d1,show inb rd (m:Int)=true by unfold inb;simp;omega,show Y3 b (Y0 rd)=some (dl m (s.2.2.2.2.take i) rd)from hg,PT _ h1 h2];simp only[o7,o9];rw[Hg l7,show MS (Y0 rd) (Y0 rd)=true by simp[MS]];simp only[o7,o9];have hin:inD m rd=true:=by unfold inD;rw[X5 d0,U5 d1];rfl
   rw[hin,show b.getD rd.toNat []=dl m (s.2.2.2.2.take i) rd by rw[rZ,hg];rfl];refine⟨rfl,?_⟩;show b.set rd.toNat _=_;rw[hI];unfold TM;rw[SS];apply bJ;intro d hdm;rw[a4K,hrd];by_cases hq:d=rd.toNat
   ·subst hq;rw[if_pos rfl,hkk,O8 rfl];rfl
   ·rw[if_neg hq,L9 l7];simp
  ·have hin:inD m rd=false:=by
    unfold inD;by_cases d0:0<=rd
    ·rw[X5 d0,L6 l7];rfl
    ·rw[Y1 l7];rfl
   rw[hin];refine⟨?_,?_⟩
   ·unfold inD at hin;cases q0:J6 0 rd
    ·rfl
    ·rw[q0]at hin;simp only[o7]at hin ⊢;rw[hin];rfl
   ·show b=_;rw[hI];unfold TM;apply bJ;intro d hdm;have:=U3.1 hdm;rw[a4K,hrd,L9 l7];simp
 ·simp only[W9];rfl
 ·rw[ax]at h2;rw[h2];generalize hA:TM m s.2.2.2.2=A;have hAl:x8 A=(m:Int):=by rw[←hA];simp[x8,TM]
  refine yX (List.range m) (λ(b:List (List Int)) d=>b.set d (Ih (b.getD d []))) (λb i=>(b,i)) (λb=>b) (λi b=>b=(List.range m).map λ(d:Nat)=>if d<i then Ih (dl m s.2.2.2.2 (d:Int))else dl m s.2.2.2.2 (d:Int)) A az (by rw[←hA];unfold TM;simp) (λi d b ha hi hI=>?_) (λb hI=>?_) (λh3=>?_)
  ·have hlt:=(Z4.1 ha).1;simp only[eX]at hlt;have hdi:d=i:=by rw[sD hlt]at ha;exact(V6 ha).symm
   subst hdi;have hlb:x8 b=(m:Int):=by rw[hI];simp[x8]
   have hg:b[d]? =some (dl m s.2.2.2.2 (d:Int)):=by rw[hI,CW m _ hlt,if_neg l7]
   have hll:=a2D h m d s.2.2.2.2 λr hr=>hr;simp only[hAl,hlb];rw[U5 (show(d:Int)<(m:Int) by omega),show inb (d:Int) (m:Int)=true by unfold inb;simp;omega,show Y3 b (Y0 (d:Int))=some (dl m s.2.2.2.2 (d:Int))from hg];simp only[o7,o9];rw[Pg l7,show MS (Y0 (d:Int)) (Y0 (d:Int))=true by simp[MS],fP l7];simp only[o7,o9];rw[show b.getD d []=dl m s.2.2.2.2 (d:Int) by rw[rZ,hg];rfl];refine⟨rfl,?_⟩;rw[hI,SS];apply bJ;intro e he;by_cases hq:e=d
   ·subst hq;rw[if_pos rfl,if_pos l7]
   ·rw[if_neg hq];by_cases hq2:e<d
    ·rw[if_pos hq2,if_pos l7]
    ·rw[if_neg hq2,if_neg l7]
  ·simp only[eX,hAl,L6 (show(m:Int)<=(m:Int) by omega)];rfl
  ·rw[h3];apply congrArg some;apply bJ;intro d hd;have:=U3.1 hd;simp only[eX];rw[if_pos this];unfold O0;rw[hn,show inD (m:Int) (d:Int)=true by unfold inD;rw[X5 l7,U5 l7];rfl];rfl
def Rch(D:Int->List Int)(d:Int)(L:List Int):Prop:=SI L/\(∀x∈D d,x∈L)/\(∀x∈L,∀y∈D x,y∈L)/\∀C:Int->Prop,(∀x∈D d,C x)->(∀x,C x->∀y∈D x,C y)->∀x∈L,C x
theorem Rch.unique{D:Int->List Int}{d:Int}{L M:List Int}(h:Rch D d L)(k:Rch D d M):L=M:=
 a3L h.1 k.1 λx=>⟨λhx=>h.2.2.2 (λy=>y∈M) k.2.1 k.2.2.1 x hx,λhx=>k.2.2.2 (λy=>y∈L) h.2.1 h.2.2.1 x hx⟩
theorem Pj:∀{B A:List Int},SI A->SI B->(∀x∈A,x∈B)->A=B\/A.length<B.length
 |[],A,_,_,h=>by
  cases A with
  |nil=>exact .inl rfl|cons a A=>exact absurd (h a A7) A7
 |b::B,[],_,_,_=> .inr A7|b::B,a::A,hA,hB,h=>by
  have hA' :=U9.1 hA;have hB' :=U9.1 hB;rcases C9.1 (h a A7)with hab|hab
  ·subst hab;rcases Pj (B:=B) (A:=A) hA'.2 hB'.2 (λx hx=>by
    rcases C9.1 (h x (by simp[hx]))with h1|h1
    ·have:=hA'.1 x hx;omega
    ·exact h1)with h1|h1
   ·exact .inl (by rw[h1])
   ·exact .inr (by simp only[G5];omega)
  ·have hab2:=hB'.1 a hab;rcases Pj (B:=B) (A:=a::A) hA hB'.2 (λx hx=>by
    rcases C9.1 (h x hx)with h1|h1
    ·rcases C9.1 hx with h2|h2
     ·omega
     ·have:=hA'.1 x h2;omega
    ·exact h1)with h1|h1
   ·exact .inr (by rw[h1];simp)
   ·exact .inr (by simp only[G5]at*;omega)
def Jt(D:Int->List Int)(L:List Int):List Int:=L.foldl (λacc x=>UF (D x) acc) L
theorem Gj(D:Int->List Int)(x:Int):∀(l acc:List Int),x∈l.foldl (λacc x=>UF (D x) acc) acc↔x∈acc\/∃y∈l,x∈D y
 |[],acc=>by simp|a::l,acc=>by
  rw[aH,Gj D x l,UW];constructor
  ·rintro((h|h)|⟨y,hy,h⟩)
   ·exact .inr ⟨a,A7,h⟩
   ·exact .inl h
   ·exact .inr ⟨y,by simp[hy],h⟩
  ·rintro(h|⟨y,hy,h⟩)
   ·exact .inl (.inr h)
   ·rcases C9.1 hy with rfl|hy
    ·exact .inl (.inl h)
    ·exact .inr ⟨y,hy,h⟩
theorem a5i(D:Int->List Int):∀(l:List Int) {acc:List Int},SI acc->SI (l.foldl (λacc x=>UF (D x) acc) acc)
 |[],_,h=>h|a::l,_,h=>by rw[aH];exact a5i D l (Zy _ h)
theorem Vh(D:Int->List Int){L:List Int}(h:SI L):SI (Jt D L):=a5i D L h
def itS(D:Int->List Int)(d:Int):Nat->List Int
 |0=>D d|k+1=>Jt D (itS D d k)
section
variable {D:Int->List Int} {n:Nat} (hsi:∀x,SI (D x)) (hin:∀x,∀y∈D x,0<=y/\y<(n:Int))
include hsi hin
theorem a0J(d:Int):∀k,SI (itS D d k)
 |0=>hsi d|k+1=>Vh D (a0J d k)
theorem a8t(d:Int):∀k,∀x∈itS D d k,0<=x/\x<(n:Int)
 |0,x,hx=>hin d x hx|k+1,x,hx=>by
  rcases(Gj D x _ _).1 hx with h|⟨y,_,h⟩
  ·exact a8t d k x h
  ·exact hin y x h
theorem a4V(d:Int)(k:Nat):Jt D (itS D d k)=itS D d k\/(itS D d k).length<(Jt D (itS D d k)).length:=by
 rcases Pj (a0J hsi hin d k) (Vh D (a0J hsi hin d k)) (λx hx=>(Gj D x _ _).2 (.inl hx))with h|h
 ·exact .inl h.symm
 ·exact .inr h
theorem XG(d:Int):∀k,Jt D (itS D d k)=itS D d k\/k<(Jt D (itS D d k)).length
 |0=>by
  rcases a4V hsi hin d 0 with h|h
  ·exact .inl h
  ·exact .inr l7
 |k+1=>by
  rcases XG d k with h|h
  ·exact .inl (by show Jt D (Jt D (itS D d k))=Jt D (itS D d k);rw[h,h])
  ·rcases a4V hsi hin d (k+1)with h2|h2
   ·exact .inl h2
   ·exact .inr (by have:(itS D d (k+1)).length=(Jt D (itS D d k)).length:=rfl;omega)
theorem b4L(d:Int):Rch D d (itS D d n):=by
 have hst:Jt D (itS D d n)=itS D d n:=by
  rcases XG hsi hin d n with h|h
  ·exact h
  ·have:=VV n (Vh D (a0J hsi hin d n)) (a8t hsi hin d (n+1));omega
 refine⟨a0J hsi hin d n,?_,?_,?_⟩
 ·intro x hx;have:∀k,x∈itS D d k:=by
   intro k;induction k with
   |zero=>exact hx|succ k ih=>exact(Gj D x _ _).2 (.inl ih)
  exact this n
 ·intro x hx y hy;rw[←hst];exact(Gj D y _ _).2 (.inr ⟨x,hx,hy⟩)
 ·intro C h1 h2;have:∀k,∀x∈itS D d k,C x:=by
   intro k;induction k with
   |zero=>exact h1|succ k ih=>
    intro x hx;rcases(Gj D x _ _).1 hx with h|⟨y,hy,h⟩
    ·exact ih x h
    ·exact h2 y (ih y hy) x h
  exact this n
end
def cu(s:D6)(d:Int):List Int:=itS (O0 s) d s.2.2.2.1.length
theorem vJ(s:D6)(d:Int):Rch (O0 s) d (cu s d):=
 b4L (n:=s.2.2.2.1.length) (AQ s) (λx y hy=>vg hy) d
theorem Ar{s:D6}{d x:Int}(h:x∈cu s d):0<=x/\x<nD s:=a8t (n:=s.2.2.2.1.length) (AQ s) (λx y hy=>vg hy) d _ x h
theorem Uh{s:D6}(h:SmS s)(d:Int):(O0 s d).length<=14:=
 aF (VV s.2.2.2.1.length (AQ s d) (λx hx=>vg hx)) h.nd
theorem MK{s:D6}(h:SmS s){l:List Int}(hs:SI l)(hi:∀x∈l,0<=x/\x<nD s):l.length<=14:=aF (VV s.2.2.2.1.length hs hi) h.nd
def mk(S:List Bool)(x:Int):Bool:=if 0<=x then S.getD x.toNat false else false
def unm(S:List Bool):Nat:=S.count false
def rG(b:List Bool×List Int)(e:Int):List Bool×List Int:=l9 (mk b.1 e) b (b.1.set e.toNat true,b.2++[e])
theorem a3c{S:List Bool}{x:Int}(h0:0<=x)(h1:x<x8 S):S[x.toNat]? =some (mk S x):=by
 unfold mk;rw[if_pos h0,rZ];have:x.toNat<S.length:=by simp only[x8]at h1;omega
 rw[gY this];rfl
theorem Vd{S:List Bool}{e:Int}(h0:0<=e)(h1:e<x8 S)(x:Int):mk (S.set e.toNat true) x=l9 (o8 x e) true (mk S x):=by
 unfold mk;have hl:e.toNat<S.length:=by simp only[x8]at h1;omega
 by_cases hx:0<=x
 ·rw[if_pos hx,if_pos hx,rZ,rZ,V7];by_cases hq:x=e
  ·subst hq;rw[if_pos rfl,if_pos hl,O8 rfl];rfl
  ·rw[if_neg l7,L9 hq];rfl
 ·rw[if_neg hx,if_neg hx,L9 l7];rfl
theorem b3n{S:List Bool}{e:Int}(h0:0<=e)(h1:e<x8 S)(hm:mk S e=false):unm (S.set e.toNat true)+1=unm S:=by
 have hl:e.toNat<S.length:=by simp only[x8]at h1;omega
 have hg:=a3c h0 h1;rw[hm,gY hl]at hg;have hg' :S[e.toNat]=false:=V6 hg;unfold unm;rw[List.count_set hl,hg'];have:0<S.count false:=List.count_pos_iff.2 (by rw[←hg'];exact S9 hl);simp;omega
structure RInv (n:Nat) (S:List Bool) (Q:List Int) (l:List Int) (S' :List Bool) (Q' :List Int):Prop where
 len:S'.length=n
 seen:∀x:Int,0<=x->x<(n:Int)->(mk S' x=true↔mk S x=true\/x∈l)
 sum:Q'.length+unm S' =Q.length+unm S
 le:unm S' <=unm S
 old:∀x∈Q,x∈Q'
 new:∀x∈Q',x∈Q\/x∈l
 got:∀x,mk S' x=true->mk S x=true\/x∈Q'
theorem b0g{n:Nat} :∀(l:List Int) (S:List Bool) (Q:List Int),S.length=n->(∀x∈l,0<=x/\x<(n:Int))->RInv n S Q l (l.foldl rG (S,Q)).1 (l.foldl rG (S,Q)).2
 |[],S,Q,hl,_=>⟨hl,λx _ _=>by simp,rfl,E5 _,λx hx=>hx,λx hx=> .inl hx,λx hx=> .inl hx⟩|e::l,S,Q,hl,hi=>by
  have he:=hi e A7;have hel:e<x8 S:=by simp only[x8];omega
  rw[aH];cases hm:mk S e with
  |true=>
   rw[show rG (S,Q) e=(S,Q) by unfold rG;rw[hm];rfl];have ih:=b0g l S Q hl λx hx=>hi x (by simp[hx]);refine⟨ih.len,λx h0 h1=>?_,ih.sum,ih.le,ih.old,λx hx=>?_,ih.got⟩
   ·rw[ih.seen x h0 h1,C9];constructor
    ·rintro(h|h)
     ·exact .inl h
     ·exact .inr (.inr h)
    ·rintro(h|h|h)
     ·exact .inl h
     ·subst h;exact .inl hm
     ·exact .inr h
   ·rcases ih.new x hx with h|h
    ·exact .inl h
    ·exact .inr (by simp[h])
  |false=>
   rw[show rG (S,Q) e=(S.set e.toNat true,Q++[e]) by unfold rG;rw[hm];rfl];have ih:=b0g l (S.set e.toNat true) (Q++[e]) (by simp[hl]) λx hx=>hi x (by simp[hx]);have hu:=b3n he.1 hel hm;refine⟨ih.len,λx h0 h1=>?_,?_,?_,λx hx=>ih.old x (by simp[hx]),λx hx=>?_,λx hx=>?_⟩
   ·rw[ih.seen x h0 h1,Vd he.1 hel,C9];cases hq:o8 x e
    ·rw[yU]at hq;simp[hq]
    ·rw[O5]at hq;simp[hq]
   ·have:=ih.sum;simp only[F5,G5,bU]at this;omega
   ·have:=ih.le;omega
   ·rcases ih.new x hx with h|h
    ·rcases A8.1 h with h|h
     ·exact .inl h
     ·exact .inr (by simp at h;simp[h])
    ·exact .inr (by simp[h])
   ·rcases ih.got x hx with h|h
    ·rw[Vd he.1 hel]at h;cases hq:o8 x e
     ·rw[hq]at h;exact .inl h
     ·rw[O5]at hq;subst hq;exact .inr (ih.old _ A7)
    ·exact .inr h
def Ro(S:List Bool):List Int:=((List.range S.length).filter λi=>S.getD i false).map λ(i:Nat)=>(i:Int)
theorem KI{S:List Bool}(x:Int):x∈Ro S↔mk S x=true:=by
 unfold Ro mk;rw[U8];constructor
 ·rintro⟨i,hi,rfl⟩;rw[if_pos l7];exact(N8.1 hi).2
 ·intro h;split at h
  ·refine⟨x.toNat,N8.2 ⟨U3.2 ?_,h⟩,l7⟩;rw[rZ]at h;cases hg:S[x.toNat]? with
   |none=>rw[hg]at h;cases h|some b=>exact(Z4.1 hg).1
  ·cases h
theorem a8G(S:List Bool):SI (Ro S):=by unfold Ro;refine List.Pairwise.map _ (R:=(·< ·)) (λa b h=>by omega) (List.Pairwise.filter _ oP)
theorem a3a{f:List Int×Int->Option ((List Int×Int)⊕List Int)}(S:List Bool)(hS:S.length<=100)
  (hin:∀(i:Nat) (a:Bool) (acc:List Int),S[i]? =some a->i<=1000000->acc.length<=i->f (acc,(i:Int))=l9 a (o5 (mM acc [(i:Int)]) λx=>some (.inl (x,D7 .i64 (i:Int) 1))) (some (.inl (acc,D7 .i64 (i:Int) 1))))
  (hend:∀acc,f (acc,(S.length:Int))=some (.inr acc)):dC f ([],0)=some (Ro S):=by
 have mk2:∀i,i<=S.length->((List.range i).filter λi=>S.getD i false).length<=i:=λi _=>by have:=bT (λi=>S.getD i false) (List.range i);simpa using this
 obtain⟨e,h1,h2⟩:=gW (f:=f) (s:=([],0)) (λx=>∃i:Nat,x=(((List.range i).filter λi=>S.getD i false).map λ(i:Nat)=>(i:Int),(i:Int))/\i<=S.length) (λe=>e=Ro S) (λx=>S.length -x.2.toNat) ⟨0,rfl,l7⟩ az (by
  rintro x ⟨i,rfl,hi⟩;by_cases h:i<S.length
  ·have e:=gY h;have hst:(List.range (i+1)).filter (λi=>S.getD i false)=(List.range i).filter (λi=>S.getD i false)++l9 S[i] [i] []:=by
    rw[X6,kK];congr 1;rw[dn,rZ,e];cases S[i]<;>rfl
   have hl:=mk2 i hi;refine .inl ⟨(((List.range (i+1)).filter λi=>S.getD i false).map λ(i:Nat)=>(i:Int),((i+1:Nat):Int)),?_,⟨i+1,rfl,h⟩,by simp;omega⟩;rw[hin i _ _ e l7 (by simpa using hl),fP l7,hst,bV,uY _ (by rw[J7];omega)];cases S[i]
   ·simp
   ·rfl
  ·have:i=S.length:=l7;subst this;exact .inr ⟨_,hend _,rfl⟩)
 rw[h1,h2]
theorem VB{D:Int->List Int}{n:Nat}(hn:n<=14)(hsi:∀x,SI (D x))(hin:∀x,∀y∈D x,0<=y/\y<(n:Int)){d:Int}(h0:0<=d)(h1:d<(n:Int)):
  ∃L,xg ((List.range n).map λ(x:Nat)=>D (x:Int)) d=some L/\Rch D d L:=by
 have hA:x8 ((List.range n).map λ(x:Nat)=>D (x:Int))=(n:Int):=by simp[x8]
 have hget:∀x:Int,0<=x->x<n->H8 ((List.range n).map λ(x:Nat)=>D (x:Int)) x=some (D x):=λx a b=>by
  have:x.toNat<n:=l7;unfold H8
  rw[if_pos a,CW n _ this,X4 a]
 unfold xg;generalize (List.range n).map (λ(x:Nat)=>D (x:Int))=A at*;rw[hA,show sU (n:Int) false=some (List.replicate n false) by unfold sU;rw[if_pos l7];simp,o9];have hD14:∀x,(D x).length<=14:=λx=>aF (VV n (hsi x) (hin x)) hn;have key:=gW (f:=λ(x:List Bool×List Int)=>l9 (D9 0 (x8 x.2)) (o5 (H8 x.2 0) λ(x_1:Int)=>o5 (Y3 x.2 (Y0 0)) λ(x_2:Int)=>l9 (sS 1 (x8 x.2) (x8 x.2)) (o5 (H8 A x_2) λ(x_3:List Int)=>
   o5 (dC (λ(x:List Bool×List Int×Int)=>l9 (D9 x.2.2 (x8 x_3)) (o5 (H8 x_3 x.2.2) λ(x_4:Int)=>o5 (H8 x.1 x_4) λ(x_5:Bool)=>o5 (Y3 x.1 (Y0 x_4)) λ(x_6:Bool)=>
     l9 (E9 x_6) (o5 (H8 x.1 x_4) λ(x_7:Bool)=>o5 (Y3 x.1 (Y0 x_4)) λ(x_8:Bool)=>o5 (mM x.2.1 [x_4]) λ(x_9:List Int)=>some (.inl (bu x.1 (Y0 x_4) true,x_9,D7 .i64 x.2.2 1)))
      (some (.inl (x.1,x.2.1,D7 .i64 x.2.2 1)))) (some (.inr (x.1,x.2.1)))) (x.1,pF x.2 (Y0 1) (Y0 (x8 x.2)),0)) λ(y:List Bool×List Int)=>some (.inl y)) none) (some (.inr x.1)))
  (s:=(List.replicate n false,[d]))
  (λx=>x.1.length=n/\(∀q∈x.2,0<=q/\q<(n:Int))/\x.2.length+unm x.1<=n+1/\(∀q∈x.2,q=d\/mk x.1 q=true)/\(∀v,v=d\/mk x.1 v=true->v∈x.2\/∀y∈D v,mk x.1 y=true)/\
   (∀C:Int->Prop,(∀x∈D d,C x)->(∀x,C x->∀y∈D x,C y)->∀v,mk x.1 v=true->C v)/\(∀v,mk x.1 v=true->0<=v/\v<(n:Int)))
  (λS=>S.length=n/\Rch D d (Ro S)) (λx=>2*unm x.1+x.2.length) ?_ ?_ ?_
 ·obtain⟨S,k1,k2,k3⟩:=key;refine⟨Ro S,?_,k3⟩;refine(rC k1 _).trans ?_;rw[jm];refine a3a S l7 (λi a acc ha hi hacc=>?_) (λacc=>?_)
  ·simp only[X3 ha,o7,J9,ha,o9];rw[show Y3 S (Y0 (i:Int))=some a from ha,o9]
  ·simp only[W9];rfl
 ·have hnone:∀v,mk (List.replicate n false) v=false:=λv=>by
   unfold mk;split
   ·rw[rZ,jW];split<;>rfl
   ·rfl
  refine⟨A7,λq hq=>by simp at hq;omega,?_,λq hq=> .inl (by simpa using hq),λv hv=>?_,λC _ _ v hv=>(by rw[hnone]at hv;cases hv),λv hv=>(by rw[hnone]at hv;cases hv)⟩
  ·simp[unm,List.count_replicate];omega
  ·rcases hv with rfl|hv
   ·exact .inl A7
   ·rw[hnone]at hv;cases hv
 ·simp[unm,List.count_replicate];omega
 ·rintro⟨S,Q⟩ ⟨i1,i2,i3,i4,i5,i6,i7⟩;simp only at i1 i2 i3 i4 i5 i6 i7;cases Q with
  |nil=>
   right;refine⟨S,rfl,i1,a8G S,λx hx=>?_,λx hx y hy=>?_,λC c1 c2 x hx=>i6 C c1 c2 x ((KI x).1 hx)⟩
   ·rcases i5 d (.inl rfl)with h|h
    ·cases h
    ·exact(KI x).2 (h x hx)
   ·rcases i5 x (.inr ((KI x).1 hx))with h|h
    ·cases h
    ·exact(KI y).2 (h y hy)
  |cons q Q=>
   left;have hq:=i2 q A7;have hfold:=b0g (n:=n) (D q) S Q i1 (λx hx=>hin q x hx);refine⟨(D q).foldl rG (S,Q),?_,?_,?_⟩
   ·simp only[U5 (show(0:Int)<x8 (q::Q) by simp[x8]<;>omega),o7,show H8 (q::Q) 0=some q from rfl,show Y3 (q::Q) (Y0 0)=some q from rfl,o9,hget q hq.1 hq.2,
     show sS 1 (x8 (q::Q)) (x8 (q::Q))=true by simp[sS,x8]<;>omega,show pF (q::Q) (Y0 1) (Y0 (x8 (q::Q)))=Q by simp[pF,Y0,x8]]
    refine yX (D q) rG (λb i=>(b.1,b.2,i)) (λb=>b) (λi b=>b.1.length=n/\b.2.length<=100+i) (S,Q) (by have:=hD14 q;omega) ⟨i1,by simp at i3;show Q.length<=100+0;omega⟩ (λi e b he hi hI=>?_) (λb hI=>?_) (λh2=>rfl)
    ·obtain⟨S1,Q1⟩:=b;simp only at hI;have hee:=hin q e (su he);have hlt:=(Z4.1 he).1;have hdl:=hD14 q;have hg:=a3c (S:=S1) hee.1 (by simp only[x8];omega);have hla:H8 S1 e=some (mk S1 e):=by unfold H8;rw[if_pos hee.1];exact hg
     have hlg:Y3 S1 (Y0 e)=some (mk S1 e):=hg;simp only[X3 he,o7,J9 (D q),he,o9,hla,hlg];rw[fP l7,uY _ l7];unfold rG;simp only;cases mk S1 e
     ·exact⟨rfl,by simp[hI.1],by simp<;>omega⟩
     ·exact⟨rfl,hI.1,by show Q1.length<=_;omega⟩
    ·simp only[W9];rfl
   ·obtain⟨j1,j2,j3,j4,j5,j6,j7⟩:=hfold;generalize (D q).foldl rG (S,Q)=b at*;obtain⟨S',Q'⟩:=b;simp only at j1 j2 j3 j4 j5 j6 j7 ⊢;have hrange:∀v,mk S' v=true->0<=v/\v<(n:Int):=λv hv=>by
     rcases j7 v hv with h|h
     ·exact i7 v h
     ·rcases j6 v h with h|h
      ·exact i2 v (by simp[h])
      ·exact hin q v h
    refine⟨j1,λx hx=>?_,?_,λx hx=>?_,λv hv=>?_,λC c1 c2 v hv=>?_,hrange⟩
    ·rcases j6 x hx with h|h
     ·exact i2 x (by simp[h])
     ·exact hin q x h
    ·simp only[G5]at i3;omega
    ·rcases j6 x hx with h|h
     ·rcases i4 x (by simp[h])with h2|h2
      ·exact .inl h2
      ·have hr:=i7 x h2;exact .inr ((j2 x hr.1 hr.2).2 (.inl h2))
     ·have hr:=hin q x h;exact .inr ((j2 x hr.1 hr.2).2 (.inr h))
    ·have up:∀y,mk S y=true->mk S' y=true:=λy hy=>by
      have hr:=i7 y hy;exact(j2 y hr.1 hr.2).2 (.inl hy)
     by_cases hvq:v=q
     ·subst hvq;right;intro y hy;have hr:=hin v y hy;exact(j2 y hr.1 hr.2).2 (.inr hy)
     ·by_cases hold:v=d\/mk S v=true
      ·rcases i5 v hold with h|h
       ·rcases C9.1 h with h|h
        ·exact absurd h hvq
        ·exact .inl (j5 v h)
       ·exact .inr λy hy=>up y (h y hy)
      ·rcases hv with h|h
       ·exact absurd (.inl h) hold
       ·rcases j7 v h with h2|h2
        ·exact absurd (.inr h2) hold
        ·exact .inl h2
    ·by_cases hS:mk S v=true
     ·exact i6 C c1 c2 v hS
     ·have hr:=hrange v hv;rcases(j2 v hr.1 hr.2).1 hv with h|h
      ·exact absurd h hS
      ·rcases i4 q A7 with h2|h2
       ·subst h2;exact c1 v h
       ·exact c2 q (i6 C c1 c2 q h2) v h
   ·have:=hfold.sum;have:=hfold.le;simp only[G5];omega
theorem FK{s:D6}(h:SmS s){d:Int}(h0:0<=d)(h1:d<nD s):qK s d=some (cu s d):=by have hn:nD s=((s.2.2.2.1.length:Nat):Int):=rfl;unfold qK;change l9 (D9 d 0) _ (l9 (J6 (nD s) d) _ _)=_;rw[L6 h0,o6,Y1 h1,o6,Gw h,o9,jm];obtain⟨L,k1,k2⟩:=VB (D:=O0 s) h.nd (AQ s) (λx y hy=>vg hy) h0 (show d<((s.2.2.2.1.length:Nat):Int) by omega);rw[k1,Rch.unique k2 (vJ s d)]
structure SmL (l:Z7):Prop where
 few:Few l
 en:a4p l
 tb:ZU l
 sc:∀s∈l.2.2,SmS s
theorem SmL.scopes{l:Z7}(h:SmL l):ZR l:=λs hs=>by have hm:=h.sc s hs;exact⟨hm.nm,by have:=hm.ni;omega,by have:=hm.nd;omega,by have:=hm.nr;omega⟩
theorem xn{ε ρ:Type}{p:Nat->Option ρ}(n:Nat)(hn:n<=1000000)(e:ε){f:Int->Option (Out Int ε ρ)}
  (h1:∀i,i<n->f (i:Int)=some (match p i with|some r=> .rt r|none=> .nx (D7 .i64 (i:Int) 1))) (h2:f (n:Int)=some (.ex e)):
  aY f 0=some (match bD n p with|some r=> .inr r|none=> .inl e):=
 Jn n l7 e (λi hi=>by rw[h1 i hi,fP l7]<;>cases p i<;>rfl) h2
def OU(l:Z7)(s:D6)(k:Nat):Option (Int×Int):=match s.2.2.2.2[k]? with|some r=>YE (IE s (FI l s) k r) (300+k:Nat)|none=>none
def a0m(s:D6)(d:Nat):Option (Int×Int):=l9 ((cu s d).any λx=>o8 (d:Int) x) (some (9,((200+d:Nat):Int))) none
def FC(l:Z7)(i:Nat)(m:Int):Bool:=l9 (o8 m (-1)) false (l9 (D9 m 0) true (l9 (J6 (i:Int) m) true (match H8 l.2.2 m with|some q=>E9 (o8 q.2.1 (-1))|none=>true)))
def Vs(l:Z7)(s:D6):Int×Int:=match KD l s with
 |some r=>r
 |none=>match bD s.2.2.2.2.length (OU l s)with
  |some r=>r
  |none=>match bD s.2.2.2.1.length (a0m s)with
   |some r=>r|none=>(0,0)
def JO(l:Z7)(i:Nat)(s:D6):Int×Int:=
 l9 (IQ s.1) (l9 (We l 3 i s.1) (7,0) (l9 (FC l i s.2.1) (6,0) (l9 (D9 12 (x8 s.2.2.1)) (4,112) (l9 (D9 12 (x8 s.2.2.2.1)) (4,212) (Vs l s))))) (2,0)
theorem WA{l:Z7}(hL:SmL l){i:Nat}{s:D6}(hs:l.2.2[i]? =some s):zQ l (i:Int)=some (JO l i s):=by
 have hi:=(Z4.1 hs).1;have hS:=hL.sc s (su hs);have hf:=hL.few;have hf1:=hf.1;have hf2:=hf.2.1;have hf3:=hf.2.2;have n1:=hS.ni;have n2:=hS.nd;have n3:=hS.nr;unfold zQ JO We;rw[J9,hs,o9,zo l7,o9,MJ _ l7,o9,Rh _ l7,o9,a0E _ az,o9];have hb:(l9 (l.1.any λx=>seq x.1 s.1) (some (s,true)) (l9 (l.2.1.any λx=>seq x.1 s.1) (some (s,true)) (some (s,(l.2.2.take i).any λx=>seq x.1 s.1))))=
   some (s,(l.1.any λx=>seq x.1 s.1) || (l.2.1.any λx=>seq x.1 s.1) || (l.2.2.take i).any λx=>seq x.1 s.1):=by
  cases l.1.any λx=>seq x.1 s.1
  ·cases l.2.1.any λx=>seq x.1 s.1<;>rfl
  ·rfl
 rw[hb,o9];simp only;rw[qI hS.nm,o9];cases IQ s.1
 ·rfl
 simp only[F9,o6,o7];cases (l.1.any λx=>seq x.1 s.1) || (l.2.1.any λx=>seq x.1 s.1) || (l.2.2.take i).any λx=>seq x.1 s.1
 case true=>rfl
 simp only[o6];have hm:(l9 (E9 (o8 s.2.1 (-1))) (l9 (D9 s.2.1 0) (some true) (l9 (J6 (i:Int) s.2.1) (some true) (o5 (H8 (l.2.2.take i) s.2.1) λ(x:D6)=>some (E9 (o8 x.2.1 (-1)))))) (some false))=some (FC l i s.2.1):=by
  unfold FC;cases o8 s.2.1 (-1)
  case true=>rfl
  simp only[iw,o7,o6];cases h0:D9 s.2.1 0
  case true=>rfl
  cases h1:J6 (i:Int) s.2.1
  case true=>rfl
  rw[iL]at h0;rw[Fz]at h1;obtain⟨q,hq,_⟩:=mf (l:=l.2.2.take i) h0 (by simp only[x8,fU];omega);have hq2:H8 l.2.2 s.2.1=some q:=by have:=(dW hq).2.2.2;unfold H8;rw[if_pos h0];exact(a2b this).2
  rw[hq,hq2];rfl
 rw[hm,o9];cases FC l i s.2.1
 case true=>rfl
 simp only[o6];cases D9 12 (x8 s.2.2.1)
 case true=>rfl
 cases D9 12 (x8 s.2.2.2.1)
 case true=>rfl
 simp only[o6,o9,X7];unfold Vs KD;refine fK (xn (p:=inP l s) s.2.2.1.length l7 PUnit.unit (λk hk=>?_) ?_) ?_
 rotate_left 2
 ·cases bD s.2.2.1.length (inP l s)
  case some r=>rfl
  simp only[o9,X7];refine fK (xn (p:=a7T l s) s.2.2.2.1.length l7 PUnit.unit (λk hk=>?_) ?_) ?_
  rotate_left 2
  ·cases bD s.2.2.2.1.length (a7T l s)
   case some r=>rfl
   simp only[o9,X7];rw[Np hL.scopes hs,o9];refine fK (xn (p:=OU l s) s.2.2.2.2.length l7 PUnit.unit (λk hk=>?_) ?_) ?_
   rotate_left 2
   ·cases bD s.2.2.2.2.length (OU l s)
    case some r=>rfl
    simp only[o9,X7];refine fK (xn (p:=a0m s) s.2.2.2.1.length l7 PUnit.unit (λk hk=>?_) ?_) ?_
    rotate_left 2
    ·cases bD s.2.2.2.1.length (a0m s)<;>rfl
    ·have e:=gY hk;simp only[X3 e,o7];rw[FK hS l7 (by show(k:Int)<x8 s.2.2.2.1;simp only[x8];omega),o9,a6j _ (by
      have:=MK hS (vJ s (k:Int)).1 (λx hx=>Ar hx);omega),o9,show(200:Int)=((200:Nat):Int)from rfl,a4Q l7 l7]
     unfold a0m;cases (cu s (k:Int)).any λx=>o8 (k:Int) x<;>rfl
    ·rw[W9];rfl
   ·have e:=gY hk;have hr:=(hS.ro _ (S9 hk)).1;simp only[X3 e,o7];rw[YA _ e l7 hr,o9,show(300:Int)=((300:Nat):Int)from rfl,a4Q l7 l7];simp only[OU,e,YE];cases o8 (IE s (FI l s) k s.2.2.2.2[k]) 0<;>rfl
   ·rw[W9];rfl
  ·have e:=gY hk;have hm:=hS.fo.2 _ (S9 hk);simp only[X3 e,o7,J9,e,o9];rw[zo l7,o9,Lu hm l7 az,o9,show(200:Int)=((200:Nat):Int)from rfl,a4Q l7 l7];simp only[a7T,e,YE];cases o8 (PZ l.1 s.2.2.2.1[k] s.2.2.1 (s.2.2.2.1.take k)) 0<;>rfl
  ·rw[W9];rfl
 ·have e:=gY hk;have hm:=hS.fo.1 _ (S9 hk);simp only[X3 e,o7,J9,e,o9];rw[zo l7,o9,Lu hm az A7,o9,show(100:Int)=((100:Nat):Int)from rfl,a4Q l7 l7];simp only[inP,e,YE];cases o8 (PZ l.1 s.2.2.1[k] (s.2.2.1.take k) []) 0<;>rfl
 ·rw[W9];rfl
theorem KC{c e:Int}{r:Int×Int}(h:YE c e=some r):r.1≠0:=by
 unfold YE at h;cases hc:o8 c 0<;>rw[hc]at h
 ·cases h;exact yU.1 hc
 ·cases h
theorem QX{l:Z7}{s:D6}{r:Int×Int}(h:KD l s=some r):r.1≠0:=by
 unfold KD at h;split at h
 ·rename_i q hq;cases h;obtain⟨k,_,hk⟩:=mJ hq;unfold inP at hk;split at hk
  ·exact KC hk
  ·cases hk
 ·obtain⟨k,_,hk⟩:=mJ h;unfold a7T at hk;split at hk
  ·exact KC hk
  ·cases hk
def Nl(l:Z7)(i:Nat):Option (Int×Int×Int×Int):=match l.2.2[i]? with|some s=>a0s 3 i (JO l i s)|none=>none
def Tn(l:Z7):Int×Int×Int×Int:=l9 (D9 4 (x8 l.2.2)) (4,3,4,0) (match bD l.2.2.length (Nl l)with|some r=>r|none=>(0,0,0,0))
def kU(l:Z7):Int×Int×Int×Int:=l9 (o8 (PW l).1 0) (l9 (o8 (KZ l).1 0) (Tn l) (KZ l)) (PW l)
theorem Ua{l:Z7}(hL:SmL l):yG l=some (Tn l):=by
 have hf:=hL.few.2.2;unfold yG Tn;cases D9 4 (x8 l.2.2)
 case true=>rfl
 simp only[o6];refine fK (Ji (p:=Nl l) l.2.2.length l7 _ (0,0,0,0) (λi hi=>?_) ?_) ?_
 rotate_left 2
 ·cases bD l.2.2.length (Nl l)<;>rfl
 ·have e:=gY hi;simp only[X3 e,o7,WA hL e,o9,Nl,e,a0s];cases o8 (JO l i l.2.2[i]).1 0<;>rfl
 ·rw[W9];rfl
theorem a2h{l:Z7}(hL:SmL l):CV l=some (kU l):=by
 unfold CV kU;rw[Wy hL.few hL.en,o9];cases o8 (PW l).1 0
 ·rfl
 simp only[F9,o6,o7];rw[Ub hL.few hL.tb,o9];cases o8 (KZ l).1 0
 ·rfl
 simp only[F9,o6,o7];rw[Ua hL];rfl
structure SmC (c:bP):Prop where
 ni:c.2.1.length<=1000
 nm:c.2.2.length<=1000
 nv:∀v∈c.2.2,v.length<=1000
def b3o(en:List kW)(fs:List lL)(vs:List Y2)(i:Nat):Option (Int×Int):=match vs[i]?,fs[i]? with
 |some v,some f=>l9 (o8 v.1 f.2.1) (l9 (o8 v.2.1 f.2.2) (l9 (inB v.2.2 (bnd f.2 en)) none (some ((i:Int),3))) (some ((i:Int),8))) (some ((i:Int),8))|_,_=>none
def BV(en:List kW)(fs:List lL)(vs:List Y2):Int×Int:=
 l9 (D9 (x8 vs) (x8 fs)) (x8 vs,5) (l9 (D9 (x8 fs) (x8 vs)) (x8 fs,4) (match bD vs.length (b3o en fs vs)with|some r=>r|none=>(0,0)))
theorem Jd(l:Z7){vs:List Y2}{fs:List lL}(hv:vs.length<=1000000):mY l vs fs=some (BV l.1 fs vs):=by
 unfold mY BV;cases h1:D9 (x8 vs) (x8 fs)
 case true=>rfl
 cases h2:D9 (x8 fs) (x8 vs)
 case true=>rfl
 simp only[o6];have hl:vs.length=fs.length:=by rw[iL]at h1 h2;simp only[x8]at h1 h2;omega
 refine fK (xn (p:=b3o l.1 fs vs) vs.length hv PUnit.unit (λk hk=>?_) ?_) ?_
 rotate_left 2
 ·cases bD vs.length (b3o l.1 fs vs)<;>rfl
 ·have e:=gY hk;have e2:=gY (show k<fs.length by omega);simp only[X3 e,o7,J9,e,e2,o9,PN,b3o,inB,qW];cases o8 vs[k].1 fs[k].2.1
  ·rfl
  cases o8 vs[k].2.1 fs[k].2.2
  ·rfl
  cases J6 (bnd fs[k].2 l.1).1 vs[k].2.2
  ·rfl
  cases J6 vs[k].2.2 (bnd fs[k].2 l.1).2<;>rfl
 ·rw[W9];rfl
def nH(l:Z7)(s:D6):List lL×Int:=match H8 l.2.2 s.2.1 with|some q=>(q.2.2.1,8)|none=>([],0)
def YU(en:List kW)(fs:List lL)(ms:List (List Y2))(i:Nat):Option (Int×Int×Int):=match ms[i]? with
 |some vs=>l9 (o8 (BV en fs vs).2 0) none (some ((i:Int),BV en fs vs))|none=>none
def DC(l:Z7)(k:Int)(c:bP):Int×Int×Int:=match H8 l.2.2 k with
 |none=>(-1,-1,6)
 |some s=>l9 (D9 c.1 0) (-1,-1,3) (l9 (D9 109572 c.1) (-1,-1,3) (l9 (o8 (BV l.1 s.2.2.1 c.2.1).2 0)
   (l9 (D9 (nH l s).2 (x8 c.2.2)) ((nH l s).2,-1,4) (match bD c.2.2.length (YU l.1 (nH l s).1 c.2.2)with|some r=>r|none=>(0,0,0))) (-1,BV l.1 s.2.2.1 c.2.1)))
theorem b0H{l:Z7}{k:Int}{A B:Option (PUnit⊕(Int×Int×Int))} :(∃s,H8 l.2.2 k=some s/\l9 (D9 k 0) A (l9 (J6 (x8 l.2.2) k) A B)=B/\s∈l.2.2)\/(H8 l.2.2 k=none/\l9 (D9 k 0) A (l9 (J6 (x8 l.2.2) k) A B)=A):=by
 rw[qW k 0,EJ (x8 l.2.2) k];cases h0:J6 0 k
 ·exact .inr ⟨wJ (.inl h0),rfl⟩
 cases h1:D9 k (x8 l.2.2)
 ·exact .inr ⟨wJ (.inr h1),rfl⟩
 obtain⟨s,hs,hm⟩:=mf (kR.1 h0) (jC.1 h1);exact .inl ⟨s,hs,rfl,hm⟩
theorem b2d(l:Z7)(k:Int){c:bP}(hc:SmC c):vN l k c=some (DC l k c):=by
 unfold vN DC;rcases b0H (l:=l) (k:=k) (A:=some (.inr ((-1:Int),(-1:Int),(6:Int)))) (B:=some (.inl PUnit.unit))with⟨s,hs,hb,_⟩|⟨hs,hb⟩
 ·rw[hb,hs];simp only[o9,X7];cases D9 c.1 0
  case true=>rfl
  cases D9 109572 c.1
  case true=>rfl
  simp only[o6,o9,X7];rw[Jd l (by have:=hc.ni;omega),o9];cases o8 (BV l.1 s.2.2.1 c.2.1).2 0
  ·rfl
  simp only[F9,o6,o7];have hm:qw l k=some (nH l s):=by
   unfold qw nH;rw[hs,o9,qW s.2.1 0,EJ (x8 l.2.2) s.2.1];cases h0:J6 0 s.2.1
   ·rw[wJ (.inl h0)];rfl
   cases h1:D9 s.2.1 (x8 l.2.2)
   ·rw[wJ (.inr h1)];rfl
   obtain⟨q,hq,_⟩:=mf (kR.1 h0) (jC.1 h1);rw[hq];rfl
  rw[hm,o9];cases D9 (nH l s).2 (x8 c.2.2)
  case true=>rfl
  simp only[o6];refine fK (xn (p:=YU l.1 (nH l s).1 c.2.2) c.2.2.length (by have:=hc.nm;omega) PUnit.unit (λj hj=>?_) ?_) ?_
  rotate_left 2
  ·cases bD c.2.2.length (YU l.1 (nH l s).1 c.2.2)<;>rfl
  ·have e:=gY hj;simp only[X3 e,o7,J9,e,o9];rw[Jd l (by have:=hc.nv _ (S9 hj);omega),o9];simp only[YU,e];cases o8 (BV l.1 (nH l s).1 c.2.2[j]).2 0<;>rfl
  ·rw[W9];rfl
 ·rw[hb,hs];rfl
def PQ(r:Int×Int)(t:Int):Bool:=l9 (IM r) (l9 (J6 r.1 t) (D9 t r.2) false) false
theorem Ez(r:Int×Int)(t:Int):lW r t=some (PQ r t):=by
 unfold lW PQ;rw[Kz,o9];cases IM r
 ·rfl
 cases J6 r.1 t<;>rfl
theorem OB(r:Int×Int)(t:Int):Ec r t=some (PQ r t):=Ez r t
section
variable (on:Nat->Bool) (par:Nat->Int)
def oD(i:Nat):Nat:=((List.range i).filter on).length
def DV(i:Nat):Int:=if on i=true then(oD on i:Int)else if h:0<=par i/\par i<(i:Int)then DV (par i).toNat else -1
termination_by i
decreasing_by omega
def anc(i:Nat):Int:=if 0<=par i/\par i<(i:Int)then DV on par (par i).toNat else -1
theorem SV(i:Nat):DV on par i=if on i=true then(oD on i:Int)else anc on par i:=by
 rw[DV];unfold anc;by_cases h:on i=true
 ·rw[if_pos h,if_pos h]
 ·rw[if_neg h,if_neg h];by_cases h2:0<=par i/\par i<(i:Int)
  ·rw[dif_pos h2,if_pos h2]
  ·rw[dif_neg h2,if_neg h2]
def onL(n:Nat):List Nat:=(List.range n).filter on
theorem Jw(i:Nat):onL on (i+1)=onL on i++(bif on i then[i]else[]):=by unfold onL;rw[X6,kK];rw[show List.filter on [i]=bif on i then[i]else[] by rw[dn];cases on i<;>rfl]
theorem Hr(i:Nat):(onL on i).length<=i:=by have:=bT on (List.range i);unfold onL;simpa using this
theorem YY{n p:Nat}(hp:p<n)(h:on p=true):(onL on n)[oD on p]? =some p:=by
 induction n with
 |zero=>omega|succ n ih=>
  rw[Jw];by_cases hq:p=n
  ·subst hq;rw[h,H6 (by unfold oD onL;omega)];unfold oD onL;simp
  ·have:=ih l7;rw[N9 (Z4.1 this).1];exact this
theorem a3j{n i:Nat}(h:i∈onL on n):i<n/\on i=true:=by unfold onL at h;obtain⟨h1,h2⟩:=N8.1 h;exact⟨U3.1 h1,h2⟩
end
def castL(l:List Nat):List Int:=l.map λ(i:Nat)=>(i:Int)
theorem Xj{l:List Nat}{i a:Nat}(h:l[i]? =some a):(castL l)[i]? =some (a:Int):=by unfold castL;rw[Y8,h];rfl
theorem a6X{rs:List aK}{on:Nat->Bool}{f:List Int×List Int×List Int×Int->Option ((List Int×List Int×List Int×Int)⊕(List Int×List Int))}(hl:rs.length<=1000)
  (hin:∀(i:Nat) (r:aK) (A B C:List Int),rs[i]? =some r->f (A,B,C,(i:Int))=o5 (l9 (J6 0 r.2.2.1) (l9 (D9 r.2.2.1 (i:Int)) (o5 (H8 C r.2.2.1) λ(x_2:Int)=>o5 (Y3 C (Y0 r.2.2.1)) λ(x:Int)=>some x) (some (-1))) (some (-1))) λ(x_2:Int)=>
   o5 (H8 C (i:Int)) λ(x_3:Int)=>o5 (Y3 C (Y0 (i:Int))) λ(x_4:Int)=>l9 (on i) (o5 (H8 (bu C (Y0 (i:Int)) x_2) (i:Int)) λ(x_6:Int)=>o5 (Y3 (bu C (Y0 (i:Int)) x_2) (Y0 (i:Int))) λ(x_7:Int)=>o5 (mM A [(i:Int)]) λ(x_8:List Int)=>o5 (mM B [x_2]) λ(x_9:List Int)=>
     some (.inl (x_8,x_9,bu (bu C (Y0 (i:Int)) x_2) (Y0 (i:Int)) (x8 A),D7 .i64 (i:Int) 1))) (some (.inl (A,B,bu C (Y0 (i:Int)) x_2,D7 .i64 (i:Int) 1))))
  (hend:∀(A B C:List Int),f (A,B,C,(rs.length:Int))=some (.inr (A,B))):
  dC f ([],[],List.replicate rs.length 0,0)=some (castL (onL on rs.length),(onL on rs.length).map (anc on λi=>match rs[i]? with|some r=>r.2.2.1|none=>-1)):=by
 obtain⟨par,hpar⟩:∃par:Nat->Int,par=λi=>match rs[i]? with|some r=>r.2.2.1|none=>-1:=⟨_,rfl⟩
 rw[←hpar];obtain⟨e,h1,h2⟩:=gW (f:=f) (s:=([],[],List.replicate rs.length 0,0)) (λx=>∃i:Nat,x=(castL (onL on i),(onL on i).map (anc on par),pd ((List.range i).map (DV on par)) (rs.length -i),(i:Int))/\i<=rs.length)
  (λe=>e=(castL (onL on rs.length),(onL on rs.length).map (anc on par))) (λx=>rs.length -x.2.2.2.toNat) ⟨0,by simp[onL,castL,pd],l7⟩ az (by
  rintro x ⟨i,rfl,hi⟩;by_cases h:i<rs.length
  ·left;have e:=gY h;have hp:par i=rs[i].2.2.1:=by rw[hpar];simp only[e]
   obtain⟨p,hpp⟩:∃p:Int,p=par i:=⟨_,rfl⟩;have hp' :rs[i].2.2.1=p:=by rw[hpp,hp]
   have hlen:((List.range i).map (DV on par)).length=i:=A7;have hol:=Hr on i;obtain⟨m,hm⟩:∃m,rs.length -i=m+1:=⟨rs.length -i -1,l7⟩;have hanc:o5 (l9 (J6 0 p) (l9 (D9 p (i:Int)) (o5 (H8 (pd ((List.range i).map (DV on par)) (m+1)) p) λ(x_2:Int)=>o5 (Y3 (pd ((List.range i).map (DV on par)) (m+1)) (Y0 p)) λ(x:Int)=>some x) (some (-1))) (some (-1))) (λx=>some x)=some (anc on par i):=by
    unfold anc;rw[←hpp];by_cases h0:0<=p
    ·rw[X5 h0];by_cases h1:p<(i:Int)
     ·have hk:p.toNat<i:=l7;have hg:(pd ((List.range i).map (DV on par)) (m+1))[p.toNat]? =some (DV on par p.toNat):=by
       unfold pd;rw[N9 az,CW _ _ hk]
      rw[U5 h1,if_pos ⟨h0,h1⟩];simp only[o7];rw[show H8 (pd ((List.range i).map (DV on par)) (m+1)) p=some (DV on par p.toNat) by unfold H8;rw[if_pos h0];exact hg,o9,show Y3 (pd ((List.range i).map (DV on par)) (m+1)) (Y0 p)=some (DV on par p.toNat)from hg];rfl
     ·rw[L6 l7,if_neg l7];rfl
    ·rw[Y1 l7,if_neg l7];rfl
   rw[jm]at hanc;refine⟨(castL (onL on (i+1)),(onL on (i+1)).map (anc on par),pd ((List.range (i+1)).map (DV on par)) (rs.length -(i+1)),((i+1:Nat):Int)),?_,⟨i+1,rfl,h⟩,by simp;omega⟩;rw[hin i _ _ _ _ e,hm,hp',hanc,o9,fP l7,show rs.length -(i+1)=m by omega,Jw,X6,bV];have q1:=Zf ((List.range i).map (DV on par)) m;have q2:=Zg ((List.range i).map (DV on par)) m;have q3:=a3p ((List.range i).map (DV on par)) m (anc on par i);have q4:=KN ((List.range i).map (DV on par)) m (anc on par i);have q5:=Jy ((List.range i).map (DV on par)) m (anc on par i);have q6:=Oz ((List.range i).map (DV on par)) m (anc on par i) (x8 (castL (onL on i)));rw[hlen]at q1 q2 q3 q4 q5 q6;rw[q1,o9,q2,o9,q3];have hna:(List.map (DV on par) (List.range i++[i]))=(List.range i).map (DV on par)++[if on i=true then(oD on i:Int)else anc on par i]:=by rw[bV,List.map_singleton,SV]
   rw[hna];cases hon:on i
   ·simp[castL]
   ·simp only[o7,cond_true];rw[q4,o9,q5,o9,uY _ (by simp[castL];omega),o9,uY _ az,o9,q6];simp[castL,x8,oD,onL]
  ·right;have:i=rs.length:=l7;subst this;exact⟨_,hend _ _ _,rfl⟩)
 rw[h1,h2]
def onR(s:D6)(d t:Int)(i:Nat):Bool:=match s.2.2.2.2[i]? with|some r=>l9 (o8 r.2.1 d) (PQ r.2.2.2.2.1 t) false|none=>false
def Ce(s:D6)(i:Nat):Int:=match s.2.2.2.2[i]? with|some r=>r.2.2.1|none=>-1
def ah(s:D6)(d t:Int):List Nat:=onL (onR s d t) s.2.2.2.2.length
def Gm(s:D6)(i:Nat):Int:=match s.2.2.2.2[i]? with|some r=>r.2.2.2.1|none=>0
def bg(s:D6)(d t:Int):List Int×List Int×List Int:=(castL (ah s d t),(ah s d t).map (anc (onR s d t) (Ce s)),(ah s d t).map (Gm s))
theorem b4R{s:D6}{i:Nat}{r:aK}(h:s.2.2.2.2[i]? =some r)(d t:Int):uG r d t=some (onR s d t i):=by unfold uG onR;rw[h,Ez];simp only;cases o8 r.2.1 d<;>rfl
theorem Zr{s:D6}(h:s.2.2.2.2.length<=1000)(d t:Int):tq s.2.2.2.2 (d,t)=some (castL (ah s d t),(ah s d t).map (anc (onR s d t) (Ce s))):=by
 unfold tq;rw[show sU (x8 s.2.2.2.2) (0:Int)=some (List.replicate s.2.2.2.2.length 0) by unfold sU;rw[if_pos (by simp[x8];omega)];simp[x8],o9,jm];refine a6X h (λi r A B C hr=>?_) (λA B C=>?_)
 ·simp only[X3 hr,o7,J9,hr,o9];rw[b4R hr];rfl
 ·simp only[W9];rfl
theorem pJ{s:D6}{d t:Int}{i:Nat}(h:i∈ah s d t):i<s.2.2.2.2.length/\onR s d t i=true:=a3j _ h
theorem a7h{s:D6}(h:s.2.2.2.2.length<=1000)(d t:Int):xh s d t=some (bg s d t):=by
 have hl:=Hr (onR s d t) s.2.2.2.2.length;unfold xh;rw[Zr h,o9];refine fK (a8m (castL (ah s d t)) (λ(k:Int)=>Gm s k.toNat) (F:=id) (by unfold castL ah;simp;omega) (λi a acc ha hacc=>?_) (λacc=>?_)) ?_
 rotate_left 2
 ·rw[o9];unfold bg castL;rw[qZ];rfl
 ·simp only[X3 ha,o7,J9 (castL (ah s d t)),ha,o9];rw[show Y3 (castL (ah s d t)) (Y0 (i:Int))=some a from ha,o9];obtain⟨k,hk,rfl⟩:∃k,k∈ah s d t/\(k:Int)=a:=by
   have:=su ha;unfold castL at this;exact U8.1 this
  have hlt:=pJ hk;have e:=gY hlt.1;have hil:=(Z4.1 ha).1;simp only[castL,J7]at hil;rw[J9,e,o9,uY _ (by unfold ah at hil;omega),o9];simp only[Gm,O9,e]
 ·simp only[W9];rfl
theorem XR{l:List Nat}(hl:l.Pairwise (·< ·)){i j a:Nat}(hi:l[i]? =some a)(hj:l[j]? =some a):i=j:=by
 obtain⟨h1,h2⟩:=Z4.1 hi;obtain⟨h3,h4⟩:=Z4.1 hj;rcases Nat.lt_trichotomy i j with h|h|h
 ·have:=gz.1 hl i j h1 h3 h;omega
 ·exact h
 ·have:=gz.1 hl j i h3 h1 h;omega
theorem YZ(on:Nat->Bool)(n:Nat):(onL on n).Pairwise (·< ·):=List.Pairwise.filter _ oP
end
section
def Pm(par prio:List Int)(i:Nat):Option Int:=match par[i]?,prio[i]? with
 |some p,some q=>l9 (D9 p (-1)) (some 9) (l9 (J6 (i:Int) p) (some 9) (l9 (D9 q 0) (some 3) (l9 (D9 9 q) (some 3) none)))|_,_=>none
def CJ(par prio:List Int):Int:=l9 (E9 (o8 (x8 par) (x8 prio))) 2 (l9 (D9 8 (x8 par)) 4 (match bD par.length (Pm par prio)with|some r=>r|none=>0))
theorem b1K(par prio:List Int):vX par prio=some (CJ par prio):=by
 unfold vX CJ;cases h1:o8 (x8 par) (x8 prio)
 ·rfl
 simp only[F9,o6];cases h2:D9 8 (x8 par)
 case true=>rfl
 simp only[o6];have hl:par.length=prio.length:=by rw[O5]at h1;simp only[x8]at h1;omega
 refine fK (xn (p:=Pm par prio) par.length (by rw[iL]at h2;simp only[x8]at h2;omega) PUnit.unit (λk hk=>?_) ?_) ?_
 rotate_left 2
 ·cases bD par.length (Pm par prio)<;>rfl
 ·have e:=gY hk;have e2:=gY (show k<prio.length by omega);simp only[X3 e,o7,J9,e,e2,o9,Pm];cases D9 par[k] (-1)
  case true=>rfl
  cases J6 (k:Int) par[k]
  case true=>rfl
  cases D9 prio[k] 0
  case true=>rfl
  cases D9 9 prio[k]<;>rfl
 ·rw[W9];rfl
theorem xm{ρ:Type}{n:Nat}{p:Nat->Option ρ}(h:bD n p=none):∀i,i<n->p i=none:=by unfold bD at h;intro i hi;exact iJ.1 h i (U3.2 hi)
theorem Gv{par prio:List Int}(h:CJ par prio=0):par.length=prio.length/\par.length<=8/\∀(i:Nat) (p:Int),par[i]? =some p->-1<=p/\p<(i:Int):=by
 unfold CJ at h;cases h1:o8 (x8 par) (x8 prio)<;>rw[h1]at h
 ·cases h
 simp only[F9,o6]at h;cases h2:D9 8 (x8 par)<;>rw[h2]at h
 case true=>cases h
 simp only[o6]at h;have hl:par.length=prio.length:=by rw[O5]at h1;simp only[x8]at h1;omega
 refine⟨hl,by rw[iL]at h2;simp only[x8]at h2;omega,λi p hp=>?_⟩;have hi:=(Z4.1 hp).1;cases hf:bD par.length (Pm par prio)with
 |some r=>
  rw[hf]at h;simp only at h;obtain⟨k,hk,hr⟩:=mJ hf;unfold Pm at hr;split at hr
  ·subst h;rename_i a b _ _;cases c1:D9 a (-1)<;>rw[c1]at hr<;>try (cases hr;done)
   cases c2:J6 (k:Int) a<;>rw[c2]at hr<;>try (cases hr;done)
   cases c3:D9 b 0<;>rw[c3]at hr<;>try (cases hr;done)
   cases c4:D9 9 b<;>rw[c4]at hr<;>cases hr
  ·cases hr
 |none=>
  have:=xm hf i hi;unfold Pm at this;rw[hp,gY (show i<prio.length by omega)]at this;simp only at this;cases c1:D9 p (-1)<;>rw[c1]at this
  case true=>cases this
  cases c2:J6 (i:Int) p<;>rw[c2]at this
  case true=>cases this
  rw[iL]at c1;rw[Fz]at c2;exact⟨c1,c2⟩
def YM(par:List Int)(at' :Int)(i:Nat):Bool:=match par[i]? with|some p=>o8 p at'|none=>false
def kids(par:List Int)(at' :Int):List Nat:=onL (YM par at') par.length
theorem a0f{par:List Int}(h:par.length<=1000)(at' :Int):vW par at' =some (castL (kids par at')):=by
 unfold vW;rw[jm];obtain⟨e,h1,h2⟩:=gW (f:=λ(x:List Int×Int)=>l9 (D9 x.2 (x8 par)) (o5 (H8 par x.2) λ(x_1:Int)=>l9 (o8 x_1 at') (o5 (mM x.1 [x.2]) λ(x_2:List Int)=>some (.inl (x_2,D7 .i64 x.2 1))) (some (.inl (x.1,D7 .i64 x.2 1)))) (some (.inr x.1)))
  (s:=([],0)) (λx=>∃i:Nat,x=(castL (onL (YM par at') i),(i:Int))/\i<=par.length) (λe=>e=castL (kids par at')) (λx=>par.length -x.2.toNat) ⟨0,rfl,l7⟩ az (by
  rintro x ⟨i,rfl,hi⟩;by_cases hlt:i<par.length
  ·left;have e:=gY hlt;have hol:=Hr (YM par at') i;refine⟨(castL (onL (YM par at') (i+1)),((i+1:Nat):Int)),?_,⟨i+1,rfl,hlt⟩,by simp;omega⟩;simp only[X3 e,o7,J9,e,o9];rw[fP l7,uY _ (by simp[castL];omega),Jw];have hon:YM par at' i=o8 par[i] at' :=by unfold YM;rw[e]
   rw[hon];cases o8 par[i] at'<;>simp[castL]
  ·right;have:i=par.length:=l7;subst this;exact⟨_,by rw[W9];rfl,rfl⟩)
 rw[h1,h2]
theorem SQ{par:List Int}{at' :Int}{i:Nat}(h:i∈kids par at'):i<par.length/\par[i]? =some at' :=by obtain⟨h1,h2⟩:=a3j _ h;refine⟨h1,?_⟩;unfold YM at h2;rw[gY h1]at h2 ⊢;simp only[O5]at h2;rw[h2]
def bG(oc pr:Int->Int)(acc:List Int)(a:Int):List Int:=l9 (o8 (oc a) (-1)) acc (match acc with
 |[]=>[a]
 |b::r=>l9 (D9 (pr b) (pr a)) [a] (l9 (o8 (pr a) (pr b)) (b::r++[a]) (b::r)))
theorem a7H(oc pr:Int->Int){acc:List Int}{a x:Int}(h:x∈bG oc pr acc a):x∈acc\/x=a:=by
 unfold bG at h;cases h1:o8 (oc a) (-1)<;>rw[h1]at h
 case true=>exact .inl h
 simp only[o6]at h;cases acc with
 |nil=>exact .inr (by simpa using h)|cons b r=>
  simp only at h;cases h2:D9 (pr b) (pr a)<;>rw[h2]at h
  ·simp only[o6]at h;cases h3:o8 (pr a) (pr b)<;>rw[h3]at h
   ·exact .inl h
   ·simp only[o7]at h;rcases A8.1 h with h|h
    ·exact .inl h
    ·exact .inr (by simpa using h)
  ·exact .inr (by simpa using h)
theorem b4B(oc pr:Int->Int)(acc:List Int)(a:Int):(bG oc pr acc a).length<=acc.length+1:=by
 unfold bG;cases o8 (oc a) (-1)
 case true=>simp
 simp only[o6];cases acc with
 |nil=>simp|cons b r=>
  simp only;cases D9 (pr b) (pr a)
  ·cases o8 (pr a) (pr b)<;>simp
  ·simp
def xF(oc pr:Int->Int)(l:List Int):List Int:=l.foldl (bG oc pr) []
theorem a0d(oc pr:Int->Int):∀(l acc:List Int) (x:Int),x∈l.foldl (bG oc pr) acc->x∈acc\/x∈l
 |[],acc,x,h=> .inl h|a::l,acc,x,h=>by
  rcases a0d oc pr l _ x h with h|h
  ·rcases a7H oc pr h with h|h
   ·exact .inl h
   ·exact .inr (by simp[h])
  ·exact .inr (by simp[h])
theorem Kt{oc pr:Int->Int}{l:List Int}{x:Int}(h:x∈xF oc pr l):x∈l:=by
 rcases a0d oc pr l [] x h with h|h
 ·cases h
 ·exact h
theorem TP{oc oc' pr:Int->Int} :∀(l acc:List Int),(∀x∈l,oc x=oc' x)->l.foldl (bG oc pr) acc=l.foldl (bG oc' pr) acc
 |[],acc,_=>rfl|a::l,acc,h=>by rw[aH,aH,TP l _ λx hx=>h x (by simp[hx])];congr 1;unfold bG;rw[h a A7]
def chF(oc pr:Int->Int)(l:List Int):Int:=match xF oc pr l with|[]=>-1|[b]=>oc b|_=>-2
theorem Xl{oc oc' pr:Int->Int}{l:List Int}(h:∀x∈l,oc x=oc' x):chF oc pr l=chF oc' pr l:=by
 have e:xF oc pr l=xF oc' pr l:=TP l [] h;unfold chF;rw[e];cases hb:xF oc' pr l with
 |nil=>rfl|cons b r=>
  cases r with
  |nil=>exact h b (Kt (oc:=oc') (pr:=pr) (by rw[hb];simp))|cons c r=>rfl
section
variable (par prio:List Int) (ap:List Bool)
def prF(i:Int):Int:=prio.getD i.toNat 0
def apF(i:Int):Bool:=ap.getD i.toNat false
def ocF:Nat->Int->Int
 |0,_=>-1|k+1,i=>l9 (o8 (chF (ocF k) (prF prio) (castL (kids par i))) (-1)) (l9 (apF ap i) i (-1)) (chF (ocF k) (prF prio) (castL (kids par i)))
variable (hv:CJ par prio=0)
include hv
theorem Qh{i x:Int}(h:x∈castL (kids par i)):i<x/\x<(par.length:Int)/\0<=x:=by unfold castL at h;obtain⟨k,hk,rfl⟩:=U8.1 h;obtain⟨h1,h2⟩:=SQ hk;have:=(Gv hv).2.2 k i h2;omega
theorem XU:∀(k k' :Nat) (i:Int),(par.length:Int) -i<=k->(par.length:Int) -i<=k' ->i<par.length->ocF par prio ap k i=ocF par prio ap k' i
 |0,_,i,h,_,h2=>by omega|_+1,0,i,_,h,h2=>by omega|k+1,k' +1,i,h,h',h2=>by
  unfold ocF;have:chF (ocF par prio ap k) (prF prio) (castL (kids par i))=chF (ocF par prio ap k') (prF prio) (castL (kids par i)):=
   Xl λx hx=>by have:=Qh par prio hv hx;exact XU k k' x l7 l7 l7
  rw[this]
end
end
section
theorem Tc{prio:List Int}{i:Int}(h0:0<=i)(h:i<x8 prio):H8 prio i=some (prF prio i):=by obtain⟨x,hx,_⟩:=mf h0 h;rw[hx];have:=(dW hx).2.2.2;unfold prF;rw[rZ,this];rfl
theorem a5S{f:List Int×Int->Option ((List Int×Int)⊕List Int)}(oc:Int->Int)(prio:List Int)(l:List Int)(hl:l.length<=1000)(hr:∀x∈l,0<=x/\x<x8 prio)
  (hin:∀(i:Nat) (a:Int) (acc:List Int),l[i]? =some a->acc.length<=1000->(∀x∈acc,0<=x/\x<x8 prio)->0<=a->a<x8 prio->f (acc,(i:Int))=some (.inl (bG oc (prF prio) acc a,D7 .i64 (i:Int) 1)))
  (hend:∀acc,f (acc,(l.length:Int))=some (.inr acc)):dC f ([],0)=some (xF oc (prF prio) l):=by
 refine(sF l (bG oc (prF prio)) (λb i=>(b,i)) (λb=>b) (λi acc=>acc.length<=i/\∀x∈acc,0<=x/\x<x8 prio) (b:=[]) l7 ⟨A7,A7⟩ (λi a acc ha hi hI=>?_) (λacc hI=>hend acc)).1;have hlt:=(Z4.1 ha).1;have ham:=hr a (su ha);rw[hin i a acc ha l7 hI.2 ham.1 ham.2,fP l7];refine⟨rfl,by have:=b4B oc (prF prio) acc a;omega,λx hx=>?_⟩;rcases a7H _ _ hx with h|h
 ·exact hI.2 x h
 ·rw[h];exact ham
section
variable (par prio:List Int) (ap:List Bool) (hv:CJ par prio=0) (hap:ap.length=par.length)
def OC(i:Int):Int:=ocF par prio ap (par.length+1) i
def chS(at' :Int):Int:=chF (OC par prio ap) (prF prio) (castL (kids par at'))
include hv in
theorem a7t{i:Int}(h0:-1<=i)(h:i<par.length):OC par prio ap i=l9 (o8 (chS par prio ap i) (-1)) (l9 (apF ap i) i (-1)) (chS par prio ap i):=by
 unfold OC chS;rw[ocF];have:chF (ocF par prio ap par.length) (prF prio) (castL (kids par i))=chF (OC par prio ap) (prF prio) (castL (kids par i)):=
  Xl λx hx=>by have:=Qh par prio hv hx;exact XU par prio ap hv _ _ x l7 l7 l7
 rw[this]
include hv in
theorem a8v(i:Int):(castL (kids par i)).length<=8:=by have h1:=Hr (YM par i) par.length;have h2:=(Gv hv).2.1;unfold castL kids;rw[J7];omega
include hv in
theorem a6q{i x:Int}(h:x∈castL (kids par i)):0<=x/\x<x8 prio:=by have:=Qh par prio hv h;have h2:=(Gv hv).1;simp only[x8];omega
include hv in
theorem b1G(arr:List Int)(i:Int)(hA:∀x∈castL (kids par i),H8 arr x=some (OC par prio ap x)):uN (par,prio,arr) i=some (xF (OC par prio ap) (prF prio) (castL (kids par i))):=by
 unfold uN;rw[a0f (by have:=(Gv hv).2.1;simp only;omega),o9,jm];refine a5S (OC par prio ap) prio _ (by have:=a8v par prio hv i;omega) (λx hx=>a6q par prio hv hx) (λk a acc ha hl hacc h0 h1=>?_) (λacc=>?_)
 ·simp only[X3 ha,o7,J9 (castL (kids par i)),ha,o9];rw[show Y3 (castL (kids par i)) (Y0 (k:Int))=some a from ha,o9,hA a (su ha),o9];unfold bG;cases o8 (OC par prio ap a) (-1)
  case true=>rfl
  simp only[o6,Tc h0 h1,o9];cases acc with
  |nil=>simp only[L6 (show x8 ([]:List Int)<=0 by simp[x8]),o6,o9,O8 (show x8 ([]:List Int)=0 from rfl),o7,uY a (show([]:List Int).length<=1000000 by simp)];rfl|cons b r=>
   have hb:=hacc b A7;simp only[U5 (show(0:Int)<x8 (b::r) by simp[x8]<;>omega),o7,show H8 (b::r) 0=some b from rfl,show Y3 (b::r) (Y0 0)=some b from rfl,o9,Tc hb.1 hb.2];cases D9 (prF prio b) (prF prio a)
   ·simp only[o6,o9,L9 (show x8 (b::r)≠0 by simp[x8]<;>omega),show H8 (b::r) 0=some b from rfl,show Y3 (b::r) (Y0 0)=some b from rfl,Tc hb.1 hb.2];cases o8 (prF prio a) (prF prio b)
    ·rfl
    ·rw[o7,o7,uY _ l7];rfl
   ·simp only[o7,show sS 0 0 (x8 (b::r))=true by simp[sS,x8]<;>omega,show pF (b::r) (Y0 0) (Y0 0)=[]from rfl,o9,O8 (show x8 ([]:List Int)=0 from rfl),uY a (show([]:List Int).length<=1000000 by simp)];rfl
 ·simp only[W9];rfl
include hv in
theorem a5l(arr:List Int)(i:Int)(hA:∀x∈castL (kids par i),H8 arr x=some (OC par prio ap x)):ig (par,prio,arr) i=some (chS par prio ap i):=by
 unfold ig chS chF;rw[b1G par prio ap hv arr i hA,o9];have hsub:∀x∈xF (OC par prio ap) (prF prio) (castL (kids par i)),H8 arr x=some (OC par prio ap x):=λx hx=>hA x (Kt hx);generalize xF (OC par prio ap) (prF prio) (castL (kids par i))=b at*;match b,hsub with
 |[],_=>rfl|[x],hsub=>simp only[L9 (show x8 [x]≠0 by simp[x8]),O8 (show x8 [x]=1 from rfl),o6,o7,show H8 [x] 0=some x from rfl,show Y3 [x] (Y0 0)=some x from rfl,o9,hsub x A7]|x::y::r,_=>rw[L9 (by simp[x8];omega),L9 (by simp[x8];omega)];rfl
include hv hap in
theorem a1q:∃arr,vY par prio ap=some arr/\∀x,0<=x->x<(par.length:Int)->H8 arr x=some (OC par prio ap x):=by
 have h8:=(Gv hv).2.1;unfold vY;rw[show sU (x8 par) (0:Int)=some (List.replicate par.length 0) by unfold sU;rw[if_pos (by simp[x8];omega)];simp[x8],o9];have key:=gW (f:=λ(x:mX×Int)=>l9 (J6 0 x.2) (o5 (ig x.1 x.2) λ(x_1:Int)=>o5 (H8 x.1.2.2 x.2) λ(x_2:Int)=>o5 (Y3 x.1.2.2 (Y0 x.2)) λ(x_3:Int)=>
   o5 (H8 (bu x.1.2.2 (Y0 x.2) x_1) x.2) λ(x_4:Int)=>o5 (Y3 (bu x.1.2.2 (Y0 x.2) x_1) (Y0 x.2)) λ(x_5:Int)=>l9 (o8 x_5 (-1)) (o5 (H8 ap x.2) λ(x_6:Bool)=>l9 x_6 (o5 (H8 (bu x.1.2.2 (Y0 x.2) x_1) x.2) λ(x_7:Int)=>
    o5 (Y3 (bu x.1.2.2 (Y0 x.2) x_1) (Y0 x.2)) λ(x_8:Int)=>some (.inl ((x.1.1,x.1.2.1,bu (bu x.1.2.2 (Y0 x.2) x_1) (Y0 x.2) x.2),H9 .i64 x.2 1))) (some (.inl ((x.1.1,x.1.2.1,bu x.1.2.2 (Y0 x.2) x_1),H9 .i64 x.2 1))))
     (some (.inl ((x.1.1,x.1.2.1,bu x.1.2.2 (Y0 x.2) x_1),H9 .i64 x.2 1)))) (some (.inr x.1)))
  (s:=((par,prio,List.replicate par.length 0),H9 .i64 (x8 par) 1)) (λx=>∃(arr:List Int) (i:Int),x=((par,prio,arr),i)/\-1<=i/\i<par.length/\arr.length=par.length/\∀x,i<x->x<(par.length:Int)->H8 arr x=some (OC par prio ap x))
  (λy=>∃arr:List Int,y=(par,prio,arr)/\∀x,0<=x->x<(par.length:Int)->H8 arr x=some (OC par prio ap x)) (λx=>(x.2+1).toNat) ?_ ?_ ?_
 ·obtain⟨y,k1,arr,rfl,k3⟩:=key;refine⟨arr,(rC k1 _).trans rfl,k3⟩
 ·exact⟨_,_,rfl,by rw[U2 (by unfold jc x8;omega)];simp[x8];omega,by rw[U2 (by unfold jc x8;omega)];simp only[x8];omega,A7,λx h1 h2=>by rw[U2 (by unfold jc x8;omega)]at h1;simp only[x8]at h1;omega⟩
 ·rw[U2 (by unfold jc x8;omega)];simp[x8];omega
 ·rintro x ⟨arr,i,rfl,h1,h2,hlen,hA⟩;by_cases h0:0<=i
  ·left;obtain⟨k,rfl⟩:∃k:Nat,i=(k:Int):=⟨i.toNat,l7⟩;have hk:k<arr.length:=l7;have hka:k<ap.length:=l7;have e:=gY hk;have ea:=gY hka;have hch:=a5l par prio ap hv arr (k:Int) (λx hx=>by
    have:=Qh par prio hv hx;exact hA x this.1 this.2.1)
   have hs:∀v:Int,H8 (bu arr (Y0 (k:Int)) v) (k:Int)=some v:=λv=>by rw[J9];show(arr.set k v)[k]? =some v;rw[oO hk]
   have hs2:∀v:Int,Y3 (bu arr (Y0 (k:Int)) v) (Y0 (k:Int))=some v:=λv=>by have:=hs v;rw[J9]at this;exact this
   have hsub:H9 .i64 (k:Int) 1=(k:Int) -1:=U2 O6;have hoc:=a7t par prio ap hv (i:=(k:Int)) l7 l7;have hapk:apF ap (k:Int)=ap[k]:=by unfold apF;rw[O9,rZ,ea];rfl
   rw[hapk]at hoc;refine⟨((par,prio,arr.set k (OC par prio ap (k:Int))),(k:Int) -1),?_,⟨_,_,rfl,l7,l7,by simp[hlen],λx hx1 hx2=>?_⟩,by simp<;>omega⟩
   ·simp only[X5 h0,o7,hch,o9,J9 arr,e,show Y3 arr (Y0 (k:Int))=some arr[k]from e,hs,hs2,J9 ap,ea,hsub];rw[hoc];cases hq:o8 (chS par prio ap (k:Int)) (-1)
    ·simp only[o6];rfl
    ·simp only[o7];cases ap[k]
     ·rw[O5.1 hq];rfl
     ·simp only[o7];show some (Sum.inl ((par,prio,(arr.set k _).set k _),_))=_;rw[List.set_set]
   ·unfold H8
    rw[if_pos l7];by_cases hxk:x=(k:Int)
    ·rw[hxk,O9,oO hk]
    ·have:=hA x l7 hx2;unfold H8 at this;rw[if_pos l7]at this;rw[V7,if_neg l7];exact this
  ·right;exact⟨(par,prio,arr),by rw[Y1 l7];rfl,arr,rfl,λx hx1 hx2=>hA x l7 hx2⟩
end
def Eh(par prio:List Int)(ap:List Bool):Int:=l9 (o8 (CJ par prio) 0) (l9 (o8 (x8 ap) (x8 par)) (chS par prio ap (-1)) (-1)) (-1)
theorem a7c(par prio:List Int)(ap:List Bool):yM par prio ap=some (Eh par prio ap):=by
 unfold yM Eh;rw[b1K,o9];cases hv:o8 (CJ par prio) 0
 ·rfl
 simp only[F9,o6,o7];cases hl:o8 (x8 ap) (x8 par)
 ·rfl
 simp only[F9,o6,o7];have hv' :=O5.1 hv;have hl' :ap.length=par.length:=by rw[O5]at hl;simp only[x8]at hl;omega
 obtain⟨arr,h1,h2⟩:=a1q par prio ap hv' hl';rw[h1,o9,jm];exact a5l par prio ap hv' arr (-1) λx hx=>by have:=Qh par prio hv' hx;exact h2 x this.2.2 this.2.1
section
variable (par prio:List Int) (ap:List Bool) (hv:CJ par prio=0) (hap:ap.length=par.length)
include hv hap in
end
end
section
theorem a6l{l:List Int}{i:Nat}(h:i<l.length):H8 l (i:Int)=some (hg l i):=by rw[J9];exact xq h
theorem a0G{l:List Int}{i j:Nat}(hi:i<l.length)(hj:j<l.length):cO l (i:Int) (j:Int)=some (D9 (hg l i) (hg l j)):=by unfold cO;rw[a6l hi,o9,a6l hj,o9]
theorem a0H{l:List Int}{i j:Nat}(hi:i<l.length)(hj:j<l.length):dK l (i:Int) (j:Int)=some (swp l i j):=by
 unfold dK;have e1:Y3 l (Y0 (i:Int))=some (hg l i):=xq hi;have e2:Y3 l (Y0 (j:Int))=some (hg l j):=xq hj;have hj2:j<(bu l (Y0 (i:Int)) (hg l j)).length:=by show j<(l.set i (hg l j)).length;simp[hj]
 have e3:Y3 (bu l (Y0 (i:Int)) (hg l j)) (Y0 (j:Int))=some (hg (bu l (Y0 (i:Int)) (hg l j)) j):=xq hj2;rw[a6l hj,o9,e2,o9,a6l hi,o9,e1,o9,o9,o9,a6l hj2,o9,e3,o9];rfl
theorem Vu{l m:List Int}(h:l.Perm m):l.length=m.length:=h.length_eq
theorem c1y{l:List Int}{j:Nat}(hl:l.length<=100000)(hj:j<l.length)(h:PE l j):∃l',vO l (j:Int)=some l' /\IW l' l'.length/\l'.Perm l:=by
 unfold vO;have key:=gW (f:=λ(x:List Int×Int)=>l9 (o8 (bQ .i64 (H9 .i64 x.2 1) 2) x.2) (some (.inr x.1)) (o5 (cO x.1 x.2 (bQ .i64 (H9 .i64 x.2 1) 2)) λ(x_1:Bool)=>l9 (E9 x_1) (some (.inr x.1))
   (o5 (dK x.1 (bQ .i64 (H9 .i64 x.2 1) 2) x.2) λ(x_2:List Int)=>some (.inl (x_2,bQ .i64 (H9 .i64 x.2 1) 2)))))
  (s:=(l,(j:Int))) (λx=>∃(m:List Int) (k:Nat),x=(m,(k:Int))/\k<m.length/\PE m k/\m.Perm l) (λm=>IW m m.length/\m.Perm l) (λx=>x.2.toNat) ⟨l,j,rfl,hj,h,List.Perm.refl _⟩ az (by
  rintro x ⟨m,k,rfl,hk,hu,hp⟩;have hm:=Vu hp;by_cases h0:k=0
  ·subst h0;exact .inr ⟨m,rfl,UA hu (.inl rfl),hp⟩
  have hpar:bQ .i64 (H9 .i64 (k:Int) 1) 2=(((k -1) / 2:Nat):Int):=by rw[U2 O6,xW (by rw[iW l7];unfold jc;omega),iW l7];omega
  simp only[hpar];rw[L9 l7,o6,a0G hk l7,o9];cases hc:D9 (hg m k) (hg m ((k -1) / 2))
  ·exact .inr ⟨m,rfl,UA hu (.inr (by rw[iL]at hc;exact hc)),hp⟩
  ·rw[F9,o6,a0H l7 hk];exact .inl ⟨(swp m ((k -1) / 2) k,(((k -1) / 2:Nat):Int)),rfl,⟨_,_,rfl,by rw[Ik];omega,a0F hu l7 hk (jC.1 hc),(JQ l7 hk).trans hp⟩,by simp;omega⟩)
 obtain⟨m,k1,k2,k3⟩:=key;exact⟨m,(rC k1 _).trans rfl,k2,k3⟩
theorem XB{l:List Int}(hl:l.length<=1000)(h:IW l l.length)(x:Int):∃l',fV l x=some l' /\IW l' l'.length/\l'.Perm (l++[x]):=by
 unfold fV zG kD;rw[uY _ l7,o9,o9,o9];have hlen:(l++[x]).length=l.length+1:=A7;have hu:PE (l++[x]) l.length:=by
  refine⟨λk k0 k1 k2=>?_,λh0 k k0 k1 k2=>by omega⟩;have hk:k<l.length:=l7;have hga:∀i,i<l.length->hg (l++[x]) i=hg l i:=λi hi=>by unfold hg;rw[rZ,rZ,N9 hi]
  rw[hga k hk,hga _ l7];exact h k k0 hk
 obtain⟨m,k1,k2,k3⟩:=c1y (l:=l++[x]) (j:=l.length) l7 l7 hu;refine⟨m,?_,k2,k3⟩;rw[show H9 .i64 (x8 (l++[x])) 1=((l.length:Nat):Int) by rw[U2 (by unfold jc x8;omega)];simp[x8],k1];rfl
theorem b2i{l:List Int}{n i:Nat}(hl:l.length<=100000)(hn:n<=l.length)(hi:i<l.length)(h:FM l n i):∃b l',sV l (i:Int) (n:Int)=some (b,l')/\IW l' n/\l'.Perm l/\l'.drop n=l.drop n:=by
 unfold sV;have key:=gW (f:=λ(x:List Int×Int)=>l9 (J6 (n:Int) (D7 .i64 (X9 .i64 2 x.2) 1)) (some (.inr x)) (l9 (D9 (D7 .i64 (X9 .i64 2 x.2) 1) 0) (some (.inr x)) (l9 (D9 (D7 .i64 (D7 .i64 (X9 .i64 2 x.2) 1) 1) (n:Int))
   (o5 (cO x.1 (D7 .i64 (D7 .i64 (X9 .i64 2 x.2) 1) 1) (D7 .i64 (X9 .i64 2 x.2) 1)) λ(x_1:Bool)=>l9 x_1 (o5 (cO x.1 (D7 .i64 (D7 .i64 (X9 .i64 2 x.2) 1) 1) x.2) λ(x_2:Bool)=>l9 (E9 x_2) (some (.inr x))
     (o5 (dK x.1 x.2 (D7 .i64 (D7 .i64 (X9 .i64 2 x.2) 1) 1)) λ(x_3:List Int)=>some (.inl (x_3,D7 .i64 (D7 .i64 (X9 .i64 2 x.2) 1) 1)))) (o5 (cO x.1 (D7 .i64 (X9 .i64 2 x.2) 1) x.2) λ(x_2:Bool)=>l9 (E9 x_2) (some (.inr x))
     (o5 (dK x.1 x.2 (D7 .i64 (X9 .i64 2 x.2) 1)) λ(x_3:List Int)=>some (.inl (x_3,D7 .i64 (X9 .i64 2 x.2) 1)))))
   (o5 (cO x.1 (D7 .i64 (X9 .i64 2 x.2) 1) x.2) λ(x_1:Bool)=>l9 (E9 x_1) (some (.inr x)) (o5 (dK x.1 x.2 (D7 .i64 (X9 .i64 2 x.2) 1)) λ(x_2:List Int)=>some (.inl (x_2,D7 .i64 (X9 .i64 2 x.2) 1)))))))
  (s:=(l,(i:Int))) (λx=>∃(m:List Int) (k:Nat),x=(m,(k:Int))/\k<m.length/\FM m n k/\m.Perm l/\m.drop n=l.drop n) (λy=>IW y.1 n/\y.1.Perm l/\y.1.drop n=l.drop n) (λx=>l.length -x.2.toNat) ⟨l,i,rfl,hi,h,List.Perm.refl _,rfl⟩ az (by
  rintro x ⟨m,k,rfl,hk,hd,hp,hdr⟩;have hm:=Vu hp;have hc1:D7 .i64 (X9 .i64 2 (k:Int)) 1=((2*k+1:Nat):Int):=by rw[lh O6,V5 O6];omega
  have hc2:D7 .i64 (((2*k+1:Nat):Int)) 1=((2*k+2:Nat):Int):=by rw[V5 O6];omega
  have dswp:∀a b,a<n->b<n->(swp m a b).drop n=l.drop n:=λa b ha hb=>by unfold swp;rw[List.drop_set_of_lt hb,List.drop_set_of_lt ha,hdr]
  simp only[hc1,hc2];by_cases h1:n<=2*k+1
  ·rw[X5 l7,o7];exact .inr ⟨_,rfl,CS hd (λj j0 j1 j2=>by omega),hp,hdr⟩
  rw[Y1 l7,o6,L6 l7,o6];by_cases h2:2*k+2<n
  ·rw[U5 l7,o7,a0G l7 l7,o9];cases hc:D9 (hg m (2*k+2)) (hg m (2*k+1))
   ·rw[iL]at hc;rw[o6,a0G l7 hk,o9];cases hq:D9 (hg m (2*k+1)) (hg m k)
    ·rw[iL]at hq;exact .inr ⟨_,rfl,CS hd (λj j0 j1 j2=>by have:j=2*k+1\/j=2*k+2:=l7;rcases this with rfl|rfl<;>(dsimp only;omega)),hp,hdr⟩
    ·rw[F9,o6,a0H hk l7];exact .inl ⟨(swp m k (2*k+1),((2*k+1:Nat):Int)),rfl,⟨_,_,rfl,by rw[Ik];omega,Fv hd l7 l7 l7 l7 (λj j0 j1 j2=>by
      have:j=2*k+1\/j=2*k+2:=l7;rcases this with rfl|rfl
      ·exact aV _
      ·exact hc) (jC.1 hq),(JQ hk l7).trans hp,dswp _ _ l7 l7⟩,by simp;omega⟩
   ·rw[jC]at hc;rw[o7,a0G l7 hk,o9];cases hq:D9 (hg m (2*k+2)) (hg m k)
    ·rw[iL]at hq;exact .inr ⟨_,rfl,CS hd (λj j0 j1 j2=>by have:j=2*k+1\/j=2*k+2:=l7;rcases this with rfl|rfl<;>(dsimp only;omega)),hp,hdr⟩
    ·rw[F9,o6,a0H hk l7];exact .inl ⟨(swp m k (2*k+2),((2*k+2:Nat):Int)),rfl,⟨_,_,rfl,by rw[Ik];omega,Fv hd l7 l7 l7 l7 (λj j0 j1 j2=>by
      have:j=2*k+1\/j=2*k+2:=l7;rcases this with rfl|rfl
      ·omega
      ·exact aV _) (jC.1 hq),(JQ hk l7).trans hp,dswp _ _ l7 l7⟩,by simp;omega⟩
  ·rw[L6 l7,o6,a0G l7 hk,o9];cases hq:D9 (hg m (2*k+1)) (hg m k)
   ·rw[iL]at hq;exact .inr ⟨_,rfl,CS hd (λj j0 j1 j2=>by have:j=2*k+1:=l7;subst this;omega),hp,hdr⟩
   ·rw[F9,o6,a0H hk l7];exact .inl ⟨(swp m k (2*k+1),((2*k+1:Nat):Int)),rfl,⟨_,_,rfl,by rw[Ik];omega,Fv hd l7 l7 l7 l7 (λj j0 j1 j2=>by have:j=2*k+1:=l7;subst this;exact aV _) (jC.1 hq),(JQ hk l7).trans hp,dswp _ _ l7 l7⟩,by simp;omega⟩)
 obtain⟨y,k1,k2,k3,k4⟩:=key;exact⟨D9 (i:Int) y.2,y.1,(rC k1 _).trans rfl,k2,k3,k4⟩
theorem a8o{l:List Int}(hl:l.length<=1000)(h:IW l l.length)(h0:0<l.length):∃l',pO l=some (hg l 0,l')/\IW l' l'.length/\(l' ++[hg l 0]).Perm l:=by
 obtain⟨n,hn⟩:∃n,l.length=n+1:=⟨l.length -1,l7⟩;have hsub:H9 .i64 ((l.length:Nat):Int) 1=((n:Nat):Int):=by rw[U2 O6];omega
 unfold pO kD;rw[o9,show x8 l=((l.length:Nat):Int)from rfl,hsub,show(0:Int)=((0:Nat):Int)from rfl,a0H l7 l7,o9];have hlen:(swp l 0 n).length=n+1:=by rw[Ik,hn]
 obtain⟨b,m,k1,k2,k3,k4⟩:=b2i (l:=swp l 0 n) (n:=n) (i:=0) l7 l7 l7 (a2T h l7);rw[k1,o9];have hml:=Vu k3;have hmn:m.length=n+1:=l7;have hlast:hg m n=hg l 0:=by
  have e1:(m.drop n)[0]? =((swp l 0 n).drop n)[0]?:=by rw[k4]
  rw[U6,U6,fA,xq l7,xq l7]at e1;rw[V6 e1,YJ l7 l7,if_pos rfl]
 unfold AO;dsimp only;have hs2:H9 .i64 (x8 m) 1=((n:Nat):Int):=by rw[show x8 m=((m.length:Nat):Int)from rfl,hmn,U2 O6];omega
 rw[hs2,a6l l7,o9,show Y3 m (Y0 (n:Int))=some (hg m n)from xq (i:=n) l7,o9,show sS 0 (n:Int) (x8 m)=true by simp[sS,x8];omega,o7,show pF m (Y0 0) (Y0 (n:Int))=m.take n by simp[pF,Y0],hlast];refine⟨m.take n,rfl,?_,?_⟩
 ·have:(m.take n).length=n:=by simp;omega
  rw[this];intro k k0 k1';have hga:∀i,i<n->hg (m.take n) i=hg m i:=λi hi=>by unfold hg;rw[rZ,rZ,jE hi]
  rw[hga k k1',hga _ l7];exact k2 k k0 k1'
 ·have hcat:m.take n++[hg l 0]=m:=by
   rw[←hlast];have e:m.drop n=[hg m n]:=by
    apply dF;intro i;rw[U6];cases i with
    |zero=>rw[fA,xq l7];rfl|succ i=>rw[gu l7];rfl
   rw[←e,iR]
  rw[hcat];exact k3.trans (JQ l7 l7)
def vM(O:List Int)(x:Int):Bool:=O.any λy=>o8 y x
theorem uX{O:List Int}{x:Int} :vM O x=true↔x∈O:=by
 unfold vM;rw[fQ];constructor
 ·rintro⟨y,hy,h⟩;rw[O5]at h;exact h▸hy
 ·exact λh=>⟨x,h,O8 rfl⟩
def a9X(s:D6)(d:Int)(O:List Int):Bool:=(O0 s d).all λx=>vM O x
def okN(s:D6)(O:List Int)(d:Nat):Bool:=l9 (vM O (d:Int)) false (a9X s (d:Int) O)
def Ru(s:D6)(O:List Int)(d:Nat):Option Nat:=l9 (okN s O d) (some d) none
def LM(s:D6)(O:List Int):Option Nat:=bD s.2.2.2.1.length (Ru s O)
theorem a8Q{s:D6}{O:List Int}{d r:Nat}(h:Ru s O d=some r):r=d/\okN s O d=true:=by
 unfold Ru at h;cases hq:okN s O d<;>rw[hq]at h
 ·cases h
 ·cases h;exact⟨rfl,rfl⟩
theorem Vg{s:D6}{O:List Int}{d:Nat}(h:LM s O=some d):d<s.2.2.2.1.length/\okN s O d=true:=by obtain⟨i,hi,hp⟩:=mJ h;obtain⟨rfl,ho⟩:=a8Q hp;exact⟨hi,ho⟩
theorem a1i{s:D6}{O:List Int}{d:Nat}(hd:d<s.2.2.2.1.length)(ho:okN s O d=true)(hn:∀j,j<d->okN s O j=false):LM s O=some d:=by unfold LM;exact a0C (p:=Ru s O) (iJ.2 λj hj=>by unfold Ru;rw[hn j (U3.1 hj)];rfl) (by unfold Ru;rw[ho];rfl) hd
theorem a3e{s:D6}{O:List Int}(hn:∀j,j<s.2.2.2.1.length->okN s O j=false):LM s O=none:=by unfold LM bD;exact iJ.2 λj hj=>by unfold Ru;rw[hn j (U3.1 hj)];rfl
def Vo(s:D6):Nat->List Int->List Int⊕(List Int×Int)
 |0,O=> .inl O|k+1,O=>if O.length<s.2.2.2.1.length then(match LM s O with|none=> .inr ([],9)|some d=>Vo s k (O++[(d:Int)]))else .inl O
def lq(s:D6):List Int×Int:=match Vo s 100 []with| .inl O=>(O,0)| .inr x=>x
def nP(s:D6)(e:Int)(i:Nat):List Nat:=onL (λd=>decide (e∈O0 s (d:Int))) i
def Oa(s:D6)(O:List Int)(d:Int):List Int:=(O0 s d).filter λx=> !vM O x
def hw(W:List Int)(d:Int):Int:=W.getD d.toNat 0
theorem a8p{W:List Int}{d:Int}(h0:0<=d)(h:d<x8 W):H8 W d=some (hw W d)/\Y3 W (Y0 d)=some (hw W d):=by have:=Tc h0 h;refine⟨this,?_⟩;unfold H8 at this;rw[if_pos h0]at this;exact this
theorem a8q{W:List Int}{d:Int}(h0:0<=d)(h:d<x8 W)(v x:Int)(hx:0<=x):hw (bu W (Y0 d) v) x=if x=d then v else hw W x:=by
 unfold hw;have hl:d.toNat<W.length:=by simp only[x8]at h;omega
 show(W.set d.toNat v).getD x.toNat 0=_;rw[rZ,rZ,V7];by_cases hq:x=d
 ·subst hq;rw[if_pos rfl,if_pos hl,if_pos rfl];rfl
 ·rw[if_neg l7,if_neg hq]
theorem UR(W:List Int)(i:Nat)(v:Int):(bu W i v).length=W.length:=by show(W.set i v).length=_;simp
theorem KL{l:List Int}{n:Nat}(hd:l.Nodup)(hr:∀x∈l,0<=x/\x<(n:Int)):l.length<=n:=by
 have hp:=DJ l;have hs:=CU l;have hnd:(Gf l).Nodup:=hp.nodup_iff.2 hd;have hsi:SI (Gf l):=by have:=List.Pairwise.and hs hnd;exact this.imp λ{a b} ⟨h1,h2⟩=>by omega
 have:=VV n hsi λx hx=>hr x (hp.mem_iff.1 hx);rw[hp.length_eq]at this;exact this
theorem a0z{l:List Int}(h:SI l){O:List Int}{m:Int}(hm:m∉O):((l.filter λx=> !vM (O++[m]) x).length:Int)=((l.filter λx=> !vM O x).length:Int) -(if m∈l then 1 else 0):=by
 have hh:∀x,vM (O++[m]) x=(vM O x || o8 m x):=λx=>by unfold vM;rw[wG];simp
 induction l with
 |nil=>simp|cons a l ih=>
  have h' :=U9.1 h;have ih' :=ih h'.2;rw[dn,dn,hh];by_cases hma:m=a
  ·subst hma;have hno:m∉l:=λhx=>by have:=h'.1 m hx;omega
   rw[if_neg hno]at ih';have h1:vM O m=false:=by
    cases hq:vM O m
    ·rfl
    ·exact absurd (uX.1 hq) hm
   have hA:(!(vM O m || o8 m m))=false:=by rw[O8 rfl];simp
   have hB:(!vM O m)=true:=by rw[h1];rfl
   rw[hA,hB,if_pos (show m∈m::l by simp)];simp only[dh,if_false,if_true,G5];omega
  ·rw[L9 hma,Bool.or_false];have:(if m∈a::l then(1:Int)else 0)=if m∈l then 1 else 0:=by simp[hma]
   rw[this];cases vM O a
   ·simp only[Bool.not_false,if_true,G5];omega
   ·simp only[lY,dh,if_false];exact ih'
structure KInv (s:D6) (O W H:List Int):Prop where
 nd:O.Nodup
 rng:∀x∈O,0<=x/\x<nD s
 cl:∀u∈O,∀x∈O0 s u,x∈O
 wl:W.length=s.2.2.2.1.length
 w:∀d,0<=d->d<nD s->hw W d=((Oa s O d).length:Int)
 hp:IW H H.length
 hnd:H.Nodup
 hm:∀d,d∈H↔0<=d/\d<nD s/\d∉O/\hw W d=0
theorem a3i{s:D6}{O:List Int}{d:Nat} :okN s O d=true↔(d:Int)∉O/\Oa s O (d:Int)=[]:=by
 unfold okN a9X Oa;cases hq:vM O (d:Int)
 ·have h1:(d:Int)∉O:=λh=>by rw[uX.2 h]at hq;cases hq
  simp only[o6,lQ,kT,qA,Bool.not_eq_false'];exact⟨λh=>⟨h1,λa ha=>by rw[h a ha]⟩,λh a ha=>h.2 a ha⟩
 ·have h1:=uX.1 hq;simp only[o7];exact⟨λh=>(by cases h),λh=>absurd h1 h.1⟩
theorem KInv.ready{s:D6}{O W H:List Int}(h:KInv s O W H){d:Nat}(hd:d<s.2.2.2.1.length):okN s O d=true↔(d:Int)∈H:=by
 have hn:nD s=((s.2.2.2.1.length:Nat):Int):=rfl;rw[a3i,h.hm];have:=h.w (d:Int) l7 l7;constructor
 ·rintro⟨h1,h2⟩;exact⟨l7,l7,h1,by rw[this,h2];rfl⟩
 ·rintro⟨_,_,h1,h2⟩;refine⟨h1,O7.1 ?_⟩;rw[this]at h2;omega
theorem KInv.next_none{s:D6}{O W:List Int}(h:KInv s O W []):LM s O=none:=
 a3e λj hj=>by
  cases hq:okN s O j
  ·rfl
  ·have:=(h.ready hj).1 hq;cases this
theorem KInv.next_some{s:D6}{O W H:List Int}(h:KInv s O W H)(h0:0<H.length):∃m:Nat,hg H 0=(m:Int)/\LM s O=some m/\m<s.2.2.2.1.length/\O.length<s.2.2.2.1.length:=by
 have hn:nD s=((s.2.2.2.1.length:Nat):Int):=rfl;have hmem:hg H 0∈H:=by have:=xq h0;exact su this
 have hmm:=(h.hm _).1 hmem;obtain⟨m,hm⟩:∃m:Nat,hg H 0=(m:Int):=⟨(hg H 0).toNat,l7⟩;rw[hm]at hmem hmm;have hlt:m<s.2.2.2.1.length:=l7;refine⟨m,hm,a1i hlt ((h.ready hlt).2 hmem) λj hj=>?_,hlt,?_⟩
 ·cases hq:okN s O j
  ·rfl
  ·have hjH:=(h.ready l7).1 hq;obtain⟨i,hi,he⟩:=bI hjH;have:=a8n h.hp i hi;have e:=xq hi;rw[gY hi,he]at e;have:=V6 e;omega
 ·have hnd:(O++[(m:Int)]).Nodup:=I7.2 ⟨h.nd,A7,λa ha b hb=>by simp at hb;subst hb;intro hq;subst hq;exact hmm.2.2.1 ha⟩;have:=KL (n:=s.2.2.2.1.length) hnd λx hx=>by
   rcases A8.1 hx with hx|hx
   ·exact h.rng x hx
   ·simp at hx;subst hx;omega
  simp at this;omega
structure UInv (s:D6) (W H0:List Int) (us:List Int) (W' H' :List Int):Prop where
 wl:W'.length=s.2.2.2.1.length
 w:∀d,0<=d->d<nD s->hw W' d=hw W d -(if d∈us then 1 else 0)
 hp:IW H' H'.length
 pm:∃P:List Int,H'.Perm (H0++P)/\P.Sublist us/\∀d,d∈P↔d∈us/\hw W d=1
theorem a4g{s:D6}(hs:SmS s){W H0 us:List Int}(hW:W.length=s.2.2.2.1.length)(hW2:∀d,0<=d->d<nD s->-1000<=hw W d/\hw W d<=1000)(hH:IW H0 H0.length)(hHl:H0.length<=100)(hus:SI us)(hur:∀u∈us,0<=u/\u<nD s)
  {f:List Int×List Int×Int->Option ((List Int×List Int×Int)⊕(List Int×List Int))}
  (hin:∀(i:Nat) (u:Int) (A B:List Int),us[i]? =some u->f (A,B,(i:Int))=o5 (H8 A u) λ(x_8:Int)=>o5 (Y3 A (Y0 u)) λ(x_9:Int)=>o5 (H8 A u) λ(x_10:Int)=>o5 (Y3 A (Y0 u)) λ(x_11:Int)=>
   o5 (H8 (bu A (Y0 u) (H9 .i64 x_9 1)) u) λ(x_12:Int)=>o5 (Y3 (bu A (Y0 u) (H9 .i64 x_9 1)) (Y0 u)) λ(x_13:Int)=>l9 (o8 x_13 0) (o5 (fV B u) λ(x_14:List Int)=>some (.inl (bu A (Y0 u) (H9 .i64 x_9 1),x_14,D7 .i64 (i:Int) 1)))
    (some (.inl (bu A (Y0 u) (H9 .i64 x_9 1),B,D7 .i64 (i:Int) 1))))
  (hend:∀(A B:List Int),f (A,B,(us.length:Int))=some (.inr (A,B))):∃W' H',dC f (W,H0,0)=some (W',H')/\UInv s W H0 us W' H' :=by
 have hn:nD s=((s.2.2.2.1.length:Nat):Int):=rfl;have hul:us.length<=14:=MK hs hus hur;obtain⟨e,h1,h2⟩:=gW (f:=f) (s:=(W,H0,0)) (λx=>∃(i:Nat) (A B:List Int),x=(A,B,(i:Int))/\i<=us.length/\UInv s W H0 (us.take i) A B/\B.length<=H0.length+i) (λe=>UInv s W H0 us e.1 e.2) (λx=>us.length -x.2.2.toNat)
  ⟨0,W,H0,rfl,l7,⟨hW,λd _ _=>by simp,hH,[],A7,A7,λd=>by simp⟩,l7⟩ az (by
  rintro x ⟨i,A,B,rfl,hi,hU,hBl⟩;by_cases hlt:i<us.length
  ·left;have e:=gY hlt;generalize us[i]=u at e;have hu:=hur u (su e);have hst:us.take (i+1)=us.take i++[u]:=by rw[P9 hlt,(Z4.1 e).2]
   have hnot:u∉us.take i:=λhx=>by obtain⟨j,hj,hq⟩:=bI hx;simp only[fU]at hj;have h3:=gz.1 hus j i l7 hlt l7;rw[uI]at hq;have h4:=(Z4.1 e).2;omega
   have hAl:=hU.wl;have hAu:=hU.w u hu.1 hu.2;rw[if_neg hnot]at hAu;have hbd:=hW2 u hu.1 hu.2;obtain⟨q1,q2⟩:=a8p (W:=A) hu.1 (by simp only[x8];omega);have hsub:H9 .i64 (hw A u) 1=hw A u -1:=U2 O6;have hA2:∀d,0<=d->d<nD s->hw (bu A (Y0 u) (hw A u -1)) d=hw W d -(if d∈us.take (i+1)then 1 else 0):=λd d0 d1=>by
    rw[a8q hu.1 (by simp only[x8];omega) _ _ d0,hst];have:=hU.w d d0 d1;by_cases hq:d=u
    ·subst hq;rw[if_pos rfl,if_pos A7];omega
    ·rw[if_neg hq,this];simp[hq]
   obtain⟨q3,q4⟩:=a8p (W:=bu A (Y0 u) (hw A u -1)) (d:=u) hu.1 (by simp only[x8,UR];omega);have hv:hw (bu A (Y0 u) (hw A u -1)) u=hw A u -1:=by rw[a8q hu.1 (by simp only[x8];omega) _ _ hu.1,if_pos rfl]
   rw[hv]at q3 q4;obtain⟨P,p1,p2,p3⟩:=hU.pm;rw[hin i u A B e,q1,o9,q2,o9,o9,o9,hsub,q3,o9,q4,o9,fP l7];by_cases hz:hw A u -1=0
   ·obtain⟨B',b1,b2,b3⟩:=XB (l:=B) l7 hU.hp u;rw[O8 hz,o7,b1,o9];have hB'l:B'.length=B.length+1:=by rw[b3.length_eq];simp
    refine⟨_,rfl,⟨i+1,_,_,rfl,hlt,⟨by rw[UR];exact hAl,hA2,b2,P++[u],?_,?_,λd=>?_⟩,l7⟩,by simp;omega⟩
    ·rw[←F6];exact b3.trans (p1.append_right [u])
    ·rw[hst];exact p2.append (List.Sublist.refl _)
    ·rw[A8,p3,hst,A8];constructor
     ·rintro(⟨h,h'⟩|h)
      ·exact⟨.inl h,h'⟩
      ·simp at h;subst h;exact⟨.inr A7,l7⟩
     ·rintro⟨h|h,h'⟩
      ·exact .inl ⟨h,h'⟩
      ·exact .inr h
   ·rw[L9 hz,o6];refine⟨_,rfl,⟨i+1,_,_,rfl,hlt,⟨by rw[UR];exact hAl,hA2,hU.hp,P,p1,?_,λd=>?_⟩,l7⟩,by simp;omega⟩
    ·rw[hst];exact p2.trans (List.sublist_append_left _ _)
    ·rw[p3,hst,A8];constructor
     ·rintro⟨h,h'⟩;exact⟨.inl h,h'⟩
     ·rintro⟨h|h,h'⟩
      ·exact⟨h,h'⟩
      ·simp at h;subst h;omega
  ·right;have:i=us.length:=l7;subst this;rw[ax]at hU;exact⟨_,hend _ _,hU⟩)
 exact⟨e.1,e.2,h1,h2⟩
theorem Io{s:D6}{m:Int}{d:Int} :d∈castL (nP s m s.2.2.2.1.length)↔0<=d/\d<nD s/\m∈O0 s d:=by
 have hn:nD s=((s.2.2.2.1.length:Nat):Int):=rfl;unfold castL;rw[U8];constructor
 ·rintro⟨k,hk,rfl⟩;obtain⟨h1,h2⟩:=a3j _ hk;exact⟨l7,l7,by simpa using h2⟩
 ·rintro⟨h1,h2,h3⟩;refine⟨d.toNat,?_,l7⟩;unfold nP onL;rw[N8,U3];exact⟨l7,by rw[X4 h1];simpa using h3⟩
theorem TU{l:List Nat}(h:l.Pairwise (·< ·)):SI (castL l):=List.Pairwise.map _ (λa b h=>by omega) h
theorem KInv.step{s:D6}{O W H:List Int}(h:KInv s O W H)(h0:0<H.length){m:Nat}(hm:hg H 0=(m:Int)){R:List Int}(hR:IW R R.length)(hRp:(R++[(m:Int)]).Perm H){W' H' :List Int}(hU:UInv s W R (castL (nP s (m:Int) s.2.2.2.1.length)) W' H'):KInv s (O++[(m:Int)]) W' H' :=by
 have hn:nD s=((s.2.2.2.1.length:Nat):Int):=rfl;have hmem:(m:Int)∈H:=by rw[←hm];have:=xq h0;exact su this
 have hmm:=(h.hm _).1 hmem;have hleft:Oa s O (m:Int)=[]:=by have:=h.w (m:Int) hmm.1 hmm.2.1;rw[hmm.2.2.2]at this;exact O7.1 l7
 have hdeps:∀x∈O0 s (m:Int),x∈O:=λx hx=>by have hnil:=kT.1 hleft x hx;simp only[qA,Bool.not_eq_false']at hnil;exact uX.1 hnil
 have hndR:(R++[(m:Int)]).Nodup:=hRp.nodup_iff.2 h.hnd;have hmR:(m:Int)∉R:=λhx=>by have:=(I7.1 hndR).2.2 _ hx _ (D8.2 rfl);exact this rfl
 have hRm:∀d,d∈R↔d∈H/\d≠(m:Int):=λd=>by
  rw[←hRp.mem_iff,A8,D8];constructor
  ·intro hx;exact⟨.inl hx,λhq=>hmR (hq▸hx)⟩
  ·rintro⟨hx|hx,hq⟩
   ·exact hx
   ·exact absurd hx hq
 obtain⟨P,p1,p2,p3⟩:=hU.pm;have huO:∀u,(m:Int)∈O0 s u->u∉O:=λu hu hx=>hmm.2.2.1 (h.cl u hx _ hu);refine⟨?_,?_,?_,hU.wl,λd d0 d1=>?_,hU.hp,?_,λd=>?_⟩
 ·exact I7.2 ⟨h.nd,A7,λa ha b hb=>by simp at hb;subst hb;intro hq;subst hq;exact hmm.2.2.1 ha⟩
 ·intro x hx;rcases A8.1 hx with hx|hx
  ·exact h.rng x hx
  ·simp at hx;subst hx;exact⟨hmm.1,hmm.2.1⟩
 ·intro u hu x hx;rcases A8.1 hu with hu|hu
  ·exact G6 _ (h.cl u hu x hx)
  ·simp at hu;subst hu;exact G6 _ (hdeps x hx)
 ·rw[hU.w d d0 d1,h.w d d0 d1];unfold Oa;rw[a0z (AQ s d) hmm.2.2.1];congr 1;have:(d∈castL (nP s (m:Int) s.2.2.2.1.length))↔((m:Int)∈O0 s d):=by rw[Io];exact⟨λh=>h.2.2,λh=>⟨d0,d1,h⟩⟩
  by_cases hq:(m:Int)∈O0 s d
  ·rw[if_pos (this.2 hq),if_pos hq]
  ·rw[if_neg (λhx=>hq (this.1 hx)),if_neg hq]
 ·rw[p1.nodup_iff];refine I7.2 ⟨(I7.1 hndR).1,?_,λa ha b hb hq=>?_⟩
  ·have:(castL (nP s (m:Int) s.2.2.2.1.length)).Nodup:=(TU (YZ _ _)).imp λ{a b} h=>by omega
   exact p2.nodup this
  ·subst hq;have h1:=(h.hm a).1 ((hRm a).1 ha).1;have h2:=(p3 a).1 hb;omega
 ·rw[p1.mem_iff,A8,hRm,p3,Io,h.hm];have hw' :=λd0 d1=>hU.w d d0 d1;have hmemU:d∈castL (nP s (m:Int) s.2.2.2.1.length)↔0<=d/\d<nD s/\(m:Int)∈O0 s d:=Io;constructor
  ·rintro(⟨⟨d0,d1,dO,dw⟩,dm⟩|⟨⟨d0,d1,dd⟩,dw⟩)
   ·refine⟨d0,d1,λhx=>?_,?_⟩
    ·rcases A8.1 hx with hx|hx
     ·exact dO hx
     ·simp at hx;exact dm hx
    ·have hnot:(m:Int)∉O0 s d:=λhx=>by
      have h1:=h.w d d0 d1;rw[dw]at h1;have h2:Oa s O d=[]:=O7.1 l7;have h3:=kT.1 h2 _ hx;simp only[qA,Bool.not_eq_false']at h3;exact hmm.2.2.1 (uX.1 h3)
     rw[hw' d0 d1,dw,if_neg (λhx=>hnot (hmemU.1 hx).2.2)];rfl
   ·refine⟨d0,d1,λhx=>?_,?_⟩
    ·rcases A8.1 hx with hx|hx
     ·exact huO d dd hx
     ·simp at hx;rw[hx]at dd;exact hmm.2.2.1 (hdeps _ dd)
    ·rw[hw' d0 d1,if_pos (hmemU.2 ⟨d0,d1,dd⟩)];omega
  ·rintro⟨d0,d1,dO,dw⟩;rw[hw' d0 d1]at dw;have dO1:d∉O:=λhx=>dO (G6 _ hx);have dm:d≠(m:Int):=λhx=>dO (by rw[hx];simp);by_cases hq:(m:Int)∈O0 s d
   ·rw[if_pos (hmemU.2 ⟨d0,d1,hq⟩)]at dw;exact .inr ⟨⟨d0,d1,hq⟩,l7⟩
   ·rw[if_neg (λhx=>hq (hmemU.1 hx).2.2)]at dw;exact .inl ⟨⟨d0,d1,dO1,l7⟩,dm⟩
def Bl(s:D6)(i:Nat):List (List Int):=(List.range s.2.2.2.1.length).map λ(e:Nat)=>castL (nP s (e:Int) i)
theorem FO(l:List Nat):(castL l).length=l.length:=by unfold castL;rw[J7]
theorem a4h(s:D6)(e:Int)(i:Nat):castL (nP s e (i+1))=castL (nP s e i)++(if e∈O0 s (i:Int)then[(i:Int)]else[]):=by unfold nP;rw[Jw];by_cases h:e∈O0 s (i:Int)<;>simp[castL,h]
theorem a4f{s:D6}(hs:SmS s)(i:Nat)(hi:i<s.2.2.2.1.length){f:List (List Int)×Int->Option ((List (List Int)×Int)⊕List (List Int))}
  (hin:∀(k:Nat) (e:Int) (A:List (List Int)),(O0 s (i:Int))[k]? =some e->f (A,(k:Int))=l9 (inb e (x8 A)) (o5 (Y3 A (Y0 e)) λ(x_7:List Int)=>o5 (mM x_7 [(i:Int)]) λ(x_8:List Int)=>l9 (inb e (x8 A)) (l9 (MS (Y0 e) (Y0 e)) (o5 (Y3 A (Y0 e)) λ(x_9:List Int)=>some (.inl (bu A (Y0 e) x_8,D7 .i64 (k:Int) 1))) none) none) none)
  (hend:∀A,f (A,((O0 s (i:Int)).length:Int))=some (.inr A)):dC f (Bl s i,0)=some (Bl s (i+1)):=by
 have hn:nD s=((s.2.2.2.1.length:Nat):Int):=rfl;have hdl:=Uh hs (i:Int);have hnd:=hs.nd;have hsi:=AQ s (i:Int);refine(sF (O0 s (i:Int)) (λ(A:List (List Int)) e=>A.set e.toNat (A.getD e.toNat []++[(i:Int)])) (λb k=>(b,k)) (λb=>b) (λk A=>A=(List.range s.2.2.2.1.length).map λ(e:Nat)=>castL (nP s (e:Int) i)++(if(e:Int)∈(O0 s (i:Int)).take k then[(i:Int)]else[])) (b:=Bl s i) l7 (by simp[Bl]) (λk e A he hk hA=>?_) (λA hA=>hend A)).1.trans ?_
 ·have hlt:=(Z4.1 he).1;have her:=vg (su he);have hst:(O0 s (i:Int)).take (k+1)=(O0 s (i:Int)).take k++[e]:=by rw[P9 hlt,(Z4.1 he).2]
  have hnot:e∉(O0 s (i:Int)).take k:=λhx=>by obtain⟨j,hj,hq⟩:=bI hx;simp only[fU]at hj;have h3:=gz.1 hsi j k l7 hlt l7;rw[uI]at hq;have h4:=(Z4.1 he).2;omega
  have hlA:A.length=s.2.2.2.1.length:=by rw[hA];simp
  have hg:A[e.toNat]? =some (castL (nP s e i)):=by rw[hA,CW _ _ (show e.toNat<s.2.2.2.1.length by omega),X4 her.1,if_neg hnot,F7]
  have hul:(castL (nP s e i)).length<=i:=by rw[FO];exact Hr _ _
  rw[hin k e A he,show inb e (x8 A)=true from decide_eq_true ⟨her.1,by simp only[x8];omega⟩,o7,show Y3 A (Y0 e)=some (castL (nP s e i))from hg,o9,uY _ l7,o9,o7,show MS (Y0 e) (Y0 e)=true by simp[MS],o7,o9,fP l7];rw[show A.getD e.toNat []=castL (nP s e i) by rw[rZ,hg];rfl];refine⟨rfl,?_⟩;rw[hA,SS];apply bJ;intro d hd;rw[hst];by_cases hq:d=e.toNat
  ·subst hq;rw[if_pos rfl,X4 her.1,if_pos A7]
  ·rw[if_neg hq];have:(if(d:Int)∈(O0 s (i:Int)).take k++[e]then[(i:Int)]else[])=if(d:Int)∈(O0 s (i:Int)).take k then[(i:Int)]else[]:=by
    have:(d:Int)≠e:=l7;simp[this]
   rw[this]
 ·have h2:=(sF (O0 s (i:Int)) (λ(A:List (List Int)) e=>A.set e.toNat (A.getD e.toNat []++[(i:Int)])) (λb k=>(b,k)) (λb=>b) (λk A=>A=(List.range s.2.2.2.1.length).map λ(e:Nat)=>castL (nP s (e:Int) i)++(if(e:Int)∈(O0 s (i:Int)).take k then[(i:Int)]else[])) (f:=f) (b:=Bl s i) l7 (by simp[Bl]) (λk e A he hk hA=>by
   have hlt:=(Z4.1 he).1;have her:=vg (su he);have hst:(O0 s (i:Int)).take (k+1)=(O0 s (i:Int)).take k++[e]:=by rw[P9 hlt,(Z4.1 he).2]
   have hnot:e∉(O0 s (i:Int)).take k:=λhx=>by obtain⟨j,hj,hq⟩:=bI hx;simp only[fU]at hj;have h3:=gz.1 hsi j k l7 hlt l7;rw[uI]at hq;have h4:=(Z4.1 he).2;omega
   have hlA:A.length=s.2.2.2.1.length:=by rw[hA];simp
   have hg:A[e.toNat]? =some (castL (nP s e i)):=by rw[hA,CW _ _ (show e.toNat<s.2.2.2.1.length by omega),X4 her.1,if_neg hnot,F7]
   have hul:(castL (nP s e i)).length<=i:=by rw[FO];exact Hr _ _
   rw[hin k e A he,show inb e (x8 A)=true from decide_eq_true ⟨her.1,by simp only[x8];omega⟩,o7,show Y3 A (Y0 e)=some (castL (nP s e i))from hg,o9,uY _ l7,o9,o7,show MS (Y0 e) (Y0 e)=true by simp[MS],o7,o9,fP l7];rw[show A.getD e.toNat []=castL (nP s e i) by rw[rZ,hg];rfl];refine⟨rfl,?_⟩;rw[hA,SS];apply bJ;intro d hd;rw[hst];by_cases hq:d=e.toNat
   ·subst hq;rw[if_pos rfl,X4 her.1,if_pos A7]
   ·rw[if_neg hq];have:(if(d:Int)∈(O0 s (i:Int)).take k++[e]then[(i:Int)]else[])=if(d:Int)∈(O0 s (i:Int)).take k then[(i:Int)]else[]:=by
     have:(d:Int)≠e:=l7;simp[this]
    rw[this]) (λA hA=>hend A)).2
  rw[h2];unfold Bl;apply congrArg some;apply bJ;intro d hd;rw[a4h,ax]
theorem a8k{α β σ:Type}{o:Option α}{x:α}{K:α->Option (σ⊕β)}{Q:σ->Prop}(h:o=some x)(hk:∃s',K x=some (.inl s')/\Q s'):∃s',o5 o K=some (.inl s')/\Q s' :=by rw[h];exact hk
structure IInv (s:D6) (i:Nat) (U:List (List Int)) (W H:List Int):Prop where
 u:U=Bl s i
 w:W=pd ((List.range i).map λ(d:Nat)=>((O0 s (d:Int)).length:Int)) (s.2.2.2.1.length -i)
 hp:IW H H.length
 hnd:H.Nodup
 hm:∀d,d∈H↔0<=d/\d<(i:Int)/\O0 s d=[]
 hl:H.length<=i
theorem a9l{s:D6}(hs:SmS s):qR s=some (lq s):=by
 have hn:nD s=((s.2.2.2.1.length:Nat):Int):=rfl;have hnd:=hs.nd;unfold qR;rw[Gw hs,o9];have hAl:x8 ((List.range s.2.2.2.1.length).map λ(d:Nat)=>O0 s (d:Int))=((s.2.2.2.1.length:Nat):Int):=by simp[x8]
 have hAg:∀i,i<s.2.2.2.1.length->((List.range s.2.2.2.1.length).map λ(d:Nat)=>O0 s (d:Int))[i]? =some (O0 s (i:Int)):=λi hi=>CW _ _ hi;generalize (List.range s.2.2.2.1.length).map (λ(d:Nat)=>O0 s (d:Int))=A at*;rw[hAl,show sU ((s.2.2.2.1.length:Nat):Int) ([]:List Int)=some (Bl s 0) by
  unfold sU Bl nP onL castL;rw[if_pos l7];simp[List.map_const'],o9,show sU ((s.2.2.2.1.length:Nat):Int) (0:Int)=some (pd ((List.range 0).map λ(d:Nat)=>((O0 s (d:Int)).length:Int)) (s.2.2.2.1.length -0)) by
  unfold sU pd;rw[if_pos l7];simp,o9]
 obtain⟨e,k1,k2⟩:=gW (f:=λ(x_3:List (List Int)×List Int×List Int×Int)=>l9 (D9 x_3.2.2.2 ((s.2.2.2.1.length:Nat):Int)) (o5 (H8 A x_3.2.2.2) λ(x:List Int)=>o5 (H8 x_3.2.1 x_3.2.2.2) λ(x_4:Int)=>o5 (Y3 x_3.2.1 (Y0 x_3.2.2.2)) λ(x_5:Int)=>
   o5 (dC (λ(x_6:List (List Int)×Int)=>l9 (D9 x_6.2 (x8 x)) (o5 (H8 x x_6.2) λ(x:Int)=>l9 (inb x (x8 x_6.1)) (o5 (Y3 x_6.1 (Y0 x)) λ(x_7:List Int)=>o5 (mM x_7 [x_3.2.2.2]) λ(x_8:List Int)=>l9 (inb x (x8 x_6.1)) (l9 (MS (Y0 x) (Y0 x)) (o5 (Y3 x_6.1 (Y0 x)) λ(x_9:List Int)=>some (.inl (bu x_6.1 (Y0 x) x_8,D7 .i64 x_6.2 1))) none) none) none) (some (.inr x_6.1))) (x_3.1,0)) λ(y:List (List Int))=>
   l9 (o8 (x8 x) 0) (o5 (fV x_3.2.2.1 x_3.2.2.2) λ(x_6:List Int)=>some (.inl (y,bu x_3.2.1 (Y0 x_3.2.2.2) (x8 x),x_6,D7 .i64 x_3.2.2.2 1))) (some (.inl (y,bu x_3.2.1 (Y0 x_3.2.2.2) (x8 x),x_3.2.2.1,D7 .i64 x_3.2.2.2 1)))) (some (.inr (x_3.1,x_3.2.1,x_3.2.2.1))))
  (s:=(Bl s 0,pd ((List.range 0).map λ(d:Nat)=>((O0 s (d:Int)).length:Int)) (s.2.2.2.1.length -0),[],0)) (λx=>∃(i:Nat) (U:List (List Int)) (W H:List Int),x=(U,W,H,(i:Int))/\i<=s.2.2.2.1.length/\IInv s i U W H) (λy=>IInv s s.2.2.2.1.length y.1 y.2.1 y.2.2) (λx=>s.2.2.2.1.length -x.2.2.2.toNat)
  ⟨0,_,_,_,rfl,l7,rfl,rfl,λk k0 k1=>by simp at k1,A7,λd=>by simp;omega,A7⟩ az (by
  rintro x ⟨i,U,W,H,rfl,hi,hI⟩;by_cases hlt:i<s.2.2.2.1.length
  ·left;obtain⟨m,hm⟩:∃m,s.2.2.2.1.length -i=m+1:=⟨s.2.2.2.1.length -i -1,l7⟩;have hlen:((List.range i).map λ(d:Nat)=>((O0 s (d:Int)).length:Int)).length=i:=A7;have q1:=Zf ((List.range i).map λ(d:Nat)=>((O0 s (d:Int)).length:Int)) m;have q2:=Zg ((List.range i).map λ(d:Nat)=>((O0 s (d:Int)).length:Int)) m;have q3:=a3p ((List.range i).map λ(d:Nat)=>((O0 s (d:Int)).length:Int)) m (x8 (O0 s (i:Int)));rw[hlen]at q1 q2 q3;have hW:=hI.w;rw[hm]at hW;have hl14:=hI.hl;have hus:=a4f hs i hlt (f:=λ(x_6:List (List Int)×Int)=>l9 (D9 x_6.2 (x8 (O0 s (i:Int)))) (o5 (H8 (O0 s (i:Int)) x_6.2) λ(x:Int)=>l9 (inb x (x8 x_6.1)) (o5 (Y3 x_6.1 (Y0 x)) λ(x_7:List Int)=>o5 (mM x_7 [(i:Int)]) λ(x_8:List Int)=>l9 (inb x (x8 x_6.1)) (l9 (MS (Y0 x) (Y0 x)) (o5 (Y3 x_6.1 (Y0 x)) λ(x_9:List Int)=>some (.inl (bu x_6.1 (Y0 x) x_8,D7 .i64 x_6.2 1))) none) none) none) (some (.inr x_6.1)))
    (λk e A he=>by simp only[X3 he,o7,J9,he,o9]) (λA=>by simp only[W9];rfl)
   simp only;rw[U5 l7,o7,J9,hAg i hlt,o9,hW,q1,o9,q2,o9,hI.u];refine a8k hus ?_;rw[q3,fP l7];have hwn:pd ((List.range i).map (λ(d:Nat)=>((O0 s (d:Int)).length:Int))++[x8 (O0 s (i:Int))]) m=pd ((List.range (i+1)).map λ(d:Nat)=>((O0 s (d:Int)).length:Int)) (s.2.2.2.1.length -(i+1)):=by rw[X6,bV,show s.2.2.2.1.length -(i+1)=m by omega];rfl
   rw[hwn];by_cases hz:(O0 s (i:Int)).length=0
   ·obtain⟨H',b1,b2,b3⟩:=XB (l:=H) l7 hI.hp (i:Int);have hnil:=O7.1 hz;rw[O8 (by simp[x8,hz]),o7,b1,o9];have hni:(i:Int)∉H:=λhx=>by have:=(hI.hm _).1 hx;omega
    refine⟨_,rfl,⟨i+1,_,_,_,rfl,hlt,rfl,rfl,b2,?_,λd=>?_,by rw[b3.length_eq];simp;omega⟩,by simp;omega⟩
    ·rw[b3.nodup_iff];exact I7.2 ⟨hI.hnd,A7,λa ha b hb=>by simp at hb;subst hb;intro hq;subst hq;exact hni ha⟩
    ·rw[b3.mem_iff,A8,hI.hm,D8];constructor
     ·rintro(⟨h1,h2,h3⟩|h)
      ·exact⟨h1,l7,h3⟩
      ·subst h;exact⟨l7,l7,hnil⟩
     ·rintro⟨h1,h2,h3⟩;by_cases hq:d=(i:Int)
      ·exact .inr hq
      ·exact .inl ⟨h1,l7,h3⟩
   ·rw[L9 (by simp only[x8];omega),o6];refine⟨_,rfl,⟨i+1,_,_,_,rfl,hlt,rfl,rfl,hI.hp,hI.hnd,λd=>?_,l7⟩,by simp;omega⟩;rw[hI.hm];constructor
    ·rintro⟨h1,h2,h3⟩;exact⟨h1,l7,h3⟩
    ·rintro⟨h1,h2,h3⟩;refine⟨h1,?_,h3⟩;by_cases hq:d=(i:Int)
     ·subst hq;rw[h3]at hz;exact absurd rfl hz
     ·omega
  ·right;have:i=s.2.2.2.1.length:=l7;subst this;exact⟨(U,W,H),by simp only[L6 (show((s.2.2.2.1.length:Nat):Int)<=((s.2.2.2.1.length:Nat):Int) by omega)];rfl,hI⟩)
 refine(rC k1 _).trans ?_;obtain⟨U,W,H⟩:=e;simp only at k2 ⊢;have hwd:∀d,0<=d->d<nD s->hw W d=((O0 s d).length:Int):=λd d0 d1=>by have hd:d.toNat<s.2.2.2.1.length:=l7;rw[k2.w,bn];unfold hw pd;rw[rZ,List.replicate_zero,F7,CW _ _ hd,X4 d0];rfl
 have hK:KInv s [] W H:=by
  refine⟨A7,A7,A7,by rw[k2.w];simp[pd],λd d0 d1=>?_,k2.hp,k2.hnd,λd=>?_⟩
  ·rw[hwd d d0 d1];have:Oa s [] d=O0 s d:=List.filter_eq_self.2 λa _=>rfl;rw[this]
  ·rw[k2.hm];constructor
   ·rintro⟨h1,h2,h3⟩;exact⟨h1,l7,A7,by rw[hwd d h1 l7,h3];rfl⟩
   ·rintro⟨h1,h2,_,h4⟩;rw[hwd d h1 h2]at h4;exact⟨h1,l7,O7.1 l7⟩
 have hU:=k2.u;subst hU;have hlatU:∀m:Nat,m<s.2.2.2.1.length->H8 (Bl s s.2.2.2.1.length) (m:Int)=some (castL (nP s (m:Int) s.2.2.2.1.length)):=λm hm=>by rw[J9];exact CW _ _ hm
 have key:∀(k j:Nat) (O W H:List Int),KInv s O W H->s.2.2.2.1.length -O.length<k->k<=j->∃y,qi (λ(x:List (List Int)×mX)=>o5 (kD x.2.2.1) λ(x_3:Int)=>l9 (D9 0 x_3) (o5 (pO x.2.2.1) λ(x_4:Int×List Int)=>o5 (mM x.2.2.2 [x_4.1]) λ(x_5:List Int)=>o5 (H8 x.1 x_4.1) λ(x_6:List Int)=>
   o5 (dC (λ(x:List Int×List Int×Int)=>l9 (D9 x.2.2 (x8 x_6)) (o5 (H8 x_6 x.2.2) λ(x_7:Int)=>o5 (H8 x.1 x_7) λ(x_8:Int)=>o5 (Y3 x.1 (Y0 x_7)) λ(x_9:Int)=>o5 (H8 x.1 x_7) λ(x_10:Int)=>o5 (Y3 x.1 (Y0 x_7)) λ(x_11:Int)=>o5 (H8 (bu x.1 (Y0 x_7) (H9 .i64 x_9 1)) x_7) λ(x_12:Int)=>o5 (Y3 (bu x.1 (Y0 x_7) (H9 .i64 x_9 1)) (Y0 x_7)) λ(x_13:Int)=>
     l9 (o8 x_13 0) (o5 (fV x.2.1 x_7) λ(x_14:List Int)=>some (.inl (bu x.1 (Y0 x_7) (H9 .i64 x_9 1),x_14,D7 .i64 x.2.2 1))) (some (.inl (bu x.1 (Y0 x_7) (H9 .i64 x_9 1),x.2.1,D7 .i64 x.2.2 1)))) (some (.inr (x.1,x.2.1)))) (x.2.1,x_4.2,0)) λ(y:List Int×List Int)=>some (.inl (x.1,y.1,y.2,x_5))) (some (.inr x.2.2.2))) j (Bl s s.2.2.2.1.length,W,H,O)=some y/\Vo s k O=(if y.length<s.2.2.2.1.length then .inr ([],9)else .inl y):=by
  intro k;induction k with
  |zero=>intro j O W H hK hk;omega|succ k ih=>
   intro j O W H hK hk hj;obtain⟨j,rfl⟩:∃j',j=j' +1:=⟨j -1,l7⟩;rw[qi];simp only[kD,o9];cases H with
   |nil=>refine⟨O,rfl,?_⟩;unfold Vo;rw[hK.next_none]|cons h0 H=>
    generalize hHH:h0::H=HH at*;have hpos:0<HH.length:=by rw[←hHH];simp
    obtain⟨m,hm1,hm2,hm3,hm4⟩:=hK.next_some hpos;have hHl:HH.length<=14:=aF (KL (n:=s.2.2.2.1.length) hK.hnd λx hx=>by have:=(hK.hm x).1 hx;omega) hnd;obtain⟨R,r1,r2,r3⟩:=a8o (l:=HH) l7 hK.hp hpos;rw[hm1]at r1 r3;have hRl:R.length<=14:=by have:=r3.length_eq;simp at this;omega
    have hOl:O.length<=14:=l7;obtain⟨W',H',u1,u2⟩:=a4g hs (W:=W) (H0:=R) (us:=castL (nP s (m:Int) s.2.2.2.1.length)) hK.wl (λd d0 d1=>by
      have h1:=hK.w d d0 d1;have h2:=bT (λx=> !vM O x) (O0 s d);have h3:=Uh hs d;unfold Oa at h1;omega) r2 l7 (TU (YZ _ _)) (λu hu=>by have:=Io.1 hu;omega)
     (f:=λ(x:List Int×List Int×Int)=>l9 (D9 x.2.2 (x8 (castL (nP s (m:Int) s.2.2.2.1.length)))) (o5 (H8 (castL (nP s (m:Int) s.2.2.2.1.length)) x.2.2) λ(x_7:Int)=>o5 (H8 x.1 x_7) λ(x_8:Int)=>o5 (Y3 x.1 (Y0 x_7)) λ(x_9:Int)=>o5 (H8 x.1 x_7) λ(x_10:Int)=>o5 (Y3 x.1 (Y0 x_7)) λ(x_11:Int)=>o5 (H8 (bu x.1 (Y0 x_7) (H9 .i64 x_9 1)) x_7) λ(x_12:Int)=>o5 (Y3 (bu x.1 (Y0 x_7) (H9 .i64 x_9 1)) (Y0 x_7)) λ(x_13:Int)=>
     l9 (o8 x_13 0) (o5 (fV x.2.1 x_7) λ(x_14:List Int)=>some (.inl (bu x.1 (Y0 x_7) (H9 .i64 x_9 1),x_14,D7 .i64 x.2.2 1))) (some (.inl (bu x.1 (Y0 x_7) (H9 .i64 x_9 1),x.2.1,D7 .i64 x.2.2 1)))) (some (.inr (x.1,x.2.1))))
     (λi u A B hu=>by simp only[X3 hu,o7,J9 (castL (nP s (m:Int) s.2.2.2.1.length)),hu,o9]) (λA B=>by simp only[W9];rfl)
    have hK2:=hK.step hpos hm1 r2 r3 u2;obtain⟨y,y1,y2⟩:=ih j (O++[(m:Int)]) W' H' hK2 az l7;refine⟨y,?_,?_⟩
    ·rw[U5 (show(0:Int)<x8 HH by simp only[x8];omega),o7,r1,o9,uY _ l7,o9,hlatU m hm3,o9,u1,o9];exact y1
    ·unfold Vo;rw[if_pos hm4,hm2];exact y2
 obtain⟨y,y1,y2⟩:=key 100 jS [] W H hK az (by unfold jS;omega);refine(rC y1 _).trans ?_;unfold lq;rw[y2];by_cases hl:y.length<s.2.2.2.1.length
 ·rw[if_pos hl,U5 (by simp only[x8];omega)];rfl
 ·rw[if_neg hl,L6 (by simp only[x8];omega)];rfl
end
end Go.GP
namespace Gt
open Go Go.GP
def il(y:Int):Bool:=if y % 4=0 then(if y % 100≠0 then true else decide (y % 400=0))else false
def ys(y:Int):Int:=(y -1900)*365+((y -1) / 4 -(y -1) / 100+(y -1) / 400) -460
def diy(y:Int):Int:=if il y then 366 else 365
theorem Ff(y:Int):ys (y+1)=ys y+diy y:=by unfold ys diy il;by_cases h4:y % 4=0<;>by_cases h100:y % 100=0<;>by_cases h400:y % 400=0<;>simp[h4,h100,h400]<;>omega
theorem Lj(a b:Int):a<b\/b<=a:=l7
theorem PU(y:Int):365<=diy y/\diy y<=366:=by unfold diy;split<;>omega
theorem rP{y y' :Int}(h:y<=y'):ys y<=ys y' :=by
 obtain⟨n,rfl⟩:∃n:Nat,y' =y+n:=⟨(y' -y).toNat,l7⟩;clear h;induction n with
 |zero=>simp|succ n ih=>have:=Ff (y+n);have:=PU (y+n);have e:y+((n+1:Nat):Int)=y+n+1:=l7;rw[e];omega
theorem Ld{y:Int}(h:1900<=y):0<=ys y:=by
 have:=rP h;have e:ys 1900=0:=by decide+kernel
 omega
theorem a7m{y y' d:Int}(h1:ys y<=d)(h2:d<ys (y+1))(h3:ys y' <=d)(h4:d<ys (y' +1)):y=y' :=by
 rcases Int.lt_trichotomy y y' with h|h|h
 ·have:=rP (y:=y+1) (y' :=y') l7;omega
 ·exact h
 ·have:=rP (y:=y' +1) (y' :=y) l7;omega
def dim(y m:Int):Int:=
 if m=2 then(if il y then 29 else 28)else if m=4\/m=6\/m=9\/m=11 then 30 else 31
theorem AP(y m:Int):28<=dim y m/\dim y m<=31:=by
 unfold dim;repeat' split
 all_goals omega
theorem Je{y:Int}(h:0<=y):EC y=some (il y):=by
 unfold EC il;simp only[xX h];by_cases h4:y % 4=0
 ·rw[CO (O8 h4),if_pos h4];by_cases h100:y % 100=0
  ·simp[o8,h100]
  ·simp[o8,h100]
 ·rw[Gz (L9 h4),if_neg h4]
theorem IC{y:Int}(h:0<=y):Hy y=some (il y):=Je h
theorem CG{y:Int}(h:0<=y):kQ y=some (diy y):=by unfold kQ diy;rw[IC h,o9];cases il y<;>rfl
theorem m12{m:Int}(h:1<=m/\m<=12):m=1\/m=2\/m=3\/m=4\/m=5\/m=6\/m=7\/m=8\/m=9\/m=10\/m=11\/m=12:=l7
theorem sW{y m:Int}(h:0<=y)(hm:1<=m/\m<=12):je y m=some (dim y m):=by
 unfold je;rcases m12 hm with rfl|rfl|rfl|rfl|rfl|rfl|rfl|rfl|rfl|rfl|rfl|rfl
 all_goals first|rfl|(rw[Je h];unfold dim;cases il y<;>rfl)
theorem rE{y m:Int}(h:0<=y)(hm:1<=m/\m<=12):gG y m=some (dim y m):=by
 unfold gG;rcases m12 hm with rfl|rfl|rfl|rfl|rfl|rfl|rfl|rfl|rfl|rfl|rfl|rfl
 all_goals first|rfl|(rw[IC h];unfold dim;cases il y<;>rfl)
theorem ED{y:Int}(h:0<=y)(h2:y<=1000000):wC y=some (y / 4 -y / 100+y / 400):=by unfold wC;simp only[bQ,iW h];rw[lF O6,lF O6,lF O6,U2 O6,V5 O6]
theorem zF{y:Int}(h:1<=y)(h2:y<=1000000):pR y=some (ys y):=by unfold pR;have e1:H9 .i64 y 1900=y -1900:=U2 O6;have e2:X9 .i64 (y -1900) 365=(y -1900)*365:=lh O6;rw[U2 (a:=y) (b:=1) O6,ED l7 l7,o9,ED l7 l7,o9,e1,e2,V5 O6,U2 O6];unfold ys;congr 1
def mo(y:Int):Nat->Int->Int×Int
 |0,d=>(d,13)|n+1,d=>if d<dim y (12 -n)then(d,12 -n)else mo y n (d -dim y (12 -n))
theorem a5g(y:Int)(n:Nat)(d:Int):mo y (n+1) d=if d<dim y (12 -(n:Int))then(d,12 -(n:Int))else mo y n (d -dim y (12 -(n:Int))):=rfl
def rem(y:Int):Nat->Int
 |0=>0|n+1=>dim y (12 -n)+rem y n
theorem b0d(y:Int):rem y 12=diy y:=by unfold diy;cases h:il y<;>simp[rem,dim,h]
theorem a8O(y:Int):∀(n:Nat) (d:Int),n<=12->0<=d->d<rem y n->1<=(mo y n d).2/\(mo y n d).2<=12/\0<=(mo y n d).1/\(mo y n d).1<dim y (mo y n d).2
 |0,d,_,h0,h=>by simp[rem]at h;omega|n+1,d,hn,h0,h=>by
  unfold mo;by_cases hd:d<dim y (12 -n)
  ·rw[if_pos hd];refine⟨?_,?_,h0,hd⟩<;>simp<;>omega
  ·rw[if_neg hd];refine a8O y n _ l7 l7 ?_;simp only[rem]at h;omega
def yOf(d:Int):Int:=((((List.range 300).find? (λ(k:Nat)=>decide (d<ys (1900+(k:Int)+1)))).getD 0:Nat):Int)+1900
theorem Py{d:Int}(h0:0<=d)(h:d<=109572):1900<=yOf d/\yOf d<=2199/\ys (yOf d)<=d/\d<ys (yOf d+1):=by
 unfold yOf;cases hf:(List.range 300).find? (λ(k:Nat)=>decide (d<ys (1900+(k:Int)+1)))with
 |none=>
  have:=List.find?_eq_none.1 hf 299 A7;simp only[decide_eq_true_eq]at this;have e:ys (1900+(299:Nat)+1)=109573:=by decide+kernel
  omega
 |some k=>
  have h1:=List.find?_some hf;simp only[decide_eq_true_eq]at h1;have h2:=List.mem_of_find?_eq_some hf;simp only[U3]at h2;simp only[dB];refine⟨l7,l7,?_,?_⟩
  ·cases k with
   |zero=>
    have e:ys 1900=0:=by decide+kernel
    simp[e,h0]
   |succ j=>have h3:=List.find?_range_eq_some.1 hf;have h4:=h3.2.2 j l7;simp only[bH,decide_eq_false_iff_not,fZ]at h4;have e:(((j+1:Nat):Int)+1900)=1900+(j:Int)+1:=l7;rw[e];exact h4
  ·have e:(k:Int)+1900+1=1900+k+1:=l7;rw[e];exact h1
def nU(d:Int):Int×Int×Int:=let y:=yOf d;let r:=mo y 12 (d -ys y);(y,r.2,r.1+1)
theorem Bo{d:Int}(h0:0<=d)(h:d<=109572):uB d=some (nU d):=by
 obtain⟨y1,y2,y3,y4⟩:=Py h0 h;have y0:=Ld y1;unfold uB uC;rw[CO (X5 h0),o9,X5 h,F9,o6];have e0:D7 .i64 1900 (bQ .i64 d 366)=1900+d / 366:=by
  have e:bQ .i64 d 366=d / 366:=by rw[xW (by rw[iW h0];unfold jc;omega),iW h0]
  rw[e,V5 O6]
 rw[e0];obtain⟨y,hy,hq⟩:=gW (f:=λ(x:Int)=>o5 (pR (D7 IntKind.i64 x 1)) λ(x_1:Int)=>l9 (J6 x_1 d) (some (Sum.inl (D7 IntKind.i64 x 1))) (some (Sum.inr x))) (s:=1900+d / 366)
  (λy=>1900<=y/\y<=yOf d) (λy=>y=yOf d) (λy=>(2200 -y).toNat) (by
   refine⟨l7,?_⟩;have e:∀n:Nat,ys (1900+n)<=366*n:=by
    intro n;induction n with
    |zero=>decide+kernel|succ n ih=>have:=Ff (1900+n);have:=PU (1900+n);have e:(1900:Int)+((n+1:Nat):Int)=1900+n+1:=l7;rw[e];omega
   have e1:=e (d / 366).toNat
   have e2:((d / 366).toNat:Int)=d / 366:=l7;rw[e2]at e1;rcases Lj (yOf d) (1900+d / 366)with hlt|hge
   ·have:=rP (y:=yOf d+1) (y' :=1900+d / 366) l7;omega
   ·exact hge) l7 (by
   intro y ⟨hy1,hy2⟩
   try simp only
   rw[V5 O6,zF l7 l7,o9];by_cases hle:ys (y+1)<=d
   ·refine .inl ⟨y+1,by rw[CO (X5 hle)],⟨l7,?_⟩,l7⟩;rcases Lj (yOf d) (y+1)with hlt|hge
    ·have:=rP (y:=yOf d+1) (y' :=y+1) l7;omega
    ·exact hge
   ·refine .inr ⟨y,by rw[Gz (Y1 l7)],?_⟩;rcases Lj y (yOf d)with hlt|hge
    ·have:=rP (y:=y+1) (y' :=yOf d) l7;omega
    ·omega)
 rw[hy,o9,hq,zF l7 l7,o9,U2 O6];have hs:=Ff (yOf d);have hr:=b0d (yOf d);rcases DL (f:=λ(x:Int×Int)=>l9 (D9 x.2 12) (o5 (je (yOf d) (D7 IntKind.i64 x.2 1)) λ(x_1:Int)=>l9 (D9 x.1 x_1) (some (Out.rt (yOf d,D7 IntKind.i64 x.2 1,D7 IntKind.i64 x.1 1))) (some (Out.nx (H9 IntKind.i64 x.1 x_1,D7 IntKind.i64 x.2 1)))) (some (Out.ex PUnit.unit))) (s:=(d -ys (yOf d),0))
  (λs=>∃n:Nat,n<=12/\s.2=12 -n/\mo (yOf d) n s.1=mo (yOf d) 12 (d -ys (yOf d))/\0<=s.1/\s.1<rem (yOf d) n/\s.1<=400) (λ_=>False) (λr=>r=nU d) (λs=>(12 -s.2).toNat)
  ⟨12,l7,A7,rfl,l7,by rw[hr];show d -ys (yOf d)<_;omega,by have:=PU (yOf d);show d -ys (yOf d)<=400;omega⟩ A7 (by
   rintro⟨r,i⟩ ⟨n,hn,hi,hm,hr0,hrn,hr4⟩;simp only at hi hm hr0 hrn hr4 ⊢;cases n with
   |zero=>simp[rem]at hrn;omega|succ n=>
    have ei:i+1=12 -n:=l7;rw[CO (U5 l7),V5 O6,ei,sW l7 l7,o9];have hb:=AP (yOf d) (12 -n);rw[a5g (yOf d) n r]at hm;by_cases hlt:r<dim (yOf d) (12 -n)
    ·rw[if_pos hlt]at hm;refine .inr (.inr ⟨_,by rw[CO (U5 hlt)],?_⟩);rw[V5 O6];unfold nU
     try simp only
     rw[←hm]
    ·rw[if_neg hlt]at hm;refine .inl ⟨_,by rw[Gz (L6 l7),U2 O6],⟨n,l7,A7,hm,?_,?_,?_⟩,?_⟩
     ·simp;omega
     ·simp only[rem]at hrn ⊢;omega
     ·simp;omega
     ·simp;omega)with⟨_,_,hf⟩|⟨r,he,hr⟩
 ·exact hf.elim
 ·rw[he,o9,Gs,hr]
theorem JB{d:Int}(h0:0<=d)(h:d<=109572):BO d=some (nU d):=by
 obtain⟨y1,y2,y3,y4⟩:=Py h0 h;have y0:=Ld y1;unfold BO wQ;rw[CO (X5 h0),o9,X5 h,F9,o6];obtain⟨⟨r,y⟩,hy,hq⟩:=gW (f:=λ(x:Int×Int)=>o5 (kQ x.2) λ(x_1:Int)=>l9 (J6 x_1 x.1) (o5 (kQ x.2) λ(x_2:Int)=>some (Sum.inl (H9 IntKind.i64 x.1 x_2,D7 IntKind.i64 x.2 1))) (some (Sum.inr x))) (s:=(d,1900))
  (λs=>1900<=s.2/\s.2<=yOf d/\s.1=d -ys s.2) (λs=>s=(d -ys (yOf d),yOf d)) (λs=>(2200 -s.2).toNat)
  ⟨A7,by simpa using y1,by(have e:ys 1900=0:=by decide+kernel);simp[e]⟩ A7 (by
   rintro⟨r,y⟩ ⟨h1,h2,h3⟩;simp only at h1 h2 h3 ⊢;have hb:=PU y;have hs:=Ff y;have hm:=rP h2;have hpos:0<=ys y:=by
     have:=rP (y:=1900) (y' :=y) h1;have e:ys 1900=0:=by decide+kernel
     omega
   rw[CG l7,o9];by_cases hle:diy y<=r
   ·refine .inl ⟨(r -diy y,y+1),?_,⟨by simp;omega,?_,?_⟩,?_⟩
    ·rw[CO (X5 hle),o9,U2 O6,V5 O6]
    ·simp only;rcases Lj (yOf d) (y+1)with hlt|hge
     ·have:=rP (y:=yOf d+1) (y' :=y+1) l7;omega
     ·exact hge
    ·simp only;omega
    ·simp;omega
   ·refine .inr ⟨_,by rw[Gz (Y1 l7)],?_⟩;have e:y=yOf d:=a7m (d:=d) l7 l7 y3 y4;subst e;rw[h3])
 rw[hy,o9,hq]
 try simp only
 have hs:=Ff (yOf d);have hr:=b0d (yOf d);obtain⟨⟨r,m⟩,he,hq2⟩:=gW (f:=λ(x:Int×Int)=>o5 (gG (yOf d) x.2) λ(x_1:Int)=>l9 (J6 x_1 x.1) (o5 (gG (yOf d) x.2) λ(x_2:Int)=>some (Sum.inl (H9 IntKind.i64 x.1 x_2,D7 IntKind.i64 x.2 1))) (some (Sum.inr x))) (s:=(d -ys (yOf d),1))
  (λs=>∃n:Nat,n<=12/\s.2=13 -n/\mo (yOf d) n s.1=mo (yOf d) 12 (d -ys (yOf d))/\0<=s.1/\s.1<rem (yOf d) n/\s.1<=400) (λs=>s=mo (yOf d) 12 (d -ys (yOf d))) (λs=>(13 -s.2).toNat)
  ⟨12,l7,A7,rfl,l7,by rw[hr];show d -ys (yOf d)<_;omega,by have:=PU (yOf d);show d -ys (yOf d)<=400;omega⟩ A7 (by
   rintro⟨r,i⟩ ⟨n,hn,hi,hm,hr0,hrn,hr4⟩;simp only at hi hm hr0 hrn hr4 ⊢;cases n with
   |zero=>simp[rem]at hrn;omega|succ n=>
    have ei:i=12 -n:=l7;subst ei;rw[rE l7 l7,o9];have hb:=AP (yOf d) (12 -n);rw[a5g (yOf d) n r]at hm;by_cases hlt:r<dim (yOf d) (12 -n)
    ·rw[if_pos hlt]at hm;exact .inr ⟨_,by rw[Gz (Y1 l7)],hm⟩
    ·rw[if_neg hlt]at hm;refine .inl ⟨(r -dim (yOf d) (12 -n),12 -n+1),by rw[CO (X5 l7),o9,U2 O6,V5 O6],⟨n,l7,by simp;omega,hm,?_,?_,?_⟩,?_⟩
     ·simp;omega
     ·simp only[rem]at hrn ⊢;omega
     ·simp;omega
     ·simp;omega)
 rw[he,o9,hq2];have hb:=a8O (yOf d) 12 (d -ys (yOf d)) l7 l7 (by rw[hr];omega);have hb2:=AP (yOf d) (mo (yOf d) 12 (d -ys (yOf d))).2;rw[V5 O6];rfl
theorem JY{d:Int}(h0:0<=d)(h:d<=109572):1900<=(nU d).1/\(nU d).1<=2199/\1<=(nU d).2.1/\(nU d).2.1<=12/\1<=(nU d).2.2/\(nU d).2.2<=31:=by
 obtain⟨y1,y2,y3,y4⟩:=Py h0 h;have y0:=Ld y1;have hs:=Ff (yOf d);have hb:=a8O (yOf d) 12 (d -ys (yOf d)) l7 l7 (by rw[b0d];omega);have hb2:=AP (yOf d) (mo (yOf d) 12 (d -ys (yOf d))).2;unfold nU
 try simp only
 omega
end Gt
namespace Go.GP
open Gt
set_option maxRecDepth 100000
def uJ(y:Int):Nat->Int
 |0=>0|k+1=>uJ y k+dim y ((k:Int)+1)
def a0o(y m d:Int):Int:=ys y+uJ y (m -1).toNat+d -1
theorem Oh(y:Int):∀k:Nat,k<=12->28*k<=uJ y k/\uJ y k<=31*k
 |0,_=>by simp[uJ]|k+1,h=>by have:=Oh y k l7;have:=AP y ((k:Int)+1);unfold uJ;omega
theorem a6v(y:Int):uJ y 12=diy y:=by unfold uJ uJ uJ uJ uJ uJ uJ uJ uJ uJ uJ uJ uJ dim diy;simp;cases il y<;>simp
theorem a5h(y:Int):∀j k:Nat,j<=k->uJ y j<=uJ y k
 |j,0,h=>by have:j=0:=l7;subst this;omega|j,k+1,h=>by
  by_cases hq:j=k+1
  ·subst hq;omega
  ·have:=a5h y j k l7;have:=AP y ((k:Int)+1);show uJ y j<=uJ y k+dim y ((k:Int)+1);omega
theorem b2h{y m d:Int}(hm:1<=m/\m<=12)(h1:1<=d)(h2:d<=dim y m):ys y<=a0o y m d/\a0o y m d<ys (y+1):=by
 have h3:=a5h y ((m -1).toNat+1) 12 l7;rw[a6v]at h3;have h4:uJ y ((m -1).toNat+1)=uJ y (m -1).toNat+dim y m:=by show uJ y (m -1).toNat+dim y (((m -1).toNat:Int)+1)=_;rw[X4 l7];congr 2;omega
 have h5:=Oh y (m -1).toNat l7;have h6:=Ff y;unfold a0o;omega
theorem b1U{y:Int}(h:1900<=y)(h2:y<=2200):0<=ys y/\ys y<=109573:=by
 have h1:=Ld h;have h3:=rP h2;have:ys 2200=109573:=by decide
 omega
theorem a2P{y m d:Int}(hy:1900<=y/\y<=2199)(hm:1<=m/\m<=12)(h1:1<=d)(h2:d<=dim y m):CP y m d=some (a0o y m d,0):=by
 have hyb:=b1U hy.1 l7;have hdb:=AP y m;unfold CP;rw[L6 hy.1,o6,L6 hy.2,o6,L6 hm.1,o6,L6 hm.2,o6,L6 h1,o6,sW l7 hm,o9,L6 h2,o6,o9,X7,zF l7 l7,o9];have hs:H9 .i64 m 1=m -1:=U2 O6;obtain⟨e,k1,k2⟩:=gW (f:=λ(x:Int×Int)=>l9 (D9 x.2 (H9 .i64 m 1)) (o5 (je y (D7 .i64 x.2 1)) λ(x_1:Int)=>some (.inl (D7 .i64 x.1 x_1,D7 .i64 x.2 1))) (some (.inr x.1)))
  (s:=(ys y,0)) (λx=>∃i:Nat,x=(ys y+uJ y i,(i:Int))/\(i:Int)<=m -1) (λe=>e=ys y+uJ y (m -1).toNat) (λx=>(m -1 -x.2).toNat) ⟨0,by simp[uJ],l7⟩ az (by
  rintro x ⟨i,rfl,hi⟩;simp only[hs];by_cases hlt:(i:Int)<m -1
  ·have hb:=Oh y i l7;have hd:=AP y ((i:Int)+1);left;refine⟨(ys y+uJ y (i+1),((i+1:Nat):Int)),?_,⟨i+1,rfl,l7⟩,by simp;omega⟩;rw[U5 hlt,o7,fP l7,show(((i+1:Nat):Int))=(i:Int)+1 by omega,sW l7 l7,o9,V5 O6];simp only[uJ];rw[Int.add_assoc]
  ·right;have:i=(m -1).toNat:=l7;subst this;exact⟨_,by rw[L6 l7];rfl,rfl⟩)
 refine(rC k1 _).trans ?_;have hb:=Oh y (m -1).toNat l7;rw[k2,V5 O6,U2 O6];rfl
theorem a1t{y m d:Int}(hy:1900<=y/\y<=2199)(hm:1<=m/\m<=12)(h1:1<=d)(h2:d<=dim y m):yg y m d=some (a0o y m d,0):=by
 have hyb:=b1U hy.1 l7;have hdb:=AP y m;unfold yg;rw[L6 hy.1,o6,L6 hy.2,o6,L6 h1,o6,rE l7 hm,o9,L6 h2,o6,o9,X7,U2 O6];obtain⟨e,k1,k2⟩:=gW (f:=λ(x:Int×Int)=>l9 (D9 x.2 y) (o5 (kQ x.2) λ(x_1:Int)=>some (.inl (D7 .i64 x.1 x_1,D7 .i64 x.2 1))) (some (.inr x.1)))
  (s:=(d -1,1900)) (λx=>∃i:Int,x=(d -1+ys i,i)/\1900<=i/\i<=y) (λe=>e=d -1+ys y) (λx=>(y -x.2).toNat) ⟨1900,by simp[show ys 1900=0 by decide],l7,l7⟩ az (by
  rintro x ⟨i,rfl,hi,hi2⟩;by_cases hlt:i<y
  ·left;have hb:=b1U hi l7;have hd:=PU i;refine⟨(d -1+ys (i+1),i+1),?_,⟨i+1,rfl,l7,l7⟩,by simp;omega⟩;simp only;rw[U5 hlt,o7,CG l7,o9,V5 O6,V5 O6,Ff,Int.add_assoc]
  ·right;have:i=y:=l7;subst this;exact⟨_,by simp only[L6 (show i<=i by omega)];rfl,rfl⟩)
 refine(rC k1 _).trans ?_;subst k2;obtain⟨e,k1,k2⟩:=gW (f:=λ(x:Int×Int)=>l9 (D9 x.2 m) (o5 (gG y x.2) λ(x_1:Int)=>some (.inl (D7 .i64 x.1 x_1,D7 .i64 x.2 1))) (some (.inr x.1)))
  (s:=(d -1+ys y,1)) (λx=>∃i:Nat,x=(d -1+ys y+uJ y i,(i:Int)+1)/\(i:Int)<=m -1) (λe=>e=d -1+ys y+uJ y (m -1).toNat) (λx=>(m -x.2).toNat) ⟨0,by simp[uJ],l7⟩ az (by
  rintro x ⟨i,rfl,hi⟩;by_cases hlt:(i:Int)+1<m
  ·have hb:=Oh y i l7;have hd:=AP y ((i:Int)+1);left;refine⟨(d -1+ys y+uJ y (i+1),((i+1:Nat):Int)+1),?_,⟨i+1,rfl,l7⟩,by simp;omega⟩;simp only;rw[U5 hlt,o7,rE l7 l7,o9,V5 O6,V5 O6];simp only[uJ];rw[Int.add_assoc (d -1+ys y)];simp
  ·right;have:i=(m -1).toNat:=l7;subst this;exact⟨_,by simp only[L6 (show m<=((m -1).toNat:Int)+1 by omega)];rfl,rfl⟩)
 refine(rC k1 _).trans ?_;rw[k2];unfold a0o;rw[show d -1+ys y+uJ y (m -1).toNat=ys y+uJ y (m -1).toNat+d -1 by omega]
def a5P(d n:Int):Int×Int:=
 if ¬(0<=d/\d<=109572)\/n< -3600\/3600<n then(0,3)else
  if((nU d).1 -1900)*12+(nU d).2.1 -1+n<0\/3599<((nU d).1 -1900)*12+(nU d).2.1 -1+n then(0,3)else
   (a0o (1900+(((nU d).1 -1900)*12+(nU d).2.1 -1+n) / 12) ((((nU d).1 -1900)*12+(nU d).2.1 -1+n) % 12+1) (qF (nU d).2.2 (dim (1900+(((nU d).1 -1900)*12+(nU d).2.1 -1+n) / 12) ((((nU d).1 -1900)*12+(nU d).2.1 -1+n) % 12+1))),0)
theorem KE(a b:Int):qF a b=if b<a then b else a:=rfl
theorem Nz(d n:Int):tN d n=some (a5P d n):=by
 unfold tN uC a5P;by_cases h0:0<=d/\d<=109572
 case neg=>
  rw[if_pos (.inl h0)];by_cases h1:0<=d
  ·rw[X5 h1,Y1 l7];rfl
  ·rw[Y1 l7];rfl
 rw[X5 h0.1,X5 h0.2,o7,o9,F9,o6];by_cases h1:n< -3600
 ·rw[U5 h1,if_pos (.inr (.inl h1))];rfl
 by_cases h2:3600<n
 ·rw[L6 l7,U5 h2,if_pos (.inr (.inr h2))];rfl
 rw[L6 l7,L6 l7,if_neg l7,o6,o6,o9,X7,Bo h0.1 h0.2,o9];obtain⟨b1,b2,b3,b4,b5,b6⟩:=JY h0.1 h0.2;generalize nU d=q at*;obtain⟨y,m,dd⟩:=q;simp only at b1 b2 b3 b4 b5 b6 ⊢;have e1:H9 .i64 y 1900=y -1900:=U2 O6;have e2:X9 .i64 (y -1900) 12=(y -1900)*12:=lh O6;have e3:D7 .i64 ((y -1900)*12) m=(y -1900)*12+m:=V5 O6;have e4:H9 .i64 ((y -1900)*12+m) 1=(y -1900)*12+m -1:=U2 O6;have e5:D7 .i64 ((y -1900)*12+m -1) n=(y -1900)*12+m -1+n:=V5 O6;rw[e1,e2,e3,e4,e5];generalize ht:(y -1900)*12+m -1+n=t;by_cases t0:t<0
 ·rw[U5 t0,if_pos (.inl t0)];rfl
 by_cases t1:3599<t
 ·rw[L6 l7,U5 t1,if_pos (.inr t1)];rfl
 rw[L6 l7,L6 l7,if_neg l7,o6,o6];have e6:bQ .i64 t 12=t / 12:=by rw[xW (by rw[iW l7];unfold jc;omega),iW l7]
 have e7:cZ t 12=t % 12:=xX l7;have e8:D7 .i64 1900 (t / 12)=1900+t / 12:=V5 O6;have e9:D7 .i64 (t % 12) 1=t % 12+1:=V5 O6;rw[e6,e7,e8,e9,sW l7 l7,o9];have hd:=AP (1900+t / 12) (t % 12+1);rw[a2P l7 l7 (by rw[KE];split<;>omega) (by rw[KE];split<;>omega)];rfl
theorem LU(d n:Int):oC d n=some (a5P d n):=by
 unfold oC wQ a5P;by_cases h0:0<=d/\d<=109572
 case neg=>
  rw[if_pos (.inl h0)];by_cases h1:0<=d
  ·rw[X5 h1,Y1 l7];rfl
  ·rw[Y1 l7];rfl
 rw[X5 h0.1,X5 h0.2,o7,o9,F9,o6];by_cases h1:n< -3600
 ·rw[U5 h1,if_pos (.inr (.inl h1))];rfl
 by_cases h2:3600<n
 ·rw[L6 l7,U5 h2,if_pos (.inr (.inr h2))];rfl
 rw[L6 l7,L6 l7,if_neg l7,o6,o6,o9,X7,JB h0.1 h0.2,o9];obtain⟨b1,b2,b3,b4,b5,b6⟩:=JY h0.1 h0.2;generalize nU d=q at*;obtain⟨y,m,dd⟩:=q;simp only at b1 b2 b3 b4 b5 b6 ⊢;have e2:X9 .i64 12 y=12*y:=lh O6;have e3:D7 .i64 (12*y) m=12*y+m:=V5 O6;have e4:H9 .i64 (12*y+m) 1=12*y+m -1:=U2 O6;have e5:D7 .i64 (12*y+m -1) n=12*y+m -1+n:=V5 O6;rw[e2,e3,e4,e5];generalize ht:(y -1900)*12+m -1+n=t;have hk:12*y+m -1+n=t+22800:=l7;rw[hk];have e6:bQ .i64 (t+22800) 12=1900+t / 12:=by rw[xW (by rw[iW l7];unfold jc;omega),iW l7];omega
 have e7:cZ (t+22800) 12=t % 12:=by rw[xX l7];omega
 have e9:D7 .i64 (t % 12) 1=t % 12+1:=V5 O6;rw[e6,e7,e9,rE l7 l7,o9];have hd:=AP (1900+t / 12) (t % 12+1);by_cases t0:t<0
 ·rw[if_pos (.inl t0)];unfold yg;rw[U5 (show 1900+t / 12<1900 by omega)];rfl
 by_cases t1:3599<t
 ·rw[if_pos (.inr t1)];unfold yg;rw[L6 (show 1900<=1900+t / 12 by omega),U5 (show 2199<1900+t / 12 by omega)];rfl
 rw[if_neg l7,a1t l7 l7 (by rw[KE];split<;>omega) (by rw[KE];split<;>omega)];rfl
def yrl(a k:Int):Int:=a0o ((nU a).1+k) (nU a).2.1 (qF (nU a).2.2 (dim ((nU a).1+k) (nU a).2.1))
theorem WY{a:Int}(h0:0<=a/\a<=109572){k:Int}(hk:0<=k)(hk2:k<=300):a5P a (12*k)=if(nU a).1+k<=2199 then(yrl a k,0)else(0,3):=by
 obtain⟨b1,b2,b3,b4,b5,b6⟩:=JY h0.1 h0.2;unfold a5P yrl;rw[if_neg l7];generalize nU a=q at*;obtain⟨y,m,dd⟩:=q;simp only at b1 b2 b3 b4 b5 b6 ⊢;have e1:1900+((y -1900)*12+m -1+12*k) / 12=y+k:=l7;have e2:((y -1900)*12+m -1+12*k) % 12+1=m:=l7;by_cases h:y+k<=2199
 ·rw[if_neg l7,if_pos h,e1,e2]
 ·rw[if_pos l7,if_neg h]
theorem b1T{a:Int}(h0:0<=a/\a<=109572)(k:Int):ys ((nU a).1+k)<=yrl a k/\yrl a k<ys ((nU a).1+k+1):=by obtain⟨b1,b2,b3,b4,b5,b6⟩:=JY h0.1 h0.2;have hd:=AP ((nU a).1+k) (nU a).2.1;unfold yrl;exact b2h ⟨b3,b4⟩ (by rw[KE];split<;>omega) (by rw[KE];split<;>omega)
theorem Pz{a:Int}(h0:0<=a/\a<=109572):ys (nU a).1<=a/\a<ys ((nU a).1+1):=by have:=Py h0.1 h0.2;exact⟨this.2.2.1,this.2.2.2⟩
def ZM(a b:Int):Int:=if 0<=a/\a<=109572/\0<=b/\b<=109572/\a<=b then
  (if(nU b).1 -(nU a).1<=0 then 0 else if yrl a ((nU b).1 -(nU a).1)<=b then(nU b).1 -(nU a).1 else(nU b).1 -(nU a).1 -1)else 0
theorem SG(a b:Int):nV a b=some (ZM a b):=by
 unfold nV uC ZM;by_cases ha0:0<=a
 case neg=>rw[Y1 l7,if_neg l7];rfl
 by_cases ha1:a<=109572
 case neg=>rw[X5 ha0,Y1 l7,if_neg l7];rfl
 rw[X5 ha0,X5 ha1,o7,o9,F9,o6];by_cases hb0:0<=b
 case neg=>rw[Y1 l7,if_neg l7];rfl
 by_cases hb1:b<=109572
 case neg=>rw[X5 hb0,Y1 l7,if_neg l7];rfl
 rw[X5 hb0,X5 hb1,o7,o9,F9,o6];by_cases hab:a<=b
 case neg=>rw[U5 l7,if_neg l7];rfl
 rw[L6 hab,o6,if_pos ⟨ha0,ha1,hb0,hb1,hab⟩,Bo ha0 ha1,o9,Bo hb0 hb1,o9];obtain⟨p1,p2,_,_,_,_⟩:=JY ha0 ha1;obtain⟨q1,q2,_,_,_,_⟩:=JY hb0 hb1;have ya:=Pz ⟨ha0,ha1⟩;have yb:=Pz ⟨hb0,hb1⟩;have hK:0<=(nU b).1 -(nU a).1:=by
  rcases Lj (nU b).1 (nU a).1 with h|h
  ·have:=rP (show(nU b).1+1<=(nU a).1 by omega);omega
  ·omega
 rw[U2 (show jc ((nU b).1 -(nU a).1) by unfold jc;omega)];have hle:(nU a).1+((nU b).1 -(nU a).1)<=2199:=l7;generalize (nU b).1 -(nU a).1=K at*;rw[lh (show jc (12*K) by unfold jc;omega),Nz,o9,WY ⟨ha0,ha1⟩ hK l7,if_pos hle];simp only[O8 (rfl:(0:Int)=0),F9,o6];rw[U2 (show jc (K -1) by unfold jc;omega)];have im:∀x:Int,nz x 0=if x<0 then 0 else x:=λx=>rfl;by_cases hz:K<=0
 ·have:K=0:=l7;subst this;rw[if_pos l7];cases D9 b (yrl a 0)<;>rfl
 ·rw[if_neg hz];by_cases hq:yrl a K<=b
  ·rw[if_pos hq,L6 hq,o6,im,if_neg l7]
  ·rw[if_neg hq,U5 l7,o7,im,if_neg l7]
theorem Qx(a b:Int):uK a b=some (ZM a b):=by
 unfold uK wQ ZM;by_cases ha0:0<=a
 case neg=>rw[Y1 l7,if_neg l7];rfl
 by_cases ha1:a<=109572
 case neg=>rw[X5 ha0,Y1 l7,if_neg l7];rfl
 rw[X5 ha0,X5 ha1,o7,o9,F9,o6];by_cases hb0:0<=b
 case neg=>rw[Y1 l7,if_neg l7];rfl
 by_cases hb1:b<=109572
 case neg=>rw[X5 hb0,Y1 l7,if_neg l7];rfl
 rw[X5 hb0,X5 hb1,o7,o9,F9,o6];obtain⟨p1,p2,_,_,_,_⟩:=JY ha0 ha1;obtain⟨q1,q2,_,_,_,_⟩:=JY hb0 hb1;have ya:=Pz ⟨ha0,ha1⟩;have yb:=Pz ⟨hb0,hb1⟩;have key:=DL (f:=λ(x:Int)=>o5 (oC a (X9 .i64 12 (D7 .i64 x 1))) λ(x_1:Int×Int)=>l9 (E9 (o8 x_1.2 0)) (some (.rt x)) (l9 (D9 b x_1.1) (some (.rt x)) (some (.nx (D7 .i64 x 1)))))
  (s:=0) (λx=>0<=x/\(x=0\/(x<=(nU b).1 -(nU a).1/\yrl a x<=b))) (λ(_:PUnit)=>False) (λr=>r=(if a<=b then(if(nU b).1 -(nU a).1<=0 then 0 else if yrl a ((nU b).1 -(nU a).1)<=b then(nU b).1 -(nU a).1 else(nU b).1 -(nU a).1 -1)else 0)) (λx=>(300 -x).toNat) ⟨l7,.inl rfl⟩ A7 (by
  rintro x ⟨hx0,hx⟩;have hx300:x<=299:=l7;rw[V5 (show jc (x+1) by unfold jc;omega),lh (show jc (12*(x+1)) by unfold jc;omega),LU,o9,WY ⟨ha0,ha1⟩ l7 l7];have hyb:=b1T ⟨ha0,ha1⟩ (x+1);have hyx:=b1T ⟨ha0,ha1⟩ x;have hmono:ys ((nU a).1+x+1)<=ys ((nU a).1+(x+1)):=rP l7;have hax:a<yrl a (x+1):=by have:=rP (show(nU a).1+1<=(nU a).1+(x+1) by omega);omega
  by_cases hq:(nU a).1+(x+1)<=2199/\yrl a (x+1)<=b
  ·left;obtain⟨hq1,hq2⟩:=hq;have hK:x+1<=(nU b).1 -(nU a).1:=by
    rcases Lj (nU b).1 ((nU a).1+(x+1))with h|h
    ·have:=rP (show(nU b).1+1<=(nU a).1+(x+1) by omega);omega
    ·omega
   refine⟨x+1,?_,⟨l7,.inr ⟨hK,hq2⟩⟩,l7⟩;rw[if_pos hq1];simp only[O8 (rfl:(0:Int)=0),F9,o6,L6 hq2]
  ·right;right;refine⟨x,?_,?_⟩
   ·by_cases hq1:(nU a).1+(x+1)<=2199
    ·rw[if_pos hq1];simp only[O8 (rfl:(0:Int)=0),F9,o6,U5 (show b<yrl a (x+1) by omega),o7]
    ·rw[if_neg hq1];rfl
   ·by_cases hab:a<=b
    case neg=>
     rw[if_neg hab];by_cases hx1:x=0
     ·exact hx1
     ·exfalso;have:=rP (show(nU a).1+1<=(nU a).1+x by omega);omega
    rw[if_pos hab];have hK:0<=(nU b).1 -(nU a).1:=by
     rcases Lj (nU b).1 (nU a).1 with h|h
     ·have:=rP (show(nU b).1+1<=(nU a).1 by omega);omega
     ·omega
    have hxK:x<=(nU b).1 -(nU a).1:=l7;by_cases hxe:x=(nU b).1 -(nU a).1
    ·by_cases hz:(nU b).1 -(nU a).1<=0
     ·rw[if_pos hz];omega
     ·rw[if_neg hz];rcases hx with hx|hx
      ·omega
      ·rw[←hxe,if_pos hx.2]
    ·have hlt:x+1<=(nU b).1 -(nU a).1:=l7;rw[if_neg l7];have hyr:(nU a).1+(x+1)<=2199:=l7;have hgt:b<yrl a (x+1):=by
      have:=λh=>hq ⟨hyr,h⟩;omega
     have heq:x+1=(nU b).1 -(nU a).1:=by
      rcases Lj (x+1) ((nU b).1 -(nU a).1)with h|h
      ·have:=rP (show(nU a).1+(x+1)+1<=(nU b).1 by omega);omega
      ·omega
     rw[←heq,if_neg l7];omega)
 rcases key with⟨e,_,h⟩|⟨r,k1,k2⟩
 ·exact h.elim
 ·refine(rC k1 _).trans ?_;rw[k2];by_cases hab:a<=b
  ·rw[if_pos hab,if_pos (show 0<=a/\a<=109572/\0<=b/\b<=109572/\a<=b from⟨ha0,ha1,hb0,hb1,hab⟩)];rfl
  ·rw[if_neg hab,if_neg l7];rfl
def a4X:List UInt8:=(List.range 256).map λn=>UInt8.ofNat (if n=0 then 0 else Nat.log2 n+1)
theorem a8C:∀n:Fin 256,∃k:Fin 9,a4X[n.val]? =some (UInt8.ofNat k.val)/\n.val<2^k.val/\(0<n.val->0<k.val/\2^(k.val -1)<=n.val):=by decide+kernel
def a5M(n:Int)(k:Nat):Prop:=n<2^k/\(0<n->0<k/\2^(k -1)<=n)
theorem b3s{n:Int}(h0:0<=n)(h:n<256):wrap .u8 n=n:=by unfold wrap IntKind.wrap;simp[IntKind.signed,IntKind.bits];omega
theorem b2o{n:Int}(h0:0<=n)(h:n<256):∃k:Nat,k<=8/\sat a4X (wrap .u8 n)=some (k:Int)/\a5M n k:=by
 rw[b3s h0 h];obtain⟨k,k1,k2,k3⟩:=a8C ⟨n.toNat,l7⟩;refine⟨k.val,l7,?_,?_,λhp=>?_⟩
 ·unfold sat
  rw[if_pos h0];simp only at k1;rw[k1];simp;have:=k.isLt;omega
 ·simp only at k2;have:((n.toNat:Nat):Int)<((2^k.val:Nat):Int):=l7;rw[X4 h0,qY]at this;exact this
 ·simp only at k3;obtain⟨a,b⟩:=k3 l7;refine⟨a,?_⟩;have:((2^(k.val -1):Nat):Int)<=((n.toNat:Nat):Int):=l7;rw[X4 h0,qY]at this;exact this
theorem NY{n:Int}{k:Nat}(hk:k<=64):rY .u64 n (k:Int)=n / 2^k:=by unfold rY;rw[O9,show IntKind.bits .u64=64 from rfl,show min k 64=k by omega];exact Int.fdiv_eq_ediv_of_nonneg _ (Int.pow_nonneg l7)
theorem a5M.shift{n:Int}{j k:Nat}(h:a5M (n / 2^j) k)(hn:2^j<=n):a5M n (j+k):=by
 have hp:(0:Int)<2^j:=Int.pow_pos l7;have h1:0<n / 2^j:=by have:=pY hp (show 1*2^j<=n by omega);omega
 obtain⟨a,b⟩:=h;obtain⟨b1,b2⟩:=b h1;have hdm:=Int.mul_ediv_add_emod n (2^j);have hm:=J8 n hp;have hm0:=P6 n (show(2:Int)^j≠0 by omega);refine⟨?_,λ_=>⟨l7,?_⟩⟩
 ·have:(2:Int)^j*(n / 2^j+1)<=2^j*2^k:=Int.mul_le_mul_of_nonneg_left l7 l7;rw[Int.mul_add,Int.mul_one]at this;rw[Int.pow_add];omega
 ·have:(2:Int)^j*2^(k -1)<=2^j*(n / 2^j):=Int.mul_le_mul_of_nonneg_left b2 l7;rw[show j+k -1=j+(k -1) by omega,Int.pow_add];omega
theorem a8B:([0,1,2,2,3,3,3,3,4,4,4,4,4,4,4,4,5,5,5,5,5,5,5,5,5,5,5,5,5,5,5,5,6,6,6,6,6,6,6,6,6,6,6,6,6,6,6,6,6,6,
  6,6,6,6,6,6,6,6,6,6,6,6,6,6,7,7,7,7,7,7,7,7,7,7,7,7,7,7,7,7,7,7,7,7,7,7,7,7,7,7,7,7,7,7,7,7,7,7,7,7,
  7,7,7,7,7,7,7,7,7,7,7,7,7,7,7,7,7,7,7,7,7,7,7,7,7,7,7,7,8,8,8,8,8,8,8,8,8,8,8,8,8,8,8,8,8,8,8,8,8,8,
  8,8,8,8,8,8,8,8,8,8,8,8,8,8,8,8,8,8,8,8,8,8,8,8,8,8,8,8,8,8,8,8,8,8,8,8,8,8,8,8,8,8,8,8,8,8,8,8,8,8,
  8,8,8,8,8,8,8,8,8,8,8,8,8,8,8,8,8,8,8,8,8,8,8,8,8,8,8,8,8,8,8,8,8,8,8,8,8,8,8,8,8,8,8,8,8,8,8,8,8,8,
  8,8,8,8,8,8]:List UInt8)=a4X:=by decide+kernel
theorem ny{n:Int}(h0:0<=n)(h:n<=1000):wrap .i64 n=n:=lF O6
theorem Iz{a b:Int}(h0:0<=a)(h1:a<=1000)(h2:0<=b)(h3:b<=1000):D7 .i64 a b=a+b:=V5 O6
theorem a8A{n:Int}(h0:0<=n)(h:n<18446744073709551616):∃k:Nat,k<=64/\yJ n=some (k:Int)/\a5M n k:=by
 have s32:∀m:Int,rY .u64 m 32=m / 2^32:=λm=>NY (k:=32) l7;have s16:∀m:Int,rY .u64 m 16=m / 2^16:=λm=>NY (k:=16) l7;have s8:∀m:Int,rY .u64 m 8=m / 2^8:=λm=>NY (k:=8) l7;unfold yJ;rw[a8B,s32,s16,s16,s8,s8,s8,s8];have ow:∀(m:Int) (a:Int) (K:Nat),0<=m->m<256->a=(K:Int)->K<=56->∀(g:Int->Int),(∀x,0<=x->x<=8->g x=a+x)->∃k:Nat,k<=8/\(o5 (sat a4X (wrap .u8 m)) λ(x:Int)=>some (g x))=some (((K+k:Nat):Int))/\a5M m k:=by intro m a K m0 m1 ha hK g hg;obtain⟨k,k1,k2,k3⟩:=b2o m0 m1;refine⟨k,k1,?_,k3⟩;rw[k2,o9,hg _ l7 l7,ha];simp
 by_cases c32:4294967296<=n
 ·rw[X5 c32,o7];by_cases c16:65536<=n / 2^32
  ·rw[X5 c16,o7];by_cases c8:256<=n / 2^32 / 2^16
   ·rw[X5 c8,o7];obtain⟨k,k1,k2,k3⟩:=ow (n / 2^32 / 2^16 / 2^8) 56 56 l7 l7 rfl l7 (λx=>D7 .i64 (D7 .i64 (D7 .i64 32 16) 8) (wrap .i64 x)) (λx x0 x1=>by
     rw[ny x0 l7,show D7 .i64 (D7 .i64 32 16) 8=56 by decide,Iz l7 l7 l7 l7])
    exact⟨56+k,l7,k2,by have:=((k3.shift (j:=8) l7).shift (j:=16) l7).shift (j:=32) l7;rw[show 32+(16+(8+k))=56+k by omega]at this;exact this⟩
   ·rw[Y1 l7,o6];obtain⟨k,k1,k2,k3⟩:=ow (n / 2^32 / 2^16) 48 48 l7 l7 rfl l7 (λx=>D7 .i64 (D7 .i64 32 16) (wrap .i64 x)) (λx x0 x1=>by
     rw[ny x0 l7,Iz (a:=32) l7 l7 l7 l7,Iz l7 l7 l7 l7];rfl)
    exact⟨48+k,l7,k2,by have:=(k3.shift (j:=16) l7).shift (j:=32) l7;rw[show 32+(16+k)=48+k by omega]at this;exact this⟩
  ·rw[Y1 l7,o6];by_cases c8:256<=n / 2^32
   ·rw[X5 c8,o7];obtain⟨k,k1,k2,k3⟩:=ow (n / 2^32 / 2^8) 40 40 l7 l7 rfl l7 (λx=>D7 .i64 (D7 .i64 32 8) (wrap .i64 x)) (λx x0 x1=>by
     rw[ny x0 l7,Iz (a:=32) l7 l7 l7 l7,Iz l7 l7 l7 l7];rfl)
    exact⟨40+k,l7,k2,by have:=(k3.shift (j:=8) l7).shift (j:=32) l7;rw[show 32+(8+k)=40+k by omega]at this;exact this⟩
   ·rw[Y1 l7,o6];obtain⟨k,k1,k2,k3⟩:=ow (n / 2^32) 32 32 l7 l7 rfl l7 (λx=>D7 .i64 32 (wrap .i64 x)) (λx x0 x1=>by
     rw[ny x0 l7,Iz l7 l7 l7 l7])
    exact⟨32+k,l7,k2,k3.shift (j:=32) l7⟩
 ·rw[Y1 l7,o6];by_cases c16:65536<=n
  ·rw[X5 c16,o7];by_cases c8:256<=n / 2^16
   ·rw[X5 c8,o7];obtain⟨k,k1,k2,k3⟩:=ow (n / 2^16 / 2^8) 24 24 l7 l7 rfl l7 (λx=>D7 .i64 (D7 .i64 (D7 .i64 0 16) 8) (wrap .i64 x)) (λx x0 x1=>by
     rw[ny x0 l7,show D7 .i64 (D7 .i64 0 16) 8=24 by decide,Iz l7 l7 l7 l7])
    exact⟨24+k,l7,k2,by have:=(k3.shift (j:=8) l7).shift (j:=16) l7;rw[show 16+(8+k)=24+k by omega]at this;exact this⟩
   ·rw[Y1 l7,o6];obtain⟨k,k1,k2,k3⟩:=ow (n / 2^16) 16 16 l7 l7 rfl l7 (λx=>D7 .i64 (D7 .i64 0 16) (wrap .i64 x)) (λx x0 x1=>by
     rw[ny x0 l7,Iz (a:=0) l7 l7 l7 l7,Iz l7 l7 l7 l7];rfl)
    exact⟨16+k,l7,k2,k3.shift (j:=16) l7⟩
  ·rw[Y1 l7,o6];by_cases c8:256<=n
   ·rw[X5 c8,o7];obtain⟨k,k1,k2,k3⟩:=ow (n / 2^8) 8 8 l7 l7 rfl l7 (λx=>D7 .i64 (D7 .i64 0 8) (wrap .i64 x)) (λx x0 x1=>by
     rw[ny x0 l7,Iz (a:=0) l7 l7 l7 l7,Iz l7 l7 l7 l7];rfl)
    exact⟨8+k,l7,k2,k3.shift (j:=8) l7⟩
   ·rw[Y1 l7,o6];obtain⟨k,k1,k2,k3⟩:=ow n 0 0 l7 l7 rfl l7 (λx=>D7 .i64 0 (wrap .i64 x)) (λx x0 x1=>by
     rw[ny x0 l7,Iz l7 l7 l7 l7])
    exact⟨0+k,l7,k2,by rw[iy];exact k3⟩
theorem Cj{n:Int}(h0:0<=n)(h:n<18446744073709551616):IntKind.wrap .u64 n=n:=b1S (by unfold U64;omega)
theorem yw(n:Int):IntKind.wrap .u64 n=n % 18446744073709551616:=by unfold IntKind.wrap;simp[IntKind.signed,IntKind.bits]
def a3k{σ ε:Type}(f:σ->Option (σ⊕ε))(m:Nat)(o:Option (σ⊕ε)):Option ε:=match o with
 |some (.inl s')=>qi f m s'|some (.inr e)=>some e|none=>none
theorem a6s{σ ε:Type}(f:σ->Option (σ⊕ε))(m:Nat)(s:σ):qi f (m+1) s=a3k f m (f s):=by
 rw[qi];unfold a3k;cases f s with
 |none=>rfl|some o=>cases o<;>rfl
theorem Ug{σ:Type}(mkp:Int->Int->σ){f:σ->Option (σ⊕Int)}{y1 y0 U d:Int}(hy1:2147483648<=y1)(hy1' :y1<4294967296)(hy0:0<=y0)(hy0' :y0<4294967296)(hU:0<=U)(hUY:U<y1*4294967296+y0)(hd:0<=d)(hd' :d<4294967296)
  (hf:∀q r,0<=q->q<=4294967297->0<=r->r<4294967296->f (mkp q r)=l9 (J6 4294967296 q) (l9 (J6 4294967296 (D7 .u64 r y1)) (some (.inr (H9 .u64 q 1))) (some (.inl (mkp (H9 .u64 q 1) (D7 .u64 r y1)))))
   (l9 (D9 (D7 .u64 (X9 .u64 4294967296 r) d) (X9 .u64 q y0)) (l9 (J6 4294967296 (D7 .u64 r y1)) (some (.inr (H9 .u64 q 1))) (some (.inl (mkp (H9 .u64 q 1) (D7 .u64 r y1))))) (some (.inr q)))):
  ∃Q,dC f (mkp (U / y1) (U -U / y1*y1))=some Q/\0<=Q/\Q<4294967296/\Q*(y1*4294967296+y0)<=U*4294967296+d/\U*4294967296+d<(Q+1)*(y1*4294967296+y0):=by
 obtain⟨Y,hY⟩:∃Y,Y=y1*4294967296+y0:=⟨_,rfl⟩;have hYe:∀q:Int,q*Y=q*y1*4294967296+q*y0:=λq=>by rw[hY,Int.mul_add,←Int.mul_assoc]
 have hq0:0<=U / y1:=U7 hU l7;have hdm:=U4 U y1;have hm0:=P6 U (show y1≠0 by omega);have hm1:=J8 U (show 0<y1 by omega);have hqB:U / y1<=4294967297:=by
  rcases Lj 4294967297 (U / y1)with h|h
  ·have:=L8 (show 4294967298<=U / y1 by omega) (show 0<=y1 by omega);omega
  ·exact h
 obtain⟨n,hn⟩:∃n,n=(U / y1).toNat+1:=⟨_,rfl⟩;have key:∀(n:Nat) (q r:Int),0<=q->q<=4294967297->0<=r->r<4294967296->U=q*y1+r->U*4294967296+d<(q+1)*Y->q.toNat<n->∀m,n<=m->∃Q,qi f m (mkp q r)=some Q/\0<=Q/\Q<4294967296/\Q*Y<=U*4294967296+d/\U*4294967296+d<(Q+1)*Y:=by
  intro n;induction n with
  |zero=>intro q r _ _ _ _ _ _ h;omega|succ n ih=>
   intro q r q0 qB r0 rB hUq hlt hqn m hm;obtain⟨m,rfl⟩:∃m',m=m' +1:=⟨m -1,l7⟩;rw[a6s,hf q r q0 qB r0 rB];have e1:=hYe q;have e2:(q+1)*Y=q*Y+Y:=by rw[gq,dI]
   have hry:D7 .u64 r y1=r+y1:=Cj l7 l7;have g0:0<=q*y0:=P7 q0 hy0;have less:U*4294967296+d<q*Y->1<=q/\H9 .u64 q 1=q -1/\U=(q -1)*y1+(r+y1)/\(q -1+1)*Y=q*Y/\(q -1)*Y=q*Y -Y/\(q -1)*y0=q*y0 -y0:=by
    intro hgt;have hq1:1<=q:=by
     rcases Lj q 1 with h|h
     ·have:q=0:=l7;subst this;simp at hgt;omega
     ·exact h
    refine⟨hq1,Cj l7 l7,?_,?_,?_,?_⟩
    ·rw[kJ,dI];omega
    ·rw[show q -1+1=q by omega]
    ·rw[kJ,dI]
    ·rw[kJ,dI]
   have dec:U*4294967296+d<q*Y->∃Q,a3k f m (l9 (J6 4294967296 (r+y1)) (some (Sum.inr (H9 .u64 q 1))) (some (Sum.inl (mkp (H9 .u64 q 1) (r+y1)))))=some Q/\0<=Q/\Q<4294967296/\Q*Y<=U*4294967296+d/\U*4294967296+d<(Q+1)*Y:=by
    intro hgt;obtain⟨l1,l2,l3,l4,l5,l6⟩:=less hgt;rw[l2];by_cases hr:4294967296<=r+y1
    ·rw[X5 hr];have h6:(q -1)*y0<=4294967296*y0:=L8 l7 hy0;have h7:=hYe (q -1);have hle:(q -1)*Y<=U*4294967296+d:=by rw[h7,l3];omega
     refine⟨q -1,rfl,l7,?_,hle,by rw[l4];exact hgt⟩;rcases Lj (q -1) 4294967296 with h|h
     ·exact h
     ·have:=L8 h (show 0<=Y by omega);omega
    ·rw[Y1 l7];exact ih (q -1) (r+y1) l7 l7 l7 l7 l3 (by rw[l4];exact hgt) l7 m l7
   by_cases hqb:4294967296<=q
   ·rw[X5 hqb,o7,hry];have:=L8 hqb (show 0<=Y by omega);exact dec l7
   ·rw[Y1 l7,o6,hry];have g1:q*y0<=4294967295*y0:=L8 l7 hy0;have m1:X9 .u64 4294967296 r=4294967296*r:=Cj l7 l7;have m2:D7 .u64 (4294967296*r) d=4294967296*r+d:=Cj l7 l7;have m3:X9 .u64 q y0=q*y0:=Cj g0 l7;rw[m1,m2,m3];by_cases hc:4294967296*r+d<q*y0
    ·rw[U5 hc,o7];exact dec (by rw[e1];omega)
    ·rw[L6 l7,o6];exact⟨q,rfl,q0,l7,by rw[e1];omega,hlt⟩
 rw[←hY];refine key n (U / y1) (U -U / y1*y1) hq0 hqB l7 l7 l7 ?_ l7 jS (by unfold jS;omega);have e1:=hYe (U / y1);rw[gq,dI,e1];have:=P7 hq0 hy0;omega
theorem NG{n:Int}(h0:0<=n)(h:n<18446744073709551616):(BitVec.ofInt 64 n).toNat=n.toNat:=by rw[BitVec.toNat_ofInt];have e:((2^64:Nat):Int)=18446744073709551616:=rfl;rw[e,Int.emod_eq_of_lt h0 h]
theorem XD{n:Int}(h0:0<=n)(h:n<18446744073709551616):a0I .u64 n 4294967295=n % 4294967296:=by unfold a0I;rw[show IntKind.bits .u64=64 from rfl,BitVec.toNat_and,NG h0 h,NG G7 G7];rw[show(4294967295:Int).toNat=2^32 -1 from rfl,Nat.and_two_pow_sub_one_eq_mod];rw[Cj l7 l7];omega
theorem b2m{a c:Int}{s:Nat}(ha0:0<=a)(hc0:0<=c)(hc:c<2^s)(h:a*2^s+c<18446744073709551616):ior .u64 (a*2^s) c=a*2^s+c:=by
 have hp:(0:Int)<2^s:=Int.pow_pos l7;have hap:0<=a*2^s:=P7 ha0 l7;unfold ior;rw[show IntKind.bits .u64=64 from rfl,BitVec.toNat_or,NG hap l7,NG hc0 l7];obtain⟨m,rfl⟩:∃m:Nat,a=(m:Int):=⟨a.toNat,l7⟩;obtain⟨k,rfl⟩:∃k:Nat,c=(k:Int):=⟨c.toNat,l7⟩;have hk:k<2^s:=by exact_mod_cast hc
 have e1:((m:Int)*2^s).toNat=m<<<s:=by
  rw[Nat.shiftLeft_eq];have:((m:Int)*2^s)=((m*2^s:Nat):Int):=by rw[qX,qY];rfl
  rw[this];rfl
 rw[e1,O9,←Nat.shiftLeft_add_eq_or_of_lt hk,Nat.shiftLeft_eq];have e2:((m*2^s+k:Nat):Int)=(m:Int)*2^s+(k:Int):=by rw[Int.natCast_add,qX,qY];rfl
 rw[e2];exact Cj l7 h
theorem a0n(a b c d:Int):H9 .u64 (D7 .u64 (X9 .u64 a 4294967296) b) (X9 .u64 c d)=(a*4294967296+b -c*d) % 18446744073709551616:=by unfold H9 D7 X9;rw[yw,yw,yw,yw];generalize c*d=z;omega
theorem b7b{y:Int}(h0:0<y)(h:y<18446744073709551616):∃s:Nat,s<=63/\mO y=some (s:Int)/\9223372036854775808<=y*2^s/\y*2^s<18446744073709551616:=by
 obtain⟨k,k1,k2,k3,k4⟩:=a8A (n:=y) l7 h;obtain⟨k5,k6⟩:=k4 h0;refine⟨64 -k,l7,?_,?_,?_⟩
 ·unfold mO;rw[k2,o9,U2 O6];congr 1;omega
 ·have:=L8 k6 (show(0:Int)<=2^(64 -k)from Int.pow_nonneg l7);rw[←Int.pow_add,show k -1+(64 -k)=63 by omega]at this;exact this
 ·have:=Int.mul_lt_mul_of_pos_right k3 (show(0:Int)<2^(64 -k)from Int.pow_pos l7);rw[←Int.pow_add,show k+(64 -k)=64 by omega]at this;exact this
theorem KF{a b:Int}(ha:0<=a)(ha' :a<18446744073709551616)(hb:0<b):oG .u64 a b=some (a / b):=by unfold oG;rw[if_neg l7,iW ha];have h1:=U7 ha (show 0<=b by omega);have h2:=di b ha;rw[Cj h1 l7]
theorem zi{a b:Int}(ha:0<=a)(hb:0<b):xG a b=some (a % b):=by unfold xG;rw[if_neg l7];congr 1;exact xX ha
theorem Ui{hi lo y:Int}(h0:0<=hi)(h1:hi<y)(hy:y<18446744073709551616)(l0:0<=lo)(l1:lo<18446744073709551616):
  lH hi lo y=some ((hi*18446744073709551616+lo) / y,(hi*18446744073709551616+lo) % y):=by
 unfold lH;rw[L9 (show y≠0 by omega),o6,o9,Y1 h1,o6,o9];by_cases hz:hi=0
 ·subst hz;rw[O8 rfl,o7,KF l0 l1 l7,o9,zi l0 l7,o9];simp
 rw[L9 hz,o6];obtain⟨s,s1,s2,s3,s4⟩:=b7b (y:=y) l7 hy;rw[s2,o9,show wrap .u64 ((s:Nat):Int)=(s:Int)from Cj l7 l7,show H9 .u64 64 (s:Int)=((64 -s:Nat):Int) by unfold H9;rw[Cj l7 l7];omega];have hshl:∀v:Int,UG .u64 v (s:Int)=some ((v*2^s) % 18446744073709551616):=λv=>by unfold UG a8s;rw[if_neg l7,O9,show IntKind.bits .u64=64 from rfl,show min s 64=s by omega,yw]
 have hshr:∀(v:Int) (k:Nat),k<=64->UH .u64 v (k:Int)=some (v / 2^k):=λv k hk=>by unfold UH;rw[if_neg l7,NY hk]
 rw[hshl,o9,hshl,o9,hshr _ _ l7,o9,hshl,o9];have hpp:(2:Int)^s*2^(64 -s)=18446744073709551616:=by rw[←Int.pow_add,show s+(64 -s)=64 by omega];rfl
 have hp:(0:Int)<2^s:=Int.pow_pos l7;have hp' :(0:Int)<2^(64 -s):=Int.pow_pos l7;have hcb:lo / 2^(64 -s)<2^s:=lm hp' (by rw[hpp];exact l1);have hc0:0<=lo / 2^(64 -s):=U7 l0 l7;have hcd:=U4 lo (2^(64 -s));have he0:=P6 lo (show(2:Int)^(64 -s)≠0 by omega);have he1:=J8 lo hp';have hioP:∀a c:Int,0<=a->0<=c->c<2^s->a*2^s+c<18446744073709551616->ior .u64 (a*2^s) c=a*2^s+c:=λa c a0 c0 c1 h=>b2m a0 c0 c1 h;have hshrs:∀v:Int,UH .u64 v (s:Int)=some (v / 2^s):=λv=>hshr v s l7;generalize (2:Int)^s=p at*;generalize (2:Int)^(64 -s)=p' at*;generalize lo / p' =c at*;generalize lo % p' =e at*;have hlop:lo*p=c*18446744073709551616+e*p:=by rw[←hcd,gq,Int.mul_assoc,Int.mul_comm p' p,hpp]
 have hep0:0<=e*p:=P7 he0 l7;have hep1:e*p<18446744073709551616:=by have:=Int.mul_lt_mul_of_pos_right he1 hp;rw[Int.mul_comm p' p,hpp]at this;exact this
 rw[show(lo*p) % 18446744073709551616=e*p by omega];have hhp0:0<=hi*p:=P7 h0 l7;have hhp1:hi*p<=y*p -p:=by have:=L8 (show hi<=y -1 by omega) (show 0<=p by omega);rw[kJ,dI]at this;exact this
 rw[show(y*p) % 18446744073709551616=y*p by omega,show(hi*p) % 18446744073709551616=hi*p by omega,hioP hi c h0 hc0 hcb l7];have hN:(hi*18446744073709551616+lo)*p=(hi*p+c)*18446744073709551616+e*p:=by rw[gq,hlop,iG];omega
 have hsh32:∀v:Int,rY .u64 v 32=v / 4294967296:=λv=>NY (k:=32) l7;rw[hsh32,hsh32,XD l7 s4,XD hep0 hep1];obtain⟨Y,hY⟩:∃Y,Y=y*p:=⟨_,rfl⟩;obtain⟨N,hNN⟩:∃N,N=hi*18446744073709551616+lo:=⟨_,rfl⟩;rw[←hNN]at hN ⊢;rw[←hY]at s3 s4 hhp1 ⊢;generalize hU:hi*p+c=U at*;generalize e*p=E at*;have hUY:U<Y:=l7;have hU0:0<=U:=l7;obtain⟨Q1,q1,q2,q3,q4,q5⟩:=Ug (σ:=Int×Int) (λq r=>(q,r)) (y1:=Y / 4294967296) (y0:=Y % 4294967296) (U:=U) (d:=E / 4294967296) l7 l7 l7 l7 hU0 l7 l7 l7
  (f:=λ(x:Int×Int)=>l9 (J6 4294967296 x.1) (l9 (J6 4294967296 (D7 .u64 x.2 (Y / 4294967296))) (some (.inr (H9 .u64 x.1 1))) (some (.inl (H9 .u64 x.1 1,D7 .u64 x.2 (Y / 4294967296))))) (l9 (D9 (D7 .u64 (X9 .u64 4294967296 x.2) (E / 4294967296)) (X9 .u64 x.1 (Y % 4294967296))) (l9 (J6 4294967296 (D7 .u64 x.2 (Y / 4294967296))) (some (.inr (H9 .u64 x.1 1))) (some (.inl (H9 .u64 x.1 1,D7 .u64 x.2 (Y / 4294967296))))) (some (.inr x.1))))
  (λq r _ _ _ _=>rfl)
 have hYe:Y / 4294967296*4294967296+Y % 4294967296=Y:=l7;rw[hYe]at q4 q5;have hst:∀V:Int,0<=V->V<Y->H9 .u64 V (X9 .u64 (V / (Y / 4294967296)) (Y / 4294967296))=V -V / (Y / 4294967296)*(Y / 4294967296):=λV v0 v1=>by have a1:=U4 V (Y / 4294967296);have a2:=P6 V (show Y / 4294967296≠0 by omega);have a3:=J8 V (show 0<Y / 4294967296 by omega);have a4:=P7 (U7 v0 (show 0<=Y / 4294967296 by omega)) (show 0<=Y / 4294967296 by omega);rw[show X9 .u64 (V / (Y / 4294967296)) (Y / 4294967296)=V / (Y / 4294967296)*(Y / 4294967296)from Cj a4 l7];exact Cj l7 l7
 rw[KF hU0 l7 l7,o9,hst U hU0 hUY];refine(rC q1 _).trans ?_;rw[a0n];have hA1:(Q1+1)*Y=Q1*Y+Y:=by rw[gq,dI]
 rw[hA1]at q5;obtain⟨A1,hAA⟩:∃A1,A1=Q1*Y:=⟨_,rfl⟩;rw[←hAA]at q4 q5 ⊢;rw[show(U*4294967296+E / 4294967296 -A1) % 18446744073709551616=U*4294967296+E / 4294967296 -A1 by omega];generalize hV:U*4294967296+E / 4294967296 -A1=V at*;have hV0:0<=V:=l7;have hVY:V<Y:=l7;obtain⟨Q0,r1,r2,r3,r4,r5⟩:=Ug (σ:=Int×Int) (λq r=>(r,q)) (y1:=Y / 4294967296) (y0:=Y % 4294967296) (U:=V) (d:=E % 4294967296) l7 l7 l7 l7 hV0 l7 l7 l7
  (f:=λ(x:Int×Int)=>l9 (J6 4294967296 x.2) (l9 (J6 4294967296 (D7 .u64 x.1 (Y / 4294967296))) (some (.inr (H9 .u64 x.2 1))) (some (.inl (D7 .u64 x.1 (Y / 4294967296),H9 .u64 x.2 1)))) (l9 (D9 (D7 .u64 (X9 .u64 4294967296 x.1) (E % 4294967296)) (X9 .u64 x.2 (Y % 4294967296))) (l9 (J6 4294967296 (D7 .u64 x.1 (Y / 4294967296))) (some (.inr (H9 .u64 x.2 1))) (some (.inl (D7 .u64 x.1 (Y / 4294967296),H9 .u64 x.2 1)))) (some (.inr x.2))))
  (λq r _ _ _ _=>rfl)
 rw[hYe]at r4 r5;rw[KF hV0 l7 l7,o9,hst V hV0 hVY];refine(rC r1 _).trans ?_;rw[a0n];have hA0:(Q0+1)*Y=Q0*Y+Y:=by rw[gq,dI]
 rw[hA0]at r5;have hQY:(Q1*4294967296+Q0)*Y=A1*4294967296+Q0*Y:=by rw[gq,iG,←hAA]
 generalize Q0*Y=A0 at*;rw[show(V*4294967296+E % 4294967296 -A0) % 18446744073709551616=V*4294967296+E % 4294967296 -A0 by omega,hshrs,o9];rw[show X9 .u64 Q1 4294967296=Q1*4294967296 from Cj l7 l7,show D7 .u64 (Q1*4294967296) Q0=Q1*4294967296+Q0 from Cj l7 l7];generalize hQ:Q1*4294967296+Q0=Q at*;have hR:V*4294967296+E % 4294967296 -A0=(N -Q*y)*p:=by rw[kJ,Int.mul_assoc,←hY,hQY,hN];omega
 rw[hR];have hge:0<=N -Q*y:=by
  rcases Lj (N -Q*y) 0 with h|h
  ·have:=L8 (show N -Q*y<=-1 by omega) (show 0<=p by omega);omega
  ·exact h
 have hlt:N -Q*y<y:=by
  rcases Lj (N -Q*y) y with h|h
  ·exact h
  ·have:=L8 h (show 0<=p by omega);omega
 have hq:N / y=Q:=by have e1:N=(N -Q*y)+Q*y:=l7;rw[e1,ai _ _ l7,kS hge hlt];omega
 have hr:N % y=N -Q*y:=by have:=U4 N y;rw[hq]at this;omega
 rw[hq,hr,Int.mul_ediv_cancel _ l7]
def Y4(n:Int):Int:=if n<0 then -n else n
def upS(q r d:Int)(neg:Bool)(mode:Int):Bool:=l9 (o8 r 0) false (l9 (o8 mode 0) neg (l9 (o8 mode 1) (E9 neg) (l9 (o8 mode 3) true (l9 (o8 mode 4) (J6 (d -r) r) (l9 (o8 mode 5) (l9 (D9 (d -r) r) true (l9 (o8 r (d -r)) (o8 (cZ q 2) 1) false)) false)))))
def q1(q:Int)(u:Bool):Int:=l9 u (q+1) q
def sg(q:Int)(neg:Bool):Int:=l9 neg (-q) q
def nI(m:Int):Bool:=l9 (J6 0 m) (J6 m 5) false
theorem Au(m:Int):qO m=some (nI m):=by unfold qO nI;cases J6 0 m<;>rfl
theorem OD(m:Int):Eb m=some (nI m):=Au m
theorem RH(m:Int):zY m=some (nI m):=Au m
def jM(n m:Int):Bool:=l9 (D9 m n) true (D9 n (-m))
theorem uZ(n:Int){m:Int}(h0:0<=m)(h:m<=9000000000000000000):mP n m=some (jM n m):=by unfold mP jM;rw[U2 O6,show(0:Int) -m=-m by omega];cases D9 m n<;>rfl
theorem sH(n:Int){m:Int}(h0:0<=m)(h:m<=9000000000000000000):jk n m=some (jM n m):=uZ n h0 h
theorem yf(n:Int){m:Int}(h0:0<=m)(h:m<=9000000000000000000):wP n m=some (jM n m):=uZ n h0 h
theorem wL(n:Int){m:Int}(h0:0<=m)(h:m<=9000000000000000000):jX n m=some (jM n m):=uZ n h0 h
theorem oJ{n m:Int}(h:jM n m=false):-m<=n/\n<=m:=by
 unfold jM at h;cases h1:D9 m n<;>rw[h1]at h
 ·rw[iL]at h1;simp only[o6]at h;rw[iL]at h;omega
 ·cases h
theorem a2s{n m:Int}(h:jM n m=true):n< -m\/m<n:=by
 unfold jM at h;cases h1:D9 m n<;>rw[h1]at h
 ·simp only[o6]at h;rw[jC]at h;omega
 ·rw[jC]at h1;omega
theorem NF{n m:Int} :jM n m=true↔n< -m\/m<n:=by
 constructor
 ·exact a2s
 ·intro h;cases hq:jM n m
  ·have:=oJ hq;omega
  ·rfl
theorem Ku{n m:Int}(h:-m<=n/\n<=m):jM n m=false:=by
 cases hq:jM n m
 ·rfl
 ·have:=a2s hq;omega
theorem zW{n:Int}(h:-9000000000000000000<=n)(h2:n<=9000000000000000000):lI n=some (Y4 n):=by
 unfold lI Y4;by_cases h0:n<0
 ·rw[U5 h0,if_pos h0,o7];congr 1;show IntKind.wrap .u64 (0 -IntKind.wrap .u64 n)=_;rw[yw,yw];omega
 ·rw[L6 l7,if_neg h0,o6,show wrap .u64 n=n from Cj l7 l7]
theorem KT{n:Int}(h:-9000000000000000000<=n)(h2:n<=9000000000000000000):zt n=some (Y4 n):=by
 unfold zt Y4;by_cases h0:n<0
 ·rw[U5 h0,if_pos h0,U2 O6];simp
 ·rw[L6 l7,if_neg h0];rfl
theorem Yj{q:Int}(neg:Bool)(h0:0<=q)(h:q<=9000000000000000000):zX q neg=some (sg q neg):=by unfold zX sg;rw[show wrap .i64 q=q from lF O6,U2 O6,show(0:Int) -q=-q by omega];cases neg<;>rfl
theorem RS{q r d:Int}(neg:Bool)(mode:Int)(hq:0<=q)(hq2:q<=9000000000000000000)(hr:0<=r)(hrd:r<d)(hd:d<=9000000000000000000):nJ q r d neg mode=some (q1 q (upS q r d neg mode)):=by
 unfold nJ upS q1;rw[show D7 .u64 q 1=q+1 from Cj l7 l7,show H9 .u64 d r=d -r from Cj l7 l7];cases o8 r 0
 case true=>rfl
 cases o8 mode 0
 case true=>cases neg<;>rfl
 cases o8 mode 1
 case true=>cases neg<;>rfl
 cases o8 mode 3
 case true=>rfl
 cases o8 mode 4
 case true=>cases J6 (d -r) r<;>rfl
 cases o8 mode 5
 ·rfl
 cases D9 (d -r) r
 case true=>rfl
 cases o8 r (d -r)
 ·rfl
 cases o8 (cZ q 2) 1<;>rfl
theorem a1H{q r d:Int}(neg:Bool)(mode:Int)(hr:0<=r)(hrd:r<d)(hd:d<=9000000000000000000):BD q r d neg mode=some (upS q r d neg mode):=by
 unfold BD upS;rw[show H9 .u64 d r=d -r from Cj l7 l7];cases o8 r 0
 case true=>rfl
 cases o8 mode 0
 case true=>rfl
 cases o8 mode 1
 case true=>rfl
 cases o8 mode 3
 case true=>rfl
 cases o8 mode 4
 case true=>rfl
 cases o8 mode 5
 ·rfl
 cases D9 (d -r) r
 case true=>rfl
 cases o8 r (d -r)<;>rfl
theorem BN{q r d:Int}(neg:Bool)(mode:Int)(hq:0<=q)(hq2:q<=9000000000000000000)(hr:0<=r)(hrd:r<d)(hd:d<=9000000000000000000):mQ q r d neg mode=some (sg (q1 q (upS q r d neg mode)) neg):=by
 unfold mQ upS q1 sg;rw[V5 (show jc (q+1) by unfold jc;omega),U2 (show jc (d -r) by unfold jc;omega),U2 (show jc (0 -(q+1)) by unfold jc;omega),U2 (show jc (0 -q) by unfold jc;omega),show(0:Int) -(q+1)=-(q+1) by omega,show(0:Int) -q=-q by omega];by_cases hz:r=0
 ·rw[O8 hz,L6 (show r<=0 by omega),Y1 (show r<d -r by omega),L6 (show r<=d -r by omega),L9 (show r≠d -r by omega)];cases o8 mode 0<;>cases o8 mode 1<;>cases o8 mode 3<;>cases o8 mode 4<;>cases o8 mode 5<;>cases neg<;>rfl
 ·rw[L9 hz,U5 (show 0<r by omega)];cases o8 mode 0
  case true=>cases neg<;>rfl
  cases o8 mode 1
  case true=>cases neg<;>rfl
  cases o8 mode 3
  case true=>cases neg<;>rfl
  cases o8 mode 4
  case true=>cases J6 (d -r) r<;>cases neg<;>rfl
  cases o8 mode 5
  ·cases neg<;>rfl
  cases D9 (d -r) r
  case true=>cases neg<;>rfl
  cases o8 r (d -r)
  ·cases neg<;>rfl
  cases o8 (cZ q 2) 1<;>cases neg<;>rfl
theorem kG(n:Int):0<=Y4 n:=by unfold Y4;split<;>omega
theorem xu{n m:Int}(h:-m<=n/\n<=m):Y4 n<=m:=by unfold Y4;split<;>omega
theorem Jl{n:Int}(h:n≠0):0<Y4 n:=by unfold Y4;split<;>omega
def rnd(n d mode:Int):Int:=sg (q1 (Y4 n / Y4 d) (upS (Y4 n / Y4 d) (Y4 n % Y4 d) (Y4 d) (E9 (jd (D9 n 0) (D9 d 0))) mode)) (E9 (jd (D9 n 0) (D9 d 0)))
def a2C(n d mode:Int):Int×Int:=l9 (nI mode) (l9 (o8 d 0) (0,12) (l9 (jM n 4611686018427387904) (0,3) (l9 (jM d 4611686018427387904) (0,3) (rnd n d mode,0)))) (0,1)
theorem Vx(q:Int)(u:Bool):q<=q1 q u/\q1 q u<=q+1:=by unfold q1;cases u<;>simp only[o7,o6]<;>omega
theorem EF(n d mode:Int):iV n d mode=some (a2C n d mode):=by
 unfold iV a2C;rw[Au,o9];cases nI mode
 ·rfl
 simp only[F9,o6,o7];cases hd:o8 d 0
 case true=>rfl
 rw[yU]at hd;simp only[o6];rw[uZ n l7 l7,o9];cases h1:jM n 4611686018427387904
 case true=>rfl
 simp only[o6];rw[uZ d l7 l7,o9];cases h2:jM d 4611686018427387904
 case true=>rfl
 have b1:=oJ h1;have b2:=oJ h2;have a1:=kG n;have a2:=xu b1;have a3:=Jl hd;have a4:=xu b2;have e0:=U7 a1 (show 0<=Y4 d by omega);have e1:=di (Y4 d) a1;have e2:=P6 (Y4 n) (show Y4 d≠0 by omega);have e3:=J8 (Y4 n) a3;have q:=Vx (Y4 n / Y4 d) (upS (Y4 n / Y4 d) (Y4 n % Y4 d) (Y4 d) (E9 (jd (D9 n 0) (D9 d 0))) mode);simp only[o6];rw[zW l7 l7,o9,zW l7 l7,o9,KF a1 l7 a3,o9,zi a1 a3,o9,RS _ _ e0 l7 e2 e3 l7,o9,Yj _ l7 l7];rfl
theorem vC{a b:Int}(ha:0<=a)(ha' :a<=9000000000000000000)(hb:0<b):oG .i64 a b=some (a / b):=by unfold oG;rw[if_neg l7,iW ha];have h1:=U7 ha (show 0<=b by omega);have h2:=di b ha;rw[lF O6]
theorem Zk(n d mode:Int):zZ n d mode=some (a2C n d mode):=by
 unfold zZ a2C;rw[OD,o9];cases nI mode
 ·rfl
 simp only[F9,o6,o7];cases hd:o8 d 0
 case true=>rfl
 rw[yU]at hd;simp only[o6];rw[sH n l7 l7,o9];cases h1:jM n 4611686018427387904
 case true=>rfl
 simp only[o6];rw[sH d l7 l7,o9];cases h2:jM d 4611686018427387904
 case true=>rfl
 have b1:=oJ h1;have b2:=oJ h2;have a1:=kG n;have a2:=xu b1;have a3:=Jl hd;have a4:=xu b2;have e0:=U7 a1 (show 0<=Y4 d by omega);have e1:=di (Y4 d) a1;have e2:=P6 (Y4 n) (show Y4 d≠0 by omega);have e3:=J8 (Y4 n) a3;simp only[o6];rw[KT l7 l7,o9,KT l7 l7,o9,vC a1 l7 a3,o9,zi a1 a3,o9,BN _ _ e0 l7 e2 e3 l7];rfl
def toS(c u mode:Int):Int×Int:=l9 (nI mode) (l9 (D9 u 1) (0,12) (l9 (jM c 1000000000000000) (0,3) (l9 (D9 1000000000000000 u) (0,3) (l9 (jM (X9 .i64 (rnd c u mode) u) 1000000000000000) (0,3) (X9 .i64 (rnd c u mode) u,0))))) (0,1)
theorem a3A(c u mode:Int):xZ c u mode=some (toS c u mode):=by
 unfold xZ toS;rw[Au,o9];cases hm:nI mode
 ·rfl
 simp only[F9,o6,o7];cases hu:D9 u 1
 case true=>rfl
 rw[iL]at hu;simp only[o6];rw[uZ c l7 l7,o9];cases h1:jM c 1000000000000000
 case true=>rfl
 have b1:=oJ h1;simp only[o6];cases h2:D9 1000000000000000 u
 case true=>rfl
 rw[iL]at h2;simp only[o6];have n1:jM c 4611686018427387904=false:=Ku l7;have n2:jM u 4611686018427387904=false:=Ku l7;rw[EF,o9];unfold a2C;rw[hm,L9 (show u≠0 by omega),n1,n2];simp only[o7,o6,O8 (rfl:(0:Int)=0),F9];rw[uZ _ l7 l7,o9];cases jM (X9 .i64 (rnd c u mode) u) 1000000000000000<;>rfl
theorem a1v(c u mode:Int):BF c u mode=some (toS c u mode):=by
 unfold BF toS;rw[OD,o9];cases hm:nI mode
 ·rfl
 simp only[F9,o6,o7];cases hu:D9 u 1
 case true=>rfl
 rw[iL]at hu;simp only[o6];rw[sH c l7 l7,o9];cases h1:jM c 1000000000000000
 case true=>rfl
 have b1:=oJ h1;simp only[o6];cases h2:D9 1000000000000000 u
 case true=>rfl
 rw[iL]at h2;simp only[o6];have a1:=kG c;have a2:=xu b1;have hu' :Y4 u=u:=by unfold Y4;rw[if_neg l7]
 have e0:=U7 a1 (show 0<=u by omega);have e1:=di u a1;have e2:=P6 (Y4 c) (show u≠0 by omega);have e3:=J8 (Y4 c) (show 0<u by omega);rw[KT l7 l7,o9,vC a1 l7 l7,o9,zi a1 l7,o9,BN _ _ e0 l7 e2 e3 l7,o9];have hr:sg (q1 (Y4 c / u) (upS (Y4 c / u) (Y4 c % u) u (D9 c 0) mode)) (D9 c 0)=rnd c u mode:=by unfold rnd;rw[hu',show E9 (jd (D9 c 0) (D9 u 0))=D9 c 0 by rw[L6 (show(0:Int)<=u by omega)];cases D9 c 0<;>rfl]
 rw[hr,sH _ l7 l7,o9];cases jM (X9 .i64 (rnd c u mode) u) 1000000000000000<;>rfl
def mdS(c num den mode:Int):Int×Int:=l9 (nI mode) (l9 (o8 den 0) (0,12) (l9 (jM c 1000000000000000) (0,3) (l9 (jM num 1000000000) (0,3) (l9 (jM den 1000000000) (0,3)
 (l9 (D9 1000000000000000 (q1 (Y4 c*Y4 num / Y4 den) (upS (Y4 c*Y4 num / Y4 den) (Y4 c*Y4 num % Y4 den) (Y4 den) (E9 (jd (E9 (jd (D9 c 0) (D9 num 0))) (D9 den 0))) mode))) (0,3)
  (sg (q1 (Y4 c*Y4 num / Y4 den) (upS (Y4 c*Y4 num / Y4 den) (Y4 c*Y4 num % Y4 den) (Y4 den) (E9 (jd (E9 (jd (D9 c 0) (D9 num 0))) (D9 den 0))) mode)) (E9 (jd (E9 (jd (D9 c 0) (D9 num 0))) (D9 den 0))),0)))))) (0,1)
theorem Oi{a b:Int}(a0:0<=a)(a1:a<18446744073709551616)(b0:0<=b)(b1:b<18446744073709551616):tJ a b=some (a*b / 18446744073709551616,a*b % 18446744073709551616):=by unfold tJ;rw[if_pos ⟨a0,a1,b0,b1⟩]
theorem a6w(c num den mode:Int):CX c num den mode=some (mdS c num den mode):=by
 unfold CX mdS;rw[Au,o9];cases nI mode
 ·rfl
 simp only[F9,o6,o7];cases hd:o8 den 0
 case true=>rfl
 rw[yU]at hd;simp only[o6];rw[uZ c l7 l7,o9];cases h1:jM c 1000000000000000
 case true=>rfl
 rw[uZ num l7 l7];cases h2:jM num 1000000000
 case true=>rfl
 rw[uZ den l7 l7];cases h3:jM den 1000000000
 case true=>rfl
 have b1:=oJ h1;have b2:=oJ h2;have b3:=oJ h3;have a1:=kG c;have a2:=xu b1;have x1:=kG num;have x2:=xu b2;have d1:=Jl hd;have d2:=xu b3;simp only[o6,o9,X7];rw[zW l7 l7,o9,zW l7 l7,o9,Oi a1 l7 x1 l7,o9,zW l7 l7,o9];have hA:0<=Y4 c*Y4 num:=P7 a1 x1;generalize Y4 c*Y4 num=A at*;generalize Y4 den=b at*;have hre:A / 18446744073709551616*18446744073709551616+A % 18446744073709551616=A:=l7;have q:=Vx (A / b) (upS (A / b) (A % b) b (E9 (jd (E9 (jd (D9 c 0) (D9 num 0))) (D9 den 0))) mode);have hdm:=U4 A b;have e2:=P6 A (show b≠0 by omega);have e3:=J8 A d1;have e0:=U7 hA (show 0<=b by omega);by_cases hh:b<=A / 18446744073709551616
 ·have hge:18446744073709551616<=A / b:=pY d1 l7;rw[X5 hh,U5 (show(1000000000000000:Int)<q1 (A / b) (upS (A / b) (A % b) b (E9 (jd (E9 (jd (D9 c 0) (D9 num 0))) (D9 den 0))) mode) by omega)];rfl
 ·rw[Y1 l7,o6,Ui l7 l7 l7 l7 l7,o9,hre];simp only;by_cases hM:1000000000000000<A / b
  ·rw[U5 hM,U5 (show(1000000000000000:Int)<q1 (A / b) (upS (A / b) (A % b) b (E9 (jd (E9 (jd (D9 c 0) (D9 num 0))) (D9 den 0))) mode) by omega)];rfl
  ·rw[L6 l7,o6,RS _ _ e0 l7 e2 e3 l7,o9];cases hq:D9 1000000000000000 (q1 (A / b) (upS (A / b) (A % b) b (E9 (jd (E9 (jd (D9 c 0) (D9 num 0))) (D9 den 0))) mode))
   ·rw[iL]at hq;rw[o6,Yj _ l7 l7];rfl
   ·rfl
theorem a7I{q:Int}(h:0<=q)(neg:Bool){m:Int}(hm:0<=m):jM (sg q neg) m=D9 m q:=by rw[eU,NF,jC];unfold sg;cases neg<;>simp only[o7,o6]<;>omega
theorem a3w(c num den mode:Int):Hw c num den mode=some (mdS c num den mode):=by
 unfold Hw mdS;rw[OD,o9];cases nI mode
 ·rfl
 simp only[F9,o6,o7];cases hd:o8 den 0
 case true=>rfl
 rw[yU]at hd;simp only[o6];rw[sH c l7 l7,o9];cases h1:jM c 1000000000000000
 case true=>rfl
 rw[sH num l7 l7];cases h2:jM num 1000000000
 case true=>rfl
 rw[sH den l7 l7];cases h3:jM den 1000000000
 case true=>rfl
 have b1:=oJ h1;have b2:=oJ h2;have b3:=oJ h3;have a1:=kG c;have a2:=xu b1;have x1:=kG num;have x2:=xu b2;have d1:=Jl hd;have d2:=xu b3;simp only[o6,o9,X7];rw[KT l7 l7,o9,KT l7 l7,o9,KT l7 l7,o9];generalize E9 (jd (E9 (jd (D9 c 0) (D9 num 0))) (D9 den 0))=neg;generalize Y4 c=a at*;generalize Y4 num=x at*;generalize Y4 den=b at*;have hdm:=U4 a b;have f0:=U7 a1 (show 0<=b by omega);have f1:=P6 a (show b≠0 by omega);have f2:=J8 a d1;have m1:0<=a % b*x:=P7 f1 x1;have m2:a % b*x<=1000000000*1000000000:=jq l7 x2 x1 l7;have m3:0<=a / b*x:=P7 f0 x1;have hA:a*x=a / b*x*b+a % b*x:=by
  calc a*x=(a / b*b+a % b)*x:=by rw[hdm]
   _=_:=by rw[gq,iG]
 have hQ:a*x / b=a / b*x+a % b*x / b:=by rw[hA,Int.add_comm,ai _ _ l7,Int.add_comm]
 have hR:a*x % b=a % b*x % b:=by rw[hA,Int.add_comm,aT]
 have g0:=U7 m1 (show 0<=b by omega);have g1:=di b m1;have g2:=P6 (a % b*x) (show b≠0 by omega);have g3:=J8 (a % b*x) d1;have tail:a / b*x<=1000000000000000->(o5 (xG a b) λ(x_5:Int)=>o5 (some (a / b)) λ(x_8:Int)=>o5 (oG .i64 (X9 .i64 x_5 x) b) λ(x_6:Int)=>o5 (xG (X9 .i64 x_5 x) b) λ(x_7:Int)=>
   o5 (mQ (D7 .i64 (X9 .i64 x_8 x) x_6) x_7 b neg mode) λ(x_9:Int)=>o5 (jk x_9 1000000000000000) λ(x_8:Bool)=>l9 x_8 (some ((0:Int),(3:Int))) (some (x_9,0)))=
   some (l9 (D9 1000000000000000 (q1 (a*x / b) (upS (a*x / b) (a*x % b) b neg mode))) (0,3) (sg (q1 (a*x / b) (upS (a*x / b) (a*x % b) b neg mode)) neg,0)):=by
  intro hle;have q:=Vx (a / b*x+a % b*x / b) (upS (a / b*x+a % b*x / b) (a % b*x % b) b neg mode);rw[zi a1 d1,o9,o9,lh (show jc (a % b*x) by unfold jc;omega),vC m1 l7 d1,o9,zi m1 d1,o9,lh (show jc (a / b*x) by unfold jc;omega),V5 (show jc (a / b*x+a % b*x / b) by unfold jc;omega),
   BN _ _ l7 l7 g2 g3 l7,o9,sH _ l7 l7,o9,a7I l7 _ l7,hQ,hR]
  cases D9 1000000000000000 (q1 (a / b*x+a % b*x / b) (upS (a / b*x+a % b*x / b) (a % b*x % b) b neg mode))<;>rfl
 by_cases hx:0<x
 ·rw[U5 hx,o7,vC a1 l7 d1,o9,vC l7 l7 hx,o9];have hMx:=U4 1000000000000000 x;have hMr:=J8 1000000000000000 hx;have hMr0:=P6 1000000000000000 (show x≠0 by omega);by_cases hc:1000000000000000 / x<a / b
  ·have:=L8 (show 1000000000000000 / x+1<=a / b by omega) x1;rw[gq,dI]at this;have q:=Vx (a*x / b) (upS (a*x / b) (a*x % b) b neg mode);rw[U5 hc,U5 (show(1000000000000000:Int)<q1 (a*x / b) (upS (a*x / b) (a*x % b) b neg mode) by omega)];rfl
  ·have:=L8 (show a / b<=1000000000000000 / x by omega) x1;rw[L6 l7,o6];exact tail l7
 ·have:x=0:=l7;rw[L6 l7,o6,vC a1 l7 d1];exact tail (by subst this;simp)
theorem a7D(c r mode:Int):Ea c r mode=some (mdS c r 1000000 mode):=by unfold Ea;rw[a6w];rfl
theorem a6T(c r mode:Int):ES c r mode=some (mdS c r 1000000 mode):=by unfold ES;rw[a3w];rfl
theorem a0A{n d:Int}(h1:-9000000000000000000<=n)(h2:n<=9000000000000000000)(hd:0<d)(hd2:d<=9000000000000000000):zu n d=some (n / d,n % d):=by
 unfold zu oG xG;rw[if_neg l7,if_neg l7,o9,o9];by_cases h0:0<=n
 ·have e0:=U7 h0 (show 0<=d by omega);have e1:=di d h0;have e2:=P6 n (show d≠0 by omega);rw[iW h0,dD h0,lF O6,L6 e2];rfl
 ·obtain⟨m,hm⟩:∃m,m=-n:=⟨_,rfl⟩;have hn:n=-m:=l7;subst hn;have e0:=U7 (show 0<=m by omega) (show 0<=d by omega);have e1:=di d (show 0<=m by omega);have e2:=P6 m (show d≠0 by omega);have e3:=J8 m hd;have hdm:=U4 m d;rw[Int.neg_tdiv,Int.neg_tmod,iW l7,dD l7,lF O6];by_cases hz:m % d=0
  ·rw[hz,show -(0:Int)=0 from rfl,L6 l7,o6];have hme:-m=0+(-(m / d))*d:=by rw[jg];omega
   have q1:-m / d=-(m / d):=by rw[hme,ai _ _ l7];simp
   have q2:-m % d=0:=by rw[hme,aT];simp
   rw[q1,q2]
  ·rw[U5 l7,o7,U2 O6,V5 O6];have hme:-m=(d -m % d)+(-(m / d) -1)*d:=by rw[kJ,jg,dI];omega
   have q1:-m / d=-(m / d) -1:=by rw[hme,ai _ _ l7,kS l7 l7];omega
   have q2:-m % d=d -m % d:=by rw[hme,aT,Int.emod_eq_of_lt l7 l7]
   rw[q1,q2,show -(m % d)+d=d -m % d by omega]
theorem EO{m:Int}(h:nI m=true):m=0\/m=1\/m=2\/m=3\/m=4\/m=5:=by
 unfold nI at h;cases h0:J6 0 m<;>rw[h0]at h
 ·cases h
 ·simp only[o7]at h;rw[kR]at h0 h;omega
theorem EX{n d mode:Int}(h1:-9000000000000000000<=n / d)(h2:n / d<=9000000000000000000)(hd:0<d)(hd2:d<=9000000000000000000)(hm:nI mode=true):bK (n / d) (n % d) d mode=some (rnd n d mode):=by
 have hdm:=U4 n d;have f0:=P6 n (show d≠0 by omega);have f1:=J8 n hd;have hid:Y4 d=d:=by unfold Y4;rw[if_neg l7]
 have hneg:E9 (jd (D9 n 0) (D9 d 0))=D9 n 0:=by rw[L6 (show(0:Int)<=d by omega)];cases D9 n 0<;>rfl
 unfold rnd;rw[hid,hneg];have R0:∀F R:Int,bK F R d 0=l9 (o8 R 0) (some F) (some F):=λF R=>rfl;have R1:∀F R:Int,bK F R d 1=l9 (o8 R 0) (some F) (some (D7 .i64 F 1)):=λF R=>rfl;have R2:∀F R:Int,bK F R d 2=l9 (o8 R 0) (some F) (o5 (l9 (D9 F 0) (some true) (some false)) λx=>l9 x (some (D7 .i64 F 1)) (some F)):=λF R=>rfl;have R3:∀F R:Int,bK F R d 3=l9 (o8 R 0) (some F) (o5 (some (J6 0 F)) λx=>l9 x (some (D7 .i64 F 1)) (some F)):=λF R=>rfl;have R4:∀F R:Int,bK F R d 4=l9 (o8 R 0) (some F) (l9 (o8 R (H9 .i64 d R)) (l9 (J6 0 F) (some (D7 .i64 F 1)) (some F)) (l9 (D9 (H9 .i64 d R) R) (some (D7 .i64 F 1)) (some F))):=λF R=>rfl;have R5:∀F R:Int,bK F R d 5=l9 (o8 R 0) (some F) (l9 (o8 R (H9 .i64 d R)) (l9 (E9 (o8 (cZ F 2) 0)) (some (D7 .i64 F 1)) (some F)) (l9 (D9 (H9 .i64 d R) R) (some (D7 .i64 F 1)) (some F))):=λF R=>rfl;have u0:∀q r:Int,∀b,upS q r d b 0=l9 (o8 r 0) false b:=λq r b=>rfl;have u1:∀q r:Int,∀b,upS q r d b 1=l9 (o8 r 0) false (E9 b):=λq r b=>rfl;have u2:∀q r:Int,∀b,upS q r d b 2=l9 (o8 r 0) false false:=λq r b=>rfl;have u3:∀q r:Int,∀b,upS q r d b 3=l9 (o8 r 0) false true:=λq r b=>rfl;have u4:∀q r:Int,∀b,upS q r d b 4=l9 (o8 r 0) false (J6 (d -r) r):=λq r b=>rfl;have u5:∀q r:Int,∀b,upS q r d b 5=l9 (o8 r 0) false (l9 (D9 (d -r) r) true (l9 (o8 r (d -r)) (o8 (cZ q 2) 1) false)):=λq r b=>rfl;by_cases h0:0<=n
 ·have e0:=U7 h0 (show 0<=d by omega);have e1:=di d h0;rw[show Y4 n=n by unfold Y4;rw[if_neg l7],L6 h0];have hi:D7 .i64 (n / d) 1=n / d+1:=V5 O6;have hs:H9 .i64 d (n % d)=d -n % d:=U2 O6;have hir:cZ (n / d) 2=(n / d) % 2:=xX e0;generalize n / d=F at*;generalize n % d=R at*;rcases EO hm with rfl|rfl|rfl|rfl|rfl|rfl
  ·rw[R0,u0];cases o8 R 0<;>rfl
  ·rw[R1,u1,hi];cases o8 R 0<;>rfl
  ·rw[R2,u2,hi,L6 e0];cases o8 R 0<;>rfl
  ·rw[R3,u3,hi,X5 e0];cases o8 R 0<;>rfl
  ·rw[R4,u4,hi,hs,X5 e0];cases o8 R 0
   case true=>rfl
   by_cases ht:R=d -R
   ·rw[O8 ht,X5 (show d -R<=R by omega)];rfl
   ·rw[L9 ht];by_cases hl:d -R<R
    ·rw[U5 hl,X5 (show d -R<=R by omega)];rfl
    ·rw[L6 (show R<=d -R by omega),Y1 (show R<d -R by omega)];rfl
  ·rw[R5,u5,hi,hs,hir];cases o8 R 0
   case true=>rfl
   by_cases ht:R=d -R
   ·rw[O8 ht,L6 (show R<=d -R by omega)];by_cases hp:F % 2=0
    ·rw[O8 hp,L9 (show F % 2≠1 by omega)];rfl
    ·rw[L9 hp,O8 (show F % 2=1 by omega)];rfl
   ·rw[L9 ht];by_cases hl:d -R<R
    ·rw[U5 hl];rfl
    ·rw[L6 (show R<=d -R by omega)];rfl
 ·obtain⟨m,hmm⟩:∃m,m=-n:=⟨_,rfl⟩;have e0:=U7 (show 0<=m by omega) (show 0<=d by omega);have e1:=di d (show 0<=m by omega);have e2:=P6 m (show d≠0 by omega);have e3:=J8 m hd;have hdm2:=U4 m d;rw[show Y4 n=m by unfold Y4;rw[if_pos l7];omega,U5 l7];by_cases hz:m % d=0
  ·have hne:n=0+(-(m / d))*d:=by rw[jg];omega
   have q1:n / d=-(m / d):=by rw[hne,ai _ _ l7];simp
   have q2:n % d=0:=by rw[hne,aT];simp
   rw[q1,q2,hz];rcases EO hm with rfl|rfl|rfl|rfl|rfl|rfl<;>rfl
  ·have hne:n=(d -m % d)+(-(m / d) -1)*d:=by rw[kJ,jg,dI];omega
   have q1:n / d=-(m / d) -1:=by rw[hne,ai _ _ l7,kS l7 l7];omega
   have q2:n % d=d -m % d:=by rw[hne,aT,Int.emod_eq_of_lt l7 l7]
   rw[q1]at h1 h2;rw[q1,q2];generalize m / d=q at*;generalize m % d=r at*;have hi:D7 .i64 (-q -1) 1=-q:=by rw[V5 O6];omega
   have hs:H9 .i64 d (d -r)=r:=by rw[U2 O6];omega
   have hF:∀k:Int,Go.GP.q1 q false=q/\Go.GP.q1 q true=q+1:=λk=>⟨rfl,rfl⟩;have sg1:sg (Go.GP.q1 q true) true=-q -1:=by show -(q+1)=-q -1;omega
   have sg0:sg (Go.GP.q1 q false) true=-q:=rfl;have hr0:o8 (d -r) 0=false:=L9 l7;have hr1:o8 r 0=false:=L9 hz;rcases EO hm with rfl|rfl|rfl|rfl|rfl|rfl
   ·rw[R0,u0,hr0,hr1,o6,o6,sg1]
   ·rw[R1,u1,hi,hr0,hr1,o6,o6,F9,sg0]
   ·rw[R2,u2,hi,hr0,hr1,o6,o6,sg0,U5 l7];rfl
   ·rw[R3,u3,hi,hr0,hr1,o6,o6,sg1,Y1 l7];rfl
   ·rw[R4,u4,hi,hs,hr0,hr1,o6,o6,Y1 (show -q -1<0 by omega)];by_cases ht:d -r=r
    ·rw[O8 ht,X5 (show d -r<=r by omega),sg1];rfl
    ·rw[L9 ht];by_cases hl:r<d -r
     ·rw[U5 hl,Y1 hl,sg0];rfl
     ·rw[L6 (show d -r<=r by omega),X5 (show d -r<=r by omega),sg1];rfl
   ·rw[R5,u5,hi,hs,hr0,hr1,o6,o6];by_cases ht:d -r=r
    ·rw[O8 ht,L6 (show r<=d -r by omega),O8 ht.symm];have hodd:cZ (-q -1) 2=-((q+1) % 2):=by
      unfold cZ;rw[show -q -1=-(q+1) by omega,Int.neg_tmod,dD l7]
     have hir:cZ q 2=q % 2:=xX e0;rw[hodd,hir];simp only[o7,o6];by_cases hp:q % 2=1
     ·rw[O8 (show -((q+1) % 2)=0 by omega),O8 hp,sg1];rfl
     ·rw[L9 (show -((q+1) % 2)≠0 by omega),L9 hp,sg0];rfl
    ·rw[L9 ht,L9 (show r≠d -r by omega)];by_cases hl:r<d -r
     ·rw[U5 hl,L6 (show r<=d -r by omega)];simp only[o7,o6];rw[sg0]
     ·rw[L6 (show d -r<=r by omega),U5 (show d -r<r by omega)];simp only[o7,o6];rw[sg1]
def a5w(a b mode:Int):Int×Int:=l9 (nI mode) (l9 (jM a 1000000000) (0,3) (l9 (jM b 1000000000) (0,3) (l9 (jM (rnd (a*b) 1000000 mode) 1000000000) (0,3) (rnd (a*b) 1000000 mode,0)))) (0,1)
theorem a5q{a b A B:Int}(h1:-A<=a/\a<=A)(h2:-B<=b/\b<=B):-(A*B)<=a*b/\a*b<=A*B:=by
 have hA:0<=A:=l7;have hB:0<=B:=l7;have k1:a*b<=A*B/\-(A*B)<=a*b:=by
  rcases Lj a 0 with ha|ha
  ·have e:a*b=-((-a)*b):=by rw[jg];omega
   rcases Lj b 0 with hb|hb
   ·have e2:a*b=(-a)*(-b):=by rw[Int.neg_mul_neg]
    have:=jq (show -a<=A by omega) (show -b<=B by omega) l7 hA;have:=P7 (show 0<=-a by omega) (show 0<=-b by omega);have:=P7 hA hB;omega
   ·have:=jq (show -a<=A by omega) h2.2 hb hA;have:=P7 (show 0<=-a by omega) hb;have:=P7 hA hB;omega
  ·rcases Lj b 0 with hb|hb
   ·have e:a*b=-(a*(-b)):=by rw[Int.mul_neg];omega
    have:=jq h1.2 (show -b<=B by omega) l7 hA;have:=P7 ha (show 0<=-b by omega);have:=P7 hA hB;omega
   ·have:=jq h1.2 h2.2 hb hA;have:=P7 ha hb;have:=P7 hA hB;omega
 exact⟨k1.2,k1.1⟩
theorem b2O(a b mode:Int):JA a b mode=some (a5w a b mode):=by
 unfold JA a5w;rw[RH,o9];cases hm:nI mode
 ·rfl
 simp only[F9,o6,o7];rw[yf a l7 l7,o9];cases h1:jM a 1000000000
 case true=>rfl
 simp only[o6];rw[yf b l7 l7,o9];cases h2:jM b 1000000000
 case true=>rfl
 simp only[o6];have pb:=a5q (oJ h1) (oJ h2);rw[lh O6,EF,o9];unfold a2C;rw[hm,L9 (show(1000000:Int)≠0 by decide),Ku l7,Ku l7];simp only[o7,o6,O8 (rfl:(0:Int)=0),F9];rw[yf _ l7 l7,o9];cases jM (rnd (a*b) 1000000 mode) 1000000000<;>rfl
theorem a1e{m:Int}{A B:Option (PUnit⊕(Int×Int))} :l9 (D9 m 0) A (l9 (D9 5 m) A B)=l9 (nI m) B A:=by unfold nI;rw[qW m 0,qW 5 m];cases J6 0 m<;>cases J6 m 5<;>rfl
theorem a9U(a b mode:Int):KU a b mode=some (a5w a b mode):=by
 unfold KU a5w;have hmode:∀A B:Option (Int×Int),l9 (D9 mode 0) A (l9 (D9 5 mode) A B)=l9 (nI mode) B A:=λA B=>by unfold nI;rw[qW mode 0,qW 5 mode];cases J6 0 mode<;>cases J6 mode 5<;>rfl
 rw[hmode];cases hm:nI mode
 ·rfl
 simp only[o7];rw[wL a l7 l7,o9];cases h1:jM a 1000000000
 case true=>rfl
 simp only[o6];rw[wL b l7 l7,o9];cases h2:jM b 1000000000
 case true=>rfl
 simp only[o6];have pb:=a5q (oJ h1) (oJ h2);rw[lh O6,a0A l7 l7 l7 l7,o9];simp only;rw[EX l7 l7 l7 l7 hm,o9,wL _ l7 l7,o9];cases jM (rnd (a*b) 1000000 mode) 1000000000<;>rfl
theorem a3z{n d:Int}(mode:Int)(hd:0<d):n / d<=rnd n d mode/\rnd n d mode<=n / d+1:=by
 have hid:Y4 d=d:=by unfold Y4;rw[if_neg l7]
 have hneg:E9 (jd (D9 n 0) (D9 d 0))=D9 n 0:=by rw[L6 (show(0:Int)<=d by omega)];cases D9 n 0<;>rfl
 unfold rnd;rw[hid,hneg];by_cases h0:0<=n
 ·rw[show Y4 n=n by unfold Y4;rw[if_neg l7],L6 h0];exact Vx _ _
 ·obtain⟨m,hmm⟩:∃m,m=-n:=⟨_,rfl⟩;have e2:=P6 m (show d≠0 by omega);have e3:=J8 m hd;have hdm2:=U4 m d;rw[show Y4 n=m by unfold Y4;rw[if_pos l7];omega,U5 l7];have hq:=Vx (m / d) (upS (m / d) (m % d) d true mode);by_cases hz:m % d=0
  ·have hne:n=0+(-(m / d))*d:=by rw[jg];omega
   have q1:n / d=-(m / d):=by rw[hne,ai _ _ l7];simp
   have hu:upS (m / d) (m % d) d true mode=false:=by unfold upS;rw[O8 hz];rfl
   rw[q1,hu];show -(m / d)<=-(m / d)/\-(m / d)<=-(m / d)+1;omega
  ·have hne:n=(d -m % d)+(-(m / d) -1)*d:=by rw[kJ,jg,dI];omega
   have q1:n / d=-(m / d) -1:=by rw[hne,ai _ _ l7,kS l7 l7];omega
   rw[q1];show -(m / d) -1<=-(Go.GP.q1 _ _)/\-(Go.GP.q1 _ _)<=_;omega
theorem b2P(n d mode:Int)(hd:d<0):rnd n d mode=rnd (-n) (-d) mode:=by
 have e1:Y4 (-n)=Y4 n:=by unfold Y4;split<;>split<;>omega
 have e2:Y4 (-d)=Y4 d:=by unfold Y4;rw[if_neg l7,if_pos hd]
 unfold rnd;rw[e1,e2,U5 hd,L6 (show 0<=-d by omega)];by_cases h0:n=0
 ·subst h0;have hz:Y4 0=0:=rfl;rw[hz,Int.zero_ediv,Int.zero_emod];have hu:∀b,upS 0 0 (Y4 d) b mode=false:=λb=>rfl;rw[hu,hu];rfl
 ·by_cases h1:n<0
  ·rw[U5 h1,L6 (show 0<=-n by omega)];rfl
  ·rw[L6 l7,U5 (show -n<0 by omega)];rfl
def b2E(num den mode:Int):Int×Int:=l9 (nI mode) (l9 (o8 den 0) (0,12) (l9 (jM num 1000000000000000) (0,3) (l9 (jM den 1000000000000000) (0,3) (l9 (jM (rnd (num*1000000) den mode) 1000000000) (0,3) (rnd (num*1000000) den mode,0))))) (0,1)
theorem NW{n:Int}(h:-9000000000000000000<=n)(h2:n<=9000000000000000000):wrap .u64 (nz n (H9 .i64 0 n))=Y4 n:=by
 rw[U2 O6];unfold nz Y4;by_cases h0:n<0
 ·rw[if_pos l7,if_pos h0,show(0:Int) -n=-n by omega];exact Cj l7 l7
 ·rw[if_neg h0];by_cases hz:n=0
  ·subst hz;rfl
  ·rw[if_neg l7];exact Cj l7 l7
theorem YH(num den mode:Int):wO num den mode=some (b2E num den mode):=by
 unfold wO b2E;rw[RH,o9];cases hm:nI mode
 ·rfl
 simp only[F9,o6,o7];cases hd:o8 den 0
 case true=>rfl
 rw[yU]at hd;simp only[o6];rw[yf num l7 l7,o9];cases h1:jM num 1000000000000000
 case true=>rfl
 simp only[o6];rw[yf den l7 l7,o9];cases h2:jM den 1000000000000000
 case true=>rfl
 simp only[o6];have b1:=oJ h1;have b2:=oJ h2;have a1:=kG num;have a2:=xu b1;have d1:=Jl hd;have d2:=xu b2;rw[NW l7 l7,NW l7 l7,Oi a1 l7 l7 l7,o9];have hN:Y4 (num*1000000)=Y4 num*1000000:=by unfold Y4;split<;>split<;>omega
 have hsgn:D9 (num*1000000) 0=D9 num 0:=by
  by_cases h:num<0
  ·rw[U5 h,U5 l7]
  ·rw[L6 l7,L6 l7]
 have hA:0<=Y4 num*1000000:=l7;have hrn:rnd (num*1000000) den mode=sg (q1 (Y4 num*1000000 / Y4 den) (upS (Y4 num*1000000 / Y4 den) (Y4 num*1000000 % Y4 den) (Y4 den) (E9 (jd (D9 num 0) (D9 den 0))) mode)) (E9 (jd (D9 num 0) (D9 den 0))):=by unfold rnd;rw[hN,hsgn]
 rw[hrn];have hA2:Y4 num*1000000<18446744073709551616*1000:=l7;generalize Y4 num*1000000=A at*;generalize Y4 den=b at*;generalize E9 (jd (D9 num 0) (D9 den 0))=neg at*;have hre:A / 18446744073709551616*18446744073709551616+A % 18446744073709551616=A:=l7;have q:=Vx (A / b) (upS (A / b) (A % b) b neg mode);have e0:=U7 hA (show 0<=b by omega);have e2:=P6 A (show b≠0 by omega);have e3:=J8 A d1;rw[a7I l7 _ l7];by_cases hh:b<=A / 18446744073709551616
 ·have hge:18446744073709551616<=A / b:=pY d1 l7;rw[X5 hh,U5 (show(1000000000:Int)<q1 (A / b) (upS (A / b) (A % b) b neg mode) by omega)];rfl
 ·rw[Y1 l7,o6,Ui l7 l7 l7 l7 l7,o9,hre];simp only;by_cases hM:1000000000<A / b
  ·rw[U5 hM,U5 (show(1000000000:Int)<q1 (A / b) (upS (A / b) (A % b) b neg mode) by omega)];rfl
  ·have w1:wrap .i64 (A / b)=A / b:=lF O6;have w2:D7 .i64 (A / b) 1=A / b+1:=V5 O6;have w3:H9 .i64 0 (A / b+1)=-(A / b+1):=by rw[U2 O6];omega
   have w4:H9 .i64 0 (A / b)=-(A / b):=by rw[U2 O6];omega
   rw[L6 l7,o6,a1H _ _ e2 e3 l7,o9,w1,w2,w3,w4];unfold Go.GP.q1 sg;cases upS (A / b) (A % b) b neg mode
   ·simp only[o6];cases D9 1000000000 (A / b)<;>cases neg<;>rfl
   ·simp only[o7];cases D9 1000000000 (A / b+1)<;>cases neg<;>rfl
theorem Vz{n d mode:Int}(h1:-1000000000000000<=n)(h2:n<=1000000000000000)(hd:0<d)(hd2:d<=1000000000000000)(hm:nI mode=true):
  (o5 (zu n d) λ(x:Int×Int)=>o5 (jX x.1 1001) λ(x_1:Bool)=>l9 x_1 (some ((0:Int),(3:Int))) (o5 (oG .i64 (X9 .i64 x.2 1000) d) λ(x_2:Int)=>o5 (xG (X9 .i64 x.2 1000) d) λ(x_3:Int)=>
   o5 (oG .i64 (X9 .i64 x_3 1000) d) λ(x_4:Int)=>o5 (xG (X9 .i64 x_3 1000) d) λ(x_5:Int)=>o5 (bK (D7 .i64 (D7 .i64 (X9 .i64 x.1 1000000) (X9 .i64 x_2 1000)) x_4) x_5 d mode) λ(x:Int)=>
    o5 (jX x 1000000000) λ(x_6:Bool)=>l9 x_6 (some (0,3)) (some (x,0))))=some (l9 (jM (rnd (n*1000000) d mode) 1000000000) (0,3) (rnd (n*1000000) d mode,0)):=by
 have hdm:=U4 n d;have r0:=P6 n (show d≠0 by omega);have r1:=J8 n hd;have hrb:=a3z (n:=n*1000000) mode hd;rw[a0A l7 l7 hd l7,o9];simp only;rw[wL _ l7 l7,o9];have hN:n*1000000=n % d*1000000+(n / d*1000000)*d:=by rw[iG];omega
 have hF:n*1000000 / d=n % d*1000000 / d+n / d*1000000:=by rw[hN,ai _ _ l7]
 have hR:n*1000000 % d=n % d*1000000 % d:=by rw[hN,aT]
 have s0:0<=n % d*1000000 / d:=U7 l7 l7;have s1:n % d*1000000 / d<1000000:=lm hd l7;cases hb:jM (n / d) 1001
 case true=>have hbb:=a2s hb;have:jM (rnd (n*1000000) d mode) 1000000000=true:=NF.2 l7;rw[this];rfl
 have bb:=oJ hb;simp only[o6];generalize n % d=r at*;generalize n / d=q at*;have t1:X9 .i64 r 1000=r*1000:=lh O6;have e1:=U4 (r*1000) d;have e2:=P6 (r*1000) (show d≠0 by omega);have e3:=J8 (r*1000) hd;have e4:=U7 (show 0<=r*1000 by omega) (show 0<=d by omega);have e5:r*1000 / d<1000:=lm hd l7;rw[t1,vC l7 l7 hd,o9,zi l7 hd,o9];generalize hr1:r*1000 % d=r1 at*;generalize ha:r*1000 / d=a at*;have t2:X9 .i64 r1 1000=r1*1000:=lh O6;have f1:=U4 (r1*1000) d;have f2:=P6 (r1*1000) (show d≠0 by omega);have f3:=J8 (r1*1000) hd;have f4:=U7 (show 0<=r1*1000 by omega) (show 0<=d by omega);have f5:r1*1000 / d<1000:=lm hd l7;rw[t2,vC l7 l7 hd,o9,zi l7 hd,o9];have hr6:r*1000000=r1*1000+(a*1000)*d:=by rw[iG];omega
 have hF2:r*1000000 / d=r1*1000 / d+a*1000:=by rw[hr6,ai _ _ l7]
 have hR2:r*1000000 % d=r1*1000 % d:=by rw[hr6,aT]
 rw[lh (show jc (q*1000000) by unfold jc;omega),lh (show jc (a*1000) by unfold jc;omega),V5 (show jc (q*1000000+a*1000) by unfold jc;omega),V5 (show jc (q*1000000+a*1000+r1*1000 / d) by unfold jc;omega)];rw[show q*1000000+a*1000+r1*1000 / d=n*1000000 / d by rw[hF,hF2];omega,show r1*1000 % d=n*1000000 % d by rw[hR,hR2]];rw[EX (by rw[hF];omega) (by rw[hF];omega) hd l7 hm,o9,wL _ l7 l7,o9];cases jM (rnd (n*1000000) d mode) 1000000000<;>rfl
theorem WO(num den mode:Int):yK num den mode=some (b2E num den mode):=by
 unfold yK b2E;rw[a1e];cases hm:nI mode
 ·rfl
 simp only[o7,o9,X7];cases hd:o8 den 0
 case true=>rfl
 rw[yU]at hd;simp only[o6];rw[wL num l7 l7,o9];cases h1:jM num 1000000000000000
 case true=>rfl
 simp only[o6];rw[wL den l7 l7,o9];cases h2:jM den 1000000000000000
 case true=>rfl
 simp only[o6];have b1:=oJ h1;have b2:=oJ h2;by_cases hn:den<0
 ·rw[U5 hn,o7,U2 (show jc (0 -num) by unfold jc;omega),U2 (show jc (0 -den) by unfold jc;omega),show(0:Int) -num=-num by omega,show(0:Int) -den=-den by omega,b2P _ _ _ hn,show -(num*1000000)=-num*1000000 by rw[jg]];exact Vz l7 l7 l7 l7 hm
 ·rw[L6 l7,o6];exact Vz l7 l7 l7 l7 hm
def BL(len n:Int):Int×Int×Bool:=l9 (D9 1000000000000000 (len*Y4 n / 1000000)) (0,0,false) (l9 (D9 n 0) (-(len*Y4 n / 1000000),-(len*Y4 n % 1000000),true) (len*Y4 n / 1000000,len*Y4 n % 1000000,true))
theorem b2e{len n:Int}(h1:1<=len)(h2:len<=1000000000000000)(hn:jc n):uQ len n=some (BL len n):=by
 unfold jc at hn;have key:∀m:Int,m=Y4 n->(o5 (tJ (wrap .u64 len) m) λ(x:Int×Int)=>l9 (J6 1000000 x.1) (some ((0:Int),(0:Int),false)) (o5 (lH x.1 x.2 1000000) λ(x:Int×Int)=>l9 (D9 1000000000000000 x.1) (some (0,0,false))
   (l9 (D9 n 0) (some (H9 .i64 0 (wrap .i64 x.1),H9 .i64 0 (wrap .i64 x.2),true)) (some (wrap .i64 x.1,wrap .i64 x.2,true)))))=some (BL len n):=by
  intro m hm;have m0:=kG n;have m1:m<=9223372036854775808:=by rw[hm];unfold Y4;split<;>omega
  rw[←hm]at m0;rw[show wrap .u64 len=len from Cj l7 l7,Oi l7 l7 m0 l7,o9];unfold BL;rw[←hm];have hA:0<=len*m:=P7 l7 m0;generalize len*m=A at*;have hre:A / 18446744073709551616*18446744073709551616+A % 18446744073709551616=A:=l7;simp only;by_cases hh:1000000<=A / 18446744073709551616
  ·rw[X5 hh,U5 (show(1000000000000000:Int)<A / 1000000 by omega)];rfl
  ·rw[Y1 l7,o6,Ui l7 l7 l7 l7 l7,o9,hre];simp only;by_cases hM:1000000000000000<A / 1000000
   ·rw[U5 hM];rfl
   ·rw[L6 l7,o6,o6,show wrap .i64 (A / 1000000)=A / 1000000 from lF O6,show wrap .i64 (A % 1000000)=A % 1000000 from lF O6,U2 O6,U2 O6,
     show(0:Int) -A / 1000000=-(A / 1000000) by omega,show(0:Int) -A % 1000000=-(A % 1000000) by omega]
    cases D9 n 0<;>rfl
 unfold uQ;by_cases h0:n<0
 ·have hk:=key (H9 .u64 0 (wrap .u64 n)) (by
   show IntKind.wrap .u64 (0 -IntKind.wrap .u64 n)=_;unfold Y4;rw[if_pos h0,yw,yw];omega)
  rw[U5 h0]at hk ⊢;exact hk
 ·have hk:=key (wrap .u64 n) (by
   show IntKind.wrap .u64 n=_;unfold Y4;rw[if_neg h0,yw];omega)
  rw[L6 l7]at hk ⊢;exact hk
theorem a9R{len n:Int}(h1:1<=len)(h2:len<=1000000000000000)(hn:jc n):yZ len n=some (BL len n):=by
 unfold jc at hn;have hm:(l9 (D9 n 0) (some (D7 .u64 (wrap .u64 (H9 .i64 0 (D7 .i64 n 1))) 1)) (some (wrap .u64 n)))=some (Y4 n):=by
  by_cases h0:n<0
  ·rw[U5 h0,o7,V5 O6,U2 O6,show wrap .u64 (0 -(n+1))=-n -1 from(Cj l7 l7).trans l7,show D7 .u64 (-n -1) 1=-n from(Cj l7 l7).trans l7];unfold Y4;rw[if_pos h0]
  ·rw[L6 l7,o6,show wrap .u64 n=n from Cj l7 l7];unfold Y4;rw[if_neg h0]
 have m0:=kG n;have m1:Y4 n<=9223372036854775808:=by unfold Y4;split<;>omega
 unfold yZ BL;rw[hm,o9];generalize Y4 n=m at*;have c1:bQ .u64 m 1000000=m / 1000000:=by unfold bQ;rw[iW m0,Cj l7 l7]
 have c2:cZ m 1000000=m % 1000000:=xX m0;have c3:wrap .i64 (m / 1000000)=m / 1000000:=lF O6;have c4:wrap .i64 (m % 1000000)=m % 1000000:=lF O6;have c5:bQ .i64 len 1000000=len / 1000000:=by rw[xW (by rw[iW l7];unfold jc;omega),iW l7]
 have c6:cZ len 1000000=len % 1000000:=xX l7;rw[c1,c2,c3,c4,c5,c6];have hmd:m=m / 1000000*1000000+m % 1000000:=l7;have b0:0<=m % 1000000:=l7;have b1:m % 1000000<1000000:=l7;have a0:0<=m / 1000000:=l7;have a1:m / 1000000<=9223372036855:=l7;have hA:len*m=(len*(m / 1000000)+len / 1000000*(m % 1000000))*1000000+len % 1000000*(m % 1000000):=by
  have e1:len*m=len*(m / 1000000)*1000000+len*(m % 1000000):=by
   calc len*m=len*(m / 1000000*1000000+m % 1000000):=by rw[←hmd]
    _=_:=by rw[Int.mul_add,Int.mul_assoc]
  have e2:len*(m % 1000000)=len / 1000000*(m % 1000000)*1000000+len % 1000000*(m % 1000000):=by
   calc len*(m % 1000000)=(len / 1000000*1000000+len % 1000000)*(m % 1000000):=by rw[show len / 1000000*1000000+len % 1000000=len by omega]
    _=_:=by rw[gq,iG]
  rw[e1,e2];omega
 have l0:0<=len % 1000000*(m % 1000000):=P7 l7 b0;have l1:len % 1000000*(m % 1000000)<=1000000*1000000:=jq l7 l7 b0 l7;have p0:0<=len / 1000000*(m % 1000000):=P7 l7 b0;have p1:len / 1000000*(m % 1000000)<=1000000000*1000000:=jq l7 l7 b0 l7;have k0:0<=len*(m / 1000000):=P7 l7 a0;have c7:X9 .i64 (len % 1000000) (m % 1000000)=len % 1000000*(m % 1000000):=lh O6;have c8:X9 .i64 (len / 1000000) (m % 1000000)=len / 1000000*(m % 1000000):=lh O6;rw[c7,c8];have hdiv:len*m / 1000000=len*(m / 1000000)+len / 1000000*(m % 1000000)+len % 1000000*(m % 1000000) / 1000000:=by rw[hA];omega
 have hmod:len*m % 1000000=len % 1000000*(m % 1000000) % 1000000:=by rw[hA];omega
 rw[hdiv,hmod];have c9:bQ .i64 (len % 1000000*(m % 1000000)) 1000000=len % 1000000*(m % 1000000) / 1000000:=by rw[xW (by rw[iW l0];unfold jc;omega),iW l0]
 have c10:cZ (len % 1000000*(m % 1000000)) 1000000=len % 1000000*(m % 1000000) % 1000000:=xX l0;rw[c9,c10];have tail:len*(m / 1000000)<=1000000000000000->l9 (D9 1000000000000000 (D7 .i64 (D7 .i64 (X9 .i64 len (m / 1000000)) (len / 1000000*(m % 1000000))) (len % 1000000*(m % 1000000) / 1000000))) (some ((0:Int),(0:Int),false))
   (l9 (D9 n 0) (some (H9 .i64 0 (D7 .i64 (D7 .i64 (X9 .i64 len (m / 1000000)) (len / 1000000*(m % 1000000))) (len % 1000000*(m % 1000000) / 1000000)),H9 .i64 0 (len % 1000000*(m % 1000000) % 1000000),true)) (some (D7 .i64 (D7 .i64 (X9 .i64 len (m / 1000000)) (len / 1000000*(m % 1000000))) (len % 1000000*(m % 1000000) / 1000000),len % 1000000*(m % 1000000) % 1000000,true)))=
   some (l9 (D9 1000000000000000 (len*(m / 1000000)+len / 1000000*(m % 1000000)+len % 1000000*(m % 1000000) / 1000000)) (0,0,false) (l9 (D9 n 0) (-(len*(m / 1000000)+len / 1000000*(m % 1000000)+len % 1000000*(m % 1000000) / 1000000),-(len % 1000000*(m % 1000000) % 1000000),true) (len*(m / 1000000)+len / 1000000*(m % 1000000)+len % 1000000*(m % 1000000) / 1000000,len % 1000000*(m % 1000000) % 1000000,true))):=by
  intro hle;rw[lh (show jc (len*(m / 1000000)) by unfold jc;omega)];generalize len*(m / 1000000)=K at*;generalize len / 1000000*(m % 1000000)=P at*;generalize len % 1000000*(m % 1000000)=L at*;rw[V5 (show jc (K+P) by unfold jc;omega),V5 (show jc (K+P+L / 1000000) by unfold jc;omega),U2 (show jc (0 -(K+P+L / 1000000)) by unfold jc;omega),U2 (show jc (0 -L % 1000000) by unfold jc;omega),show(0:Int) -(K+P+L / 1000000)=-(K+P+L / 1000000) by omega,show(0:Int) -L % 1000000=-(L % 1000000) by omega];cases D9 1000000000000000 (K+P+L / 1000000)<;>cases D9 n 0<;>rfl
 by_cases ha:0<m / 1000000
 ·rw[U5 ha,o7,vC l7 l7 ha,o9];have hMx:=U4 1000000000000000 (m / 1000000);have hMr:=J8 1000000000000000 ha;have hMr0:=P6 1000000000000000 (show m / 1000000≠0 by omega);by_cases hc:1000000000000000 / (m / 1000000)<len
  ·have:=L8 (show 1000000000000000 / (m / 1000000)+1<=len by omega) a0;rw[gq,dI]at this;rw[U5 hc,U5 (show(1000000000000000:Int)<len*(m / 1000000)+len / 1000000*(m % 1000000)+len % 1000000*(m % 1000000) / 1000000 by omega)];rfl
  ·have:=L8 (show len<=1000000000000000 / (m / 1000000) by omega) a0;rw[L6 l7,o6];exact tail l7
 ·have:m / 1000000=0:=l7;rw[L6 l7,o6];exact tail (by rw[this];simp)
theorem VK{F R j:Int}{mode:Int}(hm:nI mode=true)(h1:-4000000000000000000<=F)(h2:F<=4000000000000000000)(h3:-2000000000000000000<=j)(h4:j<=2000000000000000000)(hR:0<=R)(hR2:R<1000000)(hs:0<=F↔0<=F+2*j):
  bK (F+2*j) R 1000000 mode=(bK F R 1000000 mode).map λv=>v+2*j:=by
 have R0:∀F R:Int,bK F R 1000000 0=l9 (o8 R 0) (some F) (some F):=λF R=>rfl;have R1:∀F R:Int,bK F R 1000000 1=l9 (o8 R 0) (some F) (some (D7 .i64 F 1)):=λF R=>rfl;have R2:∀F R:Int,bK F R 1000000 2=l9 (o8 R 0) (some F) (o5 (l9 (D9 F 0) (some true) (some false)) λx=>l9 x (some (D7 .i64 F 1)) (some F)):=λF R=>rfl;have R3:∀F R:Int,bK F R 1000000 3=l9 (o8 R 0) (some F) (o5 (some (J6 0 F)) λx=>l9 x (some (D7 .i64 F 1)) (some F)):=λF R=>rfl;have R4:∀F R:Int,bK F R 1000000 4=l9 (o8 R 0) (some F) (l9 (o8 R (H9 .i64 1000000 R)) (l9 (J6 0 F) (some (D7 .i64 F 1)) (some F)) (l9 (D9 (H9 .i64 1000000 R) R) (some (D7 .i64 F 1)) (some F))):=λF R=>rfl;have R5:∀F R:Int,bK F R 1000000 5=l9 (o8 R 0) (some F) (l9 (o8 R (H9 .i64 1000000 R)) (l9 (E9 (o8 (cZ F 2) 0)) (some (D7 .i64 F 1)) (some F)) (l9 (D9 (H9 .i64 1000000 R) R) (some (D7 .i64 F 1)) (some F))):=λF R=>rfl;have hi:D7 .i64 F 1=F+1:=V5 O6;have hi2:D7 .i64 (F+2*j) 1=F+1+2*j:=by rw[V5 O6];omega
 have hlt:D9 (F+2*j) 0=D9 F 0:=by
  by_cases h:0<=F
  ·rw[L6 h,L6 (hs.1 h)]
  ·rw[U5 l7,U5 (by have:=λh' =>h (hs.2 h');omega)]
 have hle:J6 0 (F+2*j)=J6 0 F:=by rw[EJ,EJ,hlt]
 have hpar:o8 (cZ (F+2*j) 2) 0=o8 (cZ F 2) 0:=by
  unfold cZ o8;congr 1;have e1:∀x:Int,x.tmod 2=0↔x % 2=0:=λx=>by rw[←Int.dvd_iff_tmod_eq_zero,Int.dvd_iff_emod_eq_zero]
  simp only[e1];congr 1;omega
 rcases EO hm with rfl|rfl|rfl|rfl|rfl|rfl
 ·rw[R0,R0];cases o8 R 0<;>rfl
 ·rw[R1,R1,hi,hi2];cases o8 R 0<;>rfl
 ·rw[R2,R2,hi,hi2,hlt];cases o8 R 0<;>cases D9 F 0<;>rfl
 ·rw[R3,R3,hi,hi2,hle];cases o8 R 0<;>cases J6 0 F<;>rfl
 ·rw[R4,R4,hi,hi2,hle];cases o8 R 0<;>cases o8 R (H9 .i64 1000000 R)<;>cases J6 0 F<;>cases D9 (H9 .i64 1000000 R) R<;>rfl
 ·rw[R5,R5,hi,hi2,hpar];cases o8 R 0<;>cases o8 R (H9 .i64 1000000 R)<;>cases o8 (cZ F 2) 0<;>cases D9 (H9 .i64 1000000 R) R<;>rfl
theorem a7a{n j mode:Int}(hm:nI mode=true)(h1:-4000000000000000000<=n)(h2:n<=4000000000000000000)(h3:-2000000000000000<=j)(h4:j<=2000000000000000)(hs:0<=n↔0<=n+2*j*1000000):rnd (n+2*j*1000000) 1000000 mode=rnd n 1000000 mode+2*j:=by
 have a1:=EX (n:=n) (d:=1000000) (mode:=mode) l7 l7 l7 l7 hm;have a2:=EX (n:=n+2*j*1000000) (d:=1000000) (mode:=mode) l7 l7 l7 l7 hm;rw[show(n+2*j*1000000) / 1000000=n / 1000000+2*j by omega,show(n+2*j*1000000) % 1000000=n % 1000000 by omega,
  VK hm l7 l7 l7 l7 l7 l7 l7,a1]at a2
 exact(V6 a2).symm
def WU(W L mode:Int):Int×Int:=l9 (jM (rnd (W*1000000+L) 1000000 mode) 1000000000000000) (0,3) (rnd (W*1000000+L) 1000000 mode,0)
theorem VY{V p L j mode:Int}(hm:nI mode=true)(hV:-2000000000000000<=V)(hV2:V<=2000000000000000)(hp:-3<=p)(hp2:p<=3)(hL:-1000000<L)(hL2:L<1000000)(hj:V -p=2*j)(hs:0<=p*1000000+L↔0<=V*1000000+L):
  (o5 (iV (D7 .i64 (X9 .i64 p 1000000) L) 1000000 mode) λ(x:Int×Int)=>l9 (E9 (o8 x.2 0)) (some ((0:Int),x.2)) (l9 (D9 (D7 .i64 (H9 .i64 V p) x.1) (-1000000000000000)) (some (0,3)) (l9 (D9 1000000000000000 (D7 .i64 (H9 .i64 V p) x.1)) (some (0,3)) (some (D7 .i64 (H9 .i64 V p) x.1,0)))))=
  some (WU V L mode):=by
 rw[lh (show jc (p*1000000) by unfold jc;omega),V5 (show jc (p*1000000+L) by unfold jc;omega),U2 (show jc (V -p) by unfold jc;omega),EF,o9];unfold a2C;rw[hm,L9 (show(1000000:Int)≠0 by decide),Ku l7,Ku l7];have hb:=a3z (n:=p*1000000+L) (d:=1000000) mode l7;have hsh:=a7a (n:=p*1000000+L) (j:=j) hm l7 l7 l7 l7 (by rw[show p*1000000+L+2*j*1000000=V*1000000+L by omega];exact hs);rw[show p*1000000+L+2*j*1000000=V*1000000+L by omega]at hsh;simp only[o7,o6,O8 (rfl:(0:Int)=0),F9];unfold WU jM;rw[hsh,hj,V5 (show jc (2*j+rnd (p*1000000+L) 1000000 mode) by unfold jc;omega),show rnd (p*1000000+L) 1000000 mode+2*j=2*j+rnd (p*1000000+L) 1000000 mode by omega];cases D9 (2*j+rnd (p*1000000+L) 1000000 mode) (-1000000000000000)<;>cases D9 1000000000000000 (2*j+rnd (p*1000000+L) 1000000 mode)<;>rfl
theorem a5F{n d:Int}(hd:0<d):(0<=n->0<=n.tmod d/\n.tmod d<d)/\(n<=0->-d<n.tmod d/\n.tmod d<=0):=by
 refine⟨λh=>?_,λh=>?_⟩
 ·rw[dD h];exact⟨P6 n l7,J8 n hd⟩
 ·obtain⟨m,hm⟩:∃m,n=-m:=⟨-n,l7⟩;subst hm;rw[Int.neg_tmod,dD l7];have:=P6 m (show d≠0 by omega);have:=J8 m hd;omega
theorem a1G{W L mode:Int}(hm:nI mode=true)(hW:-1000000000000000000<=W)(hW2:W<=1000000000000000000)(hL:-1000000000<=L)(hL2:L<=1000000000):Aq W L mode=some (WU W L mode):=by
 unfold Aq;have hd:=Int.tdiv_mul_add_tmod L 1000000;have htm:=a5F (n:=L) (d:=1000000) l7;have t1:bQ .i64 L 1000000=L.tdiv 1000000:=xW O6;have t2:cZ L 1000000=L.tmod 1000000:=rfl;have hr1:-1000000<L.tmod 1000000:=l7;have hr2:L.tmod 1000000<1000000:=l7;rw[t1,t2,V5 (show jc (W+L.tdiv 1000000) by unfold jc;omega)];have hT:W*1000000+L=(W+L.tdiv 1000000)*1000000+L.tmod 1000000:=l7;have hsum:WU W L mode=WU (W+L.tdiv 1000000) (L.tmod 1000000) mode:=by unfold WU;rw[hT]
 rw[hsum];have hVb:-2000000000000000000<=W+L.tdiv 1000000/\W+L.tdiv 1000000<=2000000000000000000:=l7;generalize W+L.tdiv 1000000=V at*;generalize L.tmod 1000000=M at*;have hb:=a3z (n:=V*1000000+M) (d:=1000000) mode l7;by_cases c1:V< -2000000000000000
 ·rw[U5 c1,o7];unfold WU;rw[NF.2 l7];rfl
 by_cases c2:2000000000000000<V
 ·rw[L6 l7,o6,U5 c2,o7];unfold WU;rw[NF.2 l7];rfl
 rw[L6 l7,o6,L6 l7,o6];have t3:cZ V 2=V.tmod 2:=rfl;rw[t3];have hv2:=Int.tdiv_mul_add_tmod V 2;have htv:=a5F (n:=V) (d:=2) l7;by_cases c3:1<V
 ·rw[U5 c3,o7,V5 (show jc (V.tmod 2+2) by unfold jc;omega)];exact VY (j:=V.tdiv 2 -1) hm l7 l7 l7 l7 hr1 hr2 l7 l7
 rw[L6 l7,o6];by_cases c4:V< -1
 ·rw[U5 c4,o7,U2 (show jc (V.tmod 2 -2) by unfold jc;omega)];exact VY (j:=V.tdiv 2+1) hm l7 l7 l7 l7 hr1 hr2 l7 l7
 rw[L6 l7,o6];exact VY (j:=V.tdiv 2) hm l7 l7 l7 l7 hr1 hr2 l7 l7
theorem WP{W L mode:Int}(hm:nI mode=true)(hW:-1000000000000000000<=W)(hW2:W<=1000000000000000000)(hL:-1000000000<=L)(hL2:L<=1000000000):FD W L mode=some (rnd (W*1000000+L) 1000000 mode):=by
 unfold FD;obtain⟨e,k1,k2⟩:=gW (f:=λ(x:Int×Int)=>l9 (D9 x.2 0) (some (.inl (H9 .i64 x.1 1,D7 .i64 x.2 1000000))) (some (.inr x)))
  (s:=(W,L)) (λx=>x.1*1000000+x.2=W*1000000+L/\-1000000000<=x.2/\x.2<=1000000000/\-2000000000000000000<=x.1/\x.1<=2000000000000000000) (λx=>x.1*1000000+x.2=W*1000000+L/\0<=x.2/\x.2<=1000000000/\-2000000000000000000<=x.1/\x.1<=2000000000000000000) (λx=>(1000000000 -x.2).toNat) ⟨by rfl,hL,hL2,l7,l7⟩ l7 (by
  rintro⟨a,b⟩ ⟨h1,h2,h3,h4,h5⟩;simp only at h1 h2 h3 h4 h5 ⊢;by_cases hb:b<0
  ·left;rw[U5 hb,o7,U2 (show jc (a -1) by unfold jc;omega),V5 (show jc (b+1000000) by unfold jc;omega)];exact⟨_,rfl,⟨by simp only;omega,by simp only;omega,by simp only;omega,by simp only;omega,by simp only;omega⟩,by simp only;omega⟩
  ·right;rw[L6 l7];exact⟨(a,b),rfl,h1,l7,h3,h4,h5⟩)
 refine(rC k1 _).trans ?_;obtain⟨a,b⟩:=e;simp only at k2;obtain⟨e,l1,l2⟩:=gW (f:=λ(x:Int×Int)=>l9 (J6 1000000 x.2) (some (.inl (D7 .i64 x.1 1,H9 .i64 x.2 1000000))) (some (.inr x)))
  (s:=(a,b)) (λx=>x.1*1000000+x.2=W*1000000+L/\0<=x.2/\x.2<=1000000000/\-2000000000000000000<=x.1/\x.1<=2000000000000000000) (λx=>x.1=(W*1000000+L) / 1000000/\x.2=(W*1000000+L) % 1000000) (λx=>x.2.toNat) k2 (by simp only;omega) (by
  rintro⟨a,b⟩ ⟨h1,h2,h3,h4,h5⟩;simp only at h1 h2 h3 h4 h5 ⊢;by_cases hb:1000000<=b
  ·left;rw[X5 hb,o7,V5 (show jc (a+1) by unfold jc;omega),U2 (show jc (b -1000000) by unfold jc;omega)];exact⟨_,rfl,⟨by simp only;omega,by simp only;omega,by simp only;omega,by simp only;omega,by simp only;omega⟩,by simp only;omega⟩
  ·right;rw[Y1 l7];exact⟨(a,b),rfl,by simp only;omega,by simp only;omega⟩)
 refine(rC l1 _).trans ?_;obtain⟨F,R⟩:=e;simp only at l2 ⊢;obtain⟨rfl,rfl⟩:=l2;generalize hT:W*1000000+L=T at*;have hid:Y4 1000000=1000000:=rfl;have hneg:E9 (jd (D9 T 0) (D9 1000000 0))=D9 T 0:=by rw[L6 (show(0:Int)<=1000000 by omega)];cases D9 T 0<;>rfl
 by_cases h0:0<=T
 ·rw[X5 (show 0<=T / 1000000 by omega),o7,BN _ _ l7 l7 l7 l7 l7,o9];unfold rnd;rw[hid,hneg,L6 h0,show Y4 T=T by unfold Y4;rw[if_neg l7]]
 ·rw[Y1 (show T / 1000000<0 by omega),o6];unfold rnd;rw[hid,hneg,U5 l7,show Y4 T=-T by unfold Y4;rw[if_pos l7]];by_cases hz:T % 1000000=0
  ·rw[O8 hz,o7];have hu:upS (-T / 1000000) (-T % 1000000) 1000000 true mode=false:=by unfold upS;rw[O8 (show -T % 1000000=0 by omega)];rfl
   rw[hu];show some (T / 1000000)=some (-(-T / 1000000));congr 1;omega
  ·rw[L9 hz,o6,U2 (show jc (0 -T / 1000000) by unfold jc;omega),U2 (show jc (0 -T / 1000000 -1) by unfold jc;omega),U2 (show jc (1000000 -T % 1000000) by unfold jc;omega),BN _ _ l7 l7 l7 l7 l7,o9];rw[show 0 -T / 1000000 -1=-T / 1000000 by omega,show 1000000 -T % 1000000=-T % 1000000 by omega]
end Go.GP
