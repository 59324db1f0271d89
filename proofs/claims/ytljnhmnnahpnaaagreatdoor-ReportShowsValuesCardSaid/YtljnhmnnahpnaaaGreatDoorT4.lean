import Derived.Test.YtljnhmnnahpnaaaGreatDoorT1
import Derived.Test.YtljnhmnnahpnaaaGreatDoorT2
set_option linter.all false
namespace Go.GP
section
variable {α β σ ε ρ:Type}
@[simp] theorem o8 (x:α) (f:α->Option β):o5 (some x) f=f x:=rfl
@[simp] theorem b6w (f:α->Option β):o5 none f=none:=rfl
theorem qf{o:Option α}{x:α}(h:o=some x)(f:α->Option β):o5 o f=f x:=by rw[h];rfl
theorem U9{o o' :Option α}(h:o=o'){K:α->Option β}{r:Option β}(h2:o5 o' K=r):o5 o K=r:=by rw[h];exact h2
theorem bb(a b:Bool):l9 a (some b) (some false)=some (a&&b):=by cases a<;>rfl
theorem dZ(o:Option α):o5 o (λx=>some x)=o:=by cases o<;>rfl
@[simp] theorem o7 (x y:α):l9 true x y=x:=rfl
@[simp] theorem o6 (x y:α):l9 false x y=y:=rfl
theorem Fg(b:Bool)(x y:α):l9 b x y=if b=true then x else y:=by cases b<;>rfl
theorem iI{b:Bool}(h:b=true)(x y:α):l9 b x y=x:=by rw[h];rfl
theorem gB{b:Bool}(h:b=false)(x y:α):l9 b x y=y:=by rw[h];rfl
@[simp] theorem N7 (s:σ) (f:σ->α) (g:ε->α):aj (.inl s) f g=f s:=rfl
@[simp] theorem vP (s:ε) (f:σ->α) (g:ε->α):aj (.inr s) f g=g s:=rfl
@[simp] theorem E5:F6 true=false:=rfl
@[simp] theorem bH:F6 false=true:=rfl
theorem O0{a b:Int}(h:a<b):E8 a b=true:=by simp[E8,h]
theorem J6{a b:Int}(h:b<=a):E8 a b=false:=by simp[E8];omega
theorem V5{a b:Int}(h:a<=b):L9 a b=true:=by simp[L9,h]
theorem V9{a b:Int}(h:b<a):L9 a b=false:=by simp[L9];omega
theorem O8{a b:Int}(h:a=b):x8 a b=true:=by simp[x8,h]
theorem J3{a b:Int}(h:a≠b):x8 a b=false:=by simp[x8,h]
theorem jl{a b:Int} :E8 a b=true↔a<b:=by simp[E8]
theorem lT{a b:Int} :L9 a b=true↔a<=b:=by simp[L9]
theorem V6{a b:Int} :x8 a b=true↔a=b:=by simp[x8]
theorem jv{a b:Int} :E8 a b=false↔b<=a:=by simp[E8]
theorem Ld{a b:Int} :L9 a b=false↔b<a:=by simp[L9]
theorem DV{a b:Int} :x8 a b=false↔a≠b:=by simp[x8]
theorem Hu{a b:List UInt8} :seq a b=true↔a=b:=by simp[seq]
theorem a0v{a b:List UInt8} :seq a b=false↔a≠b:=by simp[seq]
theorem jG{a b:Int}(h:0<=a):a.tdiv b=a / b:=Int.tdiv_eq_ediv_of_nonneg h
theorem xA{a b:Int}(h:0<=a):jk a b=a % b:=dU h
def bQ(n:Int):Prop:=-9223372036854775808<=n/\n<=9223372036854775807
theorem L8{p:Int}(h:bQ p:=by unfold bQ;omega):bQ p:=h
def U64(n:Int):Prop:=0<=n/\n<=18446744073709551615
theorem kX{n:Int}(h:bQ n):IntKind.wrap .i64 n=n:=by unfold bQ at h;unfold IntKind.wrap;simp[IntKind.signed,IntKind.bits];omega
theorem Gs{n:Int}(h:U64 n):IntKind.wrap .u64 n=n:=by unfold U64 at h;unfold IntKind.wrap;simp[IntKind.signed,IntKind.bits];omega
theorem U7{a b:Int}(h:bQ (a+b)):D6 .i64 a b=a+b:=kX h
theorem O5{a b:Int}(h:bQ (a -b)):H8 .i64 a b=a -b:=kX h
theorem lK{a b:Int}(h:bQ (a*b)):dF .i64 a b=a*b:=kX h
theorem Bd{a b:Int}(h:bQ (a.tdiv b)):fQ .i64 a b=a.tdiv b:=kX h
theorem Wq{a b:Int}(h:U64 (a+b)):D6 .u64 a b=a+b:=Gs h
theorem a9A{a b:Int}(h:U64 (a*b)):dF .u64 a b=a*b:=Gs h
theorem a9C{a b:Int}(h:U64 (a.tdiv b)):fQ .u64 a b=a.tdiv b:=Gs h
theorem XY{n:Int}(h:(Lit.int .i64 n).wf=true):bQ n:=by simp[Lit.wf,IntKind.min,IntKind.max,IntKind.signed,IntKind.bits]at h;unfold bQ;omega
theorem TL(l:List α):0<=o9 l:=by simp[o9]
theorem G7(l:List α)(i:Nat):G9 l (i:Int)=l[i]?:=by simp[G9]
theorem dh{l:List α}{i:Int}{x:α}(h:G9 l i=some x):0<=i/\i<o9 l/\x∈l/\l[i.toNat]? =some x:=by
 unfold G9 at h;split at h
 ·rename_i h0;obtain⟨h1,h2⟩:=Y6.1 h;refine⟨h0,by simp[o9];omega,?_,h⟩;rw[←h2];exact H7 h1
 ·cases h
theorem jZ{l:List α}{i:Int}(h0:0<=i)(h:i<o9 l):∃x,G9 l i=some x/\x∈l:=by
 unfold o9 at h;refine⟨l[i.toNat]'l7,?_,H7 _⟩;unfold G9
 rw[if_pos h0,dX]
theorem zQ(l:List UInt8)(i:Nat):sat l (i:Int)=(l[i]?).map λc=>(c.toNat:Int):=by simp[sat]
theorem iQ{a b:List UInt8}(h:a.length+b.length<=4611686018427387904):fC a b=some (a++b):=by simp[fC,h]
theorem GU{a b:List α}(h:a.length+b.length<=1073741824):iY a b=some (a++b):=by simp[iY,h]
theorem M_{l:List α}{lo hi:Int}(h0:0<=lo)(h1:lo<=hi)(h2:hi<=l.length):kL l lo hi=some ((l.take hi.toNat).drop lo.toNat):=by simp[kL,h0,h1,h2]
theorem UN{l:List α}{hi:Int}(h1:0<=hi)(h2:hi<=l.length):kL l 0 hi=some (l.take hi.toNat):=by rw[M_ l7 h1 h2];simp
theorem IV{l:List α}{lo:Int}(h1:0<=lo)(h2:lo<=l.length):kL l lo (o9 l)=some (l.drop lo.toNat):=by rw[M_ h1 (by simp[o9];omega) (by simp[o9])];simp[o9]
end
section
variable {σ ε ρ:Type}
theorem TN{f:σ->Option (σ⊕ε)}(Inv:σ->Prop)(Q:ε->Prop)(meas:σ->Nat)
  (h:∀s,Inv s->(∃s',f s=some (.inl s')/\Inv s' /\meas s' <meas s)\/(∃e,f s=some (.inr e)/\Q e)):
  ∀n s,Inv s->meas s<n->∃e,nZ f n s=some e/\Q e
 |0,_,_,h=>by omega|n+1,s,hi,hm=>by
  unfold nZ;rcases h s hi with⟨s',e,hi',hm'⟩|⟨x,e,hx⟩
  ·rw[e];exact TN Inv Q meas h n s' hi' l7
  ·rw[e];exact⟨x,rfl,hx⟩
theorem fP{f:σ->Option (σ⊕ε)}{s:σ}(Inv:σ->Prop)(Q:ε->Prop)(meas:σ->Nat)(hi:Inv s)(hm:meas s<18446744073709551616)
  (h:∀s,Inv s->(∃s',f s=some (.inl s')/\Inv s' /\meas s' <meas s)\/(∃e,f s=some (.inr e)/\Q e)):∃e,aS f s=some e/\Q e:=
 TN Inv Q meas h _ s hi hm
theorem WC{f:σ->Option (Out σ ε ρ)}(Inv:σ->Prop)(Q:ε->Prop)(Qr:ρ->Prop)(meas:σ->Nat)
  (h:∀s,Inv s->(∃s',f s=some (.nx s')/\Inv s' /\meas s' <meas s)\/(∃e,f s=some (.ex e)/\Q e)\/(∃r,f s=some (.rt r)/\Qr r)):
  ∀n s,Inv s->meas s<n->(∃e,ou f n s=some (.inl e)/\Q e)\/(∃r,ou f n s=some (.inr r)/\Qr r)
 |0,_,_,h=>by omega|n+1,s,hi,hm=>by
  unfold ou;rcases h s hi with⟨s',e,hi',hm'⟩|⟨x,e,hx⟩|⟨x,e,hx⟩
  ·rw[e];exact WC Inv Q Qr meas h n s' hi' l7
  ·rw[e];exact .inl ⟨x,rfl,hx⟩
  ·rw[e];exact .inr ⟨x,rfl,hx⟩
theorem Aa{f:σ->Option (Out σ ε ρ)}{s:σ}(Inv:σ->Prop)(Q:ε->Prop)(Qr:ρ->Prop)(meas:σ->Nat)(hi:Inv s)(hm:meas s<18446744073709551616)
  (h:∀s,Inv s->(∃s',f s=some (.nx s')/\Inv s' /\meas s' <meas s)\/(∃e,f s=some (.ex e)/\Q e)\/(∃r,f s=some (.rt r)/\Qr r)):
  (∃e,X7 f s=some (.inl e)/\Q e)\/(∃r,X7 f s=some (.inr r)/\Qr r):=
 WC Inv Q Qr meas h _ s hi hm
end
section
variable {α β ε ρ:Type}
def xy(G:β->Nat->α->β):List α->Nat->β->β
 |[],_,b=>b|a::l,i,b=>xy G l (i+1) (G b i a)
theorem PQ(l:List α)(G:β->Nat->α->β)(fin:β->ε)(f:β×Int->Option ((β×Int)⊕ε))(Inv:Nat->β->Prop)
  (hin:∀(b:β) (i:Nat) (a:α),l[i]? =some a->Inv i b->f (b,(i:Int))=some (.inl (G b i a,((i+1:Nat):Int)))/\Inv (i+1) (G b i a))
  (hend:∀(b:β),Inv l.length b->f (b,(l.length:Int))=some (.inr (fin b))):
  ∀(n i:Nat) (b:β),i<=l.length->l.length -i<n->Inv i b->nZ f n (b,(i:Int))=some (fin (xy G (l.drop i) i b))/\Inv l.length (xy G (l.drop i) i b)
 |0,_,_,_,h,_=>by omega|n+1,i,b,hi,hn,hI=>by
  unfold nZ;by_cases h:i<l.length
  ·have e:=dX h;obtain⟨e1,e2⟩:=hin b i _ e hI;rw[e1,gZ h];exact PQ l G fin f Inv hin hend n (i+1) _ l7 l7 e2
  ·have:i=l.length:=l7;subst this;rw[hend b hI,wQ];exact⟨rfl,hI⟩
theorem GY(l:List α)(G:β->Nat->α->β)(fin:β->ε)(f:β×Int->Option ((β×Int)⊕ε))(Inv:Nat->β->Prop){b:β}(hl:l.length<18446744073709551616)(h0:Inv 0 b)
  (hin:∀(b:β) (i:Nat) (a:α),l[i]? =some a->Inv i b->f (b,(i:Int))=some (.inl (G b i a,((i+1:Nat):Int)))/\Inv (i+1) (G b i a))
  (hend:∀(b:β),Inv l.length b->f (b,(l.length:Int))=some (.inr (fin b))):aS f (b,0)=some (fin (xy G l 0 b))/\Inv l.length (xy G l 0 b):=
 PQ l G fin f Inv hin hend _ 0 b (nY _) hl h0
theorem Zc{G:β->Nat->α->β}(Inv:Nat->β->Prop):∀(l:List α) (i:Nat) (b:β),Inv i b->(∀i b a,a∈l->Inv i b->Inv (i+1) (G b i a))->Inv (i+l.length) (xy G l i b)
 |[],i,b,h,_=>h
 |a::l,i,b,h,hs=>by rw[F5,show i+(l.length+1)=i+1+l.length by omega];exact Zc Inv l (i+1) _ (hs i b a A7 h) λi b a ha=>hs i b a (by simp[ha])
open Classical in
theorem Aq(l:List α)(p:Nat->α->Bool)(r:ρ)(e:ε)(f:Int->Option (Out Int ε ρ))(hl:l.length<18446744073709551616)
  (hin:∀(i:Nat) (a:α),l[i]? =some a->f (i:Int)=if p i a=true then some (.nx ((i+1:Nat):Int))else some (.rt r))
  (hend:f (l.length:Int)=some (.ex e)):
  X7 f 0=if(∀i a,l[i]? =some a->p i a=true)then some (.inl e)else some (.inr r):=by
 have key:∀(n i:Nat),i<=l.length->l.length -i<n->(∀j a,j<i->l[j]? =some a->p j a=true)->ou f n (i:Int)=if(∀i a,l[i]? =some a->p i a=true)then some (.inl e)else some (.inr r):=by
  intro n;induction n with
  |zero=>intro i _ h;omega|succ n ih=>
   intro i hi hn hp;unfold ou;by_cases h:i<l.length
   ·have e' :=dX h;rw[hin i _ e'];by_cases hpi:p i l[i]=true
    ·rw[if_pos hpi];exact ih (i+1) l7 l7 λj a hj ha=>by
      by_cases hji:j=i
      ·subst hji;rw[e']at ha;cases ha;exact hpi
      ·exact hp j a l7 ha
    ·rw[if_neg hpi,if_neg];intro hall;exact hpi (hall i _ e')
   ·have:i=l.length:=l7;subst this;rw[hend,if_pos];intro j a ha;exact hp j a (Y6.1 ha).1 ha
 exact key _ 0 (nY _) hl λj a hj=>by omega
end
end Go.GP
namespace Go.GP
section
variable {α β α' β' σ τ ε ε' ρ ρ' :Type}
def Ag(R:α->β->Prop)(o:Option α)(p:Option β):Prop:=∃a b,o=some a/\p=some b/\R a b
theorem Ag.mk{R:α->β->Prop}{a:α}{b:β}(h:R a b):Ag R (some a) (some b):=⟨a,b,rfl,rfl,h⟩
theorem Ag.mono{R S:α->β->Prop}{o:Option α}{p:Option β}(h:Ag R o p)(hs:∀a b,o=some a->p=some b->R a b->S a b):Ag S o p:=by obtain⟨a,b,h1,h2,h3⟩:=h;exact⟨a,b,h1,h2,hs a b h1 h2 h3⟩
theorem Ag.bind{R:α->β->Prop}{S:α' ->β' ->Prop}{o:Option α}{p:Option β}{f:α->Option α'}{g:β->Option β'}(h:Ag R o p)
  (hk:∀a b,o=some a->p=some b->R a b->Ag S (f a) (g b)):Ag S (o5 o f) (o5 p g):=by
 obtain⟨a,b,h1,h2,h3⟩:=h;have:=hk a b h1 h2 h3;rw[h1,h2];exact this
theorem Ag.left{S:α' ->β->Prop}{o:Option α}{a:α}{f:α->Option α'}{p:Option β}(h:o=some a)(hk:Ag S (f a) p):Ag S (o5 o f) p:=by rw[h];exact hk
theorem Ag.right{S:α->β' ->Prop}{p:Option β}{b:β}{g:β->Option β'}{o:Option α}(h:p=some b)(hk:Ag S o (g b)):Ag S o (o5 p g):=by rw[h];exact hk
theorem Ag.cond{S:α->β->Prop}{b c:Bool}{x y:Option α}{u v:Option β}(h:b=c)(h1:b=true->Ag S x u)(h2:b=false->Ag S y v):Ag S (l9 b x y) (l9 c u v):=by
 subst h;cases b
 ·exact h2 rfl
 ·exact h1 rfl
theorem Ag.eq{o p:Option α}(h:Ag Eq o p):∃a,o=some a/\p=some a:=by obtain⟨a,b,h1,h2,rfl⟩:=h;exact⟨a,h1,h2⟩
def c5K(E:ε->ε' ->Prop)(Q:ρ->ρ' ->Prop):ε⊕ρ->ε' ⊕ρ' ->Prop
 | .inl a,.inl b=>E a b| .inr a,.inr b=>Q a b|_,_=>False
theorem Ag.sum{E:ε->ε' ->Prop}{Q:ρ->ρ' ->Prop}{S:α->β->Prop}{o:ε⊕ρ}{p:ε' ⊕ρ'}{f:ε->Option α}{g:ρ->Option α}{f' :ε' ->Option β}{g' :ρ' ->Option β}(h:c5K E Q o p)
  (h1:∀a b,E a b->Ag S (f a) (f' b)) (h2:∀a b,Q a b->Ag S (g a) (g' b)):Ag S (aj o f g) (aj p f' g'):=by
 cases o<;>cases p<;>first|exact h1 _ _ h|exact h2 _ _ h|exact h.elim
theorem GZ{p:Nat->Option ρ}(n:Nat)(hn:n<18446744073709551616)(e:ε){f:Int->Option (Out Int ε ρ)}
  (h1:∀i,i<n->f (i:Int)=some (match p i with|some r=> .rt r|none=> .nx ((i+1:Nat):Int))) (h2:f (n:Int)=some (.ex e)):
  X7 f 0=some (match(List.range n).findSome? p with|some r=> .inr r|none=> .inl e):=by
 have key:∀m i,i+m=n->∀k,m<k->ou f k (i:Int)=some (match(List.range' i m).findSome? p with|some r=> .inr r|none=> .inl e):=by
  intro m;induction m with
  |zero=>intro i hi k hk;obtain⟨k,rfl⟩:∃k',k=k' +1:=⟨k -1,l7⟩;have:i=n:=l7;subst this;unfold ou;rw[h2];rfl
  |succ m ih=>
   intro i hi k hk;obtain⟨k,rfl⟩:∃k',k=k' +1:=⟨k -1,l7⟩;unfold ou;rw[h1 i l7,nI,List.findSome?_cons];cases hp:p i with
   |some r=>rfl|none=>exact ih (i+1) l7 k l7
 have:=key n 0 l7 lg hn;rw[List.range_eq_range'];exact this
end
end Go.GP
namespace Go.GP
open Gt
set_option maxRecDepth 100000
section
theorem dH{i:Nat}(h:i<=9000000000000000000):D6 .i64 (i:Int) 1=((i+1:Nat):Int):=by rw[U7 L8];omega
def PS(c:UInt8):Bool:=decide (97<=c.toNat)&&decide (c.toNat<=122)
def AL(c:UInt8):Bool:=PS c || (decide (48<=c.toNat)&&decide (c.toNat<=57)) || decide (c.toNat=95)
def KF:List (List UInt8):=vI.getD []
theorem b4w:vI=some KF:=by kernel_rfl
def wP(s:List UInt8):Bool:=match s with|[]=>false|c::r=>decide (s.length<=16)&&PS c&&s.all AL&&!(KF.any λw=>seq s w)
theorem RG(c:UInt8)(r:List UInt8):wP (c::r)=(decide ((c::r).length<=16)&&PS c&&(c::r).all AL&&!(KF.any λw=>seq (c::r) w)):=rfl
theorem WE(c:UInt8):wK (c.toNat:Int)=some (PS c):=by
 unfold wK PS;cases h:decide (97<=c.toNat)<;>simp only[decide_eq_true_eq,decide_eq_false_iff_not]at h
 ·rw[V9 l7];rfl
 ·rw[V5 l7];simp only[o7,nU,L9];congr 1;by_cases h2:c.toNat<=122<;>simp[h2]<;>omega
theorem ZV(c:UInt8):Hm (c.toNat:Int)=some (PS c):=WE c
def a1m(c:UInt8):Bool:=decide (48<=c.toNat)&&decide (c.toNat<=57)
theorem a1n(c:UInt8):yX (c.toNat:Int)=some (a1m c):=by
 unfold yX a1m;cases h:decide (48<=c.toNat)<;>simp only[decide_eq_true_eq,decide_eq_false_iff_not]at h
 ·rw[V9 l7];rfl
 ·rw[V5 l7];simp only[o7,nU,L9];congr 1;by_cases h2:c.toNat<=57<;>simp[h2]<;>omega
theorem a7U(c:UInt8):LH (c.toNat:Int)=some (a1m c):=a1n c
theorem b5f(c:UInt8):x8 (c.toNat:Int) 95=decide (c.toNat=95):=by unfold x8;by_cases h:c.toNat=95<;>simp[h]<;>omega
theorem b4U(c:UInt8):JI (c.toNat:Int)=some (AL c):=by unfold JI;rw[ZV,o8,a7U,b5f];unfold AL;change _=some (PS c || a1m c || decide (c.toNat=95));cases PS c<;>cases a1m c<;>rfl
theorem Yk{s:List UInt8}(h:s.length<=1000000):∃k,yw s=some k/\(k=o9 s↔s.all AL=true):=by
 unfold yw;have:=fP (f:=λ(x:Int)=>l9 (E8 x (o9 s)) (o5 (sat s x) λx_1=>o5 (wK x_1) λx_2=>l9 x_2 (some (Sum.inl (D6 IntKind.i64 x 1)))
   (o5 (sat s x) λx_3=>o5 (yX x_3) λx_4=>l9 x_4 (some (Sum.inl (D6 IntKind.i64 x 1))) (o5 (sat s x) λx_5=>l9 (x8 x_5 95) (some (Sum.inl (D6 IntKind.i64 x 1))) (some (Sum.inr x))))) (some (Sum.inr x)))
  (s:=0) (λx=>∃i:Nat,x=i/\i<=s.length/\(s.take i).all AL=true) (λk=>k=o9 s↔s.all AL=true) (λx=>s.length -x.toNat) ⟨0,rfl,l7,rfl⟩ U6 ?_
 ·obtain⟨k,h1,h2⟩:=this;refine⟨k,?_,h2⟩;rw[dZ];exact h1
 ·rintro x ⟨i,rfl,hi,hall⟩;by_cases hl:i<s.length
  ·have e:=dX hl;simp only[O0 (show(i:Int)<o9 s by simp[o9];omega),o7,zQ,e,Y2,o8,WE,a1n,b5f];have hst:(s.take (i+1)).all AL=((s.take i).all AL&&AL s[i]):=by rw[P9 hl,List.all_append];simp
   have hw:AL s[i]=(PS s[i] || a1m s[i] || decide (s[i].toNat=95)):=rfl;cases hwb:AL s[i]with
   |true=>left;refine⟨((i+1:Nat):Int),?_,⟨i+1,rfl,hl,by rw[hst,hall,hwb];rfl⟩,by simp;omega⟩;rw[dH l7];rw[hw]at hwb;cases h1:PS s[i]<;>cases h2:a1m s[i]<;>cases h3:decide (s[i].toNat=95)<;>rw[h1,h2,h3]at hwb<;>first|rfl|cases hwb
   |false=>
    right;refine⟨(i:Int),?_,?_⟩
    ·rw[hw]at hwb;cases h1:PS s[i]<;>cases h2:a1m s[i]<;>cases h3:decide (s[i].toNat=95)<;>rw[h1,h2,h3]at hwb<;>first|rfl|cases hwb
    ·constructor
     ·intro h;simp[o9]at h;omega
     ·intro h;have:=ja.1 h s[i] (H7 hl);rw[hwb]at this;cases this
  ·right;have:i=s.length:=l7;subst this;rw[aB]at hall;exact⟨_,by rw[J6 (by simp[o9])];rfl,by simp[o9,hall]⟩
theorem a8a{a:List UInt8}{w:List UInt8}{r:Option Bool}{x:Bool}(h:r=some x):l9 (seq a w) (some (seq a w)) r=some (seq a w || x):=by rw[h];cases seq a w<;>rfl
theorem a2C(s:List UInt8):Bi s=some (KF.any λw=>seq s w):=by
 unfold Bi;refine U9 (o' :=some (KF.any λw=>seq s w)) ?_ (by cases KF.any λw=>seq s w<;>rfl);have hr:KF=(vI).getD []:=rfl;rw[show(KF.any λw=>seq s w)=List.foldr (λw b=>seq s w || b) false KF from by induction KF with|nil=>rfl|cons w l ih=>simp[qW,ih]];unfold KF vI;simp only[ai,List.foldr]
 repeat (refine a8a ?_)
 simp
theorem rY{s:List UInt8}(h:s.length<=1000000):iM s=some (wP s):=by
 unfold iM;cases s with
 |nil=>rfl|cons c r=>
  have h1:seq (c::r) []=false:=by simp[seq]
  obtain⟨k,h2,h3⟩:=Yk h;rw[h1];simp only[bH,o7];rw[show sat (c::r) 0=some (c.toNat:Int)from rfl,o8,WE,o8,h2,o8,a2C,o8];have h4:x8 k (o9 (c::r))=(c::r).all AL:=by rw[jA,V6];exact h3
  have h5:L9 (o9 (c::r)) 16=decide ((c::r).length<=16):=by simp only[L9,o9];congr 1;simp;omega
  rw[h4,h5,RG];cases PS c<;>cases (c::r).all AL<;>cases decide ((c::r).length<=16)<;>rfl
theorem og{s:List UInt8}(h:s.length<=1000000):fA s=some (wP s):=by
 unfold fA;cases s with
 |nil=>rfl|cons c r=>
  have h0:x8 (o9 (c::r)) 0=false:=J3 (by simp[o9];omega);have h5:E8 16 (o9 (c::r))= !decide ((c::r).length<=16):=by simp only[E8,o9];rw[←decide_not];congr 1;simp;omega
  rw[h0,h5,show sat (c::r) 0=some (c.toNat:Int)from rfl,o8,ZV,o8,RG];generalize hs:c::r=s at*;cases hl:decide (s.length<=16)
  ·rfl
  cases hc:PS c
  ·rfl
  simp only[jB,o6,E5,o8,N7,nU];refine U9 (Aq s (λi a=>AL a) false PUnit.unit _ l7 (λi x hx=>?_) ?_) ?_
  rotate_left 2
  ·have ha:(∀(i:Nat) (a:UInt8),s[i]? =some a->AL a=true)↔s.all AL=true:=by
    rw[ja];constructor
    ·intro h x hx;obtain⟨i,hi,rfl⟩:=J7 hx;exact h i _ (dX hi)
    ·intro h i a hi;exact h a (rV hi)
   by_cases hw:s.all AL=true
   ·rw[if_pos (ha.2 hw),o8,N7,b4w,o8,hw];refine U9 (Aq KF (λi a=> !seq a s) false PUnit.unit _ (by decide+kernel) (λi x hx=>?_) ?_) ?_
    rotate_left 2
    ·have hb:(∀(i:Nat) (a:List UInt8),KF[i]? =some a->(!seq a s)=true)↔(KF.any λw=>seq s w)=false:=by
      rw[iK];constructor
      ·intro h x hx;obtain⟨i,hi,rfl⟩:=J7 hx;have:=h i _ (dX hi);intro hq;rw[Hu.1 hq]at this;simp[seq]at this
      ·intro h i a hi;have:=h a (rV hi);cases hq:seq a s
       ·rfl
       ·exact absurd (by rw[Hu.1 hq];simp[seq]) this
     by_cases hv:(KF.any λw=>seq s w)=false
     ·rw[if_pos (hb.2 hv),hv];rfl
     ·rw[if_neg (λh=>hv (hb.1 h))];simp only[qj]at hv;rw[hv];rfl
    ·have hi:=(Y6.1 hx).1;simp only[O0 (show(i:Int)<o9 KF by simp[o9];omega),o7,G7,hx,o8];rw[show af KF (X8 (i:Int))=some x from by simp[af,X8,hx],o8,dH (by
       have:KF.length<=100:=by decide+kernel
       omega)]
     cases seq x s<;>rfl
    ·rw[J6 (by simp[o9])];rfl
   ·rw[if_neg (λh=>hw (ha.1 h))];simp only[kM]at hw;rw[hw];rfl
  ·have hi:=(Y6.1 hx).1;simp only[O0 (show(i:Int)<o9 s by simp[o9];omega),o7,zQ,hx,Y2,o8,b4U];rw[dH l7];cases AL x<;>rfl
  ·rw[J6 (by simp[o9])];rfl
theorem yI(t:Int×Int)(en:List bT):bV t en=Y9 t en:=by
 unfold bV Y9;by_cases h1:t.1=1
 ·simp[x8,h1,L9]
 by_cases h2:t.1=2
 ·simp[x8,h2,L9]
 by_cases h3:t.1=3
 ·simp[x8,h3,L9]
 by_cases h4:t.1=4
 ·simp[x8,h4,L9]
 by_cases h5:t.1=5
 ·simp[x8,h5,L9]
 by_cases h6:t.1=6
 ·simp[x8,h6,L9]
 ·simp only[x8,h1,h2,h3,h4,h5,h6,decide_false,o6,o8];by_cases h7:1<=t.1
  ·rw[iI (V5 h7),gB (V9 l7)]
  ·rw[gB (V9 l7)]
theorem QX(t:Int×Int)(en:List bT):lq t en=jb t en:=by unfold lq jb;rw[yI]
def vty(t:Int×Int)(en:List bT):Bool:=l9 (x8 t.1 6) (l9 (L9 0 t.2) (E8 t.2 (o9 en)) false) (l9 (L9 1 t.1) (l9 (L9 t.1 5) (x8 t.2 0) false) false)
theorem aF(t:Int×Int)(en:List bT):Y9 t en=some (vty t en):=by unfold Y9 vty;cases x8 t.1 6<;>cases L9 0 t.2<;>cases L9 1 t.1<;>cases L9 t.1 5<;>rfl
theorem wC(t:Int×Int)(en:List bT):bV t en=some (vty t en):=(yI t en).trans (aF t en)
theorem a0k(t:Int×Int)(en:List bT):∃b:Int×Int,jb t en=some b:=by
 unfold jb;rw[aF,o8];cases hv:vty t en
 ·exact⟨_,rfl⟩
 simp only[E5,o6];cases h1:x8 t.1 1<;>simp only[o7,o6]
 ·cases h2:x8 t.1 2<;>simp only[o7,o6]
  ·cases h3:x8 t.1 3<;>simp only[o7,o6]
   ·cases h4:x8 t.1 4<;>simp only[o7,o6]
    ·cases h5:x8 t.1 5<;>simp only[o7,o6]
     ·have h6:x8 t.1 6=true/\L9 0 t.2=true/\E8 t.2 (o9 en)=true:=by
       unfold vty at hv;rw[DV]at h1 h2 h3 h4 h5;cases h6:x8 t.1 6<;>rw[h6]at hv
       ·rw[DV]at h6;cases h7:L9 1 t.1<;>rw[h7]at hv
        ·cases hv
        cases h8:L9 t.1 5<;>rw[h8]at hv
        ·cases hv
        rw[lT]at h7 h8;omega
       ·cases h7:L9 0 t.2<;>rw[h7]at hv
        ·cases hv
        ·exact⟨rfl,rfl,hv⟩
      obtain⟨x,hx,_⟩:=jZ (lT.1 h6.2.1) (jl.1 h6.2.2);rw[hx];exact⟨_,rfl⟩
     ·exact⟨_,rfl⟩
    ·exact⟨_,rfl⟩
   ·exact⟨_,rfl⟩
  ·exact⟨_,rfl⟩
 ·exact⟨_,rfl⟩
def bnd(t:Int×Int)(en:List bT):Int×Int:=(jb t en).getD (0,0)
theorem JF(t:Int×Int)(en:List bT):jb t en=some (bnd t en):=by obtain⟨b,h⟩:=a0k t en;unfold bnd;rw[h];rfl
theorem MO(t:Int×Int)(en:List bT):lq t en=some (bnd t en):=(QX t en).trans (JF t en)
def inB(n:Int)(b:Int×Int):Bool:=l9 (L9 b.1 n) (L9 n b.2) false
theorem a0f(n:Int)(t:Int×Int)(en:List bT):BA n t en=some (inB n (bnd t en)):=by unfold BA inB;rw[JF,o8];cases L9 (bnd t en).1 n<;>rfl
def En(r:Int×Int):Bool:=l9 (L9 0 r.1) (l9 (L9 r.1 r.2) (L9 r.2 109573) false) false
theorem IB(r:Int×Int):su r=some (En r):=by unfold su En;cases L9 0 r.1<;>cases L9 r.1 r.2<;>rfl
theorem JG(r:Int×Int):Az r=some (En r):=IB r
def VQ(a b:Int×Int):(Int×Int)×Bool:=l9 (En a) (l9 (En b) (l9 (L9 (pF a.2 b.2) (kK a.1 b.1)) ((0,0),false) ((kK a.1 b.1,pF a.2 b.2),true)) ((0,0),false)) ((0,0),false)
theorem b1z(a b:Int×Int):zD a b=some (VQ a b):=by unfold zD VQ;rw[JG,o8,JG,o8];cases En a<;>cases En b<;>cases L9 (pF a.2 b.2) (kK a.1 b.1)<;>rfl
theorem b4L(a b:Int×Int):uK a b=some (VQ a b):=by
 unfold uK wU VQ;rw[IB,o8,IB,o8];cases En a
 ·rfl
 simp only[o7];cases h1:E8 a.1 a.2
 ·rw[jv]at h1;rw[V5 (show pF a.2 b.2<=kK a.1 b.1 by unfold pF kK;omega)];cases En b<;>rfl
 simp only[o8,E5,o6];cases En b
 ·rfl
 simp only[o7];cases h2:E8 b.1 b.2
 ·rw[jv]at h2;rw[V5 (show pF a.2 b.2<=kK a.1 b.1 by unfold pF kK;omega)];rfl
 ·cases L9 (pF a.2 b.2) (kK a.1 b.1)<;>rfl
def yJ(a b:BV):Bool:=l9 (VQ a.1 b.1).2 (E8 (kK a.2.1 b.2.1) (pF a.2.2.1 b.2.2.1)) false
theorem a1j(a b:BV):BO a b=some (yJ a b):=by unfold BO yJ;rw[b4L,o8];cases (VQ a.1 b.1).2<;>rfl
theorem a0l(a b:BV):BD a b=some (yJ a b):=by unfold BD yJ;rw[b1z,o8];cases (VQ a.1 b.1).2<;>rfl
theorem a9u{l:List BV}(r:BV)(h:l.length<=1000000):∃k:Int,uN l r=some (k,l.any λy=>yJ y r):=by
 unfold uN;have key:=Aa (f:=λ(x:Int)=>l9 (E8 x (o9 l)) (o5 (G9 l x) λx_1=>o5 (vS x_1 r) λx_2=>l9 x_2 (some (Out.rt (x,true))) (some (Out.nx (D6 IntKind.i64 x 1)))) (some (Out.ex PUnit.unit)))
   (s:=0) (λx=>∃i:Nat,x=i/\i<=l.length/\(l.take i).any (λy=>yJ y r)=false) (λ_=>(l.any λy=>yJ y r)=false) (λk=>k.2=true/\(l.any λy=>yJ y r)=true) (λx=>l.length -x.toNat) ⟨0,rfl,l7,rfl⟩ U6 ?_
 ·rcases key with⟨e,h1,h2⟩|⟨k,h1,h2,h3⟩
  ·exact⟨0,by rw[h1,h2];rfl⟩
  ·refine⟨k.1,?_⟩;rw[h1,h3,←h2];rfl
 ·rintro x ⟨i,rfl,hi,hall⟩;by_cases hl:i<l.length
  ·have e:=dX hl;have hst:(l.take (i+1)).any (λy=>yJ y r)=((l.take i).any (λy=>yJ y r) || yJ l[i] r):=by rw[P9 hl,tu];simp
   have hv:vS l[i] r=some (yJ l[i] r):=by unfold vS;rw[a1j];rfl
   simp only[O0 (show(i:Int)<o9 l by simp[o9];omega),o7,G7,e,o8,hv];cases hc:yJ l[i] r with
   |true=>exact .inr (.inr ⟨_,rfl,rfl,kN.2 ⟨l[i],H7 hl,hc⟩⟩)|false=>exact .inl ⟨((i+1:Nat):Int),by rw[dH l7];rfl,⟨i+1,rfl,hl,by rw[hst,hall,hc];rfl⟩,by simp;omega⟩
  ·have:i=l.length:=l7;subst this;rw[aB]at hall;exact .inr (.inl ⟨_,by rw[J6 (by simp[o9])];rfl,hall⟩)
def JW(x:BV)(bl br:Int×Int):Bool:=
 l9 (En x.1) (l9 (x8 x.1.1 x.1.2) true (l9 (L9 x.2.2.1 x.2.1) true (l9 (inB x.2.1 bl) (l9 (inB (H8 .i64 x.2.2.1 1) bl) (F6 (inB x.2.2.2 br)) true) true))) true
theorem a8e(x:BV)(t:iy)(en:List bT):Ho x t en=some (JW x (bnd t.2.1 en) (bnd t.2.2.1 en)):=by
 unfold Ho JW;rw[JG,o8,a0f,a0f,a0f];cases En x.1
 ·rfl
 cases x8 x.1.1 x.1.2
 case true=>rfl
 cases L9 x.2.2.1 x.2.1
 case true=>rfl
 simp only[E5,o6,o8,N7,o7];cases inB x.2.1 (bnd t.2.1 en)
 ·rfl
 cases inB (H8 .i64 x.2.2.1 1) (bnd t.2.1 en)
 ·rfl
 rfl
def QC(t:iy)(en:List bT)(i:Nat):Option (Int×Int):=match t.2.2.2[i]? with
 |some x=>l9 (JW x (bnd t.2.1 en) (bnd t.2.2.1 en)) (some ((i:Int),3)) (l9 ((t.2.2.2.take i).any λy=>yJ y x) (some ((i:Int),11)) none)|none=>none
def KH(t:iy)(en:List bT):Int×Int:=
 l9 (E8 64 (o9 t.2.2.2)) (64,4) (l9 (vty t.2.1 en) (l9 (vty t.2.2.1 en) (match(List.range t.2.2.2.length).findSome? (QC t en)with|some r=>r|none=>(0,0)) (-1,8)) (-1,8))
theorem rH(a b:Int):E8 a b= !L9 b a:=by simp only[E8,L9];rw[←decide_not];congr 1;simp
theorem a8c(t:iy)(en:List bT):BC t en=some (KH t en):=by
 unfold BC KH;rw[aF,o8,aF,o8];cases h64:E8 64 (o9 t.2.2.2)
 case true=>rfl
 simp only[o6];cases vty t.2.1 en
 ·rfl
 cases vty t.2.2.1 en
 ·rfl
 simp only[E5,o6,o8,N7,o7];have hlen:t.2.2.2.length<=64:=by rw[jv]at h64;simp only[o9]at h64;omega
 refine U9 (GZ (p:=QC t en) t.2.2.2.length l7 PUnit.unit (λi hi=>?_) ?_) ?_
 rotate_left 2
 ·cases (List.range t.2.2.2.length).findSome? (QC t en)<;>rfl
 ·have e:=dX hi;simp only[O0 (show(i:Int)<o9 t.2.2.2 by simp only[o9];omega),o7,G7,e,o8,a8e,QC];cases JW t.2.2.2[i] (bnd t.2.1 en) (bnd t.2.2.1 en)
  case true=>rfl
  simp only[o6];refine U9 (Aq (t.2.2.2.take i) (λj a=> !yJ a t.2.2.2[i]) ((i:Int),(11:Int)) PUnit.unit _ U6 (λj x hx=>?_) ?_) ?_
  rotate_left 2
  ·have hb:(∀(j:Nat) (a:BV),(t.2.2.2.take i)[j]? =some a->(!yJ a t.2.2.2[i])=true)↔((t.2.2.2.take i).any λy=>yJ y t.2.2.2[i])=false:=by
    rw[iK];constructor
    ·intro h x hx;obtain⟨j,hj,rfl⟩:=J7 hx;have:=h j _ (dX hj);simpa using this
    ·intro h j a hj;have:=h a (rV hj);simpa using this
   by_cases hv:((t.2.2.2.take i).any λy=>yJ y t.2.2.2[i])=false
   ·rw[if_pos (hb.2 hv),hv,dH l7];rfl
   ·rw[if_neg (λh=>hv (hb.1 h))];simp only[qj]at hv;rw[hv];rfl
  ·have hj:=(Y6.1 hx).1;simp only[aV]at hj;have hx' :t.2.2.2[j]? =some x:=by rw[Z4]at hx;split at hx<;>first|exact hx|cases hx
   simp only[O0 (show(j:Int)<(i:Int) by omega),o7,G7,hx',o8,e,a0l];rw[dH l7];cases yJ x t.2.2.2[i]<;>rfl
  ·have hl:(t.2.2.2.take i).length=i:=by simp;omega
   rw[hl,J6 l7];rfl
 ·rw[J6 (by simp[o9])];rfl
theorem Ar{α:Type}{l:List α}{i:Nat}(h:i<=l.length):kL l 0 (i:Int)=some (l.take i):=by rw[UN l7 l7];simp
theorem b3f(t:iy)(en:List bT):BN t en=some (KH t en):=by
 unfold BN KH;rw[wC,o8,wC,o8];cases h64:E8 64 (o9 t.2.2.2)
 case true=>rfl
 simp only[o6];cases vty t.2.1 en
 ·rfl
 cases vty t.2.2.1 en
 ·rfl
 simp only[E5,o6,o8,N7,o7,MO];have hlen:t.2.2.2.length<=64:=by rw[jv]at h64;simp only[o9]at h64;omega
 refine U9 (GZ (p:=QC t en) t.2.2.2.length l7 PUnit.unit (λi hi=>?_) ?_) ?_
 rotate_left 2
 ·cases (List.range t.2.2.2.length).findSome? (QC t en)<;>rfl
 ·have e:=dX hi;simp only[O0 (show(i:Int)<o9 t.2.2.2 by simp only[o9];omega),o7,G7,e,o8,QC,IB,Ar (show i<=t.2.2.2.length by omega)];obtain⟨k,hk⟩:=a9u (l:=t.2.2.2.take i) t.2.2.2[i] U6;rw[hk,dH l7];unfold JW inB;simp only[rH];generalize bnd t.2.1 en=bl;generalize bnd t.2.2.1 en=br;cases En t.2.2.2[i].1
  ·rfl
  cases x8 t.2.2.2[i].1.1 t.2.2.2[i].1.2
  case true=>rfl
  cases L9 t.2.2.2[i].2.2.1 t.2.2.2[i].2.1
  case true=>rfl
  cases L9 bl.1 t.2.2.2[i].2.1
  ·rfl
  cases L9 t.2.2.2[i].2.1 bl.2
  ·rfl
  cases L9 bl.1 (H8 IntKind.i64 t.2.2.2[i].2.2.1 1)
  ·rfl
  cases L9 (H8 IntKind.i64 t.2.2.2[i].2.2.1 1) bl.2
  ·rfl
  cases L9 br.1 t.2.2.2[i].2.2.2
  ·rfl
  cases L9 t.2.2.2[i].2.2.2 br.2
  ·rfl
  cases (t.2.2.2.take i).any λy=>yJ y t.2.2.2[i]<;>rfl
 ·rw[J6 (by simp[o9])];rfl
section
variable {α ε ρ:Type}
theorem CY(l:List α)(p:α->Bool)(r:ρ)(e:ε){f:Int->Option (Out Int ε ρ)}(hl:l.length<=1000000)
  (hin:∀(i:Nat) (a:α),l[i]? =some a->f (i:Int)=some (bif p a then .rt r else .nx (D6 .i64 (i:Int) 1))) (hend:f (l.length:Int)=some (.ex e)):
  X7 f 0=some (bif l.any p then .inr r else .inl e):=by
 rw[Aq l (λi a=> !p a) r e f l7 (λi a ha=>?_) hend]
 ·have hb:(∀(j:Nat) (a:α),l[j]? =some a->(!p a)=true)↔l.any p=false:=by
   rw[iK];constructor
   ·intro h x hx;obtain⟨j,hj,rfl⟩:=J7 hx;have:=h j _ (dX hj);simpa using this
   ·intro h j a hj;have:=h a (rV hj);simpa using this
  by_cases hv:l.any p=false
  ·rw[if_pos (hb.2 hv),hv];rfl
  ·rw[if_neg (λh=>hv (hb.1 h))];simp only[qj]at hv;rw[hv];rfl
 ·have hi:=(Y6.1 ha).1;rw[hin i a ha,dH l7];cases p a<;>rfl
theorem CE(l:List α)(p:α->Bool){f:Int->Option (Out Int PUnit Int)}(hl:l.length<=1000000)
  (hin:∀(i:Nat) (a:α),l[i]? =some a->f (i:Int)=some (bif p a then .rt (i:Int)else .nx (D6 .i64 (i:Int) 1))) (hend:f (l.length:Int)=some (.ex PUnit.unit)):
  o5 (o5 (X7 f 0) λo=>aj o (λ_=>some (-1)) λr=>some r) (λx=>some (L9 0 x))=some (l.any p):=by
 have key:=Aa (f:=f) (s:=0) (λx=>∃i:Nat,x=i/\i<=l.length/\(l.take i).any p=false) (λ_=>l.any p=false) (λk=>0<=k/\l.any p=true) (λx=>l.length -x.toNat) ⟨0,rfl,l7,rfl⟩ U6 ?_
 ·rcases key with⟨e,h1,h2⟩|⟨k,h1,h2,h3⟩
  ·rw[h1,h2];rfl
  ·rw[h1,h3,o8,vP,o8,V5 h2]
 ·rintro x ⟨i,rfl,hi,hall⟩;by_cases h:i<l.length
  ·have e:=dX h;have hst:(l.take (i+1)).any p=((l.take i).any p || p l[i]):=by rw[P9 h,tu];simp
   rw[hin i _ e];cases hc:p l[i]with
   |true=>exact .inr (.inr ⟨_,rfl,l7,kN.2 ⟨l[i],H7 h,hc⟩⟩)|false=>exact .inl ⟨((i+1:Nat):Int),by rw[dH l7];rfl,⟨i+1,rfl,h,by rw[hst,hall,hc];rfl⟩,by simp;omega⟩
  ·have:i=l.length:=l7;subst this;rw[aB]at hall;exact .inr (.inl ⟨_,hend,hall⟩)
theorem U2{i:Nat}{l:List α}{a:α}(h:l[i]? =some a):E8 (i:Int) (o9 l)=true:=O0 (by have:=(Y6.1 h).1;simp only[o9];omega)
theorem U1(l:List α):E8 (l.length:Int) (o9 l)=false:=J6 (by simp[o9])
end
theorem Oj{l:List bT}(n:List UInt8)(h:l.length<=1000000):Ak l n=some (l.any λx=>seq x.1 n):=by unfold Ak jT lC;rw[dZ];refine CE l (λx=>seq x.1 n) h (λi a ha=>?_) (by rw[U1];rfl);rw[U2 ha,o7,G7,ha,o8];unfold Ik;rw[o8];cases seq a.1 n<;>rfl
theorem TE{l:List iy}(n:List UInt8)(h:l.length<=1000000):Bh l n=some (l.any λx=>seq x.1 n):=by unfold Bh jd kz;rw[dZ];refine CE l (λx=>seq x.1 n) h (λi a ha=>?_) (by rw[U1];rfl);rw[U2 ha,o7,G7,ha,o8];unfold FM;rw[o8];cases seq a.1 n<;>rfl
theorem a1D{l:List D9}(s:D9)(h:l.length<=1000000):fO l s=some (l.any λx=>seq x.1 s.1):=by unfold fO kw;refine CE l (λx=>seq x.1 s.1) h (λi a ha=>?_) (by rw[U1];rfl);rw[U2 ha,o7,G7,ha,o8];unfold CO;rw[o8];cases seq a.1 s.1<;>rfl
theorem a3Z{l:List gy}(s:gy)(h:l.length<=1000000):gI l s=some (l.any λx=>seq x.1 s.1):=by unfold gI lD;refine CE l (λx=>seq x.1 s.1) h (λi a ha=>?_) (by rw[U1];rfl);rw[U2 ha,o7,G7,ha,o8];unfold DX;rw[o8];cases seq a.1 s.1<;>rfl
theorem TC{l:List jq}(s:jq)(h:l.length<=1000000):bU l s=some (l.any λx=>seq x.1 s.1):=by unfold bU ku;refine CE l (λx=>seq x.1 s.1) h (λi a ha=>?_) (by rw[U1];rfl);rw[U2 ha,o7,G7,ha,o8];unfold CJ;rw[o8];cases seq a.1 s.1<;>rfl
theorem a7l{l:List (List UInt8)}(s:List UInt8)(h:l.length<=1000000):kJ l s=some (l.any λx=>seq s x):=by unfold kJ rE;refine CE l (λx=>seq s x) h (λi a ha=>?_) (by rw[U1];rfl);rw[U2 ha,o7,G7,ha,o8];cases seq s a<;>rfl
theorem a7k{l:List Int}(s:Int)(h:l.length<=1000000):pM l s=some (l.any λx=>x8 s x):=by unfold pM xW;refine CE l (λx=>x8 s x) h (λi a ha=>?_) (by rw[U1];rfl);rw[U2 ha,o7,G7,ha,o8];cases x8 s a<;>rfl
section
variable {α ε ρ:Type}
theorem Iw(l:List α)(k:Nat)(p:α->Bool)(r:ρ)(e:ε){f:Int->Option (Out Int ε ρ)}(hl:l.length<=1000000)
  (hin:∀(i:Nat) (a:α),l[i]? =some a->f (i:Int)=some (bif (decide (i<k)&&p a)then .rt r else .nx (D6 .i64 (i:Int) 1))) (hend:f (l.length:Int)=some (.ex e)):
  X7 f 0=some (bif (l.take k).any p then .inr r else .inl e):=by
 rw[Aq l (λi a=> !(decide (i<k)&&p a)) r e f l7 (λi a ha=>?_) hend]
 ·have hb:(∀(j:Nat) (a:α),l[j]? =some a->(!(decide (j<k)&&p a))=true)↔(l.take k).any p=false:=by
   rw[iK];constructor
   ·intro h x hx;obtain⟨j,hj,rfl⟩:=J7 hx;simp only[aV]at hj;have:=h j _ (dX l7);rw[qm];simp only[show j<k by omega,decide_true,nU]at this;simpa using this
   ·intro h j a hj;by_cases hk:j<k
    ·have hm:a∈l.take k:=rV (i:=j) (by rw[di hk];exact hj);have:=h a hm;simpa[hk]using this
    ·simp[hk]
  by_cases hv:(l.take k).any p=false
  ·rw[if_pos (hb.2 hv),hv];rfl
  ·rw[if_neg (λh=>hv (hb.1 h))];simp only[qj]at hv;rw[hv];rfl
 ·have hi:=(Y6.1 ha).1;rw[hin i a ha,dH l7];cases decide (i<k)&&p a<;>rfl
end
theorem PI(i k:Nat):E8 (i:Int) (k:Int)=decide (i<k):=by unfold E8;by_cases h:i<k<;>simp[h]<;>omega
def BQ(l:V8)(kind:Nat)(k:Nat)(n:List UInt8):Bool:=
 match kind with
 |1=>(l.1.take k).any λx=>seq x.1 n|2=>(l.1.any λx=>seq x.1 n) || ((l.2.1.take k).any λx=>seq x.1 n)|_=>(l.1.any λx=>seq x.1 n) || (l.2.1.any λx=>seq x.1 n) || ((l.2.2.take k).any λx=>seq x.1 n)
def Few(l:V8):Prop:=l.1.length<=1000/\l.2.1.length<=1000/\l.2.2.length<=1000
theorem a8k{l:V8}(h:Few l)(k:Nat)(n:List UInt8):jI l 1 (k:Int) n=some (BQ l 1 k n):=by
 unfold jI BQ;refine U9 (Iw l.1 k (λx=>seq x.1 n) true PUnit.unit (by have:=h.1;omega) (λi a ha=>?_) ?_) ?_
 rotate_left 2
 ·cases (l.1.take k).any λx=>seq x.1 n
  case true=>rfl
  simp only[cond_false,N7];refine U9 (Iw l.2.1 0 (λx=>seq x.1 n) true PUnit.unit (by have:=h.2.1;omega) (λi a ha=>?_) ?_) ?_
  rotate_left 2
  ·simp only[List.take_zero,List.any_nil,cond_false,N7];refine U9 (Iw l.2.2 0 (λx=>seq x.1 n) true PUnit.unit (by have:=h.2.2;omega) (λi a ha=>?_) ?_) ?_
   rotate_left 2
   ·rfl
   ·rw[U2 ha];simp;rfl
   ·rw[U1];rfl
  ·rw[U2 ha];simp;rfl
  ·rw[U1];rfl
 ·rw[U2 ha,G7,ha,o8,PI,o7];cases decide (i<k)<;>cases seq a.1 n<;>rfl
 ·rw[U1];rfl
theorem a8l{l:V8}(h:Few l)(k:Nat)(n:List UInt8):jI l 2 (k:Int) n=some (BQ l 2 k n):=by
 unfold jI BQ;refine U9 (CY l.1 (λx=>seq x.1 n) true PUnit.unit (by have:=h.1;omega) (λi a ha=>?_) ?_) ?_
 rotate_left 2
 ·cases l.1.any λx=>seq x.1 n
  case true=>rfl
  simp only[cond_false,N7,nT];refine U9 (Iw l.2.1 k (λx=>seq x.1 n) true PUnit.unit (by have:=h.2.1;omega) (λi a ha=>?_) ?_) ?_
  rotate_left 2
  ·cases (l.2.1.take k).any λx=>seq x.1 n
   case true=>rfl
   simp only[cond_false,N7];refine U9 (Iw l.2.2 0 (λx=>seq x.1 n) true PUnit.unit (by have:=h.2.2;omega) (λi a ha=>?_) ?_) ?_
   rotate_left 2
   ·rfl
   ·rw[U2 ha];simp;rfl
   ·rw[U1];rfl
  ·rw[U2 ha,G7,ha,o8,PI,o7];cases decide (i<k)<;>cases seq a.1 n<;>rfl
  ·rw[U1];rfl
 ·rw[U2 ha,G7,ha,o8,o7];cases seq a.1 n<;>rfl
 ·rw[U1];rfl
theorem a8m{l:V8}(h:Few l)(k:Nat)(n:List UInt8):jI l 3 (k:Int) n=some (BQ l 3 k n):=by
 unfold jI BQ;refine U9 (CY l.1 (λx=>seq x.1 n) true PUnit.unit (by have:=h.1;omega) (λi a ha=>?_) ?_) ?_
 rotate_left 2
 ·cases l.1.any λx=>seq x.1 n
  case true=>rfl
  simp only[cond_false,N7,nT];refine U9 (CY l.2.1 (λx=>seq x.1 n) true PUnit.unit (by have:=h.2.1;omega) (λi a ha=>?_) ?_) ?_
  rotate_left 2
  ·cases l.2.1.any λx=>seq x.1 n
   case true=>rfl
   simp only[cond_false,N7,nT];refine U9 (Iw l.2.2 k (λx=>seq x.1 n) true PUnit.unit (by have:=h.2.2;omega) (λi a ha=>?_) ?_) ?_
   rotate_left 2
   ·cases (l.2.2.take k).any λx=>seq x.1 n<;>rfl
   ·rw[U2 ha,G7,ha,o8,PI,o7];cases decide (i<k)<;>cases seq a.1 n<;>rfl
   ·rw[U1];rfl
  ·rw[U2 ha,G7,ha,o8,o7];cases seq a.1 n<;>rfl
  ·rw[U1];rfl
 ·rw[U2 ha,G7,ha,o8,o7];cases seq a.1 n<;>rfl
 ·rw[U1];rfl
def PU(ms:List (List UInt8))(i:Nat):Option (Int×Int):=match ms[i]? with
 |some m=>l9 (wP m) (l9 ((ms.take i).any λx=>seq m x) (some (7,((100+i:Nat):Int))) none) (some (2,((100+i:Nat):Int)))|none=>none
def Pn(l:V8)(i:Nat)(e:bT):Int×Int:=
 l9 (wP e.1) (l9 (BQ l 1 i e.1) (7,0) (l9 (x8 (o9 e.2) 0) (5,0) (l9 (E8 16 (o9 e.2)) (4,116) (match(List.range e.2.length).findSome? (PU e.2)with|some r=>r|none=>(0,0))))) (2,0)
theorem a5R{i:Nat}(h:i<=1000000):D6 .i64 100 (i:Int)=((100+i:Nat):Int):=by rw[U7 L8];omega
theorem v_{l:V8}(h:Few l){i:Nat}(hi:i<=l.1.length)(e:bT)(h1:e.1.length<=1000000)(h2:∀m∈e.2,m.length<=1000000):
  Df l (i:Int) e=some (Pn l i e):=by
 unfold Df Pn BQ;rw[rY h1,o8,Ar hi,o8,Oj _ (by have:=h.1;simp;omega),o8];cases wP e.1
 ·rfl
 simp only[E5,o6,o7];cases (l.1.take i).any λx=>seq x.1 e.1
 case true=>rfl
 cases x8 (o9 e.2) 0
 case true=>rfl
 cases h16:E8 16 (o9 e.2)
 case true=>rfl
 simp only[o6];have hlen:e.2.length<=16:=by rw[jv]at h16;simp only[o9]at h16;omega
 refine U9 (GZ (p:=PU e.2) e.2.length l7 PUnit.unit (λj hj=>?_) ?_) ?_
 rotate_left 2
 ·cases (List.range e.2.length).findSome? (PU e.2)<;>rfl
 ·have e' :=dX hj;rw[U2 e',o7,G7,e',o8,rY (h2 _ (H7 hj)),o8,Ar l7,o8,a7l _ U6,o8,a5R l7,dH l7];simp only[PU,e'];cases wP e.2[j]
  ·rfl
  cases (e.2.take j).any λx=>seq e.2[j] x<;>rfl
 ·rw[U1];rfl
theorem b1Y(a b:List UInt8):seq a b=seq b a:=by unfold seq;by_cases h:a=b<;>simp[h,eq_comm]
theorem a6R{α σ ρ:Type}(l:List α)(p:α->Bool)(n:Nat)(hn:n<=l.length)(hl:l.length<=1000000)(a b:σ)(r:ρ){ε:Type}(e:ε){f:σ×σ×Int->Option (Out (σ×σ×Int) ε ρ)}
  (hin:∀(i:Nat) (x:α),i<n->l[i]? =some x->f (a,b,(i:Int))=some (bif p x then .rt r else .nx (a,b,D6 .i64 (i:Int) 1))) (hend:f (a,b,(n:Int))=some (.ex e)):
  X7 f (a,b,0)=some (bif (l.take n).any p then .inr r else .inl e):=by
 have key:=Aa (f:=f) (s:=(a,b,0)) (λx=>∃i:Nat,x=(a,b,(i:Int))/\i<=n/\(l.take i).any p=false) (λx=>x=e/\(l.take n).any p=false) (λk=>k=r/\(l.take n).any p=true) (λx=>n -x.2.2.toNat) ⟨0,rfl,l7,rfl⟩ U6 ?_
 ·rcases key with⟨x,h1,rfl,h2⟩|⟨k,h1,rfl,h2⟩
  ·rw[h1,h2];rfl
  ·rw[h1,h2];rfl
 ·rintro x ⟨i,rfl,hi,hall⟩;by_cases h:i<n
  ·have e' :=dX (show i<l.length by omega);have hst:(l.take (i+1)).any p=((l.take i).any p || p l[i]):=by rw[P9 l7,tu];simp
   rw[hin i _ h e'];cases hc:p l[i]with
   |true=>refine .inr (.inr ⟨_,rfl,rfl,kN.2 ⟨l[i],?_,hc⟩⟩);exact rV (i:=i) (by rw[di h];exact e')|false=>exact .inl ⟨(a,b,((i+1:Nat):Int)),by rw[dH l7];rfl,⟨i+1,rfl,h,by rw[hst,hall,hc];rfl⟩,by simp;omega⟩
  ·have:i=n:=l7;subst this;exact .inr (.inl ⟨_,hend,rfl,hall⟩)
theorem PD{β:Type}{p:Nat->Option β}{n j:Nat}{c:β}(h0:(List.range j).findSome? p=none)(h1:p j=some c)(hj:j<n):(List.range n).findSome? p=some c:=by
 induction n with
 |zero=>omega|succ n ih=>
  rw[dD,mf];by_cases h:j<n
  ·rw[ih h];rfl
  ·have:j=n:=l7;subst this;rw[h0];simp[h1]
theorem a5Q{β:Type}{p:Nat->Option β}{j:Nat}(h0:(List.range j).findSome? p=none)(h1:p j=none):(List.range (j+1)).findSome? p=none:=by rw[dD,mf,h0];simp[h1]
def Nr(kind i:Int)(r:Int×Int):Int×Int×Int×Int:=l9 (x8 r.1 0) (0,0,0,0) (r.1,kind,i,r.2)
theorem Yp{l:V8}(h:Few l){i:Nat}{e:bT}(he:l.1[i]? =some e)(h1:e.1.length<=1000000)(h2:∀m∈e.2,m.length<=1000000):
  zH l (i:Int)=some (Nr 1 i (Pn l i e)):=by
 unfold zH Pn;rw[G7,he,o8,og h1,o8,a8k h,o8];cases wP e.1
 ·rfl
 simp only[E5,o6,o7];cases BQ l 1 i e.1
 case true=>rfl
 cases x8 (o9 e.2) 0
 case true=>rfl
 cases h16:E8 16 (o9 e.2)
 case true=>rfl
 simp only[o6];have hlen:e.2.length<=16:=by rw[jv]at h16;simp only[o9]at h16;omega
 have key:=Aa (f:=λ(x_3:J4×J4×Int)=>
   l9 (E8 x_3.2.2 (o9 e.2)) (o5 (G9 e.2 x_3.2.2) λ(x_4:List UInt8)=>o5 (fA x_4) λ(x_5:Bool)=>
    l9 (F6 x_5) (some (Out.rt (2,x_3.2.1.2.1,x_3.2.1.2.2.1,D6 IntKind.i64 100 x_3.2.2)))
     (o5 (X7 (λ(x_6:J4×J4×Int)=>l9 (E8 x_6.2.2 x_3.2.2) (o5 (G9 e.2 x_6.2.2) λ(x_7:List UInt8)=>o5 (G9 e.2 x_3.2.2) λ(x:List UInt8)=>
       l9 (seq x_7 x) (some (Out.rt (7,x_6.2.1.2))) (some (Out.nx (x_6.1,x_6.2.1,D6 IntKind.i64 x_6.2.2 1)))) (some (Out.ex (x_6.1,x_6.2.1))))
      (x_3.1,(x_3.2.1.1,x_3.2.1.2.1,x_3.2.1.2.2.1,D6 IntKind.i64 100 x_3.2.2),0)) λ(o:J4×J4⊕J4)=>
       aj o (λ(y:J4×J4)=>some (Out.nx (y.1,y.2,D6 IntKind.i64 x_3.2.2 1))) λ(r:J4)=>some (Out.rt r))) (some (Out.ex x_3.1)))
  (s:=((0,0,0,0),(0,1,(i:Int),0),0))
  (λx=>∃(B:Int×Int×Int×Int) (j:Nat),x=((0,0,0,0),B,(j:Int))/\B.2.1=1/\B.2.2.1=i/\j<=e.2.length/\(List.range j).findSome? (PU e.2)=none)
  (λ_=>(List.range e.2.length).findSome? (PU e.2)=none) (λr=>∃c,(List.range e.2.length).findSome? (PU e.2)=some c/\r=(c.1,1,(i:Int),c.2)/\c.1≠0)
  (λx=>e.2.length -x.2.2.toNat) ⟨_,0,rfl,rfl,rfl,l7,rfl⟩ U6 ?_
 ·rcases key with⟨x,k1,k2⟩|⟨r,k1,c,k2,k3,k4⟩
  ·refine(qf k1 _).trans ?_;rw[k2];rfl
  ·refine(qf k1 _).trans ?_;rw[k2,k3];simp only[vP,Nr];rw[J3 k4];rfl
 ·rintro x ⟨B,j,rfl,b1,b2,hj,hn⟩;by_cases hl:j<e.2.length
  ·have e' :=dX hl;simp only[U2 e',o7,G7,e',o8,og (h2 _ (H7 hl)),a5R (show j<=1000000 by omega)];cases hid:wP e.2[j]
   ·refine .inr (.inr ⟨_,rfl,(2,((100+j:Nat):Int)),PD hn (by simp only[PU,e',hid];rfl) hl,?_,(by show(2:Int)≠0;decide)⟩);rw[b1,b2]
   ·simp only[E5,o6];rw[a6R e.2 (λx=>seq e.2[j] x) j l7 l7 (0,0,0,0) (B.1,B.2.1,B.2.2.1,((100+j:Nat):Int)) (7,B.2.1,B.2.2.1,((100+j:Nat):Int)) ((0,0,0,0),(B.1,B.2.1,B.2.2.1,((100+j:Nat):Int)))
     (λk x hk hx=>by simp only[O0 (show(k:Int)<(j:Int) by omega),o7,G7,hx,o8,e'];rw[b1Y];cases seq e.2[j] x<;>rfl)
     (by simp only[J6 (show(j:Int)<=(j:Int) by omega)];rfl)]
    cases hd:(e.2.take j).any λx=>seq e.2[j] x
    ·refine .inl ⟨((0,0,0,0),(B.1,B.2.1,B.2.2.1,((100+j:Nat):Int)),((j+1:Nat):Int)),by rw[dH l7];rfl,⟨_,j+1,rfl,b1,b2,hl,a5Q hn (by simp only[PU,e',hid,hd];rfl)⟩,by simp;omega⟩
    ·refine .inr (.inr ⟨_,rfl,(7,((100+j:Nat):Int)),PD hn (by simp only[PU,e',hid,hd];rfl) hl,?_,(by show(7:Int)≠0;decide)⟩);rw[b1,b2]
  ·have:j=e.2.length:=l7;subst this;exact .inr (.inl ⟨_,by simp only[U1];rfl,hn⟩)
def Z8{ρ:Type}(n:Nat)(p:Nat->Option ρ):Option ρ:=(List.range n).findSome? p
theorem qG{σ ε ρ:Type}{p:Nat->Option ρ}(n:Nat)(hn:n<=1000000)(a:σ)(e:ε){f:σ×Int->Option (Out (σ×Int) ε ρ)}
  (h1:∀i,i<n->f (a,(i:Int))=some (match p i with|some r=> .rt r|none=> .nx (a,D6 .i64 (i:Int) 1))) (h2:f (a,(n:Int))=some (.ex e)):
  X7 f (a,0)=some (match Z8 n p with|some r=> .inr r|none=> .inl e):=by
 have key:=Aa (f:=f) (s:=(a,0)) (λx=>∃i:Nat,x=(a,(i:Int))/\i<=n/\Z8 i p=none) (λx=>x=e/\Z8 n p=none) (λr=>Z8 n p=some r) (λx=>n -x.2.toNat) ⟨0,rfl,l7,rfl⟩ U6 ?_
 ·rcases key with⟨x,k1,rfl,k2⟩|⟨r,k1,k2⟩
  ·rw[k1,k2]
  ·rw[k1,k2]
 ·rintro x ⟨i,rfl,hi,hnone⟩;by_cases h:i<n
  ·rw[h1 i h];cases hp:p i with
   |some r=>exact .inr (.inr ⟨_,rfl,PD hnone hp h⟩)|none=>exact .inl ⟨(a,((i+1:Nat):Int)),by rw[dH l7],⟨i+1,rfl,h,a5Q hnone hp⟩,by simp;omega⟩
  ·have:i=n:=l7;subst this;exact .inr (.inl ⟨_,h2,rfl,hnone⟩)
def Oh(kind i:Int)(r:Int×Int):Option (Int×Int×Int×Int):=l9 (x8 r.1 0) none (some (r.1,kind,i,r.2))
def GM(l:V8)(i:Nat):Option (Int×Int×Int×Int):=match l.1[i]? with|some e=>Oh 1 i (Pn l i e)|none=>none
def DR(l:V8):Int×Int×Int×Int:=l9 (E8 8 (o9 l.1)) (4,1,8,0) (match Z8 l.1.length (GM l)with|some r=>r|none=>(0,0,0,0))
def a5u(l:V8):Prop:=∀e∈l.1,e.1.length<=1000000/\∀m∈e.2,m.length<=1000000
theorem Yc{l:V8}(h:Few l)(hE:a5u l):Bf l=some (DR l):=by
 unfold Bf DR;cases E8 8 (o9 l.1)
 case true=>rfl
 simp only[o6];refine U9 (qG (p:=GM l) l.1.length (by have:=h.1;omega) _ (0,0,0,0) (λi hi=>?_) ?_) ?_
 rotate_left 2
 ·cases Z8 l.1.length (GM l)<;>rfl
 ·have e:=dX hi;have hm:=hE _ (H7 hi);simp only[U2 e,o7,G7,e,o8,v_ h (show i<=l.1.length by omega) _ hm.1 hm.2,GM,Oh];cases x8 (Pn l i l.1[i]).1 0<;>rfl
 ·rw[U1];rfl
theorem bW{ρ:Type}{n:Nat}{p:Nat->Option ρ}{r:ρ}(h:Z8 n p=some r):∃i,i<n/\p i=some r:=by unfold Z8 at h;obtain⟨i,hi,hp⟩:=jP h;exact⟨i,ay.1 hi,hp⟩
theorem b3e(t:iy)(en:List bT):(KH t en).1=-1\/0<=(KH t en).1:=by
 unfold KH;cases E8 64 (o9 t.2.2.2)
 case true=>right;simp only[o7];decide
 cases vty t.2.1 en
 ·left;rfl
 cases vty t.2.2.1 en
 ·left;rfl
 right;simp only[o7,o6];cases hf:(List.range t.2.2.2.length).findSome? (QC t en)with
 |none=>exact ed _|some r=>
  obtain⟨i,hi,hp⟩:=bW (p:=QC t en) hf;unfold QC at hp;split at hp
  ·rename_i x hx;cases hw:JW x (bnd t.2.1 en) (bnd t.2.2.1 en)<;>rw[hw]at hp
   ·cases ha:(t.2.2.2.take i).any λy=>yJ y x<;>rw[ha]at hp
    ·cases hp
    ·cases hp;show(0:Int)<=(i:Int);omega
   ·cases hp;show(0:Int)<=(i:Int);omega
  ·cases hp
def Td(l:V8)(i:Nat)(t:iy):Int×Int:=
 l9 (wP t.1) (l9 (BQ l 2 i t.1) (7,0) (l9 (x8 (KH t l.1).2 0) (0,0) ((KH t l.1).2,l9 (L9 0 (KH t l.1).1) (D6 .i64 100 (KH t l.1).1) 0))) (2,0)
def Gn(l:V8)(i:Nat):Option (Int×Int×Int×Int):=match l.2.1[i]? with|some t=>Oh 2 i (Td l i t)|none=>none
def EM(l:V8):Int×Int×Int×Int:=l9 (E8 8 (o9 l.2.1)) (4,2,8,0) (match Z8 l.2.1.length (Gn l)with|some r=>r|none=>(0,0,0,0))
def a0S(l:V8):Prop:=∀t∈l.2.1,t.1.length<=1000000
theorem Xt{l:V8}(h:Few l){i:Nat}{t:iy}(he:l.2.1[i]? =some t)(h1:t.1.length<=1000000):yF l (i:Int)=some (Nr 2 i (Td l i t)):=by
 unfold yF Td;rw[G7,he,o8,og h1,o8,a8l h,o8,a8c,o8];cases wP t.1
 ·rfl
 cases BQ l 2 i t.1
 case true=>rfl
 simp only[E5,o6,o7];cases hz:x8 (KH t l.1).2 0
 case true=>rfl
 simp only[o6,Nr,hz];cases L9 0 (KH t l.1).1<;>rfl
theorem VE{l:V8}(h:Few l)(hT:a0S l):zA l=some (EM l):=by
 unfold zA EM;cases E8 8 (o9 l.2.1)
 case true=>rfl
 simp only[o6];refine U9 (qG (p:=Gn l) l.2.1.length (by have:=h.2.1;omega) _ (0,0,0,0) (λi hi=>?_) ?_) ?_
 rotate_left 2
 ·cases Z8 l.2.1.length (Gn l)<;>rfl
 ·have e:=dX hi;have hm:=hT _ (H7 hi);simp only[U2 e,o7,G7,e,o8,b3f,rY hm,Oj _ (show l.1.length<=1000000 by have:=h.1;omega),Ar (show i<=l.2.1.length by omega),
   TE _ (show(l.2.1.take i).length<=1000000 by have:=h.2.1;simp;omega),Gn,Td,BQ]
  cases wP l.2.1[i].1
  ·rfl
  cases l.1.any λx=>seq x.1 l.2.1[i].1
  case true=>rfl
  cases (l.2.1.take i).any λx=>seq x.1 l.2.1[i].1
  case true=>rfl
  simp only[E5,o6,o7,o8,Bool.or_false];cases hz:x8 (KH l.2.1[i] l.1).2 0
  case true=>rfl
  simp only[bH,o7,o6,Oh,hz];rcases b3e l.2.1[i] l.1 with hr|hr
  ·rw[O8 hr,V9 (show(KH l.2.1[i] l.1).1<0 by omega)];simp only[E5,o6,o8,hz,bH,o7]
  ·rw[J3 (show(KH l.2.1[i] l.1).1≠-1 by omega),V5 hr];simp only[bH,o7,o8,hz]
 ·rw[U1];rfl
theorem a9v{α β ε:Type}(l:List α)(g:α->β)(hl:l.length<=1000000){f:List β×Int->Option ((List β×Int)⊕ε)}{F:List β->ε}
  (hin:∀(i:Nat) (a:α) (acc:List β),l[i]? =some a->acc.length=i->f (acc,(i:Int))=some (.inl (acc++[g a],D6 .i64 (i:Int) 1))) (hend:∀acc,f (acc,(l.length:Int))=some (.inr (F acc))):
  aS f ([],0)=some (F (l.map g)):=by
 obtain⟨e,h1,h2⟩:=fP (f:=f) (s:=([],0)) (λx=>∃i:Nat,x=((l.take i).map g,(i:Int))/\i<=l.length) (λe=>e=F (l.map g)) (λx=>l.length -x.2.toNat) ⟨0,rfl,l7⟩ U6 (by
  rintro x ⟨i,rfl,hi⟩;by_cases h:i<l.length
  ·have e:=dX h;refine .inl ⟨((l.take (i+1)).map g,((i+1:Nat):Int)),?_,⟨i+1,rfl,h⟩,by simp;omega⟩;rw[hin i _ _ e U6,dH l7,P9 h,iD];rfl
  ·have:i=l.length:=l7;subst this;refine .inr ⟨_,hend _,?_⟩;rw[aB])
 rw[h1,h2]
theorem Ie{l:List jq}(h:l.length<=1000000):vg l=some (l.map (·.2)):=by
 unfold vg;rw[dZ];refine a9v (F:=id) l (λx=>x.2) h (λi a acc ha hacc=>?_) (λacc=>?_)
 ·have hi:=(Y6.1 ha).1;simp only[U2 ha,o7,G7,ha,o8];rw[GU (by simp[hacc];omega)];rfl
 ·simp only[U1];rfl
def OM(l:V8):Prop:=∀s∈l.2.2,s.1.length<=1000000/\s.2.2.1.length<=1000/\s.2.2.2.1.length<=1000/\s.2.2.2.2.length<=1000
def BL(l:V8)(s:D9):List bT×List iy×List (Int×Int)×List (Int×Int)×List (Int×Int)×Bool:=
 match(if 0<=s.2.1 then l.2.2[s.2.1.toNat]? else none)with
 |some k=>(l.1,l.2.1,s.2.2.1.map (·.2),s.2.2.2.1.map (·.2),k.2.2.2.1.map (·.2),true)|none=>(l.1,l.2.1,s.2.2.1.map (·.2),s.2.2.2.1.map (·.2),[],false)
theorem Gm{l:V8}(h:OM l){i:Nat}{s:D9}(hs:l.2.2[i]? =some s):qc l (i:Int)=some (BL l s):=by
 have hm:=h s (rV hs);unfold qc BL;rw[G7,hs,o8,Ie l7,o8,Ie l7,o8];by_cases h0:0<=s.2.1
 ·rw[V5 h0,if_pos h0,o7];by_cases h1:s.2.1<o9 l.2.2
  ·obtain⟨k,hk,hkm⟩:=jZ h0 h1;have hk' :l.2.2[s.2.1.toNat]? =some k:=(dh hk).2.2.2;rw[O0 h1,o7,hk,o8,Ie (by have:=h k hkm;omega),o8,hk']
  ·have h1' :o9 l.2.2<=s.2.1:=gW.1 h1;rw[J6 h1',o6,bu (by simp only[o9]at h1';exact Int.le_toNat h0 |>.2 h1')]
 ·have h0' :s.2.1<(0:Int):=iV.1 h0;rw[V9 h0',if_neg h0];rfl
theorem Yu{l:V8}(h:OM l){i:Nat}{s:D9}(hs:l.2.2[i]? =some s):zG l (i:Int)=some (BL l s):=by have hi:=(Y6.1 hs).1;rw[←Gm h hs];unfold zG qc;rw[J6 l7,V9 (by simp only[o9];omega)];rfl
abbrev SI(l:List Int):Prop:=l.Pairwise (·< ·)
theorem a4S:∀{a b:List Int},SI a->SI b->(∀x,x∈a↔x∈b)->a=b
 |[],[],_,_,_=>rfl|[],y::b,_,_,h=>absurd ((h y).2 A7) A7|x::a,[],_,_,h=>absurd ((h x).1 A7) A7|x::a,y::b,ha,hb,h=>by
  have ha' :=W9.1 ha;have hb' :=W9.1 hb;have hxy:x=y:=by
   rcases A8.1 ((h x).1 A7)with h1|h1
   ·exact h1
   ·rcases A8.1 ((h y).2 A7)with h2|h2
    ·exact h2.symm
    ·have:=hb'.1 _ h1;have:=ha'.1 _ h2;omega
  subst hxy;congr 1;refine a4S ha'.2 hb'.2 λz=>⟨λhz=>?_,λhz=>?_⟩
  ·rcases A8.1 ((h z).1 (by simp[hz]))with h1|h1
   ·have:=ha'.1 _ hz;omega
   ·exact h1
  ·rcases A8.1 ((h z).2 (by simp[hz]))with h1|h1
   ·have:=hb'.1 _ hz;omega
   ·exact h1
def ins(n:Int):List Int->List Int
 |[]=>[n]|a::l=>if n<=a then(if n<a then n::a::l else a::l)else a::ins n l
theorem N_(n x:Int):∀l,x∈ins n l↔x=n\/x∈l
 |[]=>by simp[ins]|a::l=>by
  unfold ins;by_cases h:n<=a
  ·rw[if_pos h];by_cases h2:n<a
   ·rw[if_pos h2];simp
   ·rw[if_neg h2];have:n=a:=l7;subst this;simp
  ·rw[if_neg h,A8,N_ n x l,A8];constructor
   ·rintro(h|h|h)<;>simp[h]
   ·rintro(h|h|h)<;>simp[h]
theorem b2b(n:Int):∀{l},SI l->SI (ins n l)
 |[],_=>List.pairwise_singleton _ _|a::l,h=>by
  have h' :=W9.1 h;unfold ins;by_cases h1:n<=a
  ·rw[if_pos h1];by_cases h2:n<a
   ·rw[if_pos h2];refine W9.2 ⟨λx hx=>?_,h⟩;rcases A8.1 hx with rfl|hx
    ·exact h2
    ·have:=h'.1 x hx;omega
   ·rw[if_neg h2];exact h
  ·rw[if_neg h1];refine W9.2 ⟨λx hx=>?_,b2b n h'.2⟩;rcases(N_ n x l).1 hx with rfl|hx
   ·omega
   ·exact h'.1 x hx
def Ij(ns:List Int)(l:List Int):List Int:=ns.foldl (λacc n=>ins n acc) l
theorem PW(x:Int):∀ns l,x∈Ij ns l↔x∈ns\/x∈l
 |[],l=>by simp[Ij]|n::ns,l=>by
  show x∈Ij ns (ins n l)↔_;rw[PW x ns,N_,A8];constructor
  ·rintro(h|h|h)<;>simp[h]
  ·rintro((h|h)|h)<;>simp[h]
theorem Vb:∀ns {l},SI l->SI (Ij ns l)
 |[],_,h=>h|n::ns,_,h=>Vb ns (b2b n h)
theorem TJ(a b l:List Int):Ij (a++b) l=Ij b (Ij a l):=List.foldl_append ..
def KG(l:List Int):List Int:=Ij l []
theorem Dw(x:Int)(l:List Int):x∈KG l↔x∈l:=by unfold KG;rw[PW];simp
theorem a0x(l:List Int):SI (KG l):=Vb l List.Pairwise.nil
theorem zY(n:Int):∀l,(ins n l).length<=l.length+1
 |[]=>by simp[ins]|a::l=>by
  unfold ins;by_cases h1:n<=a
  ·rw[if_pos h1];by_cases h2:n<a
   ·rw[if_pos h2];simp
   ·rw[if_neg h2];simp
  ·rw[if_neg h1];have:=zY n l;simp only[F5];omega
theorem GV:∀ns l,(Ij ns l).length<=l.length+ns.length
 |[],l=>by simp[Ij]|n::ns,l=>by have h1:=GV ns (ins n l);have h2:=zY n l;show(Ij ns (ins n l)).length<=_;simp only[F5];omega
theorem TK(l:List Int):(KG l).length<=l.length:=by have:=GV l [];unfold KG;simpa using this
theorem XJ{l:List Int}(n:Nat)(h:SI l)(h2:∀x∈l,0<=x/\x<n):l.length<=n:=by
 have key:∀(l:List Int) (lo:Int),SI l->(∀x∈l,lo<=x/\x<n)->lo<=n->(l.length:Int)<=n -lo:=by
  intro l;induction l with
  |nil=>intro lo _ _ hlo;simp;omega|cons a l ih=>intro lo hs hb hlo;have h' :=W9.1 hs;have ha:=hb a A7;have:=ih (a+1) h'.2 (λx hx=>⟨by have:=h'.1 x hx;omega,(hb x (by simp[hx])).2⟩) l7;simp only[F5];omega
 have:=key l 0 h (λx hx=>h2 x hx) l7;omega
theorem VH(x:Int):∀(l:List Int) (p:Int),(p::l).Pairwise (·<=·)->SI (p::ddp p l)/\(x∈p::ddp p l↔x∈p::l)
 |[],p,_=>⟨List.pairwise_singleton _ _,Iff.rfl⟩|a::l,p,h=>by
  have h1:=W9.1 h;obtain⟨i1,i2⟩:=VH x l a h1.2;have h2:=W9.1 h1.2;have hpa:=h1.1 a A7;unfold ddp;cases hq:x8 a p
  ·rw[DV]at hq;simp only[cond_false];refine⟨W9.2 ⟨λy hy=>?_,i1⟩,?_⟩
   ·rcases A8.1 hy with rfl|hy
    ·omega
    ·have:=(W9.1 i1).1 y hy;omega
   ·rw[A8,i2,A8 (a:=x) (b:=p)]
  ·rw[V6]at hq;subst hq;simp only[cond_true];refine⟨i1,?_⟩;rw[i2];simp
theorem a9h(l:List Int):dd (IU l)=KG l:=by
 have hs:=Eu l;have hp:=FK l;refine a4S ?_ (a0x l) λx=>?_
 ·cases he:IU l with
  |nil=>exact List.Pairwise.nil|cons a r=>rw[he]at hs;exact(VH a r a hs).1
 ·rw[Dw,←hp.mem_iff];cases he:IU l with
  |nil=>exact Iff.rfl|cons a r=>rw[he]at hs;exact(VH x r a hs).2
theorem a7p(l:List Int):(IU l).length=l.length:=(FK l).length_eq
theorem b4P{l:List Int}(h:l.length<=1000000):o5 (Fe l) (λx=>sQ x)=some (KG l):=by unfold Fe sQ;rw[show Nat.blt l.length 4611686018427387904=true from by simp[Nat.blt];omega];simp only[cond_true,o8];rw[show Nat.blt (IU l).length 4611686018427387904=true from by rw[a7p];simp[Nat.blt];omega];rw[cond_true,a9h]
def hg(l:List Int)(i:Nat):Int:=l.getD i 0
def swp(l:List Int)(i j:Nat):List Int:=(l.set i (hg l j)).set j (hg l i)
theorem yj{l:List Int}{i:Nat}(h:i<l.length):l[i]? =some (hg l i):=by unfold hg;rw[AO,dX h];rfl
theorem JR(l:List Int)(i j:Nat):(swp l i j).length=l.length:=by simp[swp]
theorem F_{l:List Int}{i j:Nat}(hi:i<l.length)(hj:j<l.length)(k:Nat):hg (swp l i j) k=if k=j then hg l i else if k=i then hg l j else hg l k:=by
 unfold hg swp;simp only[AO,X3,xB];by_cases h1:k=j
 ·subst h1;simp[hj,hg,AO]
 ·rw[if_neg (λh=>h1 h.symm),if_neg h1];by_cases h2:k=i
  ·subst h2;simp[hi,hg,AO]
  ·rw[if_neg (λh=>h2 h.symm),if_neg h2]
theorem LZ{l:List Int}{i j:Nat}(hi:i<l.length)(hj:j<l.length):(swp l i j).Perm l:=by
 have e1:hg l i=l[i]:=by have:=yj hi;rw[dX hi]at this;exact(I4 this).symm
 have e2:hg l j=l[j]:=by have:=yj hj;rw[dX hj]at this;exact(I4 this).symm
 unfold swp;rw[e1,e2];exact List.set_set_perm hi hj
def KI(l:List Int)(n:Nat):Prop:=∀k,0<k->k<n->hg l ((k -1) / 2)<=hg l k
def QS(l:List Int)(j:Nat):Prop:=(∀k,0<k->k<l.length->k≠j->hg l ((k -1) / 2)<=hg l k)/\(0<j->∀k,0<k->k<l.length->(k -1) / 2=j->hg l ((j -1) / 2)<=hg l k)
def Ir(l:List Int)(n i:Nat):Prop:=(∀k,0<k->k<n->(k -1) / 2≠i->hg l ((k -1) / 2)<=hg l k)/\(0<i->∀k,0<k->k<n->(k -1) / 2=i->hg l ((i -1) / 2)<=hg l k)
theorem a1F{l:List Int}{j:Nat}(h:QS l j)(h0:0<j)(hj:j<l.length)(hlt:hg l j<hg l ((j -1) / 2)):QS (swp l ((j -1) / 2) j) ((j -1) / 2):=by
 have hi:(j -1) / 2<l.length:=l7;have hij:(j -1) / 2<j:=l7;generalize hp:(j -1) / 2=i at*;have G:=F_ hi hj;refine⟨λk k0 k1 k2=>?_,λi0 k k0 k1 k2=>?_⟩
 ·rw[JR]at k1;rw[G k,G];by_cases a:k=j
  ·subst a;rw[if_pos rfl,hp,if_neg l7,if_pos rfl];omega
  rw[if_neg a,if_neg k2];by_cases b:(k -1) / 2=j
  ·rw[if_pos b];have:=h.2 h0 k k0 k1 b;rw[hp]at this;exact this
  rw[if_neg b];by_cases c:(k -1) / 2=i
  ·rw[if_pos c];have:=h.1 k k0 k1 a;rw[c]at this;omega
  rw[if_neg c];exact h.1 k k0 k1 a
 ·rw[JR]at k1;rw[G,G,if_neg l7,if_neg l7];have e1:=h.1 i i0 hi l7;by_cases a:k=j
  ·rw[if_pos a];exact e1
  ·rw[if_neg a,if_neg l7];have:=h.1 k k0 k1 a;rw[k2]at this;omega
theorem Wl{l:List Int}{j:Nat}(h:QS l j)(he:j=0\/hg l ((j -1) / 2)<=hg l j):KI l l.length:=λk k0 k1=>by
 by_cases a:k=j
 ·subst a;rcases he with he|he
  ·omega
  ·exact he
 ·exact h.1 k k0 k1 a
theorem Ih{l:List Int}{n i j:Nat}(h:Ir l n i)(hn:n<=l.length)(hj:(j -1) / 2=i)(hj0:0<j)(hjn:j<n)(hmin:∀k,0<k->k<n->(k -1) / 2=i->hg l j<=hg l k)(hlt:hg l j<hg l i):Ir (swp l i j) n j:=by
 have G:=F_ (l:=l) (i:=i) (j:=j) l7 l7;refine⟨λk k0 k1 k2=>?_,λj0 k k0 k1 k2=>?_⟩
 ·rw[G k,G,if_neg k2];by_cases a:k=j
  ·rw[if_pos a,if_pos l7];omega
  rw[if_neg a];by_cases b:k=i
  ·rw[if_pos b,if_neg l7];rw[b];exact h.2 l7 j hj0 hjn hj
  rw[if_neg b];by_cases c:(k -1) / 2=i
  ·rw[if_pos c];exact hmin k k0 k1 c
  ·rw[if_neg c];exact h.1 k k0 k1 c
 ·rw[G,G,if_neg l7,if_pos hj,if_neg l7,if_neg l7];have:=h.1 k k0 k1 l7;rw[k2]at this;exact this
theorem Es{l:List Int}{n i:Nat}(h:Ir l n i)(he:∀k,0<k->k<n->(k -1) / 2=i->hg l i<=hg l k):KI l n:=λk k0 k1=>by
 by_cases a:(k -1) / 2=i
 ·rw[a];exact he k k0 k1 a
 ·exact h.1 k k0 k1 a
theorem a9w{l:List Int}{n:Nat}(h:KI l n):∀k,k<n->hg l 0<=hg l k:=by
 intro k;induction k using Nat.strongRecOn with
 |ind k ih=>
  intro hk;by_cases h0:k=0
  ·subst h0;exact ed _
  ·have h1:=h k l7 hk;have h2:=ih ((k -1) / 2) l7 l7;omega
theorem a4b{l:List Int}{n:Nat}(h:KI l l.length)(hn:n+1=l.length):Ir (swp l 0 n) n 0:=by have G:=F_ (l:=l) (i:=0) (j:=n) l7 l7;refine⟨λk k0 k1 k2=>?_,λh0=>by omega⟩;rw[G k,G,if_neg l7,if_neg k2,if_neg l7,if_neg l7];exact h k k0 l7
theorem QJ{α:Type}{l:List α}{n i:Nat}{a:α}(h:(l.take n)[i]? =some a):i<n/\l[i]? =some a:=by
 rw[Z4]at h;split at h
 ·exact⟨by assumption,h⟩
 ·cases h
theorem JE{l:List jq}(hl:l.length<=1000000)(n:Nat)(nm:List UInt8):vK l (n:Int) nm=some ((l.take n).any λx=>seq x.1 nm):=by
 unfold vK;refine U9 (CY (l.take n) (λx=>seq x.1 nm) true PUnit.unit U6 (λi a ha=>?_) ?_) ?_
 rotate_left 2
 ·cases (l.take n).any λx=>seq x.1 nm<;>rfl
 ·obtain⟨h1,h2⟩:=QJ ha;rw[O0 (show(i:Int)<n by omega),U2 h2,G7,h2];simp only[o7,o8];cases seq a.1 nm<;>rfl
 ·by_cases h:n<l.length
  ·have e:(l.take n).length=n:=by simp;omega
   rw[e,J6 l7];rfl
  ·have e:(l.take n).length=l.length:=by simp;omega
   rw[e,U1];cases E8 (l.length:Int) (n:Int)<;>rfl
def DT(en:List bT)(f:jq)(a b:List jq):Int:=
 l9 (wP f.1) (l9 (a.any λx=>seq x.1 f.1) 7 (l9 (b.any λx=>seq x.1 f.1) 7 (l9 (vty f.2 en) 0 8))) 2
theorem NE{l:V8}{f:jq}{a b:List jq}(h:f.1.length<=1000000)(ha:a.length<=1000000)(hb:b.length<=1000000):xE l f a b=some (DT l.1 f a b):=by
 unfold xE DT;rw[rY h,o8,TC _ ha,o8,TC _ hb,o8,wC,o8];cases wP f.1
 ·rfl
 cases a.any λx=>seq x.1 f.1
 case true=>rfl
 cases b.any λx=>seq x.1 f.1
 case true=>rfl
 cases vty f.2 l.1<;>rfl
def Pv(c e:Int):Option (Int×Int):=l9 (x8 c 0) none (some (c,e))
def inP(l:V8)(s:D9)(i:Nat):Option (Int×Int):=match s.2.2.1[i]? with|some f=>Pv (DT l.1 f (s.2.2.1.take i) []) (100+i:Nat)|none=>none
def Yf(l:V8)(s:D9)(i:Nat):Option (Int×Int):=match s.2.2.2.1[i]? with|some f=>Pv (DT l.1 f s.2.2.1 (s.2.2.2.1.take i)) (200+i:Nat)|none=>none
def a0O(s:D9):Prop:=(∀f∈s.2.2.1,f.1.length<=1000000)/\(∀f∈s.2.2.2.1,f.1.length<=1000000)
theorem TF{c i:Nat}(hc:c<=1000)(h:i<=1000000):D6 .i64 (c:Int) (i:Int)=((c+i:Nat):Int):=by rw[U7 L8];omega
def Ux(i:Int)(r:Int×Int):Int×Int×Int×Int:=(r.1,3,i,r.2)
theorem GR{ρ ρ' :Type}(g:ρ->ρ')(n:Nat)(p:Nat->Option ρ):Z8 n (λi=>(p i).map g)=(Z8 n p).map g:=by
 unfold Z8;induction n with
 |zero=>rfl|succ n ih=>rw[dD,mf,mf,ih];cases (List.range n).findSome? p<;>simp
def yg(l:V8)(s:D9):Option (Int×Int):=match Z8 s.2.2.1.length (inP l s)with|some r=>some r|none=>Z8 s.2.2.2.1.length (Yf l s)
theorem Xp{l:V8}{i:Nat}{s:D9}(hs:l.2.2[i]? =some s)(h1:s.2.2.1.length<=1000)(h2:s.2.2.2.1.length<=1000)(hf:a0O s):
  yC l (i:Int)=some (match yg l s with|some r=>Ux i r|none=>(0,0,0,0)):=by
 unfold yC yg;rw[G7,hs,o8];refine U9 (qG (p:=λk=>(inP l s k).map (Ux i)) s.2.2.1.length l7 _ (0,0,0,0) (λk hk=>?_) ?_) ?_
 rotate_left 2
 ·rw[GR];cases Z8 s.2.2.1.length (inP l s)
  case some r=>rfl
  simp only[Option.map_none,N7];refine U9 (qG (p:=λk=>(Yf l s k).map (Ux i)) s.2.2.2.1.length l7 _ (0,0,0,0) (λk hk=>?_) ?_) ?_
  rotate_left 2
  ·rw[GR];cases Z8 s.2.2.2.1.length (Yf l s)<;>rfl
  ·have e:=dX hk;have hm:=hf.2 _ (H7 hk);simp only[U2 e,o7,G7,e,o8,og hm,show o9 s.2.2.1=((s.2.2.1.length:Nat):Int)from rfl,JE (show s.2.2.1.length<=1000000 by omega),JE (show s.2.2.2.1.length<=1000000 by omega),aF,Yf,DT,Pv,aB];rw[show(200:Int)=((200:Nat):Int)from rfl,TF l7 l7];cases wP s.2.2.2.1[k].1
   ·rfl
   cases s.2.2.1.any λx=>seq x.1 s.2.2.2.1[k].1
   case true=>rfl
   cases (s.2.2.2.1.take k).any λx=>seq x.1 s.2.2.2.1[k].1
   case true=>rfl
   cases vty s.2.2.2.1[k].2 l.1<;>rfl
  ·simp only[U1];rfl
 ·have e:=dX hk;have hm:=hf.1 _ (H7 hk);simp only[U2 e,o7,G7,e,o8,og hm,JE (show s.2.2.1.length<=1000000 by omega),aF,inP,DT,Pv];rw[show(100:Int)=((100:Nat):Int)from rfl,TF l7 l7];cases wP s.2.2.1[k].1
  ·rfl
  cases (s.2.2.1.take k).any λx=>seq x.1 s.2.2.1[k].1
  case true=>rfl
  cases vty s.2.2.1[k].2 l.1<;>rfl
 ·simp only[U1];rfl
def arF(op:Int):Int:=(kH op).getD 0
theorem b6B{op:Int}(h:1<=op/\op<=39):∃k:Fin 40,op=(k.val:Int):=⟨⟨op.toNat,l7⟩,by simp;omega⟩
theorem b9p:∀k:Fin 40,1<=k.val->(pU (k.val:Int)=kH (k.val:Int))/\(kH (k.val:Int)=some 0\/kH (k.val:Int)=some 1\/kH (k.val:Int)=some 2\/kH (k.val:Int)=some 3):=by decide+kernel
theorem H_{op:Int}(h:¬(1<=op/\op<=39))(k:Int)(h1:1<=k)(h2:k<=39):x8 op k=false:=J3 l7
theorem a0j{op:Int}(h:¬(1<=op/\op<=39)):kH op=some (-1):=by
 unfold kH;by_cases h1:1<=op
 ·rw[V5 h1,o7,V9 (show(9:Int)<op by omega),o6,V9 (show(39:Int)<op by omega),V9 (show(30:Int)<op by omega)];simp[H_ h];cases L9 35 op<;>cases L9 11 op<;>rfl
 ·rw[V9 (show op<1 by omega),o6,V9 (show op<35 by omega),V9 (show op<11 by omega)];simp[H_ h]
theorem b6c{op:Int}(h:¬(1<=op/\op<=39)):pU op=some (-1):=by unfold pU;simp[H_ h]
theorem Iy(op:Int):pU op=some (arF op)/\kH op=some (arF op)/\(arF op=-1\/arF op=0\/arF op=1\/arF op=2\/arF op=3):=by
 unfold arF;by_cases h:1<=op/\op<=39
 ·obtain⟨k,rfl⟩:=b6B h;obtain⟨h1,h2⟩:=b9p k l7;rcases h2 with h2|h2|h2|h2<;>rw[h1,h2]<;>simp
 ·rw[b6c h,a0j h];simp
theorem Vq(op:Int):pU op=some (arF op):=(Iy op).1
theorem a0i(op:Int):kH op=some (arF op):=(Iy op).2.1
inductive XT where
 |l0 (n:Int×Int)|l1 (n:Int×Int) (a:XT)|l2 (n:Int×Int) (a b:XT)|l3 (n:Int×Int) (a b c:XT)
def XT.size:XT->Nat
 | .l0 _=>1| .l1 _ a=>a.size+1| .l2 _ a b=>a.size+b.size+1| .l3 _ a b c=>a.size+b.size+c.size+1
def XT.post:XT->List (Int×Int)
 | .l0 n=>[n]| .l1 n a=>a.post++[n]| .l2 n a b=>a.post++b.post++[n]| .l3 n a b c=>a.post++b.post++c.post++[n]
def XT.sts(o:Nat):XT->List Int
 | .l0 _=>[(o:Int)]| .l1 _ a=>a.sts o++[(o:Int)]| .l2 _ a b=>a.sts o++b.sts (o+a.size)++[(o:Int)]| .l3 _ a b c=>a.sts o++b.sts (o+a.size)++c.sts (o+a.size+b.size)++[(o:Int)]
theorem XT.size_pos(t:XT):0<t.size:=by cases t<;>simp[XT.size]
theorem XT.post_len(t:XT):t.post.length=t.size:=by
 induction t with
 |l0 n=>rfl|l1 n a ha=>simp[XT.post,XT.size,ha]|l2 n a b ha hb=>simp[XT.post,XT.size,ha,hb];try omega
 |l3 n a b c ha hb hc=>simp[XT.post,XT.size,ha,hb,hc];try omega
theorem XT.sts_len(t:XT):∀o,(t.sts o).length=t.size:=by
 induction t with
 |l0 n=>intro o;rfl|l1 n a ha=>intro o;simp[XT.sts,XT.size,ha]|l2 n a b ha hb=>intro o;simp[XT.sts,XT.size,ha,hb];try omega
 |l3 n a b c ha hb hc=>intro o;simp[XT.sts,XT.size,ha,hb,hc];try omega
def ji:List XT->Nat
 |[]=>0|t::r=>ji r+t.size
def Kr:List XT->List (Int×Int)
 |[]=>[]|t::r=>Kr r++t.post
def stR:List XT->List Int
 |[]=>[]|t::r=>stR r++t.sts (ji r)
def pG:List XT->List Int
 |[]=>[]|t::r=>pG r++[(ji r:Int)]
theorem oV:∀ts,(pG ts).length=ts.length
 |[]=>rfl|t::r=>by simp[pG,oV r]
theorem EK:∀ts,(stR ts).length=ji ts
 |[]=>rfl|t::r=>by simp[stR,ji,EK r,XT.sts_len]
theorem Nc:∀ts,(Kr ts).length=ji ts
 |[]=>rfl|t::r=>by simp[Kr,ji,Nc r,XT.post_len]
def push(n:Int×Int)(ts:List XT):Int⊕List XT:=
 if arF n.1=0 then .inr (.l0 n::ts)
 else if arF n.1=1 then(match ts with|a::r=> .inr (.l1 n a::r)|_=> .inl 5)
 else if arF n.1=2 then(match ts with|b::a::r=> .inr (.l2 n a b::r)|_=> .inl 5)
 else if arF n.1=3 then(match ts with|c::b::a::r=> .inr (.l3 n a b c::r)|_=> .inl 5)
 else .inl 2
def uz:Nat->List (Int×Int)->List XT->(Int×Int)⊕List XT
 |_,[],ts=> .inr ts
 |i,n::es,ts=>match push n ts with
  | .inl c=> .inl ((i:Int),c)| .inr ts' =>if 12<ts'.length then .inl ((i:Int),16)else uz (i+1) es ts'
def mM(e:List (Int×Int)):(Int×Int)⊕XT:=
 if 48<e.length then .inl (0,4)else if e.length=0 then .inl (0,5)else
  match uz 0 e []with
  | .inl x=> .inl x| .inr [t]=> .inr t| .inr _=> .inl ((e.length:Int),4)
theorem ZN{n:Int×Int}{ts ts' :List XT}(h:push n ts= .inr ts'):Kr ts' =Kr ts++[n]/\ts' ≠[]:=by
 unfold push at h;split at h
 ·cases h;exact⟨rfl,A7⟩
 split at h
 ·split at h
  ·cases h;exact⟨by simp[Kr,XT.post],A7⟩
  ·cases h
 split at h
 ·split at h
  ·cases h;exact⟨by simp[Kr,XT.post],A7⟩
  ·cases h
 split at h
 ·split at h
  ·cases h;exact⟨by simp[Kr,XT.post],A7⟩
  ·cases h
 ·cases h
theorem Nj{n:Int×Int}{ts ts' :List XT}(h:push n ts= .inr ts'):ji ts' =ji ts+1:=by rw[←Nc,←Nc,(ZN h).1];simp
theorem JC:∀(es:List (Int×Int)) (i:Nat) (ts ts' :List XT),uz i es ts= .inr ts' ->Kr ts' =Kr ts++es/\(ts≠[]\/es≠[]->ts' ≠[])
 |[],i,ts,ts',h=>by cases h;exact⟨A7,A7⟩|n::es,i,ts,ts',h=>by
  unfold uz at h;cases hp:push n ts with
  |inl c=>rw[hp]at h;cases h|inr t2=>
   rw[hp]at h;simp only at h;split at h
   ·cases h
   ·obtain⟨h1,h2⟩:=JC es (i+1) t2 ts' h;obtain⟨h3,h4⟩:=ZN hp;exact⟨by rw[h1,h3];simp,λ_=>h2 (.inl h4)⟩
theorem DK{e:List (Int×Int)}{t:XT}(h:mM e= .inr t):e=t.post/\e.length<=48:=by
 unfold mM at h;split at h
 ·cases h
 split at h
 ·cases h
 split at h
 ·cases h
 ·rename_i t' hp;cases h;have:=(JC e 0 [] [t] hp).1;exact⟨by simpa[Kr]using this.symm,l7⟩
 ·cases h
theorem Uu{σ ε ρ:Type}(e:List (Int×Int))(he:e.length<=48)(g:List XT->σ)(fin:List XT->ε)(rt:Int×Int->ρ){f:σ->Option (Out σ ε ρ)}
  (hs:∀(i:Nat) (n:Int×Int) (ts:List XT),e[i]? =some n->i=ji ts->ts.length<=12->f (g ts)=some (match push n ts with
   | .inl c=> .rt (rt ((i:Int),c))
   | .inr ts' =>if 12<ts'.length then .rt (rt ((i:Int),16))else .nx (g ts')))
  (hend:∀ts,ji ts=e.length->f (g ts)=some (.ex (fin ts))):
  X7 f (g [])=some (match uz 0 e []with| .inl x=> .inr (rt x)| .inr ts=> .inl (fin ts)):=by
 have key:∀(es:List (Int×Int)) (i:Nat) (ts:List XT) (k:Nat),e.drop i=es->i=ji ts->ts.length<=12->i<=e.length->es.length<k->
   ou f k (g ts)=some (match uz i es ts with| .inl x=> .inr (rt x)| .inr ts=> .inl (fin ts)):=by
  intro es;induction es with
  |nil=>
   intro i ts k hd hi hl hle hk;obtain⟨k,rfl⟩:∃k',k=k' +1:=⟨k -1,l7⟩;have:i=e.length:=by have:=congrArg List.length hd;simp at this;omega
   unfold ou;rw[hend ts l7];rfl
  |cons n es ih=>
   intro i ts k hd hi hl hle hk;obtain⟨k,rfl⟩:∃k',k=k' +1:=⟨k -1,l7⟩;have hn:e[i]? =some n:=by
    have:(e.drop i)[0]? =some n:=by rw[hd];rfl
    simpa using this
   have hlt:=(Y6.1 hn).1;unfold ou;rw[hs i n ts hn hi hl];unfold uz;cases hp:push n ts with
   |inl c=>rfl|inr ts' =>
    simp only;by_cases h12:12<ts'.length
    ·rw[if_pos h12,if_pos h12]
    ·rw[if_neg h12,if_neg h12];exact ih (i+1) ts' k (by rw[←Z9,hd];rfl) (by rw[Nj hp,hi]) l7 l7 (by simp at hk;omega)
 exact key e 0 [] lg rfl rfl A7 l7 (by unfold lg;omega)
theorem a2j:∀(p r:List XT),∃X,pG (p++r)=pG r++X/\X.length=p.length/\(p≠[]->X.head?=some (ji r:Int))
 |[],r=>⟨[],A7,rfl,λh=>absurd rfl h⟩|a::p,r=>by
  obtain⟨X,h1,h2,h3⟩:=a2j p r;refine⟨X++[(ji (p++r):Int)],?_,by simp[h2],λ_=>?_⟩
  ·show pG (p++r)++[(ji (p++r):Int)]=_;rw[h1,E9]
  ·cases p with
   |nil=>simp at h2;subst h2;rfl|cons b p=>rw[List.head?_append,h3 A7];rfl
theorem Sr(p r:List XT)(k:Int)(hk:k=(p.length:Int))(h:p.length+r.length<=100)(hp:p≠[]):
  H8 .i64 (o9 (pG (p++r))) k=(r.length:Int)/\G9 (pG (p++r)) (r.length:Int)=some (ji r:Int)/\af (pG (p++r)) (X8 (r.length:Int))=some (ji r:Int)
  /\rC 0 (r.length:Int) (o9 (pG (p++r)))=true/\oP (pG (p++r)) (X8 0) (X8 (r.length:Int))=pG r:=by
 obtain⟨X,h1,h2,h3⟩:=a2j p r;have hl:(pG (p++r)).length=r.length+p.length:=by rw[oV];simp;omega
 have hg:(pG (p++r))[r.length]? =some (ji r:Int):=by rw[h1,F7 (by rw[oV];omega),oV,az,←List.head?_eq_getElem?];exact h3 hp
 refine⟨?_,?_,?_,?_,?_⟩
 ·simp only[o9,hl];rw[O5 L8];omega
 ·rw[G7];exact hg
 ·exact hg
 ·simp only[rC,o9,hl,decide_eq_true_eq];omega
 ·show((pG (p++r)).take r.length).drop 0=_;rw[h1,List.drop_zero,ae (by rw[oV];omega),aU (by rw[oV];omega)]
theorem TG(ts:List XT):E8 12 (o9 (pG ts))=decide (12<ts.length):=by rw[show o9 (pG ts)=((ts.length:Nat):Int) by simp[o9,oV]];exact PI 12 ts.length
theorem mQ{α:Type}{l:List α}(x:α)(h:l.length<=1000000):iY l [x]=some (l++[x]):=GU U6
theorem IQ(ts:List XT)(k:Nat):E8 (o9 (pG ts)) (k:Int)=decide (ts.length<k):=by rw[show o9 (pG ts)=((ts.length:Nat):Int) by simp[o9,oV]];exact PI _ _
def zS(e:List (Int×Int)):List Int×Int×Int:=match mM e with| .inl x=>([],x)| .inr t=>(t.sts 0,0,0)
theorem ZK{e:List (Int×Int)}(h0:e.length≠0){K:List Int×Int×Int->List Int×Int×Int}(h48:¬48<e.length)
  {r:List Int×Int×Int} (h:∀ts,uz 0 e []= .inr ts->r=l9 (E8 1 (o9 (pG ts))) ([],o9 e,4) (stR ts,0,0)) (hi:∀x,uz 0 e []= .inl x->r=([],x)):r=zS e:=by
 unfold zS mM;rw[if_neg h48,if_neg h0];cases hp:uz 0 e []with
 |inl x=>exact hi x hp|inr ts=>
  rw[h ts hp];have:=(JC e 0 [] ts hp).2 (.inr (by intro he;subst he;exact h0 rfl));match ts,this with
  |[t],_=>simp[pG,o9,E8,stR,ji]|a::b::ts,_=>rw[O0 (by simp[o9,oV];omega)];rfl
theorem Yv(e:List (Int×Int)):zF e=some (zS e):=by
 unfold zF;by_cases h48:48<e.length
 ·rw[O0 (by simp[o9];omega),o7];unfold zS mM;rw[if_pos h48]
 by_cases h0:e.length=0
 ·rw[J6 (by simp[o9];omega),o6,O8 (by simp[o9,h0]),o7];unfold zS mM;rw[if_neg h48,if_pos h0]
 rw[J6 (by simp[o9];omega),o6,J3 (by simp[o9];intro h;exact h0 (by simp[h])),o6];refine U9 (Uu e l7 (λts=>(stR ts,pG ts,(ji ts:Int))) (λts=>(stR ts,pG ts)) (λx=>(([]:List Int),x)) (λi n ts hn hi hl=>?_) (λts hsz=>?_)) ?_
 rotate_left 2
 ·rw[←ZK h0 h48 (K:=id) (r:=match uz 0 e []with| .inl x=>([],x)| .inr ts=>l9 (E8 1 (o9 (pG ts))) ([],o9 e,4) (stR ts,0,0)) (λts h=>by rw[h]) (λx h=>by rw[h])];cases uz 0 e []with
  |inl x=>rfl|inr ts=>simp only[o8,N7];cases E8 1 (o9 (pG ts))<;>rfl
 ·subst hi;have hlt:=(Y6.1 hn).1;have hst:=EK ts;have hof:=oV ts;simp only[U2 hn,o7,G7,hn,o8,a0i];rcases(Iy n.1).2.2 with h|h|h|h|h
  ·rw[show push n ts= .inl 2 by simp[push,h],h];rfl
  ·rw[show push n ts= .inr (.l0 n::ts) by simp[push,h],h,J6 l7,o6,J6 (TL _),o6,o6,mQ _ l7,o8,mQ _ l7,o8,dH l7];rw[show pG ts++[(ji ts:Int)]=pG (.l0 n::ts)from rfl,TG];by_cases hc:12<(XT.l0 n::ts).length
   ·simp only[hc,decide_true,if_true,o7]
   ·simp only[hc,decide_false,if_false,o6];rfl
  ·match ts with
   |[]=>rw[show push n []= .inl 5 by simp[push,h],h];rfl|a::r=>
    obtain⟨p1,p2,p3,p4,p5⟩:=Sr [a] r 1 rfl (by simp at hl ⊢;omega) A7;simp only[S9,H6]at p1 p2 p3 p4 p5;have:=EK (a::r);have:=oV r;simp only[F5]at hl;rw[show push n (a::r)= .inr (.l1 n a::r) by simp[push,h],h,J6 l7,o6,show(1:Int)=((1:Nat):Int)from rfl,IQ,show decide ((a::r).length<1)=false by simp];simp only[Int.natCast_one]at p1 ⊢;rw[o6,O0 l7,o7,p1,p2,o8,p3,o8,p4,o7,p5,mQ _ l7,o8,mQ _ l7,o8,dH l7];rw[show pG r++[(ji r:Int)]=pG (.l1 n a::r)from rfl,TG];by_cases hc:12<(XT.l1 n a::r).length
    ·simp only[hc,decide_true,if_true,o7]
    ·simp only[hc,decide_false,if_false,o6,stR,XT.sts,E9,ji,XT.size,iL]
  ·match ts with
   |[]=>rw[show push n []= .inl 5 by simp[push,h],h];rfl|[a]=>rw[show push n [a]= .inl 5 by simp[push,h],h];rfl|b::a::r=>
    obtain⟨p1,p2,p3,p4,p5⟩:=Sr [b,a] r 2 rfl (by simp at hl ⊢;omega) A7;simp only[S9,H6]at p1 p2 p3 p4 p5;have:=EK (b::a::r);have:=oV r;simp only[F5]at hl;rw[show push n (b::a::r)= .inr (.l2 n a b::r) by simp[push,h],h,J6 l7,o6,show(2:Int)=((2:Nat):Int)from rfl,IQ,show decide ((b::a::r).length<2)=false by simp];rw[o6,O0 l7,o7,show((2:Nat):Int)=2 from rfl,p1,p2,o8,p3,o8,p4,o7,p5,mQ _ l7,o8,mQ _ l7,o8,dH l7];rw[show pG r++[(ji r:Int)]=pG (.l2 n a b::r)from rfl,TG];by_cases hc:12<(XT.l2 n a b::r).length
    ·simp only[hc,decide_true,if_true,o7]
    ·simp only[hc,decide_false,if_false,o6,stR,XT.sts,E9,ji,XT.size,iL]
  ·match ts with
   |[]=>rw[show push n []= .inl 5 by simp[push,h],h];rfl|[a]=>rw[show push n [a]= .inl 5 by simp[push,h],h];rfl|[b,a]=>rw[show push n [b,a]= .inl 5 by simp[push,h],h];rfl|c::b::a::r=>
    obtain⟨p1,p2,p3,p4,p5⟩:=Sr [c,b,a] r 3 rfl (by simp at hl ⊢;omega) A7;simp only[S9,H6]at p1 p2 p3 p4 p5;have:=EK (c::b::a::r);have:=oV r;simp only[F5]at hl;rw[show push n (c::b::a::r)= .inr (.l3 n a b c::r) by simp[push,h],h,J6 l7,o6,show(3:Int)=((3:Nat):Int)from rfl,IQ,show decide ((c::b::a::r).length<3)=false by simp];rw[o6,O0 l7,o7,show((3:Nat):Int)=3 from rfl,p1,p2,o8,p3,o8,p4,o7,p5,mQ _ l7,o8,mQ _ l7,o8,dH l7];rw[show pG r++[(ji r:Int)]=pG (.l3 n a b c::r)from rfl,TG];by_cases hc:12<(XT.l3 n a b c::r).length
    ·simp only[hc,decide_true,if_true,o7]
    ·simp only[hc,decide_false,if_false,o6,stR,XT.sts,E9,ji,XT.size,iL]
 ·simp only[hsz,U1];rfl
def pd(l:List Int)(k:Nat):List Int:=l++List.replicate k 0
theorem Y_(l:List Int)(m:Nat):G9 (pd l (m+1)) (l.length:Int)=some 0:=by rw[G7];unfold pd;rw[F7 l7,az];rfl
theorem Z_(l:List Int)(m:Nat):af (pd l (m+1)) (X8 (l.length:Int))=some 0:=by have:=Y_ l m;rw[G7]at this;exact this
theorem a4w(l:List Int)(m:Nat)(v:Int):cO (pd l (m+1)) (X8 (l.length:Int)) v=pd (l++[v]) m:=by show(l++List.replicate (m+1) 0).set l.length v=_;rw[ig _ _ l7,az,dY];simp[pd]
theorem Qm(l:List Int)(m:Nat)(v w:Int):cO (pd (l++[v]) m) (X8 (l.length:Int)) w=pd (l++[w]) m:=by show(l++[v]++List.replicate m 0).set l.length w=_;rw[E9,ig _ _ l7,az];simp[pd]
theorem Na(l:List Int)(m:Nat)(v:Int):G9 (pd (l++[v]) m) (l.length:Int)=some v:=by rw[G7];unfold pd;rw[E9,F7 l7,az];rfl
theorem Lu(l:List Int)(m:Nat)(v:Int):af (pd (l++[v]) m) (X8 (l.length:Int))=some v:=by have:=Na l m v;rw[G7]at this;exact this
theorem QH(e:List (Int×Int)):xu e=some (zS e):=by
 unfold xu;by_cases h48:48<e.length
 ·rw[O0 (by simp[o9];omega),o7];unfold zS mM;rw[if_pos h48]
 by_cases h0:e.length=0
 ·rw[J6 (by simp[o9];omega),o6,O8 (by simp[o9,h0]),o7];unfold zS mM;rw[if_neg h48,if_pos h0]
 rw[J6 (by simp[o9];omega),o6,J3 (by simp[o9];intro h;exact h0 (by simp[h])),o6];rw[show vk (o9 e) (0:Int)=some (pd (stR []) (e.length -ji [])) by simp[vk,o9,pd,stR,ji];omega,o8];refine U9 (Uu e l7 (λts=>(pd (stR ts) (e.length -ji ts),pG ts,(ji ts:Int))) (λts=>(pd (stR ts) (e.length -ji ts),pG ts)) (λx=>(([]:List Int),x)) (λi n ts hn hi hl=>?_) (λts hsz=>?_)) ?_
 rotate_left 2
 ·rw[←ZK h0 h48 (K:=id) (r:=match uz 0 e []with| .inl x=>([],x)| .inr ts=>l9 (E8 1 (o9 (pG ts))) ([],o9 e,4) (stR ts,0,0)) (λts h=>by rw[h]) (λx h=>by rw[h])];cases hp:uz 0 e []with
  |inl x=>rfl|inr ts=>
   have:=(JC e 0 [] ts hp).1;have hz:e.length -ji ts=0:=by have:=congrArg List.length this;rw[Nc]at this;simp[Kr]at this;omega
   simp only[o8,N7,hz,pd,oD,H9];cases E8 1 (o9 (pG ts))<;>rfl
 ·subst hi;have hlt:=(Y6.1 hn).1;have hst:=EK ts;have hof:=oV ts;obtain⟨m,hm⟩:∃m,e.length -ji ts=m+1:=⟨e.length -ji ts -1,l7⟩;simp only[U2 hn,o7,G7 e,hn,o8,Vq,hm];rw[←hst];simp only[Y_,Z_,o8,a4w,Na,Lu,Qm];rw[hst];rcases(Iy n.1).2.2 with h|h|h|h|h
  ·rw[show push n ts= .inl 2 by simp[push,h],h];rfl
  ·have e0:H8 .i64 (o9 (pG ts)) 0=((pG ts).length:Int):=by rw[O5 (by unfold bQ o9;omega)];simp[o9]
   rw[show push n ts= .inr (.l0 n::ts) by simp[push,h],h,J6 l7,o6,J6 (TL _),o6,o6,e0,show rC 0 ((pG ts).length:Int) (o9 (pG ts))=true by simp[rC,o9],o7,
    show oP (pG ts) (X8 0) (X8 ((pG ts).length:Int))=pG ts by simp[oP,X8],mQ _ l7,o8,dH l7]
   rw[show pG ts++[(ji ts:Int)]=pG (.l0 n::ts)from rfl,TG];by_cases hc:12<(XT.l0 n::ts).length
   ·simp only[hc,decide_true,if_true,o7]
   ·simp only[hc,decide_false,if_false,o6,ji,XT.size,stR,XT.sts,show e.length -(ji ts+1)=m by omega]
  ·match ts with
   |[]=>rw[show push n []= .inl 5 by simp[push,h],h];rfl|a::r=>
    obtain⟨p1,p2,p3,p4,p5⟩:=Sr [a] r 1 rfl (by simp at hl ⊢;omega) A7;simp only[S9,H6]at p1 p2 p3 p4 p5;have:=EK (a::r);have:=oV r;simp only[F5]at hl;rw[show push n (a::r)= .inr (.l1 n a::r) by simp[push,h],h,J6 l7,o6,show(1:Int)=((1:Nat):Int)from rfl,IQ,show decide ((a::r).length<1)=false by simp];simp only[Int.natCast_one]at p1 ⊢;rw[o6,O0 l7,o7,p1,p2,o8,p3,o8,p4,o7,p5];rw[←hst]
    try simp only[Qm,Na,Lu,o8]
    rw[hst,mQ _ l7,o8,dH l7];rw[show pG r++[(ji r:Int)]=pG (.l1 n a::r)from rfl,TG];have hz:=Nj (show push n (a::r)= .inr (.l1 n a::r) by simp[push,h]);by_cases hc:12<(XT.l1 n a::r).length
    ·simp only[hc,decide_true,if_true,o7]
    ·simp only[hc,decide_false,if_false,o6,hz,show e.length -(ji (a::r)+1)=m by omega,stR,XT.sts,E9]
  ·match ts with
   |[]=>rw[show push n []= .inl 5 by simp[push,h],h];rfl|[a]=>rw[show push n [a]= .inl 5 by simp[push,h],h];rfl|b::a::r=>
    obtain⟨p1,p2,p3,p4,p5⟩:=Sr [b,a] r 2 rfl (by simp at hl ⊢;omega) A7;simp only[S9,H6]at p1 p2 p3 p4 p5;have:=EK (b::a::r);have:=oV r;simp only[F5]at hl;rw[show push n (b::a::r)= .inr (.l2 n a b::r) by simp[push,h],h,J6 l7,o6,show(2:Int)=((2:Nat):Int)from rfl,IQ,show decide ((b::a::r).length<2)=false by simp];rw[o6,O0 l7,o7,show((2:Nat):Int)=2 from rfl,p1,p2,o8,p3,o8,p4,o7,p5];rw[←hst]
    try simp only[Qm,Na,Lu,o8]
    rw[hst,mQ _ l7,o8,dH l7];rw[show pG r++[(ji r:Int)]=pG (.l2 n a b::r)from rfl,TG];have hz:=Nj (show push n (b::a::r)= .inr (.l2 n a b::r) by simp[push,h]);by_cases hc:12<(XT.l2 n a b::r).length
    ·simp only[hc,decide_true,if_true,o7]
    ·rw[hz,show e.length -(ji (b::a::r)+1)=m by omega,show stR (.l2 n a b::r)=stR (b::a::r)++[(ji r:Int)] by simp only[stR,XT.sts,E9,ji]];simp only[hc,decide_false,if_false,o6]
  ·match ts with
   |[]=>rw[show push n []= .inl 5 by simp[push,h],h];rfl|[a]=>rw[show push n [a]= .inl 5 by simp[push,h],h];rfl|[b,a]=>rw[show push n [b,a]= .inl 5 by simp[push,h],h];rfl|c::b::a::r=>
    obtain⟨p1,p2,p3,p4,p5⟩:=Sr [c,b,a] r 3 rfl (by simp at hl ⊢;omega) A7;simp only[S9,H6]at p1 p2 p3 p4 p5;have:=EK (c::b::a::r);have:=oV r;simp only[F5]at hl;rw[show push n (c::b::a::r)= .inr (.l3 n a b c::r) by simp[push,h],h,J6 l7,o6,show(3:Int)=((3:Nat):Int)from rfl,IQ,show decide ((c::b::a::r).length<3)=false by simp];rw[o6,O0 l7,o7,show((3:Nat):Int)=3 from rfl,p1,p2,o8,p3,o8,p4,o7,p5];rw[←hst]
    try simp only[Qm,Na,Lu,o8]
    rw[hst,mQ _ l7,o8,dH l7];rw[show pG r++[(ji r:Int)]=pG (.l3 n a b c::r)from rfl,TG];have hz:=Nj (show push n (c::b::a::r)= .inr (.l3 n a b c::r) by simp[push,h]);by_cases hc:12<(XT.l3 n a b c::r).length
    ·simp only[hc,decide_true,if_true,o7]
    ·rw[hz,show e.length -(ji (c::b::a::r)+1)=m by omega,show stR (.l3 n a b c::r)=stR (c::b::a::r)++[(ji r:Int)] by simp only[stR,XT.sts,E9,ji]];simp only[hc,decide_false,if_false,o6]
 ·simp only[hsz,U1];rfl
end
section
def VT(t:Int×Int):Prop:=t=(1,0)\/t=(2,0)\/t=(3,0)\/t=(4,0)\/t=(5,0)\/∃e,t=(6,e)
theorem Iq{t:Int×Int}{en:List bT}(h:vty t en=true):VT t:=by
 obtain⟨k,e⟩:=t;unfold vty at h;simp only at h;cases h6:x8 k 6
 ·rw[h6,o6]at h;cases h1:L9 1 k<;>rw[h1]at h
  ·cases h
  cases h5:L9 k 5<;>rw[h5]at h
  ·cases h
  simp only[o7,V6]at h;rw[lT]at h1 h5;subst h;have:k=1\/k=2\/k=3\/k=4\/k=5:=l7;rcases this with rfl|rfl|rfl|rfl|rfl<;>simp[VT]
 ·rw[V6]at h6;subst h6;exact .inr (.inr (.inr (.inr (.inr ⟨e,rfl⟩))))
def EN(n:Int×Int)(ops:List (Int×Int))(sg:I5):Option ((Int×Int)×Int):=
 l9 (F6 (x8 n.2 0)) (o5 (lu n.1) λu=>l9 (F6 u) (some ((0,0),2)) (bI n ops sg)) (bI n ops sg)
def vU(n:Int×Int)(ops:List (Int×Int))(sg:I5):Prop:=∃r:(Int×Int)×Int,yA n ops sg=some r/\EN n ops sg=some r/\(r.2=0->VT r.1)
theorem VT.lit{k:Int}(h:1<=k/\k<=5):VT (k,0):=by have:k=1\/k=2\/k=3\/k=4\/k=5:=l7;rcases this with rfl|rfl|rfl|rfl|rfl<;>simp[VT]
theorem Et(a b:Int):L9 a b= !E8 b a:=by simp only[E8,L9];rw[←decide_not];congr 1;simp
theorem zM{α β:Type}(o:Option β)(f:α->Option β):o5 (o5 o λx=>some (Sum.inr x)) (λq=>aj q f λr=>some r)=o:=by cases o<;>rfl
theorem VT.enum(e:Int):VT (6,e):=.inr (.inr (.inr (.inr (.inr ⟨e,rfl⟩))))
theorem tH{R E:Option ((Int×Int)×Int)}{c:Int}(hc:c≠0)(h1:R=some ((0,0),c))(h2:E=some ((0,0),c)):∃r:(Int×Int)×Int,R=some r/\E=some r/\(r.2=0->VT r.1):=⟨_,h1,h2,λh=>absurd h hc⟩
theorem nok{R E:Option ((Int×Int)×Int)}{t:Int×Int}(hv:VT t)(h1:R=some (t,0))(h2:E=some (t,0)):∃r:(Int×Int)×Int,R=some r/\E=some r/\(r.2=0->VT r.1):=⟨_,h1,h2,λ_=>hv⟩
def RR(a0:Int×Int)(a1:List (Int×Int))(a2:I5):Option ((Int×Int)×Int):=
 o5 (oJ a0 a2) λ(x:Bool)=>l9 (F6 x) (some ((0,0),3)) (o5 (mX a0 a2) λ(x:Bool)=>l9 (F6 x) (some ((0,0),6))
  (l9 (x8 (o9 a1) 0) (o5 (aJ a0 a2) λ(x:J8×Bool)=>l9 (F6 x.2) (some ((0,0),8)) (some (x.1,0)))
  (l9 (x8 (o9 a1) 1) (o5 (G9 a1 0) λ(x:J8)=>o5 (jS a0 x a2) λ(x:J8×Bool)=>l9 (F6 x.2) (some ((0,0),8)) (some (x.1,0)))
  (l9 (x8 (o9 a1) 2) (o5 (G9 a1 0) λ(x:J8)=>o5 (G9 a1 1) λ(x_1:J8)=>o5 (qw a0.1 x x_1) λ(x:J8×Bool)=>l9 (F6 x.2) (some ((0,0),8)) (some (x.1,0)))
  (o5 (G9 a1 1) λ(x:J8)=>o5 (G9 a1 0) λ(x_1:J8)=>l9 (x8 x_1.1 1) (o5 (G9 a1 1) λ(x_2:J8)=>o5 (G9 a1 2) λ(x_3:J8)=>
   l9 (F6 (nN (x8 x_2.1 x_3.1) (x8 x_2.2 x_3.2))) (some ((0,0),8)) (some (x,0))) (l9 (F6 false) (some ((0,0),8)) (some (x,0))))))))
theorem a8G(n:Int×Int)(ops:List (Int×Int))(sg:I5):yA n ops sg=l9 (F6 (x8 n.2 0)) (o5 (bK n.1) λx=>l9 x (RR n ops sg) (some ((0,0),2))) (RR n ops sg):=by
 unfold yA;cases x8 n.2 0
 ·simp only[bH,o7];cases bK n.1 with
  |none=>rfl|some b=>cases b<;>rfl
 ·rfl
theorem Lr{op N:Int}{ops:List (Int×Int)}{sg:I5}(h1:lu op=some true)(h2:bK op=some true)
  (h:∃r:(Int×Int)×Int,RR (op,N) ops sg=some r/\bI (op,N) ops sg=some r/\(r.2=0->VT r.1)):vU (op,N) ops sg:=by
 unfold vU;rw[a8G];unfold EN;dsimp only;rw[h1,h2];cases x8 N 0<;>exact h
theorem RV{op N:Int}{ops:List (Int×Int)}{sg:I5}(h1:lu op=some false)(h2:bK op=some false)
  (h:∃r:(Int×Int)×Int,RR (op,0) ops sg=some r/\bI (op,0) ops sg=some r/\(r.2=0->VT r.1)):vU (op,N) ops sg:=by
 unfold vU;rw[a8G];unfold EN;dsimp only;rw[h1,h2];cases hz:x8 N 0
 ·exact tH (c:=2) D7 rfl rfl
 ·rw[V6]at hz;subst hz;exact h
section
variable (N:Int) (sg:I5)
theorem b0h{k:Int}(hk:k=1\/k=2\/k=3\/k=4\/k=5):vU (k,N) [] sg:=by
 have hv:vty (k,0) sg.1=true:=by rcases hk with rfl|rfl|rfl|rfl|rfl<;>rfl
 have hm:lu k=some true/\bK k=some true:=by rcases hk with rfl|rfl|rfl|rfl|rfl<;>exact⟨rfl,rfl⟩
 refine Lr hm.1 hm.2 ?_;have key:bI (k,N) [] sg=lI N k sg:=by rcases hk with rfl|rfl|rfl|rfl|rfl<;>exact zM _ _
 have key2:RR (k,N) [] sg=o5 (o5 (jb (k,0) sg.1) λ(x:J8)=>l9 (L9 x.1 N) (some (L9 N x.2)) (some false)) λ(x:Bool)=>l9 (F6 x) (some ((0,0),3)) (some ((k,0),0)):=by rcases hk with rfl|rfl|rfl|rfl|rfl<;>rfl
 rw[key,key2];unfold lI;rw[MO,JF,o8,o8,rH,rH];cases L9 (bnd (k,0) sg.1).1 N
 ·exact tH (c:=3) D7 rfl rfl
 cases L9 N (bnd (k,0) sg.1).2
 ·exact tH (c:=3) D7 rfl rfl
 ·exact nok (Iq hv) rfl rfl
theorem a7C(hN:bQ N):vU (6,N) [] sg:=by
 have hq:0<=N->fQ .i64 N 16=N / 16:=λh=>by rw[Bd (by rw[jG h];unfold bQ at*;omega),jG h]
 refine Lr rfl rfl ?_;have hf:mX (6,N) sg=l9 (E8 (fQ .i64 N 16) (o9 sg.1)) (o5 (G9 sg.1 (fQ .i64 N 16)) λ(x:bT)=>some (E8 (jk N 16) (o9 x.2))) (some false):=rfl;have hl:aJ (6,N) sg=some ((6,fQ .i64 N 16),vty (6,fQ .i64 N 16) sg.1):=by unfold aJ;simp only[aF];rfl
 rw[show bI (6,N) [] sg=Dc N sg from zM _ _];unfold RR Dc;rw[hf,show oJ (6,N) sg=some (L9 0 N)from rfl,hl];by_cases h0:0<=N
 ·rw[J6 h0,V5 h0,hq h0];by_cases h1:N / 16<o9 sg.1
  ·obtain⟨x,hx,_⟩:=jZ (show 0<=N / 16 by omega) h1;rw[O0 h1,V9 h1,hx,show vty (6,N / 16) sg.1=true by unfold vty;simp only[V5 (show 0<=N / 16 by omega),O0 h1];rfl];simp only[o8,rH];cases L9 (o9 x.2) (jk N 16)
   ·exact nok (VT.enum (N / 16)) rfl rfl
   ·exact tH (c:=6) D7 rfl rfl
  ·have h1' :o9 sg.1<=N / 16:=l7;rw[J6 h1',V5 h1'];exact tH (c:=6) D7 rfl rfl
 ·rw[O0 (show N<0 by omega),V9 (show N<0 by omega)];exact tH (c:=3) D7 rfl rfl
theorem Bj(ts:List (Int×Int))(en:I5):(∃x,G9 ts N=some x/\L9 0 N=true/\E8 N (o9 ts)=true/\kZ N ts en=some (l9 (vty x en.1) (x,0) ((0,0),8)))\/((L9 0 N=false\/L9 0 N=true/\E8 N (o9 ts)=false)/\kZ N ts en=some ((0,0),6)):=by
 unfold kZ;rw[rH N 0,Et (o9 ts) N];cases h0:L9 0 N
 ·exact .inr ⟨.inl A7,rfl⟩
 cases h1:E8 N (o9 ts)
 ·exact .inr ⟨.inr A7,rfl⟩
 rw[lT]at h0;rw[jl]at h1;obtain⟨x,hx,_⟩:=jZ h0 h1;rw[hx];simp only[jB,Bool.not_false,o6,o7,o8,wC];exact .inl ⟨x,rfl,A7,A7,by cases vty x en.1<;>rfl⟩
theorem b4f:vU (7,N) [] sg:=by
 refine Lr rfl rfl ?_;rw[show bI (7,N) [] sg=kZ N sg.2.2.1 sg from zM _ _];have hf:mX (7,N) sg=l9 (L9 0 N) (some (E8 N (o9 sg.2.2.1))) (some false):=rfl;unfold RR;rw[hf,show oJ (7,N) sg=some true from rfl];rcases Bj N sg.2.2.1 sg with⟨x,h1,h2,h3,h4⟩|⟨h1|⟨h1,h2⟩,h4⟩
 ·have hl:aJ (7,N) sg=some (x,vty x sg.1):=by
   unfold aJ;dsimp only;rw[h1];simp only[aF];rfl
  rw[h2,h3,h4,hl];cases hv:vty x sg.1
  ·exact tH (c:=8) D7 rfl rfl
  ·exact nok (Iq hv) rfl rfl
 ·rw[h1,h4];exact tH (c:=6) D7 rfl rfl
 ·rw[h1,h2,h4];exact tH (c:=6) D7 rfl rfl
theorem b0f:vU (8,N) [] sg:=by
 refine Lr rfl rfl ?_;rw[show bI (8,N) [] sg=kZ N sg.2.2.2.1 sg from zM _ _];have hf:mX (8,N) sg=l9 (L9 0 N) (some (E8 N (o9 sg.2.2.2.1))) (some false):=rfl;unfold RR;rw[hf,show oJ (8,N) sg=some true from rfl];rcases Bj N sg.2.2.2.1 sg with⟨x,h1,h2,h3,h4⟩|⟨h1|⟨h1,h2⟩,h4⟩
 ·have hl:aJ (8,N) sg=some (x,vty x sg.1):=by
   unfold aJ;dsimp only;rw[h1];simp only[aF];rfl
  rw[h2,h3,h4,hl];cases hv:vty x sg.1
  ·exact tH (c:=8) D7 rfl rfl
  ·exact nok (Iq hv) rfl rfl
 ·rw[h1,h4];exact tH (c:=6) D7 rfl rfl
 ·rw[h1,h2,h4];exact tH (c:=6) D7 rfl rfl
theorem a7B:vU (9,N) [] sg:=RV rfl rfl (nok (VT.lit (k:=5) l7) rfl rfl)
theorem a4l:vU (35,N) [] sg:=by
 refine RV rfl rfl ?_;rw[show bI (35,0) [] sg=sF (35,0) sg from zM _ _];unfold RR sF;simp only[oJ,mX,aJ,aF,o8];cases sg.2.2.2.2.2
 ·exact tH (c:=6) D7 rfl rfl
 ·exact nok (VT.lit (k:=2) l7) rfl rfl
theorem b0i{k:Int}(hk:k=36\/k=37\/k=38\/k=39):vU (k,N) [] sg:=by
 have hm:lu k=some true/\bK k=some true/\x8 k 35=false:=by rcases hk with rfl|rfl|rfl|rfl<;>exact⟨rfl,rfl,rfl⟩
 refine Lr hm.1 hm.2.1 ?_;rw[show bI (k,N) [] sg=sF (k,N) sg by rcases hk with rfl|rfl|rfl|rfl<;>exact zM _ _];have hr:RR (k,N) [] sg=o5 (l9 sg.2.2.2.2.2 (l9 (L9 0 N) (some (E8 N (o9 sg.2.2.2.2.1))) (some false)) (some false)) λ(x:Bool)=>l9 (F6 x) (some ((0,0),6))
   (o5 (aJ (k,N) sg) λ(x:J8×Bool)=>l9 (F6 x.2) (some ((0,0),8)) (some (x.1,0))):=by rcases hk with rfl|rfl|rfl|rfl<;>rfl
 rw[hr];unfold sF;rw[hm.2.2,o6];cases sg.2.2.2.2.2
 ·exact tH (c:=6) D7 rfl rfl
 simp only[o7,E5,o6];rcases Bj N sg.2.2.2.2.1 sg with⟨x,h1,h2,h3,h4⟩|⟨h1|⟨h1,h2⟩,h4⟩
 ·rw[h2,h3,h4];have hl:aJ (k,N) sg=o5 (some (l9 (x8 k 36) (l9 (vty x sg.1) (l9 (x8 x.1 2) true (x8 x.1 3)) false) (l9 (x8 k 39) (l9 (vty x sg.1) (l9 (x8 x.1 2) true (l9 (x8 x.1 3) true (l9 (x8 x.1 4) true (x8 x.1 5)))) false) (l9 (vty x sg.1) (x8 x.1 1) false)))) λb=>some (x,b):=by
   unfold aJ;simp only[aF,oI,tV];rcases hk with rfl|rfl|rfl|rfl<;>(rw[h1];simp only[x8,Int.reduceEq,decide_true,decide_false,o7,o6,o8];cases vty x sg.1<;>cases decide (x.1=2)<;>cases decide (x.1=3)<;>cases decide (x.1=4)<;>rfl)
  rw[hl];simp only[o8,oC];cases hv:vty x sg.1
  ·rcases hk with rfl|rfl|rfl|rfl<;>exact tH (c:=8) D7 rfl rfl
  ·have hx:=Iq hv;rcases hk with rfl|rfl|rfl|rfl<;>rcases hx with rfl|rfl|rfl|rfl|rfl|⟨e,rfl⟩ <;>
    first
    |exact nok (Iq hv) rfl rfl
    |exact tH (c:=8) D7 rfl rfl
 ·rw[h1,h4];exact tH (c:=6) D7 rfl rfl
 ·rw[h1,h2,h4];exact tH (c:=6) D7 rfl rfl
end
end
section
section
variable (N:Int) (sg:I5)
theorem b4g{k:Int}(hk:k=10\/k=25\/k=31\/k=32){a:Int×Int}(ha:VT a):vU (k,N) [a] sg:=by
 have hm:lu k=some false/\bK k=some false:=by rcases hk with rfl|rfl|rfl|rfl<;>exact⟨rfl,rfl⟩
 refine RV hm.1 hm.2 ?_;rcases hk with rfl|rfl|rfl|rfl<;>rcases ha with rfl|rfl|rfl|rfl|rfl|⟨e,rfl⟩ <;>
  first
  |exact nok (VT.lit (k:=1) l7) rfl rfl
  |exact nok (VT.lit (k:=2) l7) rfl rfl
  |exact nok (VT.lit (k:=3) l7) rfl rfl
  |exact nok (VT.lit (k:=4) l7) rfl rfl
  |exact tH (c:=8) D7 rfl rfl
theorem b0e{k:Int}(hk:k=13\/k=23\/k=24\/k=27\/k=28\/k=29\/k=30){a b:Int×Int}(ha:VT a)(hb:VT b):vU (k,N) [a,b] sg:=by
 have hm:lu k=some false/\bK k=some false:=by rcases hk with rfl|rfl|rfl|rfl|rfl|rfl|rfl<;>exact⟨rfl,rfl⟩
 refine RV hm.1 hm.2 ?_;rcases hk with rfl|rfl|rfl|rfl|rfl|rfl|rfl<;>rcases ha with rfl|rfl|rfl|rfl|rfl|⟨e,rfl⟩<;>rcases hb with rfl|rfl|rfl|rfl|rfl|⟨f,rfl⟩ <;>
  first
  |exact tH (c:=8) D7 rfl rfl
  |exact nok (VT.lit (k:=1) l7) rfl rfl
  |exact nok (VT.lit (k:=2) l7) rfl rfl
  |exact nok (VT.lit (k:=3) l7) rfl rfl
  |exact nok (VT.lit (k:=4) l7) rfl rfl
  |exact nok (VT.lit (k:=5) l7) rfl rfl
theorem a7D{k:Int}(hk:k=14\/k=15\/k=16){a b:Int×Int}(ha:VT a)(hb:VT b):vU (k,N) [a,b] sg:=by
 have hm:lu k=some true/\bK k=some true:=by rcases hk with rfl|rfl|rfl<;>exact⟨rfl,rfl⟩
 refine Lr hm.1 hm.2 ?_;have hr:RR (k,N) [a,b] sg=o5 (l9 (L9 0 N) (some (L9 N 5)) (some false)) λx=>l9 (F6 x) (some ((0,0),3)) (o5 (qw k a b) λx=>l9 (F6 x.2) (some ((0,0),8)) (some (x.1,0))):=by rcases hk with rfl|rfl|rfl<;>rfl
 have he:bI (k,N) [a,b] sg=o5 (l9 (L9 0 N) (some (L9 N 5)) (some false)) λx=>l9 (F6 x) (some ((0,0),3)) (o5 (pV k [a,b]) λx=>l9 (F6 x.2) (some ((0,0),8)) (some (x.1,0))):=by
  rcases hk with rfl|rfl|rfl <;>
   (show o5 (o5 (oM N) λx=>l9 (F6 x) (some (Sum.inr (((0:Int),(0:Int)),(3:Int)))) (some (.inl ((0:Int),(0:Int))))) _=_
    unfold oM;cases L9 0 N<;>cases L9 N 5<;>rfl)
 rw[hr,he];cases L9 0 N
 ·exact tH (c:=3) D7 rfl rfl
 cases L9 N 5
 ·exact tH (c:=3) D7 rfl rfl
 rcases hk with rfl|rfl|rfl<;>rcases ha with rfl|rfl|rfl|rfl|rfl|⟨e,rfl⟩<;>rcases hb with rfl|rfl|rfl|rfl|rfl|⟨f,rfl⟩ <;>
  first
  |exact tH (c:=8) D7 rfl rfl
  |exact nok (VT.lit (k:=2) l7) rfl rfl
  |exact nok (VT.lit (k:=3) l7) rfl rfl
  |exact nok (VT.lit (k:=4) l7) rfl rfl
theorem a7E{k:Int}(hk:k=11\/k=12\/k=17\/k=18\/k=19\/k=20\/k=21\/k=22){a b:Int×Int}(ha:VT a):vU (k,N) [a,b] sg:=by
 have hm:lu k=some false/\bK k=some false:=by rcases hk with rfl|rfl|rfl|rfl|rfl|rfl|rfl|rfl<;>exact⟨rfl,rfl⟩
 refine RV hm.1 hm.2 ?_;have hr:RR (k,0) [a,b] sg=o5 (qw k a b) λx=>l9 (F6 x.2) (some ((0,0),8)) (some (x.1,0)):=by rcases hk with rfl|rfl|rfl|rfl|rfl|rfl|rfl|rfl<;>rfl
 have he:bI (k,0) [a,b] sg=o5 (pV k [a,b]) λx=>l9 (F6 x.2) (some ((0,0),8)) (some (x.1,0)):=by rcases hk with rfl|rfl|rfl|rfl|rfl|rfl|rfl|rfl<;>rfl
 rw[hr,he];unfold qw pV;simp only[show G9 [a,b] 0=some a from rfl,show G9 [a,b] 1=some b from rfl,o8,tV,oI,iO,oC];cases h1:x8 a.1 b.1
 ·rcases hk with rfl|rfl|rfl|rfl|rfl|rfl|rfl|rfl<;>exact tH (c:=8) D7 rfl rfl
 cases h2:x8 a.2 b.2
 ·rcases hk with rfl|rfl|rfl|rfl|rfl|rfl|rfl|rfl<;>exact tH (c:=8) D7 rfl rfl
 have ha' :=ha;rcases hk with rfl|rfl|rfl|rfl|rfl|rfl|rfl|rfl<;>rcases ha with rfl|rfl|rfl|rfl|rfl|⟨e,rfl⟩ <;>
  first
  |exact nok ha' rfl rfl
  |exact nok (VT.lit (k:=1) l7) rfl rfl
  |exact tH (c:=8) D7 rfl rfl
theorem b4e{a b c:Int×Int}(ha:VT a)(hb:VT b):vU (26,N) [a,b,c] sg:=by
 refine RV rfl rfl ?_;have hr:RR (26,0) [a,b,c] sg=l9 (x8 a.1 1) (l9 (F6 (nN (x8 b.1 c.1) (x8 b.2 c.2))) (some ((0,0),8)) (some (b,0))) (some ((0,0),8)):=rfl;have he:bI (26,0) [a,b,c] sg=o5 (pV 26 [a,b,c]) λx=>l9 (F6 x.2) (some ((0,0),8)) (some (x.1,0)):=rfl;have he2:pV 26 [a,b,c]=o5 (l9 (x8 a.1 1) (some (Sum.inr (b,nN (x8 b.1 c.1) (x8 b.2 c.2)))) (some (Sum.inr (b,false)))) λ(o:J8⊕J8×Bool)=>aj o (λ(x:J8)=>some ((0,0),false)) λ(r:J8×Bool)=>some r:=rfl;rw[hr,he,he2];cases x8 a.1 1
 ·exact tH (c:=8) D7 rfl rfl
 cases x8 b.1 c.1
 ·exact tH (c:=8) D7 rfl rfl
 cases x8 b.2 c.2
 ·exact tH (c:=8) D7 rfl rfl
 ·exact nok hb rfl rfl
theorem a2i{a:Int×Int}(ha:VT a):vU (33,N) [a] sg:=by
 refine Lr rfl rfl ?_;have he:bI (33,N) [a] sg=uU (33,N) a sg:=zM _ _;have hr:RR (33,N) [a] sg=o5 (l9 (L9 0 N) (some (E8 N (o9 sg.2.1))) (some false)) λx=>l9 (F6 x) (some ((0,0),6)) (o5 (jS (33,N) a sg) λx=>l9 (F6 x.2) (some ((0,0),8)) (some (x.1,0))):=rfl;have hs:jS (33,N) a sg=o5 (G9 sg.2.1 N) λ(x:iy)=>o5 (Y9 x.2.1 sg.1) λ(x_1:Bool)=>l9 x_1 (o5 (Y9 x.2.2.1 sg.1) λ(x_2:Bool)=>l9 x_2 (some (x.2.2.1,nN (x8 a.1 x.2.1.1) (x8 a.2 x.2.1.2))) (some (x.2.2.1,false))) (some (x.2.2.1,false)):=rfl;rw[he,hr,hs];unfold uU;simp only[x8,Int.reduceEq,decide_false,o6,o8,N7,rH N 0,Et (o9 sg.2.1) N];cases h0:L9 0 N
 ·exact tH (c:=6) D7 rfl rfl
 cases h1:E8 N (o9 sg.2.1)
 ·exact tH (c:=6) D7 rfl rfl
 rw[lT]at h0;rw[jl]at h1;obtain⟨x,hx,_⟩:=jZ h0 h1;simp only[o8,N7,jB,o6,hx,wC,aF,bH,o7];cases vty x.2.1 sg.1
 ·exact tH (c:=8) D7 rfl rfl
 cases hv:vty x.2.2.1 sg.1
 ·exact tH (c:=8) D7 rfl rfl
 simp only[E5,o6,o7,o8];cases nN (decide (a.1=x.2.1.1)) (decide (a.2=x.2.1.2))
 ·exact tH (c:=8) D7 rfl rfl
 ·exact nok (Iq hv) rfl rfl
theorem Yl(hN:bQ N){a:Int×Int}(ha:VT a):vU (34,N) [a] sg:=by
 refine Lr rfl rfl ?_;have he:bI (34,N) [a] sg=uU (34,N) a sg:=zM _ _;have hr:RR (34,N) [a] sg=o5 (l9 (L9 0 N) (some (L9 (jk N 8) 5)) (some false)) λx=>l9 (F6 x) (some ((0,0),3)) (l9 (F6 (E8 (fQ .i64 N 8) (o9 sg.2.1))) (some ((0,0),6)) (o5 (jS (34,N) a sg) λx=>l9 (F6 x.2) (some ((0,0),8)) (some (x.1,0)))):=rfl;have hs:jS (34,N) a sg=o5 (G9 sg.2.1 (fQ .i64 N 8)) λ(x:iy)=>l9 (x8 a.1 3) (l9 (nN (x8 x.2.1.1 3) (x8 x.2.1.2 0)) (some (a,nN (x8 x.2.2.1.1 4) (x8 x.2.2.1.2 0))) (some (a,false))) (some (a,false)):=rfl;rw[he,hr,hs];unfold uU oM;by_cases h0:0<=N
 case neg=>rw[V9 (show N<0 by omega),O0 (show N<0 by omega)];exact tH (c:=3) D7 rfl rfl
 have hq:fQ .i64 N 8=N / 8:=by rw[Bd (by rw[jG h0];unfold bQ at*;omega),jG h0]
 rw[V5 h0,J6 h0,hq,xA h0];simp only[x8,Int.reduceEq,decide_true,o7,o6,V5 (show 0<=N % 8 by omega),o8];cases L9 (N % 8) 5
 ·exact tH (c:=3) D7 rfl rfl
 simp only[E5,o6,o8,N7,J6 (show 0<=N / 8 by omega),Et];cases h1:E8 (N / 8) (o9 sg.2.1)
 ·exact tH (c:=6) D7 rfl rfl
 rw[jl]at h1;obtain⟨x,hx,_⟩:=jZ (show 0<=N / 8 by omega) h1;simp only[hx,jB,o6,o8,N7,wC,E5];obtain⟨nm,⟨k1,k2⟩,⟨v1,v2⟩,rows⟩:=x;dsimp only;by_cases hK:k1=3/\k2=0
 ·obtain⟨rfl,rfl⟩:=hK;by_cases hV:v1=4/\v2=0
  ·obtain⟨rfl,rfl⟩:=hV;rcases ha with rfl|rfl|rfl|rfl|rfl|⟨e,rfl⟩ <;>
    first
    |exact nok (VT.lit (k:=3) l7) rfl rfl
    |exact tH (c:=8) D7 rfl rfl
  ·have hE:vty (v1,v2) sg.1=true->v1≠4:=λhv h=>by
    subst h;rcases Iq hv with h|h|h|h|h|⟨e,h⟩<;>cases h;exact hV ⟨rfl,rfl⟩
   have hR:nN (decide (v1=4)) (decide (v2=0))=false:=by
    by_cases h1:v1=4
    ·have:v2≠0:=λh2=>hV ⟨h1,h2⟩;simp[nN,h1,this]
    ·simp[nN,h1]
   rw[hR];cases hv:vty (v1,v2) sg.1
   ·rcases ha with rfl|rfl|rfl|rfl|rfl|⟨e,rfl⟩<;>exact tH (c:=8) D7 rfl rfl
   ·have h4:=hE hv;rw[show decide (v1=4)=false by simp[h4]];rcases ha with rfl|rfl|rfl|rfl|rfl|⟨e,rfl⟩<;>exact tH (c:=8) D7 rfl rfl
 ·have hR:nN (decide (k1=3)) (decide (k2=0))=false:=by
   by_cases h1:k1=3
   ·have:k2≠0:=λh2=>hK ⟨h1,h2⟩;simp[nN,h1,this]
   ·simp[nN,h1]
  rw[hR];cases hv:vty (k1,k2) sg.1
  ·rcases ha with rfl|rfl|rfl|rfl|rfl|⟨e,rfl⟩<;>exact tH (c:=8) D7 rfl rfl
  cases hw:vty (v1,v2) sg.1
  ·rcases ha with rfl|rfl|rfl|rfl|rfl|⟨e,rfl⟩<;>exact tH (c:=8) D7 rfl rfl
  have h3:k1≠3:=λh=>by subst h;rcases Iq hv with h|h|h|h|h|⟨e,h⟩<;>cases h;exact hK ⟨rfl,rfl⟩
  simp only[show decide (k1=3)=false by simp[h3],E5,o6,o7,o8];cases nN (decide (a.1=k1)) (decide (a.2=k2))
  ·cases decide (a.1=3)<;>exact tH (c:=8) D7 rfl rfl
  ·cases decide (a.1=3)<;>exact tH (c:=8) D7 rfl rfl
theorem UR(n:Int×Int)(hN:bQ n.2)(ops:List (Int×Int))(hv:∀t∈ops,VT t)(hl:o9 ops=arF n.1):vU n ops sg:=by
 obtain⟨op,N⟩:=n;dsimp only at hN hl;have hr:1<=op/\op<=39:=by
  by_cases h:1<=op/\op<=39
  ·exact h
  ·have:arF op=-1:=by unfold arF;rw[a0j h];rfl
   rw[this]at hl;simp[o9]at hl
 have hc:op=1\/op=2\/op=3\/op=4\/op=5\/op=6\/op=7\/op=8\/op=9\/op=10\/op=11\/op=12\/op=13\/op=14\/op=15\/op=16\/op=17\/op=18\/op=19\/op=20\/op=21\/op=22\/op=23\/op=24\/op=25\/op=26\/op=27\/op=28\/op=29\/op=30\/op=31\/op=32\/op=33\/op=34\/op=35\/op=36\/op=37\/op=38\/op=39:=l7;have L0:arF op=0->ops=[]:=λh=>by rw[h]at hl;simp only[o9]at hl;exact O9.1 l7
 have L1:arF op=1->∃a,ops=[a]/\VT a:=λh=>by
  rw[h]at hl;simp only[o9]at hl;match ops,hl,hv with
  |[a],_,hv=>exact⟨a,rfl,hv a A7⟩|[],hl,_=>simp at hl|a::b::r,hl,_=>simp at hl;omega
 have L2:arF op=2->∃a b,ops=[a,b]/\VT a/\VT b:=λh=>by
  rw[h]at hl;simp only[o9]at hl;match ops,hl,hv with
  |[a,b],_,hv=>exact⟨a,b,rfl,hv a A7,hv b A7⟩|[],hl,_=>simp at hl|[a],hl,_=>simp at hl|a::b::c::r,hl,_=>simp at hl;omega
 have L3:arF op=3->∃a b c,ops=[a,b,c]/\VT a/\VT b:=λh=>by
  rw[h]at hl;simp only[o9]at hl;match ops,hl,hv with
  |[a,b,c],_,hv=>exact⟨a,b,c,rfl,hv a A7,hv b A7⟩|[],hl,_=>simp at hl|[a],hl,_=>simp at hl|[a,b],hl,_=>simp at hl|a::b::c::d::r,hl,_=>simp at hl;omega
 rcases hc with rfl|rfl|rfl|rfl|rfl|rfl|rfl|rfl|rfl|rfl|rfl|rfl|rfl|rfl|rfl|rfl|rfl|rfl|rfl|rfl|rfl|rfl|rfl|rfl|rfl|rfl|rfl|rfl|rfl|rfl|rfl|rfl|rfl|rfl|rfl|rfl|rfl|rfl|rfl <;>
  first
  |(rw[L0 rfl];first|exact b0h N sg l7|exact a7C N sg hN|exact b4f N sg|exact b0f N sg|exact a7B N sg|exact a4l N sg|exact b0i N sg l7)
  |(obtain⟨a,rfl,ha⟩:=L1 rfl;first|exact b4g N sg l7 ha|exact a2i N sg ha|exact Yl N sg hN ha)
  |(obtain⟨a,b,rfl,ha,hb⟩:=L2 rfl;first|exact b0e N sg l7 ha hb|exact a7D N sg l7 ha hb|exact a7E N sg l7 ha)
  |(obtain⟨a,b,c,rfl,ha,hb⟩:=L3 rfl;exact b4e N sg ha hb)
end
end
section
def XT.wf:XT->Prop
 | .l0 n=>arF n.1=0| .l1 n a=>arF n.1=1/\a.wf| .l2 n a b=>arF n.1=2/\a.wf/\b.wf| .l3 n a b c=>arF n.1=3/\a.wf/\b.wf/\c.wf
theorem b4m{n:Int×Int}{ts ts' :List XT}(h:push n ts= .inr ts')(hw:∀t∈ts,t.wf):∀t∈ts',t.wf:=by
 unfold push at h;split at h
 ·cases h;intro t ht;rcases A8.1 ht with rfl|ht
  ·assumption
  ·exact hw t ht
 split at h
 ·split at h
  ·cases h;intro t ht;rcases A8.1 ht with rfl|ht
   ·exact⟨by assumption,hw _ A7⟩
   ·exact hw t (by simp[ht])
  ·cases h
 split at h
 ·split at h
  ·cases h;intro t ht;rcases A8.1 ht with rfl|ht
   ·exact⟨by assumption,hw _ A7,hw _ A7⟩
   ·exact hw t (by simp[ht])
  ·cases h
 split at h
 ·split at h
  ·cases h;intro t ht;rcases A8.1 ht with rfl|ht
   ·exact⟨by assumption,hw _ A7,hw _ A7,hw _ A7⟩
   ·exact hw t (by simp[ht])
  ·cases h
 ·cases h
theorem a2q:∀(es:List (Int×Int)) (i:Nat) (ts ts' :List XT),uz i es ts= .inr ts' ->(∀t∈ts,t.wf)->∀t∈ts',t.wf
 |[],i,ts,ts',h,hw=>by cases h;exact hw|n::es,i,ts,ts',h,hw=>by
  unfold uz at h;cases hp:push n ts with
  |inl c=>rw[hp]at h;cases h|inr t2=>
   rw[hp]at h;simp only at h;split at h
   ·cases h
   ·exact a2q es (i+1) t2 ts' h (b4m hp hw)
theorem Np{e:List (Int×Int)}{t:XT}(h:mM e= .inr t):t.wf:=by
 unfold mM at h;split at h
 ·cases h
 split at h
 ·cases h
 split at h
 ·cases h
 ·rename_i t' hp;cases h;exact a2q e 0 [] [t] hp A7 t A7
 ·cases h
def EH(n:Int×Int)(ops:List (Int×Int))(sg:I5):(Int×Int)×Int:=(yA n ops sg).getD ((0,0),0)
def Dx(sg:I5)(n:Int×Int)(ops:List (Int×Int))(i:Nat):(Int×Int)⊕(Int×Int):=if(EH n ops sg).2=0 then .inr (EH n ops sg).1 else .inl ((i:Int),(EH n ops sg).2)
def fJ(sg:I5):XT->Nat->(Int×Int)⊕(Int×Int)
 | .l0 n,o=>Dx sg n [] o
 | .l1 n a,o=>match fJ sg a o with
  | .inl x=> .inl x| .inr ta=>Dx sg n [ta] (o+a.size)
 | .l2 n a b,o=>match fJ sg a o with
  | .inl x=> .inl x
  | .inr ta=>match fJ sg b (o+a.size)with
   | .inl x=> .inl x| .inr tb=>Dx sg n [ta,tb] (o+a.size+b.size)
 | .l3 n a b c,o=>match fJ sg a o with
  | .inl x=> .inl x
  | .inr ta=>match fJ sg b (o+a.size)with
   | .inl x=> .inl x
   | .inr tb=>match fJ sg c (o+a.size+b.size)with
    | .inl x=> .inl x| .inr tc=>Dx sg n [ta,tb,tc] (o+a.size+b.size+c.size)
theorem xH{sg:I5}{n:Int×Int}{ops:List (Int×Int)}{i:Nat}{t:Int×Int}(hN:bQ n.2)(hv:∀t∈ops,VT t)(hl:o9 ops=arF n.1)(h:Dx sg n ops i= .inr t):VT t:=by
 obtain⟨r,h1,h2,h3⟩:=UR sg n hN ops hv hl;unfold Dx at h;split at h
 ·rename_i h0;cases h;have e:EH n ops sg=r:=by unfold EH;rw[h1];rfl
  rw[e]at h0 ⊢;exact h3 h0
 ·cases h
section
variable (e:List (Int×Int)) (sg:I5) (z:Int×Int)
def b5b(f:(Int×Int)×List (Int×Int)×Int->Option (Out ((Int×Int)×List (Int×Int)×Int) ((Int×Int)×List (Int×Int)) ((Int×Int)×Int×Int))):Prop:=
 ∀(i:Nat) (n:Int×Int) (s ops:List (Int×Int)),e[i]? =some n->i<=100->o9 ops=arF n.1->(∀t∈ops,VT t)->s.length+ops.length<=100->
  f (z,s++ops,(i:Int))=some (match Dx sg n ops i with| .inl x=> .rt ((0,0),x)| .inr t=> .nx (z,s++[t],((i+1:Nat):Int)))
theorem a8s{f:(Int×Int)×List (Int×Int)×Int->Option (Out ((Int×Int)×List (Int×Int)×Int) ((Int×Int)×List (Int×Int)) ((Int×Int)×Int×Int))}
  (he:e.length<=48) (hI:∀n∈e,bQ n.2) (hs:b5b e sg z f):∀(t:XT),t.wf->∀(pre suf s:List (Int×Int)) (k:Nat),e=pre++t.post++suf->s.length<=pre.length->
  ou f (k+t.size) (z,s,(pre.length:Int))=(match fJ sg t pre.length with| .inl x=>some (.inr ((0,0),x))| .inr r=>ou f k (z,s++[r],((pre.length+t.size:Nat):Int)))/\∀r,fJ sg t pre.length= .inr r->VT r:=by
 intro t;have step:∀(i k:Nat) (n:Int×Int) (s ops:List (Int×Int)),e[i]? =some n->o9 ops=arF n.1->(∀t∈ops,VT t)->s.length+ops.length<=100->
   ou f (k+1) (z,s++ops,(i:Int))=(match Dx sg n ops i with| .inl x=>some (.inr ((0,0),x))| .inr r=>ou f k (z,s++[r],((i+1:Nat):Int))):=by
  intro i k n s ops h1 h2 h3 h4;rw[ou,hs i n s ops h1 (by have:=(Y6.1 h1).1;omega) h2 h3 h4];cases Dx sg n ops i<;>rfl
 have getn:∀(pre suf:List (Int×Int)) (n:Int×Int),e=pre++[n]++suf->e[pre.length]? =some n:=by intro pre suf n h;rw[h,E9,F7 l7,az];rfl
 have mem:∀(i:Nat) (n:Int×Int),e[i]? =some n->bQ n.2:=λi n h=>hI n (rV h);induction t with
 |l0 n=>
  intro hw pre suf s k hd hl;have hn:=getn pre suf n hd;have hlen:pre.length<e.length:=(Y6.1 hn).1;have hz:o9 ([]:List (Int×Int))=arF n.1:=by rw[show arF n.1=0 from hw];rfl
  have h:=step pre.length k n s [] hn hz A7 U6;rw[H9]at h;exact⟨h,λr hr=>xH (mem _ n hn) A7 hz hr⟩
 |l1 n a iha=>
  intro hw pre suf s k hd hl;simp only[XT.post,E9]at hd;have hpa:(pre++a.post).length=pre.length+a.size:=by simp[XT.post_len]
  have hn:=getn (pre++a.post) suf n (by simpa using hd);rw[hpa]at hn;have hlen:=(Y6.1 hn).1;obtain⟨i1,i2⟩:=iha hw.2 pre ([n]++suf) s (k+1) (by simpa using hd) hl;simp only[XT.size,fJ];rw[show k+(a.size+1)=(k+1)+a.size by omega,i1];cases ht:fJ sg a pre.length with
  |inl x=>exact⟨rfl,λr hr=>by cases hr⟩|inr ta=>
   have hz:o9 [ta]=arF n.1:=by rw[show arF n.1=1 from hw.1];rfl
   have hv:∀t∈[ta],VT t:=by simpa using i2 ta ht
   exact⟨step _ k n s [ta] hn hz hv U6,λr hr=>xH (mem _ n hn) hv hz hr⟩
 |l2 n a b iha ihb=>
  intro hw pre suf s k hd hl;simp only[XT.post,E9]at hd;have hpa:(pre++a.post).length=pre.length+a.size:=by simp[XT.post_len]
  have hpb:(pre++a.post++b.post).length=pre.length+a.size+b.size:=by simp[XT.post_len];omega
  have hn:=getn (pre++a.post++b.post) suf n (by simpa using hd);rw[hpb]at hn;have hlen:=(Y6.1 hn).1;obtain⟨i1,i2⟩:=iha hw.2.1 pre (b.post++[n]++suf) s (k+1+b.size) (by simpa using hd) hl;simp only[XT.size,fJ];rw[show k+(a.size+b.size+1)=(k+1+b.size)+a.size by omega,i1];cases ht:fJ sg a pre.length with
  |inl x=>exact⟨rfl,λr hr=>by cases hr⟩|inr ta=>
   have hsa:=a.size_pos;obtain⟨j1,j2⟩:=ihb hw.2.2 (pre++a.post) ([n]++suf) (s++[ta]) (k+1) (by simpa using hd) (by simp[XT.post_len];omega);rw[hpa]at j1 j2;simp only;rw[j1];cases hu:fJ sg b (pre.length+a.size)with
   |inl x=>exact⟨rfl,λr hr=>by cases hr⟩|inr tb=>
    have hz:o9 [ta,tb]=arF n.1:=by rw[show arF n.1=2 from hw.1];rfl
    have hv:∀t∈[ta,tb],VT t:=by simpa using ⟨i2 ta ht,j2 tb hu⟩
    have:=step _ k n s [ta,tb] hn hz hv U6;simp only[E9,S9,H6];rw[show pre.length+(a.size+b.size+1)=pre.length+a.size+b.size+1 by omega];exact⟨this,λr hr=>xH (mem _ n hn) hv hz hr⟩
 |l3 n a b c iha ihb ihc=>
  intro hw pre suf s k hd hl;simp only[XT.post,E9]at hd;have hpa:(pre++a.post).length=pre.length+a.size:=by simp[XT.post_len]
  have hpb:(pre++a.post++b.post).length=pre.length+a.size+b.size:=by simp[XT.post_len];omega
  have hpc:(pre++a.post++b.post++c.post).length=pre.length+a.size+b.size+c.size:=by simp[XT.post_len];omega
  have hn:=getn (pre++a.post++b.post++c.post) suf n (by simpa using hd);rw[hpc]at hn;have hlen:=(Y6.1 hn).1;obtain⟨i1,i2⟩:=iha hw.2.1 pre (b.post++(c.post++([n]++suf))) s (k+1+c.size+b.size) (by simpa using hd) hl;simp only[XT.size,fJ];rw[show k+(a.size+b.size+c.size+1)=(k+1+c.size+b.size)+a.size by omega,i1];have hsa:=a.size_pos;have hsb:=b.size_pos;cases ht:fJ sg a pre.length with
  |inl x=>exact⟨rfl,λr hr=>by cases hr⟩|inr ta=>
   obtain⟨j1,j2⟩:=ihb hw.2.2.1 (pre++a.post) (c.post++([n]++suf)) (s++[ta]) (k+1+c.size) (by simpa using hd) (by simp[XT.post_len];omega);rw[hpa]at j1 j2;simp only;rw[j1];cases hu:fJ sg b (pre.length+a.size)with
   |inl x=>exact⟨rfl,λr hr=>by cases hr⟩|inr tb=>
    obtain⟨q1,q2⟩:=ihc hw.2.2.2 (pre++a.post++b.post) ([n]++suf) (s++[ta]++[tb]) (k+1) (by simpa using hd) (by simp[XT.post_len];omega);rw[hpb]at q1 q2;simp only;rw[q1];cases hc:fJ sg c (pre.length+a.size+b.size)with
    |inl x=>exact⟨rfl,λr hr=>by cases hr⟩|inr tc=>
     have hz:o9 [ta,tb,tc]=arF n.1:=by rw[show arF n.1=3 from hw.1];rfl
     have hv:∀t∈[ta,tb,tc],VT t:=by simpa using ⟨i2 ta ht,j2 tb hu,q2 tc hc⟩
     have:=step _ k n s [ta,tb,tc] hn hz hv U6;simp only[E9,S9,H6];rw[show pre.length+(a.size+b.size+c.size+1)=pre.length+a.size+b.size+c.size+1 by omega];exact⟨this,λr hr=>xH (mem _ n hn) hv hz hr⟩
end
def nG(e:List (Int×Int))(sg:I5):(Int×Int)×Int×Int:=match mM e with
 | .inl x=>((0,0),x)
 | .inr t=>match fJ sg t 0 with
  | .inl x=>((0,0),x)| .inr r=>(r,0,0)
theorem XU{α:Type}(s ops:List α)(k:Int)(hk:o9 ops=k)(h:s.length+ops.length<=100):
  H8 .i64 (o9 (s++ops)) k=(s.length:Int)/\rC (s.length:Int) (o9 (s++ops)) (o9 (s++ops))=true/\oP (s++ops) (X8 (s.length:Int)) (X8 (o9 (s++ops)))=ops
  /\rC 0 (s.length:Int) (o9 (s++ops))=true/\oP (s++ops) (X8 0) (X8 (s.length:Int))=s:=by
 subst hk;refine⟨?_,?_,?_,?_,?_⟩
 ·rw[O5 (by unfold bQ;simp[o9];omega)];simp[o9]
 ·simp[rC,o9];omega
 ·show((s++ops).take (((s++ops).length:Nat):Int).toNat).drop s.length=ops;rw[J5,aB,List.drop_left]
 ·simp[rC,o9];omega
 ·simp[oP,X8]
theorem XR{e:List (Int×Int)}{sg:I5}{f:(Int×Int)×List (Int×Int)×Int->Option (Out ((Int×Int)×List (Int×Int)×Int) ((Int×Int)×List (Int×Int)) ((Int×Int)×Int×Int))}
  (hI:∀n∈e,bQ n.2) (hs:b5b e sg (0,0) f) (hend:∀s,f ((0,0),s,(e.length:Int))=some (.ex ((0,0),s))) (hcode:∀x,mM e= .inl x->x.2≠0):
  l9 (F6 (x8 (zS e).2.2 0)) (some ((((0:Int),(0:Int)),(zS e).2):(Int×Int)×Int×Int)) (o5 (X7 f (((0:Int),(0:Int)),([]:List (Int×Int)),(0:Int))) λ(o:(Int×Int)×List (Int×Int)⊕(Int×Int)×Int×Int)=>
   aj o (λ(y:(Int×Int)×List (Int×Int))=>o5 (G9 y.2 0) λ(x:Int×Int)=>o5 (af y.2 (X8 0)) λ(x:Int×Int)=>some (x,0,0)) λ(r:(Int×Int)×Int×Int)=>some r)=some (nG e sg):=by
 unfold zS nG;cases h:mM e with
 |inl x=>simp only[J3 (hcode x h),bH,o7]|inr t=>
  obtain⟨hp,h48⟩:=DK h;have hw:=Np h;obtain⟨l1,_⟩:=a8s e sg (0,0) h48 hI hs t hw [] [] [] (lg -t.size) (by simpa using hp) A7;have hsz:e.length=t.size:=by rw[hp,XT.post_len]
  have hlo:X7 f (((0:Int),(0:Int)),([]:List (Int×Int)),(0:Int))=ou f (lg -t.size+t.size) ((0,0),[],(([]:List (Int×Int)).length:Int)):=by unfold X7;rw[Nat.sub_add_cancel (by unfold lg;omega)];rfl
  simp only[O8 (rfl:(0:Int)=0),E5,o6];rw[hlo,l1];simp only[aP,dM];cases fJ sg t 0 with
  |inl x=>rfl|inr r=>obtain⟨k,hk⟩:∃k,lg -t.size=k+1:=⟨lg -t.size -1,by unfold lg;omega⟩;simp only[H6];rw[hk,ou,←hsz,hend];rfl
theorem DJ{e:List (Int×Int)}{x:Int×Int}(h:mM e= .inl x):x.2≠0:=by
 have key:∀(es:List (Int×Int)) (i:Nat) (ts:List XT) (x:Int×Int),uz i es ts= .inl x->x.2≠0:=by
  intro es;induction es with
  |nil=>intro i ts x h;cases h|cons n es ih=>
   intro i ts x h;unfold uz at h;cases hp:push n ts with
   |inl c=>
    rw[hp]at h;cases h;show c≠0;unfold push at hp
    (repeat' split at hp)<;>first|(cases hp;done)|(cases hp;decide)
   |inr t2=>
    rw[hp]at h;simp only at h;split at h
    ·cases h;show(16:Int)≠0;decide
    ·exact ih _ _ _ h
 unfold mM at h;split at h
 ·cases h;show(4:Int)≠0;decide
 split at h
 ·cases h;show(5:Int)≠0;decide
 split at h
 ·rename_i y hp;cases h;exact key _ _ _ _ hp
 ·cases h
 ·cases h;show(4:Int)≠0;decide
theorem a4C{e:List (Int×Int)}(sg:I5)(hI:∀n∈e,bQ n.2):EF e sg=some (nG e sg):=by
 unfold EF;rw[Yv,o8];refine XR hI (λi n s ops hn hi2 hl hv hlen=>?_) (λs=>?_) (λx h=>DJ h)
 ·obtain⟨r,h1,h2,h3⟩:=UR sg n (hI n (rV hn)) ops hv hl;obtain⟨v1,v2,v3,v4,v5⟩:=XU s ops _ hl hlen;have e' :EH n ops sg=r:=by unfold EH;rw[h1];rfl
  have hi:=(Y6.1 hn).1;simp only[U2 hn,o7,G7,hn,o8,a0i,v1,v2,v3,v4,v5,h1];unfold Dx;rw[e'];by_cases h0:r.2=0
  ·rw[if_pos h0,O8 h0];simp only[E5,o6];rw[mQ _ l7,o8,dH l7]
  ·rw[if_neg h0,J3 h0];rfl
 ·rw[U1];rfl
theorem a8q{e:List (Int×Int)}(sg:I5)(hI:∀n∈e,bQ n.2):GN e sg=some (nG e sg):=by
 unfold GN;rw[QH,o8];refine XR hI (λi n s ops hn hi2 hl hv hlen=>?_) (λs=>?_) (λx h=>DJ h)
 ·obtain⟨r,h1,h2,h3⟩:=UR sg n (hI n (rV hn)) ops hv hl;obtain⟨v1,v2,v3,v4,v5⟩:=XU s ops _ hl hlen;have e' :EH n ops sg=r:=by unfold EH;rw[h1];rfl
  have hi:=(Y6.1 hn).1;simp only[U2 hn,o7,G7,hn,o8,Vq,v1,v2,v3,v4,v5];unfold Dx;rw[e'];unfold EN at h2;have fin:bI n ops sg=some r->(o5 (bI n ops sg) λ(x_3:J8×Int)=>l9 (F6 (x8 x_3.2 0)) (some (Out.rt ((((0:Int),(0:Int)),((i:Int),x_3.2)):(Int×Int)×Int×Int)))
    (o5 (iY s [x_3.1]) λ(x_4:List J8)=>some (Out.nx (((0:Int),(0:Int)),x_4,D6 .i64 (i:Int) 1))))=
    some (match if r.2=0 then(.inr r.1:(Int×Int)⊕(Int×Int))else .inl ((i:Int),r.2)with| .inl x=>Out.rt ((0,0),x)| .inr t=>(Out.nx ((0,0),s++[t],((i+1:Nat):Int)):Out ((Int×Int)×List (Int×Int)×Int) ((Int×Int)×List (Int×Int)) ((Int×Int)×Int×Int))):=by
   intro hr;rw[hr,o8];by_cases h0:r.2=0
   ·rw[if_pos h0,O8 h0];simp only[E5,o6];rw[mQ _ l7,o8,dH l7]
   ·rw[if_neg h0,J3 h0];rfl
  cases hz:x8 n.2 0
  ·rw[hz]at h2;simp only[bH,o7]at h2 ⊢;cases hu:lu n.1 with
   |none=>rw[hu]at h2;cases h2|some u=>
    rw[hu]at h2;simp only[o8]at h2 ⊢;cases u
    ·simp only[bH,o7]at h2 ⊢;cases h2;rfl
    ·exact fin h2
  ·rw[hz]at h2;exact fin h2
 ·rw[U1];rfl
section
variable {α β σ ε ρ:Type}
theorem zZ(l:List α)(G:β->α->β)(mk:β->Int->σ)(fin:β->ε)(Inv:Nat->β->Prop){f:σ->Option (σ⊕ε)}{b:β}(hl:l.length<=1000000)(h0:Inv 0 b)
  (hin:∀(i:Nat) (a:α) (b:β),l[i]? =some a->i<=1000000->Inv i b->f (mk b (i:Int))=some (.inl (mk (G b a) ((i+1:Nat):Int)))/\Inv (i+1) (G b a))
  (hend:∀b,Inv l.length b->f (mk b (l.length:Int))=some (.inr (fin b))):
  aS f (mk b 0)=some (fin (l.foldl G b))/\Inv l.length (l.foldl G b):=by
 have key:∀(n i:Nat) (b:β),i<=l.length->l.length -i<n->Inv i b->nZ f n (mk b (i:Int))=some (fin ((l.drop i).foldl G b))/\Inv l.length ((l.drop i).foldl G b):=by
  intro n;induction n with
  |zero=>intro i b _ h _;omega|succ n ih=>
   intro i b hi hn hI;unfold nZ;by_cases h:i<l.length
   ·have e:=dX h;obtain⟨h1,h2⟩:=hin i _ b e l7 hI;rw[h1,gZ h];exact ih (i+1) _ l7 l7 h2
   ·have:i=l.length:=l7;subst this;rw[hend b hI,wQ];exact⟨rfl,hI⟩
 have:=key lg 0 b l7 (by unfold lg;omega) h0;exact this
theorem uw{γ:Type}(l:List α)(G:β->α->β)(mk:β->Int->σ)(fin:β->ε)(Inv:Nat->β->Prop)(b:β){f:σ->Option (σ⊕ε)}{K:ε->Option γ}{r:Option γ}(hl:l.length<=1000000)(h0:Inv 0 b)
  (hin:∀(i:Nat) (a:α) (b:β),l[i]? =some a->i<=1000000->Inv i b->f (mk b (i:Int))=some (.inl (mk (G b a) ((i+1:Nat):Int)))/\Inv (i+1) (G b a))
  (hend:∀b,Inv l.length b->f (mk b (l.length:Int))=some (.inr (fin b))) (hk:Inv l.length (l.foldl G b)->K (fin (l.foldl G b))=r):o5 (aS f (mk b 0)) K=r:=by
 obtain⟨h1,h2⟩:=zZ l G mk fin Inv hl h0 hin hend;rw[h1];exact hk h2
def aY(G:β->α->β⊕ρ):List α->β->β⊕ρ
 |[],b=> .inl b
 |a::l,b=>match G b a with| .inl b' =>aY G l b'| .inr r=> .inr r
theorem Om(l:List α)(G:β->α->β⊕ρ)(mk:β->Int->σ)(fin:β->ε)(Inv:Nat->β->Prop){f:σ->Option (Out σ ε ρ)}{b:β}(hl:l.length<=1000000)(h0:Inv 0 b)
  (hin:∀(i:Nat) (a:α) (b:β),l[i]? =some a->i<=1000000->Inv i b->f (mk b (i:Int))=some (match G b a with| .inl b' => .nx (mk b' ((i+1:Nat):Int))| .inr r=> .rt r)/\∀b',G b a= .inl b' ->Inv (i+1) b')
  (hend:∀b,Inv l.length b->f (mk b (l.length:Int))=some (.ex (fin b))):
  X7 f (mk b 0)=some (match aY G l b with| .inl b' => .inl (fin b')| .inr r=> .inr r)/\∀b',aY G l b= .inl b' ->Inv l.length b' :=by
 have key:∀(n i:Nat) (b:β),i<=l.length->l.length -i<n->Inv i b->ou f n (mk b (i:Int))=some (match aY G (l.drop i) b with| .inl b' => .inl (fin b')| .inr r=> .inr r)/\∀b',aY G (l.drop i) b= .inl b' ->Inv l.length b' :=by
  intro n;induction n with
  |zero=>intro i b _ h _;omega|succ n ih=>
   intro i b hi hn hI;unfold ou;by_cases h:i<l.length
   ·have e:=dX h;obtain⟨h1,h2⟩:=hin i _ b e l7 hI;rw[h1,gZ h];unfold aY;cases hg:G b l[i]with
    |inr r=>exact⟨rfl,λb' hb=>by cases hb⟩|inl b' =>exact ih (i+1) _ l7 l7 (h2 b' hg)
   ·have:i=l.length:=l7;subst this;rw[hend b hI,wQ];exact⟨rfl,λb' hb=>by cases hb;exact hI⟩
 have:=key lg 0 b l7 (by unfold lg;omega) h0;exact this
theorem uy{γ:Type}(l:List α)(G:β->α->β⊕ρ)(mk:β->Int->σ)(fin:β->ε)(Inv:Nat->β->Prop)(b:β){f:σ->Option (Out σ ε ρ)}{K:ε⊕ρ->Option γ}{r:Option γ}(hl:l.length<=1000000)(h0:Inv 0 b)
  (hin:∀(i:Nat) (a:α) (b:β),l[i]? =some a->i<=1000000->Inv i b->f (mk b (i:Int))=some (match G b a with| .inl b' => .nx (mk b' ((i+1:Nat):Int))| .inr r=> .rt r)/\∀b',G b a= .inl b' ->Inv (i+1) b')
  (hend:∀b,Inv l.length b->f (mk b (l.length:Int))=some (.ex (fin b)))
  (hk:(∀b',aY G l b= .inl b' ->Inv l.length b')->K (match aY G l b with| .inl b' => .inl (fin b')| .inr r=> .inr r)=r):o5 (X7 f (mk b 0)) K=r:=by
 obtain⟨h1,h2⟩:=Om l G mk fin Inv hl h0 hin hend;rw[h1];exact hk h2
end
def Tc(c:UInt8):Bool:=decide (32<=c.toNat)&&decide (c.toNat<=126)&&decide (c.toNat≠34)
def Yy(s:List UInt8):Bool:=decide (s.length<=64)&&s.all Tc
theorem a5T(c:UInt8):∀s:List UInt8,decide (0<=Lib.indexByte s c)=s.any λx=>decide (x.toNat=c.toNat)
 |[]=>by simp[Lib.indexByte]|b::l=>by
  have ih:=a5T c l;have hge:=Lib.indexByte_ge l c;rw[qW,←ih];have e:Lib.indexByte (b::l) c=if b=c then 0 else if Lib.indexByte l c=-1 then -1 else Lib.indexByte l c+1:=by rw[Lib.indexByte];simp
  rw[e];by_cases h:b=c
  ·subst h;simp
  ·have h2:b.toNat≠c.toNat:=λhh=>h (UInt8.toNat_inj.1 hh);rw[if_neg h,show decide (b.toNat=c.toNat)=false by simp[h2],nT];by_cases h3:Lib.indexByte l c=-1
   ·rw[h3];rfl
   ·rw[if_neg h3];simp;omega
theorem a2Z(c:UInt8):Tc c=(!E8 (c.toNat:Int) 32&&!E8 126 (c.toNat:Int)&&!x8 (c.toNat:Int) 34):=by unfold Tc E8 x8;rw[jA];simp;omega
theorem UK(s:List UInt8)(p:UInt8->Bool):(∀(i:Nat) (a:UInt8),s[i]? =some a->p a=true)↔s.all p=true:=by rw[ja];exact⟨λh x hx=>by obtain⟨i,hi,rfl⟩:=J7 hx;exact h i _ (dX hi),λh i a hi=>h a (rV hi)⟩
theorem a0a{s:List UInt8}(h:s.length<=1000000):zI s=some (Yy s):=by
 unfold zI;refine U9 (Aq s (λi a=>Tc a) false PUnit.unit _ l7 (λi x hx=>?_) ?_) ?_
 rotate_left 2
 ·have h5:L9 (o9 s) 64=decide (s.length<=64):=by simp only[L9,o9];congr 1;simp;omega
  unfold Yy;by_cases hw:s.all Tc=true
  ·rw[if_pos ((UK s Tc).2 hw),hw,o8,N7,h5,Bool.and_true]
  ·rw[if_neg (λh=>hw ((UK s Tc).1 h))];simp only[kM]at hw;rw[hw,Bool.and_false];rfl
 ·have hi:=(Y6.1 hx).1;simp only[U2 hx,o7,zQ,hx,Y2,o8];rw[dH l7,a2Z];cases E8 (x.toNat:Int) 32<;>cases E8 126 (x.toNat:Int)<;>cases x8 (x.toNat:Int) 34<;>rfl
 ·rw[U1];rfl
theorem XV{s:List UInt8}(h:s.length<=1000000):zB s=some (Yy s):=by
 unfold zB;have h5:E8 64 (o9 s)= !decide (s.length<=64):=by simp only[E8,o9];rw[←decide_not];congr 1;simp;omega
 rw[h5,show yQ s [34]=some (s.any λx=>decide (x.toNat=(34:UInt8).toNat))from congrArg some (a5T 34 s)];unfold Yy;cases decide (s.length<=64)
 ·rfl
 simp only[jB,o6,o8,nU];cases h34:s.any λx=>decide (x.toNat=(34:UInt8).toNat)
 case true=>
  obtain⟨x,hx,hx2⟩:=kN.1 h34;simp only[decide_eq_true_eq]at hx2;have:s.all Tc=false:=by rw[List.all_eq_false];refine⟨x,hx,?_⟩;unfold Tc;rw[hx2];decide
  rw[this];rfl
 simp only[o6];refine U9 (Aq s (λi a=>Tc a) false PUnit.unit _ l7 (λi x hx=>?_) ?_) ?_
 rotate_left 2
 ·by_cases hw:s.all Tc=true
  ·rw[if_pos ((UK s Tc).2 hw),hw];rfl
  ·rw[if_neg (λh=>hw ((UK s Tc).1 h))];simp only[kM]at hw;rw[hw];rfl
 ·have hi:=(Y6.1 hx).1;have hne:x8 (x.toNat:Int) 34=false:=by
   have:=(iK.1 h34) x (rV hx);simp only[decide_eq_true_eq]at this;exact J3 (by have h:(34:UInt8).toNat=34:=rfl;omega)
  simp only[U2 hx,o7,zQ,hx,Y2,o8];rw[dH l7,a2Z,hne];cases E8 (x.toNat:Int) 32<;>cases E8 126 (x.toNat:Int)<;>rfl
 ·rw[U1];rfl
def Eh(e:List (Int×Int))(sg:I5)(t:Int×Int):Int:=l9 (x8 (nG e sg).2.2 0) (l9 (nN (x8 (nG e sg).1.1 t.1) (x8 (nG e sg).1.2 t.2)) 0 8) (nG e sg).2.2
theorem Pg{e:List (Int×Int)}(sg:I5)(t:Int×Int)(hI:∀n∈e,bQ n.2):wJ e sg t=some (Eh e sg t):=by
 unfold wJ Eh;rw[a8q sg hI,o8];cases x8 (nG e sg).2.2 0
 ·rfl
 simp only[E5,o6,o7];cases nN (x8 (nG e sg).1.1 t.1) (x8 (nG e sg).1.2 t.2)<;>rfl
theorem Py{e:List (Int×Int)}(sg:I5)(t:Int×Int)(hI:∀n∈e,bQ n.2):sK e sg t=some (Eh e sg t):=by
 unfold sK Eh;rw[a4C sg hI,o8];cases x8 (nG e sg).2.2 0
 ·rfl
 simp only[E5,o6,o7];cases nN (x8 (nG e sg).1.1 t.1) (x8 (nG e sg).1.2 t.2)<;>rfl
def a3s(r:gy):Prop:=r.1.length<=1000000/\r.2.2.2.2.2.2.2.length<=1000000/\(∀n∈r.2.2.2.2.2.1,bQ n.2)/\(∀n∈r.2.2.2.2.2.2.1,bQ n.2)
def Ph(rs:List gy)(d:Int):Nat:=rs.countP λo=>x8 o.2.1 d
def Ru(r:gy)(sg:I5)(t:Int×Int):Int:=
 l9 (E8 0 (o9 r.2.2.2.2.2.1)) (l9 (x8 (Eh r.2.2.2.2.2.1 sg (1,0)) 0) (Eh r.2.2.2.2.2.2.1 sg t) (Eh r.2.2.2.2.2.1 sg (1,0))) (Eh r.2.2.2.2.2.2.1 sg t)
def Gl(s:D9)(sg:I5)(k:Nat)(r:gy):Int:=
 l9 (wP r.1) (l9 ((s.2.2.2.2.take k).any λx=>seq x.1 r.1) 7 (match G9 s.2.2.2.1 r.2.1 with
  |none=>6|some d=>l9 (l9 (x8 r.2.2.1 (-1)) false (l9 (E8 r.2.2.1 0) true (l9 (L9 k r.2.2.1) true (match G9 s.2.2.2.2 r.2.2.1 with|some q=>F6 (x8 q.2.1 r.2.1)|none=>true)))) 9
   (l9 (E8 r.2.2.2.1 0) 3 (l9 (E8 9 r.2.2.2.1) 3 (l9 (En r.2.2.2.2.1) (l9 (x8 r.2.2.2.2.1.1 r.2.2.2.2.1.2) 3
    (l9 (L9 8 (Ph (s.2.2.2.2.take k) r.2.1)) 4 (l9 (Yy r.2.2.2.2.2.2.2) (Ru r sg d.2) 2))) 3))))) 2
theorem tC{α:Type}{l:List α}{i:Int}(h:L9 0 i=false\/E8 i (o9 l)=false):G9 l i=none:=by
 unfold G9
 split
 ·rename_i h0;rcases h with h|h
  ·rw[Ld]at h;omega
  ·rw[jv]at h;simp only[o9]at h;exact bu l7
 ·rfl
theorem w_{s:D9}(sg:I5){k:Nat}{r:gy}(hr:s.2.2.2.2[k]? =some r)(hl:s.2.2.2.2.length<=1000)(h:a3s r):Dh s (k:Int) sg=some (Gl s sg k r):=by
 have hk:=(Y6.1 hr).1;have hcnt:Ph (s.2.2.2.2.take k) r.2.1<=1000:=by have:=List.countP_le_length (l:=s.2.2.2.2.take k) (p:=λ(o:gy)=>x8 o.2.1 r.2.1);unfold Ph;simp at this;omega
 unfold Dh;rw[G7,hr,o8,Ar l7,o8];refine U9 (zZ (s.2.2.2.2.take k) (λ(c:Nat) (o:gy)=>l9 (x8 o.2.1 r.2.1) (c+1) c) (λc i=>((c:Int),i)) (λc=>(c:Int)) (λi c=>c<=i) (b:=0) U6 l7 (λi a c ha hi hc=>?_) (λc hc=>?_)).1 ?_
 rotate_left 2
 ·have hf:∀(l:List gy) (c:Nat),l.foldl (λ(c:Nat) (o:gy)=>l9 (x8 o.2.1 r.2.1) (c+1) c) c=c+Ph l r.2.1:=by
   intro l;induction l with
   |nil=>intro c;rfl|cons a l ih=>intro c;rw[Y1,ih];unfold Ph;rw[List.countP_cons];cases x8 a.2.1 r.2.1<;>simp<;>omega
  rw[hf,dM,o8,rY h.1,o8,o8,a3Z _ U6,o8];unfold Gl;cases wP r.1
  ·rfl
  simp only[E5,o6,o7,o8];cases (s.2.2.2.2.take k).any λx=>seq x.1 r.1
  case true=>rfl
  simp only[o6];rw[rH r.2.1 0,Et (o9 s.2.2.2.1) r.2.1];cases h0:L9 0 r.2.1
  ·rw[tC (.inl h0)];rfl
  cases h1:E8 r.2.1 (o9 s.2.2.2.1)
  ·rw[tC (.inr h1)];rfl
  obtain⟨d,hd,_⟩:=jZ (lT.1 h0) (jl.1 h1);rw[hd];simp only[jB,o6,o8,XV h.2.1];have hpar:(l9 (F6 (x8 r.2.2.1 (-1))) (l9 (E8 r.2.2.1 0) (some true) (l9 (L9 (k:Int) r.2.2.1) (some true) (o5 (G9 s.2.2.2.2 r.2.2.1) λ(x_6:gy)=>some (F6 (x8 x_6.2.1 r.2.1))))) (some false))=
    some (l9 (x8 r.2.2.1 (-1)) false (l9 (E8 r.2.2.1 0) true (l9 (L9 k r.2.2.1) true (match G9 s.2.2.2.2 r.2.2.1 with|some q=>F6 (x8 q.2.1 r.2.1)|none=>true)))):=by
   cases x8 r.2.2.1 (-1)
   case true=>rfl
   simp only[bH,o7,o6];cases hp0:E8 r.2.2.1 0
   case true=>rfl
   cases hp1:L9 (k:Int) r.2.2.1
   case true=>rfl
   rw[jv]at hp0;rw[Ld]at hp1;obtain⟨q,hq,_⟩:=jZ (l:=s.2.2.2.2) hp0 (by simp only[o9];omega);rw[hq];rfl
  rw[hpar,o8];cases (l9 (x8 r.2.2.1 (-1)) false (l9 (E8 r.2.2.1 0) true (l9 (L9 k r.2.2.1) true (match G9 s.2.2.2.2 r.2.2.1 with|some q=>F6 (x8 q.2.1 r.2.1)|none=>true))))
  case true=>rfl
  simp only[o6];cases E8 r.2.2.2.1 0
  case true=>rfl
  simp only[o6,o8];cases E8 9 r.2.2.2.1
  case true=>rfl
  simp only[o6];have hval:∀(A B:Option (gy⊕Int)),l9 (E8 r.2.2.2.2.1.1 0) A (l9 (L9 r.2.2.2.2.1.2 r.2.2.2.2.1.1) A (l9 (E8 109573 r.2.2.2.2.1.2) A B))=l9 (En r.2.2.2.2.1) (l9 (x8 r.2.2.2.2.1.1 r.2.2.2.2.1.2) A B) A:=by
   intro A B;unfold En;by_cases v0:r.2.2.2.2.1.1<(0:Int)
   ·rw[O0 v0,V9 (show r.2.2.2.2.1.1<(0:Int)from v0)];rfl
   rw[J6 (gW.1 v0),V5 (gW.1 v0)];by_cases v1:(r.2.2.2.2.1.2:Int)<=r.2.2.2.2.1.1
   ·rw[V5 v1];by_cases v2:(r.2.2.2.2.1.1:Int)<=r.2.2.2.2.1.2
    ·rw[V5 v2,O8 (Int.le_antisymm v2 v1)];cases L9 r.2.2.2.2.1.2 109573<;>rfl
    ·rw[V9 (iV.1 v2)];rfl
   ·have v1' :=iV.1 v1;rw[V9 v1',V5 (Int.le_of_lt v1'),J3 (λhh=>by rw[hh]at v1';exact Int.lt_irrefl _ v1'),rH];cases L9 r.2.2.2.2.1.2 109573<;>rfl
  rw[hval];cases En r.2.2.2.2.1
  ·rfl
  cases x8 r.2.2.2.2.1.1 r.2.2.2.2.1.2
  case true=>rfl
  simp only[o7,o6];cases L9 8 ((Ph (s.2.2.2.2.take k) r.2.1:Nat):Int)
  case true=>rfl
  cases Yy r.2.2.2.2.2.2.2
  ·rfl
  simp only[E5,o6,o7,o8,N7,Ru,hd,Pg sg _ h.2.2.1,Pg sg _ h.2.2.2];cases E8 0 (o9 r.2.2.2.2.2.1)
  ·rfl
  simp only[o7];cases x8 (Eh r.2.2.2.2.2.1 sg (1,0)) 0<;>rfl
 ·have hc' :c<=1000000:=l7;obtain⟨ha1,ha2⟩:=QJ ha;simp only[U2 ha,o7,G7,ha,o8];rw[dH (show i<=9000000000000000000 by omega),dH (show c<=9000000000000000000 by omega)];cases x8 a.2.1 r.2.1
  ·exact⟨rfl,by show c<=i+1;omega⟩
  ·exact⟨rfl,by show c+1<=i+1;omega⟩
 ·simp only[U1];rfl
theorem b1n(s:D9)(d:Int):Gh s d=some (l9 (L9 0 d) (E8 d (o9 s.2.2.2.1)) false):=by unfold Gh;cases L9 0 d<;>rfl
theorem Ze(r:gy):∀(l:List gy) (c:Nat),aY (λ(c:Nat) (o:gy)=>l9 (seq o.1 r.1) (.inr (7:Int)) (.inl (l9 (x8 o.2.1 r.2.1) (c+1) c))) l c=l9 (l.any λx=>seq x.1 r.1) (.inr 7) (.inl (c+Ph l r.2.1))
 |[],c=>rfl|a::l,c=>by
  unfold aY;rw[qW];cases seq a.1 r.1
  case true=>rfl
  simp only[o6,nT];rw[Ze r l];unfold Ph;rw[List.countP_cons];cases x8 a.2.1 r.2.1
  ·simp only[o6,bJ,if_false,eP]
  ·simp only[o7,if_true];rw[show c+1+List.countP (λo=>x8 o.2.1 r.2.1) l=c+(List.countP (λo=>x8 o.2.1 r.2.1) l+1) by omega]
theorem Yt{l:V8}{i k:Nat}{s:D9}{r:gy}(hL:OM l)(hs:l.2.2[i]? =some s)(hr:s.2.2.2.2[k]? =some r)(h:a3s r):zJ l (i:Int) (k:Int)=some (Gl s (BL l s) k r):=by
 have hk:=(Y6.1 hr).1;have hl:=(hL s (rV hs)).2.2.2;have hcnt:Ph (s.2.2.2.2.take k) r.2.1<=1000:=by have:=List.countP_le_length (l:=s.2.2.2.2.take k) (p:=λ(o:gy)=>x8 o.2.1 r.2.1);unfold Ph;simp at this;omega
 unfold zJ Gl;rw[G7,hs,o8,G7,hr,o8,og h.1,o8];cases wP r.1
 ·rfl
 simp only[E5,o6,o7];refine U9 (Om (s.2.2.2.2.take k) (λ(c:Nat) (o:gy)=>l9 (seq o.1 r.1) (.inr (7:Int)) (.inl (l9 (x8 o.2.1 r.2.1) (c+1) c))) (λc i=>((c:Int),i)) (λc=>(c:Int)) (λi c=>c<=i) (b:=0) U6 l7 (λj a c ha hi hc=>?_) (λc hc=>?_)).1 ?_
 rotate_left 2
 ·rw[Ze];cases (s.2.2.2.2.take k).any λx=>seq x.1 r.1
  case true=>rfl
  simp only[o6,dM,o8,N7];rw[rH r.2.1 0,Et (o9 s.2.2.2.1) r.2.1];cases h0:L9 0 r.2.1
  ·rw[tC (.inl h0)];rfl
  cases h1:E8 r.2.1 (o9 s.2.2.2.1)
  ·rw[tC (.inr h1)];rfl
  obtain⟨d,hd,_⟩:=jZ (lT.1 h0) (jl.1 h1);rw[hd];simp only[jB,o6,o8,N7];have hpar:(l9 (F6 (x8 r.2.2.1 (-1))) (l9 (E8 r.2.2.1 0) (some (Sum.inr (9:Int))) (l9 (L9 (k:Int) r.2.2.1) (some (.inr 9)) (o5 (G9 s.2.2.2.2 r.2.2.1) λ(x:gy)=>l9 (F6 (x8 x.2.1 r.2.1)) (some (.inr 9)) (some (.inl PUnit.unit))))) (some (.inl PUnit.unit)))=
    some (l9 (l9 (x8 r.2.2.1 (-1)) false (l9 (E8 r.2.2.1 0) true (l9 (L9 k r.2.2.1) true (match G9 s.2.2.2.2 r.2.2.1 with|some q=>F6 (x8 q.2.1 r.2.1)|none=>true)))) (.inr 9) (.inl PUnit.unit)):=by
   cases x8 r.2.2.1 (-1)
   case true=>rfl
   simp only[bH,o7,o6];cases hp0:E8 r.2.2.1 0
   case true=>rfl
   cases hp1:L9 (k:Int) r.2.2.1
   case true=>rfl
   rw[jv]at hp0;rw[Ld]at hp1;obtain⟨q,hq,_⟩:=jZ (l:=s.2.2.2.2) hp0 (by simp only[o9];omega);rw[hq];simp only[o8,o6];cases x8 q.2.1 r.2.1<;>rfl
  rw[hpar,o8];cases (l9 (x8 r.2.2.1 (-1)) false (l9 (E8 r.2.2.1 0) true (l9 (L9 k r.2.2.1) true (match G9 s.2.2.2.2 r.2.2.1 with|some q=>F6 (x8 q.2.1 r.2.1)|none=>true))))
  case true=>rfl
  simp only[o6,N7];cases E8 r.2.2.2.1 0
  case true=>rfl
  cases E8 9 r.2.2.2.1
  case true=>rfl
  simp only[o6,JG,o8];cases En r.2.2.2.2.1
  ·rfl
  cases x8 r.2.2.2.2.1.1 r.2.2.2.2.1.2
  case true=>rfl
  simp only[E5,o7,o6,o8,N7];cases L9 8 ((Ph (s.2.2.2.2.take k) r.2.1:Nat):Int)
  case true=>rfl
  simp only[o6,a0a h.2.1,o8];cases Yy r.2.2.2.2.2.2.2
  ·rfl
  simp only[E5,o6,o7,o8,Yu hL hs,Ru,hd,Py (BL l s) _ h.2.2.1,Py (BL l s) _ h.2.2.2];cases E8 0 (o9 r.2.2.2.2.2.1)
  ·rfl
  simp only[o7];cases x8 (Eh r.2.2.2.2.2.1 (BL l s) (1,0)) 0<;>rfl
 ·obtain⟨ha1,ha2⟩:=QJ ha;simp only[O0 (show(j:Int)<(k:Int) by omega),o7,G7,ha2,o8];rw[dH (show j<=9000000000000000000 by omega),dH (show c<=9000000000000000000 by omega)];cases seq a.1 r.1
  ·cases x8 a.2.1 r.2.1
   ·exact⟨rfl,λb' hb=>by cases hb;show c<=j+1;omega⟩
   ·exact⟨rfl,λb' hb=>by cases hb;show c+1<=j+1;omega⟩
  ·exact⟨rfl,λb' hb=>by cases hb⟩
 ·have e:(s.2.2.2.2.take k).length=k:=by simp;omega
  simp only[e,J6 (show(k:Int)<=(k:Int) by omega)];rfl
structure SmS (s:D9):Prop where
 nm:s.1.length<=1000000
 ni:s.2.2.1.length<=14
 nd:s.2.2.2.1.length<=14
 nr:s.2.2.2.2.length<=60
 fo:a0O s
 ro:∀r∈s.2.2.2.2,a3s r/\r.2.2.2.2.2.1.length<=50/\r.2.2.2.2.2.2.1.length<=50
theorem a0g:qx=tX:=rfl
def Ol(n:Int)(b:List Int×Bool)(a:Int):List Int×Bool:=l9 b.2 (b.1++[a],true) (l9 (L9 n a) (l9 (E8 n a) (b.1++[n]++[a],true) (b.1++[a],true)) (b.1++[a],false))
theorem a4d(n:Int):∀(l p:List Int),l.foldl (Ol n) (p,true)=(p++l,true)
 |[],p=>by simp|a::l,p=>by rw[Y1,show Ol n (p,true) a=(p++[a],true)from rfl,a4d n l];simp
theorem a9B(n:Int):∀(l p:List Int),(l9 (l.foldl (Ol n) (p,false)).2 (l.foldl (Ol n) (p,false)).1 ((l.foldl (Ol n) (p,false)).1++[n]))=p++ins n l
 |[],p=>rfl|a::l,p=>by
  rw[Y1];unfold ins;by_cases h1:n<=a
  ·rw[if_pos h1];by_cases h2:n<a
   ·rw[if_pos h2,show Ol n (p,false) a=(p++[n]++[a],true) by simp[Ol,V5 h1,O0 h2],a4d];simp
   ·rw[if_neg h2,show Ol n (p,false) a=(p++[a],true) by simp[Ol,V5 h1,J6 (show a<=n by omega)],a4d];simp
  ·rw[if_neg h1,show Ol n (p,false) a=(p++[a],false) by simp[Ol,V9 (show a<n by omega)],a9B n l];simp
theorem FX{l:List Int}(n:Int)(hl:l.length<=1000000):tX l n=some (ins n l):=by
 unfold tX;refine uw l (Ol n) (λb i=>(b.1,b.2,i)) (λb=>b) (λi b=>b.1.length<=i+1/\(b.2=false->b.1.length<=i)) (([],false):List Int×Bool) hl A7 (λi a b ha hi hI=>?_) (λb hI=>?_) (λh2=>?_)
 ·obtain⟨o,d⟩:=b;simp only at hI;simp only[U2 ha,o7,G7,ha,o8];rw[dH l7];cases d
  ·simp only[bH,o7,Ol,o6];have:=hI.2 rfl;cases L9 n a
   ·rw[o6,mQ a (show o.length<=1000000 by omega)];exact⟨rfl,by simp<;>omega,by simp<;>omega⟩
   ·rw[o7];cases E8 n a
    ·rw[o6,mQ a (show o.length<=1000000 by omega)];exact⟨rfl,by simp<;>omega,A7⟩
    ·rw[o7,mQ n (show o.length<=1000000 by omega),o8,GU U6];exact⟨rfl,by simp<;>omega,A7⟩
  ·simp only[E5,o6,Ol,o7];rw[GU U6];exact⟨rfl,by simp<;>omega,A7⟩
 ·simp only[U1];rfl
 ·have hf:=a9B n l [];generalize l.foldl (Ol n) ([],false)=b at*;obtain⟨o,d⟩:=b;cases d
  ·simp only[o6,H6]at hf;simp only[bH,o7];rw[mQ _ (by simp at h2;omega),hf];rfl
  ·simp only[o7,H6]at hf;simp only[E5,o6,hf]
def isM(op:Int):Bool:=l9 (L9 36 op) (L9 op 39) false
theorem b6o(op:Int):isM op=l9 (x8 op 36) true (l9 (x8 op 37) true (l9 (x8 op 38) true (x8 op 39))):=by
 unfold isM;by_cases h1:36<=op
 ·rw[V5 h1,o7];by_cases h2:op<=39
  ·rw[V5 h2];have:op=36\/op=37\/op=38\/op=39:=l7;rcases this with rfl|rfl|rfl|rfl<;>rfl
  ·rw[V9 l7,J3 l7,J3 l7,J3 l7,J3 l7];rfl
 ·rw[V9 l7,J3 l7,J3 l7,J3 l7,J3 l7];rfl
def Qc(p:Int->Bool)(e:List (Int×Int)):List Int:=(e.filter λn=>p n.1).map (·.2)
def uH(e:List (Int×Int)):List Int×List Int×List Int:=(KG (Qc (λo=>x8 o 7) e),KG (Qc (λo=>x8 o 8) e),KG (Qc isM e))
def a7V(g:List Int->Int->List Int)(b:List Int×List Int×List Int)(n:Int×Int):List Int×List Int×List Int:=
 (l9 (x8 n.1 7) (g b.1 n.2) b.1,l9 (x8 n.1 8) (g b.2.1 n.2) b.2.1,l9 (isM n.1) (g b.2.2 n.2) b.2.2)
theorem SA(g:List Int->Int->List Int):∀(e:List (Int×Int)) (b:List Int×List Int×List Int),e.foldl (a7V g) b=((Qc (λo=>x8 o 7) e).foldl g b.1,(Qc (λo=>x8 o 8) e).foldl g b.2.1,(Qc isM e).foldl g b.2.2)
 |[],b=>rfl|n::e,b=>by
  have hn:∀p:Int->Bool,Qc p (n::e)=l9 (p n.1) (n.2::Qc p e) (Qc p e):=λp=>by unfold Qc;rw[fE];cases p n.1<;>rfl
  rw[Y1,SA g e,hn,hn,hn];unfold a7V;simp only;cases x8 n.1 7<;>cases x8 n.1 8<;>cases isM n.1<;>rfl
theorem Zf:∀(l b:List Int),l.foldl (λacc n=>acc++[n]) b=b++l
 |[],b=>by simp|a::l,b=>by rw[Y1,Zf l];simp
theorem Ii{a k:Int}(h:a=k)(m:Int)(hm:k≠m):x8 a m=false:=J3 l7
theorem GI{l:List Int}(hl:l.length<=1000000):wH l=some (KG l):=by unfold wH;have:=b4P (l:=l) hl;rw[show(λx=>o5 (sQ x) λ(x:List Int)=>some x)=λx=>sQ x from funext λx=>dZ _];exact this
theorem NS{e:List (Int×Int)}(h:e.length<=1000000):wF e=some (uH e):=by
 unfold wF;refine uw e (a7V (λacc n=>acc++[n])) (λb i=>(b.1,b.2.1,b.2.2,i)) (λb=>b) (λi b=>b.1.length<=i/\b.2.1.length<=i/\b.2.2.length<=i) (([],[],[]):List Int×List Int×List Int) h A7 (λi a b ha hi hI=>?_) (λb hI=>?_) (λh2=>?_)
 ·obtain⟨b1,b2,b3⟩:=b;simp only at hI;simp only[U2 ha,o7,G7,ha,o8,mQ a.2 (show b1.length<=1000000 by omega),mQ a.2 (show b2.length<=1000000 by omega),mQ a.2 (show b3.length<=1000000 by omega),a7V,b6o];rw[dH l7];by_cases h7:a.1=7
  ·rw[O8 h7,Ii h7 8 D7,Ii h7 36 D7,Ii h7 37 D7,Ii h7 38 D7,Ii h7 39 D7];exact⟨rfl,by simp<;>omega,by simp<;>omega,by simp<;>omega⟩
  rw[J3 h7];by_cases h8:a.1=8
  ·rw[O8 h8,Ii h8 36 D7,Ii h8 37 D7,Ii h8 38 D7,Ii h8 39 D7];exact⟨rfl,by simp<;>omega,by simp<;>omega,by simp<;>omega⟩
  rw[J3 h8];cases x8 a.1 36<;>cases x8 a.1 37<;>cases x8 a.1 38<;>cases x8 a.1 39<;>exact⟨rfl,by simp<;>omega,by simp<;>omega,by simp<;>omega⟩
 ·simp only[U1];rfl
 ·rw[SA]at h2 ⊢;simp only[Zf,H6]at h2 ⊢;rw[GI l7,o8,GI l7,o8,GI l7];rfl
theorem LC{e:List (Int×Int)}(h:e.length<=500000):vJ e=some (uH e):=by
 unfold vJ;refine uw e (a7V (λacc n=>ins n acc)) (λb i=>(b.1,b.2.1,b.2.2,i)) (λb=>b) (λi b=>b.1.length<=i/\b.2.1.length<=i/\b.2.2.length<=i) (([],[],[]):List Int×List Int×List Int) l7 A7 (λi a b ha hi hI=>?_) (λb hI=>?_) (λh2=>?_)
 ·obtain⟨b1,b2,b3⟩:=b;simp only at hI;have l1:=zY a.2 b1;have l2:=zY a.2 b2;have l3:=zY a.2 b3;rw[a0g];simp only[U2 ha,o7,G7,ha,o8,FX a.2 (show b1.length<=1000000 by omega),FX a.2 (show b2.length<=1000000 by omega),FX a.2 (show b3.length<=1000000 by omega),a7V,isM];rw[dH l7];by_cases h7:a.1=7
  ·rw[O8 h7,Ii h7 8 D7,V9 (show a.1<36 by omega)];exact⟨rfl,by simp<;>omega,by simp<;>omega,by simp<;>omega⟩
  rw[J3 h7];cases x8 a.1 8<;>cases L9 36 a.1<;>cases L9 a.1 39<;>exact⟨rfl,by simp<;>omega,by simp<;>omega,by simp<;>omega⟩
 ·simp only[U1];rfl
 ·rw[SA];rfl
theorem b0j(p:Int->Bool)(e:List (Int×Int)):(Qc p e).length<=e.length:=by unfold Qc;rw[X6];exact bz _ _
theorem EX(e:List (Int×Int)):(uH e).2.1.length<=e.length:=kE (TK _) (b0j _ e)
def inD(n d:Int):Bool:=l9 (L9 0 d) (E8 d n) false
def Dz(n:Int)(r:gy):List Int:=(uH r.2.2.2.2.2.1).2.1.filter (inD n)++(uH r.2.2.2.2.2.2.1).2.1.filter (inD n)
theorem Wh(p:Int->Bool):∀(l b:List Int),l.foldl (λacc x=>l9 (p x) (acc++[x]) acc) b=b++l.filter p
 |[],b=>by simp|a::l,b=>by rw[Y1,Wh p l,fE];cases p a<;>simp
theorem Zb{f:List Int×Int->Option ((List Int×Int)⊕List Int)}(l b:List Int)(n:Int)(hl:l.length<=1000)(hb:b.length<=1000)
  (hin:∀(i:Nat) (a:Int) (acc:List Int),l[i]? =some a->i<=1000000->f (acc,(i:Int))=l9 (L9 0 a) (l9 (E8 a n) (o5 (iY acc [a]) λx=>some (.inl (x,D6 .i64 (i:Int) 1))) (some (.inl (acc,D6 .i64 (i:Int) 1)))) (some (.inl (acc,D6 .i64 (i:Int) 1))))
  (hend:∀acc,f (acc,(l.length:Int))=some (.inr acc)):aS f (b,0)=some (b++l.filter (inD n)):=by
 have key:=zZ l (λ(acc:List Int) x=>l9 (inD n x) (acc++[x]) acc) (λb i=>(b,i)) (λb=>b) (λi acc=>acc.length<=1000+i) (f:=f) (b:=b) l7 l7 ?_ ?_
 ·rw[key.1,Wh]
 ·intro i a acc ha hi hI;have:=(Y6.1 ha).1;rw[hin i a acc ha hi,dH l7,mQ _ l7];unfold inD;cases L9 0 a
  ·exact⟨rfl,by show acc.length<=_;omega⟩
  cases E8 a n
  ·exact⟨rfl,by show acc.length<=_;omega⟩
  ·exact⟨rfl,by simp;omega⟩
 ·intro acc hI;rw[hend]
theorem Rj{r:gy}(n:Int)(h1:r.2.2.2.2.2.1.length<=50)(h2:r.2.2.2.2.2.2.1.length<=50):vX r n=some (Dz n r):=by
 have g1:=EX r.2.2.2.2.2.1;have g2:=EX r.2.2.2.2.2.2.1;unfold vX Dz;rw[NS l7,o8,NS l7,o8];refine U9 (Zb (uH r.2.2.2.2.2.1).2.1 [] n l7 A7 (λi a acc ha hi=>?_) (λacc=>?_)) ?_
 rotate_left 2
 ·rw[o8,dZ,H6];have:=bz (inD n) (uH r.2.2.2.2.2.1).2.1;refine Zb (uH r.2.2.2.2.2.2.1).2.1 _ n l7 l7 (λi a acc ha hi=>?_) (λacc=>?_)
  ·simp only[U2 ha,o7,G7,ha,o8];rw[show af (uH r.2.2.2.2.2.2.1).2.1 (X8 (i:Int))=some a from ha,o8]
  ·simp only[U1];rfl
 ·simp only[U2 ha,o7,G7,ha,o8];rw[show af (uH r.2.2.2.2.2.1).2.1 (X8 (i:Int))=some a from ha,o8]
 ·simp only[U1];rfl
def nD(s:D9):Int:=o9 s.2.2.2.1
def dl(n:Int)(rs:List gy)(d:Int):List Int:=rs.flatMap λr=>l9 (x8 r.2.1 d) (Dz n r) []
def P7(s:D9)(d:Int):List Int:=l9 (inD (nD s) d) (KG (dl (nD s) s.2.2.2.2 d)) []
theorem Sz{s:D9}(h:SmS s){r:gy}(hr:r∈s.2.2.2.2)(n:Int):(Dz n r).length<=100:=by obtain⟨_,h1,h2⟩:=h.ro r hr;have a1:=EX r.2.2.2.2.2.1;have a2:=EX r.2.2.2.2.2.2.1;have b1:=bz (inD n) (uH r.2.2.2.2.2.1).2.1;have b2:=bz (inD n) (uH r.2.2.2.2.2.2.1).2.1;unfold Dz;rw[F8];omega
theorem a5M(n:Int)(rs:List gy)(r:gy)(d:Int):dl n (rs++[r]) d=dl n rs d++l9 (x8 r.2.1 d) (Dz n r) []:=by unfold dl;rw[List.flatMap_append];simp
theorem a5L(n:Int)(rs:List gy)(r:gy)(d:Int):dl n (r::rs) d=l9 (x8 r.2.1 d) (Dz n r) []++dl n rs d:=rfl
theorem a3N{s:D9}(h:SmS s)(n d:Int):∀(rs:List gy),(∀r∈rs,r∈s.2.2.2.2)->(dl n rs d).length<=100*rs.length
 |[],_=>by simp[dl]|r::rs,hm=>by
  have ih:=a3N h n d rs λr hr=>hm r (by simp[hr]);have h1:=Sz h (hm r A7) n;rw[a5L,F8,F5];cases x8 r.2.1 d
  ·simp only[o6,aP];omega
  ·simp only[o7];omega
theorem a9W{n:Int}{rs:List gy}{d x:Int} :x∈dl n rs d↔∃r∈rs,r.2.1=d/\x∈Dz n r:=by
 unfold dl;rw[List.mem_flatMap];constructor
 ·rintro⟨r,hr,hx⟩;cases hq:x8 r.2.1 d<;>rw[hq]at hx
  ·simp at hx
  ·exact⟨r,hr,V6.1 hq,hx⟩
 ·rintro⟨r,hr,hq,hx⟩;exact⟨r,hr,by rw[O8 hq];exact hx⟩
theorem b1p{n:Int}{r:gy}{x:Int}(h:x∈Dz n r):0<=x/\x<n:=by
 have key:inD n x=true:=by unfold Dz at h;rcases D8.1 h with h|h<;>exact(aQ.1 h).2
 unfold inD at key;cases h0:L9 0 x<;>rw[h0]at key
 ·cases key
 ·exact⟨lT.1 h0,jl.1 key⟩
theorem Cf(s:D9)(d:Int):SI (P7 s d):=by
 unfold P7;cases inD (nD s) d
 ·exact List.Pairwise.nil
 ·exact a0x _
theorem xY{s:D9}{d x:Int}(h:x∈P7 s d):0<=x/\x<nD s:=by
 unfold P7 at h;cases hq:inD (nD s) d<;>rw[hq]at h
 ·simp at h
 ·obtain⟨r,_,_,hx⟩:=a9W.1 ((Dw _ _).1 h);exact b1p hx
theorem a1J{f:List Int×Int->Option ((List Int×Int)⊕List Int)}(s:D9)(l b:List Int)(hl:l.length<=1000)(hb:b.length<=100000)
  (hin:∀(i:Nat) (a:Int) (acc:List Int),l[i]? =some a->i<=1000000->f (acc,(i:Int))=o5 (Gh s a) λx=>l9 x (o5 (tX acc a) λx=>some (.inl (x,D6 .i64 (i:Int) 1))) (some (.inl (acc,D6 .i64 (i:Int) 1))))
  (hend:∀acc,f (acc,(l.length:Int))=some (.inr acc)):aS f (b,0)=some (Ij (l.filter (inD (nD s))) b):=by
 have key:=zZ l (λ(acc:List Int) x=>l9 (inD (nD s) x) (ins x acc) acc) (λb i=>(b,i)) (λb=>b) (λi acc=>acc.length<=100000+i) (f:=f) (b:=b) l7 l7 ?_ ?_
 ·have hf:∀(l b:List Int),l.foldl (λ(acc:List Int) x=>l9 (inD (nD s) x) (ins x acc) acc) b=Ij (l.filter (inD (nD s))) b:=by
   intro l;induction l with
   |nil=>intro b;rfl|cons a l ih=>intro b;rw[Y1,ih,fE];cases inD (nD s) a<;>rfl
  rw[key.1,hf]
 ·intro i a acc ha hi hI;have hlt:=(Y6.1 ha).1;have h2:=zY a acc;rw[hin i a acc ha hi,b1n,o8,dH l7,FX _ l7];change l9 (inD (nD s) a) _ _=_/\_;cases inD (nD s) a
  ·exact⟨rfl,by show acc.length<=_;omega⟩
  ·exact⟨rfl,by show(ins a acc).length<=_;omega⟩
 ·intro acc hI;rw[hend]
theorem Xn{s:D9}(h:SmS s)(d:Int):BF s d=some (P7 s d):=by
 have hnr:=h.nr;unfold BF P7;rw[b1n,o8];change l9 (F6 (inD (nD s) d)) _ _=_;cases inD (nD s) d
 ·rfl
 simp only[E5,o6,o7];refine uw s.2.2.2.2 (λ(acc:List Int) r=>l9 (x8 r.2.1 d) (Ij (Dz (nD s) r) acc) acc) (λb i=>(b,i)) (λb=>b) (λi acc=>acc.length<=100*i) [] l7 A7 (λi r acc ha hi hI=>?_) (λacc hI=>?_) (λh2=>?_)
 ·have hlt:=(Y6.1 ha).1;obtain⟨_,h1,h2⟩:=h.ro r (rV ha);have a1:=EX r.2.2.2.2.2.1;have a2:=EX r.2.2.2.2.2.2.1;have hlen:=GV (Dz (nD s) r) acc;have hrl:=Sz h (rV ha) (nD s);simp only[U2 ha,o7,G7,ha,o8];rw[dH l7];cases x8 r.2.1 d
  ·exact⟨rfl,by show acc.length<=_;omega⟩
  simp only[E5,o6,o7,LC (show r.2.2.2.2.2.1.length<=500000 by omega),LC (show r.2.2.2.2.2.2.1.length<=500000 by omega),o8];refine⟨?_,by show(Ij (Dz (nD s) r) acc).length<=_;omega⟩;refine U9 (a1J s (uH r.2.2.2.2.2.1).2.1 acc l7 l7 (λi a acc ha hi=>?_) (λacc=>?_)) ?_
  rotate_left 2
  ·rw[o8];have hl2:=GV ((uH r.2.2.2.2.2.1).2.1.filter (inD (nD s))) acc;have hl3:=bz (inD (nD s)) (uH r.2.2.2.2.2.1).2.1;refine U9 (a1J s (uH r.2.2.2.2.2.2.1).2.1 _ l7 l7 (λi a acc ha hi=>?_) (λacc=>?_)) ?_
   rotate_left 2
   ·rw[o8];unfold Dz;rw[TJ]
   ·simp only[U2 ha,o7,G7,ha,o8];rw[show af (uH r.2.2.2.2.2.2.1).2.1 (X8 (i:Int))=some a from ha];rfl
   ·simp only[U1];rfl
  ·simp only[U2 ha,o7,G7,ha,o8];rw[show af (uH r.2.2.2.2.2.1).2.1 (X8 (i:Int))=some a from ha];rfl
  ·simp only[U1];rfl
 ·simp only[U1];rfl
 ·have hf:∀(l:List gy) (b:List Int),l.foldl (λ(acc:List Int) r=>l9 (x8 r.2.1 d) (Ij (Dz (nD s) r) acc) acc) b=Ij (dl (nD s) l d) b:=by
   intro l;induction l with
   |nil=>intro b;rfl|cons a l ih=>intro b;rw[Y1,ih,a5L,TJ];cases x8 a.2.1 d<;>rfl
  rw[hf];rfl
theorem UO{α:Type}(m k:Nat)(f:Nat->α)(v:α):((List.range m).map f).set k v=(List.range m).map λd=>if d=k then v else f d:=by
 apply dV;intro i;rw[X3,fZ,fZ,X6,gm];by_cases hi:i<m
 ·rw[uu hi];by_cases h:k=i
  ·subst h;simp[hi]
  ·simp[h,Ne.symm h]
 ·have:(List.range m)[i]? =none:=by simp;omega
  rw[this];by_cases h:k=i
  ·subst h;simp[hi]
  ·simp[h]
def Vr(m:Nat)(rs:List gy):List (List Int):=(List.range m).map λ(d:Nat)=>dl (m:Int) rs (d:Int)
theorem a0D{l:List Int}(hl:l.length<=1000000):Fq l=some (KG l):=GI hl
theorem Ez{α:Type}(m:Nat)(f:Nat->α){k:Nat}(h:k<m):((List.range m).map f)[k]? =some (f k):=by rw[fZ,uu h];rfl
theorem OT{s:D9}(h:SmS s):xq s=some ((List.range s.2.2.2.1.length).map λ(d:Nat)=>P7 s (d:Int)):=by
 have hnr:=h.nr;have hnd:=h.nd;unfold xq;generalize hm:s.2.2.2.1.length=m at*;have hn:nD s=(m:Int):=by unfold nD o9;rw[hm]
 rw[show o9 s.2.2.2.1=(m:Int)from hn,show vk (m:Int) ([]:List Int)=some (Vr m []) by unfold vk Vr dl;rw[if_pos l7];simp[List.map_const'],o8];refine uw s.2.2.2.2 (λ(b:List (List Int)) r=>l9 (inD m r.2.1) (b.set r.2.1.toNat ((b.getD r.2.1.toNat [])++Dz m r)) b) (λb i=>(b,i)) (λb=>b) (λi b=>b=Vr m (s.2.2.2.2.take i)) (Vr m []) l7 A7 (λi r b ha hi hI=>?_) (λb hI=>?_) (λh2=>?_)
 ·have hlt:=(Y6.1 ha).1;obtain⟨_,h1,h2⟩:=h.ro r (rV ha);have hst:s.2.2.2.2.take (i+1)=s.2.2.2.2.take i++[r]:=by
   rw[P9 hlt,(Y6.1 ha).2]
  have hlb:o9 b=(m:Int):=by rw[hI];simp[o9,Vr]
  obtain⟨rd,hrd⟩:∃rd:Int,r.2.1=rd:=⟨r.2.1,rfl⟩;simp only[U2 ha,o7,G7,ha,o8,hlb,hrd];rw[dH l7,hst];by_cases hd:0<=rd/\rd<(m:Int)
  ·obtain⟨d0,d1⟩:=hd;have hk:rd.toNat<m:=l7;have hkk:((rd.toNat:Nat):Int)=rd:=l7;have hg:b[rd.toNat]? =some (dl m (s.2.2.2.2.take i) rd):=by rw[hI];unfold Vr;rw[Ez m _ hk,hkk]
   have hll:=a3N h m rd (s.2.2.2.2.take i) λr hr=>jV hr;have hrl:=Sz h (rV ha) m;have htl:(s.2.2.2.2.take i).length<=60:=by simp;omega
   rw[V5 d0,O0 d1,show inb rd (m:Int)=true by unfold inb;simp;omega,show af b (X8 rd)=some (dl m (s.2.2.2.2.take i) rd)from hg,Rj _ h1 h2];simp only[o7,o8];rw[GU l7,show Ov (X8 rd) (X8 rd)=true by simp[Ov]];simp only[o7,o8];have hin:inD m rd=true:=by unfold inD;rw[V5 d0,O0 d1];rfl
   rw[hin,show b.getD rd.toNat []=dl m (s.2.2.2.2.take i) rd by rw[AO,hg];rfl];refine⟨rfl,?_⟩;show b.set rd.toNat _=_;rw[hI];unfold Vr;rw[UO];apply cu;intro d hdm;rw[a5M,hrd];by_cases hq:d=rd.toNat
   ·subst hq;rw[if_pos rfl,hkk,O8 rfl];rfl
   ·rw[if_neg hq,J3 l7];simp
  ·have hin:inD m rd=false:=by
    unfold inD;by_cases d0:0<=rd
    ·rw[V5 d0,J6 l7];rfl
    ·rw[V9 l7];rfl
   rw[hin];refine⟨?_,?_⟩
   ·unfold inD at hin;cases q0:L9 0 rd
    ·rfl
    ·rw[q0]at hin;simp only[o7]at hin ⊢;rw[hin];rfl
   ·show b=_;rw[hI];unfold Vr;apply cu;intro d hdm;have:=ay.1 hdm;rw[a5M,hrd,J3 l7];simp
 ·simp only[U1];rfl
 ·rw[aB]at h2;rw[h2];generalize hA:Vr m s.2.2.2.2=A;have hAl:o9 A=(m:Int):=by rw[←hA];simp[o9,Vr]
  refine uw (List.range m) (λ(b:List (List Int)) d=>b.set d (KG (b.getD d []))) (λb i=>(b,i)) (λb=>b) (λi b=>b=(List.range m).map λ(d:Nat)=>if d<i then KG (dl m s.2.2.2.2 (d:Int))else dl m s.2.2.2.2 (d:Int)) A U6 (by rw[←hA];unfold Vr;simp) (λi d b ha hi hI=>?_) (λb hI=>?_) (λh3=>?_)
  ·have hlt:=(Y6.1 ha).1;simp only[gm]at hlt;have hdi:d=i:=by rw[uu hlt]at ha;exact(I4 ha).symm
   subst hdi;have hlb:o9 b=(m:Int):=by rw[hI];simp[o9]
   have hg:b[d]? =some (dl m s.2.2.2.2 (d:Int)):=by rw[hI,Ez m _ hlt,if_neg l7]
   have hll:=a3N h m d s.2.2.2.2 λr hr=>hr;simp only[hAl,hlb];rw[O0 (show(d:Int)<(m:Int) by omega),show inb (d:Int) (m:Int)=true by unfold inb;simp;omega,show af b (X8 (d:Int))=some (dl m s.2.2.2.2 (d:Int))from hg];simp only[o7,o8];rw[a0D l7,show Ov (X8 (d:Int)) (X8 (d:Int))=true by simp[Ov],dH l7];simp only[o7,o8];rw[show b.getD d []=dl m s.2.2.2.2 (d:Int) by rw[AO,hg];rfl];refine⟨rfl,?_⟩;rw[hI,UO];apply cu;intro e he;by_cases hq:e=d
   ·subst hq;rw[if_pos rfl,if_pos l7]
   ·rw[if_neg hq];by_cases hq2:e<d
    ·rw[if_pos hq2,if_pos l7]
    ·rw[if_neg hq2,if_neg l7]
  ·simp only[gm,hAl,J6 (show(m:Int)<=(m:Int) by omega)];rfl
  ·rw[h3];apply congrArg some;apply cu;intro d hd;have:=ay.1 hd;simp only[gm];rw[if_pos this];unfold P7;rw[hn,show inD (m:Int) (d:Int)=true by unfold inD;rw[V5 l7,O0 l7];rfl];rfl
def Rch(D:Int->List Int)(d:Int)(L:List Int):Prop:=SI L/\(∀x∈D d,x∈L)/\(∀x∈L,∀y∈D x,y∈L)/\∀C:Int->Prop,(∀x∈D d,C x)->(∀x,C x->∀y∈D x,C y)->∀x∈L,C x
theorem Rch.unique{D:Int->List Int}{d:Int}{L M:List Int}(h:Rch D d L)(k:Rch D d M):L=M:=
 a4S h.1 k.1 λx=>⟨λhx=>h.2.2.2 (λy=>y∈M) k.2.1 k.2.2.1 x hx,λhx=>k.2.2.2 (λy=>y∈L) h.2.1 h.2.2.1 x hx⟩
theorem QI:∀{B A:List Int},SI A->SI B->(∀x∈A,x∈B)->A=B\/A.length<B.length
 |[],A,_,_,h=>by
  cases A with
  |nil=>exact .inl rfl|cons a A=>exact absurd (h a A7) A7
 |b::B,[],_,_,_=> .inr A7|b::B,a::A,hA,hB,h=>by
  have hA' :=W9.1 hA;have hB' :=W9.1 hB;rcases A8.1 (h a A7)with hab|hab
  ·subst hab;rcases QI (B:=B) (A:=A) hA'.2 hB'.2 (λx hx=>by
    rcases A8.1 (h x (by simp[hx]))with h1|h1
    ·have:=hA'.1 x hx;omega
    ·exact h1)with h1|h1
   ·exact .inl (by rw[h1])
   ·exact .inr (by simp only[F5];omega)
  ·have hab2:=hB'.1 a hab;rcases QI (B:=B) (A:=a::A) hA hB'.2 (λx hx=>by
    rcases A8.1 (h x hx)with h1|h1
    ·rcases A8.1 hx with h2|h2
     ·omega
     ·have:=hA'.1 x h2;omega
    ·exact h1)with h1|h1
   ·exact .inr (by rw[h1];simp)
   ·exact .inr (by simp only[F5]at*;omega)
def IX(D:Int->List Int)(L:List Int):List Int:=L.foldl (λacc x=>Ij (D x) acc) L
theorem IY(D:Int->List Int)(x:Int):∀(l acc:List Int),x∈l.foldl (λacc x=>Ij (D x) acc) acc↔x∈acc\/∃y∈l,x∈D y
 |[],acc=>by simp|a::l,acc=>by
  rw[Y1,IY D x l,PW];constructor
  ·rintro((h|h)|⟨y,hy,h⟩)
   ·exact .inr ⟨a,A7,h⟩
   ·exact .inl h
   ·exact .inr ⟨y,by simp[hy],h⟩
  ·rintro(h|⟨y,hy,h⟩)
   ·exact .inl (.inr h)
   ·rcases A8.1 hy with rfl|hy
    ·exact .inl (.inl h)
    ·exact .inr ⟨y,hy,h⟩
theorem a6m(D:Int->List Int):∀(l:List Int) {acc:List Int},SI acc->SI (l.foldl (λacc x=>Ij (D x) acc) acc)
 |[],_,h=>h|a::l,_,h=>by rw[Y1];exact a6m D l (Vb _ h)
theorem WZ(D:Int->List Int){L:List Int}(h:SI L):SI (IX D L):=a6m D L h
def itS(D:Int->List Int)(d:Int):Nat->List Int
 |0=>D d|k+1=>IX D (itS D d k)
section
variable {D:Int->List Int} {n:Nat} (hsi:∀x,SI (D x)) (hin:∀x,∀y∈D x,0<=y/\y<(n:Int))
include hsi hin
theorem Zo(d:Int):∀k,SI (itS D d k)
 |0=>hsi d|k+1=>WZ D (Zo d k)
theorem a5V(d:Int):∀k,∀x∈itS D d k,0<=x/\x<(n:Int)
 |0,x,hx=>hin d x hx|k+1,x,hx=>by
  rcases(IY D x _ _).1 hx with h|⟨y,_,h⟩
  ·exact a5V d k x h
  ·exact hin y x h
theorem a5U(d:Int)(k:Nat):IX D (itS D d k)=itS D d k\/(itS D d k).length<(IX D (itS D d k)).length:=by
 rcases QI (Zo hsi hin d k) (WZ D (Zo hsi hin d k)) (λx hx=>(IY D x _ _).2 (.inl hx))with h|h
 ·exact .inl h.symm
 ·exact .inr h
theorem Zp(d:Int):∀k,IX D (itS D d k)=itS D d k\/k<(IX D (itS D d k)).length
 |0=>by
  rcases a5U hsi hin d 0 with h|h
  ·exact .inl h
  ·exact .inr l7
 |k+1=>by
  rcases Zp d k with h|h
  ·exact .inl (by show IX D (IX D (itS D d k))=IX D (itS D d k);rw[h,h])
  ·rcases a5U hsi hin d (k+1)with h2|h2
   ·exact .inl h2
   ·exact .inr (by have:(itS D d (k+1)).length=(IX D (itS D d k)).length:=rfl;omega)
theorem b6p(d:Int):Rch D d (itS D d n):=by
 have hst:IX D (itS D d n)=itS D d n:=by
  rcases Zp hsi hin d n with h|h
  ·exact h
  ·have:=XJ n (WZ D (Zo hsi hin d n)) (a5V hsi hin d (n+1));omega
 refine⟨Zo hsi hin d n,?_,?_,?_⟩
 ·intro x hx;have:∀k,x∈itS D d k:=by
   intro k;induction k with
   |zero=>exact hx|succ k ih=>exact(IY D x _ _).2 (.inl ih)
  exact this n
 ·intro x hx y hy;rw[←hst];exact(IY D y _ _).2 (.inr ⟨x,hx,hy⟩)
 ·intro C h1 h2;have:∀k,∀x∈itS D d k,C x:=by
   intro k;induction k with
   |zero=>exact h1|succ k ih=>
    intro x hx;rcases(IY D x _ _).1 hx with h|⟨y,hy,h⟩
    ·exact ih x h
    ·exact h2 y (ih y hy) x h
  exact this n
end
def pq(s:D9)(d:Int):List Int:=itS (P7 s) d s.2.2.2.1.length
theorem Fb(s:D9)(d:Int):Rch (P7 s) d (pq s d):=
 b6p (n:=s.2.2.2.1.length) (Cf s) (λx y hy=>xY hy) d
theorem a3e{s:D9}{d x:Int}(h:x∈pq s d):0<=x/\x<nD s:=a5V (n:=s.2.2.2.1.length) (Cf s) (λx y hy=>xY hy) d _ x h
theorem Oc{s:D9}(h:SmS s)(d:Int):(P7 s d).length<=14:=
 kE (XJ s.2.2.2.1.length (Cf s d) (λx hx=>xY hx)) h.nd
theorem FH{s:D9}(h:SmS s){l:List Int}(hs:SI l)(hi:∀x∈l,0<=x/\x<nD s):l.length<=14:=kE (XJ s.2.2.2.1.length hs hi) h.nd
theorem Xu{s:D9}(h:SmS s)(d:Int):yB s d=some (pq s d):=by
 have hnd:=h.nd;unfold yB;rw[Xn h,o8];have hsi:=Cf s;have hin:∀x,∀y∈P7 s x,0<=y/\y<((s.2.2.2.1.length:Nat):Int):=λx y hy=>xY hy;refine uw s.2.2.2.1 (λ(b:List Int) (_:jq)=>IX (P7 s) b) (λb i=>(b,i)) (λb=>b) (λi b=>b=itS (P7 s) d i) (P7 s d) l7 rfl (λi f b ha hi hI=>?_) (λb hI=>?_) (λh2=>?_)
 ·simp only[U2 ha,o7];refine⟨?_,by show IX _ b=_;rw[hI];rfl⟩;have hb1:SI b:=by rw[hI];exact Zo hsi hin d i
  have hb2:∀x∈b,0<=x/\x<nD s:=by rw[hI];exact a5V hsi hin d i
  have hbl:=FH h hb1 hb2;rw[dH l7];refine uw b (λ(acc:List Int) x=>Ij (P7 s x) acc) (λb i=>(b,i)) (λb=>b) (λi acc=>SI acc/\∀x∈acc,0<=x/\x<nD s) b l7 ⟨hb1,hb2⟩ (λj x acc hx hj hJ=>?_) (λacc hJ=>?_) (λh3=>?_)
  ·have hal:=FH h hJ.1 hJ.2;have hdl:=Oc h x;simp only[U2 hx,o7,G7,hx,o8,Xn h x];rw[dH l7];refine⟨?_,Vb _ hJ.1,λy hy=>?_⟩
   ·refine uw (P7 s x) (λ(acc:List Int) y=>ins y acc) (λb i=>(b,i)) (λb=>b) (λi a=>a.length<=acc.length+i) acc l7 l7 (λk y a hy hk hK=>?_) (λa hK=>?_) (λh4=>?_)
    ·have hlt:=(Y6.1 hy).1;have hli:=zY y a;simp only[U2 hy,o7,G7,hy,o8];rw[show af (P7 s x) (X8 (k:Int))=some y from hy,o8,FX _ l7,o8,dH l7];exact⟨rfl,by show(ins y a).length<=_;omega⟩
    ·simp only[U1];rfl
    ·rfl
   ·rcases(PW y _ _).1 hy with h4|h4
    ·exact xY h4
    ·exact hJ.2 y h4
  ·simp only[U1];rfl
  ·rfl
 ·simp only[U1];rfl
 ·rw[h2];rfl
def mk(S:List Bool)(x:Int):Bool:=if 0<=x then S.getD x.toNat false else false
def unm(S:List Bool):Nat:=S.count false
def rG(b:List Bool×List Int)(e:Int):List Bool×List Int:=l9 (mk b.1 e) b (b.1.set e.toNat true,b.2++[e])
theorem a9X{S:List Bool}{x:Int}(h0:0<=x)(h1:x<o9 S):S[x.toNat]? =some (mk S x):=by
 unfold mk;rw[if_pos h0,AO];have:x.toNat<S.length:=by simp only[o9]at h1;omega
 rw[dX this];rfl
theorem a9Y{S:List Bool}{e:Int}(h0:0<=e)(h1:e<o9 S)(x:Int):mk (S.set e.toNat true) x=l9 (x8 x e) true (mk S x):=by
 unfold mk;have hl:e.toNat<S.length:=by simp only[o9]at h1;omega
 by_cases hx:0<=x
 ·rw[if_pos hx,if_pos hx,AO,AO,X3];by_cases hq:x=e
  ·subst hq;rw[if_pos rfl,if_pos hl,O8 rfl];rfl
  ·rw[if_neg l7,J3 hq];rfl
 ·rw[if_neg hx,if_neg hx,J3 l7];rfl
theorem b4S{S:List Bool}{e:Int}(h0:0<=e)(h1:e<o9 S)(hm:mk S e=false):unm (S.set e.toNat true)+1=unm S:=by
 have hl:e.toNat<S.length:=by simp only[o9]at h1;omega
 have hg:=a9X h0 h1;rw[hm,dX hl]at hg;have hg' :S[e.toNat]=false:=I4 hg;unfold unm;rw[List.count_set hl,hg'];have:0<S.count false:=List.count_pos_iff.2 (by rw[←hg'];exact H7 hl);simp;omega
structure RInv (n:Nat) (S:List Bool) (Q:List Int) (l:List Int) (S' :List Bool) (Q' :List Int):Prop where
 len:S'.length=n
 seen:∀x:Int,0<=x->x<(n:Int)->(mk S' x=true↔mk S x=true\/x∈l)
 sum:Q'.length+unm S' =Q.length+unm S
 le:unm S' <=unm S
 old:∀x∈Q,x∈Q'
 new:∀x∈Q',x∈Q\/x∈l
 got:∀x,mk S' x=true->mk S x=true\/x∈Q'
theorem b1w{n:Nat} :∀(l:List Int) (S:List Bool) (Q:List Int),S.length=n->(∀x∈l,0<=x/\x<(n:Int))->RInv n S Q l (l.foldl rG (S,Q)).1 (l.foldl rG (S,Q)).2
 |[],S,Q,hl,_=>⟨hl,λx _ _=>by simp,rfl,F9 _,λx hx=>hx,λx hx=> .inl hx,λx hx=> .inl hx⟩|e::l,S,Q,hl,hi=>by
  have he:=hi e A7;have hel:e<o9 S:=by simp only[o9];omega
  rw[Y1];cases hm:mk S e with
  |true=>
   rw[show rG (S,Q) e=(S,Q) by unfold rG;rw[hm];rfl];have ih:=b1w l S Q hl λx hx=>hi x (by simp[hx]);refine⟨ih.len,λx h0 h1=>?_,ih.sum,ih.le,ih.old,λx hx=>?_,ih.got⟩
   ·rw[ih.seen x h0 h1,A8];constructor
    ·rintro(h|h)
     ·exact .inl h
     ·exact .inr (.inr h)
    ·rintro(h|h|h)
     ·exact .inl h
     ·subst h;exact .inl hm
     ·exact .inr h
   ·rcases ih.new x hx with h|h
    ·exact .inl h
    ·exact .inr (by simp[h])
  |false=>
   rw[show rG (S,Q) e=(S.set e.toNat true,Q++[e]) by unfold rG;rw[hm];rfl];have ih:=b1w l (S.set e.toNat true) (Q++[e]) (by simp[hl]) λx hx=>hi x (by simp[hx]);have hu:=b4S he.1 hel hm;refine⟨ih.len,λx h0 h1=>?_,?_,?_,λx hx=>ih.old x (by simp[hx]),λx hx=>?_,λx hx=>?_⟩
   ·rw[ih.seen x h0 h1,a9Y he.1 hel,A8];cases hq:x8 x e
    ·rw[DV]at hq;simp[hq]
    ·rw[V6]at hq;simp[hq]
   ·have:=ih.sum;simp only[F8,F5,aP]at this;omega
   ·have:=ih.le;omega
   ·rcases ih.new x hx with h|h
    ·rcases D8.1 h with h|h
     ·exact .inl h
     ·exact .inr (by simp at h;simp[h])
    ·exact .inr (by simp[h])
   ·rcases ih.got x hx with h|h
    ·rw[a9Y he.1 hel]at h;cases hq:x8 x e
     ·rw[hq]at h;exact .inl h
     ·rw[V6]at hq;subst hq;exact .inr (ih.old _ A7)
    ·exact .inr h
def TP(S:List Bool):List Int:=((List.range S.length).filter λi=>S.getD i false).map λ(i:Nat)=>(i:Int)
theorem MZ{S:List Bool}(x:Int):x∈TP S↔mk S x=true:=by
 unfold TP mk;rw[ah];constructor
 ·rintro⟨i,hi,rfl⟩;rw[if_pos l7];exact(aQ.1 hi).2
 ·intro h;split at h
  ·refine⟨x.toNat,aQ.2 ⟨ay.2 ?_,h⟩,l7⟩;rw[AO]at h;cases hg:S[x.toNat]? with
   |none=>rw[hg]at h;cases h|some b=>exact(Y6.1 hg).1
  ·cases h
theorem a9S(S:List Bool):SI (TP S):=by unfold TP;refine List.Pairwise.map _ (R:=(·< ·)) (λa b h=>by omega) (List.Pairwise.filter _ qo)
theorem a4h{f:List Int×Int->Option ((List Int×Int)⊕List Int)}(S:List Bool)(hS:S.length<=100)
  (hin:∀(i:Nat) (a:Bool) (acc:List Int),S[i]? =some a->i<=1000000->acc.length<=i->f (acc,(i:Int))=l9 a (o5 (iY acc [(i:Int)]) λx=>some (.inl (x,D6 .i64 (i:Int) 1))) (some (.inl (acc,D6 .i64 (i:Int) 1))))
  (hend:∀acc,f (acc,(S.length:Int))=some (.inr acc)):aS f ([],0)=some (TP S):=by
 have mk2:∀i,i<=S.length->((List.range i).filter λi=>S.getD i false).length<=i:=λi _=>by have:=bz (λi=>S.getD i false) (List.range i);simpa using this
 obtain⟨e,h1,h2⟩:=fP (f:=f) (s:=([],0)) (λx=>∃i:Nat,x=(((List.range i).filter λi=>S.getD i false).map λ(i:Nat)=>(i:Int),(i:Int))/\i<=S.length) (λe=>e=TP S) (λx=>S.length -x.2.toNat) ⟨0,rfl,l7⟩ U6 (by
  rintro x ⟨i,rfl,hi⟩;by_cases h:i<S.length
  ·have e:=dX h;have hst:(List.range (i+1)).filter (λi=>S.getD i false)=(List.range i).filter (λi=>S.getD i false)++l9 S[i] [i] []:=by
    rw[dD,uY];congr 1;rw[fE,AO,e];cases S[i]<;>rfl
   have hl:=mk2 i hi;refine .inl ⟨(((List.range (i+1)).filter λi=>S.getD i false).map λ(i:Nat)=>(i:Int),((i+1:Nat):Int)),?_,⟨i+1,rfl,h⟩,by simp;omega⟩;rw[hin i _ _ e l7 (by simpa using hl),dH l7,hst,iD,mQ _ (by rw[X6];omega)];cases S[i]
   ·simp
   ·rfl
  ·have:i=S.length:=l7;subst this;exact .inr ⟨_,hend _,rfl⟩)
 rw[h1,h2]
theorem a4D{D:Int->List Int}{n:Nat}(hn:n<=14)(hsi:∀x,SI (D x))(hin:∀x,∀y∈D x,0<=y/\y<(n:Int)){d:Int}(h0:0<=d)(h1:d<(n:Int)):
  ∃L,Em ((List.range n).map λ(x:Nat)=>D (x:Int)) d=some L/\Rch D d L:=by
 have hA:o9 ((List.range n).map λ(x:Nat)=>D (x:Int))=(n:Int):=by simp[o9]
 have hget:∀x:Int,0<=x->x<n->G9 ((List.range n).map λ(x:Nat)=>D (x:Int)) x=some (D x):=λx a b=>by
  have:x.toNat<n:=l7;unfold G9
  rw[if_pos a,Ez n _ this,X0 a]
 unfold Em;generalize (List.range n).map (λ(x:Nat)=>D (x:Int))=A at*;rw[hA,show vk (n:Int) false=some (List.replicate n false) by unfold vk;rw[if_pos l7];simp,o8];have hD14:∀x,(D x).length<=14:=λx=>kE (XJ n (hsi x) (hin x)) hn;have key:=fP (f:=λ(x:List Bool×List Int)=>l9 (E8 0 (o9 x.2)) (o5 (G9 x.2 0) λ(x_1:Int)=>o5 (af x.2 (X8 0)) λ(x_2:Int)=>l9 (rC 1 (o9 x.2) (o9 x.2)) (o5 (G9 A x_2) λ(x_3:List Int)=>
   o5 (aS (λ(x:List Bool×List Int×Int)=>l9 (E8 x.2.2 (o9 x_3)) (o5 (G9 x_3 x.2.2) λ(x_4:Int)=>o5 (G9 x.1 x_4) λ(x_5:Bool)=>o5 (af x.1 (X8 x_4)) λ(x_6:Bool)=>
     l9 (F6 x_6) (o5 (G9 x.1 x_4) λ(x_7:Bool)=>o5 (af x.1 (X8 x_4)) λ(x_8:Bool)=>o5 (iY x.2.1 [x_4]) λ(x_9:List Int)=>some (.inl (cO x.1 (X8 x_4) true,x_9,D6 .i64 x.2.2 1)))
      (some (.inl (x.1,x.2.1,D6 .i64 x.2.2 1)))) (some (.inr (x.1,x.2.1)))) (x.1,oP x.2 (X8 1) (X8 (o9 x.2)),0)) λ(y:List Bool×List Int)=>some (.inl y)) none) (some (.inr x.1)))
  (s:=(List.replicate n false,[d]))
  (λx=>x.1.length=n/\(∀q∈x.2,0<=q/\q<(n:Int))/\x.2.length+unm x.1<=n+1/\(∀q∈x.2,q=d\/mk x.1 q=true)/\(∀v,v=d\/mk x.1 v=true->v∈x.2\/∀y∈D v,mk x.1 y=true)/\
   (∀C:Int->Prop,(∀x∈D d,C x)->(∀x,C x->∀y∈D x,C y)->∀v,mk x.1 v=true->C v)/\(∀v,mk x.1 v=true->0<=v/\v<(n:Int)))
  (λS=>S.length=n/\Rch D d (TP S)) (λx=>2*unm x.1+x.2.length) ?_ ?_ ?_
 ·obtain⟨S,k1,k2,k3⟩:=key;refine⟨TP S,?_,k3⟩;refine(qf k1 _).trans ?_;rw[dZ];refine a4h S l7 (λi a acc ha hi hacc=>?_) (λacc=>?_)
  ·simp only[U2 ha,o7,G7,ha,o8];rw[show af S (X8 (i:Int))=some a from ha,o8]
  ·simp only[U1];rfl
 ·have hnone:∀v,mk (List.replicate n false) v=false:=λv=>by
   unfold mk;split
   ·rw[AO,iW];split<;>rfl
   ·rfl
  refine⟨A7,λq hq=>by simp at hq;omega,?_,λq hq=> .inl (by simpa using hq),λv hv=>?_,λC _ _ v hv=>(by rw[hnone]at hv;cases hv),λv hv=>(by rw[hnone]at hv;cases hv)⟩
  ·simp[unm,List.count_replicate];omega
  ·rcases hv with rfl|hv
   ·exact .inl A7
   ·rw[hnone]at hv;cases hv
 ·simp[unm,List.count_replicate];omega
 ·rintro⟨S,Q⟩ ⟨i1,i2,i3,i4,i5,i6,i7⟩;simp only at i1 i2 i3 i4 i5 i6 i7;cases Q with
  |nil=>
   right;refine⟨S,rfl,i1,a9S S,λx hx=>?_,λx hx y hy=>?_,λC c1 c2 x hx=>i6 C c1 c2 x ((MZ x).1 hx)⟩
   ·rcases i5 d (.inl rfl)with h|h
    ·cases h
    ·exact(MZ x).2 (h x hx)
   ·rcases i5 x (.inr ((MZ x).1 hx))with h|h
    ·cases h
    ·exact(MZ y).2 (h y hy)
  |cons q Q=>
   left;have hq:=i2 q A7;have hfold:=b1w (n:=n) (D q) S Q i1 (λx hx=>hin q x hx);refine⟨(D q).foldl rG (S,Q),?_,?_,?_⟩
   ·simp only[O0 (show(0:Int)<o9 (q::Q) by simp[o9]<;>omega),o7,show G9 (q::Q) 0=some q from rfl,show af (q::Q) (X8 0)=some q from rfl,o8,hget q hq.1 hq.2,
     show rC 1 (o9 (q::Q)) (o9 (q::Q))=true by simp[rC,o9]<;>omega,show oP (q::Q) (X8 1) (X8 (o9 (q::Q)))=Q by simp[oP,X8,o9]]
    refine uw (D q) rG (λb i=>(b.1,b.2,i)) (λb=>b) (λi b=>b.1.length=n/\b.2.length<=100+i) (S,Q) (by have:=hD14 q;omega) ⟨i1,by simp at i3;show Q.length<=100+0;omega⟩ (λi e b he hi hI=>?_) (λb hI=>?_) (λh2=>rfl)
    ·obtain⟨S1,Q1⟩:=b;simp only at hI;have hee:=hin q e (rV he);have hlt:=(Y6.1 he).1;have hdl:=hD14 q;have hg:=a9X (S:=S1) hee.1 (by simp only[o9];omega);have hla:G9 S1 e=some (mk S1 e):=by unfold G9;rw[if_pos hee.1];exact hg
     have hlg:af S1 (X8 e)=some (mk S1 e):=hg;simp only[U2 he,o7,G7 (D q),he,o8,hla,hlg];rw[dH l7,mQ _ l7];unfold rG;simp only;cases mk S1 e
     ·exact⟨rfl,by simp[hI.1],by simp<;>omega⟩
     ·exact⟨rfl,hI.1,by show Q1.length<=_;omega⟩
    ·simp only[U1];rfl
   ·obtain⟨j1,j2,j3,j4,j5,j6,j7⟩:=hfold;generalize (D q).foldl rG (S,Q)=b at*;obtain⟨S',Q'⟩:=b;simp only at j1 j2 j3 j4 j5 j6 j7 ⊢;have hrange:∀v,mk S' v=true->0<=v/\v<(n:Int):=λv hv=>by
     rcases j7 v hv with h|h
     ·exact i7 v h
     ·rcases j6 v h with h|h
      ·exact i2 v (by simp[h])
      ·exact hin q v h
    refine⟨j1,λx hx=>?_,?_,λx hx=>?_,λv hv=>?_,λC c1 c2 v hv=>?_,hrange⟩
    ·rcases j6 x hx with h|h
     ·exact i2 x (by simp[h])
     ·exact hin q x h
    ·simp only[F5]at i3;omega
    ·rcases j6 x hx with h|h
     ·rcases i4 x (by simp[h])with h2|h2
      ·exact .inl h2
      ·have hr:=i7 x h2;exact .inr ((j2 x hr.1 hr.2).2 (.inl h2))
     ·have hr:=hin q x h;exact .inr ((j2 x hr.1 hr.2).2 (.inr h))
    ·have up:∀y,mk S y=true->mk S' y=true:=λy hy=>by
      have hr:=i7 y hy;exact(j2 y hr.1 hr.2).2 (.inl hy)
     by_cases hvq:v=q
     ·subst hvq;right;intro y hy;have hr:=hin v y hy;exact(j2 y hr.1 hr.2).2 (.inr hy)
     ·by_cases hold:v=d\/mk S v=true
      ·rcases i5 v hold with h|h
       ·rcases A8.1 h with h|h
        ·exact absurd h hvq
        ·exact .inl (j5 v h)
       ·exact .inr λy hy=>up y (h y hy)
      ·rcases hv with h|h
       ·exact absurd (.inl h) hold
       ·rcases j7 v h with h2|h2
        ·exact absurd (.inr h2) hold
        ·exact .inl h2
    ·by_cases hS:mk S v=true
     ·exact i6 C c1 c2 v hS
     ·have hr:=hrange v hv;rcases(j2 v hr.1 hr.2).1 hv with h|h
      ·exact absurd h hS
      ·rcases i4 q A7 with h2|h2
       ·subst h2;exact c1 v h
       ·exact c2 q (i6 C c1 c2 q h2) v h
   ·have:=hfold.sum;have:=hfold.le;simp only[F5];omega
theorem YB{s:D9}(h:SmS s){d:Int}(h0:0<=d)(h1:d<nD s):zo s d=some (pq s d):=by have hn:nD s=((s.2.2.2.1.length:Nat):Int):=rfl;unfold zo;change l9 (E8 d 0) _ (l9 (L9 (nD s) d) _ _)=_;rw[J6 h0,o6,V9 h1,o6,OT h,o8,dZ];obtain⟨L,k1,k2⟩:=a4D (D:=P7 s) h.nd (Cf s) (λx y hy=>xY hy) h0 (show d<((s.2.2.2.1.length:Nat):Int) by omega);rw[k1,Rch.unique k2 (Fb s d)]
structure SmL (l:V8):Prop where
 few:Few l
 en:a5u l
 tb:a0S l
 sc:∀s∈l.2.2,SmS s
theorem SmL.scopes{l:V8}(h:SmL l):OM l:=λs hs=>by have hm:=h.sc s hs;exact⟨hm.nm,by have:=hm.ni;omega,by have:=hm.nd;omega,by have:=hm.nr;omega⟩
theorem yh{ε ρ:Type}{p:Nat->Option ρ}(n:Nat)(hn:n<=1000000)(e:ε){f:Int->Option (Out Int ε ρ)}
  (h1:∀i,i<n->f (i:Int)=some (match p i with|some r=> .rt r|none=> .nx (D6 .i64 (i:Int) 1))) (h2:f (n:Int)=some (.ex e)):
  X7 f 0=some (match Z8 n p with|some r=> .inr r|none=> .inl e):=
 GZ n l7 e (λi hi=>by rw[h1 i hi,dH l7]<;>cases p i<;>rfl) h2
def Ja(l:V8)(s:D9)(k:Nat):Option (Int×Int):=match s.2.2.2.2[k]? with|some r=>Pv (Gl s (BL l s) k r) (300+k:Nat)|none=>none
def UA(s:D9)(d:Nat):Option (Int×Int):=l9 ((pq s d).any λx=>x8 (d:Int) x) (some (9,((200+d:Nat):Int))) none
def DY(l:V8)(i:Nat)(m:Int):Bool:=l9 (x8 m (-1)) false (l9 (E8 m 0) true (l9 (L9 (i:Int) m) true (match G9 l.2.2 m with|some q=>F6 (x8 q.2.1 (-1))|none=>true)))
def Lt(l:V8)(s:D9):Int×Int:=match yg l s with
 |some r=>r
 |none=>match Z8 s.2.2.2.2.length (Ja l s)with
  |some r=>r
  |none=>match Z8 s.2.2.2.1.length (UA s)with
   |some r=>r|none=>(0,0)
def Eb(l:V8)(i:Nat)(s:D9):Int×Int:=
 l9 (wP s.1) (l9 (BQ l 3 i s.1) (7,0) (l9 (DY l i s.2.1) (6,0) (l9 (E8 12 (o9 s.2.2.1)) (4,112) (l9 (E8 12 (o9 s.2.2.2.1)) (4,212) (Lt l s))))) (2,0)
theorem Yd{l:V8}(hL:SmL l){i:Nat}{s:D9}(hs:l.2.2[i]? =some s):Bg l (i:Int)=some (Eb l i s):=by
 have hi:=(Y6.1 hs).1;have hS:=hL.sc s (rV hs);have hf:=hL.few;have hf1:=hf.1;have hf2:=hf.2.1;have hf3:=hf.2.2;have n1:=hS.ni;have n2:=hS.nd;have n3:=hS.nr;unfold Bg Eb BQ;rw[G7,hs,o8,Ar l7,o8,Oj _ l7,o8,TE _ l7,o8,a1D _ U6,o8];have hb:(l9 (l.1.any λx=>seq x.1 s.1) (some (s,true)) (l9 (l.2.1.any λx=>seq x.1 s.1) (some (s,true)) (some (s,(l.2.2.take i).any λx=>seq x.1 s.1))))=
   some (s,(l.1.any λx=>seq x.1 s.1) || (l.2.1.any λx=>seq x.1 s.1) || (l.2.2.take i).any λx=>seq x.1 s.1):=by
  cases l.1.any λx=>seq x.1 s.1
  ·cases l.2.1.any λx=>seq x.1 s.1<;>rfl
  ·rfl
 rw[hb,o8];simp only;rw[rY hS.nm,o8];cases wP s.1
 ·rfl
 simp only[E5,o6,o7];cases (l.1.any λx=>seq x.1 s.1) || (l.2.1.any λx=>seq x.1 s.1) || (l.2.2.take i).any λx=>seq x.1 s.1
 case true=>rfl
 simp only[o6];have hm:(l9 (F6 (x8 s.2.1 (-1))) (l9 (E8 s.2.1 0) (some true) (l9 (L9 (i:Int) s.2.1) (some true) (o5 (G9 (l.2.2.take i) s.2.1) λ(x:D9)=>some (F6 (x8 x.2.1 (-1)))))) (some false))=some (DY l i s.2.1):=by
  unfold DY;cases x8 s.2.1 (-1)
  case true=>rfl
  simp only[bH,o7,o6];cases h0:E8 s.2.1 0
  case true=>rfl
  cases h1:L9 (i:Int) s.2.1
  case true=>rfl
  rw[jv]at h0;rw[Ld]at h1;obtain⟨q,hq,_⟩:=jZ (l:=l.2.2.take i) h0 (by simp only[o9,aV];omega);have hq2:G9 l.2.2 s.2.1=some q:=by have:=(dh hq).2.2.2;unfold G9;rw[if_pos h0];exact(QJ this).2
  rw[hq,hq2];rfl
 rw[hm,o8];cases DY l i s.2.1
 case true=>rfl
 simp only[o6];cases E8 12 (o9 s.2.2.1)
 case true=>rfl
 cases E8 12 (o9 s.2.2.2.1)
 case true=>rfl
 simp only[o6,o8,N7];unfold Lt yg;refine U9 (yh (p:=inP l s) s.2.2.1.length l7 PUnit.unit (λk hk=>?_) ?_) ?_
 rotate_left 2
 ·cases Z8 s.2.2.1.length (inP l s)
  case some r=>rfl
  simp only[o8,N7];refine U9 (yh (p:=Yf l s) s.2.2.2.1.length l7 PUnit.unit (λk hk=>?_) ?_) ?_
  rotate_left 2
  ·cases Z8 s.2.2.2.1.length (Yf l s)
   case some r=>rfl
   simp only[o8,N7];rw[Gm hL.scopes hs,o8];refine U9 (yh (p:=Ja l s) s.2.2.2.2.length l7 PUnit.unit (λk hk=>?_) ?_) ?_
   rotate_left 2
   ·cases Z8 s.2.2.2.2.length (Ja l s)
    case some r=>rfl
    simp only[o8,N7];refine U9 (yh (p:=UA s) s.2.2.2.1.length l7 PUnit.unit (λk hk=>?_) ?_) ?_
    rotate_left 2
    ·cases Z8 s.2.2.2.1.length (UA s)<;>rfl
    ·have e:=dX hk;simp only[U2 e,o7];rw[YB hS l7 (by show(k:Int)<o9 s.2.2.2.1;simp only[o9];omega),o8,a7k _ (by
      have:=FH hS (Fb s (k:Int)).1 (λx hx=>a3e hx);omega),o8,show(200:Int)=((200:Nat):Int)from rfl,TF l7 l7]
     unfold UA;cases (pq s (k:Int)).any λx=>x8 (k:Int) x<;>rfl
    ·rw[U1];rfl
   ·have e:=dX hk;have hr:=(hS.ro _ (H7 hk)).1;simp only[U2 e,o7];rw[w_ _ e l7 hr,o8,show(300:Int)=((300:Nat):Int)from rfl,TF l7 l7];simp only[Ja,e,Pv];cases x8 (Gl s (BL l s) k s.2.2.2.2[k]) 0<;>rfl
   ·rw[U1];rfl
  ·have e:=dX hk;have hm:=hS.fo.2 _ (H7 hk);simp only[U2 e,o7,G7,e,o8];rw[Ar l7,o8,NE hm l7 U6,o8,show(200:Int)=((200:Nat):Int)from rfl,TF l7 l7];simp only[Yf,e,Pv];cases x8 (DT l.1 s.2.2.2.1[k] s.2.2.1 (s.2.2.2.1.take k)) 0<;>rfl
  ·rw[U1];rfl
 ·have e:=dX hk;have hm:=hS.fo.1 _ (H7 hk);simp only[U2 e,o7,G7,e,o8];rw[Ar l7,o8,NE hm U6 A7,o8,show(100:Int)=((100:Nat):Int)from rfl,TF l7 l7];simp only[inP,e,Pv];cases x8 (DT l.1 s.2.2.1[k] (s.2.2.1.take k) []) 0<;>rfl
 ·rw[U1];rfl
theorem IE{c e:Int}{r:Int×Int}(h:Pv c e=some r):r.1≠0:=by
 unfold Pv at h;cases hc:x8 c 0<;>rw[hc]at h
 ·cases h;exact DV.1 hc
 ·cases h
theorem Du{l:V8}{s:D9}{r:Int×Int}(h:yg l s=some r):r.1≠0:=by
 unfold yg at h;split at h
 ·rename_i q hq;cases h;obtain⟨k,_,hk⟩:=bW hq;unfold inP at hk;split at hk
  ·exact IE hk
  ·cases hk
 ·obtain⟨k,_,hk⟩:=bW h;unfold Yf at hk;split at hk
  ·exact IE hk
  ·cases hk
theorem Xr{l:V8}(hL:SmL l){i:Nat}{s:D9}(hs:l.2.2[i]? =some s):yE l (i:Int)=some (l9 (x8 (Eb l i s).1 0) (0,0,0,0) (Ux i (Eb l i s))):=by
 have hi:=(Y6.1 hs).1;have hS:=hL.sc s (rV hs);have hf:=hL.few;have hf1:=hf.1;have hf2:=hf.2.1;have hf3:=hf.2.2;have n1:=hS.ni;have n2:=hS.nd;have n3:=hS.nr;unfold yE Eb;rw[G7,hs,o8,og hS.nm,o8];cases wP s.1
 ·rfl
 simp only[E5,o6,o7];rw[a8m hf,o8];cases BQ l 3 i s.1
 case true=>rfl
 simp only[o6];have hm:(l9 (F6 (x8 s.2.1 (-1))) (l9 (E8 s.2.1 0) (some (Sum.inr ((6:Int),(3:Int),(i:Int),(0:Int)))) (l9 (L9 (i:Int) s.2.1) (some (.inr (6,3,(i:Int),0))) (o5 (G9 l.2.2 s.2.1) λ(x:D9)=>l9 (F6 (x8 x.2.1 (-1))) (some (.inr (6,3,(i:Int),0))) (some (.inl (((0:Int),(0:Int),(0:Int),(0:Int)),(0:Int),(3:Int),(i:Int),(0:Int))))))) (some (.inl ((0,0,0,0),0,3,(i:Int),0))))=
   some (l9 (DY l i s.2.1) (.inr (6,3,(i:Int),0)) (.inl ((0,0,0,0),0,3,(i:Int),0))):=by
  unfold DY;cases x8 s.2.1 (-1)
  case true=>rfl
  simp only[bH,o7,o6];cases h0:E8 s.2.1 0
  case true=>rfl
  cases h1:L9 (i:Int) s.2.1
  case true=>rfl
  rw[jv]at h0;rw[Ld]at h1;obtain⟨q,hq,_⟩:=jZ (l:=l.2.2) h0 (by simp only[o9];omega);rw[hq];simp only[o6,o8];cases x8 q.2.1 (-1)<;>rfl
 rw[hm,o8];cases DY l i s.2.1
 case true=>rfl
 simp only[o6,N7];cases E8 12 (o9 s.2.2.1)
 case true=>rfl
 cases E8 12 (o9 s.2.2.2.1)
 case true=>rfl
 simp only[o6];rw[Xp hs l7 l7 hS.fo,o8];unfold Lt;cases hfs:yg l s with
 |some r=>have hc:=Du hfs;simp only[Ux];rw[J3 hc];rfl|none=>
  simp only[O8 (rfl:(0:Int)=0),E5,o6];refine U9 (qG (p:=λk=>(Ja l s k).map (Ux i)) s.2.2.2.2.length l7 _ (0,0,0,0) (λk hk=>?_) ?_) ?_
  rotate_left 2
  ·rw[GR];cases hfr:Z8 s.2.2.2.2.length (Ja l s)with
   |some r=>
    obtain⟨k,_,hk⟩:=bW hfr;have hc:r.1≠0:=by
     unfold Ja at hk;split at hk
     ·exact IE hk
     ·cases hk
    simp only[Y2,o8,vP];rw[J3 hc];rfl
   |none=>
    simp only[Option.map_none,o8,N7];refine U9 (qG (p:=λk=>(UA s k).map (Ux i)) s.2.2.2.1.length l7 _ (0,0,0,0) (λk hk=>?_) ?_) ?_
    rotate_left 2
    ·rw[GR];cases hfc:Z8 s.2.2.2.1.length (UA s)with
     |some r=>
      obtain⟨k,_,hk⟩:=bW hfc;have hc:r.1≠0:=by
       unfold UA at hk;cases hq:(pq s (k:Int)).any λx=>x8 (k:Int) x<;>rw[hq]at hk
       ·cases hk
       ·cases hk;show(9:Int)≠0;decide
      simp only[Y2,o8,vP];rw[J3 hc];rfl
     |none=>rfl
    ·have e:=dX hk;have htl:=FH hS (Fb s (k:Int)).1 (λx hx=>a3e hx);simp only[U2 e,o7];rw[Xu hS,o8,show(200:Int)=((200:Nat):Int)from rfl,TF l7 l7];have hcy:X7 (λ(x_6:J4×Int)=>l9 (E8 x_6.2 (o9 (pq s (k:Int)))) (o5 (G9 (pq s (k:Int)) x_6.2) λ(x:Int)=>l9 (x8 x (k:Int)) (some (Out.rt ((9:Int),(3:Int),(i:Int),((200+k:Nat):Int)))) (some (.nx (x_6.1,D6 .i64 x_6.2 1)))) (some (.ex x_6.1))) (((0:Int),(0:Int),(0:Int),(0:Int)),(0:Int))=
       some (l9 ((pq s (k:Int)).any λx=>x8 (k:Int) x) (.inr (9,3,(i:Int),((200+k:Nat):Int))) (.inl (0,0,0,0))):=by
      have h1:=Om (pq s (k:Int)) (λ(b:Int×Int×Int×Int) x=>l9 (x8 x (k:Int)) (.inr ((9:Int),(3:Int),(i:Int),((200+k:Nat):Int))) (.inl b)) (λb i=>(b,i)) (λb=>b) (λ_ _=>True) (b:=((0,0,0,0):Int×Int×Int×Int)) (f:=λ(x_6:J4×Int)=>l9 (E8 x_6.2 (o9 (pq s (k:Int)))) (o5 (G9 (pq s (k:Int)) x_6.2) λ(x:Int)=>l9 (x8 x (k:Int)) (some (Out.rt ((9:Int),(3:Int),(i:Int),((200+k:Nat):Int)))) (some (.nx (x_6.1,D6 .i64 x_6.2 1)))) (some (.ex x_6.1))) l7 trivial (λj x b hx hj _=>by refine⟨?_,λ_ _=>trivial⟩;simp only[U2 hx,o7,G7,hx,o8];rw[dH l7];cases x8 x (k:Int)<;>rfl) (λb _=>by simp only[U1];rfl)
      refine h1.1.trans ?_;have hfo:∀(l:List Int) (b:Int×Int×Int×Int),aY (λ(b:Int×Int×Int×Int) x=>l9 (x8 x (k:Int)) (.inr ((9:Int),(3:Int),(i:Int),((200+k:Nat):Int))) (.inl b)) l b=l9 (l.any λx=>x8 (k:Int) x) (.inr (9,3,(i:Int),((200+k:Nat):Int))) (.inl b):=by
       intro l;induction l with
       |nil=>intro b;rfl|cons a l ih=>
        intro b;unfold aY;rw[qW,show x8 (k:Int) a=x8 a (k:Int) by unfold x8;by_cases h:a=(k:Int)<;>simp[h,eq_comm]];cases x8 a (k:Int)
        ·simp only[o6,nT];exact ih b
        ·rfl
      rw[hfo];cases (pq s (k:Int)).any λx=>x8 (k:Int) x<;>rfl
     refine U9 hcy ?_;unfold UA;cases (pq s (k:Int)).any λx=>x8 (k:Int) x<;>rfl
    ·simp only[U1];rfl
  ·have e:=dX hk;have hr:=(hS.ro _ (H7 hk)).1;simp only[U2 e,o7];rw[Yt hL.scopes hs e hr,o8,show(300:Int)=((300:Nat):Int)from rfl,TF l7 l7];simp only[Ja,e,Pv];cases x8 (Gl s (BL l s) k s.2.2.2.2[k]) 0<;>rfl
  ·simp only[U1];rfl
def Io(l:V8)(i:Nat):Option (Int×Int×Int×Int):=match l.2.2[i]? with|some s=>Oh 3 i (Eb l i s)|none=>none
def QF(l:V8):Int×Int×Int×Int:=l9 (E8 4 (o9 l.2.2)) (4,3,4,0) (match Z8 l.2.2.length (Io l)with|some r=>r|none=>(0,0,0,0))
def eG(l:V8):Int×Int×Int×Int:=l9 (x8 (DR l).1 0) (l9 (x8 (EM l).1 0) (QF l) (EM l)) (DR l)
theorem VD{l:V8}(hL:SmL l):zy l=some (QF l):=by
 have hf:=hL.few.2.2;unfold zy QF;cases E8 4 (o9 l.2.2)
 case true=>rfl
 simp only[o6];refine U9 (qG (p:=Io l) l.2.2.length l7 _ (0,0,0,0) (λi hi=>?_) ?_) ?_
 rotate_left 2
 ·cases Z8 l.2.2.length (Io l)<;>rfl
 ·have e:=dX hi;simp only[U2 e,o7,Yd hL e,o8,Io,e,Oh];cases x8 (Eb l i l.2.2[i]).1 0<;>rfl
 ·rw[U1];rfl
theorem a3m{l:V8}(hL:SmL l):Ew l=some (eG l):=by
 unfold Ew eG;rw[Yc hL.few hL.en,o8];cases x8 (DR l).1 0
 ·rfl
 simp only[E5,o6,o7];rw[VE hL.few hL.tb,o8];cases x8 (EM l).1 0
 ·rfl
 simp only[E5,o6,o7];rw[VD hL];rfl
theorem IG{k i:Int}{c:Int×Int}{r:Int×Int×Int×Int}(h:Oh k i c=some r):r.1≠0:=by
 unfold Oh at h;cases hc:x8 c.1 0<;>rw[hc]at h
 ·cases h;exact DV.1 hc
 ·cases h
theorem a0h{l:V8}(hL:SmL l):BG l=some (eG l):=by
 have hf1:=hL.few.1;have hf2:=hL.few.2.1;have hf3:=hL.few.2.2;unfold BG eG DR;cases E8 8 (o9 l.1)
 case true=>rfl
 simp only[o6];refine U9 (qG (p:=GM l) l.1.length l7 _ (0,0,0,0) (λi hi=>?_) ?_) ?_
 rotate_left 2
 ·cases hfe:Z8 l.1.length (GM l)with
  |some r=>
   obtain⟨k,_,hk⟩:=bW hfe;have hc:r.1≠0:=by
    unfold GM at hk;split at hk
    ·exact IG hk
    ·cases hk
   simp only[o8,vP,J3 hc,o6]
  |none=>
   simp only[o8,N7,O8 (rfl:(0:Int)=0),o7];unfold EM;cases E8 8 (o9 l.2.1)
   case true=>rfl
   simp only[o6];refine U9 (qG (p:=Gn l) l.2.1.length l7 _ (0,0,0,0) (λi hi=>?_) ?_) ?_
   rotate_left 2
   ·cases hft:Z8 l.2.1.length (Gn l)with
    |some r=>
     obtain⟨k,_,hk⟩:=bW hft;have hc:r.1≠0:=by
      unfold Gn at hk;split at hk
      ·exact IG hk
      ·cases hk
     simp only[o8,vP,J3 hc,o6]
    |none=>
     simp only[o8,N7,O8 (rfl:(0:Int)=0),o7];unfold QF;cases E8 4 (o9 l.2.2)
     case true=>rfl
     simp only[o6];refine U9 (qG (p:=Io l) l.2.2.length l7 _ (0,0,0,0) (λi hi=>?_) ?_) ?_
     rotate_left 2
     ·cases Z8 l.2.2.length (Io l)<;>rfl
     ·have e:=dX hi;simp only[U2 e,o7,Xr hL e,o8,Io,e,Oh];cases hc:x8 (Eb l i l.2.2[i]).1 0
      ·simp only[o6,Ux,hc];rfl
      ·simp only[o7,O8 (rfl:(0:Int)=0)];rfl
     ·simp only[U1];rfl
   ·have e:=dX hi;simp only[U2 e,o7,Xt hL.few e (hL.tb _ (H7 hi)),o8,Gn,e,Oh,Nr];cases hc:x8 (Td l i l.2.1[i]).1 0
    ·simp only[o6,hc];rfl
    ·simp only[o7,O8 (rfl:(0:Int)=0)];rfl
   ·simp only[U1];rfl
 ·have e:=dX hi;have hm:=hL.en _ (H7 hi);simp only[U2 e,o7,Yp hL.few e hm.1 hm.2,o8,GM,e,Oh,Nr];cases hc:x8 (Pn l i l.1[i]).1 0
  ·simp only[o6,hc];rfl
  ·simp only[o7,O8 (rfl:(0:Int)=0)];rfl
 ·simp only[U1];rfl
structure SmC (c:jU):Prop where
 ni:c.2.1.length<=1000
 nm:c.2.2.length<=1000
 nv:∀v∈c.2.2,v.length<=1000
def YD(en:List bT)(fs:List jq)(vs:List V4)(i:Nat):Option (Int×Int):=match vs[i]?,fs[i]? with
 |some v,some f=>l9 (x8 v.1 f.2.1) (l9 (x8 v.2.1 f.2.2) (l9 (inB v.2.2 (bnd f.2 en)) none (some ((i:Int),3))) (some ((i:Int),8))) (some ((i:Int),8))|_,_=>none
def zi(en:List bT)(fs:List jq)(vs:List V4):Int×Int:=
 l9 (E8 (o9 vs) (o9 fs)) (o9 vs,5) (l9 (E8 (o9 fs) (o9 vs)) (o9 fs,4) (match Z8 vs.length (YD en fs vs)with|some r=>r|none=>(0,0)))
theorem a8v{en:List bT}{fs:List jq}{vs:List V4}{i:Nat}{r:Int×Int}(h:YD en fs vs i=some r):r.2≠0:=by
 unfold YD at h;split at h
 ·rename_i v f _ _;cases h1:x8 v.1 f.2.1<;>rw[h1]at h
  ·cases h;show(8:Int)≠0;decide
  cases h2:x8 v.2.1 f.2.2<;>rw[h2]at h
  ·cases h;show(8:Int)≠0;decide
  cases h3:inB v.2.2 (bnd f.2 en)<;>rw[h3]at h
  ·cases h;show(3:Int)≠0;decide
  ·cases h
 ·cases h
theorem KT(l:V8){vs:List V4}{fs:List jq}(hv:vs.length<=1000000):oL l vs fs=some (zi l.1 fs vs):=by
 unfold oL zi;cases h1:E8 (o9 vs) (o9 fs)
 case true=>rfl
 cases h2:E8 (o9 fs) (o9 vs)
 case true=>rfl
 simp only[o6];have hl:vs.length=fs.length:=by rw[jv]at h1 h2;simp only[o9]at h1 h2;omega
 refine U9 (yh (p:=YD l.1 fs vs) vs.length hv PUnit.unit (λk hk=>?_) ?_) ?_
 rotate_left 2
 ·cases Z8 vs.length (YD l.1 fs vs)<;>rfl
 ·have e:=dX hk;have e2:=dX (show k<fs.length by omega);simp only[U2 e,o7,G7,e,e2,o8,MO,YD,inB,rH];cases x8 vs[k].1 fs[k].2.1
  ·rfl
  cases x8 vs[k].2.1 fs[k].2.2
  ·rfl
  cases L9 (bnd fs[k].2 l.1).1 vs[k].2.2
  ·rfl
  cases L9 vs[k].2.2 (bnd fs[k].2 l.1).2<;>rfl
 ·rw[U1];rfl
def mZ(l:V8)(s:D9):List jq×Int:=match G9 l.2.2 s.2.1 with|some q=>(q.2.2.1,8)|none=>([],0)
def WH(en:List bT)(fs:List jq)(ms:List (List V4))(i:Nat):Option (Int×Int×Int):=match ms[i]? with
 |some vs=>l9 (x8 (zi en fs vs).2 0) none (some ((i:Int),zi en fs vs))|none=>none
def yS(l:V8)(k:Int)(c:jU):Int×Int×Int:=match G9 l.2.2 k with
 |none=>(-1,-1,6)
 |some s=>l9 (E8 c.1 0) (-1,-1,3) (l9 (E8 109572 c.1) (-1,-1,3) (l9 (x8 (zi l.1 s.2.2.1 c.2.1).2 0)
   (l9 (E8 (mZ l s).2 (o9 c.2.2)) ((mZ l s).2,-1,4) (match Z8 c.2.2.length (WH l.1 (mZ l s).1 c.2.2)with|some r=>r|none=>(0,0,0))) (-1,zi l.1 s.2.2.1 c.2.1)))
theorem b1X{l:V8}{k:Int}{A B:Option (PUnit⊕(Int×Int×Int))} :(∃s,G9 l.2.2 k=some s/\l9 (E8 k 0) A (l9 (L9 (o9 l.2.2) k) A B)=B/\s∈l.2.2)\/(G9 l.2.2 k=none/\l9 (E8 k 0) A (l9 (L9 (o9 l.2.2) k) A B)=A):=by
 rw[rH k 0,Et (o9 l.2.2) k];cases h0:L9 0 k
 ·exact .inr ⟨tC (.inl h0),rfl⟩
 cases h1:E8 k (o9 l.2.2)
 ·exact .inr ⟨tC (.inr h1),rfl⟩
 obtain⟨s,hs,hm⟩:=jZ (lT.1 h0) (jl.1 h1);exact .inl ⟨s,hs,rfl,hm⟩
theorem b3O(l:V8)(k:Int){c:jU}(hc:SmC c):wR l k c=some (yS l k c):=by
 unfold wR yS;rcases b1X (l:=l) (k:=k) (A:=some (.inr ((-1:Int),(-1:Int),(6:Int)))) (B:=some (.inl PUnit.unit))with⟨s,hs,hb,_⟩|⟨hs,hb⟩
 ·rw[hb,hs];simp only[o8,N7];cases E8 c.1 0
  case true=>rfl
  cases E8 109572 c.1
  case true=>rfl
  simp only[o6,o8,N7];rw[KT l (by have:=hc.ni;omega),o8];cases x8 (zi l.1 s.2.2.1 c.2.1).2 0
  ·rfl
  simp only[E5,o6,o7];have hm:rF l k=some (mZ l s):=by
   unfold rF mZ;rw[hs,o8,rH s.2.1 0,Et (o9 l.2.2) s.2.1];cases h0:L9 0 s.2.1
   ·rw[tC (.inl h0)];rfl
   cases h1:E8 s.2.1 (o9 l.2.2)
   ·rw[tC (.inr h1)];rfl
   obtain⟨q,hq,_⟩:=jZ (lT.1 h0) (jl.1 h1);rw[hq];rfl
  rw[hm,o8];cases E8 (mZ l s).2 (o9 c.2.2)
  case true=>rfl
  simp only[o6];refine U9 (yh (p:=WH l.1 (mZ l s).1 c.2.2) c.2.2.length (by have:=hc.nm;omega) PUnit.unit (λj hj=>?_) ?_) ?_
  rotate_left 2
  ·cases Z8 c.2.2.length (WH l.1 (mZ l s).1 c.2.2)<;>rfl
  ·have e:=dX hj;simp only[U2 e,o7,G7,e,o8];rw[KT l (by have:=hc.nv _ (H7 hj);omega),o8];simp only[WH,e];cases x8 (zi l.1 (mZ l s).1 c.2.2[j]).2 0<;>rfl
  ·rw[U1];rfl
 ·rw[hb,hs];rfl
def Rf(r:Int×Int)(t:Int):Bool:=l9 (En r) (l9 (L9 r.1 t) (E8 t r.2) false) false
theorem Gz(r:Int×Int)(t:Int):nR r t=some (Rf r t):=by
 unfold nR Rf;rw[IB,o8];cases En r
 ·rfl
 cases L9 r.1 t<;>rfl
theorem Qo(r:Int×Int)(t:Int):c6R r t=some (Rf r t):=Gz r t
section
variable (on:Nat->Bool) (par:Nat->Int)
def YV(i:Nat):Nat:=((List.range i).filter on).length
def FT(i:Nat):Int:=if on i=true then(YV on i:Int)else if h:0<=par i/\par i<(i:Int)then FT (par i).toNat else -1
termination_by i
decreasing_by omega
def anc(i:Nat):Int:=if 0<=par i/\par i<(i:Int)then FT on par (par i).toNat else -1
theorem b4d(i:Nat):FT on par i=if on i=true then(YV on i:Int)else anc on par i:=by
 rw[FT];unfold anc;by_cases h:on i=true
 ·rw[if_pos h,if_pos h]
 ·rw[if_neg h,if_neg h];by_cases h2:0<=par i/\par i<(i:Int)
  ·rw[dif_pos h2,if_pos h2]
  ·rw[dif_neg h2,if_neg h2]
def onL(n:Nat):List Nat:=(List.range n).filter on
theorem Xd(i:Nat):onL on (i+1)=onL on i++(bif on i then[i]else[]):=by unfold onL;rw[dD,uY];rw[show List.filter on [i]=bif on i then[i]else[] by rw[fE];cases on i<;>rfl]
theorem JA(i:Nat):(onL on i).length<=i:=by have:=bz on (List.range i);unfold onL;simpa using this
theorem a4p{n i:Nat}(h:i∈onL on n):i<n/\on i=true:=by unfold onL at h;obtain⟨h1,h2⟩:=aQ.1 h;exact⟨ay.1 h1,h2⟩
end
def castL(l:List Nat):List Int:=l.map λ(i:Nat)=>(i:Int)
theorem a7Y{rs:List gy}{on:Nat->Bool}{f:List Int×List Int×List Int×Int->Option ((List Int×List Int×List Int×Int)⊕(List Int×List Int))}(hl:rs.length<=1000)
  (hin:∀(i:Nat) (r:gy) (A B C:List Int),rs[i]? =some r->f (A,B,C,(i:Int))=o5 (l9 (L9 0 r.2.2.1) (l9 (E8 r.2.2.1 (i:Int)) (o5 (G9 C r.2.2.1) λ(x_2:Int)=>o5 (af C (X8 r.2.2.1)) λ(x:Int)=>some x) (some (-1))) (some (-1))) λ(x_2:Int)=>
   o5 (G9 C (i:Int)) λ(x_3:Int)=>o5 (af C (X8 (i:Int))) λ(x_4:Int)=>l9 (on i) (o5 (G9 (cO C (X8 (i:Int)) x_2) (i:Int)) λ(x_6:Int)=>o5 (af (cO C (X8 (i:Int)) x_2) (X8 (i:Int))) λ(x_7:Int)=>o5 (iY A [(i:Int)]) λ(x_8:List Int)=>o5 (iY B [x_2]) λ(x_9:List Int)=>
     some (.inl (x_8,x_9,cO (cO C (X8 (i:Int)) x_2) (X8 (i:Int)) (o9 A),D6 .i64 (i:Int) 1))) (some (.inl (A,B,cO C (X8 (i:Int)) x_2,D6 .i64 (i:Int) 1))))
  (hend:∀(A B C:List Int),f (A,B,C,(rs.length:Int))=some (.inr (A,B))):
  aS f ([],[],List.replicate rs.length 0,0)=some (castL (onL on rs.length),(onL on rs.length).map (anc on λi=>match rs[i]? with|some r=>r.2.2.1|none=>-1)):=by
 obtain⟨par,hpar⟩:∃par:Nat->Int,par=λi=>match rs[i]? with|some r=>r.2.2.1|none=>-1:=⟨_,rfl⟩
 rw[←hpar];obtain⟨e,h1,h2⟩:=fP (f:=f) (s:=([],[],List.replicate rs.length 0,0)) (λx=>∃i:Nat,x=(castL (onL on i),(onL on i).map (anc on par),pd ((List.range i).map (FT on par)) (rs.length -i),(i:Int))/\i<=rs.length)
  (λe=>e=(castL (onL on rs.length),(onL on rs.length).map (anc on par))) (λx=>rs.length -x.2.2.2.toNat) ⟨0,by simp[onL,castL,pd],l7⟩ U6 (by
  rintro x ⟨i,rfl,hi⟩;by_cases h:i<rs.length
  ·left;have e:=dX h;have hp:par i=rs[i].2.2.1:=by rw[hpar];simp only[e]
   obtain⟨p,hpp⟩:∃p:Int,p=par i:=⟨_,rfl⟩;have hp' :rs[i].2.2.1=p:=by rw[hpp,hp]
   have hlen:((List.range i).map (FT on par)).length=i:=A7;have hol:=JA on i;obtain⟨m,hm⟩:∃m,rs.length -i=m+1:=⟨rs.length -i -1,l7⟩;have hanc:o5 (l9 (L9 0 p) (l9 (E8 p (i:Int)) (o5 (G9 (pd ((List.range i).map (FT on par)) (m+1)) p) λ(x_2:Int)=>o5 (af (pd ((List.range i).map (FT on par)) (m+1)) (X8 p)) λ(x:Int)=>some x) (some (-1))) (some (-1))) (λx=>some x)=some (anc on par i):=by
    unfold anc;rw[←hpp];by_cases h0:0<=p
    ·rw[V5 h0];by_cases h1:p<(i:Int)
     ·have hk:p.toNat<i:=l7;have hg:(pd ((List.range i).map (FT on par)) (m+1))[p.toNat]? =some (FT on par p.toNat):=by
       unfold pd;rw[J9 U6,Ez _ _ hk]
      rw[O0 h1,if_pos ⟨h0,h1⟩];simp only[o7];rw[show G9 (pd ((List.range i).map (FT on par)) (m+1)) p=some (FT on par p.toNat) by unfold G9;rw[if_pos h0];exact hg,o8,show af (pd ((List.range i).map (FT on par)) (m+1)) (X8 p)=some (FT on par p.toNat)from hg];rfl
     ·rw[J6 l7,if_neg l7];rfl
    ·rw[V9 l7,if_neg l7];rfl
   rw[dZ]at hanc;refine⟨(castL (onL on (i+1)),(onL on (i+1)).map (anc on par),pd ((List.range (i+1)).map (FT on par)) (rs.length -(i+1)),((i+1:Nat):Int)),?_,⟨i+1,rfl,h⟩,by simp;omega⟩;rw[hin i _ _ _ _ e,hm,hp',hanc,o8,dH l7,show rs.length -(i+1)=m by omega,Xd,dD,iD];have q1:=Y_ ((List.range i).map (FT on par)) m;have q2:=Z_ ((List.range i).map (FT on par)) m;have q3:=a4w ((List.range i).map (FT on par)) m (anc on par i);have q4:=Na ((List.range i).map (FT on par)) m (anc on par i);have q5:=Lu ((List.range i).map (FT on par)) m (anc on par i);have q6:=Qm ((List.range i).map (FT on par)) m (anc on par i) (o9 (castL (onL on i)));rw[hlen]at q1 q2 q3 q4 q5 q6;rw[q1,o8,q2,o8,q3];have hna:(List.map (FT on par) (List.range i++[i]))=(List.range i).map (FT on par)++[if on i=true then(YV on i:Int)else anc on par i]:=by rw[iD,List.map_singleton,b4d]
   rw[hna];cases hon:on i
   ·simp[castL]
   ·simp only[o7,cond_true];rw[q4,o8,q5,o8,mQ _ (by simp[castL];omega),o8,mQ _ U6,o8,q6];simp[castL,o9,YV,onL]
  ·right;have:i=rs.length:=l7;subst this;exact⟨_,hend _ _ _,rfl⟩)
 rw[h1,h2]
def onR(s:D9)(d t:Int)(i:Nat):Bool:=match s.2.2.2.2[i]? with|some r=>l9 (x8 r.2.1 d) (Rf r.2.2.2.2.1 t) false|none=>false
def b6E(s:D9)(i:Nat):Int:=match s.2.2.2.2[i]? with|some r=>r.2.2.1|none=>-1
def xQ(s:D9)(d t:Int):List Nat:=onL (onR s d t) s.2.2.2.2.length
def b0J(s:D9)(i:Nat):Int:=match s.2.2.2.2[i]? with|some r=>r.2.2.2.1|none=>0
def dE(s:D9)(d t:Int):List Int×List Int×List Int:=(castL (xQ s d t),(xQ s d t).map (anc (onR s d t) (b6E s)),(xQ s d t).map (b0J s))
theorem b6y{s:D9}{i:Nat}{r:gy}(h:s.2.2.2.2[i]? =some r)(d t:Int):vY r d t=some (onR s d t i):=by unfold vY onR;rw[h,Gz];simp only;cases x8 r.2.1 d<;>rfl
theorem a0q{s:D9}(h:s.2.2.2.2.length<=1000)(d t:Int):uM s.2.2.2.2 (d,t)=some (castL (xQ s d t),(xQ s d t).map (anc (onR s d t) (b6E s))):=by
 unfold uM;rw[show vk (o9 s.2.2.2.2) (0:Int)=some (List.replicate s.2.2.2.2.length 0) by unfold vk;rw[if_pos (by simp[o9];omega)];simp[o9],o8,dZ];refine a7Y h (λi r A B C hr=>?_) (λA B C=>?_)
 ·simp only[U2 hr,o7,G7,hr,o8];rw[b6y hr];rfl
 ·simp only[U1];rfl
theorem SN{s:D9}{d t:Int}{i:Nat}(h:i∈xQ s d t):i<s.2.2.2.2.length/\onR s d t i=true:=a4p _ h
theorem a8p{s:D9}(h:s.2.2.2.2.length<=1000)(d t:Int):xZ s d t=some (dE s d t):=by
 have hl:=JA (onR s d t) s.2.2.2.2.length;unfold xZ;rw[a0q h,o8];refine U9 (a9v (castL (xQ s d t)) (λ(k:Int)=>b0J s k.toNat) (F:=id) (by unfold castL xQ;simp;omega) (λi a acc ha hacc=>?_) (λacc=>?_)) ?_
 rotate_left 2
 ·rw[o8];unfold dE castL;rw[wW];rfl
 ·simp only[U2 ha,o7,G7 (castL (xQ s d t)),ha,o8];rw[show af (castL (xQ s d t)) (X8 (i:Int))=some a from ha,o8];obtain⟨k,hk,rfl⟩:∃k,k∈xQ s d t/\(k:Int)=a:=by
   have:=rV ha;unfold castL at this;exact ah.1 this
  have hlt:=SN hk;have e:=dX hlt.1;have hil:=(Y6.1 ha).1;simp only[castL,X6]at hil;rw[G7,e,o8,mQ _ (by unfold xQ at hil;omega),o8];simp only[b0J,J5,e]
 ·simp only[U1];rfl
theorem b0n(on:Nat->Bool)(n:Nat):(onL on n).Pairwise (·< ·):=List.Pairwise.filter _ qo
end
section
def XP(par prio:List Int)(i:Nat):Option Int:=match par[i]?,prio[i]? with
 |some p,some q=>l9 (E8 p (-1)) (some 9) (l9 (L9 (i:Int) p) (some 9) (l9 (E8 q 0) (some 3) (l9 (E8 9 q) (some 3) none)))|_,_=>none
def Me(par prio:List Int):Int:=l9 (F6 (x8 (o9 par) (o9 prio))) 2 (l9 (E8 8 (o9 par)) 4 (match Z8 par.length (XP par prio)with|some r=>r|none=>0))
theorem b3n(par prio:List Int):wY par prio=some (Me par prio):=by
 unfold wY Me;cases h1:x8 (o9 par) (o9 prio)
 ·rfl
 simp only[E5,o6];cases h2:E8 8 (o9 par)
 case true=>rfl
 simp only[o6];have hl:par.length=prio.length:=by rw[V6]at h1;simp only[o9]at h1;omega
 refine U9 (yh (p:=XP par prio) par.length (by rw[jv]at h2;simp only[o9]at h2;omega) PUnit.unit (λk hk=>?_) ?_) ?_
 rotate_left 2
 ·cases Z8 par.length (XP par prio)<;>rfl
 ·have e:=dX hk;have e2:=dX (show k<prio.length by omega);simp only[U2 e,o7,G7,e,e2,o8,XP];cases E8 par[k] (-1)
  case true=>rfl
  cases L9 (k:Int) par[k]
  case true=>rfl
  cases E8 prio[k] 0
  case true=>rfl
  cases E8 9 prio[k]<;>rfl
 ·rw[U1];rfl
theorem qi{ρ:Type}{n:Nat}{p:Nat->Option ρ}(h:Z8 n p=none):∀i,i<n->p i=none:=by unfold Z8 at h;intro i hi;exact jo.1 h i (ay.2 hi)
theorem Jd{par prio:List Int}(h:Me par prio=0):par.length=prio.length/\par.length<=8/\∀(i:Nat) (p:Int),par[i]? =some p->-1<=p/\p<(i:Int):=by
 unfold Me at h;cases h1:x8 (o9 par) (o9 prio)<;>rw[h1]at h
 ·cases h
 simp only[E5,o6]at h;cases h2:E8 8 (o9 par)<;>rw[h2]at h
 case true=>cases h
 simp only[o6]at h;have hl:par.length=prio.length:=by rw[V6]at h1;simp only[o9]at h1;omega
 refine⟨hl,by rw[jv]at h2;simp only[o9]at h2;omega,λi p hp=>?_⟩;have hi:=(Y6.1 hp).1;cases hf:Z8 par.length (XP par prio)with
 |some r=>
  rw[hf]at h;simp only at h;obtain⟨k,hk,hr⟩:=bW hf;unfold XP at hr;split at hr
  ·subst h;rename_i a b _ _;cases c1:E8 a (-1)<;>rw[c1]at hr<;>try (cases hr;done)
   cases c2:L9 (k:Int) a<;>rw[c2]at hr<;>try (cases hr;done)
   cases c3:E8 b 0<;>rw[c3]at hr<;>try (cases hr;done)
   cases c4:E8 9 b<;>rw[c4]at hr<;>cases hr
  ·cases hr
 |none=>
  have:=qi hf i hi;unfold XP at this;rw[hp,dX (show i<prio.length by omega)]at this;simp only at this;cases c1:E8 p (-1)<;>rw[c1]at this
  case true=>cases this
  cases c2:L9 (i:Int) p<;>rw[c2]at this
  case true=>cases this
  rw[jv]at c1;rw[Ld]at c2;exact⟨c1,c2⟩
def a1O(par:List Int)(at' :Int)(i:Nat):Bool:=match par[i]? with|some p=>x8 p at'|none=>false
def DW(par:List Int)(at' :Int):List Nat:=onL (a1O par at') par.length
theorem a1f{par:List Int}(h:par.length<=1000)(at' :Int):wX par at' =some (castL (DW par at')):=by
 unfold wX;rw[dZ];obtain⟨e,h1,h2⟩:=fP (f:=λ(x:List Int×Int)=>l9 (E8 x.2 (o9 par)) (o5 (G9 par x.2) λ(x_1:Int)=>l9 (x8 x_1 at') (o5 (iY x.1 [x.2]) λ(x_2:List Int)=>some (.inl (x_2,D6 .i64 x.2 1))) (some (.inl (x.1,D6 .i64 x.2 1)))) (some (.inr x.1)))
  (s:=([],0)) (λx=>∃i:Nat,x=(castL (onL (a1O par at') i),(i:Int))/\i<=par.length) (λe=>e=castL (DW par at')) (λx=>par.length -x.2.toNat) ⟨0,rfl,l7⟩ U6 (by
  rintro x ⟨i,rfl,hi⟩;by_cases hlt:i<par.length
  ·left;have e:=dX hlt;have hol:=JA (a1O par at') i;refine⟨(castL (onL (a1O par at') (i+1)),((i+1:Nat):Int)),?_,⟨i+1,rfl,hlt⟩,by simp;omega⟩;simp only[U2 e,o7,G7,e,o8];rw[dH l7,mQ _ (by simp[castL];omega),Xd];have hon:a1O par at' i=x8 par[i] at' :=by unfold a1O;rw[e]
   rw[hon];cases x8 par[i] at'<;>simp[castL]
  ·right;have:i=par.length:=l7;subst this;exact⟨_,by rw[U1];rfl,rfl⟩)
 rw[h1,h2]
theorem I_{par:List Int}{at' :Int}{i:Nat}(h:i∈DW par at'):i<par.length/\par[i]? =some at' :=by obtain⟨h1,h2⟩:=a4p _ h;refine⟨h1,?_⟩;unfold a1O at h2;rw[dX h1]at h2 ⊢;simp only[V6]at h2;rw[h2]
def bG(oc pr:Int->Int)(acc:List Int)(a:Int):List Int:=l9 (x8 (oc a) (-1)) acc (match acc with
 |[]=>[a]
 |b::r=>l9 (E8 (pr b) (pr a)) [a] (l9 (x8 (pr a) (pr b)) (b::r++[a]) (b::r)))
theorem a8T(oc pr:Int->Int){acc:List Int}{a x:Int}(h:x∈bG oc pr acc a):x∈acc\/x=a:=by
 unfold bG at h;cases h1:x8 (oc a) (-1)<;>rw[h1]at h
 case true=>exact .inl h
 simp only[o6]at h;cases acc with
 |nil=>exact .inr (by simpa using h)|cons b r=>
  simp only at h;cases h2:E8 (pr b) (pr a)<;>rw[h2]at h
  ·simp only[o6]at h;cases h3:x8 (pr a) (pr b)<;>rw[h3]at h
   ·exact .inl h
   ·simp only[o7]at h;rcases D8.1 h with h|h
    ·exact .inl h
    ·exact .inr (by simpa using h)
  ·exact .inr (by simpa using h)
theorem b6f(oc pr:Int->Int)(acc:List Int)(a:Int):(bG oc pr acc a).length<=acc.length+1:=by
 unfold bG;cases x8 (oc a) (-1)
 case true=>simp
 simp only[o6];cases acc with
 |nil=>simp|cons b r=>
  simp only;cases E8 (pr b) (pr a)
  ·cases x8 (pr a) (pr b)<;>simp
  ·simp
def KN(oc pr:Int->Int)(l:List Int):List Int:=l.foldl (bG oc pr) []
theorem a1b(oc pr:Int->Int):∀(l acc:List Int) (x:Int),x∈l.foldl (bG oc pr) acc->x∈acc\/x∈l
 |[],acc,x,h=> .inl h|a::l,acc,x,h=>by
  rcases a1b oc pr l _ x h with h|h
  ·rcases a8T oc pr h with h|h
   ·exact .inl h
   ·exact .inr (by simp[h])
  ·exact .inr (by simp[h])
theorem ML{oc pr:Int->Int}{l:List Int}{x:Int}(h:x∈KN oc pr l):x∈l:=by
 rcases a1b oc pr l [] x h with h|h
 ·cases h
 ·exact h
theorem Vs{oc oc' pr:Int->Int} :∀(l acc:List Int),(∀x∈l,oc x=oc' x)->l.foldl (bG oc pr) acc=l.foldl (bG oc' pr) acc
 |[],acc,_=>rfl|a::l,acc,h=>by rw[Y1,Y1,Vs l _ λx hx=>h x (by simp[hx])];congr 1;unfold bG;rw[h a A7]
def chF(oc pr:Int->Int)(l:List Int):Int:=match KN oc pr l with|[]=>-1|[b]=>oc b|_=>-2
theorem YS{oc oc' pr:Int->Int}{l:List Int}(h:∀x∈l,oc x=oc' x):chF oc pr l=chF oc' pr l:=by
 have e:KN oc pr l=KN oc' pr l:=Vs l [] h;unfold chF;rw[e];cases hb:KN oc' pr l with
 |nil=>rfl|cons b r=>
  cases r with
  |nil=>exact h b (ML (oc:=oc') (pr:=pr) (by rw[hb];simp))|cons c r=>rfl
section
variable (par prio:List Int) (ap:List Bool)
def prF(i:Int):Int:=prio.getD i.toNat 0
def apF(i:Int):Bool:=ap.getD i.toNat false
def ocF:Nat->Int->Int
 |0,_=>-1|k+1,i=>l9 (x8 (chF (ocF k) (prF prio) (castL (DW par i))) (-1)) (l9 (apF ap i) i (-1)) (chF (ocF k) (prF prio) (castL (DW par i)))
variable (hv:Me par prio=0)
include hv
theorem Wx{i x:Int}(h:x∈castL (DW par i)):i<x/\x<(par.length:Int)/\0<=x:=by unfold castL at h;obtain⟨k,hk,rfl⟩:=ah.1 h;obtain⟨h1,h2⟩:=I_ hk;have:=(Jd hv).2.2 k i h2;omega
theorem ZE:∀(k k' :Nat) (i:Int),(par.length:Int) -i<=k->(par.length:Int) -i<=k' ->i<par.length->ocF par prio ap k i=ocF par prio ap k' i
 |0,_,i,h,_,h2=>by omega|_+1,0,i,_,h,h2=>by omega|k+1,k' +1,i,h,h',h2=>by
  unfold ocF;have:chF (ocF par prio ap k) (prF prio) (castL (DW par i))=chF (ocF par prio ap k') (prF prio) (castL (DW par i)):=
   YS λx hx=>by have:=Wx par prio hv hx;exact ZE k k' x l7 l7 l7
  rw[this]
end
end
section
theorem UU{prio:List Int}{i:Int}(h0:0<=i)(h:i<o9 prio):G9 prio i=some (prF prio i):=by obtain⟨x,hx,_⟩:=jZ h0 h;rw[hx];have:=(dh hx).2.2.2;unfold prF;rw[AO,this];rfl
theorem a6T{f:List Int×Int->Option ((List Int×Int)⊕List Int)}(oc:Int->Int)(prio:List Int)(l:List Int)(hl:l.length<=1000)(hr:∀x∈l,0<=x/\x<o9 prio)
  (hin:∀(i:Nat) (a:Int) (acc:List Int),l[i]? =some a->acc.length<=1000->(∀x∈acc,0<=x/\x<o9 prio)->0<=a->a<o9 prio->f (acc,(i:Int))=some (.inl (bG oc (prF prio) acc a,D6 .i64 (i:Int) 1)))
  (hend:∀acc,f (acc,(l.length:Int))=some (.inr acc)):aS f ([],0)=some (KN oc (prF prio) l):=by
 refine(zZ l (bG oc (prF prio)) (λb i=>(b,i)) (λb=>b) (λi acc=>acc.length<=i/\∀x∈acc,0<=x/\x<o9 prio) (b:=[]) l7 ⟨A7,A7⟩ (λi a acc ha hi hI=>?_) (λacc hI=>hend acc)).1;have hlt:=(Y6.1 ha).1;have ham:=hr a (rV ha);rw[hin i a acc ha l7 hI.2 ham.1 ham.2,dH l7];refine⟨rfl,by have:=b6f oc (prF prio) acc a;omega,λx hx=>?_⟩;rcases a8T _ _ hx with h|h
 ·exact hI.2 x h
 ·rw[h];exact ham
section
variable (par prio:List Int) (ap:List Bool) (hv:Me par prio=0) (hap:ap.length=par.length)
def OC(i:Int):Int:=ocF par prio ap (par.length+1) i
def chS(at' :Int):Int:=chF (OC par prio ap) (prF prio) (castL (DW par at'))
include hv in
theorem b9f{i:Int}(h0:-1<=i)(h:i<par.length):OC par prio ap i=l9 (x8 (chS par prio ap i) (-1)) (l9 (apF ap i) i (-1)) (chS par prio ap i):=by
 unfold OC chS;rw[ocF];have:chF (ocF par prio ap par.length) (prF prio) (castL (DW par i))=chF (OC par prio ap) (prF prio) (castL (DW par i)):=
  YS λx hx=>by have:=Wx par prio hv hx;exact ZE par prio ap hv _ _ x l7 l7 l7
 rw[this]
include hv in
theorem a9F(i:Int):(castL (DW par i)).length<=8:=by have h1:=JA (a1O par i) par.length;have h2:=(Jd hv).2.1;unfold castL DW;rw[X6];omega
include hv in
theorem a7q{i x:Int}(h:x∈castL (DW par i)):0<=x/\x<o9 prio:=by have:=Wx par prio hv h;have h2:=(Jd hv).1;simp only[o9];omega
include hv in
theorem b3g(arr:List Int)(i:Int)(hA:∀x∈castL (DW par i),G9 arr x=some (OC par prio ap x)):wu (par,prio,arr) i=some (KN (OC par prio ap) (prF prio) (castL (DW par i))):=by
 unfold wu;rw[a1f (by have:=(Jd hv).2.1;simp only;omega),o8,dZ];refine a6T (OC par prio ap) prio _ (by have:=a9F par prio hv i;omega) (λx hx=>a7q par prio hv hx) (λk a acc ha hl hacc h0 h1=>?_) (λacc=>?_)
 ·simp only[U2 ha,o7,G7 (castL (DW par i)),ha,o8];rw[show af (castL (DW par i)) (X8 (k:Int))=some a from ha,o8,hA a (rV ha),o8];unfold bG;cases x8 (OC par prio ap a) (-1)
  case true=>rfl
  simp only[o6,UU h0 h1,o8];cases acc with
  |nil=>simp only[J6 (show o9 ([]:List Int)<=0 by simp[o9]),o6,o8,O8 (show o9 ([]:List Int)=0 from rfl),o7,mQ a (show([]:List Int).length<=1000000 by simp)];rfl|cons b r=>
   have hb:=hacc b A7;simp only[O0 (show(0:Int)<o9 (b::r) by simp[o9]<;>omega),o7,show G9 (b::r) 0=some b from rfl,show af (b::r) (X8 0)=some b from rfl,o8,UU hb.1 hb.2];cases E8 (prF prio b) (prF prio a)
   ·simp only[o6,o8,J3 (show o9 (b::r)≠0 by simp[o9]<;>omega),show G9 (b::r) 0=some b from rfl,show af (b::r) (X8 0)=some b from rfl,UU hb.1 hb.2];cases x8 (prF prio a) (prF prio b)
    ·rfl
    ·rw[o7,o7,mQ _ l7];rfl
   ·simp only[o7,show rC 0 0 (o9 (b::r))=true by simp[rC,o9]<;>omega,show oP (b::r) (X8 0) (X8 0)=[]from rfl,o8,O8 (show o9 ([]:List Int)=0 from rfl),mQ a (show([]:List Int).length<=1000000 by simp)];rfl
 ·simp only[U1];rfl
include hv in
theorem a6o(arr:List Int)(i:Int)(hA:∀x∈castL (DW par i),G9 arr x=some (OC par prio ap x)):iZ (par,prio,arr) i=some (chS par prio ap i):=by
 unfold iZ chS chF;rw[b3g par prio ap hv arr i hA,o8];have hsub:∀x∈KN (OC par prio ap) (prF prio) (castL (DW par i)),G9 arr x=some (OC par prio ap x):=λx hx=>hA x (ML hx);generalize KN (OC par prio ap) (prF prio) (castL (DW par i))=b at*;match b,hsub with
 |[],_=>rfl|[x],hsub=>simp only[J3 (show o9 [x]≠0 by simp[o9]),O8 (show o9 [x]=1 from rfl),o6,o7,show G9 [x] 0=some x from rfl,show af [x] (X8 0)=some x from rfl,o8,hsub x A7]|x::y::r,_=>rw[J3 (by simp[o9];omega),J3 (by simp[o9];omega)];rfl
include hv hap in
theorem a2n:∃arr,wZ par prio ap=some arr/\∀x,0<=x->x<(par.length:Int)->G9 arr x=some (OC par prio ap x):=by
 have h8:=(Jd hv).2.1;unfold wZ;rw[show vk (o9 par) (0:Int)=some (List.replicate par.length 0) by unfold vk;rw[if_pos (by simp[o9];omega)];simp[o9],o8];have key:=fP (f:=λ(x:lW×Int)=>l9 (L9 0 x.2) (o5 (iZ x.1 x.2) λ(x_1:Int)=>o5 (G9 x.1.2.2 x.2) λ(x_2:Int)=>o5 (af x.1.2.2 (X8 x.2)) λ(x_3:Int)=>
   o5 (G9 (cO x.1.2.2 (X8 x.2) x_1) x.2) λ(x_4:Int)=>o5 (af (cO x.1.2.2 (X8 x.2) x_1) (X8 x.2)) λ(x_5:Int)=>l9 (x8 x_5 (-1)) (o5 (G9 ap x.2) λ(x_6:Bool)=>l9 x_6 (o5 (G9 (cO x.1.2.2 (X8 x.2) x_1) x.2) λ(x_7:Int)=>
    o5 (af (cO x.1.2.2 (X8 x.2) x_1) (X8 x.2)) λ(x_8:Int)=>some (.inl ((x.1.1,x.1.2.1,cO (cO x.1.2.2 (X8 x.2) x_1) (X8 x.2) x.2),H8 .i64 x.2 1))) (some (.inl ((x.1.1,x.1.2.1,cO x.1.2.2 (X8 x.2) x_1),H8 .i64 x.2 1))))
     (some (.inl ((x.1.1,x.1.2.1,cO x.1.2.2 (X8 x.2) x_1),H8 .i64 x.2 1)))) (some (.inr x.1)))
  (s:=((par,prio,List.replicate par.length 0),H8 .i64 (o9 par) 1)) (λx=>∃(arr:List Int) (i:Int),x=((par,prio,arr),i)/\-1<=i/\i<par.length/\arr.length=par.length/\∀x,i<x->x<(par.length:Int)->G9 arr x=some (OC par prio ap x))
  (λy=>∃arr:List Int,y=(par,prio,arr)/\∀x,0<=x->x<(par.length:Int)->G9 arr x=some (OC par prio ap x)) (λx=>(x.2+1).toNat) ?_ ?_ ?_
 ·obtain⟨y,k1,arr,rfl,k3⟩:=key;refine⟨arr,(qf k1 _).trans rfl,k3⟩
 ·exact⟨_,_,rfl,by rw[O5 (by unfold bQ o9;omega)];simp[o9];omega,by rw[O5 (by unfold bQ o9;omega)];simp only[o9];omega,A7,λx h1 h2=>by rw[O5 (by unfold bQ o9;omega)]at h1;simp only[o9]at h1;omega⟩
 ·rw[O5 (by unfold bQ o9;omega)];simp[o9];omega
 ·rintro x ⟨arr,i,rfl,h1,h2,hlen,hA⟩;by_cases h0:0<=i
  ·left;obtain⟨k,rfl⟩:∃k:Nat,i=(k:Int):=⟨i.toNat,l7⟩;have hk:k<arr.length:=l7;have hka:k<ap.length:=l7;have e:=dX hk;have ea:=dX hka;have hch:=a6o par prio ap hv arr (k:Int) (λx hx=>by
    have:=Wx par prio hv hx;exact hA x this.1 this.2.1)
   have hs:∀v:Int,G9 (cO arr (X8 (k:Int)) v) (k:Int)=some v:=λv=>by rw[G7];show(arr.set k v)[k]? =some v;rw[ql hk]
   have hs2:∀v:Int,af (cO arr (X8 (k:Int)) v) (X8 (k:Int))=some v:=λv=>by have:=hs v;rw[G7]at this;exact this
   have hsub:H8 .i64 (k:Int) 1=(k:Int) -1:=O5 L8;have hoc:=b9f par prio ap hv (i:=(k:Int)) l7 l7;have hapk:apF ap (k:Int)=ap[k]:=by unfold apF;rw[J5,AO,ea];rfl
   rw[hapk]at hoc;refine⟨((par,prio,arr.set k (OC par prio ap (k:Int))),(k:Int) -1),?_,⟨_,_,rfl,l7,l7,by simp[hlen],λx hx1 hx2=>?_⟩,by simp<;>omega⟩
   ·simp only[V5 h0,o7,hch,o8,G7 arr,e,show af arr (X8 (k:Int))=some arr[k]from e,hs,hs2,G7 ap,ea,hsub];rw[hoc];cases hq:x8 (chS par prio ap (k:Int)) (-1)
    ·simp only[o6];rfl
    ·simp only[o7];cases ap[k]
     ·rw[V6.1 hq];rfl
     ·simp only[o7];show some (Sum.inl ((par,prio,(arr.set k _).set k _),_))=_;rw[List.set_set]
   ·unfold G9
    rw[if_pos l7];by_cases hxk:x=(k:Int)
    ·rw[hxk,J5,ql hk]
    ·have:=hA x l7 hx2;unfold G9 at this;rw[if_pos l7]at this;rw[X3,if_neg l7];exact this
  ·right;exact⟨(par,prio,arr),by rw[V9 l7];rfl,arr,rfl,λx hx1 hx2=>hA x l7 hx2⟩
end
def Ip(par prio:List Int)(ap:List Bool):Int:=l9 (x8 (Me par prio) 0) (l9 (x8 (o9 ap) (o9 par)) (chS par prio ap (-1)) (-1)) (-1)
theorem a8h(par prio:List Int)(ap:List Bool):zN par prio ap=some (Ip par prio ap):=by
 unfold zN Ip;rw[b3n,o8];cases hv:x8 (Me par prio) 0
 ·rfl
 simp only[E5,o6,o7];cases hl:x8 (o9 ap) (o9 par)
 ·rfl
 simp only[E5,o6,o7];have hv' :=V6.1 hv;have hl' :ap.length=par.length:=by rw[V6]at hl;simp only[o9]at hl;omega
 obtain⟨arr,h1,h2⟩:=a2n par prio ap hv' hl';rw[h1,o8,dZ];exact a6o par prio ap hv' arr (-1) λx hx=>by have:=Wx par prio hv' hx;exact h2 x this.2.2 this.2.1
section
variable (par prio:List Int) (ap:List Bool) (hv:Me par prio=0) (hap:ap.length=par.length)
include hv hap in
end
end
section
theorem a7m{l:List Int}{i:Nat}(h:i<l.length):G9 l (i:Int)=some (hg l i):=by rw[G7];exact yj h
theorem a1G{l:List Int}{i j:Nat}(hi:i<l.length)(hj:j<l.length):dL l (i:Int) (j:Int)=some (E8 (hg l i) (hg l j)):=by unfold dL;rw[a7m hi,o8,a7m hj,o8]
theorem a1H{l:List Int}{i j:Nat}(hi:i<l.length)(hj:j<l.length):eH l (i:Int) (j:Int)=some (swp l i j):=by
 unfold eH;have e1:af l (X8 (i:Int))=some (hg l i):=yj hi;have e2:af l (X8 (j:Int))=some (hg l j):=yj hj;have hj2:j<(cO l (X8 (i:Int)) (hg l j)).length:=by show j<(l.set i (hg l j)).length;simp[hj]
 have e3:af (cO l (X8 (i:Int)) (hg l j)) (X8 (j:Int))=some (hg (cO l (X8 (i:Int)) (hg l j)) j):=yj hj2;rw[a7m hj,o8,e2,o8,a7m hi,o8,e1,o8,o8,o8,a7m hj2,o8,e3,o8];rfl
theorem Xj{l m:List Int}(h:l.Perm m):l.length=m.length:=h.length_eq
theorem c5G{l:List Int}{j:Nat}(hl:l.length<=100000)(hj:j<l.length)(h:QS l j):∃l',wS l (j:Int)=some l' /\KI l' l'.length/\l'.Perm l:=by
 unfold wS;have key:=fP (f:=λ(x:List Int×Int)=>l9 (x8 (fQ .i64 (H8 .i64 x.2 1) 2) x.2) (some (.inr x.1)) (o5 (dL x.1 x.2 (fQ .i64 (H8 .i64 x.2 1) 2)) λ(x_1:Bool)=>l9 (F6 x_1) (some (.inr x.1))
   (o5 (eH x.1 (fQ .i64 (H8 .i64 x.2 1) 2) x.2) λ(x_2:List Int)=>some (.inl (x_2,fQ .i64 (H8 .i64 x.2 1) 2)))))
  (s:=(l,(j:Int))) (λx=>∃(m:List Int) (k:Nat),x=(m,(k:Int))/\k<m.length/\QS m k/\m.Perm l) (λm=>KI m m.length/\m.Perm l) (λx=>x.2.toNat) ⟨l,j,rfl,hj,h,List.Perm.refl _⟩ U6 (by
  rintro x ⟨m,k,rfl,hk,hu,hp⟩;have hm:=Xj hp;by_cases h0:k=0
  ·subst h0;exact .inr ⟨m,rfl,Wl hu (.inl rfl),hp⟩
  have hpar:fQ .i64 (H8 .i64 (k:Int) 1) 2=(((k -1) / 2:Nat):Int):=by rw[O5 L8,Bd (by rw[jG l7];unfold bQ;omega),jG l7];omega
  simp only[hpar];rw[J3 l7,o6,a1G hk l7,o8];cases hc:E8 (hg m k) (hg m ((k -1) / 2))
  ·exact .inr ⟨m,rfl,Wl hu (.inr (by rw[jv]at hc;exact hc)),hp⟩
  ·rw[E5,o6,a1H l7 hk];exact .inl ⟨(swp m ((k -1) / 2) k,(((k -1) / 2:Nat):Int)),rfl,⟨_,_,rfl,by rw[JR];omega,a1F hu l7 hk (jl.1 hc),(LZ l7 hk).trans hp⟩,by simp;omega⟩)
 obtain⟨m,k1,k2,k3⟩:=key;exact⟨m,(qf k1 _).trans rfl,k2,k3⟩
theorem Zj{l:List Int}(hl:l.length<=1000)(h:KI l l.length)(x:Int):∃l',gU l x=some l' /\KI l' l'.length/\l'.Perm (l++[x]):=by
 unfold gU AV lG;rw[mQ _ l7,o8,o8,o8];have hlen:(l++[x]).length=l.length+1:=A7;have hu:QS (l++[x]) l.length:=by
  refine⟨λk k0 k1 k2=>?_,λh0 k k0 k1 k2=>by omega⟩;have hk:k<l.length:=l7;have hga:∀i,i<l.length->hg (l++[x]) i=hg l i:=λi hi=>by unfold hg;rw[AO,AO,J9 hi]
  rw[hga k hk,hga _ l7];exact h k k0 hk
 obtain⟨m,k1,k2,k3⟩:=c5G (l:=l++[x]) (j:=l.length) l7 l7 hu;refine⟨m,?_,k2,k3⟩;rw[show H8 .i64 (o9 (l++[x])) 1=((l.length:Nat):Int) by rw[O5 (by unfold bQ o9;omega)];simp[o9],k1];rfl
theorem b3U{l:List Int}{n i:Nat}(hl:l.length<=100000)(hn:n<=l.length)(hi:i<l.length)(h:Ir l n i):∃b l',uI l (i:Int) (n:Int)=some (b,l')/\KI l' n/\l'.Perm l/\l'.drop n=l.drop n:=by
 unfold uI;have key:=fP (f:=λ(x:List Int×Int)=>l9 (L9 (n:Int) (D6 .i64 (dF .i64 2 x.2) 1)) (some (.inr x)) (l9 (E8 (D6 .i64 (dF .i64 2 x.2) 1) 0) (some (.inr x)) (l9 (E8 (D6 .i64 (D6 .i64 (dF .i64 2 x.2) 1) 1) (n:Int))
   (o5 (dL x.1 (D6 .i64 (D6 .i64 (dF .i64 2 x.2) 1) 1) (D6 .i64 (dF .i64 2 x.2) 1)) λ(x_1:Bool)=>l9 x_1 (o5 (dL x.1 (D6 .i64 (D6 .i64 (dF .i64 2 x.2) 1) 1) x.2) λ(x_2:Bool)=>l9 (F6 x_2) (some (.inr x))
     (o5 (eH x.1 x.2 (D6 .i64 (D6 .i64 (dF .i64 2 x.2) 1) 1)) λ(x_3:List Int)=>some (.inl (x_3,D6 .i64 (D6 .i64 (dF .i64 2 x.2) 1) 1)))) (o5 (dL x.1 (D6 .i64 (dF .i64 2 x.2) 1) x.2) λ(x_2:Bool)=>l9 (F6 x_2) (some (.inr x))
     (o5 (eH x.1 x.2 (D6 .i64 (dF .i64 2 x.2) 1)) λ(x_3:List Int)=>some (.inl (x_3,D6 .i64 (dF .i64 2 x.2) 1)))))
   (o5 (dL x.1 (D6 .i64 (dF .i64 2 x.2) 1) x.2) λ(x_1:Bool)=>l9 (F6 x_1) (some (.inr x)) (o5 (eH x.1 x.2 (D6 .i64 (dF .i64 2 x.2) 1)) λ(x_2:List Int)=>some (.inl (x_2,D6 .i64 (dF .i64 2 x.2) 1)))))))
  (s:=(l,(i:Int))) (λx=>∃(m:List Int) (k:Nat),x=(m,(k:Int))/\k<m.length/\Ir m n k/\m.Perm l/\m.drop n=l.drop n) (λy=>KI y.1 n/\y.1.Perm l/\y.1.drop n=l.drop n) (λx=>l.length -x.2.toNat) ⟨l,i,rfl,hi,h,List.Perm.refl _,rfl⟩ U6 (by
  rintro x ⟨m,k,rfl,hk,hd,hp,hdr⟩;have hm:=Xj hp;have hc1:D6 .i64 (dF .i64 2 (k:Int)) 1=((2*k+1:Nat):Int):=by rw[lK L8,U7 L8];omega
  have hc2:D6 .i64 (((2*k+1:Nat):Int)) 1=((2*k+2:Nat):Int):=by rw[U7 L8];omega
  have dswp:∀a b,a<n->b<n->(swp m a b).drop n=l.drop n:=λa b ha hb=>by unfold swp;rw[List.drop_set_of_lt hb,List.drop_set_of_lt ha,hdr]
  simp only[hc1,hc2];by_cases h1:n<=2*k+1
  ·rw[V5 l7,o7];exact .inr ⟨_,rfl,Es hd (λj j0 j1 j2=>by omega),hp,hdr⟩
  rw[V9 l7,o6,J6 l7,o6];by_cases h2:2*k+2<n
  ·rw[O0 l7,o7,a1G l7 l7,o8];cases hc:E8 (hg m (2*k+2)) (hg m (2*k+1))
   ·rw[jv]at hc;rw[o6,a1G l7 hk,o8];cases hq:E8 (hg m (2*k+1)) (hg m k)
    ·rw[jv]at hq;exact .inr ⟨_,rfl,Es hd (λj j0 j1 j2=>by have:j=2*k+1\/j=2*k+2:=l7;rcases this with rfl|rfl<;>(dsimp only;omega)),hp,hdr⟩
    ·rw[E5,o6,a1H hk l7];exact .inl ⟨(swp m k (2*k+1),((2*k+1:Nat):Int)),rfl,⟨_,_,rfl,by rw[JR];omega,Ih hd l7 l7 l7 l7 (λj j0 j1 j2=>by
      have:j=2*k+1\/j=2*k+2:=l7;rcases this with rfl|rfl
      ·exact ed _
      ·exact hc) (jl.1 hq),(LZ hk l7).trans hp,dswp _ _ l7 l7⟩,by simp;omega⟩
   ·rw[jl]at hc;rw[o7,a1G l7 hk,o8];cases hq:E8 (hg m (2*k+2)) (hg m k)
    ·rw[jv]at hq;exact .inr ⟨_,rfl,Es hd (λj j0 j1 j2=>by have:j=2*k+1\/j=2*k+2:=l7;rcases this with rfl|rfl<;>(dsimp only;omega)),hp,hdr⟩
    ·rw[E5,o6,a1H hk l7];exact .inl ⟨(swp m k (2*k+2),((2*k+2:Nat):Int)),rfl,⟨_,_,rfl,by rw[JR];omega,Ih hd l7 l7 l7 l7 (λj j0 j1 j2=>by
      have:j=2*k+1\/j=2*k+2:=l7;rcases this with rfl|rfl
      ·omega
      ·exact ed _) (jl.1 hq),(LZ hk l7).trans hp,dswp _ _ l7 l7⟩,by simp;omega⟩
  ·rw[J6 l7,o6,a1G l7 hk,o8];cases hq:E8 (hg m (2*k+1)) (hg m k)
   ·rw[jv]at hq;exact .inr ⟨_,rfl,Es hd (λj j0 j1 j2=>by have:j=2*k+1:=l7;subst this;omega),hp,hdr⟩
   ·rw[E5,o6,a1H hk l7];exact .inl ⟨(swp m k (2*k+1),((2*k+1:Nat):Int)),rfl,⟨_,_,rfl,by rw[JR];omega,Ih hd l7 l7 l7 l7 (λj j0 j1 j2=>by have:j=2*k+1:=l7;subst this;exact ed _) (jl.1 hq),(LZ hk l7).trans hp,dswp _ _ l7 l7⟩,by simp;omega⟩)
 obtain⟨y,k1,k2,k3,k4⟩:=key;exact⟨E8 (i:Int) y.2,y.1,(qf k1 _).trans rfl,k2,k3,k4⟩
theorem a9x{l:List Int}(hl:l.length<=1000)(h:KI l l.length)(h0:0<l.length):∃l',qO l=some (hg l 0,l')/\KI l' l'.length/\(l' ++[hg l 0]).Perm l:=by
 obtain⟨n,hn⟩:∃n,l.length=n+1:=⟨l.length -1,l7⟩;have hsub:H8 .i64 ((l.length:Nat):Int) 1=((n:Nat):Int):=by rw[O5 L8];omega
 unfold qO lG;rw[o8,show o9 l=((l.length:Nat):Int)from rfl,hsub,show(0:Int)=((0:Nat):Int)from rfl,a1H l7 l7,o8];have hlen:(swp l 0 n).length=n+1:=by rw[JR,hn]
 obtain⟨b,m,k1,k2,k3,k4⟩:=b3U (l:=swp l 0 n) (n:=n) (i:=0) l7 l7 l7 (a4b h l7);rw[k1,o8];have hml:=Xj k3;have hmn:m.length=n+1:=l7;have hlast:hg m n=hg l 0:=by
  have e1:(m.drop n)[0]? =((swp l 0 n).drop n)[0]?:=by rw[k4]
  rw[U8,U8,eP,yj l7,yj l7]at e1;rw[I4 e1,F_ l7 l7,if_pos rfl]
 unfold Cc;dsimp only;have hs2:H8 .i64 (o9 m) 1=((n:Nat):Int):=by rw[show o9 m=((m.length:Nat):Int)from rfl,hmn,O5 L8];omega
 rw[hs2,a7m l7,o8,show af m (X8 (n:Int))=some (hg m n)from yj (i:=n) l7,o8,show rC 0 (n:Int) (o9 m)=true by simp[rC,o9];omega,o7,show oP m (X8 0) (X8 (n:Int))=m.take n by simp[oP,X8],hlast];refine⟨m.take n,rfl,?_,?_⟩
 ·have:(m.take n).length=n:=by simp;omega
  rw[this];intro k k0 k1';have hga:∀i,i<n->hg (m.take n) i=hg m i:=λi hi=>by unfold hg;rw[AO,AO,di hi]
  rw[hga k k1',hga _ l7];exact k2 k k0 k1'
 ·have hcat:m.take n++[hg l 0]=m:=by
   rw[←hlast];have e:m.drop n=[hg m n]:=by
    apply dV;intro i;rw[U8];cases i with
    |zero=>rw[eP,yj l7];rfl|succ i=>rw[bu l7];rfl
   rw[←e,eY]
  rw[hcat];exact k3.trans (LZ l7 l7)
def KD(O:List Int)(x:Int):Bool:=O.any λy=>x8 y x
theorem FD{O:List Int}{x:Int} :KD O x=true↔x∈O:=by
 unfold KD;rw[kN];constructor
 ·rintro⟨y,hy,h⟩;rw[V6]at h;exact h▸hy
 ·exact λh=>⟨x,h,O8 rfl⟩
def b1q(s:D9)(d:Int)(O:List Int):Bool:=(P7 s d).all λx=>KD O x
def okN(s:D9)(O:List Int)(d:Nat):Bool:=l9 (KD O (d:Int)) false (b1q s (d:Int) O)
def TS(s:D9)(O:List Int)(d:Nat):Option Nat:=l9 (okN s O d) (some d) none
def NM(s:D9)(O:List Int):Option Nat:=Z8 s.2.2.2.1.length (TS s O)
theorem b0c{s:D9}{O:List Int}{d r:Nat}(h:TS s O d=some r):r=d/\okN s O d=true:=by
 unfold TS at h;cases hq:okN s O d<;>rw[hq]at h
 ·cases h
 ·cases h;exact⟨rfl,rfl⟩
theorem WY{s:D9}{O:List Int}{d:Nat}(h:NM s O=some d):d<s.2.2.2.1.length/\okN s O d=true:=by obtain⟨i,hi,hp⟩:=bW h;obtain⟨rfl,ho⟩:=b0c hp;exact⟨hi,ho⟩
theorem a2h{s:D9}{O:List Int}{d:Nat}(hd:d<s.2.2.2.1.length)(ho:okN s O d=true)(hn:∀j,j<d->okN s O j=false):NM s O=some d:=by unfold NM;exact PD (p:=TS s O) (jo.2 λj hj=>by unfold TS;rw[hn j (ay.1 hj)];rfl) (by unfold TS;rw[ho];rfl) hd
theorem a4j{s:D9}{O:List Int}(hn:∀j,j<s.2.2.2.1.length->okN s O j=false):NM s O=none:=by unfold NM Z8;exact jo.2 λj hj=>by unfold TS;rw[hn j (ay.1 hj)];rfl
def Xf(s:D9):Nat->List Int->List Int⊕(List Int×Int)
 |0,O=> .inl O|k+1,O=>if O.length<s.2.2.2.1.length then(match NM s O with|none=> .inr ([],9)|some d=>Xf s k (O++[(d:Int)]))else .inl O
def vF(s:D9):List Int×Int:=match Xf s 100 []with| .inl O=>(O,0)| .inr x=>x
def pz(s:D9)(e:Int)(i:Nat):List Nat:=onL (λd=>decide (e∈P7 s (d:Int))) i
def PN(s:D9)(O:List Int)(d:Int):List Int:=(P7 s d).filter λx=> !KD O x
def hw(W:List Int)(d:Int):Int:=W.getD d.toNat 0
theorem a9y{W:List Int}{d:Int}(h0:0<=d)(h:d<o9 W):G9 W d=some (hw W d)/\af W (X8 d)=some (hw W d):=by have:=UU h0 h;refine⟨this,?_⟩;unfold G9 at this;rw[if_pos h0]at this;exact this
theorem a9z{W:List Int}{d:Int}(h0:0<=d)(h:d<o9 W)(v x:Int)(hx:0<=x):hw (cO W (X8 d) v) x=if x=d then v else hw W x:=by
 unfold hw;have hl:d.toNat<W.length:=by simp only[o9]at h;omega
 show(W.set d.toNat v).getD x.toNat 0=_;rw[AO,AO,X3];by_cases hq:x=d
 ·subst hq;rw[if_pos rfl,if_pos hl,if_pos rfl];rfl
 ·rw[if_neg l7,if_neg hq]
theorem WF(W:List Int)(i:Nat)(v:Int):(cO W i v).length=W.length:=by show(W.set i v).length=_;simp
theorem RX{l:List Int}{n:Nat}(hd:l.Nodup)(hr:∀x∈l,0<=x/\x<(n:Int)):l.length<=n:=by
 have hp:=FK l;have hs:=Eu l;have hnd:(IU l).Nodup:=hp.nodup_iff.2 hd;have hsi:SI (IU l):=by have:=List.Pairwise.and hs hnd;exact this.imp λ{a b} ⟨h1,h2⟩=>by omega
 have:=XJ n hsi λx hx=>hr x (hp.mem_iff.1 hx);rw[hp.length_eq]at this;exact this
theorem a1x{l:List Int}(h:SI l){O:List Int}{m:Int}(hm:m∉O):((l.filter λx=> !KD (O++[m]) x).length:Int)=((l.filter λx=> !KD O x).length:Int) -(if m∈l then 1 else 0):=by
 have hh:∀x,KD (O++[m]) x=(KD O x || x8 m x):=λx=>by unfold KD;rw[tu];simp
 induction l with
 |nil=>simp|cons a l ih=>
  have h' :=W9.1 h;have ih' :=ih h'.2;rw[fE,fE,hh];by_cases hma:m=a
  ·subst hma;have hno:m∉l:=λhx=>by have:=h'.1 m hx;omega
   rw[if_neg hno]at ih';have h1:KD O m=false:=by
    cases hq:KD O m
    ·rfl
    ·exact absurd (FD.1 hq) hm
   have hA:(!(KD O m || x8 m m))=false:=by rw[O8 rfl];simp
   have hB:(!KD O m)=true:=by rw[h1];rfl
   rw[hA,hB,if_pos (show m∈m::l by simp)];simp only[bJ,if_false,if_true,F5];omega
  ·rw[J3 hma,Bool.or_false];have:(if m∈a::l then(1:Int)else 0)=if m∈l then 1 else 0:=by simp[hma]
   rw[this];cases KD O a
   ·simp only[Bool.not_false,if_true,F5];omega
   ·simp only[jB,bJ,if_false];exact ih'
structure KInv (s:D9) (O W H:List Int):Prop where
 nd:O.Nodup
 rng:∀x∈O,0<=x/\x<nD s
 cl:∀u∈O,∀x∈P7 s u,x∈O
 wl:W.length=s.2.2.2.1.length
 w:∀d,0<=d->d<nD s->hw W d=((PN s O d).length:Int)
 hp:KI H H.length
 hnd:H.Nodup
 hm:∀d,d∈H↔0<=d/\d<nD s/\d∉O/\hw W d=0
theorem a4o{s:D9}{O:List Int}{d:Nat} :okN s O d=true↔(d:Int)∉O/\PN s O (d:Int)=[]:=by
 unfold okN b1q PN;cases hq:KD O (d:Int)
 ·have h1:(d:Int)∉O:=λh=>by rw[FD.2 h]at hq;cases hq
  simp only[o6,ja,lV,kM,Bool.not_eq_false'];exact⟨λh=>⟨h1,λa ha=>by rw[h a ha]⟩,λh a ha=>h.2 a ha⟩
 ·have h1:=FD.1 hq;simp only[o7];exact⟨λh=>(by cases h),λh=>absurd h1 h.1⟩
theorem KInv.ready{s:D9}{O W H:List Int}(h:KInv s O W H){d:Nat}(hd:d<s.2.2.2.1.length):okN s O d=true↔(d:Int)∈H:=by
 have hn:nD s=((s.2.2.2.1.length:Nat):Int):=rfl;rw[a4o,h.hm];have:=h.w (d:Int) l7 l7;constructor
 ·rintro⟨h1,h2⟩;exact⟨l7,l7,h1,by rw[this,h2];rfl⟩
 ·rintro⟨_,_,h1,h2⟩;refine⟨h1,O9.1 ?_⟩;rw[this]at h2;omega
theorem KInv.next_none{s:D9}{O W:List Int}(h:KInv s O W []):NM s O=none:=
 a4j λj hj=>by
  cases hq:okN s O j
  ·rfl
  ·have:=(h.ready hj).1 hq;cases this
theorem KInv.next_some{s:D9}{O W H:List Int}(h:KInv s O W H)(h0:0<H.length):∃m:Nat,hg H 0=(m:Int)/\NM s O=some m/\m<s.2.2.2.1.length/\O.length<s.2.2.2.1.length:=by
 have hn:nD s=((s.2.2.2.1.length:Nat):Int):=rfl;have hmem:hg H 0∈H:=by have:=yj h0;exact rV this
 have hmm:=(h.hm _).1 hmem;obtain⟨m,hm⟩:∃m:Nat,hg H 0=(m:Int):=⟨(hg H 0).toNat,l7⟩;rw[hm]at hmem hmm;have hlt:m<s.2.2.2.1.length:=l7;refine⟨m,hm,a2h hlt ((h.ready hlt).2 hmem) λj hj=>?_,hlt,?_⟩
 ·cases hq:okN s O j
  ·rfl
  ·have hjH:=(h.ready l7).1 hq;obtain⟨i,hi,he⟩:=J7 hjH;have:=a9w h.hp i hi;have e:=yj hi;rw[dX hi,he]at e;have:=I4 e;omega
 ·have hnd:(O++[(m:Int)]).Nodup:=N8.2 ⟨h.nd,A7,λa ha b hb=>by simp at hb;subst hb;intro hq;subst hq;exact hmm.2.2.1 ha⟩;have:=RX (n:=s.2.2.2.1.length) hnd λx hx=>by
   rcases D8.1 hx with hx|hx
   ·exact h.rng x hx
   ·simp at hx;subst hx;omega
  simp at this;omega
structure UInv (s:D9) (W H0:List Int) (us:List Int) (W' H' :List Int):Prop where
 wl:W'.length=s.2.2.2.1.length
 w:∀d,0<=d->d<nD s->hw W' d=hw W d -(if d∈us then 1 else 0)
 hp:KI H' H'.length
 pm:∃P:List Int,H'.Perm (H0++P)/\P.Sublist us/\∀d,d∈P↔d∈us/\hw W d=1
theorem a5n{s:D9}(hs:SmS s){W H0 us:List Int}(hW:W.length=s.2.2.2.1.length)(hW2:∀d,0<=d->d<nD s->-1000<=hw W d/\hw W d<=1000)(hH:KI H0 H0.length)(hHl:H0.length<=100)(hus:SI us)(hur:∀u∈us,0<=u/\u<nD s)
  {f:List Int×List Int×Int->Option ((List Int×List Int×Int)⊕(List Int×List Int))}
  (hin:∀(i:Nat) (u:Int) (A B:List Int),us[i]? =some u->f (A,B,(i:Int))=o5 (G9 A u) λ(x_8:Int)=>o5 (af A (X8 u)) λ(x_9:Int)=>o5 (G9 A u) λ(x_10:Int)=>o5 (af A (X8 u)) λ(x_11:Int)=>
   o5 (G9 (cO A (X8 u) (H8 .i64 x_9 1)) u) λ(x_12:Int)=>o5 (af (cO A (X8 u) (H8 .i64 x_9 1)) (X8 u)) λ(x_13:Int)=>l9 (x8 x_13 0) (o5 (gU B u) λ(x_14:List Int)=>some (.inl (cO A (X8 u) (H8 .i64 x_9 1),x_14,D6 .i64 (i:Int) 1)))
    (some (.inl (cO A (X8 u) (H8 .i64 x_9 1),B,D6 .i64 (i:Int) 1))))
  (hend:∀(A B:List Int),f (A,B,(us.length:Int))=some (.inr (A,B))):∃W' H',aS f (W,H0,0)=some (W',H')/\UInv s W H0 us W' H' :=by
 have hn:nD s=((s.2.2.2.1.length:Nat):Int):=rfl;have hul:us.length<=14:=FH hs hus hur;obtain⟨e,h1,h2⟩:=fP (f:=f) (s:=(W,H0,0)) (λx=>∃(i:Nat) (A B:List Int),x=(A,B,(i:Int))/\i<=us.length/\UInv s W H0 (us.take i) A B/\B.length<=H0.length+i) (λe=>UInv s W H0 us e.1 e.2) (λx=>us.length -x.2.2.toNat)
  ⟨0,W,H0,rfl,l7,⟨hW,λd _ _=>by simp,hH,[],A7,A7,λd=>by simp⟩,l7⟩ U6 (by
  rintro x ⟨i,A,B,rfl,hi,hU,hBl⟩;by_cases hlt:i<us.length
  ·left;have e:=dX hlt;generalize us[i]=u at e;have hu:=hur u (rV e);have hst:us.take (i+1)=us.take i++[u]:=by rw[P9 hlt,(Y6.1 e).2]
   have hnot:u∉us.take i:=λhx=>by obtain⟨j,hj,hq⟩:=J7 hx;simp only[aV]at hj;have h3:=nX.1 hus j i l7 hlt l7;rw[qm]at hq;have h4:=(Y6.1 e).2;omega
   have hAl:=hU.wl;have hAu:=hU.w u hu.1 hu.2;rw[if_neg hnot]at hAu;have hbd:=hW2 u hu.1 hu.2;obtain⟨q1,q2⟩:=a9y (W:=A) hu.1 (by simp only[o9];omega);have hsub:H8 .i64 (hw A u) 1=hw A u -1:=O5 L8;have hA2:∀d,0<=d->d<nD s->hw (cO A (X8 u) (hw A u -1)) d=hw W d -(if d∈us.take (i+1)then 1 else 0):=λd d0 d1=>by
    rw[a9z hu.1 (by simp only[o9];omega) _ _ d0,hst];have:=hU.w d d0 d1;by_cases hq:d=u
    ·subst hq;rw[if_pos rfl,if_pos A7];omega
    ·rw[if_neg hq,this];simp[hq]
   obtain⟨q3,q4⟩:=a9y (W:=cO A (X8 u) (hw A u -1)) (d:=u) hu.1 (by simp only[o9,WF];omega);have hv:hw (cO A (X8 u) (hw A u -1)) u=hw A u -1:=by rw[a9z hu.1 (by simp only[o9];omega) _ _ hu.1,if_pos rfl]
   rw[hv]at q3 q4;obtain⟨P,p1,p2,p3⟩:=hU.pm;rw[hin i u A B e,q1,o8,q2,o8,o8,o8,hsub,q3,o8,q4,o8,dH l7];by_cases hz:hw A u -1=0
   ·obtain⟨B',b1,b2,b3⟩:=Zj (l:=B) l7 hU.hp u;rw[O8 hz,o7,b1,o8];have hB'l:B'.length=B.length+1:=by rw[b3.length_eq];simp
    refine⟨_,rfl,⟨i+1,_,_,rfl,hlt,⟨by rw[WF];exact hAl,hA2,b2,P++[u],?_,?_,λd=>?_⟩,l7⟩,by simp;omega⟩
    ·rw[←E9];exact b3.trans (p1.append_right [u])
    ·rw[hst];exact p2.append (List.Sublist.refl _)
    ·rw[D8,p3,hst,D8];constructor
     ·rintro(⟨h,h'⟩|h)
      ·exact⟨.inl h,h'⟩
      ·simp at h;subst h;exact⟨.inr A7,l7⟩
     ·rintro⟨h|h,h'⟩
      ·exact .inl ⟨h,h'⟩
      ·exact .inr h
   ·rw[J3 hz,o6];refine⟨_,rfl,⟨i+1,_,_,rfl,hlt,⟨by rw[WF];exact hAl,hA2,hU.hp,P,p1,?_,λd=>?_⟩,l7⟩,by simp;omega⟩
    ·rw[hst];exact p2.trans (List.sublist_append_left _ _)
    ·rw[p3,hst,D8];constructor
     ·rintro⟨h,h'⟩;exact⟨.inl h,h'⟩
     ·rintro⟨h|h,h'⟩
      ·exact⟨h,h'⟩
      ·simp at h;subst h;omega
  ·right;have:i=us.length:=l7;subst this;rw[aB]at hU;exact⟨_,hend _ _,hU⟩)
 exact⟨e.1,e.2,h1,h2⟩
theorem JU{s:D9}{m:Int}{d:Int} :d∈castL (pz s m s.2.2.2.1.length)↔0<=d/\d<nD s/\m∈P7 s d:=by
 have hn:nD s=((s.2.2.2.1.length:Nat):Int):=rfl;unfold castL;rw[ah];constructor
 ·rintro⟨k,hk,rfl⟩;obtain⟨h1,h2⟩:=a4p _ hk;exact⟨l7,l7,by simpa using h2⟩
 ·rintro⟨h1,h2,h3⟩;refine⟨d.toNat,?_,l7⟩;unfold pz onL;rw[aQ,ay];exact⟨l7,by rw[X0 h1];simpa using h3⟩
theorem Vy{l:List Nat}(h:l.Pairwise (·< ·)):SI (castL l):=List.Pairwise.map _ (λa b h=>by omega) h
theorem KInv.step{s:D9}{O W H:List Int}(h:KInv s O W H)(h0:0<H.length){m:Nat}(hm:hg H 0=(m:Int)){R:List Int}(hR:KI R R.length)(hRp:(R++[(m:Int)]).Perm H){W' H' :List Int}(hU:UInv s W R (castL (pz s (m:Int) s.2.2.2.1.length)) W' H'):KInv s (O++[(m:Int)]) W' H' :=by
 have hn:nD s=((s.2.2.2.1.length:Nat):Int):=rfl;have hmem:(m:Int)∈H:=by rw[←hm];have:=yj h0;exact rV this
 have hmm:=(h.hm _).1 hmem;have hleft:PN s O (m:Int)=[]:=by have:=h.w (m:Int) hmm.1 hmm.2.1;rw[hmm.2.2.2]at this;exact O9.1 l7
 have hdeps:∀x∈P7 s (m:Int),x∈O:=λx hx=>by have hnil:=lV.1 hleft x hx;simp only[kM,Bool.not_eq_false']at hnil;exact FD.1 hnil
 have hndR:(R++[(m:Int)]).Nodup:=hRp.nodup_iff.2 h.hnd;have hmR:(m:Int)∉R:=λhx=>by have:=(N8.1 hndR).2.2 _ hx _ (U3.2 rfl);exact this rfl
 have hRm:∀d,d∈R↔d∈H/\d≠(m:Int):=λd=>by
  rw[←hRp.mem_iff,D8,U3];constructor
  ·intro hx;exact⟨.inl hx,λhq=>hmR (hq▸hx)⟩
  ·rintro⟨hx|hx,hq⟩
   ·exact hx
   ·exact absurd hx hq
 obtain⟨P,p1,p2,p3⟩:=hU.pm;have huO:∀u,(m:Int)∈P7 s u->u∉O:=λu hu hx=>hmm.2.2.1 (h.cl u hx _ hu);refine⟨?_,?_,?_,hU.wl,λd d0 d1=>?_,hU.hp,?_,λd=>?_⟩
 ·exact N8.2 ⟨h.nd,A7,λa ha b hb=>by simp at hb;subst hb;intro hq;subst hq;exact hmm.2.2.1 ha⟩
 ·intro x hx;rcases D8.1 hx with hx|hx
  ·exact h.rng x hx
  ·simp at hx;subst hx;exact⟨hmm.1,hmm.2.1⟩
 ·intro u hu x hx;rcases D8.1 hu with hu|hu
  ·exact aO _ (h.cl u hu x hx)
  ·simp at hu;subst hu;exact aO _ (hdeps x hx)
 ·rw[hU.w d d0 d1,h.w d d0 d1];unfold PN;rw[a1x (Cf s d) hmm.2.2.1];congr 1;have:(d∈castL (pz s (m:Int) s.2.2.2.1.length))↔((m:Int)∈P7 s d):=by rw[JU];exact⟨λh=>h.2.2,λh=>⟨d0,d1,h⟩⟩
  by_cases hq:(m:Int)∈P7 s d
  ·rw[if_pos (this.2 hq),if_pos hq]
  ·rw[if_neg (λhx=>hq (this.1 hx)),if_neg hq]
 ·rw[p1.nodup_iff];refine N8.2 ⟨(N8.1 hndR).1,?_,λa ha b hb hq=>?_⟩
  ·have:(castL (pz s (m:Int) s.2.2.2.1.length)).Nodup:=(Vy (b0n _ _)).imp λ{a b} h=>by omega
   exact p2.nodup this
  ·subst hq;have h1:=(h.hm a).1 ((hRm a).1 ha).1;have h2:=(p3 a).1 hb;omega
 ·rw[p1.mem_iff,D8,hRm,p3,JU,h.hm];have hw' :=λd0 d1=>hU.w d d0 d1;have hmemU:d∈castL (pz s (m:Int) s.2.2.2.1.length)↔0<=d/\d<nD s/\(m:Int)∈P7 s d:=JU;constructor
  ·rintro(⟨⟨d0,d1,dO,dw⟩,dm⟩|⟨⟨d0,d1,dd⟩,dw⟩)
   ·refine⟨d0,d1,λhx=>?_,?_⟩
    ·rcases D8.1 hx with hx|hx
     ·exact dO hx
     ·simp at hx;exact dm hx
    ·have hnot:(m:Int)∉P7 s d:=λhx=>by
      have h1:=h.w d d0 d1;rw[dw]at h1;have h2:PN s O d=[]:=O9.1 l7;have h3:=lV.1 h2 _ hx;simp only[kM,Bool.not_eq_false']at h3;exact hmm.2.2.1 (FD.1 h3)
     rw[hw' d0 d1,dw,if_neg (λhx=>hnot (hmemU.1 hx).2.2)];rfl
   ·refine⟨d0,d1,λhx=>?_,?_⟩
    ·rcases D8.1 hx with hx|hx
     ·exact huO d dd hx
     ·simp at hx;rw[hx]at dd;exact hmm.2.2.1 (hdeps _ dd)
    ·rw[hw' d0 d1,if_pos (hmemU.2 ⟨d0,d1,dd⟩)];omega
  ·rintro⟨d0,d1,dO,dw⟩;rw[hw' d0 d1]at dw;have dO1:d∉O:=λhx=>dO (aO _ hx);have dm:d≠(m:Int):=λhx=>dO (by rw[hx];simp);by_cases hq:(m:Int)∈P7 s d
   ·rw[if_pos (hmemU.2 ⟨d0,d1,hq⟩)]at dw;exact .inr ⟨⟨d0,d1,hq⟩,l7⟩
   ·rw[if_neg (λhx=>hq (hmemU.1 hx).2.2)]at dw;exact .inl ⟨⟨d0,d1,dO1,l7⟩,dm⟩
def CX(s:D9)(i:Nat):List (List Int):=(List.range s.2.2.2.1.length).map λ(e:Nat)=>castL (pz s (e:Int) i)
theorem IA(l:List Nat):(castL l).length=l.length:=by unfold castL;rw[X6]
theorem a5o(s:D9)(e:Int)(i:Nat):castL (pz s e (i+1))=castL (pz s e i)++(if e∈P7 s (i:Int)then[(i:Int)]else[]):=by unfold pz;rw[Xd];by_cases h:e∈P7 s (i:Int)<;>simp[castL,h]
theorem a5m{s:D9}(hs:SmS s)(i:Nat)(hi:i<s.2.2.2.1.length){f:List (List Int)×Int->Option ((List (List Int)×Int)⊕List (List Int))}
  (hin:∀(k:Nat) (e:Int) (A:List (List Int)),(P7 s (i:Int))[k]? =some e->f (A,(k:Int))=l9 (inb e (o9 A)) (o5 (af A (X8 e)) λ(x_7:List Int)=>o5 (iY x_7 [(i:Int)]) λ(x_8:List Int)=>l9 (inb e (o9 A)) (l9 (Ov (X8 e) (X8 e)) (o5 (af A (X8 e)) λ(x_9:List Int)=>some (.inl (cO A (X8 e) x_8,D6 .i64 (k:Int) 1))) none) none) none)
  (hend:∀A,f (A,((P7 s (i:Int)).length:Int))=some (.inr A)):aS f (CX s i,0)=some (CX s (i+1)):=by
 have hn:nD s=((s.2.2.2.1.length:Nat):Int):=rfl;have hdl:=Oc hs (i:Int);have hnd:=hs.nd;have hsi:=Cf s (i:Int);refine(zZ (P7 s (i:Int)) (λ(A:List (List Int)) e=>A.set e.toNat (A.getD e.toNat []++[(i:Int)])) (λb k=>(b,k)) (λb=>b) (λk A=>A=(List.range s.2.2.2.1.length).map λ(e:Nat)=>castL (pz s (e:Int) i)++(if(e:Int)∈(P7 s (i:Int)).take k then[(i:Int)]else[])) (b:=CX s i) l7 (by simp[CX]) (λk e A he hk hA=>?_) (λA hA=>hend A)).1.trans ?_
 ·have hlt:=(Y6.1 he).1;have her:=xY (rV he);have hst:(P7 s (i:Int)).take (k+1)=(P7 s (i:Int)).take k++[e]:=by rw[P9 hlt,(Y6.1 he).2]
  have hnot:e∉(P7 s (i:Int)).take k:=λhx=>by obtain⟨j,hj,hq⟩:=J7 hx;simp only[aV]at hj;have h3:=nX.1 hsi j k l7 hlt l7;rw[qm]at hq;have h4:=(Y6.1 he).2;omega
  have hlA:A.length=s.2.2.2.1.length:=by rw[hA];simp
  have hg:A[e.toNat]? =some (castL (pz s e i)):=by rw[hA,Ez _ _ (show e.toNat<s.2.2.2.1.length by omega),X0 her.1,if_neg hnot,H9]
  have hul:(castL (pz s e i)).length<=i:=by rw[IA];exact JA _ _
  rw[hin k e A he,show inb e (o9 A)=true from decide_eq_true ⟨her.1,by simp only[o9];omega⟩,o7,show af A (X8 e)=some (castL (pz s e i))from hg,o8,mQ _ l7,o8,o7,show Ov (X8 e) (X8 e)=true by simp[Ov],o7,o8,dH l7];rw[show A.getD e.toNat []=castL (pz s e i) by rw[AO,hg];rfl];refine⟨rfl,?_⟩;rw[hA,UO];apply cu;intro d hd;rw[hst];by_cases hq:d=e.toNat
  ·subst hq;rw[if_pos rfl,X0 her.1,if_pos A7]
  ·rw[if_neg hq];have:(if(d:Int)∈(P7 s (i:Int)).take k++[e]then[(i:Int)]else[])=if(d:Int)∈(P7 s (i:Int)).take k then[(i:Int)]else[]:=by
    have:(d:Int)≠e:=l7;simp[this]
   rw[this]
 ·have h2:=(zZ (P7 s (i:Int)) (λ(A:List (List Int)) e=>A.set e.toNat (A.getD e.toNat []++[(i:Int)])) (λb k=>(b,k)) (λb=>b) (λk A=>A=(List.range s.2.2.2.1.length).map λ(e:Nat)=>castL (pz s (e:Int) i)++(if(e:Int)∈(P7 s (i:Int)).take k then[(i:Int)]else[])) (f:=f) (b:=CX s i) l7 (by simp[CX]) (λk e A he hk hA=>by
   have hlt:=(Y6.1 he).1;have her:=xY (rV he);have hst:(P7 s (i:Int)).take (k+1)=(P7 s (i:Int)).take k++[e]:=by rw[P9 hlt,(Y6.1 he).2]
   have hnot:e∉(P7 s (i:Int)).take k:=λhx=>by obtain⟨j,hj,hq⟩:=J7 hx;simp only[aV]at hj;have h3:=nX.1 hsi j k l7 hlt l7;rw[qm]at hq;have h4:=(Y6.1 he).2;omega
   have hlA:A.length=s.2.2.2.1.length:=by rw[hA];simp
   have hg:A[e.toNat]? =some (castL (pz s e i)):=by rw[hA,Ez _ _ (show e.toNat<s.2.2.2.1.length by omega),X0 her.1,if_neg hnot,H9]
   have hul:(castL (pz s e i)).length<=i:=by rw[IA];exact JA _ _
   rw[hin k e A he,show inb e (o9 A)=true from decide_eq_true ⟨her.1,by simp only[o9];omega⟩,o7,show af A (X8 e)=some (castL (pz s e i))from hg,o8,mQ _ l7,o8,o7,show Ov (X8 e) (X8 e)=true by simp[Ov],o7,o8,dH l7];rw[show A.getD e.toNat []=castL (pz s e i) by rw[AO,hg];rfl];refine⟨rfl,?_⟩;rw[hA,UO];apply cu;intro d hd;rw[hst];by_cases hq:d=e.toNat
   ·subst hq;rw[if_pos rfl,X0 her.1,if_pos A7]
   ·rw[if_neg hq];have:(if(d:Int)∈(P7 s (i:Int)).take k++[e]then[(i:Int)]else[])=if(d:Int)∈(P7 s (i:Int)).take k then[(i:Int)]else[]:=by
     have:(d:Int)≠e:=l7;simp[this]
    rw[this]) (λA hA=>hend A)).2
  rw[h2];unfold CX;apply congrArg some;apply cu;intro d hd;rw[a5o,aB]
theorem a9t{α β σ:Type}{o:Option α}{x:α}{K:α->Option (σ⊕β)}{Q:σ->Prop}(h:o=some x)(hk:∃s',K x=some (.inl s')/\Q s'):∃s',o5 o K=some (.inl s')/\Q s' :=by rw[h];exact hk
structure IInv (s:D9) (i:Nat) (U:List (List Int)) (W H:List Int):Prop where
 u:U=CX s i
 w:W=pd ((List.range i).map λ(d:Nat)=>((P7 s (d:Int)).length:Int)) (s.2.2.2.1.length -i)
 hp:KI H H.length
 hnd:H.Nodup
 hm:∀d,d∈H↔0<=d/\d<(i:Int)/\P7 s d=[]
 hl:H.length<=i
theorem b0x{s:D9}(hs:SmS s):sU s=some (vF s):=by
 have hn:nD s=((s.2.2.2.1.length:Nat):Int):=rfl;have hnd:=hs.nd;unfold sU;rw[OT hs,o8];have hAl:o9 ((List.range s.2.2.2.1.length).map λ(d:Nat)=>P7 s (d:Int))=((s.2.2.2.1.length:Nat):Int):=by simp[o9]
 have hAg:∀i,i<s.2.2.2.1.length->((List.range s.2.2.2.1.length).map λ(d:Nat)=>P7 s (d:Int))[i]? =some (P7 s (i:Int)):=λi hi=>Ez _ _ hi;generalize (List.range s.2.2.2.1.length).map (λ(d:Nat)=>P7 s (d:Int))=A at*;rw[hAl,show vk ((s.2.2.2.1.length:Nat):Int) ([]:List Int)=some (CX s 0) by
  unfold vk CX pz onL castL;rw[if_pos l7];simp[List.map_const'],o8,show vk ((s.2.2.2.1.length:Nat):Int) (0:Int)=some (pd ((List.range 0).map λ(d:Nat)=>((P7 s (d:Int)).length:Int)) (s.2.2.2.1.length -0)) by
  unfold vk pd;rw[if_pos l7];simp,o8]
 obtain⟨e,k1,k2⟩:=fP (f:=λ(x_3:List (List Int)×List Int×List Int×Int)=>l9 (E8 x_3.2.2.2 ((s.2.2.2.1.length:Nat):Int)) (o5 (G9 A x_3.2.2.2) λ(x:List Int)=>o5 (G9 x_3.2.1 x_3.2.2.2) λ(x_4:Int)=>o5 (af x_3.2.1 (X8 x_3.2.2.2)) λ(x_5:Int)=>
   o5 (aS (λ(x_6:List (List Int)×Int)=>l9 (E8 x_6.2 (o9 x)) (o5 (G9 x x_6.2) λ(x:Int)=>l9 (inb x (o9 x_6.1)) (o5 (af x_6.1 (X8 x)) λ(x_7:List Int)=>o5 (iY x_7 [x_3.2.2.2]) λ(x_8:List Int)=>l9 (inb x (o9 x_6.1)) (l9 (Ov (X8 x) (X8 x)) (o5 (af x_6.1 (X8 x)) λ(x_9:List Int)=>some (.inl (cO x_6.1 (X8 x) x_8,D6 .i64 x_6.2 1))) none) none) none) (some (.inr x_6.1))) (x_3.1,0)) λ(y:List (List Int))=>
   l9 (x8 (o9 x) 0) (o5 (gU x_3.2.2.1 x_3.2.2.2) λ(x_6:List Int)=>some (.inl (y,cO x_3.2.1 (X8 x_3.2.2.2) (o9 x),x_6,D6 .i64 x_3.2.2.2 1))) (some (.inl (y,cO x_3.2.1 (X8 x_3.2.2.2) (o9 x),x_3.2.2.1,D6 .i64 x_3.2.2.2 1)))) (some (.inr (x_3.1,x_3.2.1,x_3.2.2.1))))
  (s:=(CX s 0,pd ((List.range 0).map λ(d:Nat)=>((P7 s (d:Int)).length:Int)) (s.2.2.2.1.length -0),[],0)) (λx=>∃(i:Nat) (U:List (List Int)) (W H:List Int),x=(U,W,H,(i:Int))/\i<=s.2.2.2.1.length/\IInv s i U W H) (λy=>IInv s s.2.2.2.1.length y.1 y.2.1 y.2.2) (λx=>s.2.2.2.1.length -x.2.2.2.toNat)
  ⟨0,_,_,_,rfl,l7,rfl,rfl,λk k0 k1=>by simp at k1,A7,λd=>by simp;omega,A7⟩ U6 (by
  rintro x ⟨i,U,W,H,rfl,hi,hI⟩;by_cases hlt:i<s.2.2.2.1.length
  ·left;obtain⟨m,hm⟩:∃m,s.2.2.2.1.length -i=m+1:=⟨s.2.2.2.1.length -i -1,l7⟩;have hlen:((List.range i).map λ(d:Nat)=>((P7 s (d:Int)).length:Int)).length=i:=A7;have q1:=Y_ ((List.range i).map λ(d:Nat)=>((P7 s (d:Int)).length:Int)) m;have q2:=Z_ ((List.range i).map λ(d:Nat)=>((P7 s (d:Int)).length:Int)) m;have q3:=a4w ((List.range i).map λ(d:Nat)=>((P7 s (d:Int)).length:Int)) m (o9 (P7 s (i:Int)));rw[hlen]at q1 q2 q3;have hW:=hI.w;rw[hm]at hW;have hl14:=hI.hl;have hus:=a5m hs i hlt (f:=λ(x_6:List (List Int)×Int)=>l9 (E8 x_6.2 (o9 (P7 s (i:Int)))) (o5 (G9 (P7 s (i:Int)) x_6.2) λ(x:Int)=>l9 (inb x (o9 x_6.1)) (o5 (af x_6.1 (X8 x)) λ(x_7:List Int)=>o5 (iY x_7 [(i:Int)]) λ(x_8:List Int)=>l9 (inb x (o9 x_6.1)) (l9 (Ov (X8 x) (X8 x)) (o5 (af x_6.1 (X8 x)) λ(x_9:List Int)=>some (.inl (cO x_6.1 (X8 x) x_8,D6 .i64 x_6.2 1))) none) none) none) (some (.inr x_6.1)))
    (λk e A he=>by simp only[U2 he,o7,G7,he,o8]) (λA=>by simp only[U1];rfl)
   simp only;rw[O0 l7,o7,G7,hAg i hlt,o8,hW,q1,o8,q2,o8,hI.u];refine a9t hus ?_;rw[q3,dH l7];have hwn:pd ((List.range i).map (λ(d:Nat)=>((P7 s (d:Int)).length:Int))++[o9 (P7 s (i:Int))]) m=pd ((List.range (i+1)).map λ(d:Nat)=>((P7 s (d:Int)).length:Int)) (s.2.2.2.1.length -(i+1)):=by rw[dD,iD,show s.2.2.2.1.length -(i+1)=m by omega];rfl
   rw[hwn];by_cases hz:(P7 s (i:Int)).length=0
   ·obtain⟨H',b1,b2,b3⟩:=Zj (l:=H) l7 hI.hp (i:Int);have hnil:=O9.1 hz;rw[O8 (by simp[o9,hz]),o7,b1,o8];have hni:(i:Int)∉H:=λhx=>by have:=(hI.hm _).1 hx;omega
    refine⟨_,rfl,⟨i+1,_,_,_,rfl,hlt,rfl,rfl,b2,?_,λd=>?_,by rw[b3.length_eq];simp;omega⟩,by simp;omega⟩
    ·rw[b3.nodup_iff];exact N8.2 ⟨hI.hnd,A7,λa ha b hb=>by simp at hb;subst hb;intro hq;subst hq;exact hni ha⟩
    ·rw[b3.mem_iff,D8,hI.hm,U3];constructor
     ·rintro(⟨h1,h2,h3⟩|h)
      ·exact⟨h1,l7,h3⟩
      ·subst h;exact⟨l7,l7,hnil⟩
     ·rintro⟨h1,h2,h3⟩;by_cases hq:d=(i:Int)
      ·exact .inr hq
      ·exact .inl ⟨h1,l7,h3⟩
   ·rw[J3 (by simp only[o9];omega),o6];refine⟨_,rfl,⟨i+1,_,_,_,rfl,hlt,rfl,rfl,hI.hp,hI.hnd,λd=>?_,l7⟩,by simp;omega⟩;rw[hI.hm];constructor
    ·rintro⟨h1,h2,h3⟩;exact⟨h1,l7,h3⟩
    ·rintro⟨h1,h2,h3⟩;refine⟨h1,?_,h3⟩;by_cases hq:d=(i:Int)
     ·subst hq;rw[h3]at hz;exact absurd rfl hz
     ·omega
  ·right;have:i=s.2.2.2.1.length:=l7;subst this;exact⟨(U,W,H),by simp only[J6 (show((s.2.2.2.1.length:Nat):Int)<=((s.2.2.2.1.length:Nat):Int) by omega)];rfl,hI⟩)
 refine(qf k1 _).trans ?_;obtain⟨U,W,H⟩:=e;simp only at k2 ⊢;have hwd:∀d,0<=d->d<nD s->hw W d=((P7 s d).length:Int):=λd d0 d1=>by have hd:d.toNat<s.2.2.2.1.length:=l7;rw[k2.w,az];unfold hw pd;rw[AO,oD,H9,Ez _ _ hd,X0 d0];rfl
 have hK:KInv s [] W H:=by
  refine⟨A7,A7,A7,by rw[k2.w];simp[pd],λd d0 d1=>?_,k2.hp,k2.hnd,λd=>?_⟩
  ·rw[hwd d d0 d1];have:PN s [] d=P7 s d:=List.filter_eq_self.2 λa _=>rfl;rw[this]
  ·rw[k2.hm];constructor
   ·rintro⟨h1,h2,h3⟩;exact⟨h1,l7,A7,by rw[hwd d h1 l7,h3];rfl⟩
   ·rintro⟨h1,h2,_,h4⟩;rw[hwd d h1 h2]at h4;exact⟨h1,l7,O9.1 l7⟩
 have hU:=k2.u;subst hU;have hlatU:∀m:Nat,m<s.2.2.2.1.length->G9 (CX s s.2.2.2.1.length) (m:Int)=some (castL (pz s (m:Int) s.2.2.2.1.length)):=λm hm=>by rw[G7];exact Ez _ _ hm
 have key:∀(k j:Nat) (O W H:List Int),KInv s O W H->s.2.2.2.1.length -O.length<k->k<=j->∃y,nZ (λ(x:List (List Int)×lW)=>o5 (lG x.2.2.1) λ(x_3:Int)=>l9 (E8 0 x_3) (o5 (qO x.2.2.1) λ(x_4:Int×List Int)=>o5 (iY x.2.2.2 [x_4.1]) λ(x_5:List Int)=>o5 (G9 x.1 x_4.1) λ(x_6:List Int)=>
   o5 (aS (λ(x:List Int×List Int×Int)=>l9 (E8 x.2.2 (o9 x_6)) (o5 (G9 x_6 x.2.2) λ(x_7:Int)=>o5 (G9 x.1 x_7) λ(x_8:Int)=>o5 (af x.1 (X8 x_7)) λ(x_9:Int)=>o5 (G9 x.1 x_7) λ(x_10:Int)=>o5 (af x.1 (X8 x_7)) λ(x_11:Int)=>o5 (G9 (cO x.1 (X8 x_7) (H8 .i64 x_9 1)) x_7) λ(x_12:Int)=>o5 (af (cO x.1 (X8 x_7) (H8 .i64 x_9 1)) (X8 x_7)) λ(x_13:Int)=>
     l9 (x8 x_13 0) (o5 (gU x.2.1 x_7) λ(x_14:List Int)=>some (.inl (cO x.1 (X8 x_7) (H8 .i64 x_9 1),x_14,D6 .i64 x.2.2 1))) (some (.inl (cO x.1 (X8 x_7) (H8 .i64 x_9 1),x.2.1,D6 .i64 x.2.2 1)))) (some (.inr (x.1,x.2.1)))) (x.2.1,x_4.2,0)) λ(y:List Int×List Int)=>some (.inl (x.1,y.1,y.2,x_5))) (some (.inr x.2.2.2))) j (CX s s.2.2.2.1.length,W,H,O)=some y/\Xf s k O=(if y.length<s.2.2.2.1.length then .inr ([],9)else .inl y):=by
  intro k;induction k with
  |zero=>intro j O W H hK hk;omega|succ k ih=>
   intro j O W H hK hk hj;obtain⟨j,rfl⟩:∃j',j=j' +1:=⟨j -1,l7⟩;rw[nZ];simp only[lG,o8];cases H with
   |nil=>refine⟨O,rfl,?_⟩;unfold Xf;rw[hK.next_none]|cons h0 H=>
    generalize hHH:h0::H=HH at*;have hpos:0<HH.length:=by rw[←hHH];simp
    obtain⟨m,hm1,hm2,hm3,hm4⟩:=hK.next_some hpos;have hHl:HH.length<=14:=kE (RX (n:=s.2.2.2.1.length) hK.hnd λx hx=>by have:=(hK.hm x).1 hx;omega) hnd;obtain⟨R,r1,r2,r3⟩:=a9x (l:=HH) l7 hK.hp hpos;rw[hm1]at r1 r3;have hRl:R.length<=14:=by have:=r3.length_eq;simp at this;omega
    have hOl:O.length<=14:=l7;obtain⟨W',H',u1,u2⟩:=a5n hs (W:=W) (H0:=R) (us:=castL (pz s (m:Int) s.2.2.2.1.length)) hK.wl (λd d0 d1=>by
      have h1:=hK.w d d0 d1;have h2:=bz (λx=> !KD O x) (P7 s d);have h3:=Oc hs d;unfold PN at h1;omega) r2 l7 (Vy (b0n _ _)) (λu hu=>by have:=JU.1 hu;omega)
     (f:=λ(x:List Int×List Int×Int)=>l9 (E8 x.2.2 (o9 (castL (pz s (m:Int) s.2.2.2.1.length)))) (o5 (G9 (castL (pz s (m:Int) s.2.2.2.1.length)) x.2.2) λ(x_7:Int)=>o5 (G9 x.1 x_7) λ(x_8:Int)=>o5 (af x.1 (X8 x_7)) λ(x_9:Int)=>o5 (G9 x.1 x_7) λ(x_10:Int)=>o5 (af x.1 (X8 x_7)) λ(x_11:Int)=>o5 (G9 (cO x.1 (X8 x_7) (H8 .i64 x_9 1)) x_7) λ(x_12:Int)=>o5 (af (cO x.1 (X8 x_7) (H8 .i64 x_9 1)) (X8 x_7)) λ(x_13:Int)=>
     l9 (x8 x_13 0) (o5 (gU x.2.1 x_7) λ(x_14:List Int)=>some (.inl (cO x.1 (X8 x_7) (H8 .i64 x_9 1),x_14,D6 .i64 x.2.2 1))) (some (.inl (cO x.1 (X8 x_7) (H8 .i64 x_9 1),x.2.1,D6 .i64 x.2.2 1)))) (some (.inr (x.1,x.2.1))))
     (λi u A B hu=>by simp only[U2 hu,o7,G7 (castL (pz s (m:Int) s.2.2.2.1.length)),hu,o8]) (λA B=>by simp only[U1];rfl)
    have hK2:=hK.step hpos hm1 r2 r3 u2;obtain⟨y,y1,y2⟩:=ih j (O++[(m:Int)]) W' H' hK2 U6 l7;refine⟨y,?_,?_⟩
    ·rw[O0 (show(0:Int)<o9 HH by simp only[o9];omega),o7,r1,o8,mQ _ l7,o8,hlatU m hm3,o8,u1,o8];exact y1
    ·unfold Xf;rw[if_pos hm4,hm2];exact y2
 obtain⟨y,y1,y2⟩:=key 100 lg [] W H hK U6 (by unfold lg;omega);refine(qf y1 _).trans ?_;unfold vF;rw[y2];by_cases hl:y.length<s.2.2.2.1.length
 ·rw[if_pos hl,O0 (by simp only[o9];omega)];rfl
 ·rw[if_neg hl,J6 (by simp only[o9];omega)];rfl
end
end Go.GP
namespace Gt
open Go Go.GP
def il(y:Int):Bool:=if y % 4=0 then(if y % 100≠0 then true else decide (y % 400=0))else false
def ys(y:Int):Int:=(y -1900)*365+((y -1) / 4 -(y -1) / 100+(y -1) / 400) -460
def diy(y:Int):Int:=if il y then 366 else 365
theorem Dk(y:Int):ys (y+1)=ys y+diy y:=by unfold ys diy il;by_cases h4:y % 4=0<;>by_cases h100:y % 100=0<;>by_cases h400:y % 400=0<;>simp[h4,h100,h400]<;>omega
theorem Nw(a b:Int):a<b\/b<=a:=l7
theorem Rn(y:Int):365<=diy y/\diy y<=366:=by unfold diy;split<;>omega
theorem ug{y y' :Int}(h:y<=y'):ys y<=ys y' :=by
 obtain⟨n,rfl⟩:∃n:Nat,y' =y+n:=⟨(y' -y).toNat,l7⟩;clear h;induction n with
 |zero=>simp|succ n ih=>have:=Dk (y+n);have:=Rn (y+n);have e:y+((n+1:Nat):Int)=y+n+1:=l7;rw[e];omega
theorem Nu{y:Int}(h:1900<=y):0<=ys y:=by
 have:=ug h;have e:ys 1900=0:=by decide+kernel
 omega
theorem a8A{y y' d:Int}(h1:ys y<=d)(h2:d<ys (y+1))(h3:ys y' <=d)(h4:d<ys (y' +1)):y=y' :=by
 rcases Int.lt_trichotomy y y' with h|h|h
 ·have:=ug (y:=y+1) (y' :=y') l7;omega
 ·exact h
 ·have:=ug (y:=y' +1) (y' :=y) l7;omega
def dim(y m:Int):Int:=
 if m=2 then(if il y then 29 else 28)else if m=4\/m=6\/m=9\/m=11 then 30 else 31
theorem Ce(y m:Int):28<=dim y m/\dim y m<=31:=by
 unfold dim;repeat' split
 all_goals omega
theorem KU{y:Int}(h:0<=y):GG y=some (il y):=by
 unfold GG il;simp only[xA h];by_cases h4:y % 4=0
 ·rw[iI (O8 h4),if_pos h4];by_cases h100:y % 100=0
  ·simp[x8,h100]
  ·simp[x8,h100]
 ·rw[gB (J3 h4),if_neg h4]
theorem Ku{y:Int}(h:0<=y):ED y=some (il y):=KU h
theorem Eg{y:Int}(h:0<=y):oq y=some (diy y):=by unfold oq diy;rw[Ku h,o8];cases il y<;>rfl
theorem m12{m:Int}(h:1<=m/\m<=12):m=1\/m=2\/m=3\/m=4\/m=5\/m=6\/m=7\/m=8\/m=9\/m=10\/m=11\/m=12:=l7
theorem uJ{y m:Int}(h:0<=y)(hm:1<=m/\m<=12):jL y m=some (dim y m):=by
 unfold jL;rcases m12 hm with rfl|rfl|rfl|rfl|rfl|rfl|rfl|rfl|rfl|rfl|rfl|rfl
 all_goals first|rfl|(rw[KU h];unfold dim;cases il y<;>rfl)
theorem tN{y m:Int}(h:0<=y)(hm:1<=m/\m<=12):kG y m=some (dim y m):=by
 unfold kG;rcases m12 hm with rfl|rfl|rfl|rfl|rfl|rfl|rfl|rfl|rfl|rfl|rfl|rfl
 all_goals first|rfl|(rw[Ku h];unfold dim;cases il y<;>rfl)
theorem GH{y:Int}(h:0<=y)(h2:y<=1000000):xn y=some (y / 4 -y / 100+y / 400):=by unfold xn;simp only[fQ,jG h];rw[kX L8,kX L8,kX L8,O5 L8,U7 L8]
theorem AU{y:Int}(h:1<=y)(h2:y<=1000000):qP y=some (ys y):=by unfold qP;have e1:H8 .i64 y 1900=y -1900:=O5 L8;have e2:dF .i64 (y -1900) 365=(y -1900)*365:=lK L8;rw[O5 (a:=y) (b:=1) L8,GH l7 l7,o8,GH l7 l7,o8,e1,e2,U7 L8,O5 L8];unfold ys;congr 1
def mo(y:Int):Nat->Int->Int×Int
 |0,d=>(d,13)|n+1,d=>if d<dim y (12 -n)then(d,12 -n)else mo y n (d -dim y (12 -n))
theorem Q_(y:Int)(n:Nat)(d:Int):mo y (n+1) d=if d<dim y (12 -(n:Int))then(d,12 -(n:Int))else mo y n (d -dim y (12 -(n:Int))):=rfl
def rem(y:Int):Nat->Int
 |0=>0|n+1=>dim y (12 -n)+rem y n
theorem a2B(y:Int):rem y 12=diy y:=by unfold diy;cases h:il y<;>simp[rem,dim,h]
theorem a6j(y:Int):∀(n:Nat) (d:Int),n<=12->0<=d->d<rem y n->1<=(mo y n d).2/\(mo y n d).2<=12/\0<=(mo y n d).1/\(mo y n d).1<dim y (mo y n d).2
 |0,d,_,h0,h=>by simp[rem]at h;omega|n+1,d,hn,h0,h=>by
  unfold mo;by_cases hd:d<dim y (12 -n)
  ·rw[if_pos hd];refine⟨?_,?_,h0,hd⟩<;>simp<;>omega
  ·rw[if_neg hd];refine a6j y n _ l7 l7 ?_;simp only[rem]at h;omega
def yOf(d:Int):Int:=((((List.range 300).find? (λ(k:Nat)=>decide (d<ys (1900+(k:Int)+1)))).getD 0:Nat):Int)+1900
theorem Jf{d:Int}(h0:0<=d)(h:d<=109572):1900<=yOf d/\yOf d<=2199/\ys (yOf d)<=d/\d<ys (yOf d+1):=by
 unfold yOf;cases hf:(List.range 300).find? (λ(k:Nat)=>decide (d<ys (1900+(k:Int)+1)))with
 |none=>
  have:=List.find?_eq_none.1 hf 299 A7;simp only[decide_eq_true_eq]at this;have e:ys (1900+(299:Nat)+1)=109573:=by decide+kernel
  omega
 |some k=>
  have h1:=List.find?_some hf;simp only[decide_eq_true_eq]at h1;have h2:=List.mem_of_find?_eq_some hf;simp only[ay]at h2;simp only[ai];refine⟨l7,l7,?_,?_⟩
  ·cases k with
   |zero=>
    have e:ys 1900=0:=by decide+kernel
    simp[e,h0]
   |succ j=>have h3:=List.find?_range_eq_some.1 hf;have h4:=h3.2.2 j l7;simp only[bZ,decide_eq_false_iff_not,gW]at h4;have e:(((j+1:Nat):Int)+1900)=1900+(j:Int)+1:=l7;rw[e];exact h4
  ·have e:(k:Int)+1900+1=1900+k+1:=l7;rw[e];exact h1
def jJ(d:Int):Int×Int×Int:=let y:=yOf d;let r:=mo y 12 (d -ys y);(y,r.2,r.1+1)
theorem yT{d:Int}(h0:0<=d)(h:d<=109572):vW d=some (jJ d):=by
 obtain⟨y1,y2,y3,y4⟩:=Jf h0 h;have y0:=Nu y1;unfold vW uk;rw[iI (V5 h0),o8,V5 h,E5,o6];have e0:D6 .i64 1900 (fQ .i64 d 366)=1900+d / 366:=by
  have e:fQ .i64 d 366=d / 366:=by rw[Bd (by rw[jG h0];unfold bQ;omega),jG h0]
  rw[e,U7 L8]
 rw[e0];obtain⟨y,hy,hq⟩:=fP (f:=λ(x:Int)=>o5 (qP (D6 IntKind.i64 x 1)) λ(x_1:Int)=>l9 (L9 x_1 d) (some (Sum.inl (D6 IntKind.i64 x 1))) (some (Sum.inr x))) (s:=1900+d / 366)
  (λy=>1900<=y/\y<=yOf d) (λy=>y=yOf d) (λy=>(2200 -y).toNat) (by
   refine⟨l7,?_⟩;have e:∀n:Nat,ys (1900+n)<=366*n:=by
    intro n;induction n with
    |zero=>decide+kernel|succ n ih=>have:=Dk (1900+n);have:=Rn (1900+n);have e:(1900:Int)+((n+1:Nat):Int)=1900+n+1:=l7;rw[e];omega
   have e1:=e (d / 366).toNat
   have e2:((d / 366).toNat:Int)=d / 366:=l7;rw[e2]at e1;rcases Nw (yOf d) (1900+d / 366)with hlt|hge
   ·have:=ug (y:=yOf d+1) (y' :=1900+d / 366) l7;omega
   ·exact hge) l7 (by
   intro y ⟨hy1,hy2⟩
   try simp only
   rw[U7 L8,AU l7 l7,o8];by_cases hle:ys (y+1)<=d
   ·refine .inl ⟨y+1,by rw[iI (V5 hle)],⟨l7,?_⟩,l7⟩;rcases Nw (yOf d) (y+1)with hlt|hge
    ·have:=ug (y:=yOf d+1) (y' :=y+1) l7;omega
    ·exact hge
   ·refine .inr ⟨y,by rw[gB (V9 l7)],?_⟩;rcases Nw y (yOf d)with hlt|hge
    ·have:=ug (y:=y+1) (y' :=yOf d) l7;omega
    ·omega)
 rw[hy,o8,hq,AU l7 l7,o8,O5 L8];have hs:=Dk (yOf d);have hr:=a2B (yOf d);rcases Aa (f:=λ(x:Int×Int)=>l9 (E8 x.2 12) (o5 (jL (yOf d) (D6 IntKind.i64 x.2 1)) λ(x_1:Int)=>l9 (E8 x.1 x_1) (some (Out.rt (yOf d,D6 IntKind.i64 x.2 1,D6 IntKind.i64 x.1 1))) (some (Out.nx (H8 IntKind.i64 x.1 x_1,D6 IntKind.i64 x.2 1)))) (some (Out.ex PUnit.unit))) (s:=(d -ys (yOf d),0))
  (λs=>∃n:Nat,n<=12/\s.2=12 -n/\mo (yOf d) n s.1=mo (yOf d) 12 (d -ys (yOf d))/\0<=s.1/\s.1<rem (yOf d) n/\s.1<=400) (λ_=>False) (λr=>r=jJ d) (λs=>(12 -s.2).toNat)
  ⟨12,l7,A7,rfl,l7,by rw[hr];show d -ys (yOf d)<_;omega,by have:=Rn (yOf d);show d -ys (yOf d)<=400;omega⟩ A7 (by
   rintro⟨r,i⟩ ⟨n,hn,hi,hm,hr0,hrn,hr4⟩;simp only at hi hm hr0 hrn hr4 ⊢;cases n with
   |zero=>simp[rem]at hrn;omega|succ n=>
    have ei:i+1=12 -n:=l7;rw[iI (O0 l7),U7 L8,ei,uJ l7 l7,o8];have hb:=Ce (yOf d) (12 -n);rw[Q_ (yOf d) n r]at hm;by_cases hlt:r<dim (yOf d) (12 -n)
    ·rw[if_pos hlt]at hm;refine .inr (.inr ⟨_,by rw[iI (O0 hlt)],?_⟩);rw[U7 L8];unfold jJ
     try simp only
     rw[←hm]
    ·rw[if_neg hlt]at hm;refine .inl ⟨_,by rw[gB (J6 l7),O5 L8],⟨n,l7,A7,hm,?_,?_,?_⟩,?_⟩
     ·simp;omega
     ·simp only[rem]at hrn ⊢;omega
     ·simp;omega
     ·simp;omega)with⟨_,_,hf⟩|⟨r,he,hr⟩
 ·exact hf.elim
 ·rw[he,o8,vP,hr]
theorem Gg{d:Int}(h0:0<=d)(h:d<=109572):c6N d=some (jJ d):=by
 obtain⟨y1,y2,y3,y4⟩:=Jf h0 h;have y0:=Nu y1;unfold c6N c6z;rw[iI (V5 h0),o8,V5 h,E5,o6];obtain⟨⟨r,y⟩,hy,hq⟩:=fP (f:=λ(x:Int×Int)=>o5 (oq x.2) λ(x_1:Int)=>l9 (L9 x_1 x.1) (o5 (oq x.2) λ(x_2:Int)=>some (Sum.inl (H8 IntKind.i64 x.1 x_2,D6 IntKind.i64 x.2 1))) (some (Sum.inr x))) (s:=(d,1900))
  (λs=>1900<=s.2/\s.2<=yOf d/\s.1=d -ys s.2) (λs=>s=(d -ys (yOf d),yOf d)) (λs=>(2200 -s.2).toNat)
  ⟨A7,by simpa using y1,by(have e:ys 1900=0:=by decide+kernel);simp[e]⟩ A7 (by
   rintro⟨r,y⟩ ⟨h1,h2,h3⟩;simp only at h1 h2 h3 ⊢;have hb:=Rn y;have hs:=Dk y;have hm:=ug h2;have hpos:0<=ys y:=by
     have:=ug (y:=1900) (y' :=y) h1;have e:ys 1900=0:=by decide+kernel
     omega
   rw[Eg l7,o8];by_cases hle:diy y<=r
   ·refine .inl ⟨(r -diy y,y+1),?_,⟨by simp;omega,?_,?_⟩,?_⟩
    ·rw[iI (V5 hle),o8,O5 L8,U7 L8]
    ·simp only;rcases Nw (yOf d) (y+1)with hlt|hge
     ·have:=ug (y:=yOf d+1) (y' :=y+1) l7;omega
     ·exact hge
    ·simp only;omega
    ·simp;omega
   ·refine .inr ⟨_,by rw[gB (V9 l7)],?_⟩;have e:y=yOf d:=a8A (d:=d) l7 l7 y3 y4;subst e;rw[h3])
 rw[hy,o8,hq]
 try simp only
 have hs:=Dk (yOf d);have hr:=a2B (yOf d);obtain⟨⟨r,m⟩,he,hq2⟩:=fP (f:=λ(x:Int×Int)=>o5 (kG (yOf d) x.2) λ(x_1:Int)=>l9 (L9 x_1 x.1) (o5 (kG (yOf d) x.2) λ(x_2:Int)=>some (Sum.inl (H8 IntKind.i64 x.1 x_2,D6 IntKind.i64 x.2 1))) (some (Sum.inr x))) (s:=(d -ys (yOf d),1))
  (λs=>∃n:Nat,n<=12/\s.2=13 -n/\mo (yOf d) n s.1=mo (yOf d) 12 (d -ys (yOf d))/\0<=s.1/\s.1<rem (yOf d) n/\s.1<=400) (λs=>s=mo (yOf d) 12 (d -ys (yOf d))) (λs=>(13 -s.2).toNat)
  ⟨12,l7,A7,rfl,l7,by rw[hr];show d -ys (yOf d)<_;omega,by have:=Rn (yOf d);show d -ys (yOf d)<=400;omega⟩ A7 (by
   rintro⟨r,i⟩ ⟨n,hn,hi,hm,hr0,hrn,hr4⟩;simp only at hi hm hr0 hrn hr4 ⊢;cases n with
   |zero=>simp[rem]at hrn;omega|succ n=>
    have ei:i=12 -n:=l7;subst ei;rw[tN l7 l7,o8];have hb:=Ce (yOf d) (12 -n);rw[Q_ (yOf d) n r]at hm;by_cases hlt:r<dim (yOf d) (12 -n)
    ·rw[if_pos hlt]at hm;exact .inr ⟨_,by rw[gB (V9 l7)],hm⟩
    ·rw[if_neg hlt]at hm;refine .inl ⟨(r -dim (yOf d) (12 -n),12 -n+1),by rw[iI (V5 l7),o8,O5 L8,U7 L8],⟨n,l7,by simp;omega,hm,?_,?_,?_⟩,?_⟩
     ·simp;omega
     ·simp only[rem]at hrn ⊢;omega
     ·simp;omega
     ·simp;omega)
 rw[he,o8,hq2];have hb:=a6j (yOf d) 12 (d -ys (yOf d)) l7 l7 (by rw[hr];omega);have hb2:=Ce (yOf d) (mo (yOf d) 12 (d -ys (yOf d))).2;rw[U7 L8];rfl
theorem Ee{d:Int}(h0:0<=d)(h:d<=109572):1900<=(jJ d).1/\(jJ d).1<=2199/\1<=(jJ d).2.1/\(jJ d).2.1<=12/\1<=(jJ d).2.2/\(jJ d).2.2<=31:=by
 obtain⟨y1,y2,y3,y4⟩:=Jf h0 h;have y0:=Nu y1;have hs:=Dk (yOf d);have hb:=a6j (yOf d) 12 (d -ys (yOf d)) l7 l7 (by rw[a2B];omega);have hb2:=Ce (yOf d) (mo (yOf d) 12 (d -ys (yOf d))).2;unfold jJ
 try simp only
 omega
end Gt
namespace Go.GP
open Gt
set_option maxRecDepth 100000
def qZ(y:Int):Nat->Int
 |0=>0|k+1=>qZ y k+dim y ((k:Int)+1)
def z_(y m d:Int):Int:=ys y+qZ y (m -1).toNat+d -1
theorem Qa(y:Int):∀k:Nat,k<=12->28*k<=qZ y k/\qZ y k<=31*k
 |0,_=>by simp[qZ]|k+1,h=>by have:=Qa y k l7;have:=Ce y ((k:Int)+1);unfold qZ;omega
theorem a7x(y:Int):qZ y 12=diy y:=by unfold qZ qZ qZ qZ qZ qZ qZ qZ qZ qZ qZ qZ qZ dim diy;simp;cases il y<;>simp
theorem a6l(y:Int):∀j k:Nat,j<=k->qZ y j<=qZ y k
 |j,0,h=>by have:j=0:=l7;subst this;omega|j,k+1,h=>by
  by_cases hq:j=k+1
  ·subst hq;omega
  ·have:=a6l y j k l7;have:=Ce y ((k:Int)+1);show qZ y j<=qZ y k+dim y ((k:Int)+1);omega
theorem b3T{y m d:Int}(hm:1<=m/\m<=12)(h1:1<=d)(h2:d<=dim y m):ys y<=z_ y m d/\z_ y m d<ys (y+1):=by
 have h3:=a6l y ((m -1).toNat+1) 12 l7;rw[a7x]at h3;have h4:qZ y ((m -1).toNat+1)=qZ y (m -1).toNat+dim y m:=by show qZ y (m -1).toNat+dim y (((m -1).toNat:Int)+1)=_;rw[X0 l7];congr 2;omega
 have h5:=Qa y (m -1).toNat l7;have h6:=Dk y;unfold z_;omega
theorem b3B{y:Int}(h:1900<=y)(h2:y<=2200):0<=ys y/\ys y<=109573:=by
 have h1:=Nu h;have h3:=ug h2;have:ys 2200=109573:=by decide
 omega
theorem a3X{y m d:Int}(hy:1900<=y/\y<=2199)(hm:1<=m/\m<=12)(h1:1<=d)(h2:d<=dim y m):Ei y m d=some (z_ y m d,0):=by
 have hyb:=b3B hy.1 l7;have hdb:=Ce y m;unfold Ei;rw[J6 hy.1,o6,J6 hy.2,o6,J6 hm.1,o6,J6 hm.2,o6,J6 h1,o6,uJ l7 hm,o8,J6 h2,o6,o8,N7,AU l7 l7,o8];have hs:H8 .i64 m 1=m -1:=O5 L8;obtain⟨e,k1,k2⟩:=fP (f:=λ(x:Int×Int)=>l9 (E8 x.2 (H8 .i64 m 1)) (o5 (jL y (D6 .i64 x.2 1)) λ(x_1:Int)=>some (.inl (D6 .i64 x.1 x_1,D6 .i64 x.2 1))) (some (.inr x.1)))
  (s:=(ys y,0)) (λx=>∃i:Nat,x=(ys y+qZ y i,(i:Int))/\(i:Int)<=m -1) (λe=>e=ys y+qZ y (m -1).toNat) (λx=>(m -1 -x.2).toNat) ⟨0,by simp[qZ],l7⟩ U6 (by
  rintro x ⟨i,rfl,hi⟩;simp only[hs];by_cases hlt:(i:Int)<m -1
  ·have hb:=Qa y i l7;have hd:=Ce y ((i:Int)+1);left;refine⟨(ys y+qZ y (i+1),((i+1:Nat):Int)),?_,⟨i+1,rfl,l7⟩,by simp;omega⟩;rw[O0 hlt,o7,dH l7,show(((i+1:Nat):Int))=(i:Int)+1 by omega,uJ l7 l7,o8,U7 L8];simp only[qZ];rw[Int.add_assoc]
  ·right;have:i=(m -1).toNat:=l7;subst this;exact⟨_,by rw[J6 l7];rfl,rfl⟩)
 refine(qf k1 _).trans ?_;have hb:=Qa y (m -1).toNat l7;rw[k2,U7 L8,O5 L8];rfl
theorem Ud{y m d:Int}(hy:1900<=y/\y<=2199)(hm:1<=m/\m<=12)(h1:1<=d)(h2:d<=dim y m):qJ y m d=some (z_ y m d,0):=by
 have hyb:=b3B hy.1 l7;have hdb:=Ce y m;unfold qJ;rw[J6 hy.1,o6,J6 hy.2,o6,J6 h1,o6,tN l7 hm,o8,J6 h2,o6,o8,N7,O5 L8];obtain⟨e,k1,k2⟩:=fP (f:=λ(x:Int×Int)=>l9 (E8 x.2 y) (o5 (oq x.2) λ(x_1:Int)=>some (.inl (D6 .i64 x.1 x_1,D6 .i64 x.2 1))) (some (.inr x.1)))
  (s:=(d -1,1900)) (λx=>∃i:Int,x=(d -1+ys i,i)/\1900<=i/\i<=y) (λe=>e=d -1+ys y) (λx=>(y -x.2).toNat) ⟨1900,by simp[show ys 1900=0 by decide],l7,l7⟩ U6 (by
  rintro x ⟨i,rfl,hi,hi2⟩;by_cases hlt:i<y
  ·left;have hb:=b3B hi l7;have hd:=Rn i;refine⟨(d -1+ys (i+1),i+1),?_,⟨i+1,rfl,l7,l7⟩,by simp;omega⟩;simp only;rw[O0 hlt,o7,Eg l7,o8,U7 L8,U7 L8,Dk,Int.add_assoc]
  ·right;have:i=y:=l7;subst this;exact⟨_,by simp only[J6 (show i<=i by omega)];rfl,rfl⟩)
 refine(qf k1 _).trans ?_;subst k2;obtain⟨e,k1,k2⟩:=fP (f:=λ(x:Int×Int)=>l9 (E8 x.2 m) (o5 (kG y x.2) λ(x_1:Int)=>some (.inl (D6 .i64 x.1 x_1,D6 .i64 x.2 1))) (some (.inr x.1)))
  (s:=(d -1+ys y,1)) (λx=>∃i:Nat,x=(d -1+ys y+qZ y i,(i:Int)+1)/\(i:Int)<=m -1) (λe=>e=d -1+ys y+qZ y (m -1).toNat) (λx=>(m -x.2).toNat) ⟨0,by simp[qZ],l7⟩ U6 (by
  rintro x ⟨i,rfl,hi⟩;by_cases hlt:(i:Int)+1<m
  ·have hb:=Qa y i l7;have hd:=Ce y ((i:Int)+1);left;refine⟨(d -1+ys y+qZ y (i+1),((i+1:Nat):Int)+1),?_,⟨i+1,rfl,l7⟩,by simp;omega⟩;simp only;rw[O0 hlt,o7,tN l7 l7,o8,U7 L8,U7 L8];simp only[qZ];rw[Int.add_assoc (d -1+ys y)];simp
  ·right;have:i=(m -1).toNat:=l7;subst this;exact⟨_,by simp only[J6 (show m<=((m -1).toNat:Int)+1 by omega)];rfl,rfl⟩)
 refine(qf k1 _).trans ?_;rw[k2];unfold z_;rw[show d -1+ys y+qZ y (m -1).toNat=ys y+qZ y (m -1).toNat+d -1 by omega]
def a6Q(d n:Int):Int×Int:=
 if ¬(0<=d/\d<=109572)\/n< -3600\/3600<n then(0,3)else
  if((jJ d).1 -1900)*12+(jJ d).2.1 -1+n<0\/3599<((jJ d).1 -1900)*12+(jJ d).2.1 -1+n then(0,3)else
   (z_ (1900+(((jJ d).1 -1900)*12+(jJ d).2.1 -1+n) / 12) ((((jJ d).1 -1900)*12+(jJ d).2.1 -1+n) % 12+1) (pF (jJ d).2.2 (dim (1900+(((jJ d).1 -1900)*12+(jJ d).2.1 -1+n) / 12) ((((jJ d).1 -1900)*12+(jJ d).2.1 -1+n) % 12+1))),0)
theorem MS(a b:Int):pF a b=if b<a then b else a:=rfl
theorem OQ(d n:Int):uS d n=some (a6Q d n):=by
 unfold uS uk a6Q;by_cases h0:0<=d/\d<=109572
 case neg=>
  rw[if_pos (.inl h0)];by_cases h1:0<=d
  ·rw[V5 h1,V9 l7];rfl
  ·rw[V9 l7];rfl
 rw[V5 h0.1,V5 h0.2,o7,o8,E5,o6];by_cases h1:n< -3600
 ·rw[O0 h1,if_pos (.inr (.inl h1))];rfl
 by_cases h2:3600<n
 ·rw[J6 l7,O0 h2,if_pos (.inr (.inr h2))];rfl
 rw[J6 l7,J6 l7,if_neg l7,o6,o6,o8,N7,yT h0.1 h0.2,o8];obtain⟨b1,b2,b3,b4,b5,b6⟩:=Ee h0.1 h0.2;generalize jJ d=q at*;obtain⟨y,m,dd⟩:=q;simp only at b1 b2 b3 b4 b5 b6 ⊢;have e1:H8 .i64 y 1900=y -1900:=O5 L8;have e2:dF .i64 (y -1900) 12=(y -1900)*12:=lK L8;have e3:D6 .i64 ((y -1900)*12) m=(y -1900)*12+m:=U7 L8;have e4:H8 .i64 ((y -1900)*12+m) 1=(y -1900)*12+m -1:=O5 L8;have e5:D6 .i64 ((y -1900)*12+m -1) n=(y -1900)*12+m -1+n:=U7 L8;rw[e1,e2,e3,e4,e5];generalize ht:(y -1900)*12+m -1+n=t;by_cases t0:t<0
 ·rw[O0 t0,if_pos (.inl t0)];rfl
 by_cases t1:3599<t
 ·rw[J6 l7,O0 t1,if_pos (.inr t1)];rfl
 rw[J6 l7,J6 l7,if_neg l7,o6,o6];have e6:fQ .i64 t 12=t / 12:=by rw[Bd (by rw[jG l7];unfold bQ;omega),jG l7]
 have e7:jk t 12=t % 12:=xA l7;have e8:D6 .i64 1900 (t / 12)=1900+t / 12:=U7 L8;have e9:D6 .i64 (t % 12) 1=t % 12+1:=U7 L8;rw[e6,e7,e8,e9,uJ l7 l7,o8];have hd:=Ce (1900+t / 12) (t % 12+1);rw[a3X l7 l7 (by rw[MS];split<;>omega) (by rw[MS];split<;>omega)];rfl
theorem NR(d n:Int):c6o d n=some (a6Q d n):=by
 unfold c6o c6z a6Q;by_cases h0:0<=d/\d<=109572
 case neg=>
  rw[if_pos (.inl h0)];by_cases h1:0<=d
  ·rw[V5 h1,V9 l7];rfl
  ·rw[V9 l7];rfl
 rw[V5 h0.1,V5 h0.2,o7,o8,E5,o6];by_cases h1:n< -3600
 ·rw[O0 h1,if_pos (.inr (.inl h1))];rfl
 by_cases h2:3600<n
 ·rw[J6 l7,O0 h2,if_pos (.inr (.inr h2))];rfl
 rw[J6 l7,J6 l7,if_neg l7,o6,o6,o8,N7,Gg h0.1 h0.2,o8];obtain⟨b1,b2,b3,b4,b5,b6⟩:=Ee h0.1 h0.2;generalize jJ d=q at*;obtain⟨y,m,dd⟩:=q;simp only at b1 b2 b3 b4 b5 b6 ⊢;have e2:dF .i64 12 y=12*y:=lK L8;have e3:D6 .i64 (12*y) m=12*y+m:=U7 L8;have e4:H8 .i64 (12*y+m) 1=12*y+m -1:=O5 L8;have e5:D6 .i64 (12*y+m -1) n=12*y+m -1+n:=U7 L8;rw[e2,e3,e4,e5];generalize ht:(y -1900)*12+m -1+n=t;have hk:12*y+m -1+n=t+22800:=l7;rw[hk];have e6:fQ .i64 (t+22800) 12=1900+t / 12:=by rw[Bd (by rw[jG l7];unfold bQ;omega),jG l7];omega
 have e7:jk (t+22800) 12=t % 12:=by rw[xA l7];omega
 have e9:D6 .i64 (t % 12) 1=t % 12+1:=U7 L8;rw[e6,e7,e9,tN l7 l7,o8];have hd:=Ce (1900+t / 12) (t % 12+1);by_cases t0:t<0
 ·rw[if_pos (.inl t0)];unfold qJ;rw[O0 (show 1900+t / 12<1900 by omega)];rfl
 by_cases t1:3599<t
 ·rw[if_pos (.inr t1)];unfold qJ;rw[J6 (show 1900<=1900+t / 12 by omega),O0 (show 2199<1900+t / 12 by omega)];rfl
 rw[if_neg l7,Ud l7 l7 (by rw[MS];split<;>omega) (by rw[MS];split<;>omega)];rfl
def yrl(a k:Int):Int:=z_ ((jJ a).1+k) (jJ a).2.1 (pF (jJ a).2.2 (dim ((jJ a).1+k) (jJ a).2.1))
theorem YF{a:Int}(h0:0<=a/\a<=109572){k:Int}(hk:0<=k)(hk2:k<=300):a6Q a (12*k)=if(jJ a).1+k<=2199 then(yrl a k,0)else(0,3):=by
 obtain⟨b1,b2,b3,b4,b5,b6⟩:=Ee h0.1 h0.2;unfold a6Q yrl;rw[if_neg l7];generalize jJ a=q at*;obtain⟨y,m,dd⟩:=q;simp only at b1 b2 b3 b4 b5 b6 ⊢;have e1:1900+((y -1900)*12+m -1+12*k) / 12=y+k:=l7;have e2:((y -1900)*12+m -1+12*k) % 12+1=m:=l7;by_cases h:y+k<=2199
 ·rw[if_neg l7,if_pos h,e1,e2]
 ·rw[if_pos l7,if_neg h]
theorem b3A{a:Int}(h0:0<=a/\a<=109572)(k:Int):ys ((jJ a).1+k)<=yrl a k/\yrl a k<ys ((jJ a).1+k+1):=by obtain⟨b1,b2,b3,b4,b5,b6⟩:=Ee h0.1 h0.2;have hd:=Ce ((jJ a).1+k) (jJ a).2.1;unfold yrl;exact b3T ⟨b3,b4⟩ (by rw[MS];split<;>omega) (by rw[MS];split<;>omega)
theorem QR{a:Int}(h0:0<=a/\a<=109572):ys (jJ a).1<=a/\a<ys ((jJ a).1+1):=by have:=Jf h0.1 h0.2;exact⟨this.2.2.1,this.2.2.2⟩
def a0K(a b:Int):Int:=if 0<=a/\a<=109572/\0<=b/\b<=109572/\a<=b then
  (if(jJ b).1 -(jJ a).1<=0 then 0 else if yrl a ((jJ b).1 -(jJ a).1)<=b then(jJ b).1 -(jJ a).1 else(jJ b).1 -(jJ a).1 -1)else 0
theorem UJ(a b:Int):pJ a b=some (a0K a b):=by
 unfold pJ uk a0K;by_cases ha0:0<=a
 case neg=>rw[V9 l7,if_neg l7];rfl
 by_cases ha1:a<=109572
 case neg=>rw[V5 ha0,V9 l7,if_neg l7];rfl
 rw[V5 ha0,V5 ha1,o7,o8,E5,o6];by_cases hb0:0<=b
 case neg=>rw[V9 l7,if_neg l7];rfl
 by_cases hb1:b<=109572
 case neg=>rw[V5 hb0,V9 l7,if_neg l7];rfl
 rw[V5 hb0,V5 hb1,o7,o8,E5,o6];by_cases hab:a<=b
 case neg=>rw[O0 l7,if_neg l7];rfl
 rw[J6 hab,o6,if_pos ⟨ha0,ha1,hb0,hb1,hab⟩,yT ha0 ha1,o8,yT hb0 hb1,o8];obtain⟨p1,p2,_,_,_,_⟩:=Ee ha0 ha1;obtain⟨q1,q2,_,_,_,_⟩:=Ee hb0 hb1;have ya:=QR ⟨ha0,ha1⟩;have yb:=QR ⟨hb0,hb1⟩;have hK:0<=(jJ b).1 -(jJ a).1:=by
  rcases Nw (jJ b).1 (jJ a).1 with h|h
  ·have:=ug (show(jJ b).1+1<=(jJ a).1 by omega);omega
  ·omega
 rw[O5 (show bQ ((jJ b).1 -(jJ a).1) by unfold bQ;omega)];have hle:(jJ a).1+((jJ b).1 -(jJ a).1)<=2199:=l7;generalize (jJ b).1 -(jJ a).1=K at*;rw[lK (show bQ (12*K) by unfold bQ;omega),OQ,o8,YF ⟨ha0,ha1⟩ hK l7,if_pos hle];simp only[O8 (rfl:(0:Int)=0),E5,o6];rw[O5 (show bQ (K -1) by unfold bQ;omega)];have im:∀x:Int,kK x 0=if x<0 then 0 else x:=λx=>rfl;by_cases hz:K<=0
 ·have:K=0:=l7;subst this;rw[if_pos l7];cases E8 b (yrl a 0)<;>rfl
 ·rw[if_neg hz];by_cases hq:yrl a K<=b
  ·rw[if_pos hq,J6 hq,o6,im,if_neg l7]
  ·rw[if_neg hq,O0 l7,o7,im,if_neg l7]
theorem Sv(a b:Int):c6B a b=some (a0K a b):=by
 unfold c6B c6z a0K;by_cases ha0:0<=a
 case neg=>rw[V9 l7,if_neg l7];rfl
 by_cases ha1:a<=109572
 case neg=>rw[V5 ha0,V9 l7,if_neg l7];rfl
 rw[V5 ha0,V5 ha1,o7,o8,E5,o6];by_cases hb0:0<=b
 case neg=>rw[V9 l7,if_neg l7];rfl
 by_cases hb1:b<=109572
 case neg=>rw[V5 hb0,V9 l7,if_neg l7];rfl
 rw[V5 hb0,V5 hb1,o7,o8,E5,o6];obtain⟨p1,p2,_,_,_,_⟩:=Ee ha0 ha1;obtain⟨q1,q2,_,_,_,_⟩:=Ee hb0 hb1;have ya:=QR ⟨ha0,ha1⟩;have yb:=QR ⟨hb0,hb1⟩;have key:=Aa (f:=λ(x:Int)=>o5 (c6o a (dF .i64 12 (D6 .i64 x 1))) λ(x_1:Int×Int)=>l9 (F6 (x8 x_1.2 0)) (some (.rt x)) (l9 (E8 b x_1.1) (some (.rt x)) (some (.nx (D6 .i64 x 1)))))
  (s:=0) (λx=>0<=x/\(x=0\/(x<=(jJ b).1 -(jJ a).1/\yrl a x<=b))) (λ(_:PUnit)=>False) (λr=>r=(if a<=b then(if(jJ b).1 -(jJ a).1<=0 then 0 else if yrl a ((jJ b).1 -(jJ a).1)<=b then(jJ b).1 -(jJ a).1 else(jJ b).1 -(jJ a).1 -1)else 0)) (λx=>(300 -x).toNat) ⟨l7,.inl rfl⟩ A7 (by
  rintro x ⟨hx0,hx⟩;have hx300:x<=299:=l7;rw[U7 (show bQ (x+1) by unfold bQ;omega),lK (show bQ (12*(x+1)) by unfold bQ;omega),NR,o8,YF ⟨ha0,ha1⟩ l7 l7];have hyb:=b3A ⟨ha0,ha1⟩ (x+1);have hyx:=b3A ⟨ha0,ha1⟩ x;have hmono:ys ((jJ a).1+x+1)<=ys ((jJ a).1+(x+1)):=ug l7;have hax:a<yrl a (x+1):=by have:=ug (show(jJ a).1+1<=(jJ a).1+(x+1) by omega);omega
  by_cases hq:(jJ a).1+(x+1)<=2199/\yrl a (x+1)<=b
  ·left;obtain⟨hq1,hq2⟩:=hq;have hK:x+1<=(jJ b).1 -(jJ a).1:=by
    rcases Nw (jJ b).1 ((jJ a).1+(x+1))with h|h
    ·have:=ug (show(jJ b).1+1<=(jJ a).1+(x+1) by omega);omega
    ·omega
   refine⟨x+1,?_,⟨l7,.inr ⟨hK,hq2⟩⟩,l7⟩;rw[if_pos hq1];simp only[O8 (rfl:(0:Int)=0),E5,o6,J6 hq2]
  ·right;right;refine⟨x,?_,?_⟩
   ·by_cases hq1:(jJ a).1+(x+1)<=2199
    ·rw[if_pos hq1];simp only[O8 (rfl:(0:Int)=0),E5,o6,O0 (show b<yrl a (x+1) by omega),o7]
    ·rw[if_neg hq1];rfl
   ·by_cases hab:a<=b
    case neg=>
     rw[if_neg hab];by_cases hx1:x=0
     ·exact hx1
     ·exfalso;have:=ug (show(jJ a).1+1<=(jJ a).1+x by omega);omega
    rw[if_pos hab];have hK:0<=(jJ b).1 -(jJ a).1:=by
     rcases Nw (jJ b).1 (jJ a).1 with h|h
     ·have:=ug (show(jJ b).1+1<=(jJ a).1 by omega);omega
     ·omega
    have hxK:x<=(jJ b).1 -(jJ a).1:=l7;by_cases hxe:x=(jJ b).1 -(jJ a).1
    ·by_cases hz:(jJ b).1 -(jJ a).1<=0
     ·rw[if_pos hz];omega
     ·rw[if_neg hz];rcases hx with hx|hx
      ·omega
      ·rw[←hxe,if_pos hx.2]
    ·have hlt:x+1<=(jJ b).1 -(jJ a).1:=l7;rw[if_neg l7];have hyr:(jJ a).1+(x+1)<=2199:=l7;have hgt:b<yrl a (x+1):=by
      have:=λh=>hq ⟨hyr,h⟩;omega
     have heq:x+1=(jJ b).1 -(jJ a).1:=by
      rcases Nw (x+1) ((jJ b).1 -(jJ a).1)with h|h
      ·have:=ug (show(jJ a).1+(x+1)+1<=(jJ b).1 by omega);omega
      ·omega
     rw[←heq,if_neg l7];omega)
 rcases key with⟨e,_,h⟩|⟨r,k1,k2⟩
 ·exact h.elim
 ·refine(qf k1 _).trans ?_;rw[k2];by_cases hab:a<=b
  ·rw[if_pos hab,if_pos (show 0<=a/\a<=109572/\0<=b/\b<=109572/\a<=b from⟨ha0,ha1,hb0,hb1,hab⟩)];rfl
  ·rw[if_neg hab,if_neg l7];rfl
def a5Y:List UInt8:=(List.range 256).map λn=>UInt8.ofNat (if n=0 then 0 else Nat.log2 n+1)
theorem a9O:∀n:Fin 256,∃k:Fin 9,a5Y[n.val]? =some (UInt8.ofNat k.val)/\n.val<2^k.val/\(0<n.val->0<k.val/\2^(k.val -1)<=n.val):=by decide+kernel
def a6O(n:Int)(k:Nat):Prop:=n<2^k/\(0<n->0<k/\2^(k -1)<=n)
theorem b4V{n:Int}(h0:0<=n)(h:n<256):wrap .u8 n=n:=by unfold wrap IntKind.wrap;simp[IntKind.signed,IntKind.bits];omega
theorem b3Y{n:Int}(h0:0<=n)(h:n<256):∃k:Nat,k<=8/\sat a5Y (wrap .u8 n)=some (k:Int)/\a6O n k:=by
 rw[b4V h0 h];obtain⟨k,k1,k2,k3⟩:=a9O ⟨n.toNat,l7⟩;refine⟨k.val,l7,?_,?_,λhp=>?_⟩
 ·unfold sat
  rw[if_pos h0];simp only at k1;rw[k1];simp;have:=k.isLt;omega
 ·simp only at k2;have:((n.toNat:Nat):Int)<((2^k.val:Nat):Int):=l7;rw[X0 h0,tq]at this;exact this
 ·simp only at k3;obtain⟨a,b⟩:=k3 l7;refine⟨a,?_⟩;have:((2^(k.val -1):Nat):Int)<=((n.toNat:Nat):Int):=l7;rw[X0 h0,tq]at this;exact this
theorem PL{n:Int}{k:Nat}(hk:k<=64):ut .u64 n (k:Int)=n / 2^k:=by unfold ut;rw[J5,show IntKind.bits .u64=64 from rfl,show min k 64=k by omega];exact Int.fdiv_eq_ediv_of_nonneg _ (Int.pow_nonneg l7)
theorem a6O.shift{n:Int}{j k:Nat}(h:a6O (n / 2^j) k)(hn:2^j<=n):a6O n (j+k):=by
 have hp:(0:Int)<2^j:=Int.pow_pos l7;have h1:0<n / 2^j:=by have:=qV hp (show 1*2^j<=n by omega);omega
 obtain⟨a,b⟩:=h;obtain⟨b1,b2⟩:=b h1;have hdm:=Int.mul_ediv_add_emod n (2^j);have hm:=N9 n hp;have hm0:=P5 n (show(2:Int)^j≠0 by omega);refine⟨?_,λ_=>⟨l7,?_⟩⟩
 ·have:(2:Int)^j*(n / 2^j+1)<=2^j*2^k:=Int.mul_le_mul_of_nonneg_left l7 l7;rw[Int.mul_add,Int.mul_one]at this;rw[Int.pow_add];omega
 ·have:(2:Int)^j*2^(k -1)<=2^j*(n / 2^j):=Int.mul_le_mul_of_nonneg_left b2 l7;rw[show j+k -1=j+(k -1) by omega,Int.pow_add];omega
theorem a9N:([0,1,2,2,3,3,3,3,4,4,4,4,4,4,4,4,5,5,5,5,5,5,5,5,5,5,5,5,5,5,5,5,6,6,6,6,6,6,6,6,6,6,6,6,6,6,6,6,6,6,
  6,6,6,6,6,6,6,6,6,6,6,6,6,6,7,7,7,7,7,7,7,7,7,7,7,7,7,7,7,7,7,7,7,7,7,7,7,7,7,7,7,7,7,7,7,7,7,7,7,7,
  7,7,7,7,7,7,7,7,7,7,7,7,7,7,7,7,7,7,7,7,7,7,7,7,7,7,7,7,8,8,8,8,8,8,8,8,8,8,8,8,8,8,8,8,8,8,8,8,8,8,
  8,8,8,8,8,8,8,8,8,8,8,8,8,8,8,8,8,8,8,8,8,8,8,8,8,8,8,8,8,8,8,8,8,8,8,8,8,8,8,8,8,8,8,8,8,8,8,8,8,8,
  8,8,8,8,8,8,8,8,8,8,8,8,8,8,8,8,8,8,8,8,8,8,8,8,8,8,8,8,8,8,8,8,8,8,8,8,8,8,8,8,8,8,8,8,8,8,8,8,8,8,
  8,8,8,8,8,8]:List UInt8)=a5Y:=by decide+kernel
theorem oN{n:Int}(h0:0<=n)(h:n<=1000):wrap .i64 n=n:=kX L8
theorem Kq{a b:Int}(h0:0<=a)(h1:a<=1000)(h2:0<=b)(h3:b<=1000):D6 .i64 a b=a+b:=U7 L8
theorem a9M{n:Int}(h0:0<=n)(h:n<18446744073709551616):∃k:Nat,k<=64/\zC n=some (k:Int)/\a6O n k:=by
 have s32:∀m:Int,ut .u64 m 32=m / 2^32:=λm=>PL (k:=32) l7;have s16:∀m:Int,ut .u64 m 16=m / 2^16:=λm=>PL (k:=16) l7;have s8:∀m:Int,ut .u64 m 8=m / 2^8:=λm=>PL (k:=8) l7;unfold zC;rw[a9N,s32,s16,s16,s8,s8,s8,s8];have ow:∀(m:Int) (a:Int) (K:Nat),0<=m->m<256->a=(K:Int)->K<=56->∀(g:Int->Int),(∀x,0<=x->x<=8->g x=a+x)->∃k:Nat,k<=8/\(o5 (sat a5Y (wrap .u8 m)) λ(x:Int)=>some (g x))=some (((K+k:Nat):Int))/\a6O m k:=by intro m a K m0 m1 ha hK g hg;obtain⟨k,k1,k2,k3⟩:=b3Y m0 m1;refine⟨k,k1,?_,k3⟩;rw[k2,o8,hg _ l7 l7,ha];simp
 by_cases c32:4294967296<=n
 ·rw[V5 c32,o7];by_cases c16:65536<=n / 2^32
  ·rw[V5 c16,o7];by_cases c8:256<=n / 2^32 / 2^16
   ·rw[V5 c8,o7];obtain⟨k,k1,k2,k3⟩:=ow (n / 2^32 / 2^16 / 2^8) 56 56 l7 l7 rfl l7 (λx=>D6 .i64 (D6 .i64 (D6 .i64 32 16) 8) (wrap .i64 x)) (λx x0 x1=>by
     rw[oN x0 l7,show D6 .i64 (D6 .i64 32 16) 8=56 by decide,Kq l7 l7 l7 l7])
    exact⟨56+k,l7,k2,by have:=((k3.shift (j:=8) l7).shift (j:=16) l7).shift (j:=32) l7;rw[show 32+(16+(8+k))=56+k by omega]at this;exact this⟩
   ·rw[V9 l7,o6];obtain⟨k,k1,k2,k3⟩:=ow (n / 2^32 / 2^16) 48 48 l7 l7 rfl l7 (λx=>D6 .i64 (D6 .i64 32 16) (wrap .i64 x)) (λx x0 x1=>by
     rw[oN x0 l7,Kq (a:=32) l7 l7 l7 l7,Kq l7 l7 l7 l7];rfl)
    exact⟨48+k,l7,k2,by have:=(k3.shift (j:=16) l7).shift (j:=32) l7;rw[show 32+(16+k)=48+k by omega]at this;exact this⟩
  ·rw[V9 l7,o6];by_cases c8:256<=n / 2^32
   ·rw[V5 c8,o7];obtain⟨k,k1,k2,k3⟩:=ow (n / 2^32 / 2^8) 40 40 l7 l7 rfl l7 (λx=>D6 .i64 (D6 .i64 32 8) (wrap .i64 x)) (λx x0 x1=>by
     rw[oN x0 l7,Kq (a:=32) l7 l7 l7 l7,Kq l7 l7 l7 l7];rfl)
    exact⟨40+k,l7,k2,by have:=(k3.shift (j:=8) l7).shift (j:=32) l7;rw[show 32+(8+k)=40+k by omega]at this;exact this⟩
   ·rw[V9 l7,o6];obtain⟨k,k1,k2,k3⟩:=ow (n / 2^32) 32 32 l7 l7 rfl l7 (λx=>D6 .i64 32 (wrap .i64 x)) (λx x0 x1=>by
     rw[oN x0 l7,Kq l7 l7 l7 l7])
    exact⟨32+k,l7,k2,k3.shift (j:=32) l7⟩
 ·rw[V9 l7,o6];by_cases c16:65536<=n
  ·rw[V5 c16,o7];by_cases c8:256<=n / 2^16
   ·rw[V5 c8,o7];obtain⟨k,k1,k2,k3⟩:=ow (n / 2^16 / 2^8) 24 24 l7 l7 rfl l7 (λx=>D6 .i64 (D6 .i64 (D6 .i64 0 16) 8) (wrap .i64 x)) (λx x0 x1=>by
     rw[oN x0 l7,show D6 .i64 (D6 .i64 0 16) 8=24 by decide,Kq l7 l7 l7 l7])
    exact⟨24+k,l7,k2,by have:=(k3.shift (j:=8) l7).shift (j:=16) l7;rw[show 16+(8+k)=24+k by omega]at this;exact this⟩
   ·rw[V9 l7,o6];obtain⟨k,k1,k2,k3⟩:=ow (n / 2^16) 16 16 l7 l7 rfl l7 (λx=>D6 .i64 (D6 .i64 0 16) (wrap .i64 x)) (λx x0 x1=>by
     rw[oN x0 l7,Kq (a:=0) l7 l7 l7 l7,Kq l7 l7 l7 l7];rfl)
    exact⟨16+k,l7,k2,k3.shift (j:=16) l7⟩
  ·rw[V9 l7,o6];by_cases c8:256<=n
   ·rw[V5 c8,o7];obtain⟨k,k1,k2,k3⟩:=ow (n / 2^8) 8 8 l7 l7 rfl l7 (λx=>D6 .i64 (D6 .i64 0 8) (wrap .i64 x)) (λx x0 x1=>by
     rw[oN x0 l7,Kq (a:=0) l7 l7 l7 l7,Kq l7 l7 l7 l7];rfl)
    exact⟨8+k,l7,k2,k3.shift (j:=8) l7⟩
   ·rw[V9 l7,o6];obtain⟨k,k1,k2,k3⟩:=ow n 0 0 l7 l7 rfl l7 (λx=>D6 .i64 0 (wrap .i64 x)) (λx x0 x1=>by
     rw[oN x0 l7,Kq l7 l7 l7 l7])
    exact⟨0+k,l7,k2,by rw[dM];exact k3⟩
theorem Ed{n:Int}(h0:0<=n)(h:n<18446744073709551616):IntKind.wrap .u64 n=n:=Gs (by unfold U64;omega)
theorem zk(n:Int):IntKind.wrap .u64 n=n % 18446744073709551616:=by unfold IntKind.wrap;simp[IntKind.signed,IntKind.bits]
def a4q{σ ε:Type}(f:σ->Option (σ⊕ε))(m:Nat)(o:Option (σ⊕ε)):Option ε:=match o with
 |some (.inl s')=>nZ f m s'|some (.inr e)=>some e|none=>none
theorem a7s{σ ε:Type}(f:σ->Option (σ⊕ε))(m:Nat)(s:σ):nZ f (m+1) s=a4q f m (f s):=by
 rw[nZ];unfold a4q;cases f s with
 |none=>rfl|some o=>cases o<;>rfl
theorem VL{σ:Type}(mkp:Int->Int->σ){f:σ->Option (σ⊕Int)}{y1 y0 U d:Int}(hy1:2147483648<=y1)(hy1' :y1<4294967296)(hy0:0<=y0)(hy0' :y0<4294967296)(hU:0<=U)(hUY:U<y1*4294967296+y0)(hd:0<=d)(hd' :d<4294967296)
  (hf:∀q r,0<=q->q<=4294967297->0<=r->r<4294967296->f (mkp q r)=l9 (L9 4294967296 q) (l9 (L9 4294967296 (D6 .u64 r y1)) (some (.inr (H8 .u64 q 1))) (some (.inl (mkp (H8 .u64 q 1) (D6 .u64 r y1)))))
   (l9 (E8 (D6 .u64 (dF .u64 4294967296 r) d) (dF .u64 q y0)) (l9 (L9 4294967296 (D6 .u64 r y1)) (some (.inr (H8 .u64 q 1))) (some (.inl (mkp (H8 .u64 q 1) (D6 .u64 r y1))))) (some (.inr q)))):
  ∃Q,aS f (mkp (U / y1) (U -U / y1*y1))=some Q/\0<=Q/\Q<4294967296/\Q*(y1*4294967296+y0)<=U*4294967296+d/\U*4294967296+d<(Q+1)*(y1*4294967296+y0):=by
 obtain⟨Y,hY⟩:∃Y,Y=y1*4294967296+y0:=⟨_,rfl⟩;have hYe:∀q:Int,q*Y=q*y1*4294967296+q*y0:=λq=>by rw[hY,Int.mul_add,←Int.mul_assoc]
 have hq0:0<=U / y1:=V7 hU l7;have hdm:=U5 U y1;have hm0:=P5 U (show y1≠0 by omega);have hm1:=N9 U (show 0<y1 by omega);have hqB:U / y1<=4294967297:=by
  rcases Nw 4294967297 (U / y1)with h|h
  ·have:=O6 (show 4294967298<=U / y1 by omega) (show 0<=y1 by omega);omega
  ·exact h
 obtain⟨n,hn⟩:∃n,n=(U / y1).toNat+1:=⟨_,rfl⟩;have key:∀(n:Nat) (q r:Int),0<=q->q<=4294967297->0<=r->r<4294967296->U=q*y1+r->U*4294967296+d<(q+1)*Y->q.toNat<n->∀m,n<=m->∃Q,nZ f m (mkp q r)=some Q/\0<=Q/\Q<4294967296/\Q*Y<=U*4294967296+d/\U*4294967296+d<(Q+1)*Y:=by
  intro n;induction n with
  |zero=>intro q r _ _ _ _ _ _ h;omega|succ n ih=>
   intro q r q0 qB r0 rB hUq hlt hqn m hm;obtain⟨m,rfl⟩:∃m',m=m' +1:=⟨m -1,l7⟩;rw[a7s,hf q r q0 qB r0 rB];have e1:=hYe q;have e2:(q+1)*Y=q*Y+Y:=by rw[gY,eF]
   have hry:D6 .u64 r y1=r+y1:=Ed l7 l7;have g0:0<=q*y0:=P6 q0 hy0;have less:U*4294967296+d<q*Y->1<=q/\H8 .u64 q 1=q -1/\U=(q -1)*y1+(r+y1)/\(q -1+1)*Y=q*Y/\(q -1)*Y=q*Y -Y/\(q -1)*y0=q*y0 -y0:=by
    intro hgt;have hq1:1<=q:=by
     rcases Nw q 1 with h|h
     ·have:q=0:=l7;subst this;simp at hgt;omega
     ·exact h
    refine⟨hq1,Ed l7 l7,?_,?_,?_,?_⟩
    ·rw[lM,eF];omega
    ·rw[show q -1+1=q by omega]
    ·rw[lM,eF]
    ·rw[lM,eF]
   have dec:U*4294967296+d<q*Y->∃Q,a4q f m (l9 (L9 4294967296 (r+y1)) (some (Sum.inr (H8 .u64 q 1))) (some (Sum.inl (mkp (H8 .u64 q 1) (r+y1)))))=some Q/\0<=Q/\Q<4294967296/\Q*Y<=U*4294967296+d/\U*4294967296+d<(Q+1)*Y:=by
    intro hgt;obtain⟨l1,l2,l3,l4,l5,l6⟩:=less hgt;rw[l2];by_cases hr:4294967296<=r+y1
    ·rw[V5 hr];have h6:(q -1)*y0<=4294967296*y0:=O6 l7 hy0;have h7:=hYe (q -1);have hle:(q -1)*Y<=U*4294967296+d:=by rw[h7,l3];omega
     refine⟨q -1,rfl,l7,?_,hle,by rw[l4];exact hgt⟩;rcases Nw (q -1) 4294967296 with h|h
     ·exact h
     ·have:=O6 h (show 0<=Y by omega);omega
    ·rw[V9 l7];exact ih (q -1) (r+y1) l7 l7 l7 l7 l3 (by rw[l4];exact hgt) l7 m l7
   by_cases hqb:4294967296<=q
   ·rw[V5 hqb,o7,hry];have:=O6 hqb (show 0<=Y by omega);exact dec l7
   ·rw[V9 l7,o6,hry];have g1:q*y0<=4294967295*y0:=O6 l7 hy0;have m1:dF .u64 4294967296 r=4294967296*r:=Ed l7 l7;have m2:D6 .u64 (4294967296*r) d=4294967296*r+d:=Ed l7 l7;have m3:dF .u64 q y0=q*y0:=Ed g0 l7;rw[m1,m2,m3];by_cases hc:4294967296*r+d<q*y0
    ·rw[O0 hc,o7];exact dec (by rw[e1];omega)
    ·rw[J6 l7,o6];exact⟨q,rfl,q0,l7,by rw[e1];omega,hlt⟩
 rw[←hY];refine key n (U / y1) (U -U / y1*y1) hq0 hqB l7 l7 l7 ?_ l7 lg (by unfold lg;omega);have e1:=hYe (U / y1);rw[gY,eF,e1];have:=P6 hq0 hy0;omega
theorem OY{n:Int}(h0:0<=n)(h:n<18446744073709551616):(BitVec.ofInt 64 n).toNat=n.toNat:=by rw[BitVec.toNat_ofInt];have e:((2^64:Nat):Int)=18446744073709551616:=rfl;rw[e,Int.emod_eq_of_lt h0 h]
theorem Zl{n:Int}(h0:0<=n)(h:n<18446744073709551616):a1I .u64 n 4294967295=n % 4294967296:=by unfold a1I;rw[show IntKind.bits .u64=64 from rfl,BitVec.toNat_and,OY h0 h,OY D7 D7];rw[show(4294967295:Int).toNat=2^32 -1 from rfl,Nat.and_two_pow_sub_one_eq_mod];rw[Ed l7 l7];omega
theorem b3V{a c:Int}{s:Nat}(ha0:0<=a)(hc0:0<=c)(hc:c<2^s)(h:a*2^s+c<18446744073709551616):ior .u64 (a*2^s) c=a*2^s+c:=by
 have hp:(0:Int)<2^s:=Int.pow_pos l7;have hap:0<=a*2^s:=P6 ha0 l7;unfold ior;rw[show IntKind.bits .u64=64 from rfl,BitVec.toNat_or,OY hap l7,OY hc0 l7];obtain⟨m,rfl⟩:∃m:Nat,a=(m:Int):=⟨a.toNat,l7⟩;obtain⟨k,rfl⟩:∃k:Nat,c=(k:Int):=⟨c.toNat,l7⟩;have hk:k<2^s:=by exact_mod_cast hc
 have e1:((m:Int)*2^s).toNat=m<<<s:=by
  rw[Nat.shiftLeft_eq];have:((m:Int)*2^s)=((m*2^s:Nat):Int):=by rw[sZ,tq];rfl
  rw[this];rfl
 rw[e1,J5,←Nat.shiftLeft_add_eq_or_of_lt hk,Nat.shiftLeft_eq];have e2:((m*2^s+k:Nat):Int)=(m:Int)*2^s+(k:Int):=by rw[Int.natCast_add,sZ,tq];rfl
 rw[e2];exact Ed l7 h
theorem a1p(a b c d:Int):H8 .u64 (D6 .u64 (dF .u64 a 4294967296) b) (dF .u64 c d)=(a*4294967296+b -c*d) % 18446744073709551616:=by unfold H8 D6 dF;rw[zk,zk,zk,zk];generalize c*d=z;omega
theorem b9y{y:Int}(h0:0<y)(h:y<18446744073709551616):∃s:Nat,s<=63/\oG y=some (s:Int)/\9223372036854775808<=y*2^s/\y*2^s<18446744073709551616:=by
 obtain⟨k,k1,k2,k3,k4⟩:=a9M (n:=y) l7 h;obtain⟨k5,k6⟩:=k4 h0;refine⟨64 -k,l7,?_,?_,?_⟩
 ·unfold oG;rw[k2,o8,O5 L8];congr 1;omega
 ·have:=O6 k6 (show(0:Int)<=2^(64 -k)from Int.pow_nonneg l7);rw[←Int.pow_add,show k -1+(64 -k)=63 by omega]at this;exact this
 ·have:=Int.mul_lt_mul_of_pos_right k3 (show(0:Int)<2^(64 -k)from Int.pow_pos l7);rw[←Int.pow_add,show k+(64 -k)=64 by omega]at this;exact this
theorem MV{a b:Int}(ha:0<=a)(ha' :a<18446744073709551616)(hb:0<b):FI .u64 a b=some (a / b):=by unfold FI;rw[if_neg l7,jG ha];have h1:=V7 ha (show 0<=b by omega);have h2:=dN b ha;rw[Ed h1 l7]
theorem Aj{a b:Int}(ha:0<=a)(hb:0<b):Le a b=some (a % b):=by unfold Le;rw[if_neg l7];congr 1;exact xA ha
theorem VM{hi lo y:Int}(h0:0<=hi)(h1:hi<y)(hy:y<18446744073709551616)(l0:0<=lo)(l1:lo<18446744073709551616):
  mV hi lo y=some ((hi*18446744073709551616+lo) / y,(hi*18446744073709551616+lo) % y):=by
 unfold mV;rw[J3 (show y≠0 by omega),o6,o8,V9 h1,o6,o8];by_cases hz:hi=0
 ·subst hz;rw[O8 rfl,o7,MV l0 l1 l7,o8,Aj l0 l7,o8];simp
 rw[J3 hz,o6];obtain⟨s,s1,s2,s3,s4⟩:=b9y (y:=y) l7 hy;rw[s2,o8,show wrap .u64 ((s:Nat):Int)=(s:Int)from Ed l7 l7,show H8 .u64 64 (s:Int)=((64 -s:Nat):Int) by unfold H8;rw[Ed l7 l7];omega];have hshl:∀v:Int,Wu .u64 v (s:Int)=some ((v*2^s) % 18446744073709551616):=λv=>by unfold Wu a9D;rw[if_neg l7,J5,show IntKind.bits .u64=64 from rfl,show min s 64=s by omega,zk]
 have hshr:∀(v:Int) (k:Nat),k<=64->Wv .u64 v (k:Int)=some (v / 2^k):=λv k hk=>by unfold Wv;rw[if_neg l7,PL hk]
 rw[hshl,o8,hshl,o8,hshr _ _ l7,o8,hshl,o8];have hpp:(2:Int)^s*2^(64 -s)=18446744073709551616:=by rw[←Int.pow_add,show s+(64 -s)=64 by omega];rfl
 have hp:(0:Int)<2^s:=Int.pow_pos l7;have hp' :(0:Int)<2^(64 -s):=Int.pow_pos l7;have hcb:lo / 2^(64 -s)<2^s:=lZ hp' (by rw[hpp];exact l1);have hc0:0<=lo / 2^(64 -s):=V7 l0 l7;have hcd:=U5 lo (2^(64 -s));have he0:=P5 lo (show(2:Int)^(64 -s)≠0 by omega);have he1:=N9 lo hp';have hioP:∀a c:Int,0<=a->0<=c->c<2^s->a*2^s+c<18446744073709551616->ior .u64 (a*2^s) c=a*2^s+c:=λa c a0 c0 c1 h=>b3V a0 c0 c1 h;have hshrs:∀v:Int,Wv .u64 v (s:Int)=some (v / 2^s):=λv=>hshr v s l7;generalize (2:Int)^s=p at*;generalize (2:Int)^(64 -s)=p' at*;generalize lo / p' =c at*;generalize lo % p' =e at*;have hlop:lo*p=c*18446744073709551616+e*p:=by rw[←hcd,gY,Int.mul_assoc,Int.mul_comm p' p,hpp]
 have hep0:0<=e*p:=P6 he0 l7;have hep1:e*p<18446744073709551616:=by have:=Int.mul_lt_mul_of_pos_right he1 hp;rw[Int.mul_comm p' p,hpp]at this;exact this
 rw[show(lo*p) % 18446744073709551616=e*p by omega];have hhp0:0<=hi*p:=P6 h0 l7;have hhp1:hi*p<=y*p -p:=by have:=O6 (show hi<=y -1 by omega) (show 0<=p by omega);rw[lM,eF]at this;exact this
 rw[show(y*p) % 18446744073709551616=y*p by omega,show(hi*p) % 18446744073709551616=hi*p by omega,hioP hi c h0 hc0 hcb l7];have hN:(hi*18446744073709551616+lo)*p=(hi*p+c)*18446744073709551616+e*p:=by rw[gY,hlop,jf];omega
 have hsh32:∀v:Int,ut .u64 v 32=v / 4294967296:=λv=>PL (k:=32) l7;rw[hsh32,hsh32,Zl l7 s4,Zl hep0 hep1];obtain⟨Y,hY⟩:∃Y,Y=y*p:=⟨_,rfl⟩;obtain⟨N,hNN⟩:∃N,N=hi*18446744073709551616+lo:=⟨_,rfl⟩;rw[←hNN]at hN ⊢;rw[←hY]at s3 s4 hhp1 ⊢;generalize hU:hi*p+c=U at*;generalize e*p=E at*;have hUY:U<Y:=l7;have hU0:0<=U:=l7;obtain⟨Q1,q1,q2,q3,q4,q5⟩:=VL (σ:=Int×Int) (λq r=>(q,r)) (y1:=Y / 4294967296) (y0:=Y % 4294967296) (U:=U) (d:=E / 4294967296) l7 l7 l7 l7 hU0 l7 l7 l7
  (f:=λ(x:Int×Int)=>l9 (L9 4294967296 x.1) (l9 (L9 4294967296 (D6 .u64 x.2 (Y / 4294967296))) (some (.inr (H8 .u64 x.1 1))) (some (.inl (H8 .u64 x.1 1,D6 .u64 x.2 (Y / 4294967296))))) (l9 (E8 (D6 .u64 (dF .u64 4294967296 x.2) (E / 4294967296)) (dF .u64 x.1 (Y % 4294967296))) (l9 (L9 4294967296 (D6 .u64 x.2 (Y / 4294967296))) (some (.inr (H8 .u64 x.1 1))) (some (.inl (H8 .u64 x.1 1,D6 .u64 x.2 (Y / 4294967296))))) (some (.inr x.1))))
  (λq r _ _ _ _=>rfl)
 have hYe:Y / 4294967296*4294967296+Y % 4294967296=Y:=l7;rw[hYe]at q4 q5;have hst:∀V:Int,0<=V->V<Y->H8 .u64 V (dF .u64 (V / (Y / 4294967296)) (Y / 4294967296))=V -V / (Y / 4294967296)*(Y / 4294967296):=λV v0 v1=>by have a1:=U5 V (Y / 4294967296);have a2:=P5 V (show Y / 4294967296≠0 by omega);have a3:=N9 V (show 0<Y / 4294967296 by omega);have a4:=P6 (V7 v0 (show 0<=Y / 4294967296 by omega)) (show 0<=Y / 4294967296 by omega);rw[show dF .u64 (V / (Y / 4294967296)) (Y / 4294967296)=V / (Y / 4294967296)*(Y / 4294967296)from Ed a4 l7];exact Ed l7 l7
 rw[MV hU0 l7 l7,o8,hst U hU0 hUY];refine(qf q1 _).trans ?_;rw[a1p];have hA1:(Q1+1)*Y=Q1*Y+Y:=by rw[gY,eF]
 rw[hA1]at q5;obtain⟨A1,hAA⟩:∃A1,A1=Q1*Y:=⟨_,rfl⟩;rw[←hAA]at q4 q5 ⊢;rw[show(U*4294967296+E / 4294967296 -A1) % 18446744073709551616=U*4294967296+E / 4294967296 -A1 by omega];generalize hV:U*4294967296+E / 4294967296 -A1=V at*;have hV0:0<=V:=l7;have hVY:V<Y:=l7;obtain⟨Q0,r1,r2,r3,r4,r5⟩:=VL (σ:=Int×Int) (λq r=>(r,q)) (y1:=Y / 4294967296) (y0:=Y % 4294967296) (U:=V) (d:=E % 4294967296) l7 l7 l7 l7 hV0 l7 l7 l7
  (f:=λ(x:Int×Int)=>l9 (L9 4294967296 x.2) (l9 (L9 4294967296 (D6 .u64 x.1 (Y / 4294967296))) (some (.inr (H8 .u64 x.2 1))) (some (.inl (D6 .u64 x.1 (Y / 4294967296),H8 .u64 x.2 1)))) (l9 (E8 (D6 .u64 (dF .u64 4294967296 x.1) (E % 4294967296)) (dF .u64 x.2 (Y % 4294967296))) (l9 (L9 4294967296 (D6 .u64 x.1 (Y / 4294967296))) (some (.inr (H8 .u64 x.2 1))) (some (.inl (D6 .u64 x.1 (Y / 4294967296),H8 .u64 x.2 1)))) (some (.inr x.2))))
  (λq r _ _ _ _=>rfl)
 rw[hYe]at r4 r5;rw[MV hV0 l7 l7,o8,hst V hV0 hVY];refine(qf r1 _).trans ?_;rw[a1p];have hA0:(Q0+1)*Y=Q0*Y+Y:=by rw[gY,eF]
 rw[hA0]at r5;have hQY:(Q1*4294967296+Q0)*Y=A1*4294967296+Q0*Y:=by rw[gY,jf,←hAA]
 generalize Q0*Y=A0 at*;rw[show(V*4294967296+E % 4294967296 -A0) % 18446744073709551616=V*4294967296+E % 4294967296 -A0 by omega,hshrs,o8];rw[show dF .u64 Q1 4294967296=Q1*4294967296 from Ed l7 l7,show D6 .u64 (Q1*4294967296) Q0=Q1*4294967296+Q0 from Ed l7 l7];generalize hQ:Q1*4294967296+Q0=Q at*;have hR:V*4294967296+E % 4294967296 -A0=(N -Q*y)*p:=by rw[lM,Int.mul_assoc,←hY,hQY,hN];omega
 rw[hR];have hge:0<=N -Q*y:=by
  rcases Nw (N -Q*y) 0 with h|h
  ·have:=O6 (show N -Q*y<=-1 by omega) (show 0<=p by omega);omega
  ·exact h
 have hlt:N -Q*y<y:=by
  rcases Nw (N -Q*y) y with h|h
  ·exact h
  ·have:=O6 h (show 0<=p by omega);omega
 have hq:N / y=Q:=by have e1:N=(N -Q*y)+Q*y:=l7;rw[e1,ak _ _ l7,lU hge hlt];omega
 have hr:N % y=N -Q*y:=by have:=U5 N y;rw[hq]at this;omega
 rw[hq,hr,Int.mul_ediv_cancel _ l7]
def X9(n:Int):Int:=if n<0 then -n else n
def upS(q r d:Int)(neg:Bool)(mode:Int):Bool:=l9 (x8 r 0) false (l9 (x8 mode 0) neg (l9 (x8 mode 1) (F6 neg) (l9 (x8 mode 3) true (l9 (x8 mode 4) (L9 (d -r) r) (l9 (x8 mode 5) (l9 (E8 (d -r) r) true (l9 (x8 r (d -r)) (x8 (jk q 2) 1) false)) false)))))
def q1(q:Int)(u:Bool):Int:=l9 u (q+1) q
def sg(q:Int)(neg:Bool):Int:=l9 neg (-q) q
def oQ(m:Int):Bool:=l9 (L9 0 m) (L9 m 5) false
theorem BR(m:Int):sH m=some (oQ m):=by unfold sH oQ;cases L9 0 m<;>rfl
theorem Qp(m:Int):c6Q m=some (oQ m):=BR m
theorem Ue(m:Int):Bz m=some (oQ m):=BR m
def kV(n m:Int):Bool:=l9 (E8 m n) true (E8 n (-m))
theorem wG(n:Int){m:Int}(h0:0<=m)(h:m<=9000000000000000000):oH n m=some (kV n m):=by unfold oH kV;rw[O5 L8,show(0:Int) -m=-m by omega];cases E8 m n<;>rfl
theorem uA(n:Int){m:Int}(h0:0<=m)(h:m<=9000000000000000000):c6k n m=some (kV n m):=wG n h0 h
theorem yZ(n:Int){m:Int}(h0:0<=m)(h:m<=9000000000000000000):xK n m=some (kV n m):=wG n h0 h
theorem xI(n:Int){m:Int}(h0:0<=m)(h:m<=9000000000000000000):c6n n m=some (kV n m):=wG n h0 h
theorem qg{n m:Int}(h:kV n m=false):-m<=n/\n<=m:=by
 unfold kV at h;cases h1:E8 m n<;>rw[h1]at h
 ·rw[jv]at h1;simp only[o6]at h;rw[jv]at h;omega
 ·cases h
theorem a3A{n m:Int}(h:kV n m=true):n< -m\/m<n:=by
 unfold kV at h;cases h1:E8 m n<;>rw[h1]at h
 ·simp only[o6]at h;rw[jl]at h;omega
 ·rw[jl]at h1;omega
theorem OX{n m:Int} :kV n m=true↔n< -m\/m<n:=by
 constructor
 ·exact a3A
 ·intro h;cases hq:kV n m
  ·have:=qg hq;omega
  ·rfl
theorem MM{n m:Int}(h:-m<=n/\n<=m):kV n m=false:=by
 cases hq:kV n m
 ·rfl
 ·have:=a3A hq;omega
theorem Bl{n:Int}(h:-9000000000000000000<=n)(h2:n<=9000000000000000000):mW n=some (X9 n):=by
 unfold mW X9;by_cases h0:n<0
 ·rw[O0 h0,if_pos h0,o7];congr 1;show IntKind.wrap .u64 (0 -IntKind.wrap .u64 n)=_;rw[zk,zk];omega
 ·rw[J6 l7,if_neg h0,o6,show wrap .u64 n=n from Ed l7 l7]
theorem Nk{n:Int}(h:-9000000000000000000<=n)(h2:n<=9000000000000000000):c6H n=some (X9 n):=by
 unfold c6H X9;by_cases h0:n<0
 ·rw[O0 h0,if_pos h0,O5 L8];simp
 ·rw[J6 l7,if_neg h0];rfl
theorem ZY{q:Int}(neg:Bool)(h0:0<=q)(h:q<=9000000000000000000):Bo q neg=some (sg q neg):=by unfold Bo sg;rw[show wrap .i64 q=q from kX L8,O5 L8,show(0:Int) -q=-q by omega];cases neg<;>rfl
theorem Uj{q r d:Int}(neg:Bool)(mode:Int)(hq:0<=q)(hq2:q<=9000000000000000000)(hr:0<=r)(hrd:r<d)(hd:d<=9000000000000000000):oU q r d neg mode=some (q1 q (upS q r d neg mode)):=by
 unfold oU upS q1;rw[show D6 .u64 q 1=q+1 from Ed l7 l7,show H8 .u64 d r=d -r from Ed l7 l7];cases x8 r 0
 case true=>rfl
 cases x8 mode 0
 case true=>cases neg<;>rfl
 cases x8 mode 1
 case true=>cases neg<;>rfl
 cases x8 mode 3
 case true=>rfl
 cases x8 mode 4
 case true=>cases L9 (d -r) r<;>rfl
 cases x8 mode 5
 ·rfl
 cases E8 (d -r) r
 case true=>rfl
 cases x8 r (d -r)
 ·rfl
 cases x8 (jk q 2) 1<;>rfl
theorem a2E{q r d:Int}(neg:Bool)(mode:Int)(hr:0<=r)(hrd:r<d)(hd:d<=9000000000000000000):Di q r d neg mode=some (upS q r d neg mode):=by
 unfold Di upS;rw[show H8 .u64 d r=d -r from Ed l7 l7];cases x8 r 0
 case true=>rfl
 cases x8 mode 0
 case true=>rfl
 cases x8 mode 1
 case true=>rfl
 cases x8 mode 3
 case true=>rfl
 cases x8 mode 4
 case true=>rfl
 cases x8 mode 5
 ·rfl
 cases E8 (d -r) r
 case true=>rfl
 cases x8 r (d -r)<;>rfl
theorem Dy{q r d:Int}(neg:Bool)(mode:Int)(hq:0<=q)(hq2:q<=9000000000000000000)(hr:0<=r)(hrd:r<d)(hd:d<=9000000000000000000):c6q q r d neg mode=some (sg (q1 q (upS q r d neg mode)) neg):=by
 unfold c6q upS q1 sg;rw[U7 (show bQ (q+1) by unfold bQ;omega),O5 (show bQ (d -r) by unfold bQ;omega),O5 (show bQ (0 -(q+1)) by unfold bQ;omega),O5 (show bQ (0 -q) by unfold bQ;omega),show(0:Int) -(q+1)=-(q+1) by omega,show(0:Int) -q=-q by omega];by_cases hz:r=0
 ·rw[O8 hz,J6 (show r<=0 by omega),V9 (show r<d -r by omega),J6 (show r<=d -r by omega),J3 (show r≠d -r by omega)];cases x8 mode 0<;>cases x8 mode 1<;>cases x8 mode 3<;>cases x8 mode 4<;>cases x8 mode 5<;>cases neg<;>rfl
 ·rw[J3 hz,O0 (show 0<r by omega)];cases x8 mode 0
  case true=>cases neg<;>rfl
  cases x8 mode 1
  case true=>cases neg<;>rfl
  cases x8 mode 3
  case true=>cases neg<;>rfl
  cases x8 mode 4
  case true=>cases L9 (d -r) r<;>cases neg<;>rfl
  cases x8 mode 5
  ·cases neg<;>rfl
  cases E8 (d -r) r
  case true=>cases neg<;>rfl
  cases x8 r (d -r)
  ·cases neg<;>rfl
  cases x8 (jk q 2) 1<;>cases neg<;>rfl
theorem lJ(n:Int):0<=X9 n:=by unfold X9;split<;>omega
theorem yu{n m:Int}(h:-m<=n/\n<=m):X9 n<=m:=by unfold X9;split<;>omega
theorem Lc{n:Int}(h:n≠0):0<X9 n:=by unfold X9;split<;>omega
def rnd(n d mode:Int):Int:=sg (q1 (X9 n / X9 d) (upS (X9 n / X9 d) (X9 n % X9 d) (X9 d) (F6 (kU (E8 n 0) (E8 d 0))) mode)) (F6 (kU (E8 n 0) (E8 d 0)))
def a3M(n d mode:Int):Int×Int:=l9 (oQ mode) (l9 (x8 d 0) (0,12) (l9 (kV n 4611686018427387904) (0,3) (l9 (kV d 4611686018427387904) (0,3) (rnd n d mode,0)))) (0,1)
theorem Xm(q:Int)(u:Bool):q<=q1 q u/\q1 q u<=q+1:=by unfold q1;cases u<;>simp only[o7,o6]<;>omega
theorem GK(n d mode:Int):jF n d mode=some (a3M n d mode):=by
 unfold jF a3M;rw[BR,o8];cases oQ mode
 ·rfl
 simp only[E5,o6,o7];cases hd:x8 d 0
 case true=>rfl
 rw[DV]at hd;simp only[o6];rw[wG n l7 l7,o8];cases h1:kV n 4611686018427387904
 case true=>rfl
 simp only[o6];rw[wG d l7 l7,o8];cases h2:kV d 4611686018427387904
 case true=>rfl
 have b1:=qg h1;have b2:=qg h2;have a1:=lJ n;have a2:=yu b1;have a3:=Lc hd;have a4:=yu b2;have e0:=V7 a1 (show 0<=X9 d by omega);have e1:=dN (X9 d) a1;have e2:=P5 (X9 n) (show X9 d≠0 by omega);have e3:=N9 (X9 n) a3;have q:=Xm (X9 n / X9 d) (upS (X9 n / X9 d) (X9 n % X9 d) (X9 d) (F6 (kU (E8 n 0) (E8 d 0))) mode);simp only[o6];rw[Bl l7 l7,o8,Bl l7 l7,o8,MV a1 l7 a3,o8,Aj a1 a3,o8,Uj _ _ e0 l7 e2 e3 l7,o8,ZY _ l7 l7];rfl
theorem wI{a b:Int}(ha:0<=a)(ha' :a<=9000000000000000000)(hb:0<b):FI .i64 a b=some (a / b):=by unfold FI;rw[if_neg l7,jG ha];have h1:=V7 ha (show 0<=b by omega);have h2:=dN b ha;rw[kX L8]
theorem a0e(n d mode:Int):c6y n d mode=some (a3M n d mode):=by
 unfold c6y a3M;rw[Qp,o8];cases oQ mode
 ·rfl
 simp only[E5,o6,o7];cases hd:x8 d 0
 case true=>rfl
 rw[DV]at hd;simp only[o6];rw[uA n l7 l7,o8];cases h1:kV n 4611686018427387904
 case true=>rfl
 simp only[o6];rw[uA d l7 l7,o8];cases h2:kV d 4611686018427387904
 case true=>rfl
 have b1:=qg h1;have b2:=qg h2;have a1:=lJ n;have a2:=yu b1;have a3:=Lc hd;have a4:=yu b2;have e0:=V7 a1 (show 0<=X9 d by omega);have e1:=dN (X9 d) a1;have e2:=P5 (X9 n) (show X9 d≠0 by omega);have e3:=N9 (X9 n) a3;simp only[o6];rw[Nk l7 l7,o8,Nk l7 l7,o8,wI a1 l7 a3,o8,Aj a1 a3,o8,Dy _ _ e0 l7 e2 e3 l7];rfl
def toS(c u mode:Int):Int×Int:=l9 (oQ mode) (l9 (E8 u 1) (0,12) (l9 (kV c 1000000000000000) (0,3) (l9 (E8 1000000000000000 u) (0,3) (l9 (kV (dF .i64 (rnd c u mode) u) 1000000000000000) (0,3) (dF .i64 (rnd c u mode) u,0))))) (0,1)
theorem a4H(c u mode:Int):yY c u mode=some (toS c u mode):=by
 unfold yY toS;rw[BR,o8];cases hm:oQ mode
 ·rfl
 simp only[E5,o6,o7];cases hu:E8 u 1
 case true=>rfl
 rw[jv]at hu;simp only[o6];rw[wG c l7 l7,o8];cases h1:kV c 1000000000000000
 case true=>rfl
 have b1:=qg h1;simp only[o6];cases h2:E8 1000000000000000 u
 case true=>rfl
 rw[jv]at h2;simp only[o6];have n1:kV c 4611686018427387904=false:=MM l7;have n2:kV u 4611686018427387904=false:=MM l7;rw[GK,o8];unfold a3M;rw[hm,J3 (show u≠0 by omega),n1,n2];simp only[o7,o6,O8 (rfl:(0:Int)=0),E5];rw[wG _ l7 l7,o8];cases kV (dF .i64 (rnd c u mode) u) 1000000000000000<;>rfl
theorem a2u(c u mode:Int):c6C c u mode=some (toS c u mode):=by
 unfold c6C toS;rw[Qp,o8];cases hm:oQ mode
 ·rfl
 simp only[E5,o6,o7];cases hu:E8 u 1
 case true=>rfl
 rw[jv]at hu;simp only[o6];rw[uA c l7 l7,o8];cases h1:kV c 1000000000000000
 case true=>rfl
 have b1:=qg h1;simp only[o6];cases h2:E8 1000000000000000 u
 case true=>rfl
 rw[jv]at h2;simp only[o6];have a1:=lJ c;have a2:=yu b1;have hu' :X9 u=u:=by unfold X9;rw[if_neg l7]
 have e0:=V7 a1 (show 0<=u by omega);have e1:=dN u a1;have e2:=P5 (X9 c) (show u≠0 by omega);have e3:=N9 (X9 c) (show 0<u by omega);rw[Nk l7 l7,o8,wI a1 l7 l7,o8,Aj a1 l7,o8,Dy _ _ e0 l7 e2 e3 l7,o8];have hr:sg (q1 (X9 c / u) (upS (X9 c / u) (X9 c % u) u (E8 c 0) mode)) (E8 c 0)=rnd c u mode:=by unfold rnd;rw[hu',show F6 (kU (E8 c 0) (E8 u 0))=E8 c 0 by rw[J6 (show(0:Int)<=u by omega)];cases E8 c 0<;>rfl]
 rw[hr,uA _ l7 l7,o8];cases kV (dF .i64 (rnd c u mode) u) 1000000000000000<;>rfl
end Go.GP
