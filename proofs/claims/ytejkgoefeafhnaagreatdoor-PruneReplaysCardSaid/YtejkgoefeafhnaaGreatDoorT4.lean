import Derived.Test.YtejkgoefeafhnaaGreatDoorT1
import Derived.Test.YtejkgoefeafhnaaGreatDoorT2
set_option linter.all false
namespace Go.GP
variable {a:Int}{b:Int}{n:Int}
section
variable {α β σ ε ρ:Type}
@[simp] theorem o8 (x:α) (f:α->Option β):o5 (some x) f=f x:=rfl
@[simp] theorem c1y (f:α->Option β):o5 none f=none:=rfl
theorem lN{o:Option α}{x:α}(h:o=some x)(f:α->Option β):o5 o f=f x:=by rw[h];rfl
theorem X8{o o' :Option α}(h:o=o'){K:α->Option β}{r:Option β}(h2:o5 o' K=r):o5 o K=r:=by rw[h];exact h2
theorem bb(a b:Bool):l9 a (some b) (some false)=some (a&&b):=by cases a<;>rfl
theorem gU(o:Option α):o5 o (λx=>some x)=o:=by cases o<;>rfl
@[simp] theorem o7 (x y:α):l9 true x y=x:=rfl
@[simp] theorem o6 (x y:α):l9 false x y=y:=rfl
theorem Hr{b:Bool}(h:b=true)(x y:α):l9 b x y=x:=by rw[h];rfl
theorem MZ{b:Bool}(h:b=false)(x y:α):l9 b x y=y:=by rw[h];rfl
@[simp] theorem U0 (s:σ) (f:σ->α) (g:ε->α):ah (.inl s) f g=f s:=rfl
@[simp] theorem uj (s:ε) (f:σ->α) (g:ε->α):ah (.inr s) f g=g s:=rfl
@[simp] theorem E5:F7 true=false:=rfl
@[simp] theorem bg:F7 false=true:=rfl
theorem U6(h:a<b):D9 a b=true:=by simp[D9,h]
theorem N7(h:b<=a):D9 a b=false:=by simp[D9];omega
theorem Y5(h:a<=b):L6 a b=true:=by simp[L6,h]
theorem Y9(h:b<a):L6 a b=false:=by simp[L6];omega
theorem O5(h:a=b):x8 a b=true:=by simp[x8,h]
theorem O8(h:a≠b):x8 a b=false:=by simp[x8,h]
theorem jK :D9 a b=true↔a<b:=by simp[D9]
theorem jr :L6 a b=true↔a<=b:=by simp[L6]
theorem P7 :x8 a b=true↔a=b:=by simp[x8]
theorem iM :D9 a b=false↔b<=a:=by simp[D9]
theorem DX :L6 a b=false↔b<a:=by simp[L6]
theorem zh :x8 a b=false↔a≠b:=by simp[x8]
theorem a3O{a b:d5T} :seq a b=true↔a=b:=by simp[seq]
theorem ku(h:0<=a):a.tdiv b=a / b:=Int.tdiv_eq_ediv_of_nonneg h
theorem Bf(h:0<=a):eX a b=a % b:=fM h
def kE(n:Int):Prop:=-9223372036854775808<=n/\n<=9223372036854775807
theorem U4{p:Int}(h:kE p:=by unfold kE;omega):kE p:=h
def U64(n:Int):Prop:=0<=n/\n<=18446744073709551615
theorem oh(h:kE n):IntKind.wrap .i64 n=n:=by unfold kE at h;unfold IntKind.wrap;simp[IntKind.signed,IntKind.bits];omega
theorem b8f(h:U64 n):IntKind.wrap .u64 n=n:=by unfold U64 at h;unfold IntKind.wrap;simp[IntKind.signed,IntKind.bits];omega
theorem ai(h:kE (a+b)):C9 .i64 a b=a+b:=oh h
theorem X3(h:kE (a -b)):J9 .i64 a b=a -b:=oh h
theorem nI(h:kE (a*b)):az .i64 a b=a*b:=oh h
theorem Be(h:kE (a.tdiv b)):dY .i64 a b=a.tdiv b:=oh h
theorem a0C(h:(Lit.int .i64 n).wf=true):kE n:=by simp[Lit.wf,IntKind.min,IntKind.max,IntKind.signed,IntKind.bits]at h;unfold kE;omega
theorem Xt(l:List α):0<=o9 l:=by simp[o9]
theorem F8(l:List α)(i:Nat):G6 l (i:Int)=l[i]?:=by simp[G6]
theorem dU{l:List α}{i:Int}{x:α}(h:G6 l i=some x):0<=i/\i<o9 l/\x∈l/\l[i.toNat]? =some x:=by
 unfold G6 at h;split at h
 .rename_i h0;obtain⟨h1,h2⟩:=X7.1 h;refine⟨h0,by simp[o9];omega,?_,h⟩;rw[←h2];exact I4 h1
 .cases h
theorem lZ{l:List α}{i:Int}(h0:0<=i)(h:i<o9 l):∃x,G6 l i=some x/\x∈l:=by
 unfold o9 at h;refine⟨l[i.toNat]'l7,?_,I4 _⟩;unfold G6
 rw[if_pos h0,bQ]
theorem YC(l:d5T)(i:Nat):sat l (i:Int)=(l[i]?).map λc=>(c.toNat:Int):=by simp[sat]
theorem uq{a b:List α}(h:a.length+b.length<=1073741824):bV a b=some (a++b):=by simp[bV,h]
theorem b8C{l:List α}{lo hi:Int}(h0:0<=lo)(h1:lo<=hi)(h2:hi<=l.length):PG l lo hi=some ((l.take hi.toNat).drop lo.toNat):=by simp[PG,h0,h1,h2]
theorem b8D{l:List α}{hi:Int}(h1:0<=hi)(h2:hi<=l.length):PG l 0 hi=some (l.take hi.toNat):=by rw[b8C l7 h1 h2];simp
end
section
variable {σ ε ρ:Type}
theorem Xv{f:σ->Option (σ⊕ε)}(Inv:σ->Prop)(Q:ε->Prop)(meas:σ->Nat)
  (h:∀s,Inv s->(∃s',f s=some (.inl s')/\Inv s' /\meas s' <meas s)\/(∃e,f s=some (.inr e)/\Q e)):
  ∀n s,Inv s->meas s<n->∃e,lM f n s=some e/\Q e
 |0,_,_,h=>by omega|n+1,s,hi,hm=>by
  unfold lM;rcases h s hi with⟨s',e,hi',hm'⟩|⟨x,e,hx⟩
  .rw[e];exact Xv Inv Q meas h n s' hi' l7
  .rw[e];exact⟨x,rfl,hx⟩
theorem iG{f:σ->Option (σ⊕ε)}{s:σ}(Inv:σ->Prop)(Q:ε->Prop)(meas:σ->Nat)(hi:Inv s)(hm:meas s<18446744073709551616)
  (h:∀s,Inv s->(∃s',f s=some (.inl s')/\Inv s' /\meas s' <meas s)\/(∃e,f s=some (.inr e)/\Q e)):∃e,ay f s=some e/\Q e:=
 Xv Inv Q meas h _ s hi hm
theorem ZV{f:σ->Option (Out σ ε ρ)}(Inv:σ->Prop)(Q:ε->Prop)(Qr:ρ->Prop)(meas:σ->Nat)
  (h:∀s,Inv s->(∃s',f s=some (.nx s')/\Inv s' /\meas s' <meas s)\/(∃e,f s=some (.ex e)/\Q e)\/(∃r,f s=some (.rt r)/\Qr r)):
  ∀n s,Inv s->meas s<n->(∃e,qZ f n s=some (.inl e)/\Q e)\/(∃r,qZ f n s=some (.inr r)/\Qr r)
 |0,_,_,h=>by omega|n+1,s,hi,hm=>by
  unfold qZ;rcases h s hi with⟨s',e,hi',hm'⟩|⟨x,e,hx⟩|⟨x,e,hx⟩
  .rw[e];exact ZV Inv Q Qr meas h n s' hi' l7
  .rw[e];exact .inl ⟨x,rfl,hx⟩
  .rw[e];exact .inr ⟨x,rfl,hx⟩
theorem xC{f:σ->Option (Out σ ε ρ)}{s:σ}(Inv:σ->Prop)(Q:ε->Prop)(Qr:ρ->Prop)(meas:σ->Nat)(hi:Inv s)(hm:meas s<18446744073709551616)
  (h:∀s,Inv s->(∃s',f s=some (.nx s')/\Inv s' /\meas s' <meas s)\/(∃e,f s=some (.ex e)/\Q e)\/(∃r,f s=some (.rt r)/\Qr r)):
  (∃e,ae f s=some (.inl e)/\Q e)\/(∃r,ae f s=some (.inr r)/\Qr r):=
 ZV Inv Q Qr meas h _ s hi hm
end
section
variable {α β ε ρ:Type}
open Classical in
theorem FK(l:List α)(p:Nat->α->Bool)(r:ρ)(e:ε)(f:Int->Option (Out Int ε ρ))(hl:l.length<18446744073709551616)
  (hin:∀(i:Nat) (a:α),l[i]? =some a->f (i:Int)=if p i a=true then some (.nx ((i+1:Nat):Int))else some (.rt r))
  (hend:f (l.length:Int)=some (.ex e)):
  ae f 0=if(∀i a,l[i]? =some a->p i a=true)then some (.inl e)else some (.inr r):=by
 have key:∀(n i:Nat),i<=l.length->l.length -i<n->(∀j a,j<i->l[j]? =some a->p j a=true)->qZ f n (i:Int)=if(∀i a,l[i]? =some a->p i a=true)then some (.inl e)else some (.inr r):=by
  intro n;induction n with
  |zero=>intro i _ h;omega|succ n ih=>
   intro i hi hn hp;unfold qZ;by_cases h:i<l.length
   .have e' :=bQ h;rw[hin i _ e'];by_cases hpi:p i l[i]=true
    .rw[if_pos hpi];exact ih (i+1) l7 l7 λj a hj ha=>by
      by_cases hji:j=i
      .subst hji;rw[e']at ha;cases ha;exact hpi
      .exact hp j a l7 ha
    .rw[if_neg hpi,if_neg];intro hall;exact hpi (hall i _ e')
   .have:i=l.length:=l7;subst this;rw[hend,if_pos];intro j a ha;exact hp j a (X7.1 ha).1 ha
 exact key _ 0 (pq _) hl λj a hj=>by omega
end
end Go.GP
namespace Go.GP
section
variable {α β α' β' σ τ ε ε' ρ ρ' :Type}
def Ag(R:α->β->Prop)(o:Option α)(p:Option β):Prop:=∃a b,o=some a/\p=some b/\R a b
theorem Ag.mk{R:α->β->Prop}{a:α}{b:β}(h:R a b):Ag R (some a) (some b):=⟨a,b,rfl,rfl,h⟩
theorem Ag.mono{R S:α->β->Prop}{o:Option α}{p:Option β}(h:Ag R o p)(hs:∀a b,o=some a->p=some b->R a b->S a b):Ag S o p:=by obtain⟨a,b,h1,h2,h3⟩:=h;exact⟨a,b,h1,h2,hs a b h1 h2 h3⟩
theorem Ag.bind{R:α->β->Prop}{S:α' ->β' ->Prop}{o:Option α}{p:Option β}{f:α->Option α'}{g:β->Option β'}(h:Ag R o p)
  (hk:∀a b,o=some a->p=some b->R a b->Ag S (f a) (g b)):Ag S (o5 o f) (o5 p g):=by
 obtain⟨a,b,h1,h2,h3⟩:=h;have:=hk a b h1 h2 h3;rw[h1,h2];exact this
theorem Ag.left{S:α' ->β->Prop}{o:Option α}{a:α}{f:α->Option α'}{p:Option β}(h:o=some a)(hk:Ag S (f a) p):Ag S (o5 o f) p:=by rw[h];exact hk
theorem Ag.right{S:α->β' ->Prop}{p:Option β}{b:β}{g:β->Option β'}{o:Option α}(h:p=some b)(hk:Ag S o (g b)):Ag S o (o5 p g):=by rw[h];exact hk
theorem Ag.cond{S:α->β->Prop}{b c:Bool}{x y:Option α}{u v:Option β}(h:b=c)(h1:b=true->Ag S x u)(h2:b=false->Ag S y v):Ag S (l9 b x y) (l9 c u v):=by
 subst h;cases b
 .exact h2 rfl
 .exact h1 rfl
theorem Ag.eq{o p:Option α}(h:Ag Eq o p):∃a,o=some a/\p=some a:=by obtain⟨a,b,h1,h2,rfl⟩:=h;exact⟨a,h1,h2⟩
def d5m(E:ε->ε' ->Prop)(Q:ρ->ρ' ->Prop):ε⊕ρ->ε' ⊕ρ' ->Prop
 | .inl a,.inl b=>E a b| .inr a,.inr b=>Q a b|_,_=>False
theorem Ag.sum{E:ε->ε' ->Prop}{Q:ρ->ρ' ->Prop}{S:α->β->Prop}{o:ε⊕ρ}{p:ε' ⊕ρ'}{f:ε->Option α}{g:ρ->Option α}{f' :ε' ->Option β}{g' :ρ' ->Option β}(h:d5m E Q o p)
  (h1:∀a b,E a b->Ag S (f a) (f' b)) (h2:∀a b,Q a b->Ag S (g a) (g' b)):Ag S (ah o f g) (ah p f' g'):=by
 cases o<;>cases p<;>first|exact h1 _ _ h|exact h2 _ _ h|exact h.elim
theorem KC{p:Nat->Option ρ}(n:Nat)(hn:n<18446744073709551616)(e:ε){f:Int->Option (Out Int ε ρ)}
  (h1:∀i,i<n->f (i:Int)=some (match p i with|some r=> .rt r|none=> .nx ((i+1:Nat):Int))) (h2:f (n:Int)=some (.ex e)):
  ae f 0=some (match(List.range n).findSome? p with|some r=> .inr r|none=> .inl e):=by
 have key:∀m i,i+m=n->∀k,m<k->qZ f k (i:Int)=some (match(List.range' i m).findSome? p with|some r=> .inr r|none=> .inl e):=by
  intro m;induction m with
  |zero=>intro i hi k hk;obtain⟨k,rfl⟩:∃k',k=k' +1:=⟨k -1,l7⟩;have:i=n:=l7;subst this;unfold qZ;rw[h2];rfl
  |succ m ih=>
   intro i hi k hk;obtain⟨k,rfl⟩:∃k',k=k' +1:=⟨k -1,l7⟩;unfold qZ;rw[h1 i l7,oP,List.findSome?_cons];cases hp:p i with
   |some r=>rfl|none=>exact ih (i+1) l7 k l7
 have:=key n 0 l7 iL hn;rw[List.range_eq_range'];exact this
end
end Go.GP
namespace Go.GP
open Gt
set_option maxRecDepth 100000
section
variable {i:Nat}
theorem Y3(h:i<=9000000000000000000):C9 .i64 (i:Int) 1=((i+1:Nat):Int):=by rw[ai U4];omega
def Wi(c:UInt8):Bool:=decide (97<=c.toNat)&&decide (c.toNat<=122)
def ES(c:UInt8):Bool:=Wi c || (decide (48<=c.toNat)&&decide (c.toNat<=57)) || decide (c.toNat=95)
def OM:List d5T:=xe.getD []
theorem b9b:xe=some OM:=by kernel_rfl
def EW(s:d5T):Bool:=match s with|[]=>false|c::r=>decide (s.length<=16)&&Wi c&&s.all ES&&!(OM.any λw=>seq s w)
theorem a1O(c:UInt8)(r:d5T):EW (c::r)=(decide ((c::r).length<=16)&&Wi c&&(c::r).all ES&&!(OM.any λw=>seq (c::r) w)):=rfl
theorem ZW(c:UInt8):yu (c.toNat:Int)=some (Wi c):=by
 unfold yu Wi;cases h:decide (97<=c.toNat)<;>simp only[decide_eq_true_eq,decide_eq_false_iff_not]at h
 .rw[Y9 l7];rfl
 .rw[Y5 l7];simp only[o7,fE,L6];congr 1;by_cases h2:c.toNat<=122<;>simp[h2]<;>omega
theorem a2o(c:UInt8):KG (c.toNat:Int)=some (Wi c):=ZW c
def a4D(c:UInt8):Bool:=decide (48<=c.toNat)&&decide (c.toNat<=57)
theorem a4E(c:UInt8):Bg (c.toNat:Int)=some (a4D c):=by
 unfold Bg a4D;cases h:decide (48<=c.toNat)<;>simp only[decide_eq_true_eq,decide_eq_false_iff_not]at h
 .rw[Y9 l7];rfl
 .rw[Y5 l7];simp only[o7,fE,L6];congr 1;by_cases h2:c.toNat<=57<;>simp[h2]<;>omega
theorem b1X(c:UInt8):PW (c.toNat:Int)=some (a4D c):=a4E c
theorem c0h(c:UInt8):x8 (c.toNat:Int) 95=decide (c.toNat=95):=by unfold x8;by_cases h:c.toNat=95<;>simp[h]<;>omega
theorem b9V(c:UInt8):NV (c.toNat:Int)=some (ES c):=by unfold NV;rw[a2o,o8,b1X,c0h];unfold ES;change _=some (Wi c || a4D c || decide (c.toNat=95));cases Wi c<;>cases a4D c<;>rfl
variable {s:d5T}
theorem a0S(h:s.length<=1000000):∃k,zX s=some k/\(k=o9 s↔s.all ES=true):=by
 unfold zX;have:=iG (f:=λ(x:Int)=>l9 (D9 x (o9 s)) (o5 (sat s x) λx_1=>o5 (yu x_1) λx_2=>l9 x_2 (some (Sum.inl (C9 IntKind.i64 x 1)))
   (o5 (sat s x) λx_3=>o5 (Bg x_3) λx_4=>l9 x_4 (some (Sum.inl (C9 IntKind.i64 x 1))) (o5 (sat s x) λx_5=>l9 (x8 x_5 95) (some (Sum.inl (C9 IntKind.i64 x 1))) (some (Sum.inr x))))) (some (Sum.inr x)))
  (s:=0) (λx=>∃i:Nat,x=i/\i<=s.length/\(s.take i).all ES=true) (λk=>k=o9 s↔s.all ES=true) (λx=>s.length -x.toNat) ⟨0,rfl,l7,rfl⟩ Y8 ?_
 .obtain⟨k,h1,h2⟩:=this;refine⟨k,?_,h2⟩;rw[gU];exact h1
 .rintro x ⟨i,rfl,hi,hall⟩;by_cases hl:i<s.length
  .have e:=bQ hl;simp only[U6 (show(i:Int)<o9 s by simp[o9];omega),o7,YC,e,eH,o8,ZW,a4E,c0h];have hst:(s.take (i+1)).all ES=((s.take i).all ES&&ES s[i]):=by rw[U7 hl,List.all_append];simp
   have hw:ES s[i]=(Wi s[i] || a4D s[i] || decide (s[i].toNat=95)):=rfl;cases hwb:ES s[i]with
   |true=>left;refine⟨((i+1:Nat):Int),?_,⟨i+1,rfl,hl,by rw[hst,hall,hwb];rfl⟩,by simp;omega⟩;rw[Y3 l7];rw[hw]at hwb;cases h1:Wi s[i]<;>cases h2:a4D s[i]<;>cases h3:decide (s[i].toNat=95)<;>rw[h1,h2,h3]at hwb<;>first|rfl|cases hwb
   |false=>
    right;refine⟨(i:Int),?_,?_⟩
    .rw[hw]at hwb;cases h1:Wi s[i]<;>cases h2:a4D s[i]<;>cases h3:decide (s[i].toNat=95)<;>rw[h1,h2,h3]at hwb<;>first|rfl|cases hwb
    .constructor
     .intro h;simp[o9]at h;omega
     .intro h;have:=lC.1 h s[i] (I4 hl);rw[hwb]at this;cases this
  .right;have:i=s.length:=l7;subst this;rw[aS]at hall;exact⟨_,by rw[N7 (by simp[o9])];rfl,by simp[o9,hall]⟩
theorem b2f{a:d5T}{w:d5T}{r:d5W}{x:Bool}(h:r=some x):l9 (seq a w) (some (seq a w)) r=some (seq a w || x):=by rw[h];cases seq a w<;>rfl
theorem a5X(s:d5T):Ee s=some (OM.any λw=>seq s w):=by
 unfold Ee;refine X8 (o' :=some (OM.any λw=>seq s w)) ?_ (by cases OM.any λw=>seq s w<;>rfl);have hr:OM=(xe).getD []:=rfl;rw[show(OM.any λw=>seq s w)=List.foldr (λw b=>seq s w || b) false OM from by induction OM with|nil=>rfl|cons w l ih=>simp[jT,ih]];unfold OM xe;simp only[dK,List.foldr]
 repeat (refine b2f ?_)
 simp
theorem uA(h:s.length<=1000000):ji s=some (EW s):=by
 unfold ji;cases s with
 |nil=>rfl|cons c r=>
  have h1:seq (c::r) []=false:=by simp[seq]
  obtain⟨k,h2,h3⟩:=a0S h;rw[h1];simp only[bg,o7];rw[show sat (c::r) 0=some (c.toNat:Int)from rfl,o8,ZW,o8,h2,o8,a5X,o8];have h4:x8 k (o9 (c::r))=(c::r).all ES:=by rw[fO,P7];exact h3
  have h5:L6 (o9 (c::r)) 16=decide ((c::r).length<=16):=by simp only[L6,o9];congr 1;simp;omega
  rw[h4,h5,a1O];cases Wi c<;>cases (c::r).all ES<;>cases decide ((c::r).length<=16)<;>rfl
theorem pI(h:s.length<=1000000):gq s=some (EW s):=by
 unfold gq;cases s with
 |nil=>rfl|cons c r=>
  have h0:x8 (o9 (c::r)) 0=false:=O8 (by simp[o9];omega);have h5:D9 16 (o9 (c::r))= !decide ((c::r).length<=16):=by simp only[D9,o9];rw[←decide_not];congr 1;simp;omega
  rw[h0,h5,show sat (c::r) 0=some (c.toNat:Int)from rfl,o8,a2o,o8,a1O];generalize hs:c::r=s at*;cases hl:decide (s.length<=16)
  .rfl
  cases hc:Wi c
  .rfl
  simp only[jf,o6,E5,o8,U0,fE];refine X8 (FK s (λi a=>ES a) false PUnit.unit _ l7 (λi x hx=>?_) ?_) ?_
  rotate_left 2
  .have ha:(∀(i:Nat) (a:UInt8),s[i]? =some a->ES a=true)↔s.all ES=true:=by
    rw[lC];constructor
    .intro h x hx;obtain⟨i,hi,rfl⟩:=Y7 hx;exact h i _ (bQ hi)
    .intro h i a hi;exact h a (kK hi)
   by_cases hw:s.all ES=true
   .rw[if_pos (ha.2 hw),o8,U0,b9b,o8,hw];refine X8 (FK OM (λi a=> !seq a s) false PUnit.unit _ (by decide+kernel) (λi x hx=>?_) ?_) ?_
    rotate_left 2
    .have hb:(∀(i:Nat) (a:d5T),OM[i]? =some a->(!seq a s)=true)↔(OM.any λw=>seq s w)=false:=by
      rw[jg];constructor
      .intro h x hx;obtain⟨i,hi,rfl⟩:=Y7 hx;have:=h i _ (bQ hi);intro hq;rw[a3O.1 hq]at this;simp[seq]at this
      .intro h i a hi;have:=h a (kK hi);cases hq:seq a s
       .rfl
       .exact absurd (by rw[a3O.1 hq];simp[seq]) this
     by_cases hv:(OM.any λw=>seq s w)=false
     .rw[if_pos (hb.2 hv),hv];rfl
     .rw[if_neg (λh=>hv (hb.1 h))];simp only[rJ]at hv;rw[hv];rfl
    .have hi:=(X7.1 hx).1;simp only[U6 (show(i:Int)<o9 OM by simp[o9];omega),o7,F8,hx,o8];rw[show V4 OM (V8 (i:Int))=some x from by simp[V4,V8,hx],o8,Y3 (by
       have:OM.length<=100:=by decide+kernel
       omega)]
     cases seq x s<;>rfl
    .rw[N7 (by simp[o9])];rfl
   .rw[if_neg (λh=>hw (ha.1 h))];simp only[lu]at hw;rw[hw];rfl
  .have hi:=(X7.1 hx).1;simp only[U6 (show(i:Int)<o9 s by simp[o9];omega),o7,YC,hx,eH,o8,b9V];rw[Y3 l7];cases ES x<;>rfl
  .rw[N7 (by simp[o9])];rfl
theorem Vs(t:Int×Int)(en:List jw):jq t en=fF t en:=by
 unfold jq fF;by_cases h1:t.1=1
 .simp[x8,h1,L6]
 by_cases h2:t.1=2
 .simp[x8,h2,L6]
 by_cases h3:t.1=3
 .simp[x8,h3,L6]
 by_cases h4:t.1=4
 .simp[x8,h4,L6]
 by_cases h5:t.1=5
 .simp[x8,h5,L6]
 by_cases h6:t.1=6
 .simp[x8,h6,L6]
 .simp only[x8,h1,h2,h3,h4,h5,h6,decide_false,o6,o8];by_cases h7:1<=t.1
  .rw[Hr (Y5 h7),MZ (Y9 l7)]
  .rw[MZ (Y9 l7)]
theorem b0O(t:Int×Int)(en:List jw):vN t en=pW t en:=by unfold vN pW;rw[Vs]
def vty(t:Int×Int)(en:List jw):Bool:=l9 (x8 t.1 6) (l9 (L6 0 t.2) (D9 t.2 (o9 en)) false) (l9 (L6 1 t.1) (l9 (L6 t.1 5) (x8 t.2 0) false) false)
theorem kD(t:Int×Int)(en:List jw):fF t en=some (vty t en):=by unfold fF vty;cases x8 t.1 6<;>cases L6 0 t.2<;>cases L6 1 t.1<;>cases L6 t.1 5<;>rfl
theorem AC(t:Int×Int)(en:List jw):jq t en=some (vty t en):=(Vs t en).trans (kD t en)
theorem a3C(t:Int×Int)(en:List jw):∃b:Int×Int,pW t en=some b:=by
 unfold pW;rw[kD,o8];cases hv:vty t en
 .exact⟨_,rfl⟩
 simp only[E5,o6];cases h1:x8 t.1 1<;>simp only[o7,o6]
 .cases h2:x8 t.1 2<;>simp only[o7,o6]
  .cases h3:x8 t.1 3<;>simp only[o7,o6]
   .cases h4:x8 t.1 4<;>simp only[o7,o6]
    .cases h5:x8 t.1 5<;>simp only[o7,o6]
     .have h6:x8 t.1 6=true/\L6 0 t.2=true/\D9 t.2 (o9 en)=true:=by
       unfold vty at hv;rw[zh]at h1 h2 h3 h4 h5;cases h6:x8 t.1 6<;>rw[h6]at hv
       .rw[zh]at h6;cases h7:L6 1 t.1<;>rw[h7]at hv
        .cases hv
        cases h8:L6 t.1 5<;>rw[h8]at hv
        .cases hv
        rw[jr]at h7 h8;omega
       .cases h7:L6 0 t.2<;>rw[h7]at hv
        .cases hv
        .exact⟨rfl,rfl,hv⟩
      obtain⟨x,hx,_⟩:=lZ (jr.1 h6.2.1) (jK.1 h6.2.2);rw[hx];exact⟨_,rfl⟩
     .exact⟨_,rfl⟩
    .exact⟨_,rfl⟩
   .exact⟨_,rfl⟩
  .exact⟨_,rfl⟩
 .exact⟨_,rfl⟩
def bnd(t:Int×Int)(en:List jw):Int×Int:=(pW t en).getD (0,0)
theorem Tu(t:Int×Int)(en:List jw):pW t en=some (bnd t en):=by obtain⟨b,h⟩:=a3C t en;unfold bnd;rw[h];rfl
theorem VF(t:Int×Int)(en:List jw):vN t en=some (bnd t en):=(b0O t en).trans (Tu t en)
def inB(n:Int)(b:Int×Int):Bool:=l9 (L6 b.1 n) (L6 n b.2) false
theorem a3x(n:Int)(t:Int×Int)(en:List jw):Jv n t en=some (inB n (bnd t en)):=by unfold Jv inB;rw[Tu,o8];cases L6 (bnd t en).1 n<;>rfl
def Ja(r:Int×Int):Bool:=l9 (L6 0 r.1) (l9 (L6 r.1 r.2) (L6 r.2 109573) false) false
theorem LM(r:Int×Int):uB r=some (Ja r):=by unfold uB Ja;cases L6 0 r.1<;>cases L6 r.1 r.2<;>rfl
theorem NU(r:Int×Int):zx r=some (Ja r):=LM r
def Zu(a b:Int×Int):(Int×Int)×Bool:=l9 (Ja a) (l9 (Ja b) (l9 (L6 (qU a.2 b.2) (pO a.1 b.1)) ((0,0),false) ((pO a.1 b.1,qU a.2 b.2),true)) ((0,0),false)) ((0,0),false)
theorem b5N(a b:Int×Int):BP a b=some (Zu a b):=by unfold BP Zu;rw[NU,o8,NU,o8];cases Ja a<;>cases Ja b<;>cases L6 (qU a.2 b.2) (pO a.1 b.1)<;>rfl
theorem b9G(a b:Int×Int):wB a b=some (Zu a b):=by
 unfold wB yG Zu;rw[LM,o8,LM,o8];cases Ja a
 .rfl
 simp only[o7];cases h1:D9 a.1 a.2
 .rw[iM]at h1;rw[Y5 (show qU a.2 b.2<=pO a.1 b.1 by unfold qU pO;omega)];cases Ja b<;>rfl
 simp only[o8,E5,o6];cases Ja b
 .rfl
 simp only[o7];cases h2:D9 b.1 b.2
 .rw[iM]at h2;rw[Y5 (show qU a.2 b.2<=pO a.1 b.1 by unfold qU pO;omega)];rfl
 .cases L6 (qU a.2 b.2) (pO a.1 b.1)<;>rfl
def AZ(a b:ET):Bool:=l9 (Zu a.1 b.1).2 (D9 (pO a.2.1 b.2.1) (qU a.2.2.1 b.2.2.1)) false
theorem a4A(a b:ET):EO a b=some (AZ a b):=by unfold EO AZ;rw[b9G,o8];cases (Zu a.1 b.1).2<;>rfl
theorem a3D(a b:ET):Et a b=some (AZ a b):=by unfold Et AZ;rw[b5N,o8];cases (Zu a.1 b.1).2<;>rfl
theorem b3A{l:List ET}(r:ET)(h:l.length<=1000000):∃k:Int,wF l r=some (k,l.any λy=>AZ y r):=by
 unfold wF;have key:=xC (f:=λ(x:Int)=>l9 (D9 x (o9 l)) (o5 (G6 l x) λx_1=>o5 (xk x_1 r) λx_2=>l9 x_2 (some (Out.rt (x,true))) (some (Out.nx (C9 IntKind.i64 x 1)))) (some (Out.ex PUnit.unit)))
   (s:=0) (λx=>∃i:Nat,x=i/\i<=l.length/\(l.take i).any (λy=>AZ y r)=false) (λ_=>(l.any λy=>AZ y r)=false) (λk=>k.2=true/\(l.any λy=>AZ y r)=true) (λx=>l.length -x.toNat) ⟨0,rfl,l7,rfl⟩ Y8 ?_
 .rcases key with⟨e,h1,h2⟩|⟨k,h1,h2,h3⟩
  .exact⟨0,by rw[h1,h2];rfl⟩
  .refine⟨k.1,?_⟩;rw[h1,h3,←h2];rfl
 .rintro x ⟨i,rfl,hi,hall⟩;by_cases hl:i<l.length
  .have e:=bQ hl;have hst:(l.take (i+1)).any (λy=>AZ y r)=((l.take i).any (λy=>AZ y r) || AZ l[i] r):=by rw[U7 hl,vC];simp
   have hv:xk l[i] r=some (AZ l[i] r):=by unfold xk;rw[a4A];rfl
   simp only[U6 (show(i:Int)<o9 l by simp[o9];omega),o7,F8,e,o8,hv];cases hc:AZ l[i] r with
   |true=>exact .inr (.inr ⟨_,rfl,rfl,aP.2 ⟨l[i],I4 hl,hc⟩⟩)|false=>exact .inl ⟨((i+1:Nat):Int),by rw[Y3 l7];rfl,⟨i+1,rfl,hl,by rw[hst,hall,hc];rfl⟩,by simp;omega⟩
  .have:i=l.length:=l7;subst this;rw[aS]at hall;exact .inr (.inl ⟨_,by rw[N7 (by simp[o9])];rfl,hall⟩)
def Xf(x:ET)(bl br:Int×Int):Bool:=
 l9 (Ja x.1) (l9 (x8 x.1.1 x.1.2) true (l9 (L6 x.2.2.1 x.2.1) true (l9 (inB x.2.1 bl) (l9 (inB (J9 .i64 x.2.2.1 1) bl) (F7 (inB x.2.2.2 br)) true) true))) true
theorem b2l(x:ET)(t:fZ)(en:List jw):KH x t en=some (Xf x (bnd t.2.1 en) (bnd t.2.2.1 en)):=by
 unfold KH Xf;rw[NU,o8,a3x,a3x,a3x];cases Ja x.1
 .rfl
 cases x8 x.1.1 x.1.2
 case true=>rfl
 cases L6 x.2.2.1 x.2.1
 case true=>rfl
 simp only[E5,o6,o8,U0,o7];cases inB x.2.1 (bnd t.2.1 en)
 .rfl
 cases inB (J9 .i64 x.2.2.1 1) (bnd t.2.1 en)
 .rfl
 rfl
def a1e(t:fZ)(en:List jw)(i:Nat):Option (Int×Int):=match t.2.2.2[i]? with
 |some x=>l9 (Xf x (bnd t.2.1 en) (bnd t.2.2.1 en)) (some ((i:Int),3)) (l9 ((t.2.2.2.take i).any λy=>AZ y x) (some ((i:Int),11)) none)|none=>none
def Rz(t:fZ)(en:List jw):Int×Int:=
 l9 (D9 64 (o9 t.2.2.2)) (64,4) (l9 (vty t.2.1 en) (l9 (vty t.2.2.1 en) (match(List.range t.2.2.2.length).findSome? (a1e t en)with|some r=>r|none=>(0,0)) (-1,8)) (-1,8))
theorem rH(a b:Int):D9 a b= !L6 b a:=by simp only[D9,L6];rw[←decide_not];congr 1;simp
theorem b2k(t:fZ)(en:List jw):Es t en=some (Rz t en):=by
 unfold Es Rz;rw[kD,o8,kD,o8];cases h64:D9 64 (o9 t.2.2.2)
 case true=>rfl
 simp only[o6];cases vty t.2.1 en
 .rfl
 cases vty t.2.2.1 en
 .rfl
 simp only[E5,o6,o8,U0,o7];have hlen:t.2.2.2.length<=64:=by rw[iM]at h64;simp only[o9]at h64;omega
 refine X8 (KC (p:=a1e t en) t.2.2.2.length l7 PUnit.unit (λi hi=>?_) ?_) ?_
 rotate_left 2
 .cases (List.range t.2.2.2.length).findSome? (a1e t en)<;>rfl
 .have e:=bQ hi;simp only[U6 (show(i:Int)<o9 t.2.2.2 by simp only[o9];omega),o7,F8,e,o8,b2l,a1e];cases Xf t.2.2.2[i] (bnd t.2.1 en) (bnd t.2.2.1 en)
  case true=>rfl
  simp only[o6];refine X8 (FK (t.2.2.2.take i) (λj a=> !AZ a t.2.2.2[i]) ((i:Int),(11:Int)) PUnit.unit _ Y8 (λj x hx=>?_) ?_) ?_
  rotate_left 2
  .have hb:(∀(j:Nat) (a:ET),(t.2.2.2.take i)[j]? =some a->(!AZ a t.2.2.2[i])=true)↔((t.2.2.2.take i).any λy=>AZ y t.2.2.2[i])=false:=by
    rw[jg];constructor
    .intro h x hx;obtain⟨j,hj,rfl⟩:=Y7 hx;have:=h j _ (bQ hj);simpa using this
    .intro h j a hj;have:=h a (kK hj);simpa using this
   by_cases hv:((t.2.2.2.take i).any λy=>AZ y t.2.2.2[i])=false
   .rw[if_pos (hb.2 hv),hv,Y3 l7];rfl
   .rw[if_neg (λh=>hv (hb.1 h))];simp only[rJ]at hv;rw[hv];rfl
  .have hj:=(X7.1 hx).1;simp only[bD]at hj;have hx' :t.2.2.2[j]? =some x:=by rw[Z7]at hx;split at hx<;>first|exact hx|cases hx
   simp only[U6 (show(j:Int)<(i:Int) by omega),o7,F8,hx',o8,e,a3D];rw[Y3 l7];cases AZ x t.2.2.2[i]<;>rfl
  .have hl:(t.2.2.2.take i).length=i:=by simp;omega
   rw[hl,N7 l7];rfl
 .rw[N7 (by simp[o9])];rfl
variable {α:Type}
theorem Dj{l:List α}(h:i<=l.length):PG l 0 (i:Int)=some (l.take i):=by rw[b8D l7 l7];simp
theorem b7Q(t:fZ)(en:List jw):EL t en=some (Rz t en):=by
 unfold EL Rz;rw[AC,o8,AC,o8];cases h64:D9 64 (o9 t.2.2.2)
 case true=>rfl
 simp only[o6];cases vty t.2.1 en
 .rfl
 cases vty t.2.2.1 en
 .rfl
 simp only[E5,o6,o8,U0,o7,VF];have hlen:t.2.2.2.length<=64:=by rw[iM]at h64;simp only[o9]at h64;omega
 refine X8 (KC (p:=a1e t en) t.2.2.2.length l7 PUnit.unit (λi hi=>?_) ?_) ?_
 rotate_left 2
 .cases (List.range t.2.2.2.length).findSome? (a1e t en)<;>rfl
 .have e:=bQ hi;simp only[U6 (show(i:Int)<o9 t.2.2.2 by simp only[o9];omega),o7,F8,e,o8,a1e,LM,Dj (show i<=t.2.2.2.length by omega)];obtain⟨k,hk⟩:=b3A (l:=t.2.2.2.take i) t.2.2.2[i] Y8;rw[hk,Y3 l7];unfold Xf inB;simp only[rH];generalize bnd t.2.1 en=bl;generalize bnd t.2.2.1 en=br;cases Ja t.2.2.2[i].1
  .rfl
  cases x8 t.2.2.2[i].1.1 t.2.2.2[i].1.2
  case true=>rfl
  cases L6 t.2.2.2[i].2.2.1 t.2.2.2[i].2.1
  case true=>rfl
  cases L6 bl.1 t.2.2.2[i].2.1
  .rfl
  cases L6 t.2.2.2[i].2.1 bl.2
  .rfl
  cases L6 bl.1 (J9 IntKind.i64 t.2.2.2[i].2.2.1 1)
  .rfl
  cases L6 (J9 IntKind.i64 t.2.2.2[i].2.2.1 1) bl.2
  .rfl
  cases L6 br.1 t.2.2.2[i].2.2.2
  .rfl
  cases L6 t.2.2.2[i].2.2.2 br.2
  .rfl
  cases (t.2.2.2.take i).any λy=>AZ y t.2.2.2[i]<;>rfl
 .rw[N7 (by simp[o9])];rfl
section
variable {α ε ρ:Type}
theorem xw(l:List α)(p:α->Bool)(r:ρ)(e:ε){f:Int->Option (Out Int ε ρ)}(hl:l.length<=1000000)
  (hin:∀(i:Nat) (a:α),l[i]? =some a->f (i:Int)=some (bif p a then .rt r else .nx (C9 .i64 (i:Int) 1))) (hend:f (l.length:Int)=some (.ex e)):
  ae f 0=some (bif l.any p then .inr r else .inl e):=by
 rw[FK l (λi a=> !p a) r e f l7 (λi a ha=>?_) hend]
 .have hb:(∀(j:Nat) (a:α),l[j]? =some a->(!p a)=true)↔l.any p=false:=by
   rw[jg];constructor
   .intro h x hx;obtain⟨j,hj,rfl⟩:=Y7 hx;have:=h j _ (bQ hj);simpa using this
   .intro h j a hj;have:=h a (kK hj);simpa using this
  by_cases hv:l.any p=false
  .rw[if_pos (hb.2 hv),hv];rfl
  .rw[if_neg (λh=>hv (hb.1 h))];simp only[rJ]at hv;rw[hv];rfl
 .have hi:=(X7.1 ha).1;rw[hin i a ha,Y3 l7];cases p a<;>rfl
theorem zW(l:List α)(p:α->Bool){f:Int->Option (Out Int PUnit Int)}(hl:l.length<=1000000)
  (hin:∀(i:Nat) (a:α),l[i]? =some a->f (i:Int)=some (bif p a then .rt (i:Int)else .nx (C9 .i64 (i:Int) 1))) (hend:f (l.length:Int)=some (.ex PUnit.unit)):
  o5 (o5 (ae f 0) λo=>ah o (λ_=>some (-1)) λr=>some r) (λx=>some (L6 0 x))=some (l.any p):=by
 have key:=xC (f:=f) (s:=0) (λx=>∃i:Nat,x=i/\i<=l.length/\(l.take i).any p=false) (λ_=>l.any p=false) (λk=>0<=k/\l.any p=true) (λx=>l.length -x.toNat) ⟨0,rfl,l7,rfl⟩ Y8 ?_
 .rcases key with⟨e,h1,h2⟩|⟨k,h1,h2,h3⟩
  .rw[h1,h2];rfl
  .rw[h1,h3,o8,uj,o8,Y5 h2]
 .rintro x ⟨i,rfl,hi,hall⟩;by_cases h:i<l.length
  .have e:=bQ h;have hst:(l.take (i+1)).any p=((l.take i).any p || p l[i]):=by rw[U7 h,vC];simp
   rw[hin i _ e];cases hc:p l[i]with
   |true=>exact .inr (.inr ⟨_,rfl,l7,aP.2 ⟨l[i],I4 h,hc⟩⟩)|false=>exact .inl ⟨((i+1:Nat):Int),by rw[Y3 l7];rfl,⟨i+1,rfl,h,by rw[hst,hall,hc];rfl⟩,by simp;omega⟩
  .have:i=l.length:=l7;subst this;rw[aS]at hall;exact .inr (.inl ⟨_,hend,hall⟩)
theorem J3{l:List α}{a:α}(h:l[i]? =some a):D9 (i:Int) (o9 l)=true:=U6 (by have:=(X7.1 h).1;simp only[o9];omega)
theorem I9(l:List α):D9 (l.length:Int) (o9 l)=false:=N7 (by simp[o9])
end
theorem SQ{l:List jw}(n:d5T)(h:l.length<=1000000):Df l n=some (l.any λx=>seq x.1 n):=by unfold Df kR mf;rw[gU];refine zW l (λx=>seq x.1 n) h (λi a ha=>?_) (by rw[I9];rfl);rw[J3 ha,o7,F8,ha,o8];unfold Lh;rw[o8];cases seq a.1 n<;>rfl
theorem Xp{l:List fZ}(n:d5T)(h:l.length<=1000000):Ed l n=some (l.any λx=>seq x.1 n):=by unfold Ed jD kY;rw[gU];refine zW l (λx=>seq x.1 n) h (λi a ha=>?_) (by rw[I9];rfl);rw[J3 ha,o7,F8,ha,o8];unfold Ji;rw[o8];cases seq a.1 n<;>rfl
theorem a4U{l:List A7}(s:A7)(h:l.length<=1000000):gW l s=some (l.any λx=>seq x.1 s.1):=by unfold gW kW;refine zW l (λx=>seq x.1 s.1) h (λi a ha=>?_) (by rw[I9];rfl);rw[J3 ha,o7,F8,ha,o8];unfold FD;rw[o8];cases seq a.1 s.1<;>rfl
theorem a7p{l:List aj}(s:aj)(h:l.length<=1000000):iK l s=some (l.any λx=>seq x.1 s.1):=by unfold iK mg;refine zW l (λx=>seq x.1 s.1) h (λi a ha=>?_) (by rw[I9];rfl);rw[J3 ha,o7,F8,ha,o8];unfold Ha;rw[o8];cases seq a.1 s.1<;>rfl
theorem Xo{l:List jm}(s:jm)(h:l.length<=1000000):dX l s=some (l.any λx=>seq x.1 s.1):=by unfold dX kV;refine zW l (λx=>seq x.1 s.1) h (λi a ha=>?_) (by rw[I9];rfl);rw[J3 ha,o7,F8,ha,o8];unfold FC;rw[o8];cases seq a.1 s.1<;>rfl
theorem b1h{l:List d5T}(s:d5T)(h:l.length<=1000000):lm l s=some (l.any λx=>seq s x):=by unfold lm ui;refine zW l (λx=>seq s x) h (λi a ha=>?_) (by rw[I9];rfl);rw[J3 ha,o7,F8,ha,o8];cases seq s a<;>rfl
variable {l:d5R}
theorem b1g(s:Int)(h:l.length<=1000000):qH l s=some (l.any λx=>x8 s x):=by unfold qH zJ;refine zW l (λx=>x8 s x) h (λi a ha=>?_) (by rw[I9];rfl);rw[J3 ha,o7,F8,ha,o8];cases x8 s a<;>rfl
section
variable {α ε ρ:Type}
theorem Lu(l:List α)(k:Nat)(p:α->Bool)(r:ρ)(e:ε){f:Int->Option (Out Int ε ρ)}(hl:l.length<=1000000)
  (hin:∀(i:Nat) (a:α),l[i]? =some a->f (i:Int)=some (bif (decide (i<k)&&p a)then .rt r else .nx (C9 .i64 (i:Int) 1))) (hend:f (l.length:Int)=some (.ex e)):
  ae f 0=some (bif (l.take k).any p then .inr r else .inl e):=by
 rw[FK l (λi a=> !(decide (i<k)&&p a)) r e f l7 (λi a ha=>?_) hend]
 .have hb:(∀(j:Nat) (a:α),l[j]? =some a->(!(decide (j<k)&&p a))=true)↔(l.take k).any p=false:=by
   rw[jg];constructor
   .intro h x hx;obtain⟨j,hj,rfl⟩:=Y7 hx;simp only[bD]at hj;have:=h j _ (bQ l7);rw[rM];simp only[show j<k by omega,decide_true,fE]at this;simpa using this
   .intro h j a hj;by_cases hk:j<k
    .have hm:a∈l.take k:=kK (i:=j) (by rw[ja hk];exact hj);have:=h a hm;simpa[hk]using this
    .simp[hk]
  by_cases hv:(l.take k).any p=false
  .rw[if_pos (hb.2 hv),hv];rfl
  .rw[if_neg (λh=>hv (hb.1 h))];simp only[rJ]at hv;rw[hv];rfl
 .have hi:=(X7.1 ha).1;rw[hin i a ha,Y3 l7];cases decide (i<k)&&p a<;>rfl
end
theorem Uk(i k:Nat):D9 (i:Int) (k:Int)=decide (i<k):=by unfold D9;by_cases h:i<k<;>simp[h]<;>omega
def GX(l:U9)(kind:Nat)(k:Nat)(n:d5T):Bool:=
 match kind with
 |1=>(l.1.take k).any λx=>seq x.1 n|2=>(l.1.any λx=>seq x.1 n) || ((l.2.1.take k).any λx=>seq x.1 n)|_=>(l.1.any λx=>seq x.1 n) || (l.2.1.any λx=>seq x.1 n) || ((l.2.2.take k).any λx=>seq x.1 n)
def Few(l:U9):Prop:=l.1.length<=1000/\l.2.1.length<=1000/\l.2.2.length<=1000
theorem b2v{l:U9}(h:Few l)(k:Nat)(n:d5T):kz l 1 (k:Int) n=some (GX l 1 k n):=by
 unfold kz GX;refine X8 (Lu l.1 k (λx=>seq x.1 n) true PUnit.unit (by have:=h.1;omega) (λi a ha=>?_) ?_) ?_
 rotate_left 2
 .cases (l.1.take k).any λx=>seq x.1 n
  case true=>rfl
  simp only[cond_false,U0];refine X8 (Lu l.2.1 0 (λx=>seq x.1 n) true PUnit.unit (by have:=h.2.1;omega) (λi a ha=>?_) ?_) ?_
  rotate_left 2
  .simp only[List.take_zero,List.any_nil,cond_false,U0];refine X8 (Lu l.2.2 0 (λx=>seq x.1 n) true PUnit.unit (by have:=h.2.2;omega) (λi a ha=>?_) ?_) ?_
   rotate_left 2
   .rfl
   .rw[J3 ha];simp;rfl
   .rw[I9];rfl
  .rw[J3 ha];simp;rfl
  .rw[I9];rfl
 .rw[J3 ha,F8,ha,o8,Uk,o7];cases decide (i<k)<;>cases seq a.1 n<;>rfl
 .rw[I9];rfl
theorem b2w{l:U9}(h:Few l)(k:Nat)(n:d5T):kz l 2 (k:Int) n=some (GX l 2 k n):=by
 unfold kz GX;refine X8 (xw l.1 (λx=>seq x.1 n) true PUnit.unit (by have:=h.1;omega) (λi a ha=>?_) ?_) ?_
 rotate_left 2
 .cases l.1.any λx=>seq x.1 n
  case true=>rfl
  simp only[cond_false,U0,jR];refine X8 (Lu l.2.1 k (λx=>seq x.1 n) true PUnit.unit (by have:=h.2.1;omega) (λi a ha=>?_) ?_) ?_
  rotate_left 2
  .cases (l.2.1.take k).any λx=>seq x.1 n
   case true=>rfl
   simp only[cond_false,U0];refine X8 (Lu l.2.2 0 (λx=>seq x.1 n) true PUnit.unit (by have:=h.2.2;omega) (λi a ha=>?_) ?_) ?_
   rotate_left 2
   .rfl
   .rw[J3 ha];simp;rfl
   .rw[I9];rfl
  .rw[J3 ha,F8,ha,o8,Uk,o7];cases decide (i<k)<;>cases seq a.1 n<;>rfl
  .rw[I9];rfl
 .rw[J3 ha,F8,ha,o8,o7];cases seq a.1 n<;>rfl
 .rw[I9];rfl
theorem b2x{l:U9}(h:Few l)(k:Nat)(n:d5T):kz l 3 (k:Int) n=some (GX l 3 k n):=by
 unfold kz GX;refine X8 (xw l.1 (λx=>seq x.1 n) true PUnit.unit (by have:=h.1;omega) (λi a ha=>?_) ?_) ?_
 rotate_left 2
 .cases l.1.any λx=>seq x.1 n
  case true=>rfl
  simp only[cond_false,U0,jR];refine X8 (xw l.2.1 (λx=>seq x.1 n) true PUnit.unit (by have:=h.2.1;omega) (λi a ha=>?_) ?_) ?_
  rotate_left 2
  .cases l.2.1.any λx=>seq x.1 n
   case true=>rfl
   simp only[cond_false,U0,jR];refine X8 (Lu l.2.2 k (λx=>seq x.1 n) true PUnit.unit (by have:=h.2.2;omega) (λi a ha=>?_) ?_) ?_
   rotate_left 2
   .cases (l.2.2.take k).any λx=>seq x.1 n<;>rfl
   .rw[J3 ha,F8,ha,o8,Uk,o7];cases decide (i<k)<;>cases seq a.1 n<;>rfl
   .rw[I9];rfl
  .rw[J3 ha,F8,ha,o8,o7];cases seq a.1 n<;>rfl
  .rw[I9];rfl
 .rw[J3 ha,F8,ha,o8,o7];cases seq a.1 n<;>rfl
 .rw[I9];rfl
def a0Q(ms:List d5T)(i:Nat):Option (Int×Int):=match ms[i]? with
 |some m=>l9 (EW m) (l9 ((ms.take i).any λx=>seq m x) (some (7,((100+i:Nat):Int))) none) (some (2,((100+i:Nat):Int)))|none=>none
def Xk(l:U9)(i:Nat)(e:jw):Int×Int:=
 l9 (EW e.1) (l9 (GX l 1 i e.1) (7,0) (l9 (x8 (o9 e.2) 0) (5,0) (l9 (D9 16 (o9 e.2)) (4,116) (match(List.range e.2.length).findSome? (a0Q e.2)with|some r=>r|none=>(0,0))))) (2,0)
theorem a9I(h:i<=1000000):C9 .i64 100 (i:Int)=((100+i:Nat):Int):=by rw[ai U4];omega
theorem a2I{l:U9}(h:Few l)(hi:i<=l.1.length)(e:jw)(h1:e.1.length<=1000000)(h2:∀m∈e.2,m.length<=1000000):
  Gj l (i:Int) e=some (Xk l i e):=by
 unfold Gj Xk GX;rw[uA h1,o8,Dj hi,o8,SQ _ (by have:=h.1;simp;omega),o8];cases EW e.1
 .rfl
 simp only[E5,o6,o7];cases (l.1.take i).any λx=>seq x.1 e.1
 case true=>rfl
 cases x8 (o9 e.2) 0
 case true=>rfl
 cases h16:D9 16 (o9 e.2)
 case true=>rfl
 simp only[o6];have hlen:e.2.length<=16:=by rw[iM]at h16;simp only[o9]at h16;omega
 refine X8 (KC (p:=a0Q e.2) e.2.length l7 PUnit.unit (λj hj=>?_) ?_) ?_
 rotate_left 2
 .cases (List.range e.2.length).findSome? (a0Q e.2)<;>rfl
 .have e' :=bQ hj;rw[J3 e',o7,F8,e',o8,uA (h2 _ (I4 hj)),o8,Dj l7,o8,b1h _ Y8,o8,a9I l7,Y3 l7];simp only[a0Q,e'];cases EW e.2[j]
  .rfl
  cases (e.2.take j).any λx=>seq e.2[j] x<;>rfl
 .rw[I9];rfl
theorem b6v(a b:d5T):seq a b=seq b a:=by unfold seq;by_cases h:a=b<;>simp[h,eq_comm]
variable {ρ:Type}{ε:Type}{σ:Type}
theorem b0J(l:List α)(p:α->Bool)(n:Nat)(hn:n<=l.length)(hl:l.length<=1000000)(a b:σ)(r:ρ)(e:ε){f:σ×σ×Int->Option (Out (σ×σ×Int) ε ρ)}
  (hin:∀(i:Nat) (x:α),i<n->l[i]? =some x->f (a,b,(i:Int))=some (bif p x then .rt r else .nx (a,b,C9 .i64 (i:Int) 1))) (hend:f (a,b,(n:Int))=some (.ex e)):
  ae f (a,b,0)=some (bif (l.take n).any p then .inr r else .inl e):=by
 have key:=xC (f:=f) (s:=(a,b,0)) (λx=>∃i:Nat,x=(a,b,(i:Int))/\i<=n/\(l.take i).any p=false) (λx=>x=e/\(l.take n).any p=false) (λk=>k=r/\(l.take n).any p=true) (λx=>n -x.2.2.toNat) ⟨0,rfl,l7,rfl⟩ Y8 ?_
 .rcases key with⟨x,h1,rfl,h2⟩|⟨k,h1,rfl,h2⟩
  .rw[h1,h2];rfl
  .rw[h1,h2];rfl
 .rintro x ⟨i,rfl,hi,hall⟩;by_cases h:i<n
  .have e' :=bQ (show i<l.length by omega);have hst:(l.take (i+1)).any p=((l.take i).any p || p l[i]):=by rw[U7 l7,vC];simp
   rw[hin i _ h e'];cases hc:p l[i]with
   |true=>refine .inr (.inr ⟨_,rfl,rfl,aP.2 ⟨l[i],?_,hc⟩⟩);exact kK (i:=i) (by rw[ja h];exact e')|false=>exact .inl ⟨(a,b,((i+1:Nat):Int)),by rw[Y3 l7];rfl,⟨i+1,rfl,h,by rw[hst,hall,hc];rfl⟩,by simp;omega⟩
  .have:i=n:=l7;subst this;exact .inr (.inl ⟨_,hend,rfl,hall⟩)
variable {n:Nat}{j:Nat}{β:Type}
theorem Ug{p:Nat->Option β}{c:β}(h0:(List.range j).findSome? p=none)(h1:p j=some c)(hj:j<n):(List.range n).findSome? p=some c:=by
 induction n with
 |zero=>omega|succ n ih=>
  rw[W9,nK];by_cases h:j<n
  .rw[ih h];rfl
  .have:j=n:=l7;subst this;rw[h0];simp[h1]
theorem a9H{p:Nat->Option β}(h0:(List.range j).findSome? p=none)(h1:p j=none):(List.range (j+1)).findSome? p=none:=by rw[W9,nK,h0];simp[h1]
def Ro(kind i:Int)(r:Int×Int):Int×Int×Int×Int:=l9 (x8 r.1 0) (0,0,0,0) (r.1,kind,i,r.2)
theorem a0Y{l:U9}(h:Few l){e:jw}(he:l.1[i]? =some e)(h1:e.1.length<=1000000)(h2:∀m∈e.2,m.length<=1000000):
  BU l (i:Int)=some (Ro 1 i (Xk l i e)):=by
 unfold BU Xk;rw[F8,he,o8,pI h1,o8,b2v h,o8];cases EW e.1
 .rfl
 simp only[E5,o6,o7];cases GX l 1 i e.1
 case true=>rfl
 cases x8 (o9 e.2) 0
 case true=>rfl
 cases h16:D9 16 (o9 e.2)
 case true=>rfl
 simp only[o6];have hlen:e.2.length<=16:=by rw[iM]at h16;simp only[o9]at h16;omega
 have key:=xC (f:=λ(x_3:I7×I7×Int)=>
   l9 (D9 x_3.2.2 (o9 e.2)) (o5 (G6 e.2 x_3.2.2) λ(x_4:d5T)=>o5 (gq x_4) λ(x_5:Bool)=>
    l9 (F7 x_5) (some (Out.rt (2,x_3.2.1.2.1,x_3.2.1.2.2.1,C9 IntKind.i64 100 x_3.2.2)))
     (o5 (ae (λ(x_6:I7×I7×Int)=>l9 (D9 x_6.2.2 x_3.2.2) (o5 (G6 e.2 x_6.2.2) λ(x_7:d5T)=>o5 (G6 e.2 x_3.2.2) λ(x:d5T)=>
       l9 (seq x_7 x) (some (Out.rt (7,x_6.2.1.2))) (some (Out.nx (x_6.1,x_6.2.1,C9 IntKind.i64 x_6.2.2 1)))) (some (Out.ex (x_6.1,x_6.2.1))))
      (x_3.1,(x_3.2.1.1,x_3.2.1.2.1,x_3.2.1.2.2.1,C9 IntKind.i64 100 x_3.2.2),0)) λ(o:I7×I7⊕I7)=>
       ah o (λ(y:I7×I7)=>some (Out.nx (y.1,y.2,C9 IntKind.i64 x_3.2.2 1))) λ(r:I7)=>some (Out.rt r))) (some (Out.ex x_3.1)))
  (s:=((0,0,0,0),(0,1,(i:Int),0),0))
  (λx=>∃(B:Int×Int×Int×Int) (j:Nat),x=((0,0,0,0),B,(j:Int))/\B.2.1=1/\B.2.2.1=i/\j<=e.2.length/\(List.range j).findSome? (a0Q e.2)=none)
  (λ_=>(List.range e.2.length).findSome? (a0Q e.2)=none) (λr=>∃c,(List.range e.2.length).findSome? (a0Q e.2)=some c/\r=(c.1,1,(i:Int),c.2)/\c.1≠0)
  (λx=>e.2.length -x.2.2.toNat) ⟨_,0,rfl,rfl,rfl,l7,rfl⟩ Y8 ?_
 .rcases key with⟨x,k1,k2⟩|⟨r,k1,c,k2,k3,k4⟩
  .refine(lN k1 _).trans ?_;rw[k2];rfl
  .refine(lN k1 _).trans ?_;rw[k2,k3];simp only[uj,Ro];rw[O8 k4];rfl
 .rintro x ⟨B,j,rfl,b1,b2,hj,hn⟩;by_cases hl:j<e.2.length
  .have e' :=bQ hl;simp only[J3 e',o7,F8,e',o8,pI (h2 _ (I4 hl)),a9I (show j<=1000000 by omega)];cases hid:EW e.2[j]
   .refine .inr (.inr ⟨_,rfl,(2,((100+j:Nat):Int)),Ug hn (by simp only[a0Q,e',hid];rfl) hl,?_,(by show(2:Int)≠0;decide)⟩);rw[b1,b2]
   .simp only[E5,o6];rw[b0J e.2 (λx=>seq e.2[j] x) j l7 l7 (0,0,0,0) (B.1,B.2.1,B.2.2.1,((100+j:Nat):Int)) (7,B.2.1,B.2.2.1,((100+j:Nat):Int)) ((0,0,0,0),(B.1,B.2.1,B.2.2.1,((100+j:Nat):Int)))
     (λk x hk hx=>by simp only[U6 (show(k:Int)<(j:Int) by omega),o7,F8,hx,o8,e'];rw[b6v];cases seq e.2[j] x<;>rfl)
     (by simp only[N7 (show(j:Int)<=(j:Int) by omega)];rfl)]
    cases hd:(e.2.take j).any λx=>seq e.2[j] x
    .refine .inl ⟨((0,0,0,0),(B.1,B.2.1,B.2.2.1,((100+j:Nat):Int)),((j+1:Nat):Int)),by rw[Y3 l7];rfl,⟨_,j+1,rfl,b1,b2,hl,a9H hn (by simp only[a0Q,e',hid,hd];rfl)⟩,by simp;omega⟩
    .refine .inr (.inr ⟨_,rfl,(7,((100+j:Nat):Int)),Ug hn (by simp only[a0Q,e',hid,hd];rfl) hl,?_,(by show(7:Int)≠0;decide)⟩);rw[b1,b2]
  .have:j=e.2.length:=l7;subst this;exact .inr (.inl ⟨_,by simp only[I9];rfl,hn⟩)
def aO(n:Nat)(p:Nat->Option ρ):Option ρ:=(List.range n).findSome? p
theorem rW{p:Nat->Option ρ}(n:Nat)(hn:n<=1000000)(a:σ)(e:ε){f:σ×Int->Option (Out (σ×Int) ε ρ)}
  (h1:∀i,i<n->f (a,(i:Int))=some (match p i with|some r=> .rt r|none=> .nx (a,C9 .i64 (i:Int) 1))) (h2:f (a,(n:Int))=some (.ex e)):
  ae f (a,0)=some (match aO n p with|some r=> .inr r|none=> .inl e):=by
 have key:=xC (f:=f) (s:=(a,0)) (λx=>∃i:Nat,x=(a,(i:Int))/\i<=n/\aO i p=none) (λx=>x=e/\aO n p=none) (λr=>aO n p=some r) (λx=>n -x.2.toNat) ⟨0,rfl,l7,rfl⟩ Y8 ?_
 .rcases key with⟨x,k1,rfl,k2⟩|⟨r,k1,k2⟩
  .rw[k1,k2]
  .rw[k1,k2]
 .rintro x ⟨i,rfl,hi,hnone⟩;by_cases h:i<n
  .rw[h1 i h];cases hp:p i with
   |some r=>exact .inr (.inr ⟨_,rfl,Ug hnone hp h⟩)|none=>exact .inl ⟨(a,((i+1:Nat):Int)),by rw[Y3 l7],⟨i+1,rfl,h,a9H hnone hp⟩,by simp;omega⟩
  .have:i=n:=l7;subst this;exact .inr (.inl ⟨_,h2,rfl,hnone⟩)
def SN(kind i:Int)(r:Int×Int):Option (Int×Int×Int×Int):=l9 (x8 r.1 0) none (some (r.1,kind,i,r.2))
def Pj(l:U9)(i:Nat):Option (Int×Int×Int×Int):=match l.1[i]? with|some e=>SN 1 i (Xk l i e)|none=>none
def Np(l:U9):Int×Int×Int×Int:=l9 (D9 8 (o9 l.1)) (4,1,8,0) (match aO l.1.length (Pj l)with|some r=>r|none=>(0,0,0,0))
def a2y(l:U9):Prop:=∀e∈l.1,e.1.length<=1000000/\∀m∈e.2,m.length<=1000000
theorem a0H{l:U9}(h:Few l)(hE:a2y l):Ea l=some (Np l):=by
 unfold Ea Np;cases D9 8 (o9 l.1)
 case true=>rfl
 simp only[o6];refine X8 (rW (p:=Pj l) l.1.length (by have:=h.1;omega) _ (0,0,0,0) (λi hi=>?_) ?_) ?_
 rotate_left 2
 .cases aO l.1.length (Pj l)<;>rfl
 .have e:=bQ hi;have hm:=hE _ (I4 hi);simp only[J3 e,o7,F8,e,o8,a2I h (show i<=l.1.length by omega) _ hm.1 hm.2,Pj,SN];cases x8 (Xk l i l.1[i]).1 0<;>rfl
 .rw[I9];rfl
theorem je{p:Nat->Option ρ}{r:ρ}(h:aO n p=some r):∃i,i<n/\p i=some r:=by unfold aO at h;obtain⟨i,hi,hp⟩:=List.exists_of_findSome?_eq_some h;exact⟨i,U5.1 hi,hp⟩
theorem b7P(t:fZ)(en:List jw):(Rz t en).1=-1\/0<=(Rz t en).1:=by
 unfold Rz;cases D9 64 (o9 t.2.2.2)
 case true=>right;simp only[o7];decide
 cases vty t.2.1 en
 .left;rfl
 cases vty t.2.2.1 en
 .left;rfl
 right;simp only[o7,o6];cases hf:(List.range t.2.2.2.length).findSome? (a1e t en)with
 |none=>exact aX _|some r=>
  obtain⟨i,hi,hp⟩:=je (p:=a1e t en) hf;unfold a1e at hp;split at hp
  .rename_i x hx;cases hw:Xf x (bnd t.2.1 en) (bnd t.2.2.1 en)<;>rw[hw]at hp
   .cases ha:(t.2.2.2.take i).any λy=>AZ y x<;>rw[ha]at hp
    .cases hp
    .cases hp;show(0:Int)<=(i:Int);omega
   .cases hp;show(0:Int)<=(i:Int);omega
  .cases hp
def a0n(l:U9)(i:Nat)(t:fZ):Int×Int:=
 l9 (EW t.1) (l9 (GX l 2 i t.1) (7,0) (l9 (x8 (Rz t l.1).2 0) (0,0) ((Rz t l.1).2,l9 (L6 0 (Rz t l.1).1) (C9 .i64 100 (Rz t l.1).1) 0))) (2,0)
def Qn(l:U9)(i:Nat):Option (Int×Int×Int×Int):=match l.2.1[i]? with|some t=>SN 2 i (a0n l i t)|none=>none
def Ol(l:U9):Int×Int×Int×Int:=l9 (D9 8 (o9 l.2.1)) (4,2,8,0) (match aO l.2.1.length (Qn l)with|some r=>r|none=>(0,0,0,0))
def YL(l:U9):Prop:=∀t∈l.2.1,t.1.length<=1000000
theorem J_{l:U9}(h:Few l){t:fZ}(he:l.2.1[i]? =some t)(h1:t.1.length<=1000000):Au l (i:Int)=some (Ro 2 i (a0n l i t)):=by
 unfold Au a0n;rw[F8,he,o8,pI h1,o8,b2w h,o8,b2k,o8];cases EW t.1
 .rfl
 cases GX l 2 i t.1
 case true=>rfl
 simp only[E5,o6,o7];cases hz:x8 (Rz t l.1).2 0
 case true=>rfl
 simp only[o6,Ro,hz];cases L6 0 (Rz t l.1).1<;>rfl
theorem Zh{l:U9}(h:Few l)(hT:YL l):BL l=some (Ol l):=by
 unfold BL Ol;cases D9 8 (o9 l.2.1)
 case true=>rfl
 simp only[o6];refine X8 (rW (p:=Qn l) l.2.1.length (by have:=h.2.1;omega) _ (0,0,0,0) (λi hi=>?_) ?_) ?_
 rotate_left 2
 .cases aO l.2.1.length (Qn l)<;>rfl
 .have e:=bQ hi;have hm:=hT _ (I4 hi);simp only[J3 e,o7,F8,e,o8,b7Q,uA hm,SQ _ (show l.1.length<=1000000 by have:=h.1;omega),Dj (show i<=l.2.1.length by omega),
   Xp _ (show(l.2.1.take i).length<=1000000 by have:=h.2.1;simp;omega),Qn,a0n,GX]
  cases EW l.2.1[i].1
  .rfl
  cases l.1.any λx=>seq x.1 l.2.1[i].1
  case true=>rfl
  cases (l.2.1.take i).any λx=>seq x.1 l.2.1[i].1
  case true=>rfl
  simp only[E5,o6,o7,o8,sW];cases hz:x8 (Rz l.2.1[i] l.1).2 0
  case true=>rfl
  simp only[bg,o7,o6,SN,hz];rcases b7P l.2.1[i] l.1 with hr|hr
  .rw[O5 hr,Y9 (show(Rz l.2.1[i] l.1).1<0 by omega)];simp only[E5,o6,o8,hz,bg,o7]
  .rw[O8 (show(Rz l.2.1[i] l.1).1≠-1 by omega),Y5 hr];simp only[bg,o7,o8,hz]
 .rw[I9];rfl
theorem b3B(l:List α)(g:α->β)(hl:l.length<=1000000){f:List β×Int->Option ((List β×Int)⊕ε)}{F:List β->ε}
  (hin:∀(i:Nat) (a:α) (acc:List β),l[i]? =some a->acc.length=i->f (acc,(i:Int))=some (.inl (acc++[g a],C9 .i64 (i:Int) 1))) (hend:∀acc,f (acc,(l.length:Int))=some (.inr (F acc))):
  ay f ([],0)=some (F (l.map g)):=by
 obtain⟨e,h1,h2⟩:=iG (f:=f) (s:=([],0)) (λx=>∃i:Nat,x=((l.take i).map g,(i:Int))/\i<=l.length) (λe=>e=F (l.map g)) (λx=>l.length -x.2.toNat) ⟨0,rfl,l7⟩ Y8 (by
  rintro x ⟨i,rfl,hi⟩;by_cases h:i<l.length
  .have e:=bQ h;refine .inl ⟨((l.take (i+1)).map g,((i+1:Nat):Int)),?_,⟨i+1,rfl,h⟩,by simp;omega⟩;rw[hin i _ _ e Y8,Y3 l7,U7 h,dC];rfl
  .have:i=l.length:=l7;subst this;refine .inr ⟨_,hend _,?_⟩;rw[aS])
 rw[h1,h2]
theorem La{l:List jm}(h:l.length<=1000000):wV l=some (l.map (·.2)):=by
 unfold wV;rw[gU];refine b3B (F:=id) l (λx=>x.2) h (λi a acc ha hacc=>?_) (λacc=>?_)
 .have hi:=(X7.1 ha).1;simp only[J3 ha,o7,F8,ha,o8];rw[uq (by simp[hacc];omega)];rfl
 .simp only[I9];rfl
def TP(l:U9):Prop:=∀s∈l.2.2,s.1.length<=1000000/\s.2.2.1.length<=1000/\s.2.2.2.1.length<=1000/\s.2.2.2.2.length<=1000
def FX(l:U9)(s:A7):List jw×List fZ×List (Int×Int)×List (Int×Int)×List (Int×Int)×Bool:=
 match(if 0<=s.2.1 then l.2.2[s.2.1.toNat]? else none)with
 |some k=>(l.1,l.2.1,s.2.2.1.map (·.2),s.2.2.2.1.map (·.2),k.2.2.2.1.map (·.2),true)|none=>(l.1,l.2.1,s.2.2.1.map (·.2),s.2.2.2.1.map (·.2),[],false)
theorem JH{l:U9}(h:TP l){s:A7}(hs:l.2.2[i]? =some s):qY l (i:Int)=some (FX l s):=by
 have hm:=h s (kK hs);unfold qY FX;rw[F8,hs,o8,La l7,o8,La l7,o8];by_cases h0:0<=s.2.1
 .rw[Y5 h0,if_pos h0,o7];by_cases h1:s.2.1<o9 l.2.2
  .obtain⟨k,hk,hkm⟩:=lZ h0 h1;have hk' :l.2.2[s.2.1.toNat]? =some k:=(dU hk).2.2.2;rw[U6 h1,o7,hk,o8,La (by have:=h k hkm;omega),o8,hk']
  .have h1' :o9 l.2.2<=s.2.1:=iQ.1 h1;rw[N7 h1',o6,bH (by simp only[o9]at h1';exact Int.le_toNat h0 |>.2 h1')]
 .have h0' :s.2.1<(0:Int):=lT.1 h0;rw[Y9 h0',if_neg h0];rfl
theorem a1d{l:U9}(h:TP l){s:A7}(hs:l.2.2[i]? =some s):BR l (i:Int)=some (FX l s):=by have hi:=(X7.1 hs).1;rw[←JH h hs];unfold BR qY;rw[N7 l7,Y9 (by simp only[o9];omega)];rfl
abbrev SI(l:d5R):Prop:=l.Pairwise (·< ·)
theorem a8p:∀{a b:d5R},SI a->SI b->(∀x,x∈a↔x∈b)->a=b
 |[],[],_,_,_=>rfl|[],y::b,_,_,h=>absurd ((h y).2 x9) x9|x::a,[],_,_,h=>absurd ((h x).1 x9) x9|x::a,y::b,ha,hb,h=>by
  have ha' :=Z8.1 ha;have hb' :=Z8.1 hb;have hxy:x=y:=by
   rcases D6.1 ((h x).1 x9)with h1|h1
   .exact h1
   .rcases D6.1 ((h y).2 x9)with h2|h2
    .exact h2.symm
    .have:=hb'.1 _ h1;have:=ha'.1 _ h2;omega
  subst hxy;congr 1;refine a8p ha'.2 hb'.2 λz=>⟨λhz=>?_,λhz=>?_⟩
  .rcases D6.1 ((h z).1 (by simp[hz]))with h1|h1
   .have:=ha'.1 _ hz;omega
   .exact h1
  .rcases D6.1 ((h z).2 (by simp[hz]))with h1|h1
   .have:=hb'.1 _ hz;omega
   .exact h1
def ins(n:Int):d5R->d5R
 |[]=>[n]|a::l=>if n<=a then(if n<a then n::a::l else a::l)else a::ins n l
theorem NK(n x:Int):∀l,x∈ins n l↔x=n\/x∈l
 |[]=>by simp[ins]|a::l=>by
  unfold ins;by_cases h:n<=a
  .rw[if_pos h];by_cases h2:n<a
   .rw[if_pos h2];simp
   .rw[if_neg h2];have:n=a:=l7;subst this;simp
  .rw[if_neg h,D6,NK n x l,D6];constructor
   .rintro(h|h|h)<;>simp[h]
   .rintro(h|h|h)<;>simp[h]
theorem b6y(n:Int):∀{l},SI l->SI (ins n l)
 |[],_=>List.pairwise_singleton _ _|a::l,h=>by
  have h' :=Z8.1 h;unfold ins;by_cases h1:n<=a
  .rw[if_pos h1];by_cases h2:n<a
   .rw[if_pos h2];refine Z8.2 ⟨λx hx=>?_,h⟩;rcases D6.1 hx with rfl|hx
    .exact h2
    .have:=h'.1 x hx;omega
   .rw[if_neg h2];exact h
  .rw[if_neg h1];refine Z8.2 ⟨λx hx=>?_,b6y n h'.2⟩;rcases(NK n x l).1 hx with rfl|hx
   .omega
   .exact h'.1 x hx
def DY(ns:d5R)(l:d5R):d5R:=ns.foldl (λacc n=>ins n acc) l
theorem UA(x:Int):∀ns l,x∈DY ns l↔x∈ns\/x∈l
 |[],l=>by simp[DY]|n::ns,l=>by
  show x∈DY ns (ins n l)↔_;rw[UA x ns,NK,D6];constructor
  .rintro(h|h|h)<;>simp[h]
  .rintro((h|h)|h)<;>simp[h]
theorem YE:∀ns {l},SI l->SI (DY ns l)
 |[],_,h=>h|n::ns,_,h=>YE ns (b6y n h)
theorem Ky(a b l:d5R):DY (a++b) l=DY b (DY a l):=Y0 ..
def EZ(l:d5R):d5R:=DY l []
theorem rf(x:Int)(l:d5R):x∈EZ l↔x∈l:=by unfold EZ;rw[UA];simp
theorem Vl(l:d5R):SI (EZ l):=YE l List.Pairwise.nil
theorem tK(n:Int):∀l,(ins n l).length<=l.length+1
 |[]=>by simp[ins]|a::l=>by
  unfold ins;by_cases h1:n<=a
  .rw[if_pos h1];by_cases h2:n<a
   .rw[if_pos h2];simp
   .rw[if_neg h2];simp
  .rw[if_neg h1];have:=tK n l;simp only[I5];omega
theorem Dh:∀ns l,(DY ns l).length<=l.length+ns.length
 |[],l=>by simp[DY]|n::ns,l=>by have h1:=Dh ns (ins n l);have h2:=tK n l;show(DY ns (ins n l)).length<=_;simp only[I5];omega
theorem KA(l:d5R):(EZ l).length<=l.length:=by have:=Dh l [];unfold EZ;simpa using this
theorem TJ(n:Nat)(h:SI l)(h2:∀x∈l,0<=x/\x<n):l.length<=n:=by
 have key:∀(l:d5R) (lo:Int),SI l->(∀x∈l,lo<=x/\x<n)->lo<=n->(l.length:Int)<=n -lo:=by
  intro l;induction l with
  |nil=>intro lo _ _ hlo;simp;omega|cons a l ih=>intro lo hs hb hlo;have h' :=Z8.1 hs;have ha:=hb a x9;have:=ih (a+1) h'.2 (λx hx=>⟨by have:=h'.1 x hx;omega,(hb x (by simp[hx])).2⟩) l7;simp only[I5];omega
 have:=key l 0 h (λx hx=>h2 x hx) l7;omega
theorem Zm(x:Int):∀(l:d5R) (p:Int),(p::l).Pairwise (·<=·)->SI (p::ddp p l)/\(x∈p::ddp p l↔x∈p::l)
 |[],p,_=>⟨List.pairwise_singleton _ _,Iff.rfl⟩|a::l,p,h=>by
  have h1:=Z8.1 h;obtain⟨i1,i2⟩:=Zm x l a h1.2;have h2:=Z8.1 h1.2;have hpa:=h1.1 a x9;unfold ddp;cases hq:x8 a p
  .rw[zh]at hq;simp only[cond_false];refine⟨Z8.2 ⟨λy hy=>?_,i1⟩,?_⟩
   .rcases D6.1 hy with rfl|hy
    .omega
    .have:=(Z8.1 i1).1 y hy;omega
   .rw[D6,i2,D6 (a:=x) (b:=p)]
  .rw[P7]at hq;subst hq;simp only[cond_true];refine⟨i1,?_⟩;rw[i2];simp
theorem b3o(l:d5R):dd (Md l)=EZ l:=by
 have hs:=HY l;have hp:=Jh l;refine a8p ?_ (Vl l) λx=>?_
 .cases he:Md l with
  |nil=>exact List.Pairwise.nil|cons a r=>rw[he]at hs;exact(Zm a r a hs).1
 .rw[rf,←hp.mem_iff];cases he:Md l with
  |nil=>exact Iff.rfl|cons a r=>rw[he]at hs;exact(Zm x r a hs).2
theorem b1l(l:d5R):(Md l).length=l.length:=(Jh l).length_eq
theorem b0y(h:l.length<=1000000):o5 (yO l) (λx=>ou x)=some (EZ l):=by unfold yO ou;rw[show Nat.blt l.length 4611686018427387904=true from by simp[Nat.blt];omega];simp only[cond_true,o8];rw[show Nat.blt (Md l).length 4611686018427387904=true from by rw[b1l];simp[Nat.blt];omega];rw[cond_true,b3o]
def hg(l:d5R)(i:Nat):Int:=l.getD i 0
def swp(l:d5R)(i j:Nat):d5R:=(l.set i (hg l j)).set j (hg l i)
theorem zT(h:i<l.length):l[i]? =some (hg l i):=by unfold hg;rw[uZ,bQ h];rfl
theorem Oj(l:d5R)(i j:Nat):(swp l i j).length=l.length:=by simp[swp]
theorem a2T(hi:i<l.length)(hj:j<l.length)(k:Nat):hg (swp l i j) k=if k=j then hg l i else if k=i then hg l j else hg l k:=by
 unfold hg swp;simp only[uZ,Z5,jU];by_cases h1:k=j
 .subst h1;simp[hj,hg,uZ]
 .rw[if_neg (λh=>h1 h.symm),if_neg h1];by_cases h2:k=i
  .subst h2;simp[hi,hg,uZ]
  .rw[if_neg (λh=>h2 h.symm),if_neg h2]
theorem Ql(hi:i<l.length)(hj:j<l.length):(swp l i j).Perm l:=by
 have e1:hg l i=l[i]:=by have:=zT hi;rw[bQ hi]at this;exact(P5 this).symm
 have e2:hg l j=l[j]:=by have:=zT hj;rw[bQ hj]at this;exact(P5 this).symm
 unfold swp;rw[e1,e2];exact List.set_set_perm hi hj
def OO(l:d5R)(n:Nat):Prop:=∀k,0<k->k<n->hg l ((k -1) / 2)<=hg l k
def Vy(l:d5R)(j:Nat):Prop:=(∀k,0<k->k<l.length->k≠j->hg l ((k -1) / 2)<=hg l k)/\(0<j->∀k,0<k->k<l.length->(k -1) / 2=j->hg l ((j -1) / 2)<=hg l k)
def Lt(l:d5R)(n i:Nat):Prop:=(∀k,0<k->k<n->(k -1) / 2≠i->hg l ((k -1) / 2)<=hg l k)/\(0<i->∀k,0<k->k<n->(k -1) / 2=i->hg l ((i -1) / 2)<=hg l k)
theorem a4V(h:Vy l j)(h0:0<j)(hj:j<l.length)(hlt:hg l j<hg l ((j -1) / 2)):Vy (swp l ((j -1) / 2) j) ((j -1) / 2):=by
 have hi:(j -1) / 2<l.length:=l7;have hij:(j -1) / 2<j:=l7;generalize hp:(j -1) / 2=i at*;have G:=a2T hi hj;refine⟨λk k0 k1 k2=>?_,λi0 k k0 k1 k2=>?_⟩
 .rw[Oj]at k1;rw[G k,G];by_cases a:k=j
  .subst a;rw[if_pos rfl,hp,if_neg l7,if_pos rfl];omega
  rw[if_neg a,if_neg k2];by_cases b:(k -1) / 2=j
  .rw[if_pos b];have:=h.2 h0 k k0 k1 b;rw[hp]at this;exact this
  rw[if_neg b];by_cases c:(k -1) / 2=i
  .rw[if_pos c];have:=h.1 k k0 k1 a;rw[c]at this;omega
  rw[if_neg c];exact h.1 k k0 k1 a
 .rw[Oj]at k1;rw[G,G,if_neg l7,if_neg l7];have e1:=h.1 i i0 hi l7;by_cases a:k=j
  .rw[if_pos a];exact e1
  .rw[if_neg a,if_neg l7];have:=h.1 k k0 k1 a;rw[k2]at this;omega
theorem ZG(h:Vy l j)(he:j=0\/hg l ((j -1) / 2)<=hg l j):OO l l.length:=λk k0 k1=>by
 by_cases a:k=j
 .subst a;rcases he with he|he
  .omega
  .exact he
 .exact h.1 k k0 k1 a
theorem Ld(h:Lt l n i)(hn:n<=l.length)(hj:(j -1) / 2=i)(hj0:0<j)(hjn:j<n)(hmin:∀k,0<k->k<n->(k -1) / 2=i->hg l j<=hg l k)(hlt:hg l j<hg l i):Lt (swp l i j) n j:=by
 have G:=a2T (l:=l) (i:=i) (j:=j) l7 l7;refine⟨λk k0 k1 k2=>?_,λj0 k k0 k1 k2=>?_⟩
 .rw[G k,G,if_neg k2];by_cases a:k=j
  .rw[if_pos a,if_pos l7];omega
  rw[if_neg a];by_cases b:k=i
  .rw[if_pos b,if_neg l7];rw[b];exact h.2 l7 j hj0 hjn hj
  rw[if_neg b];by_cases c:(k -1) / 2=i
  .rw[if_pos c];exact hmin k k0 k1 c
  .rw[if_neg c];exact h.1 k k0 k1 c
 .rw[G,G,if_neg l7,if_pos hj,if_neg l7,if_neg l7];have:=h.1 k k0 k1 l7;rw[k2]at this;exact this
theorem Hy(h:Lt l n i)(he:∀k,0<k->k<n->(k -1) / 2=i->hg l i<=hg l k):OO l n:=λk k0 k1=>by
 by_cases a:(k -1) / 2=i
 .rw[a];exact he k k0 k1 a
 .exact h.1 k k0 k1 a
theorem b3E(h:OO l n):∀k,k<n->hg l 0<=hg l k:=by
 intro k;induction k using Nat.strongRecOn with
 |ind k ih=>
  intro hk;by_cases h0:k=0
  .subst h0;exact aX _
  .have h1:=h k l7 hk;have h2:=ih ((k -1) / 2) l7 l7;omega
theorem a7r(h:OO l l.length)(hn:n+1=l.length):Lt (swp l 0 n) n 0:=by have G:=a2T (l:=l) (i:=0) (j:=n) l7 l7;refine⟨λk k0 k1 k2=>?_,λh0=>by omega⟩;rw[G k,G,if_neg l7,if_neg k2,if_neg l7,if_neg l7];exact h k k0 l7
theorem Vq{l:List α}{a:α}(h:(l.take n)[i]? =some a):i<n/\l[i]? =some a:=by
 rw[Z7]at h;split at h
 .exact⟨by assumption,h⟩
 .cases h
theorem NT{l:List jm}(hl:l.length<=1000000)(n:Nat)(nm:d5T):xf l (n:Int) nm=some ((l.take n).any λx=>seq x.1 nm):=by
 unfold xf;refine X8 (xw (l.take n) (λx=>seq x.1 nm) true PUnit.unit Y8 (λi a ha=>?_) ?_) ?_
 rotate_left 2
 .cases (l.take n).any λx=>seq x.1 nm<;>rfl
 .obtain⟨h1,h2⟩:=Vq ha;rw[U6 (show(i:Int)<n by omega),J3 h2,F8,h2];simp only[o7,o8];cases seq a.1 nm<;>rfl
 .by_cases h:n<l.length
  .have e:(l.take n).length=n:=by simp;omega
   rw[e,N7 l7];rfl
  .have e:(l.take n).length=l.length:=by simp;omega
   rw[e,I9];cases D9 (l.length:Int) (n:Int)<;>rfl
def KZ(en:List jw)(f:jm)(a b:List jm):Int:=
 l9 (EW f.1) (l9 (a.any λx=>seq x.1 f.1) 7 (l9 (b.any λx=>seq x.1 f.1) 7 (l9 (vty f.2 en) 0 8))) 2
theorem RI{l:U9}{f:jm}{a b:List jm}(h:f.1.length<=1000000)(ha:a.length<=1000000)(hb:b.length<=1000000):zi l f a b=some (KZ l.1 f a b):=by
 unfold zi KZ;rw[uA h,o8,Xo _ ha,o8,Xo _ hb,o8,AC,o8];cases EW f.1
 .rfl
 cases a.any λx=>seq x.1 f.1
 case true=>rfl
 cases b.any λx=>seq x.1 f.1
 case true=>rfl
 cases vty f.2 l.1<;>rfl
def VO(c e:Int):Option (Int×Int):=l9 (x8 c 0) none (some (c,e))
def inP(l:U9)(s:A7)(i:Nat):Option (Int×Int):=match s.2.2.1[i]? with|some f=>VO (KZ l.1 f (s.2.2.1.take i) []) (100+i:Nat)|none=>none
def a2M(l:U9)(s:A7)(i:Nat):Option (Int×Int):=match s.2.2.2.1[i]? with|some f=>VO (KZ l.1 f s.2.2.1 (s.2.2.2.1.take i)) (200+i:Nat)|none=>none
def a4h(s:A7):Prop:=(∀f∈s.2.2.1,f.1.length<=1000000)/\(∀f∈s.2.2.2.1,f.1.length<=1000000)
theorem Xq{c i:Nat}(hc:c<=1000)(h:i<=1000000):C9 .i64 (c:Int) (i:Int)=((c+i:Nat):Int):=by rw[ai U4];omega
def XZ(i:Int)(r:Int×Int):Int×Int×Int×Int:=(r.1,3,i,r.2)
theorem Kw{ρ ρ' :Type}(g:ρ->ρ')(n:Nat)(p:Nat->Option ρ):aO n (λi=>(p i).map g)=(aO n p).map g:=by
 unfold aO;induction n with
 |zero=>rfl|succ n ih=>rw[W9,nK,nK,ih];cases (List.range n).findSome? p<;>simp
def DV(l:U9)(s:A7):Option (Int×Int):=match aO s.2.2.1.length (inP l s)with|some r=>some r|none=>aO s.2.2.2.1.length (a2M l s)
theorem F_{l:U9}{s:A7}(hs:l.2.2[i]? =some s)(h1:s.2.2.1.length<=1000)(h2:s.2.2.2.1.length<=1000)(hf:a4h s):
  Ap l (i:Int)=some (match DV l s with|some r=>XZ i r|none=>(0,0,0,0)):=by
 unfold Ap DV;rw[F8,hs,o8];refine X8 (rW (p:=λk=>(inP l s k).map (XZ i)) s.2.2.1.length l7 _ (0,0,0,0) (λk hk=>?_) ?_) ?_
 rotate_left 2
 .rw[Kw];cases aO s.2.2.1.length (inP l s)
  case some r=>rfl
  simp only[Option.map_none,U0];refine X8 (rW (p:=λk=>(a2M l s k).map (XZ i)) s.2.2.2.1.length l7 _ (0,0,0,0) (λk hk=>?_) ?_) ?_
  rotate_left 2
  .rw[Kw];cases aO s.2.2.2.1.length (a2M l s)<;>rfl
  .have e:=bQ hk;have hm:=hf.2 _ (I4 hk);simp only[J3 e,o7,F8,e,o8,pI hm,show o9 s.2.2.1=((s.2.2.1.length:Nat):Int)from rfl,NT (show s.2.2.1.length<=1000000 by omega),NT (show s.2.2.2.1.length<=1000000 by omega),kD,a2M,KZ,VO,aS];rw[show(200:Int)=((200:Nat):Int)from rfl,Xq l7 l7];cases EW s.2.2.2.1[k].1
   .rfl
   cases s.2.2.1.any λx=>seq x.1 s.2.2.2.1[k].1
   case true=>rfl
   cases (s.2.2.2.1.take k).any λx=>seq x.1 s.2.2.2.1[k].1
   case true=>rfl
   cases vty s.2.2.2.1[k].2 l.1<;>rfl
  .simp only[I9];rfl
 .have e:=bQ hk;have hm:=hf.1 _ (I4 hk);simp only[J3 e,o7,F8,e,o8,pI hm,NT (show s.2.2.1.length<=1000000 by omega),kD,inP,KZ,VO];rw[show(100:Int)=((100:Nat):Int)from rfl,Xq l7 l7];cases EW s.2.2.1[k].1
  .rfl
  cases (s.2.2.1.take k).any λx=>seq x.1 s.2.2.1[k].1
  case true=>rfl
  cases vty s.2.2.1[k].2 l.1<;>rfl
 .simp only[I9];rfl
def arF(op:Int):Int:=(jA op).getD 0
variable {op:Int}
theorem c1E(h:1<=op/\op<=39):∃k:Fin 40,op=(k.val:Int):=⟨⟨op.toNat,l7⟩,by simp;omega⟩
theorem c6l:∀k:Fin 40,1<=k.val->(qM (k.val:Int)=jA (k.val:Int))/\(jA (k.val:Int)=some 0\/jA (k.val:Int)=some 1\/jA (k.val:Int)=some 2\/jA (k.val:Int)=some 3):=by decide+kernel
theorem a2V(h:¬(1<=op/\op<=39))(k:Int)(h1:1<=k)(h2:k<=39):x8 op k=false:=O8 l7
theorem b0m(h:¬(1<=op/\op<=39)):jA op=some (-1):=by
 unfold jA;by_cases h1:1<=op
 .rw[Y5 h1,o7,Y9 (show(9:Int)<op by omega),o6,Y9 (show(39:Int)<op by omega),Y9 (show(30:Int)<op by omega)];simp[a2V h];cases L6 35 op<;>cases L6 11 op<;>rfl
 .rw[Y9 (show op<1 by omega),o6,Y9 (show op<35 by omega),Y9 (show op<11 by omega)];simp[a2V h]
theorem c1k(h:¬(1<=op/\op<=39)):qM op=some (-1):=by unfold qM;simp[a2V h]
theorem LC(op:Int):qM op=some (arF op)/\jA op=some (arF op)/\(arF op=-1\/arF op=0\/arF op=1\/arF op=2\/arF op=3):=by
 unfold arF;by_cases h:1<=op/\op<=39
 .obtain⟨k,rfl⟩:=c1E h;obtain⟨h1,h2⟩:=c6l k l7;rcases h2 with h2|h2|h2|h2<;>rw[h1,h2]<;>simp
 .rw[c1k h,b0m h];simp
theorem YT(op:Int):qM op=some (arF op):=(LC op).1
theorem K_(op:Int):jA op=some (arF op):=(LC op).2.1
inductive XT where
 |l0 (n:Int×Int)|l1 (n:Int×Int) (a:XT)|l2 (n:Int×Int) (a b:XT)|l3 (n:Int×Int) (a b c:XT)
def XT.size:XT->Nat
 | .l0 _=>1| .l1 _ a=>a.size+1| .l2 _ a b=>a.size+b.size+1| .l3 _ a b c=>a.size+b.size+c.size+1
def XT.post:XT->List (Int×Int)
 | .l0 n=>[n]| .l1 n a=>a.post++[n]| .l2 n a b=>a.post++b.post++[n]| .l3 n a b c=>a.post++b.post++c.post++[n]
def XT.sts(o:Nat):XT->d5R
 | .l0 _=>[(o:Int)]| .l1 _ a=>a.sts o++[(o:Int)]| .l2 _ a b=>a.sts o++b.sts (o+a.size)++[(o:Int)]| .l3 _ a b c=>a.sts o++b.sts (o+a.size)++c.sts (o+a.size+b.size)++[(o:Int)]
theorem XT.size_pos(t:XT):0<t.size:=by cases t<;>simp[XT.size]
theorem XT.post_len(t:XT):t.post.length=t.size:=by
 induction t with
 |l0 n=>rfl|l1 n a ha=>simp[XT.post,XT.size,ha]|l2 n a b ha hb=>simp[XT.post,XT.size,ha,hb];try omega
 |l3 n a b c ha hb hc=>simp[XT.post,XT.size,ha,hb,hc];try omega
theorem XT.sts_len(t:XT):∀o,(t.sts o).length=t.size:=by
 induction t with
 |l0 n=>intro o;rfl|l1 n a ha=>intro o;simp[XT.sts,XT.size,ha]|l2 n a b ha hb=>intro o;simp[XT.sts,XT.size,ha,hb];try omega
 |l3 n a b c ha hb hc=>intro o;simp[XT.sts,XT.size,ha,hb,hc];try omega
def jI:List XT->Nat
 |[]=>0|t::r=>jI r+t.size
def OE:List XT->List (Int×Int)
 |[]=>[]|t::r=>OE r++t.post
def stR:List XT->d5R
 |[]=>[]|t::r=>stR r++t.sts (jI r)
def qy:List XT->d5R
 |[]=>[]|t::r=>qy r++[(jI r:Int)]
theorem qo:∀ts,(qy ts).length=ts.length
 |[]=>rfl|t::r=>by simp[qy,qo r]
theorem IC:∀ts,(stR ts).length=jI ts
 |[]=>rfl|t::r=>by simp[stR,jI,IC r,XT.sts_len]
theorem QS:∀ts,(OE ts).length=jI ts
 |[]=>rfl|t::r=>by simp[OE,jI,QS r,XT.post_len]
def push(n:Int×Int)(ts:List XT):Int⊕List XT:=
 if arF n.1=0 then .inr (.l0 n::ts)
 else if arF n.1=1 then(match ts with|a::r=> .inr (.l1 n a::r)|_=> .inl 5)
 else if arF n.1=2 then(match ts with|b::a::r=> .inr (.l2 n a b::r)|_=> .inl 5)
 else if arF n.1=3 then(match ts with|c::b::a::r=> .inr (.l3 n a b c::r)|_=> .inl 5)
 else .inl 2
def yD:Nat->List (Int×Int)->List XT->(Int×Int)⊕List XT
 |_,[],ts=> .inr ts
 |i,n::es,ts=>match push n ts with
  | .inl c=> .inl ((i:Int),c)| .inr ts' =>if 12<ts'.length then .inl ((i:Int),16)else yD (i+1) es ts'
def ng(e:List (Int×Int)):(Int×Int)⊕XT:=
 if 48<e.length then .inl (0,4)else if e.length=0 then .inl (0,5)else
  match yD 0 e []with
  | .inl x=> .inl x| .inr [t]=> .inr t| .inr _=> .inl ((e.length:Int),4)
theorem a2j{n:Int×Int}{ts ts' :List XT}(h:push n ts= .inr ts'):OE ts' =OE ts++[n]/\ts' ≠[]:=by
 unfold push at h;split at h
 .cases h;exact⟨rfl,x9⟩
 split at h
 .split at h
  .cases h;exact⟨by simp[OE,XT.post],x9⟩
  .cases h
 split at h
 .split at h
  .cases h;exact⟨by simp[OE,XT.post],x9⟩
  .cases h
 split at h
 .split at h
  .cases h;exact⟨by simp[OE,XT.post],x9⟩
  .cases h
 .cases h
theorem QU{n:Int×Int}{ts ts' :List XT}(h:push n ts= .inr ts'):jI ts' =jI ts+1:=by rw[←QS,←QS,(a2j h).1];simp
theorem NQ:∀(es:List (Int×Int)) (i:Nat) (ts ts' :List XT),yD i es ts= .inr ts' ->OE ts' =OE ts++es/\(ts≠[]\/es≠[]->ts' ≠[])
 |[],i,ts,ts',h=>by cases h;exact⟨x9,x9⟩|n::es,i,ts,ts',h=>by
  unfold yD at h;cases hp:push n ts with
  |inl c=>rw[hp]at h;cases h|inr t2=>
   rw[hp]at h;simp only at h;split at h
   .cases h
   .obtain⟨h1,h2⟩:=NQ es (i+1) t2 ts' h;obtain⟨h3,h4⟩:=a2j hp;exact⟨by rw[h1,h3];simp,λ_=>h2 (.inl h4)⟩
theorem Dy{e:List (Int×Int)}{t:XT}(h:ng e= .inr t):e=t.post/\e.length<=48:=by
 unfold ng at h;split at h
 .cases h
 split at h
 .cases h
 split at h
 .cases h
 .rename_i t' hp;cases h;have:=(NQ e 0 [] [t] hp).1;exact⟨by simpa[OE]using this.symm,l7⟩
 .cases h
theorem XX(e:List (Int×Int))(he:e.length<=48)(g:List XT->σ)(fin:List XT->ε)(rt:Int×Int->ρ){f:σ->Option (Out σ ε ρ)}
  (hs:∀(i:Nat) (n:Int×Int) (ts:List XT),e[i]? =some n->i=jI ts->ts.length<=12->f (g ts)=some (match push n ts with
   | .inl c=> .rt (rt ((i:Int),c))
   | .inr ts' =>if 12<ts'.length then .rt (rt ((i:Int),16))else .nx (g ts')))
  (hend:∀ts,jI ts=e.length->f (g ts)=some (.ex (fin ts))):
  ae f (g [])=some (match yD 0 e []with| .inl x=> .inr (rt x)| .inr ts=> .inl (fin ts)):=by
 have key:∀(es:List (Int×Int)) (i:Nat) (ts:List XT) (k:Nat),e.drop i=es->i=jI ts->ts.length<=12->i<=e.length->es.length<k->
   qZ f k (g ts)=some (match yD i es ts with| .inl x=> .inr (rt x)| .inr ts=> .inl (fin ts)):=by
  intro es;induction es with
  |nil=>
   intro i ts k hd hi hl hle hk;obtain⟨k,rfl⟩:∃k',k=k' +1:=⟨k -1,l7⟩;have:i=e.length:=by have:=congrArg List.length hd;simp at this;omega
   unfold qZ;rw[hend ts l7];rfl
  |cons n es ih=>
   intro i ts k hd hi hl hle hk;obtain⟨k,rfl⟩:∃k',k=k' +1:=⟨k -1,l7⟩;have hn:e[i]? =some n:=by
    have:(e.drop i)[0]? =some n:=by rw[hd];rfl
    simpa using this
   have hlt:=(X7.1 hn).1;unfold qZ;rw[hs i n ts hn hi hl];unfold yD;cases hp:push n ts with
   |inl c=>rfl|inr ts' =>
    simp only;by_cases h12:12<ts'.length
    .rw[if_pos h12,if_pos h12]
    .rw[if_neg h12,if_neg h12];exact ih (i+1) ts' k (by rw[←aN,hd];rfl) (by rw[QU hp,hi]) l7 l7 (by simp at hk;omega)
 exact key e 0 [] iL rfl rfl x9 l7 (by unfold iL;omega)
theorem a5y:∀(p r:List XT),∃X,qy (p++r)=qy r++X/\X.length=p.length/\(p≠[]->X.head?=some (jI r:Int))
 |[],r=>⟨[],x9,rfl,λh=>absurd rfl h⟩|a::p,r=>by
  obtain⟨X,h1,h2,h3⟩:=a5y p r;refine⟨X++[(jI (p++r):Int)],?_,by simp[h2],λ_=>?_⟩
  .show qy (p++r)++[(jI (p++r):Int)]=_;rw[h1,G5]
  .cases p with
   |nil=>simp at h2;subst h2;rfl|cons b p=>rw[List.head?_append,h3 x9];rfl
theorem WE(p r:List XT)(k:Int)(hk:k=(p.length:Int))(h:p.length+r.length<=100)(hp:p≠[]):
  J9 .i64 (o9 (qy (p++r))) k=(r.length:Int)/\G6 (qy (p++r)) (r.length:Int)=some (jI r:Int)/\V4 (qy (p++r)) (V8 (r.length:Int))=some (jI r:Int)
  /\uf 0 (r.length:Int) (o9 (qy (p++r)))=true/\qj (qy (p++r)) (V8 0) (V8 (r.length:Int))=qy r:=by
 obtain⟨X,h1,h2,h3⟩:=a5y p r;have hl:(qy (p++r)).length=r.length+p.length:=by rw[qo];simp;omega
 have hg:(qy (p++r))[r.length]? =some (jI r:Int):=by rw[h1,J6 (by rw[qo];omega),qo,dP,←List.head?_eq_getElem?];exact h3 hp
 refine⟨?_,?_,?_,?_,?_⟩
 .simp only[o9,hl];rw[X3 U4];omega
 .rw[F8];exact hg
 .exact hg
 .simp only[uf,o9,hl,decide_eq_true_eq];omega
 .show((qy (p++r)).take r.length).drop 0=_;rw[h1,List.drop_zero,bi (by rw[qo];omega),af (by rw[qo];omega)]
theorem Xr(ts:List XT):D9 12 (o9 (qy ts))=decide (12<ts.length):=by rw[show o9 (qy ts)=((ts.length:Nat):Int) by simp[o9,qo]];exact Uk 12 ts.length
theorem fK{l:List α}(x:α)(h:l.length<=1000000):bV l [x]=some (l++[x]):=uq Y8
theorem LZ(ts:List XT)(k:Nat):D9 (o9 (qy ts)) (k:Int)=decide (ts.length<k):=by rw[show o9 (qy ts)=((ts.length:Nat):Int) by simp[o9,qo]];exact Uk _ _
def yN(e:List (Int×Int)):d5R×Int×Int:=match ng e with| .inl x=>([],x)| .inr t=>(t.sts 0,0,0)
theorem a2g{e:List (Int×Int)}(h0:e.length≠0){K:d5R×Int×Int->d5R×Int×Int}(h48:¬48<e.length)
  {r:d5R×Int×Int} (h:∀ts,yD 0 e []= .inr ts->r=l9 (D9 1 (o9 (qy ts))) ([],o9 e,4) (stR ts,0,0)) (hi:∀x,yD 0 e []= .inl x->r=([],x)):r=yN e:=by
 unfold yN ng;rw[if_neg h48,if_neg h0];cases hp:yD 0 e []with
 |inl x=>exact hi x hp|inr ts=>
  rw[h ts hp];have:=(NQ e 0 [] ts hp).2 (.inr (by intro he;subst he;exact h0 rfl));match ts,this with
  |[t],_=>simp[qy,o9,D9,stR,jI]|a::b::ts,_=>rw[U6 (by simp[o9,qo];omega)];rfl
theorem Lj(e:List (Int×Int)):uP e=some (yN e):=by
 unfold uP;by_cases h48:48<e.length
 .rw[U6 (by simp[o9];omega),o7];unfold yN ng;rw[if_pos h48]
 by_cases h0:e.length=0
 .rw[N7 (by simp[o9];omega),o6,O5 (by simp[o9,h0]),o7];unfold yN ng;rw[if_neg h48,if_pos h0]
 rw[N7 (by simp[o9];omega),o6,O8 (by simp[o9];intro h;exact h0 (by simp[h])),o6];refine X8 (XX e l7 (λts=>(stR ts,qy ts,(jI ts:Int))) (λts=>(stR ts,qy ts)) (λx=>(([]:d5R),x)) (λi n ts hn hi hl=>?_) (λts hsz=>?_)) ?_
 rotate_left 2
 .rw[←a2g h0 h48 (K:=id) (r:=match yD 0 e []with| .inl x=>([],x)| .inr ts=>l9 (D9 1 (o9 (qy ts))) ([],o9 e,4) (stR ts,0,0)) (λts h=>by rw[h]) (λx h=>by rw[h])];cases yD 0 e []with
  |inl x=>rfl|inr ts=>simp only[o8,U0];cases D9 1 (o9 (qy ts))<;>rfl
 .subst hi;have hlt:=(X7.1 hn).1;have hst:=IC ts;have hof:=qo ts;simp only[J3 hn,o7,F8,hn,o8,K_];rcases(LC n.1).2.2 with h|h|h|h|h
  .rw[show push n ts= .inl 2 by simp[push,h],h];rfl
  .rw[show push n ts= .inr (.l0 n::ts) by simp[push,h],h,N7 l7,o6,N7 (Xt _),o6,o6,fK _ l7,o8,fK _ l7,o8,Y3 l7];rw[show qy ts++[(jI ts:Int)]=qy (.l0 n::ts)from rfl,Xr];by_cases hc:12<(XT.l0 n::ts).length
   .simp only[hc,decide_true,if_true,o7]
   .simp only[hc,decide_false,if_false,o6];rfl
  .match ts with
   |[]=>rw[show push n []= .inl 5 by simp[push,h],h];rfl|a::r=>
    obtain⟨p1,p2,p3,p4,p5⟩:=WE [a] r 1 rfl (by simp at hl ⊢;omega) x9;simp only[aC,G8]at p1 p2 p3 p4 p5;have:=IC (a::r);have:=qo r;simp only[I5]at hl;rw[show push n (a::r)= .inr (.l1 n a::r) by simp[push,h],h,N7 l7,o6,show(1:Int)=((1:Nat):Int)from rfl,LZ,show decide ((a::r).length<1)=false by simp];simp only[Int.natCast_one]at p1 ⊢;rw[o6,U6 l7,o7,p1,p2,o8,p3,o8,p4,o7,p5,fK _ l7,o8,fK _ l7,o8,Y3 l7];rw[show qy r++[(jI r:Int)]=qy (.l1 n a::r)from rfl,Xr];by_cases hc:12<(XT.l1 n a::r).length
    .simp only[hc,decide_true,if_true,o7]
    .simp only[hc,decide_false,if_false,o6,stR,XT.sts,G5,jI,XT.size,jh]
  .match ts with
   |[]=>rw[show push n []= .inl 5 by simp[push,h],h];rfl|[a]=>rw[show push n [a]= .inl 5 by simp[push,h],h];rfl|b::a::r=>
    obtain⟨p1,p2,p3,p4,p5⟩:=WE [b,a] r 2 rfl (by simp at hl ⊢;omega) x9;simp only[aC,G8]at p1 p2 p3 p4 p5;have:=IC (b::a::r);have:=qo r;simp only[I5]at hl;rw[show push n (b::a::r)= .inr (.l2 n a b::r) by simp[push,h],h,N7 l7,o6,show(2:Int)=((2:Nat):Int)from rfl,LZ,show decide ((b::a::r).length<2)=false by simp];rw[o6,U6 l7,o7,show((2:Nat):Int)=2 from rfl,p1,p2,o8,p3,o8,p4,o7,p5,fK _ l7,o8,fK _ l7,o8,Y3 l7];rw[show qy r++[(jI r:Int)]=qy (.l2 n a b::r)from rfl,Xr];by_cases hc:12<(XT.l2 n a b::r).length
    .simp only[hc,decide_true,if_true,o7]
    .simp only[hc,decide_false,if_false,o6,stR,XT.sts,G5,jI,XT.size,jh]
  .match ts with
   |[]=>rw[show push n []= .inl 5 by simp[push,h],h];rfl|[a]=>rw[show push n [a]= .inl 5 by simp[push,h],h];rfl|[b,a]=>rw[show push n [b,a]= .inl 5 by simp[push,h],h];rfl|c::b::a::r=>
    obtain⟨p1,p2,p3,p4,p5⟩:=WE [c,b,a] r 3 rfl (by simp at hl ⊢;omega) x9;simp only[aC,G8]at p1 p2 p3 p4 p5;have:=IC (c::b::a::r);have:=qo r;simp only[I5]at hl;rw[show push n (c::b::a::r)= .inr (.l3 n a b c::r) by simp[push,h],h,N7 l7,o6,show(3:Int)=((3:Nat):Int)from rfl,LZ,show decide ((c::b::a::r).length<3)=false by simp];rw[o6,U6 l7,o7,show((3:Nat):Int)=3 from rfl,p1,p2,o8,p3,o8,p4,o7,p5,fK _ l7,o8,fK _ l7,o8,Y3 l7];rw[show qy r++[(jI r:Int)]=qy (.l3 n a b c::r)from rfl,Xr];by_cases hc:12<(XT.l3 n a b c::r).length
    .simp only[hc,decide_true,if_true,o7]
    .simp only[hc,decide_false,if_false,o6,stR,XT.sts,G5,jI,XT.size,jh]
 .simp only[hsz,I9];rfl
def pd(l:d5R)(k:Nat):d5R:=l++List.replicate k 0
theorem a3n(l:d5R)(m:Nat):G6 (pd l (m+1)) (l.length:Int)=some 0:=by rw[F8];unfold pd;rw[J6 l7,dP];rfl
theorem a3o(l:d5R)(m:Nat):V4 (pd l (m+1)) (V8 (l.length:Int))=some 0:=by have:=a3n l m;rw[F8]at this;exact this
theorem a7N(l:d5R)(m:Nat)(v:Int):aU (pd l (m+1)) (V8 (l.length:Int)) v=pd (l++[v]) m:=by show(l++List.replicate (m+1) 0).set l.length v=_;rw[jW _ _ l7,dP,lL];simp[pd]
theorem UO(l:d5R)(m:Nat)(v w:Int):aU (pd (l++[v]) m) (V8 (l.length:Int)) w=pd (l++[w]) m:=by show(l++[v]++List.replicate m 0).set l.length w=_;rw[G5,jW _ _ l7,dP];simp[pd]
theorem QQ(l:d5R)(m:Nat)(v:Int):G6 (pd (l++[v]) m) (l.length:Int)=some v:=by rw[F8];unfold pd;rw[G5,J6 l7,dP];rfl
theorem PQ(l:d5R)(m:Nat)(v:Int):V4 (pd (l++[v]) m) (V8 (l.length:Int))=some v:=by have:=QQ l m v;rw[F8]at this;exact this
theorem Vo(e:List (Int×Int)):zf e=some (yN e):=by
 unfold zf;by_cases h48:48<e.length
 .rw[U6 (by simp[o9];omega),o7];unfold yN ng;rw[if_pos h48]
 by_cases h0:e.length=0
 .rw[N7 (by simp[o9];omega),o6,O5 (by simp[o9,h0]),o7];unfold yN ng;rw[if_neg h48,if_pos h0]
 rw[N7 (by simp[o9];omega),o6,O8 (by simp[o9];intro h;exact h0 (by simp[h])),o6];rw[show pR (o9 e) (0:Int)=some (pd (stR []) (e.length -jI [])) by simp[pR,o9,pd,stR,jI];omega,o8];refine X8 (XX e l7 (λts=>(pd (stR ts) (e.length -jI ts),qy ts,(jI ts:Int))) (λts=>(pd (stR ts) (e.length -jI ts),qy ts)) (λx=>(([]:d5R),x)) (λi n ts hn hi hl=>?_) (λts hsz=>?_)) ?_
 rotate_left 2
 .rw[←a2g h0 h48 (K:=id) (r:=match yD 0 e []with| .inl x=>([],x)| .inr ts=>l9 (D9 1 (o9 (qy ts))) ([],o9 e,4) (stR ts,0,0)) (λts h=>by rw[h]) (λx h=>by rw[h])];cases hp:yD 0 e []with
  |inl x=>rfl|inr ts=>
   have:=(NQ e 0 [] ts hp).1;have hz:e.length -jI ts=0:=by have:=congrArg List.length this;rw[QS]at this;simp[OE]at this;omega
   simp only[o8,U0,hz,pd,List.replicate_zero,H7];cases D9 1 (o9 (qy ts))<;>rfl
 .subst hi;have hlt:=(X7.1 hn).1;have hst:=IC ts;have hof:=qo ts;obtain⟨m,hm⟩:∃m,e.length -jI ts=m+1:=⟨e.length -jI ts -1,l7⟩;simp only[J3 hn,o7,F8 e,hn,o8,YT,hm];rw[←hst];simp only[a3n,a3o,o8,a7N,QQ,PQ,UO];rw[hst];rcases(LC n.1).2.2 with h|h|h|h|h
  .rw[show push n ts= .inl 2 by simp[push,h],h];rfl
  .have e0:J9 .i64 (o9 (qy ts)) 0=((qy ts).length:Int):=by rw[X3 (by unfold kE o9;omega)];simp[o9]
   rw[show push n ts= .inr (.l0 n::ts) by simp[push,h],h,N7 l7,o6,N7 (Xt _),o6,o6,e0,show uf 0 ((qy ts).length:Int) (o9 (qy ts))=true by simp[uf,o9],o7,
    show qj (qy ts) (V8 0) (V8 ((qy ts).length:Int))=qy ts by simp[qj,V8],fK _ l7,o8,Y3 l7]
   rw[show qy ts++[(jI ts:Int)]=qy (.l0 n::ts)from rfl,Xr];by_cases hc:12<(XT.l0 n::ts).length
   .simp only[hc,decide_true,if_true,o7]
   .simp only[hc,decide_false,if_false,o6,jI,XT.size,stR,XT.sts,show e.length -(jI ts+1)=m by omega]
  .match ts with
   |[]=>rw[show push n []= .inl 5 by simp[push,h],h];rfl|a::r=>
    obtain⟨p1,p2,p3,p4,p5⟩:=WE [a] r 1 rfl (by simp at hl ⊢;omega) x9;simp only[aC,G8]at p1 p2 p3 p4 p5;have:=IC (a::r);have:=qo r;simp only[I5]at hl;rw[show push n (a::r)= .inr (.l1 n a::r) by simp[push,h],h,N7 l7,o6,show(1:Int)=((1:Nat):Int)from rfl,LZ,show decide ((a::r).length<1)=false by simp];simp only[Int.natCast_one]at p1 ⊢;rw[o6,U6 l7,o7,p1,p2,o8,p3,o8,p4,o7,p5];rw[←hst]
    try simp only[UO,QQ,PQ,o8]
    rw[hst,fK _ l7,o8,Y3 l7];rw[show qy r++[(jI r:Int)]=qy (.l1 n a::r)from rfl,Xr];have hz:=QU (show push n (a::r)= .inr (.l1 n a::r) by simp[push,h]);by_cases hc:12<(XT.l1 n a::r).length
    .simp only[hc,decide_true,if_true,o7]
    .simp only[hc,decide_false,if_false,o6,hz,show e.length -(jI (a::r)+1)=m by omega,stR,XT.sts,G5]
  .match ts with
   |[]=>rw[show push n []= .inl 5 by simp[push,h],h];rfl|[a]=>rw[show push n [a]= .inl 5 by simp[push,h],h];rfl|b::a::r=>
    obtain⟨p1,p2,p3,p4,p5⟩:=WE [b,a] r 2 rfl (by simp at hl ⊢;omega) x9;simp only[aC,G8]at p1 p2 p3 p4 p5;have:=IC (b::a::r);have:=qo r;simp only[I5]at hl;rw[show push n (b::a::r)= .inr (.l2 n a b::r) by simp[push,h],h,N7 l7,o6,show(2:Int)=((2:Nat):Int)from rfl,LZ,show decide ((b::a::r).length<2)=false by simp];rw[o6,U6 l7,o7,show((2:Nat):Int)=2 from rfl,p1,p2,o8,p3,o8,p4,o7,p5];rw[←hst]
    try simp only[UO,QQ,PQ,o8]
    rw[hst,fK _ l7,o8,Y3 l7];rw[show qy r++[(jI r:Int)]=qy (.l2 n a b::r)from rfl,Xr];have hz:=QU (show push n (b::a::r)= .inr (.l2 n a b::r) by simp[push,h]);by_cases hc:12<(XT.l2 n a b::r).length
    .simp only[hc,decide_true,if_true,o7]
    .rw[hz,show e.length -(jI (b::a::r)+1)=m by omega,show stR (.l2 n a b::r)=stR (b::a::r)++[(jI r:Int)] by simp only[stR,XT.sts,G5,jI]];simp only[hc,decide_false,if_false,o6]
  .match ts with
   |[]=>rw[show push n []= .inl 5 by simp[push,h],h];rfl|[a]=>rw[show push n [a]= .inl 5 by simp[push,h],h];rfl|[b,a]=>rw[show push n [b,a]= .inl 5 by simp[push,h],h];rfl|c::b::a::r=>
    obtain⟨p1,p2,p3,p4,p5⟩:=WE [c,b,a] r 3 rfl (by simp at hl ⊢;omega) x9;simp only[aC,G8]at p1 p2 p3 p4 p5;have:=IC (c::b::a::r);have:=qo r;simp only[I5]at hl;rw[show push n (c::b::a::r)= .inr (.l3 n a b c::r) by simp[push,h],h,N7 l7,o6,show(3:Int)=((3:Nat):Int)from rfl,LZ,show decide ((c::b::a::r).length<3)=false by simp];rw[o6,U6 l7,o7,show((3:Nat):Int)=3 from rfl,p1,p2,o8,p3,o8,p4,o7,p5];rw[←hst]
    try simp only[UO,QQ,PQ,o8]
    rw[hst,fK _ l7,o8,Y3 l7];rw[show qy r++[(jI r:Int)]=qy (.l3 n a b c::r)from rfl,Xr];have hz:=QU (show push n (c::b::a::r)= .inr (.l3 n a b c::r) by simp[push,h]);by_cases hc:12<(XT.l3 n a b c::r).length
    .simp only[hc,decide_true,if_true,o7]
    .rw[hz,show e.length -(jI (c::b::a::r)+1)=m by omega,show stR (.l3 n a b c::r)=stR (c::b::a::r)++[(jI r:Int)] by simp only[stR,XT.sts,G5,jI]];simp only[hc,decide_false,if_false,o6]
 .simp only[hsz,I9];rfl
end
section
def VT(t:Int×Int):Prop:=t=(1,0)\/t=(2,0)\/t=(3,0)\/t=(4,0)\/t=(5,0)\/∃e,t=(6,e)
theorem Qq{t:Int×Int}{en:List jw}(h:vty t en=true):VT t:=by
 obtain⟨k,e⟩:=t;unfold vty at h;simp only at h;cases h6:x8 k 6
 .rw[h6,o6]at h;cases h1:L6 1 k<;>rw[h1]at h
  .cases h
  cases h5:L6 k 5<;>rw[h5]at h
  .cases h
  simp only[o7,P7]at h;rw[jr]at h1 h5;subst h;have:k=1\/k=2\/k=3\/k=4\/k=5:=l7;rcases this with rfl|rfl|rfl|rfl|rfl<;>simp[VT]
 .rw[P7]at h6;subst h6;exact .inr (.inr (.inr (.inr (.inr ⟨e,rfl⟩))))
def EN(n:Int×Int)(ops:List (Int×Int))(sg:O7):Option ((Int×Int)×Int):=
 l9 (F7 (x8 n.2 0)) (o5 (lX n.1) λu=>l9 (F7 u) (some ((0,0),2)) (dF n ops sg)) (dF n ops sg)
def xu(n:Int×Int)(ops:List (Int×Int))(sg:O7):Prop:=∃r:(Int×Int)×Int,Ae n ops sg=some r/\EN n ops sg=some r/\(r.2=0->VT r.1)
variable {k:Int}
theorem VT.lit(h:1<=k/\k<=5):VT (k,0):=by have:k=1\/k=2\/k=3\/k=4\/k=5:=l7;rcases this with rfl|rfl|rfl|rfl|rfl<;>simp[VT]
theorem Gi(a b:Int):L6 a b= !D9 b a:=by simp only[D9,L6];rw[←decide_not];congr 1;simp
theorem KO{α β:Type}(o:Option β)(f:α->Option β):o5 (o5 o λx=>some (Sum.inr x)) (λq=>ah q f λr=>some r)=o:=by cases o<;>rfl
theorem VT.enum(e:Int):VT (6,e):=.inr (.inr (.inr (.inr (.inr ⟨e,rfl⟩))))
theorem vH{R E:Option ((Int×Int)×Int)}{c:Int}(hc:c≠0)(h1:R=some ((0,0),c))(h2:E=some ((0,0),c)):∃r:(Int×Int)×Int,R=some r/\E=some r/\(r.2=0->VT r.1):=⟨_,h1,h2,λh=>absurd h hc⟩
theorem nok{R E:Option ((Int×Int)×Int)}{t:Int×Int}(hv:VT t)(h1:R=some (t,0))(h2:E=some (t,0)):∃r:(Int×Int)×Int,R=some r/\E=some r/\(r.2=0->VT r.1):=⟨_,h1,h2,λ_=>hv⟩
def RR(a0:Int×Int)(a1:List (Int×Int))(a2:O7):Option ((Int×Int)×Int):=
 o5 (nV a0 a2) λ(x:Bool)=>l9 (F7 x) (some ((0,0),3)) (o5 (rY a0 a2) λ(x:Bool)=>l9 (F7 x) (some ((0,0),6))
  (l9 (x8 (o9 a1) 0) (o5 (nU a0 a2) λ(x:F6×Bool)=>l9 (F7 x.2) (some ((0,0),8)) (some (x.1,0)))
  (l9 (x8 (o9 a1) 1) (o5 (G6 a1 0) λ(x:F6)=>o5 (xF a0 x a2) λ(x:F6×Bool)=>l9 (F7 x.2) (some ((0,0),8)) (some (x.1,0)))
  (l9 (x8 (o9 a1) 2) (o5 (G6 a1 0) λ(x:F6)=>o5 (G6 a1 1) λ(x_1:F6)=>o5 (Af a0.1 x x_1) λ(x:F6×Bool)=>l9 (F7 x.2) (some ((0,0),8)) (some (x.1,0)))
  (o5 (G6 a1 1) λ(x:F6)=>o5 (G6 a1 0) λ(x_1:F6)=>l9 (x8 x_1.1 1) (o5 (G6 a1 1) λ(x_2:F6)=>o5 (G6 a1 2) λ(x_3:F6)=>
   l9 (F7 (jl (x8 x_2.1 x_3.1) (x8 x_2.2 x_3.2))) (some ((0,0),8)) (some (x,0))) (l9 (F7 false) (some ((0,0),8)) (some (x,0))))))))
theorem b8i(n:Int×Int)(ops:List (Int×Int))(sg:O7):Ae n ops sg=l9 (F7 (x8 n.2 0)) (o5 (gK n.1) λx=>l9 x (RR n ops sg) (some ((0,0),2))) (RR n ops sg):=by
 unfold Ae;cases x8 n.2 0
 .simp only[bg,o7];cases gK n.1 with
  |none=>rfl|some b=>cases b<;>rfl
 .rfl
theorem PO{op N:Int}{ops:List (Int×Int)}{sg:O7}(h1:lX op=some true)(h2:gK op=some true)
  (h:∃r:(Int×Int)×Int,RR (op,N) ops sg=some r/\dF (op,N) ops sg=some r/\(r.2=0->VT r.1)):xu (op,N) ops sg:=by
 unfold xu;rw[b8i];unfold EN;dsimp only;rw[h1,h2];cases x8 N 0<;>exact h
theorem Wv{op N:Int}{ops:List (Int×Int)}{sg:O7}(h1:lX op=some false)(h2:gK op=some false)
  (h:∃r:(Int×Int)×Int,RR (op,0) ops sg=some r/\dF (op,0) ops sg=some r/\(r.2=0->VT r.1)):xu (op,N) ops sg:=by
 unfold xu;rw[b8i];unfold EN;dsimp only;rw[h1,h2];cases hz:x8 N 0
 .exact vH (c:=2) H9 rfl rfl
 .rw[P7]at hz;subst hz;exact h
section
variable (N:Int) (sg:O7)
theorem b4l(hk:k=1\/k=2\/k=3\/k=4\/k=5):xu (k,N) [] sg:=by
 have hv:vty (k,0) sg.1=true:=by rcases hk with rfl|rfl|rfl|rfl|rfl<;>rfl
 have hm:lX k=some true/\gK k=some true:=by rcases hk with rfl|rfl|rfl|rfl|rfl<;>exact⟨rfl,rfl⟩
 refine PO hm.1 hm.2 ?_;have key:dF (k,N) [] sg=mF N k sg:=by rcases hk with rfl|rfl|rfl|rfl|rfl<;>exact KO _ _
 have key2:RR (k,N) [] sg=o5 (o5 (pW (k,0) sg.1) λ(x:F6)=>l9 (L6 x.1 N) (some (L6 N x.2)) (some false)) λ(x:Bool)=>l9 (F7 x) (some ((0,0),3)) (some ((k,0),0)):=by rcases hk with rfl|rfl|rfl|rfl|rfl<;>rfl
 rw[key,key2];unfold mF;rw[VF,Tu,o8,o8,rH,rH];cases L6 (bnd (k,0) sg.1).1 N
 .exact vH (c:=3) H9 rfl rfl
 cases L6 N (bnd (k,0) sg.1).2
 .exact vH (c:=3) H9 rfl rfl
 .exact nok (Qq hv) rfl rfl
theorem b1z(hN:kE N):xu (6,N) [] sg:=by
 have hq:0<=N->dY .i64 N 16=N / 16:=λh=>by rw[Be (by rw[ku h];unfold kE at*;omega),ku h]
 refine PO rfl rfl ?_;have hf:rY (6,N) sg=l9 (D9 (dY .i64 N 16) (o9 sg.1)) (o5 (G6 sg.1 (dY .i64 N 16)) λ(x:jw)=>some (D9 (eX N 16) (o9 x.2))) (some false):=rfl;have hl:nU (6,N) sg=some ((6,dY .i64 N 16),vty (6,dY .i64 N 16) sg.1):=by unfold nU;simp only[kD];rfl
 rw[show dF (6,N) [] sg=Gh N sg from KO _ _];unfold RR Gh;rw[hf,show nV (6,N) sg=some (L6 0 N)from rfl,hl];by_cases h0:0<=N
 .rw[N7 h0,Y5 h0,hq h0];by_cases h1:N / 16<o9 sg.1
  .obtain⟨x,hx,_⟩:=lZ (show 0<=N / 16 by omega) h1;rw[U6 h1,Y9 h1,hx,show vty (6,N / 16) sg.1=true by unfold vty;simp only[Y5 (show 0<=N / 16 by omega),U6 h1];rfl];simp only[o8,rH];cases L6 (o9 x.2) (eX N 16)
   .exact nok (VT.enum (N / 16)) rfl rfl
   .exact vH (c:=6) H9 rfl rfl
  .have h1' :o9 sg.1<=N / 16:=l7;rw[N7 h1',Y5 h1'];exact vH (c:=6) H9 rfl rfl
 .rw[U6 (show N<0 by omega),Y9 (show N<0 by omega)];exact vH (c:=3) H9 rfl rfl
theorem Ef(ts:List (Int×Int))(en:O7):(∃x,G6 ts N=some x/\L6 0 N=true/\D9 N (o9 ts)=true/\lQ N ts en=some (l9 (vty x en.1) (x,0) ((0,0),8)))\/((L6 0 N=false\/L6 0 N=true/\D9 N (o9 ts)=false)/\lQ N ts en=some ((0,0),6)):=by
 unfold lQ;rw[rH N 0,Gi (o9 ts) N];cases h0:L6 0 N
 .exact .inr ⟨.inl x9,rfl⟩
 cases h1:D9 N (o9 ts)
 .exact .inr ⟨.inr x9,rfl⟩
 rw[jr]at h0;rw[jK]at h1;obtain⟨x,hx,_⟩:=lZ h0 h1;rw[hx];simp only[jf,Bool.not_false,o6,o7,o8,AC];exact .inl ⟨x,rfl,x9,x9,by cases vty x en.1<;>rfl⟩
theorem b8H:xu (7,N) [] sg:=by
 refine PO rfl rfl ?_;rw[show dF (7,N) [] sg=lQ N sg.2.2.1 sg from KO _ _];have hf:rY (7,N) sg=l9 (L6 0 N) (some (D9 N (o9 sg.2.2.1))) (some false):=rfl;unfold RR;rw[hf,show nV (7,N) sg=some true from rfl];rcases Ef N sg.2.2.1 sg with⟨x,h1,h2,h3,h4⟩|⟨h1|⟨h1,h2⟩,h4⟩
 .have hl:nU (7,N) sg=some (x,vty x sg.1):=by
   unfold nU;dsimp only;rw[h1];simp only[kD];rfl
  rw[h2,h3,h4,hl];cases hv:vty x sg.1
  .exact vH (c:=8) H9 rfl rfl
  .exact nok (Qq hv) rfl rfl
 .rw[h1,h4];exact vH (c:=6) H9 rfl rfl
 .rw[h1,h2,h4];exact vH (c:=6) H9 rfl rfl
theorem b4j:xu (8,N) [] sg:=by
 refine PO rfl rfl ?_;rw[show dF (8,N) [] sg=lQ N sg.2.2.2.1 sg from KO _ _];have hf:rY (8,N) sg=l9 (L6 0 N) (some (D9 N (o9 sg.2.2.2.1))) (some false):=rfl;unfold RR;rw[hf,show nV (8,N) sg=some true from rfl];rcases Ef N sg.2.2.2.1 sg with⟨x,h1,h2,h3,h4⟩|⟨h1|⟨h1,h2⟩,h4⟩
 .have hl:nU (8,N) sg=some (x,vty x sg.1):=by
   unfold nU;dsimp only;rw[h1];simp only[kD];rfl
  rw[h2,h3,h4,hl];cases hv:vty x sg.1
  .exact vH (c:=8) H9 rfl rfl
  .exact nok (Qq hv) rfl rfl
 .rw[h1,h4];exact vH (c:=6) H9 rfl rfl
 .rw[h1,h2,h4];exact vH (c:=6) H9 rfl rfl
theorem b1y:xu (9,N) [] sg:=Wv rfl rfl (nok (VT.lit (k:=5) l7) rfl rfl)
theorem a7F:xu (35,N) [] sg:=by
 refine Wv rfl rfl ?_;rw[show dF (35,0) [] sg=uH (35,0) sg from KO _ _];unfold RR uH;simp only[nV,rY,nU,kD,o8];cases sg.2.2.2.2.2
 .exact vH (c:=6) H9 rfl rfl
 .exact nok (VT.lit (k:=2) l7) rfl rfl
theorem b4m(hk:k=36\/k=37\/k=38\/k=39):xu (k,N) [] sg:=by
 have hm:lX k=some true/\gK k=some true/\x8 k 35=false:=by rcases hk with rfl|rfl|rfl|rfl<;>exact⟨rfl,rfl,rfl⟩
 refine PO hm.1 hm.2.1 ?_;rw[show dF (k,N) [] sg=uH (k,N) sg by rcases hk with rfl|rfl|rfl|rfl<;>exact KO _ _];have hr:RR (k,N) [] sg=o5 (l9 sg.2.2.2.2.2 (l9 (L6 0 N) (some (D9 N (o9 sg.2.2.2.2.1))) (some false)) (some false)) λ(x:Bool)=>l9 (F7 x) (some ((0,0),6))
   (o5 (nU (k,N) sg) λ(x:F6×Bool)=>l9 (F7 x.2) (some ((0,0),8)) (some (x.1,0))):=by rcases hk with rfl|rfl|rfl|rfl<;>rfl
 rw[hr];unfold uH;rw[hm.2.2,o6];cases sg.2.2.2.2.2
 .exact vH (c:=6) H9 rfl rfl
 simp only[o7,E5,o6];rcases Ef N sg.2.2.2.2.1 sg with⟨x,h1,h2,h3,h4⟩|⟨h1|⟨h1,h2⟩,h4⟩
 .rw[h2,h3,h4];have hl:nU (k,N) sg=o5 (some (l9 (x8 k 36) (l9 (vty x sg.1) (l9 (x8 x.1 2) true (x8 x.1 3)) false) (l9 (x8 k 39) (l9 (vty x sg.1) (l9 (x8 x.1 2) true (l9 (x8 x.1 3) true (l9 (x8 x.1 4) true (x8 x.1 5)))) false) (l9 (vty x sg.1) (x8 x.1 1) false)))) λb=>some (x,b):=by
   unfold nU;simp only[kD,vZ,Ah];rcases hk with rfl|rfl|rfl|rfl<;>(rw[h1];simp only[x8,Int.reduceEq,decide_true,decide_false,o7,o6,o8];cases vty x sg.1<;>cases decide (x.1=2)<;>cases decide (x.1=3)<;>cases decide (x.1=4)<;>rfl)
  rw[hl];simp only[o8,pM];cases hv:vty x sg.1
  .rcases hk with rfl|rfl|rfl|rfl<;>exact vH (c:=8) H9 rfl rfl
  .have hx:=Qq hv;rcases hk with rfl|rfl|rfl|rfl<;>rcases hx with rfl|rfl|rfl|rfl|rfl|⟨e,rfl⟩ <;>
    first
    |exact nok (Qq hv) rfl rfl
    |exact vH (c:=8) H9 rfl rfl
 .rw[h1,h4];exact vH (c:=6) H9 rfl rfl
 .rw[h1,h2,h4];exact vH (c:=6) H9 rfl rfl
end
end
section
variable {a:Int×Int}{k:Int}{b:Int×Int}
section
variable (N:Int) (sg:O7)
theorem b8I(hk:k=10\/k=25\/k=31\/k=32)(ha:VT a):xu (k,N) [a] sg:=by
 have hm:lX k=some false/\gK k=some false:=by rcases hk with rfl|rfl|rfl|rfl<;>exact⟨rfl,rfl⟩
 refine Wv hm.1 hm.2 ?_;rcases hk with rfl|rfl|rfl|rfl<;>rcases ha with rfl|rfl|rfl|rfl|rfl|⟨e,rfl⟩ <;>
  first
  |exact nok (VT.lit (k:=1) l7) rfl rfl
  |exact nok (VT.lit (k:=2) l7) rfl rfl
  |exact nok (VT.lit (k:=3) l7) rfl rfl
  |exact nok (VT.lit (k:=4) l7) rfl rfl
  |exact vH (c:=8) H9 rfl rfl
theorem b4i(hk:k=13\/k=23\/k=24\/k=27\/k=28\/k=29\/k=30)(ha:VT a)(hb:VT b):xu (k,N) [a,b] sg:=by
 have hm:lX k=some false/\gK k=some false:=by rcases hk with rfl|rfl|rfl|rfl|rfl|rfl|rfl<;>exact⟨rfl,rfl⟩
 refine Wv hm.1 hm.2 ?_;rcases hk with rfl|rfl|rfl|rfl|rfl|rfl|rfl<;>rcases ha with rfl|rfl|rfl|rfl|rfl|⟨e,rfl⟩<;>rcases hb with rfl|rfl|rfl|rfl|rfl|⟨f,rfl⟩ <;>
  first
  |exact vH (c:=8) H9 rfl rfl
  |exact nok (VT.lit (k:=1) l7) rfl rfl
  |exact nok (VT.lit (k:=2) l7) rfl rfl
  |exact nok (VT.lit (k:=3) l7) rfl rfl
  |exact nok (VT.lit (k:=4) l7) rfl rfl
  |exact nok (VT.lit (k:=5) l7) rfl rfl
theorem b1A(hk:k=14\/k=15\/k=16)(ha:VT a)(hb:VT b):xu (k,N) [a,b] sg:=by
 have hm:lX k=some true/\gK k=some true:=by rcases hk with rfl|rfl|rfl<;>exact⟨rfl,rfl⟩
 refine PO hm.1 hm.2 ?_;have hr:RR (k,N) [a,b] sg=o5 (l9 (L6 0 N) (some (L6 N 5)) (some false)) λx=>l9 (F7 x) (some ((0,0),3)) (o5 (Af k a b) λx=>l9 (F7 x.2) (some ((0,0),8)) (some (x.1,0))):=by rcases hk with rfl|rfl|rfl<;>rfl
 have he:dF (k,N) [a,b] sg=o5 (l9 (L6 0 N) (some (L6 N 5)) (some false)) λx=>l9 (F7 x) (some ((0,0),3)) (o5 (qO k [a,b]) λx=>l9 (F7 x.2) (some ((0,0),8)) (some (x.1,0))):=by
  rcases hk with rfl|rfl|rfl <;>
   (show o5 (o5 (qg N) λx=>l9 (F7 x) (some (Sum.inr (((0:Int),(0:Int)),(3:Int)))) (some (.inl ((0:Int),(0:Int))))) _=_
    unfold qg;cases L6 0 N<;>cases L6 N 5<;>rfl)
 rw[hr,he];cases L6 0 N
 .exact vH (c:=3) H9 rfl rfl
 cases L6 N 5
 .exact vH (c:=3) H9 rfl rfl
 rcases hk with rfl|rfl|rfl<;>rcases ha with rfl|rfl|rfl|rfl|rfl|⟨e,rfl⟩<;>rcases hb with rfl|rfl|rfl|rfl|rfl|⟨f,rfl⟩ <;>
  first
  |exact vH (c:=8) H9 rfl rfl
  |exact nok (VT.lit (k:=2) l7) rfl rfl
  |exact nok (VT.lit (k:=3) l7) rfl rfl
  |exact nok (VT.lit (k:=4) l7) rfl rfl
theorem b1B(hk:k=11\/k=12\/k=17\/k=18\/k=19\/k=20\/k=21\/k=22)(ha:VT a):xu (k,N) [a,b] sg:=by
 have hm:lX k=some false/\gK k=some false:=by rcases hk with rfl|rfl|rfl|rfl|rfl|rfl|rfl|rfl<;>exact⟨rfl,rfl⟩
 refine Wv hm.1 hm.2 ?_;have hr:RR (k,0) [a,b] sg=o5 (Af k a b) λx=>l9 (F7 x.2) (some ((0,0),8)) (some (x.1,0)):=by rcases hk with rfl|rfl|rfl|rfl|rfl|rfl|rfl|rfl<;>rfl
 have he:dF (k,0) [a,b] sg=o5 (qO k [a,b]) λx=>l9 (F7 x.2) (some ((0,0),8)) (some (x.1,0)):=by rcases hk with rfl|rfl|rfl|rfl|rfl|rfl|rfl|rfl<;>rfl
 rw[hr,he];unfold Af qO;simp only[show G6 [a,b] 0=some a from rfl,show G6 [a,b] 1=some b from rfl,o8,Ah,vZ,jY,pM];cases h1:x8 a.1 b.1
 .rcases hk with rfl|rfl|rfl|rfl|rfl|rfl|rfl|rfl<;>exact vH (c:=8) H9 rfl rfl
 cases h2:x8 a.2 b.2
 .rcases hk with rfl|rfl|rfl|rfl|rfl|rfl|rfl|rfl<;>exact vH (c:=8) H9 rfl rfl
 have ha' :=ha;rcases hk with rfl|rfl|rfl|rfl|rfl|rfl|rfl|rfl<;>rcases ha with rfl|rfl|rfl|rfl|rfl|⟨e,rfl⟩ <;>
  first
  |exact nok ha' rfl rfl
  |exact nok (VT.lit (k:=1) l7) rfl rfl
  |exact vH (c:=8) H9 rfl rfl
theorem b8G{a b c:Int×Int}(ha:VT a)(hb:VT b):xu (26,N) [a,b,c] sg:=by
 refine Wv rfl rfl ?_;have hr:RR (26,0) [a,b,c] sg=l9 (x8 a.1 1) (l9 (F7 (jl (x8 b.1 c.1) (x8 b.2 c.2))) (some ((0,0),8)) (some (b,0))) (some ((0,0),8)):=rfl;have he:dF (26,0) [a,b,c] sg=o5 (qO 26 [a,b,c]) λx=>l9 (F7 x.2) (some ((0,0),8)) (some (x.1,0)):=rfl;have he2:qO 26 [a,b,c]=o5 (l9 (x8 a.1 1) (some (Sum.inr (b,jl (x8 b.1 c.1) (x8 b.2 c.2)))) (some (Sum.inr (b,false)))) λ(o:F6⊕F6×Bool)=>ah o (λ(x:F6)=>some ((0,0),false)) λ(r:F6×Bool)=>some r:=rfl;rw[hr,he,he2];cases x8 a.1 1
 .exact vH (c:=8) H9 rfl rfl
 cases x8 b.1 c.1
 .exact vH (c:=8) H9 rfl rfl
 cases x8 b.2 c.2
 .exact vH (c:=8) H9 rfl rfl
 .exact nok hb rfl rfl
theorem a5w(ha:VT a):xu (33,N) [a] sg:=by
 refine PO rfl rfl ?_;have he:dF (33,N) [a] sg=wO (33,N) a sg:=KO _ _;have hr:RR (33,N) [a] sg=o5 (l9 (L6 0 N) (some (D9 N (o9 sg.2.1))) (some false)) λx=>l9 (F7 x) (some ((0,0),6)) (o5 (xF (33,N) a sg) λx=>l9 (F7 x.2) (some ((0,0),8)) (some (x.1,0))):=rfl;have hs:xF (33,N) a sg=o5 (G6 sg.2.1 N) λ(x:fZ)=>o5 (fF x.2.1 sg.1) λ(x_1:Bool)=>l9 x_1 (o5 (fF x.2.2.1 sg.1) λ(x_2:Bool)=>l9 x_2 (some (x.2.2.1,jl (x8 a.1 x.2.1.1) (x8 a.2 x.2.1.2))) (some (x.2.2.1,false))) (some (x.2.2.1,false)):=rfl;rw[he,hr,hs];unfold wO;simp only[x8,Int.reduceEq,decide_false,o6,o8,U0,rH N 0,Gi (o9 sg.2.1) N];cases h0:L6 0 N
 .exact vH (c:=6) H9 rfl rfl
 cases h1:D9 N (o9 sg.2.1)
 .exact vH (c:=6) H9 rfl rfl
 rw[jr]at h0;rw[jK]at h1;obtain⟨x,hx,_⟩:=lZ h0 h1;simp only[o8,U0,jf,o6,hx,AC,kD,bg,o7];cases vty x.2.1 sg.1
 .exact vH (c:=8) H9 rfl rfl
 cases hv:vty x.2.2.1 sg.1
 .exact vH (c:=8) H9 rfl rfl
 simp only[E5,o6,o7,o8];cases jl (decide (a.1=x.2.1.1)) (decide (a.2=x.2.1.2))
 .exact vH (c:=8) H9 rfl rfl
 .exact nok (Qq hv) rfl rfl
theorem a0U(hN:kE N)(ha:VT a):xu (34,N) [a] sg:=by
 refine PO rfl rfl ?_;have he:dF (34,N) [a] sg=wO (34,N) a sg:=KO _ _;have hr:RR (34,N) [a] sg=o5 (l9 (L6 0 N) (some (L6 (eX N 8) 5)) (some false)) λx=>l9 (F7 x) (some ((0,0),3)) (l9 (F7 (D9 (dY .i64 N 8) (o9 sg.2.1))) (some ((0,0),6)) (o5 (xF (34,N) a sg) λx=>l9 (F7 x.2) (some ((0,0),8)) (some (x.1,0)))):=rfl;have hs:xF (34,N) a sg=o5 (G6 sg.2.1 (dY .i64 N 8)) λ(x:fZ)=>l9 (x8 a.1 3) (l9 (jl (x8 x.2.1.1 3) (x8 x.2.1.2 0)) (some (a,jl (x8 x.2.2.1.1 4) (x8 x.2.2.1.2 0))) (some (a,false))) (some (a,false)):=rfl;rw[he,hr,hs];unfold wO qg;by_cases h0:0<=N
 case neg=>rw[Y9 (show N<0 by omega),U6 (show N<0 by omega)];exact vH (c:=3) H9 rfl rfl
 have hq:dY .i64 N 8=N / 8:=by rw[Be (by rw[ku h0];unfold kE at*;omega),ku h0]
 rw[Y5 h0,N7 h0,hq,Bf h0];simp only[x8,Int.reduceEq,decide_true,o7,o6,Y5 (show 0<=N % 8 by omega),o8];cases L6 (N % 8) 5
 .exact vH (c:=3) H9 rfl rfl
 simp only[E5,o6,o8,U0,N7 (show 0<=N / 8 by omega),Gi];cases h1:D9 (N / 8) (o9 sg.2.1)
 .exact vH (c:=6) H9 rfl rfl
 rw[jK]at h1;obtain⟨x,hx,_⟩:=lZ (show 0<=N / 8 by omega) h1;simp only[hx,jf,o6,o8,U0,AC,E5];obtain⟨nm,⟨k1,k2⟩,⟨v1,v2⟩,rows⟩:=x;dsimp only;by_cases hK:k1=3/\k2=0
 .obtain⟨rfl,rfl⟩:=hK;by_cases hV:v1=4/\v2=0
  .obtain⟨rfl,rfl⟩:=hV;rcases ha with rfl|rfl|rfl|rfl|rfl|⟨e,rfl⟩ <;>
    first
    |exact nok (VT.lit (k:=3) l7) rfl rfl
    |exact vH (c:=8) H9 rfl rfl
  .have hE:vty (v1,v2) sg.1=true->v1≠4:=λhv h=>by
    subst h;rcases Qq hv with h|h|h|h|h|⟨e,h⟩<;>cases h;exact hV ⟨rfl,rfl⟩
   have hR:jl (decide (v1=4)) (decide (v2=0))=false:=by
    by_cases h1:v1=4
    .have:v2≠0:=λh2=>hV ⟨h1,h2⟩;simp[jl,h1,this]
    .simp[jl,h1]
   rw[hR];cases hv:vty (v1,v2) sg.1
   .rcases ha with rfl|rfl|rfl|rfl|rfl|⟨e,rfl⟩<;>exact vH (c:=8) H9 rfl rfl
   .have h4:=hE hv;rw[show decide (v1=4)=false by simp[h4]];rcases ha with rfl|rfl|rfl|rfl|rfl|⟨e,rfl⟩<;>exact vH (c:=8) H9 rfl rfl
 .have hR:jl (decide (k1=3)) (decide (k2=0))=false:=by
   by_cases h1:k1=3
   .have:k2≠0:=λh2=>hK ⟨h1,h2⟩;simp[jl,h1,this]
   .simp[jl,h1]
  rw[hR];cases hv:vty (k1,k2) sg.1
  .rcases ha with rfl|rfl|rfl|rfl|rfl|⟨e,rfl⟩<;>exact vH (c:=8) H9 rfl rfl
  cases hw:vty (v1,v2) sg.1
  .rcases ha with rfl|rfl|rfl|rfl|rfl|⟨e,rfl⟩<;>exact vH (c:=8) H9 rfl rfl
  have h3:k1≠3:=λh=>by subst h;rcases Qq hv with h|h|h|h|h|⟨e,h⟩<;>cases h;exact hK ⟨rfl,rfl⟩
  simp only[show decide (k1=3)=false by simp[h3],E5,o6,o7,o8];cases jl (decide (a.1=k1)) (decide (a.2=k2))
  .cases decide (a.1=3)<;>exact vH (c:=8) H9 rfl rfl
  .cases decide (a.1=3)<;>exact vH (c:=8) H9 rfl rfl
theorem a3h(n:Int×Int)(hN:kE n.2)(ops:List (Int×Int))(hv:∀t∈ops,VT t)(hl:o9 ops=arF n.1):xu n ops sg:=by
 obtain⟨op,N⟩:=n;dsimp only at hN hl;have hr:1<=op/\op<=39:=by
  by_cases h:1<=op/\op<=39
  .exact h
  .have:arF op=-1:=by unfold arF;rw[b0m h];rfl
   rw[this]at hl;simp[o9]at hl
 have hc:op=1\/op=2\/op=3\/op=4\/op=5\/op=6\/op=7\/op=8\/op=9\/op=10\/op=11\/op=12\/op=13\/op=14\/op=15\/op=16\/op=17\/op=18\/op=19\/op=20\/op=21\/op=22\/op=23\/op=24\/op=25\/op=26\/op=27\/op=28\/op=29\/op=30\/op=31\/op=32\/op=33\/op=34\/op=35\/op=36\/op=37\/op=38\/op=39:=l7;have L0:arF op=0->ops=[]:=λh=>by rw[h]at hl;simp only[o9]at hl;exact S9.1 l7
 have L1:arF op=1->∃a,ops=[a]/\VT a:=λh=>by
  rw[h]at hl;simp only[o9]at hl;match ops,hl,hv with
  |[a],_,hv=>exact⟨a,rfl,hv a x9⟩|[],hl,_=>simp at hl|a::b::r,hl,_=>simp at hl;omega
 have L2:arF op=2->∃a b,ops=[a,b]/\VT a/\VT b:=λh=>by
  rw[h]at hl;simp only[o9]at hl;match ops,hl,hv with
  |[a,b],_,hv=>exact⟨a,b,rfl,hv a x9,hv b x9⟩|[],hl,_=>simp at hl|[a],hl,_=>simp at hl|a::b::c::r,hl,_=>simp at hl;omega
 have L3:arF op=3->∃a b c,ops=[a,b,c]/\VT a/\VT b:=λh=>by
  rw[h]at hl;simp only[o9]at hl;match ops,hl,hv with
  |[a,b,c],_,hv=>exact⟨a,b,c,rfl,hv a x9,hv b x9⟩|[],hl,_=>simp at hl|[a],hl,_=>simp at hl|[a,b],hl,_=>simp at hl|a::b::c::d::r,hl,_=>simp at hl;omega
 rcases hc with rfl|rfl|rfl|rfl|rfl|rfl|rfl|rfl|rfl|rfl|rfl|rfl|rfl|rfl|rfl|rfl|rfl|rfl|rfl|rfl|rfl|rfl|rfl|rfl|rfl|rfl|rfl|rfl|rfl|rfl|rfl|rfl|rfl|rfl|rfl|rfl|rfl|rfl|rfl <;>
  first
  |(rw[L0 rfl];first|exact b4l N sg l7|exact b1z N sg hN|exact b8H N sg|exact b4j N sg|exact b1y N sg|exact a7F N sg|exact b4m N sg l7)
  |(obtain⟨a,rfl,ha⟩:=L1 rfl;first|exact b8I N sg l7 ha|exact a5w N sg ha|exact a0U N sg hN ha)
  |(obtain⟨a,b,rfl,ha,hb⟩:=L2 rfl;first|exact b4i N sg l7 ha hb|exact b1A N sg l7 ha hb|exact b1B N sg l7 ha)
  |(obtain⟨a,b,c,rfl,ha,hb⟩:=L3 rfl;exact b8G N sg ha hb)
end
end
section
def XT.wf:XT->Prop
 | .l0 n=>arF n.1=0| .l1 n a=>arF n.1=1/\a.wf| .l2 n a b=>arF n.1=2/\a.wf/\b.wf| .l3 n a b c=>arF n.1=3/\a.wf/\b.wf/\c.wf
theorem b8R{n:Int×Int}{ts ts' :List XT}(h:push n ts= .inr ts')(hw:∀t∈ts,t.wf):∀t∈ts',t.wf:=by
 unfold push at h;split at h
 .cases h;intro t ht;rcases D6.1 ht with rfl|ht
  .assumption
  .exact hw t ht
 split at h
 .split at h
  .cases h;intro t ht;rcases D6.1 ht with rfl|ht
   .exact⟨by assumption,hw _ x9⟩
   .exact hw t (by simp[ht])
  .cases h
 split at h
 .split at h
  .cases h;intro t ht;rcases D6.1 ht with rfl|ht
   .exact⟨by assumption,hw _ x9,hw _ x9⟩
   .exact hw t (by simp[ht])
  .cases h
 split at h
 .split at h
  .cases h;intro t ht;rcases D6.1 ht with rfl|ht
   .exact⟨by assumption,hw _ x9,hw _ x9,hw _ x9⟩
   .exact hw t (by simp[ht])
  .cases h
 .cases h
theorem a5F:∀(es:List (Int×Int)) (i:Nat) (ts ts' :List XT),yD i es ts= .inr ts' ->(∀t∈ts,t.wf)->∀t∈ts',t.wf
 |[],i,ts,ts',h,hw=>by cases h;exact hw|n::es,i,ts,ts',h,hw=>by
  unfold yD at h;cases hp:push n ts with
  |inl c=>rw[hp]at h;cases h|inr t2=>
   rw[hp]at h;simp only at h;split at h
   .cases h
   .exact a5F es (i+1) t2 ts' h (b8R hp hw)
variable {e:List (Int×Int)}
theorem Ri{t:XT}(h:ng e= .inr t):t.wf:=by
 unfold ng at h;split at h
 .cases h
 split at h
 .cases h
 split at h
 .cases h
 .rename_i t' hp;cases h;exact a5F e 0 [] [t] hp x9 t x9
 .cases h
def JS(n:Int×Int)(ops:List (Int×Int))(sg:O7):(Int×Int)×Int:=(Ae n ops sg).getD ((0,0),0)
def GI(sg:O7)(n:Int×Int)(ops:List (Int×Int))(i:Nat):(Int×Int)⊕(Int×Int):=if(JS n ops sg).2=0 then .inr (JS n ops sg).1 else .inl ((i:Int),(JS n ops sg).2)
def jc(sg:O7):XT->Nat->(Int×Int)⊕(Int×Int)
 | .l0 n,o=>GI sg n [] o
 | .l1 n a,o=>match jc sg a o with
  | .inl x=> .inl x| .inr ta=>GI sg n [ta] (o+a.size)
 | .l2 n a b,o=>match jc sg a o with
  | .inl x=> .inl x
  | .inr ta=>match jc sg b (o+a.size)with
   | .inl x=> .inl x| .inr tb=>GI sg n [ta,tb] (o+a.size+b.size)
 | .l3 n a b c,o=>match jc sg a o with
  | .inl x=> .inl x
  | .inr ta=>match jc sg b (o+a.size)with
   | .inl x=> .inl x
   | .inr tb=>match jc sg c (o+a.size+b.size)with
    | .inl x=> .inl x| .inr tc=>GI sg n [ta,tb,tc] (o+a.size+b.size+c.size)
variable {i:Nat}
theorem UE{sg:O7}{n:Int×Int}{ops:List (Int×Int)}{t:Int×Int}(hN:kE n.2)(hv:∀t∈ops,VT t)(hl:o9 ops=arF n.1)(h:GI sg n ops i= .inr t):VT t:=by
 obtain⟨r,h1,h2,h3⟩:=a3h sg n hN ops hv hl;unfold GI at h;split at h
 .rename_i h0;cases h;have e:JS n ops sg=r:=by unfold JS;rw[h1];rfl
  rw[e]at h0 ⊢;exact h3 h0
 .cases h
section
variable (e:List (Int×Int)) (sg:O7) (z:Int×Int)
def c0d(f:(Int×Int)×List (Int×Int)×Int->Option (Out ((Int×Int)×List (Int×Int)×Int) ((Int×Int)×List (Int×Int)) ((Int×Int)×Int×Int))):Prop:=
 ∀(i:Nat) (n:Int×Int) (s ops:List (Int×Int)),e[i]? =some n->i<=100->o9 ops=arF n.1->(∀t∈ops,VT t)->s.length+ops.length<=100->
  f (z,s++ops,(i:Int))=some (match GI sg n ops i with| .inl x=> .rt ((0,0),x)| .inr t=> .nx (z,s++[t],((i+1:Nat):Int)))
theorem b2C{f:(Int×Int)×List (Int×Int)×Int->Option (Out ((Int×Int)×List (Int×Int)×Int) ((Int×Int)×List (Int×Int)) ((Int×Int)×Int×Int))}
  (he:e.length<=48) (hI:∀n∈e,kE n.2) (hs:c0d e sg z f):∀(t:XT),t.wf->∀(pre suf s:List (Int×Int)) (k:Nat),e=pre++t.post++suf->s.length<=pre.length->
  qZ f (k+t.size) (z,s,(pre.length:Int))=(match jc sg t pre.length with| .inl x=>some (.inr ((0,0),x))| .inr r=>qZ f k (z,s++[r],((pre.length+t.size:Nat):Int)))/\∀r,jc sg t pre.length= .inr r->VT r:=by
 intro t;have step:∀(i k:Nat) (n:Int×Int) (s ops:List (Int×Int)),e[i]? =some n->o9 ops=arF n.1->(∀t∈ops,VT t)->s.length+ops.length<=100->
   qZ f (k+1) (z,s++ops,(i:Int))=(match GI sg n ops i with| .inl x=>some (.inr ((0,0),x))| .inr r=>qZ f k (z,s++[r],((i+1:Nat):Int))):=by
  intro i k n s ops h1 h2 h3 h4;rw[qZ,hs i n s ops h1 (by have:=(X7.1 h1).1;omega) h2 h3 h4];cases GI sg n ops i<;>rfl
 have getn:∀(pre suf:List (Int×Int)) (n:Int×Int),e=pre++[n]++suf->e[pre.length]? =some n:=by intro pre suf n h;rw[h,G5,J6 l7,dP];rfl
 have mem:∀(i:Nat) (n:Int×Int),e[i]? =some n->kE n.2:=λi n h=>hI n (kK h);induction t with
 |l0 n=>
  intro hw pre suf s k hd hl;have hn:=getn pre suf n hd;have hlen:pre.length<e.length:=(X7.1 hn).1;have hz:o9 ([]:List (Int×Int))=arF n.1:=by rw[show arF n.1=0 from hw];rfl
  have h:=step pre.length k n s [] hn hz x9 Y8;rw[H7]at h;exact⟨h,λr hr=>UE (mem _ n hn) x9 hz hr⟩
 |l1 n a iha=>
  intro hw pre suf s k hd hl;simp only[XT.post,G5]at hd;have hpa:(pre++a.post).length=pre.length+a.size:=by simp[XT.post_len]
  have hn:=getn (pre++a.post) suf n (by simpa using hd);rw[hpa]at hn;have hlen:=(X7.1 hn).1;obtain⟨i1,i2⟩:=iha hw.2 pre ([n]++suf) s (k+1) (by simpa using hd) hl;simp only[XT.size,jc];rw[show k+(a.size+1)=(k+1)+a.size by omega,i1];cases ht:jc sg a pre.length with
  |inl x=>exact⟨rfl,λr hr=>by cases hr⟩|inr ta=>
   have hz:o9 [ta]=arF n.1:=by rw[show arF n.1=1 from hw.1];rfl
   have hv:∀t∈[ta],VT t:=by simpa using i2 ta ht
   exact⟨step _ k n s [ta] hn hz hv Y8,λr hr=>UE (mem _ n hn) hv hz hr⟩
 |l2 n a b iha ihb=>
  intro hw pre suf s k hd hl;simp only[XT.post,G5]at hd;have hpa:(pre++a.post).length=pre.length+a.size:=by simp[XT.post_len]
  have hpb:(pre++a.post++b.post).length=pre.length+a.size+b.size:=by simp[XT.post_len];omega
  have hn:=getn (pre++a.post++b.post) suf n (by simpa using hd);rw[hpb]at hn;have hlen:=(X7.1 hn).1;obtain⟨i1,i2⟩:=iha hw.2.1 pre (b.post++[n]++suf) s (k+1+b.size) (by simpa using hd) hl;simp only[XT.size,jc];rw[show k+(a.size+b.size+1)=(k+1+b.size)+a.size by omega,i1];cases ht:jc sg a pre.length with
  |inl x=>exact⟨rfl,λr hr=>by cases hr⟩|inr ta=>
   have hsa:=a.size_pos;obtain⟨j1,j2⟩:=ihb hw.2.2 (pre++a.post) ([n]++suf) (s++[ta]) (k+1) (by simpa using hd) (by simp[XT.post_len];omega);rw[hpa]at j1 j2;simp only;rw[j1];cases hu:jc sg b (pre.length+a.size)with
   |inl x=>exact⟨rfl,λr hr=>by cases hr⟩|inr tb=>
    have hz:o9 [ta,tb]=arF n.1:=by rw[show arF n.1=2 from hw.1];rfl
    have hv:∀t∈[ta,tb],VT t:=by simpa using ⟨i2 ta ht,j2 tb hu⟩
    have:=step _ k n s [ta,tb] hn hz hv Y8;simp only[G5,aC,G8];rw[show pre.length+(a.size+b.size+1)=pre.length+a.size+b.size+1 by omega];exact⟨this,λr hr=>UE (mem _ n hn) hv hz hr⟩
 |l3 n a b c iha ihb ihc=>
  intro hw pre suf s k hd hl;simp only[XT.post,G5]at hd;have hpa:(pre++a.post).length=pre.length+a.size:=by simp[XT.post_len]
  have hpb:(pre++a.post++b.post).length=pre.length+a.size+b.size:=by simp[XT.post_len];omega
  have hpc:(pre++a.post++b.post++c.post).length=pre.length+a.size+b.size+c.size:=by simp[XT.post_len];omega
  have hn:=getn (pre++a.post++b.post++c.post) suf n (by simpa using hd);rw[hpc]at hn;have hlen:=(X7.1 hn).1;obtain⟨i1,i2⟩:=iha hw.2.1 pre (b.post++(c.post++([n]++suf))) s (k+1+c.size+b.size) (by simpa using hd) hl;simp only[XT.size,jc];rw[show k+(a.size+b.size+c.size+1)=(k+1+c.size+b.size)+a.size by omega,i1];have hsa:=a.size_pos;have hsb:=b.size_pos;cases ht:jc sg a pre.length with
  |inl x=>exact⟨rfl,λr hr=>by cases hr⟩|inr ta=>
   obtain⟨j1,j2⟩:=ihb hw.2.2.1 (pre++a.post) (c.post++([n]++suf)) (s++[ta]) (k+1+c.size) (by simpa using hd) (by simp[XT.post_len];omega);rw[hpa]at j1 j2;simp only;rw[j1];cases hu:jc sg b (pre.length+a.size)with
   |inl x=>exact⟨rfl,λr hr=>by cases hr⟩|inr tb=>
    obtain⟨q1,q2⟩:=ihc hw.2.2.2 (pre++a.post++b.post) ([n]++suf) (s++[ta]++[tb]) (k+1) (by simpa using hd) (by simp[XT.post_len];omega);rw[hpb]at q1 q2;simp only;rw[q1];cases hc:jc sg c (pre.length+a.size+b.size)with
    |inl x=>exact⟨rfl,λr hr=>by cases hr⟩|inr tc=>
     have hz:o9 [ta,tb,tc]=arF n.1:=by rw[show arF n.1=3 from hw.1];rfl
     have hv:∀t∈[ta,tb,tc],VT t:=by simpa using ⟨i2 ta ht,j2 tb hu,q2 tc hc⟩
     have:=step _ k n s [ta,tb,tc] hn hz hv Y8;simp only[G5,aC,G8];rw[show pre.length+(a.size+b.size+c.size+1)=pre.length+a.size+b.size+c.size+1 by omega];exact⟨this,λr hr=>UE (mem _ n hn) hv hz hr⟩
end
def nZ(e:List (Int×Int))(sg:O7):(Int×Int)×Int×Int:=match ng e with
 | .inl x=>((0,0),x)
 | .inr t=>match jc sg t 0 with
  | .inl x=>((0,0),x)| .inr r=>(r,0,0)
variable {α:Type}
theorem a0w(s ops:List α)(k:Int)(hk:o9 ops=k)(h:s.length+ops.length<=100):
  J9 .i64 (o9 (s++ops)) k=(s.length:Int)/\uf (s.length:Int) (o9 (s++ops)) (o9 (s++ops))=true/\qj (s++ops) (V8 (s.length:Int)) (V8 (o9 (s++ops)))=ops
  /\uf 0 (s.length:Int) (o9 (s++ops))=true/\qj (s++ops) (V8 0) (V8 (s.length:Int))=s:=by
 subst hk;refine⟨?_,?_,?_,?_,?_⟩
 .rw[X3 (by unfold kE;simp[o9];omega)];simp[o9]
 .simp[uf,o9];omega
 .show((s++ops).take (((s++ops).length:Nat):Int).toNat).drop s.length=ops;rw[E8,aS,List.drop_left]
 .simp[uf,o9];omega
 .simp[qj,V8]
theorem a0u{sg:O7}{f:(Int×Int)×List (Int×Int)×Int->Option (Out ((Int×Int)×List (Int×Int)×Int) ((Int×Int)×List (Int×Int)) ((Int×Int)×Int×Int))}
  (hI:∀n∈e,kE n.2) (hs:c0d e sg (0,0) f) (hend:∀s,f ((0,0),s,(e.length:Int))=some (.ex ((0,0),s))) (hcode:∀x,ng e= .inl x->x.2≠0):
  l9 (F7 (x8 (yN e).2.2 0)) (some ((((0:Int),(0:Int)),(yN e).2):(Int×Int)×Int×Int)) (o5 (ae f (((0:Int),(0:Int)),([]:List (Int×Int)),(0:Int))) λ(o:(Int×Int)×List (Int×Int)⊕(Int×Int)×Int×Int)=>
   ah o (λ(y:(Int×Int)×List (Int×Int))=>o5 (G6 y.2 0) λ(x:Int×Int)=>o5 (V4 y.2 (V8 0)) λ(x:Int×Int)=>some (x,0,0)) λ(r:(Int×Int)×Int×Int)=>some r)=some (nZ e sg):=by
 unfold yN nZ;cases h:ng e with
 |inl x=>simp only[O8 (hcode x h),bg,o7]|inr t=>
  obtain⟨hp,h48⟩:=Dy h;have hw:=Ri h;obtain⟨l1,_⟩:=b2C e sg (0,0) h48 hI hs t hw [] [] [] (iL -t.size) (by simpa using hp) x9;have hsz:e.length=t.size:=by rw[hp,XT.post_len]
  have hlo:ae f (((0:Int),(0:Int)),([]:List (Int×Int)),(0:Int))=qZ f (iL -t.size+t.size) ((0,0),[],(([]:List (Int×Int)).length:Int)):=by unfold ae;rw[Nat.sub_add_cancel (by unfold iL;omega)];rfl
  simp only[O5 (rfl:(0:Int)=0),E5,o6];rw[hlo,l1];simp only[dB,iC];cases jc sg t 0 with
  |inl x=>rfl|inr r=>obtain⟨k,hk⟩:∃k,iL -t.size=k+1:=⟨iL -t.size -1,by unfold iL;omega⟩;simp only[G8];rw[hk,qZ,←hsz,hend];rfl
theorem Dx{x:Int×Int}(h:ng e= .inl x):x.2≠0:=by
 have key:∀(es:List (Int×Int)) (i:Nat) (ts:List XT) (x:Int×Int),yD i es ts= .inl x->x.2≠0:=by
  intro es;induction es with
  |nil=>intro i ts x h;cases h|cons n es ih=>
   intro i ts x h;unfold yD at h;cases hp:push n ts with
   |inl c=>
    rw[hp]at h;cases h;show c≠0;unfold push at hp
    (repeat' split at hp)<;>first|(cases hp;done)|(cases hp;decide)
   |inr t2=>
    rw[hp]at h;simp only at h;split at h
    .cases h;show(16:Int)≠0;decide
    .exact ih _ _ _ h
 unfold ng at h;split at h
 .cases h;show(4:Int)≠0;decide
 split at h
 .cases h;show(5:Int)≠0;decide
 split at h
 .rename_i y hp;cases h;exact key _ _ _ _ hp
 .cases h
 .cases h;show(4:Int)≠0;decide
theorem a7Y(sg:O7)(hI:∀n∈e,kE n.2):Il e sg=some (nZ e sg):=by
 unfold Il;rw[Lj,o8];refine a0u hI (λi n s ops hn hi2 hl hv hlen=>?_) (λs=>?_) (λx h=>Dx h)
 .obtain⟨r,h1,h2,h3⟩:=a3h sg n (hI n (kK hn)) ops hv hl;obtain⟨v1,v2,v3,v4,v5⟩:=a0w s ops _ hl hlen;have e' :JS n ops sg=r:=by unfold JS;rw[h1];rfl
  have hi:=(X7.1 hn).1;simp only[J3 hn,o7,F8,hn,o8,K_,v1,v2,v3,v4,v5,h1];unfold GI;rw[e'];by_cases h0:r.2=0
  .rw[if_pos h0,O5 h0];simp only[E5,o6];rw[fK _ l7,o8,Y3 l7]
  .rw[if_neg h0,O8 h0];rfl
 .rw[I9];rfl
theorem b2B(sg:O7)(hI:∀n∈e,kE n.2):Ku e sg=some (nZ e sg):=by
 unfold Ku;rw[Vo,o8];refine a0u hI (λi n s ops hn hi2 hl hv hlen=>?_) (λs=>?_) (λx h=>Dx h)
 .obtain⟨r,h1,h2,h3⟩:=a3h sg n (hI n (kK hn)) ops hv hl;obtain⟨v1,v2,v3,v4,v5⟩:=a0w s ops _ hl hlen;have e' :JS n ops sg=r:=by unfold JS;rw[h1];rfl
  have hi:=(X7.1 hn).1;simp only[J3 hn,o7,F8,hn,o8,YT,v1,v2,v3,v4,v5];unfold GI;rw[e'];unfold EN at h2;have fin:dF n ops sg=some r->(o5 (dF n ops sg) λ(x_3:F6×Int)=>l9 (F7 (x8 x_3.2 0)) (some (Out.rt ((((0:Int),(0:Int)),((i:Int),x_3.2)):(Int×Int)×Int×Int)))
    (o5 (bV s [x_3.1]) λ(x_4:List F6)=>some (Out.nx (((0:Int),(0:Int)),x_4,C9 .i64 (i:Int) 1))))=
    some (match if r.2=0 then(.inr r.1:(Int×Int)⊕(Int×Int))else .inl ((i:Int),r.2)with| .inl x=>Out.rt ((0,0),x)| .inr t=>(Out.nx ((0,0),s++[t],((i+1:Nat):Int)):Out ((Int×Int)×List (Int×Int)×Int) ((Int×Int)×List (Int×Int)) ((Int×Int)×Int×Int))):=by
   intro hr;rw[hr,o8];by_cases h0:r.2=0
   .rw[if_pos h0,O5 h0];simp only[E5,o6];rw[fK _ l7,o8,Y3 l7]
   .rw[if_neg h0,O8 h0];rfl
  cases hz:x8 n.2 0
  .rw[hz]at h2;simp only[bg,o7]at h2 ⊢;cases hu:lX n.1 with
   |none=>rw[hu]at h2;cases h2|some u=>
    rw[hu]at h2;simp only[o8]at h2 ⊢;cases u
    .simp only[bg,o7]at h2 ⊢;cases h2;rfl
    .exact fin h2
  .rw[hz]at h2;exact fin h2
 .rw[I9];rfl
section
variable {α β σ ε ρ:Type}
theorem nO(l:List α)(G:β->α->β)(mk:β->Int->σ)(fin:β->ε)(Inv:Nat->β->Prop){f:σ->Option (σ⊕ε)}{b:β}(hl:l.length<=1000000)(h0:Inv 0 b)
  (hin:∀(i:Nat) (a:α) (b:β),l[i]? =some a->i<=1000000->Inv i b->f (mk b (i:Int))=some (.inl (mk (G b a) ((i+1:Nat):Int)))/\Inv (i+1) (G b a))
  (hend:∀b,Inv l.length b->f (mk b (l.length:Int))=some (.inr (fin b))):
  ay f (mk b 0)=some (fin (l.foldl G b))/\Inv l.length (l.foldl G b):=by
 have key:∀(n i:Nat) (b:β),i<=l.length->l.length -i<n->Inv i b->lM f n (mk b (i:Int))=some (fin ((l.drop i).foldl G b))/\Inv l.length ((l.drop i).foldl G b):=by
  intro n;induction n with
  |zero=>intro i b _ h _;omega|succ n ih=>
   intro i b hi hn hI;unfold lM;by_cases h:i<l.length
   .have e:=bQ h;obtain⟨h1,h2⟩:=hin i _ b e l7 hI;rw[h1,fQ h];exact ih (i+1) _ l7 l7 h2
   .have:i=l.length:=l7;subst this;rw[hend b hI,Fb];exact⟨rfl,hI⟩
 have:=key iL 0 b l7 (by unfold iL;omega) h0;exact this
theorem dD{γ:Type}(l:List α)(G:β->α->β)(mk:β->Int->σ)(fin:β->ε)(Inv:Nat->β->Prop)(b:β){f:σ->Option (σ⊕ε)}{K:ε->Option γ}{r:Option γ}(hl:l.length<=1000000)(h0:Inv 0 b)
  (hin:∀(i:Nat) (a:α) (b:β),l[i]? =some a->i<=1000000->Inv i b->f (mk b (i:Int))=some (.inl (mk (G b a) ((i+1:Nat):Int)))/\Inv (i+1) (G b a))
  (hend:∀b,Inv l.length b->f (mk b (l.length:Int))=some (.inr (fin b))) (hk:Inv l.length (l.foldl G b)->K (fin (l.foldl G b))=r):o5 (ay f (mk b 0)) K=r:=by
 obtain⟨h1,h2⟩:=nO l G mk fin Inv hl h0 hin hend;rw[h1];exact hk h2
def bF(G:β->α->β⊕ρ):List α->β->β⊕ρ
 |[],b=> .inl b
 |a::l,b=>match G b a with| .inl b' =>bF G l b'| .inr r=> .inr r
theorem SV(l:List α)(G:β->α->β⊕ρ)(mk:β->Int->σ)(fin:β->ε)(Inv:Nat->β->Prop){f:σ->Option (Out σ ε ρ)}{b:β}(hl:l.length<=1000000)(h0:Inv 0 b)
  (hin:∀(i:Nat) (a:α) (b:β),l[i]? =some a->i<=1000000->Inv i b->f (mk b (i:Int))=some (match G b a with| .inl b' => .nx (mk b' ((i+1:Nat):Int))| .inr r=> .rt r)/\∀b',G b a= .inl b' ->Inv (i+1) b')
  (hend:∀b,Inv l.length b->f (mk b (l.length:Int))=some (.ex (fin b))):
  ae f (mk b 0)=some (match bF G l b with| .inl b' => .inl (fin b')| .inr r=> .inr r)/\∀b',bF G l b= .inl b' ->Inv l.length b' :=by
 have key:∀(n i:Nat) (b:β),i<=l.length->l.length -i<n->Inv i b->qZ f n (mk b (i:Int))=some (match bF G (l.drop i) b with| .inl b' => .inl (fin b')| .inr r=> .inr r)/\∀b',bF G (l.drop i) b= .inl b' ->Inv l.length b' :=by
  intro n;induction n with
  |zero=>intro i b _ h _;omega|succ n ih=>
   intro i b hi hn hI;unfold qZ;by_cases h:i<l.length
   .have e:=bQ h;obtain⟨h1,h2⟩:=hin i _ b e l7 hI;rw[h1,fQ h];unfold bF;cases hg:G b l[i]with
    |inr r=>exact⟨rfl,λb' hb=>by cases hb⟩|inl b' =>exact ih (i+1) _ l7 l7 (h2 b' hg)
   .have:i=l.length:=l7;subst this;rw[hend b hI,Fb];exact⟨rfl,λb' hb=>by cases hb;exact hI⟩
 have:=key iL 0 b l7 (by unfold iL;omega) h0;exact this
theorem pz{γ:Type}(l:List α)(G:β->α->β⊕ρ)(mk:β->Int->σ)(fin:β->ε)(Inv:Nat->β->Prop)(b:β){f:σ->Option (Out σ ε ρ)}{K:ε⊕ρ->Option γ}{r:Option γ}(hl:l.length<=1000000)(h0:Inv 0 b)
  (hin:∀(i:Nat) (a:α) (b:β),l[i]? =some a->i<=1000000->Inv i b->f (mk b (i:Int))=some (match G b a with| .inl b' => .nx (mk b' ((i+1:Nat):Int))| .inr r=> .rt r)/\∀b',G b a= .inl b' ->Inv (i+1) b')
  (hend:∀b,Inv l.length b->f (mk b (l.length:Int))=some (.ex (fin b)))
  (hk:(∀b',bF G l b= .inl b' ->Inv l.length b')->K (match bF G l b with| .inl b' => .inl (fin b')| .inr r=> .inr r)=r):o5 (ae f (mk b 0)) K=r:=by
 obtain⟨h1,h2⟩:=SV l G mk fin Inv hl h0 hin hend;rw[h1];exact hk h2
end
def Xa(c:UInt8):Bool:=decide (32<=c.toNat)&&decide (c.toNat<=126)&&decide (c.toNat≠34)
def a1g(s:d5T):Bool:=decide (s.length<=64)&&s.all Xa
theorem a9K(c:UInt8):∀s:d5T,decide (0<=Lib.indexByte s c)=s.any λx=>decide (x.toNat=c.toNat)
 |[]=>by simp[Lib.indexByte]|b::l=>by
  have ih:=a9K c l;have hge:=Lib.indexByte_ge l c;rw[jT,←ih];have e:Lib.indexByte (b::l) c=if b=c then 0 else if Lib.indexByte l c=-1 then -1 else Lib.indexByte l c+1:=by rw[Lib.indexByte];simp
  rw[e];by_cases h:b=c
  .subst h;simp
  .have h2:b.toNat≠c.toNat:=λhh=>h (UInt8.toNat_inj.1 hh);rw[if_neg h,show decide (b.toNat=c.toNat)=false by simp[h2],jR];by_cases h3:Lib.indexByte l c=-1
   .rw[h3];rfl
   .rw[if_neg h3];simp;omega
theorem a6x(c:UInt8):Xa c=(!D9 (c.toNat:Int) 32&&!D9 126 (c.toNat:Int)&&!x8 (c.toNat:Int) 34):=by unfold Xa D9 x8;rw[fO];simp;omega
theorem Ym(s:d5T)(p:UInt8->Bool):(∀(i:Nat) (a:UInt8),s[i]? =some a->p a=true)↔s.all p=true:=by rw[lC];exact⟨λh x hx=>by obtain⟨i,hi,rfl⟩:=Y7 hx;exact h i _ (bQ hi),λh i a hi=>h a (kK hi)⟩
theorem a3p{s:d5T}(h:s.length<=1000000):BV s=some (a1g s):=by
 unfold BV;refine X8 (FK s (λi a=>Xa a) false PUnit.unit _ l7 (λi x hx=>?_) ?_) ?_
 rotate_left 2
 .have h5:L6 (o9 s) 64=decide (s.length<=64):=by simp only[L6,o9];congr 1;simp;omega
  unfold a1g;by_cases hw:s.all Xa=true
  .rw[if_pos ((Ym s Xa).2 hw),hw,o8,U0,h5,Bool.and_true]
  .rw[if_neg (λh=>hw ((Ym s Xa).1 h))];simp only[lu]at hw;rw[hw,Bool.and_false];rfl
 .have hi:=(X7.1 hx).1;simp only[J3 hx,o7,YC,hx,eH,o8];rw[Y3 l7,a6x];cases D9 (x.toNat:Int) 32<;>cases D9 126 (x.toNat:Int)<;>cases x8 (x.toNat:Int) 34<;>rfl
 .rw[I9];rfl
theorem a0z{s:d5T}(h:s.length<=1000000):BN s=some (a1g s):=by
 unfold BN;have h5:D9 64 (o9 s)= !decide (s.length<=64):=by simp only[D9,o9];rw[←decide_not];congr 1;simp;omega
 rw[h5,show AX s [34]=some (s.any λx=>decide (x.toNat=(34:UInt8).toNat))from congrArg some (a9K 34 s)];unfold a1g;cases decide (s.length<=64)
 .rfl
 simp only[jf,o6,o8,fE];cases h34:s.any λx=>decide (x.toNat=(34:UInt8).toNat)
 case true=>
  obtain⟨x,hx,hx2⟩:=aP.1 h34;simp only[decide_eq_true_eq]at hx2;have:s.all Xa=false:=by rw[List.all_eq_false];refine⟨x,hx,?_⟩;unfold Xa;rw[hx2];decide
  rw[this];rfl
 simp only[o6];refine X8 (FK s (λi a=>Xa a) false PUnit.unit _ l7 (λi x hx=>?_) ?_) ?_
 rotate_left 2
 .by_cases hw:s.all Xa=true
  .rw[if_pos ((Ym s Xa).2 hw),hw];rfl
  .rw[if_neg (λh=>hw ((Ym s Xa).1 h))];simp only[lu]at hw;rw[hw];rfl
 .have hi:=(X7.1 hx).1;have hne:x8 (x.toNat:Int) 34=false:=by
   have:=(jg.1 h34) x (kK hx);simp only[decide_eq_true_eq]at this;exact O8 (by have h:(34:UInt8).toNat=34:=rfl;omega)
  simp only[J3 hx,o7,YC,hx,eH,o8];rw[Y3 l7,a6x,hne];cases D9 (x.toNat:Int) 32<;>cases D9 126 (x.toNat:Int)<;>rfl
 .rw[I9];rfl
def JK(e:List (Int×Int))(sg:O7)(t:Int×Int):Int:=l9 (x8 (nZ e sg).2.2 0) (l9 (jl (x8 (nZ e sg).1.1 t.1) (x8 (nZ e sg).1.2 t.2)) 0 8) (nZ e sg).2.2
theorem Ua(sg:O7)(t:Int×Int)(hI:∀n∈e,kE n.2):yl e sg t=some (JK e sg t):=by
 unfold yl JK;rw[b2B sg hI,o8];cases x8 (nZ e sg).2.2 0
 .rfl
 simp only[E5,o6,o7];cases jl (x8 (nZ e sg).1.1 t.1) (x8 (nZ e sg).1.2 t.2)<;>rfl
theorem Uf(sg:O7)(t:Int×Int)(hI:∀n∈e,kE n.2):uQ e sg t=some (JK e sg t):=by
 unfold uQ JK;rw[a7Y sg hI,o8];cases x8 (nZ e sg).2.2 0
 .rfl
 simp only[E5,o6,o7];cases jl (x8 (nZ e sg).1.1 t.1) (x8 (nZ e sg).1.2 t.2)<;>rfl
def YJ(r:aj):Prop:=r.1.length<=1000000/\r.2.2.2.2.2.2.2.length<=1000000/\(∀n∈r.2.2.2.2.2.1,kE n.2)/\(∀n∈r.2.2.2.2.2.2.1,kE n.2)
def LK(rs:List aj)(d:Int):Nat:=rs.countP λo=>x8 o.2.1 d
def VS(r:aj)(sg:O7)(t:Int×Int):Int:=
 l9 (D9 0 (o9 r.2.2.2.2.2.1)) (l9 (x8 (JK r.2.2.2.2.2.1 sg (1,0)) 0) (JK r.2.2.2.2.2.2.1 sg t) (JK r.2.2.2.2.2.1 sg (1,0))) (JK r.2.2.2.2.2.2.1 sg t)
def JE(s:A7)(sg:O7)(k:Nat)(r:aj):Int:=
 l9 (EW r.1) (l9 ((s.2.2.2.2.take k).any λx=>seq x.1 r.1) 7 (match G6 s.2.2.2.1 r.2.1 with
  |none=>6|some d=>l9 (l9 (x8 r.2.2.1 (-1)) false (l9 (D9 r.2.2.1 0) true (l9 (L6 k r.2.2.1) true (match G6 s.2.2.2.2 r.2.2.1 with|some q=>F7 (x8 q.2.1 r.2.1)|none=>true)))) 9
   (l9 (D9 r.2.2.2.1 0) 3 (l9 (D9 9 r.2.2.2.1) 3 (l9 (Ja r.2.2.2.2.1) (l9 (x8 r.2.2.2.2.1.1 r.2.2.2.2.1.2) 3
    (l9 (L6 8 (LK (s.2.2.2.2.take k) r.2.1)) 4 (l9 (a1g r.2.2.2.2.2.2.2) (VS r sg d.2) 2))) 3))))) 2
theorem tJ{l:List α}{i:Int}(h:L6 0 i=false\/D9 i (o9 l)=false):G6 l i=none:=by
 unfold G6
 split
 .rename_i h0;rcases h with h|h
  .rw[DX]at h;omega
  .rw[iM]at h;simp only[o9]at h;exact bH l7
 .rfl
variable {s:A7}{r:aj}{k:Nat}
theorem a2J(sg:O7)(hr:s.2.2.2.2[k]? =some r)(hl:s.2.2.2.2.length<=1000)(h:YJ r):Gl s (k:Int) sg=some (JE s sg k r):=by
 have hk:=(X7.1 hr).1;have hcnt:LK (s.2.2.2.2.take k) r.2.1<=1000:=by have:=tq (l:=s.2.2.2.2.take k) (p:=λ(o:aj)=>x8 o.2.1 r.2.1);unfold LK;simp at this;omega
 unfold Gl;rw[F8,hr,o8,Dj l7,o8];refine X8 (nO (s.2.2.2.2.take k) (λ(c:Nat) (o:aj)=>l9 (x8 o.2.1 r.2.1) (c+1) c) (λc i=>((c:Int),i)) (λc=>(c:Int)) (λi c=>c<=i) (b:=0) Y8 l7 (λi a c ha hi hc=>?_) (λc hc=>?_)).1 ?_
 rotate_left 2
 .have hf:∀(l:List aj) (c:Nat),l.foldl (λ(c:Nat) (o:aj)=>l9 (x8 o.2.1 r.2.1) (c+1) c) c=c+LK l r.2.1:=by
   intro l;induction l with
   |nil=>intro c;rfl|cons a l ih=>intro c;rw[O9,ih];unfold LK;rw[Fa];cases x8 a.2.1 r.2.1<;>simp<;>omega
  rw[hf,iC,o8,uA h.1,o8,o8,a7p _ Y8,o8];unfold JE;cases EW r.1
  .rfl
  simp only[E5,o6,o7,o8];cases (s.2.2.2.2.take k).any λx=>seq x.1 r.1
  case true=>rfl
  simp only[o6];rw[rH r.2.1 0,Gi (o9 s.2.2.2.1) r.2.1];cases h0:L6 0 r.2.1
  .rw[tJ (.inl h0)];rfl
  cases h1:D9 r.2.1 (o9 s.2.2.2.1)
  .rw[tJ (.inr h1)];rfl
  obtain⟨d,hd,_⟩:=lZ (jr.1 h0) (jK.1 h1);rw[hd];simp only[jf,o6,o8,a0z h.2.1];have hpar:(l9 (F7 (x8 r.2.2.1 (-1))) (l9 (D9 r.2.2.1 0) (some true) (l9 (L6 (k:Int) r.2.2.1) (some true) (o5 (G6 s.2.2.2.2 r.2.2.1) λ(x_6:aj)=>some (F7 (x8 x_6.2.1 r.2.1))))) (some false))=
    some (l9 (x8 r.2.2.1 (-1)) false (l9 (D9 r.2.2.1 0) true (l9 (L6 k r.2.2.1) true (match G6 s.2.2.2.2 r.2.2.1 with|some q=>F7 (x8 q.2.1 r.2.1)|none=>true)))):=by
   cases x8 r.2.2.1 (-1)
   case true=>rfl
   simp only[bg,o7,o6];cases hp0:D9 r.2.2.1 0
   case true=>rfl
   cases hp1:L6 (k:Int) r.2.2.1
   case true=>rfl
   rw[iM]at hp0;rw[DX]at hp1;obtain⟨q,hq,_⟩:=lZ (l:=s.2.2.2.2) hp0 (by simp only[o9];omega);rw[hq];rfl
  rw[hpar,o8];cases (l9 (x8 r.2.2.1 (-1)) false (l9 (D9 r.2.2.1 0) true (l9 (L6 k r.2.2.1) true (match G6 s.2.2.2.2 r.2.2.1 with|some q=>F7 (x8 q.2.1 r.2.1)|none=>true))))
  case true=>rfl
  simp only[o6];cases D9 r.2.2.2.1 0
  case true=>rfl
  simp only[o6,o8];cases D9 9 r.2.2.2.1
  case true=>rfl
  simp only[o6];have hval:∀(A B:Option (aj⊕Int)),l9 (D9 r.2.2.2.2.1.1 0) A (l9 (L6 r.2.2.2.2.1.2 r.2.2.2.2.1.1) A (l9 (D9 109573 r.2.2.2.2.1.2) A B))=l9 (Ja r.2.2.2.2.1) (l9 (x8 r.2.2.2.2.1.1 r.2.2.2.2.1.2) A B) A:=by
   intro A B;unfold Ja;by_cases v0:r.2.2.2.2.1.1<(0:Int)
   .rw[U6 v0,Y9 (show r.2.2.2.2.1.1<(0:Int)from v0)];rfl
   rw[N7 (iQ.1 v0),Y5 (iQ.1 v0)];by_cases v1:(r.2.2.2.2.1.2:Int)<=r.2.2.2.2.1.1
   .rw[Y5 v1];by_cases v2:(r.2.2.2.2.1.1:Int)<=r.2.2.2.2.1.2
    .rw[Y5 v2,O5 (Int.le_antisymm v2 v1)];cases L6 r.2.2.2.2.1.2 109573<;>rfl
    .rw[Y9 (lT.1 v2)];rfl
   .have v1' :=lT.1 v1;rw[Y9 v1',Y5 (Int.le_of_lt v1'),O8 (λhh=>by rw[hh]at v1';exact Int.lt_irrefl _ v1'),rH];cases L6 r.2.2.2.2.1.2 109573<;>rfl
  rw[hval];cases Ja r.2.2.2.2.1
  .rfl
  cases x8 r.2.2.2.2.1.1 r.2.2.2.2.1.2
  case true=>rfl
  simp only[o7,o6];cases L6 8 ((LK (s.2.2.2.2.take k) r.2.1:Nat):Int)
  case true=>rfl
  cases a1g r.2.2.2.2.2.2.2
  .rfl
  simp only[E5,o6,o7,o8,U0,VS,hd,Ua sg _ h.2.2.1,Ua sg _ h.2.2.2];cases D9 0 (o9 r.2.2.2.2.2.1)
  .rfl
  simp only[o7];cases x8 (JK r.2.2.2.2.2.1 sg (1,0)) 0<;>rfl
 .have hc' :c<=1000000:=l7;obtain⟨ha1,ha2⟩:=Vq ha;simp only[J3 ha,o7,F8,ha,o8];rw[Y3 (show i<=9000000000000000000 by omega),Y3 (show c<=9000000000000000000 by omega)];cases x8 a.2.1 r.2.1
  .exact⟨rfl,by show c<=i+1;omega⟩
  .exact⟨rfl,by show c+1<=i+1;omega⟩
 .simp only[I9];rfl
theorem a7S(s:A7)(d:Int):GR s d=some (l9 (L6 0 d) (D9 d (o9 s.2.2.2.1)) false):=by unfold GR;cases L6 0 d<;>rfl
theorem a1G(r:aj):∀(l:List aj) (c:Nat),bF (λ(c:Nat) (o:aj)=>l9 (seq o.1 r.1) (.inr (7:Int)) (.inl (l9 (x8 o.2.1 r.2.1) (c+1) c))) l c=l9 (l.any λx=>seq x.1 r.1) (.inr 7) (.inl (c+LK l r.2.1))
 |[],c=>rfl|a::l,c=>by
  unfold bF;rw[jT];cases seq a.1 r.1
  case true=>rfl
  simp only[o6,jR];rw[a1G r l];unfold LK;rw[Fa];cases x8 a.2.1 r.2.1
  .simp only[o6,dG,if_false,dN]
  .simp only[o7,if_true];rw[show c+1+List.countP (λo=>x8 o.2.1 r.2.1) l=c+(List.countP (λo=>x8 o.2.1 r.2.1) l+1) by omega]
variable {l:U9}
theorem a1b(hL:TP l)(hs:l.2.2[i]? =some s)(hr:s.2.2.2.2[k]? =some r)(h:YJ r):BX l (i:Int) (k:Int)=some (JE s (FX l s) k r):=by
 have hk:=(X7.1 hr).1;have hl:=(hL s (kK hs)).2.2.2;have hcnt:LK (s.2.2.2.2.take k) r.2.1<=1000:=by have:=tq (l:=s.2.2.2.2.take k) (p:=λ(o:aj)=>x8 o.2.1 r.2.1);unfold LK;simp at this;omega
 unfold BX JE;rw[F8,hs,o8,F8,hr,o8,pI h.1,o8];cases EW r.1
 .rfl
 simp only[E5,o6,o7];refine X8 (SV (s.2.2.2.2.take k) (λ(c:Nat) (o:aj)=>l9 (seq o.1 r.1) (.inr (7:Int)) (.inl (l9 (x8 o.2.1 r.2.1) (c+1) c))) (λc i=>((c:Int),i)) (λc=>(c:Int)) (λi c=>c<=i) (b:=0) Y8 l7 (λj a c ha hi hc=>?_) (λc hc=>?_)).1 ?_
 rotate_left 2
 .rw[a1G];cases (s.2.2.2.2.take k).any λx=>seq x.1 r.1
  case true=>rfl
  simp only[o6,iC,o8,U0];rw[rH r.2.1 0,Gi (o9 s.2.2.2.1) r.2.1];cases h0:L6 0 r.2.1
  .rw[tJ (.inl h0)];rfl
  cases h1:D9 r.2.1 (o9 s.2.2.2.1)
  .rw[tJ (.inr h1)];rfl
  obtain⟨d,hd,_⟩:=lZ (jr.1 h0) (jK.1 h1);rw[hd];simp only[jf,o6,o8,U0];have hpar:(l9 (F7 (x8 r.2.2.1 (-1))) (l9 (D9 r.2.2.1 0) (some (Sum.inr (9:Int))) (l9 (L6 (k:Int) r.2.2.1) (some (.inr 9)) (o5 (G6 s.2.2.2.2 r.2.2.1) λ(x:aj)=>l9 (F7 (x8 x.2.1 r.2.1)) (some (.inr 9)) (some (.inl PUnit.unit))))) (some (.inl PUnit.unit)))=
    some (l9 (l9 (x8 r.2.2.1 (-1)) false (l9 (D9 r.2.2.1 0) true (l9 (L6 k r.2.2.1) true (match G6 s.2.2.2.2 r.2.2.1 with|some q=>F7 (x8 q.2.1 r.2.1)|none=>true)))) (.inr 9) (.inl PUnit.unit)):=by
   cases x8 r.2.2.1 (-1)
   case true=>rfl
   simp only[bg,o7,o6];cases hp0:D9 r.2.2.1 0
   case true=>rfl
   cases hp1:L6 (k:Int) r.2.2.1
   case true=>rfl
   rw[iM]at hp0;rw[DX]at hp1;obtain⟨q,hq,_⟩:=lZ (l:=s.2.2.2.2) hp0 (by simp only[o9];omega);rw[hq];simp only[o8,o6];cases x8 q.2.1 r.2.1<;>rfl
  rw[hpar,o8];cases (l9 (x8 r.2.2.1 (-1)) false (l9 (D9 r.2.2.1 0) true (l9 (L6 k r.2.2.1) true (match G6 s.2.2.2.2 r.2.2.1 with|some q=>F7 (x8 q.2.1 r.2.1)|none=>true))))
  case true=>rfl
  simp only[o6,U0];cases D9 r.2.2.2.1 0
  case true=>rfl
  cases D9 9 r.2.2.2.1
  case true=>rfl
  simp only[o6,NU,o8];cases Ja r.2.2.2.2.1
  .rfl
  cases x8 r.2.2.2.2.1.1 r.2.2.2.2.1.2
  case true=>rfl
  simp only[E5,o7,o6,o8,U0];cases L6 8 ((LK (s.2.2.2.2.take k) r.2.1:Nat):Int)
  case true=>rfl
  simp only[o6,a3p h.2.1,o8];cases a1g r.2.2.2.2.2.2.2
  .rfl
  simp only[E5,o6,o7,o8,a1d hL hs,VS,hd,Uf (FX l s) _ h.2.2.1,Uf (FX l s) _ h.2.2.2];cases D9 0 (o9 r.2.2.2.2.2.1)
  .rfl
  simp only[o7];cases x8 (JK r.2.2.2.2.2.1 (FX l s) (1,0)) 0<;>rfl
 .obtain⟨ha1,ha2⟩:=Vq ha;simp only[U6 (show(j:Int)<(k:Int) by omega),o7,F8,ha2,o8];rw[Y3 (show j<=9000000000000000000 by omega),Y3 (show c<=9000000000000000000 by omega)];cases seq a.1 r.1
  .cases x8 a.2.1 r.2.1
   .exact⟨rfl,λb' hb=>by cases hb;show c<=j+1;omega⟩
   .exact⟨rfl,λb' hb=>by cases hb;show c+1<=j+1;omega⟩
  .exact⟨rfl,λb' hb=>by cases hb⟩
 .have e:(s.2.2.2.2.take k).length=k:=by simp;omega
  simp only[e,N7 (show(k:Int)<=(k:Int) by omega)];rfl
structure SmS (s:A7):Prop where
 nm:s.1.length<=1000000
 ni:s.2.2.1.length<=14
 nd:s.2.2.2.1.length<=14
 nr:s.2.2.2.2.length<=60
 fo:a4h s
 ro:∀r∈s.2.2.2.2,YJ r/\r.2.2.2.2.2.1.length<=50/\r.2.2.2.2.2.2.1.length<=50
theorem a3y:rQ=lV:=rfl
def NC(n:Int)(b:d5R×Bool)(a:Int):d5R×Bool:=l9 b.2 (b.1++[a],true) (l9 (L6 n a) (l9 (D9 n a) (b.1++[n]++[a],true) (b.1++[a],true)) (b.1++[a],false))
theorem a7u(n:Int):∀(l p:d5R),l.foldl (NC n) (p,true)=(p++l,true)
 |[],p=>by simp|a::l,p=>by rw[O9,show NC n (p,true) a=(p++[a],true)from rfl,a7u n l];simp
theorem a7t(n:Int):∀(l p:d5R),(l9 (l.foldl (NC n) (p,false)).2 (l.foldl (NC n) (p,false)).1 ((l.foldl (NC n) (p,false)).1++[n]))=p++ins n l
 |[],p=>rfl|a::l,p=>by
  rw[O9];unfold ins;by_cases h1:n<=a
  .rw[if_pos h1];by_cases h2:n<a
   .rw[if_pos h2,show NC n (p,false) a=(p++[n]++[a],true) by simp[NC,Y5 h1,U6 h2],a7u];simp
   .rw[if_neg h2,show NC n (p,false) a=(p++[a],true) by simp[NC,Y5 h1,N7 (show a<=n by omega)],a7u];simp
  .rw[if_neg h1,show NC n (p,false) a=(p++[a],false) by simp[NC,Y9 (show a<n by omega)],a7t n l];simp
theorem CS{l:d5R}(n:Int)(hl:l.length<=1000000):lV l n=some (ins n l):=by
 unfold lV;refine dD l (NC n) (λb i=>(b.1,b.2,i)) (λb=>b) (λi b=>b.1.length<=i+1/\(b.2=false->b.1.length<=i)) (([],false):d5R×Bool) hl x9 (λi a b ha hi hI=>?_) (λb hI=>?_) (λh2=>?_)
 .obtain⟨o,d⟩:=b;simp only at hI;simp only[J3 ha,o7,F8,ha,o8];rw[Y3 l7];cases d
  .simp only[bg,o7,NC,o6];have:=hI.2 rfl;cases L6 n a
   .rw[o6,fK a (show o.length<=1000000 by omega)];exact⟨rfl,by simp<;>omega,by simp<;>omega⟩
   .rw[o7];cases D9 n a
    .rw[o6,fK a (show o.length<=1000000 by omega)];exact⟨rfl,by simp<;>omega,x9⟩
    .rw[o7,fK n (show o.length<=1000000 by omega),o8,uq Y8];exact⟨rfl,by simp<;>omega,x9⟩
  .simp only[E5,o6,NC,o7];rw[uq Y8];exact⟨rfl,by simp<;>omega,x9⟩
 .simp only[I9];rfl
 .have hf:=a7t n l [];generalize l.foldl (NC n) ([],false)=b at*;obtain⟨o,d⟩:=b;cases d
  .simp only[o6,G8]at hf;simp only[bg,o7];rw[fK _ (by simp at h2;omega),hf];rfl
  .simp only[o7,G8]at hf;simp only[E5,o6,hf]
def isM(op:Int):Bool:=l9 (L6 36 op) (L6 op 39) false
theorem a7v(op:Int):isM op=l9 (x8 op 36) true (l9 (x8 op 37) true (l9 (x8 op 38) true (x8 op 39))):=by
 unfold isM;by_cases h1:36<=op
 .rw[Y5 h1,o7];by_cases h2:op<=39
  .rw[Y5 h2];have:op=36\/op=37\/op=38\/op=39:=l7;rcases this with rfl|rfl|rfl|rfl<;>rfl
  .rw[Y9 l7,O8 l7,O8 l7,O8 l7,O8 l7];rfl
 .rw[Y9 l7,O8 l7,O8 l7,O8 l7,O8 l7];rfl
def Ry(p:Int->Bool)(e:List (Int×Int)):d5R:=(e.filter λn=>p n.1).map (·.2)
def oH(e:List (Int×Int)):d5R×d5R×d5R:=(EZ (Ry (λo=>x8 o 7) e),EZ (Ry (λo=>x8 o 8) e),EZ (Ry isM e))
def b1Z(g:d5R->Int->d5R)(b:d5R×d5R×d5R)(n:Int×Int):d5R×d5R×d5R:=
 (l9 (x8 n.1 7) (g b.1 n.2) b.1,l9 (x8 n.1 8) (g b.2.1 n.2) b.2.1,l9 (isM n.1) (g b.2.2 n.2) b.2.2)
theorem WL(g:d5R->Int->d5R):∀(e:List (Int×Int)) (b:d5R×d5R×d5R),e.foldl (b1Z g) b=((Ry (λo=>x8 o 7) e).foldl g b.1,(Ry (λo=>x8 o 8) e).foldl g b.2.1,(Ry isM e).foldl g b.2.2)
 |[],b=>rfl|n::e,b=>by
  have hn:∀p:Int->Bool,Ry p (n::e)=l9 (p n.1) (n.2::Ry p e) (Ry p e):=λp=>by unfold Ry;rw[dJ];cases p n.1<;>rfl
  rw[O9,WL g e,hn,hn,hn];unfold b1Z;simp only;cases x8 n.1 7<;>cases x8 n.1 8<;>cases isM n.1<;>rfl
theorem a1H:∀(l b:d5R),l.foldl (λacc n=>acc++[n]) b=b++l
 |[],b=>by simp|a::l,b=>by rw[O9,a1H l];simp
theorem Le{a k:Int}(h:a=k)(m:Int)(hm:k≠m):x8 a m=false:=O8 l7
theorem Kr{l:d5R}(hl:l.length<=1000000):yh l=some (EZ l):=by unfold yh;have:=b0y (l:=l) hl;rw[show(λx=>o5 (ou x) λ(x:d5R)=>some x)=λx=>ou x from funext λx=>gU _];exact this
theorem Gw(h:e.length<=1000000):qN e=some (oH e):=by
 unfold qN;refine dD e (b1Z (λacc n=>acc++[n])) (λb i=>(b.1,b.2.1,b.2.2,i)) (λb=>b) (λi b=>b.1.length<=i/\b.2.1.length<=i/\b.2.2.length<=i) (([],[],[]):d5R×d5R×d5R) h x9 (λi a b ha hi hI=>?_) (λb hI=>?_) (λh2=>?_)
 .obtain⟨b1,b2,b3⟩:=b;simp only at hI;simp only[J3 ha,o7,F8,ha,o8,fK a.2 (show b1.length<=1000000 by omega),fK a.2 (show b2.length<=1000000 by omega),fK a.2 (show b3.length<=1000000 by omega),b1Z,a7v];rw[Y3 l7];by_cases h7:a.1=7
  .rw[O5 h7,Le h7 8 H9,Le h7 36 H9,Le h7 37 H9,Le h7 38 H9,Le h7 39 H9];exact⟨rfl,by simp<;>omega,by simp<;>omega,by simp<;>omega⟩
  rw[O8 h7];by_cases h8:a.1=8
  .rw[O5 h8,Le h8 36 H9,Le h8 37 H9,Le h8 38 H9,Le h8 39 H9];exact⟨rfl,by simp<;>omega,by simp<;>omega,by simp<;>omega⟩
  rw[O8 h8];cases x8 a.1 36<;>cases x8 a.1 37<;>cases x8 a.1 38<;>cases x8 a.1 39<;>exact⟨rfl,by simp<;>omega,by simp<;>omega,by simp<;>omega⟩
 .simp only[I9];rfl
 .rw[WL]at h2 ⊢;simp only[a1H,G8]at h2 ⊢;rw[Kr l7,o8,Kr l7,o8,Kr l7];rfl
theorem En(h:e.length<=500000):pJ e=some (oH e):=by
 unfold pJ;refine dD e (b1Z (λacc n=>ins n acc)) (λb i=>(b.1,b.2.1,b.2.2,i)) (λb=>b) (λi b=>b.1.length<=i/\b.2.1.length<=i/\b.2.2.length<=i) (([],[],[]):d5R×d5R×d5R) l7 x9 (λi a b ha hi hI=>?_) (λb hI=>?_) (λh2=>?_)
 .obtain⟨b1,b2,b3⟩:=b;simp only at hI;have l1:=tK a.2 b1;have l2:=tK a.2 b2;have l3:=tK a.2 b3;rw[a3y];simp only[J3 ha,o7,F8,ha,o8,CS a.2 (show b1.length<=1000000 by omega),CS a.2 (show b2.length<=1000000 by omega),CS a.2 (show b3.length<=1000000 by omega),b1Z,isM];rw[Y3 l7];by_cases h7:a.1=7
  .rw[O5 h7,Le h7 8 H9,Y9 (show a.1<36 by omega)];exact⟨rfl,by simp<;>omega,by simp<;>omega,by simp<;>omega⟩
  rw[O8 h7];cases x8 a.1 8<;>cases L6 36 a.1<;>cases L6 a.1 39<;>exact⟨rfl,by simp<;>omega,by simp<;>omega,by simp<;>omega⟩
 .simp only[I9];rfl
 .rw[WL];rfl
theorem a5x(p:Int->Bool)(e:List (Int×Int)):(Ry p e).length<=e.length:=by unfold Ry;rw[L9];exact aI _ _
theorem IP(e:List (Int×Int)):(oH e).2.1.length<=e.length:=bC (KA _) (a5x _ e)
theorem IQ(e:List (Int×Int)):(oH e).2.2.length<=e.length:=bC (KA _) (a5x _ e)
def inD(n d:Int):Bool:=l9 (L6 0 d) (D9 d n) false
def GL(n:Int)(r:aj):d5R:=(oH r.2.2.2.2.2.1).2.1.filter (inD n)++(oH r.2.2.2.2.2.2.1).2.1.filter (inD n)
theorem ZC(p:Int->Bool):∀(l b:d5R),l.foldl (λacc x=>l9 (p x) (acc++[x]) acc) b=b++l.filter p
 |[],b=>by simp|a::l,b=>by rw[O9,ZC p l,dJ];cases p a<;>simp
variable {f:d5R×Int->Option ((d5R×Int)⊕d5R)}
theorem a1D(l b:d5R)(n:Int)(hl:l.length<=1000)(hb:b.length<=1000)
  (hin:∀(i:Nat) (a:Int) (acc:d5R),l[i]? =some a->i<=1000000->f (acc,(i:Int))=l9 (L6 0 a) (l9 (D9 a n) (o5 (bV acc [a]) λx=>some (.inl (x,C9 .i64 (i:Int) 1))) (some (.inl (acc,C9 .i64 (i:Int) 1)))) (some (.inl (acc,C9 .i64 (i:Int) 1))))
  (hend:∀acc,f (acc,(l.length:Int))=some (.inr acc)):ay f (b,0)=some (b++l.filter (inD n)):=by
 have key:=nO l (λ(acc:d5R) x=>l9 (inD n x) (acc++[x]) acc) (λb i=>(b,i)) (λb=>b) (λi acc=>acc.length<=1000+i) (f:=f) (b:=b) l7 l7 ?_ ?_
 .rw[key.1,ZC]
 .intro i a acc ha hi hI;have:=(X7.1 ha).1;rw[hin i a acc ha hi,Y3 l7,fK _ l7];unfold inD;cases L6 0 a
  .exact⟨rfl,by show acc.length<=_;omega⟩
  cases D9 a n
  .exact⟨rfl,by show acc.length<=_;omega⟩
  .exact⟨rfl,by simp;omega⟩
 .intro acc hI;rw[hend]
theorem VL(n:Int)(h1:r.2.2.2.2.2.1.length<=50)(h2:r.2.2.2.2.2.2.1.length<=50):xx r n=some (GL n r):=by
 have g1:=IP r.2.2.2.2.2.1;have g2:=IP r.2.2.2.2.2.2.1;unfold xx GL;rw[Gw l7,o8,Gw l7,o8];refine X8 (a1D (oH r.2.2.2.2.2.1).2.1 [] n l7 x9 (λi a acc ha hi=>?_) (λacc=>?_)) ?_
 rotate_left 2
 .rw[o8,gU,G8];have:=aI (inD n) (oH r.2.2.2.2.2.1).2.1;refine a1D (oH r.2.2.2.2.2.2.1).2.1 _ n l7 l7 (λi a acc ha hi=>?_) (λacc=>?_)
  .simp only[J3 ha,o7,F8,ha,o8];rw[show V4 (oH r.2.2.2.2.2.2.1).2.1 (V8 (i:Int))=some a from ha,o8]
  .simp only[I9];rfl
 .simp only[J3 ha,o7,F8,ha,o8];rw[show V4 (oH r.2.2.2.2.2.1).2.1 (V8 (i:Int))=some a from ha,o8]
 .simp only[I9];rfl
def nD(s:A7):Int:=o9 s.2.2.2.1
def dl(n:Int)(rs:List aj)(d:Int):d5R:=rs.flatMap λr=>l9 (x8 r.2.1 d) (GL n r) []
def P8(s:A7)(d:Int):d5R:=l9 (inD (nD s) d) (EZ (dl (nD s) s.2.2.2.2 d)) []
theorem WI(h:SmS s)(hr:r∈s.2.2.2.2)(n:Int):(GL n r).length<=100:=by obtain⟨_,h1,h2⟩:=h.ro r hr;have a1:=IP r.2.2.2.2.2.1;have a2:=IP r.2.2.2.2.2.2.1;have b1:=aI (inD n) (oH r.2.2.2.2.2.1).2.1;have b2:=aI (inD n) (oH r.2.2.2.2.2.2.1).2.1;unfold GL;rw[F5];omega
theorem a9E(n:Int)(rs:List aj)(r:aj)(d:Int):dl n (rs++[r]) d=dl n rs d++l9 (x8 r.2.1 d) (GL n r) []:=by unfold dl;rw[List.flatMap_append];simp
theorem a9D(n:Int)(rs:List aj)(r:aj)(d:Int):dl n (r::rs) d=l9 (x8 r.2.1 d) (GL n r) []++dl n rs d:=rfl
theorem a6Z{s:A7}(h:SmS s)(n d:Int):∀(rs:List aj),(∀r∈rs,r∈s.2.2.2.2)->(dl n rs d).length<=100*rs.length
 |[],_=>by simp[dl]|r::rs,hm=>by
  have ih:=a6Z h n d rs λr hr=>hm r (by simp[hr]);have h1:=WI h (hm r x9) n;rw[a9D,F5,I5];cases x8 r.2.1 d
  .simp only[o6,dB];omega
  .simp only[o7];omega
variable {d:Int}{x:Int}
theorem b4b{n:Int}{rs:List aj} :x∈dl n rs d↔∃r∈rs,r.2.1=d/\x∈GL n r:=by
 unfold dl;rw[List.mem_flatMap];constructor
 .rintro⟨r,hr,hx⟩;cases hq:x8 r.2.1 d<;>rw[hq]at hx
  .simp at hx
  .exact⟨r,hr,P7.1 hq,hx⟩
 .rintro⟨r,hr,hq,hx⟩;exact⟨r,hr,by rw[O5 hq];exact hx⟩
theorem b5v{n:Int}(h:x∈GL n r):0<=x/\x<n:=by
 have key:inD n x=true:=by unfold GL at h;rcases D5.1 h with h|h<;>exact(O0.1 h).2
 unfold inD at key;cases h0:L6 0 x<;>rw[h0]at key
 .cases key
 .exact⟨jr.1 h0,jK.1 key⟩
theorem CW(s:A7)(d:Int):SI (P8 s d):=by
 unfold P8;cases inD (nD s) d
 .exact List.Pairwise.nil
 .exact Vl _
theorem uF(h:x∈P8 s d):0<=x/\x<nD s:=by
 unfold P8 at h;cases hq:inD (nD s) d<;>rw[hq]at h
 .simp at h
 .obtain⟨r,_,_,hx⟩:=b4b.1 ((rf _ _).1 h);exact b5v hx
theorem a4Z(s:A7)(l b:d5R)(hl:l.length<=1000)(hb:b.length<=100000)
  (hin:∀(i:Nat) (a:Int) (acc:d5R),l[i]? =some a->i<=1000000->f (acc,(i:Int))=o5 (GR s a) λx=>l9 x (o5 (lV acc a) λx=>some (.inl (x,C9 .i64 (i:Int) 1))) (some (.inl (acc,C9 .i64 (i:Int) 1))))
  (hend:∀acc,f (acc,(l.length:Int))=some (.inr acc)):ay f (b,0)=some (DY (l.filter (inD (nD s))) b):=by
 have key:=nO l (λ(acc:d5R) x=>l9 (inD (nD s) x) (ins x acc) acc) (λb i=>(b,i)) (λb=>b) (λi acc=>acc.length<=100000+i) (f:=f) (b:=b) l7 l7 ?_ ?_
 .have hf:∀(l b:d5R),l.foldl (λ(acc:d5R) x=>l9 (inD (nD s) x) (ins x acc) acc) b=DY (l.filter (inD (nD s))) b:=by
   intro l;induction l with
   |nil=>intro b;rfl|cons a l ih=>intro b;rw[O9,ih,dJ];cases inD (nD s) a<;>rfl
  rw[key.1,hf]
 .intro i a acc ha hi hI;have hlt:=(X7.1 ha).1;have h2:=tK a acc;rw[hin i a acc ha hi,a7S,o8,Y3 l7,CS _ l7];change l9 (inD (nD s) a) _ _=_/\_;cases inD (nD s) a
  .exact⟨rfl,by show acc.length<=_;omega⟩
  .exact⟨rfl,by show(ins a acc).length<=_;omega⟩
 .intro acc hI;rw[hend]
theorem Tq(h:SmS s)(d:Int):Ak s d=some (P8 s d):=by
 have hnr:=h.nr;unfold Ak P8;rw[a7S,o8];change l9 (F7 (inD (nD s) d)) _ _=_;cases inD (nD s) d
 .rfl
 simp only[E5,o6,o7];refine dD s.2.2.2.2 (λ(acc:d5R) r=>l9 (x8 r.2.1 d) (DY (GL (nD s) r) acc) acc) (λb i=>(b,i)) (λb=>b) (λi acc=>acc.length<=100*i) [] l7 x9 (λi r acc ha hi hI=>?_) (λacc hI=>?_) (λh2=>?_)
 .have hlt:=(X7.1 ha).1;obtain⟨_,h1,h2⟩:=h.ro r (kK ha);have a1:=IP r.2.2.2.2.2.1;have a2:=IP r.2.2.2.2.2.2.1;have hlen:=Dh (GL (nD s) r) acc;have hrl:=WI h (kK ha) (nD s);simp only[J3 ha,o7,F8,ha,o8];rw[Y3 l7];cases x8 r.2.1 d
  .exact⟨rfl,by show acc.length<=_;omega⟩
  simp only[E5,o6,o7,En (show r.2.2.2.2.2.1.length<=500000 by omega),En (show r.2.2.2.2.2.2.1.length<=500000 by omega),o8];refine⟨?_,by show(DY (GL (nD s) r) acc).length<=_;omega⟩;refine X8 (a4Z s (oH r.2.2.2.2.2.1).2.1 acc l7 l7 (λi a acc ha hi=>?_) (λacc=>?_)) ?_
  rotate_left 2
  .rw[o8];have hl2:=Dh ((oH r.2.2.2.2.2.1).2.1.filter (inD (nD s))) acc;have hl3:=aI (inD (nD s)) (oH r.2.2.2.2.2.1).2.1;refine X8 (a4Z s (oH r.2.2.2.2.2.2.1).2.1 _ l7 l7 (λi a acc ha hi=>?_) (λacc=>?_)) ?_
   rotate_left 2
   .rw[o8];unfold GL;rw[Ky]
   .simp only[J3 ha,o7,F8,ha,o8];rw[show V4 (oH r.2.2.2.2.2.2.1).2.1 (V8 (i:Int))=some a from ha];rfl
   .simp only[I9];rfl
  .simp only[J3 ha,o7,F8,ha,o8];rw[show V4 (oH r.2.2.2.2.2.1).2.1 (V8 (i:Int))=some a from ha];rfl
  .simp only[I9];rfl
 .simp only[I9];rfl
 .have hf:∀(l:List aj) (b:d5R),l.foldl (λ(acc:d5R) r=>l9 (x8 r.2.1 d) (DY (GL (nD s) r) acc) acc) b=DY (dl (nD s) l d) b:=by
   intro l;induction l with
   |nil=>intro b;rfl|cons a l ih=>intro b;rw[O9,ih,a9D,Ky];cases x8 a.2.1 d<;>rfl
  rw[hf];rfl
theorem Yu(m k:Nat)(f:Nat->α)(v:α):((List.range m).map f).set k v=(List.range m).map λd=>if d=k then v else f d:=by
 apply bK;intro i;rw[Z5,V7,V7,L9,bn];by_cases hi:i<m
 .rw[bZ hi];by_cases h:k=i
  .subst h;simp[hi]
  .simp[h,Ne.symm h]
 .have:(List.range m)[i]? =none:=by simp;omega
  rw[this];by_cases h:k=i
  .subst h;simp[hi]
  .simp[h]
def YV(m:Nat)(rs:List aj):List d5R:=(List.range m).map λ(d:Nat)=>dl (m:Int) rs (d:Int)
theorem Vm{l:d5R}(hl:l.length<=1000000):DL l=some (EZ l):=Kr hl
theorem Ic(m:Nat)(f:Nat->α)(h:k<m):((List.range m).map f)[k]? =some (f k):=by rw[V7,bZ h];rfl
theorem MS(h:SmS s):wJ s=some ((List.range s.2.2.2.1.length).map λ(d:Nat)=>P8 s (d:Int)):=by
 have hnr:=h.nr;have hnd:=h.nd;unfold wJ;generalize hm:s.2.2.2.1.length=m at*;have hn:nD s=(m:Int):=by unfold nD o9;rw[hm]
 rw[show o9 s.2.2.2.1=(m:Int)from hn,show pR (m:Int) ([]:d5R)=some (YV m []) by unfold pR YV dl;rw[if_pos l7];simp[List.map_const'],o8];refine dD s.2.2.2.2 (λ(b:List d5R) r=>l9 (inD m r.2.1) (b.set r.2.1.toNat ((b.getD r.2.1.toNat [])++GL m r)) b) (λb i=>(b,i)) (λb=>b) (λi b=>b=YV m (s.2.2.2.2.take i)) (YV m []) l7 x9 (λi r b ha hi hI=>?_) (λb hI=>?_) (λh2=>?_)
 .have hlt:=(X7.1 ha).1;obtain⟨_,h1,h2⟩:=h.ro r (kK ha);have hst:s.2.2.2.2.take (i+1)=s.2.2.2.2.take i++[r]:=by
   rw[U7 hlt,(X7.1 ha).2]
  have hlb:o9 b=(m:Int):=by rw[hI];simp[o9,YV]
  obtain⟨rd,hrd⟩:∃rd:Int,r.2.1=rd:=⟨r.2.1,rfl⟩;simp only[J3 ha,o7,F8,ha,o8,hlb,hrd];rw[Y3 l7,hst];by_cases hd:0<=rd/\rd<(m:Int)
  .obtain⟨d0,d1⟩:=hd;have hk:rd.toNat<m:=l7;have hkk:((rd.toNat:Nat):Int)=rd:=l7;have hg:b[rd.toNat]? =some (dl m (s.2.2.2.2.take i) rd):=by rw[hI];unfold YV;rw[Ic m _ hk,hkk]
   have hll:=a6Z h m rd (s.2.2.2.2.take i) λr hr=>List.mem_of_mem_take hr;have hrl:=WI h (kK ha) m;have htl:(s.2.2.2.2.take i).length<=60:=by simp;omega
   rw[Y5 d0,U6 d1,show inb rd (m:Int)=true by unfold inb;simp;omega,show V4 b (V8 rd)=some (dl m (s.2.2.2.2.take i) rd)from hg,VL _ h1 h2];simp only[o7,o8];rw[uq l7,show PN (V8 rd) (V8 rd)=true by simp[PN]];simp only[o7,o8];have hin:inD m rd=true:=by unfold inD;rw[Y5 d0,U6 d1];rfl
   rw[hin,show b.getD rd.toNat []=dl m (s.2.2.2.2.take i) rd by rw[uZ,hg];rfl];refine⟨rfl,?_⟩;show b.set rd.toNat _=_;rw[hI];unfold YV;rw[Yu];apply cu;intro d hdm;rw[a9E,hrd];by_cases hq:d=rd.toNat
   .subst hq;rw[if_pos rfl,hkk,O5 rfl];rfl
   .rw[if_neg hq,O8 l7];simp
  .have hin:inD m rd=false:=by
    unfold inD;by_cases d0:0<=rd
    .rw[Y5 d0,N7 l7];rfl
    .rw[Y9 l7];rfl
   rw[hin];refine⟨?_,?_⟩
   .unfold inD at hin;cases q0:L6 0 rd
    .rfl
    .rw[q0]at hin;simp only[o7]at hin ⊢;rw[hin];rfl
   .show b=_;rw[hI];unfold YV;apply cu;intro d hdm;have:=U5.1 hdm;rw[a9E,hrd,O8 l7];simp
 .simp only[I9];rfl
 .rw[aS]at h2;rw[h2];generalize hA:YV m s.2.2.2.2=A;have hAl:o9 A=(m:Int):=by rw[←hA];simp[o9,YV]
  refine dD (List.range m) (λ(b:List d5R) d=>b.set d (EZ (b.getD d []))) (λb i=>(b,i)) (λb=>b) (λi b=>b=(List.range m).map λ(d:Nat)=>if d<i then EZ (dl m s.2.2.2.2 (d:Int))else dl m s.2.2.2.2 (d:Int)) A Y8 (by rw[←hA];unfold YV;simp) (λi d b ha hi hI=>?_) (λb hI=>?_) (λh3=>?_)
  .have hlt:=(X7.1 ha).1;simp only[bn]at hlt;have hdi:d=i:=by rw[bZ hlt]at ha;exact(P5 ha).symm
   subst hdi;have hlb:o9 b=(m:Int):=by rw[hI];simp[o9]
   have hg:b[d]? =some (dl m s.2.2.2.2 (d:Int)):=by rw[hI,Ic m _ hlt,if_neg l7]
   have hll:=a6Z h m d s.2.2.2.2 λr hr=>hr;simp only[hAl,hlb];rw[U6 (show(d:Int)<(m:Int) by omega),show inb (d:Int) (m:Int)=true by unfold inb;simp;omega,show V4 b (V8 (d:Int))=some (dl m s.2.2.2.2 (d:Int))from hg];simp only[o7,o8];rw[Vm l7,show PN (V8 (d:Int)) (V8 (d:Int))=true by simp[PN],Y3 l7];simp only[o7,o8];rw[show b.getD d []=dl m s.2.2.2.2 (d:Int) by rw[uZ,hg];rfl];refine⟨rfl,?_⟩;rw[hI,Yu];apply cu;intro e he;by_cases hq:e=d
   .subst hq;rw[if_pos rfl,if_pos l7]
   .rw[if_neg hq];by_cases hq2:e<d
    .rw[if_pos hq2,if_pos l7]
    .rw[if_neg hq2,if_neg l7]
  .simp only[bn,hAl,N7 (show(m:Int)<=(m:Int) by omega)];rfl
  .rw[h3];apply congrArg some;apply cu;intro d hd;have:=U5.1 hd;simp only[bn];rw[if_pos this];unfold P8;rw[hn,show inD (m:Int) (d:Int)=true by unfold inD;rw[Y5 l7,U6 l7];rfl];rfl
def Rch(D:Int->d5R)(d:Int)(L:d5R):Prop:=SI L/\(∀x∈D d,x∈L)/\(∀x∈L,∀y∈D x,y∈L)/\∀C:Int->Prop,(∀x∈D d,C x)->(∀x,C x->∀y∈D x,C y)->∀x∈L,C x
theorem Rch.unique{D:Int->d5R}{L M:d5R}(h:Rch D d L)(k:Rch D d M):L=M:=
 a8p h.1 k.1 λx=>⟨λhx=>h.2.2.2 (λy=>y∈M) k.2.1 k.2.2.1 x hx,λhx=>k.2.2.2 (λy=>y∈L) h.2.1 h.2.2.1 x hx⟩
theorem Vp:∀{B A:d5R},SI A->SI B->(∀x∈A,x∈B)->A=B\/A.length<B.length
 |[],A,_,_,h=>by
  cases A with
  |nil=>exact .inl rfl|cons a A=>exact absurd (h a x9) x9
 |b::B,[],_,_,_=> .inr x9|b::B,a::A,hA,hB,h=>by
  have hA' :=Z8.1 hA;have hB' :=Z8.1 hB;rcases D6.1 (h a x9)with hab|hab
  .subst hab;rcases Vp (B:=B) (A:=A) hA'.2 hB'.2 (λx hx=>by
    rcases D6.1 (h x (by simp[hx]))with h1|h1
    .have:=hA'.1 x hx;omega
    .exact h1)with h1|h1
   .exact .inl (by rw[h1])
   .exact .inr (by simp only[I5];omega)
  .have hab2:=hB'.1 a hab;rcases Vp (B:=B) (A:=a::A) hA hB'.2 (λx hx=>by
    rcases D6.1 (h x hx)with h1|h1
    .rcases D6.1 hx with h2|h2
     .omega
     .have:=hA'.1 x h2;omega
    .exact h1)with h1|h1
   .exact .inr (by rw[h1];simp)
   .exact .inr (by simp only[I5]at*;omega)
def MH(D:Int->d5R)(L:d5R):d5R:=L.foldl (λacc x=>DY (D x) acc) L
theorem MI(D:Int->d5R)(x:Int):∀(l acc:d5R),x∈l.foldl (λacc x=>DY (D x) acc) acc↔x∈acc\/∃y∈l,x∈D y
 |[],acc=>by simp|a::l,acc=>by
  rw[O9,MI D x l,UA];constructor
  .rintro((h|h)|⟨y,hy,h⟩)
   .exact .inr ⟨a,x9,h⟩
   .exact .inl h
   .exact .inr ⟨y,by simp[hy],h⟩
  .rintro(h|⟨y,hy,h⟩)
   .exact .inl (.inr h)
   .rcases D6.1 hy with rfl|hy
    .exact .inl (.inl h)
    .exact .inr ⟨y,hy,h⟩
theorem b0a(D:Int->d5R):∀(l:d5R) {acc:d5R},SI acc->SI (l.foldl (λacc x=>DY (D x) acc) acc)
 |[],_,h=>h|a::l,_,h=>by rw[O9];exact b0a D l (YE _ h)
theorem t_(D:Int->d5R){L:d5R}(h:SI L):SI (MH D L):=b0a D L h
def itS(D:Int->d5R)(d:Int):Nat->d5R
 |0=>D d|k+1=>MH D (itS D d k)
section
variable {D:Int->d5R} {n:Nat} (hsi:∀x,SI (D x)) (hin:∀x,∀y∈D x,0<=y/\y<(n:Int))
include hsi hin
theorem a1Q(d:Int):∀k,SI (itS D d k)
 |0=>hsi d|k+1=>t_ D (a1Q d k)
theorem a9N(d:Int):∀k,∀x∈itS D d k,0<=x/\x<(n:Int)
 |0,x,hx=>hin d x hx|k+1,x,hx=>by
  rcases(MI D x _ _).1 hx with h|⟨y,_,h⟩
  .exact a9N d k x h
  .exact hin y x h
theorem a9M(d:Int)(k:Nat):MH D (itS D d k)=itS D d k\/(itS D d k).length<(MH D (itS D d k)).length:=by
 rcases Vp (a1Q hsi hin d k) (t_ D (a1Q hsi hin d k)) (λx hx=>(MI D x _ _).2 (.inl hx))with h|h
 .exact .inl h.symm
 .exact .inr h
theorem a1R(d:Int):∀k,MH D (itS D d k)=itS D d k\/k<(MH D (itS D d k)).length
 |0=>by
  rcases a9M hsi hin d 0 with h|h
  .exact .inl h
  .exact .inr l7
 |k+1=>by
  rcases a1R d k with h|h
  .exact .inl (by show MH D (MH D (itS D d k))=MH D (itS D d k);rw[h,h])
  .rcases a9M hsi hin d (k+1)with h2|h2
   .exact .inl h2
   .exact .inr (by have:(itS D d (k+1)).length=(MH D (itS D d k)).length:=rfl;omega)
theorem c1s(d:Int):Rch D d (itS D d n):=by
 have hst:MH D (itS D d n)=itS D d n:=by
  rcases a1R hsi hin d n with h|h
  .exact h
  .have:=TJ n (t_ D (a1Q hsi hin d n)) (a9N hsi hin d (n+1));omega
 refine⟨a1Q hsi hin d n,?_,?_,?_⟩
 .intro x hx;have:∀k,x∈itS D d k:=by
   intro k;induction k with
   |zero=>exact hx|succ k ih=>exact(MI D x _ _).2 (.inl ih)
  exact this n
 .intro x hx y hy;rw[←hst];exact(MI D y _ _).2 (.inr ⟨x,hx,hy⟩)
 .intro C h1 h2;have:∀k,∀x∈itS D d k,C x:=by
   intro k;induction k with
   |zero=>exact h1|succ k ih=>
    intro x hx;rcases(MI D x _ _).1 hx with h|⟨y,hy,h⟩
    .exact ih x h
    .exact h2 y (ih y hy) x h
  exact this n
end
def bI(s:A7)(d:Int):d5R:=itS (P8 s) d s.2.2.2.1.length
theorem xm(s:A7)(d:Int):Rch (P8 s) d (bI s d):=
 c1s (n:=s.2.2.2.1.length) (CW s) (λx y hy=>uF hy) d
theorem zK(h:x∈bI s d):0<=x/\x<nD s:=a9N (n:=s.2.2.2.1.length) (CW s) (λx y hy=>uF hy) d _ x h
theorem Nc(h:SmS s)(d:Int):(P8 s d).length<=14:=
 bC (TJ s.2.2.2.1.length (CW s d) (λx hx=>uF hx)) h.nd
theorem Fv(h:SmS s){l:d5R}(hs:SI l)(hi:∀x∈l,0<=x/\x<nD s):l.length<=14:=bC (TJ s.2.2.2.1.length hs hi) h.nd
theorem Jt(h:SmS s)(d:Int):sF s d=some (bI s d):=by
 have hnd:=h.nd;unfold sF;rw[Tq h,o8];have hsi:=CW s;have hin:∀x,∀y∈P8 s x,0<=y/\y<((s.2.2.2.1.length:Nat):Int):=λx y hy=>uF hy;refine dD s.2.2.2.1 (λ(b:d5R) (_:jm)=>MH (P8 s) b) (λb i=>(b,i)) (λb=>b) (λi b=>b=itS (P8 s) d i) (P8 s d) l7 rfl (λi f b ha hi hI=>?_) (λb hI=>?_) (λh2=>?_)
 .simp only[J3 ha,o7];refine⟨?_,by show MH _ b=_;rw[hI];rfl⟩;have hb1:SI b:=by rw[hI];exact a1Q hsi hin d i
  have hb2:∀x∈b,0<=x/\x<nD s:=by rw[hI];exact a9N hsi hin d i
  have hbl:=Fv h hb1 hb2;rw[Y3 l7];refine dD b (λ(acc:d5R) x=>DY (P8 s x) acc) (λb i=>(b,i)) (λb=>b) (λi acc=>SI acc/\∀x∈acc,0<=x/\x<nD s) b l7 ⟨hb1,hb2⟩ (λj x acc hx hj hJ=>?_) (λacc hJ=>?_) (λh3=>?_)
  .have hal:=Fv h hJ.1 hJ.2;have hdl:=Nc h x;simp only[J3 hx,o7,F8,hx,o8,Tq h x];rw[Y3 l7];refine⟨?_,YE _ hJ.1,λy hy=>?_⟩
   .refine dD (P8 s x) (λ(acc:d5R) y=>ins y acc) (λb i=>(b,i)) (λb=>b) (λi a=>a.length<=acc.length+i) acc l7 l7 (λk y a hy hk hK=>?_) (λa hK=>?_) (λh4=>?_)
    .have hlt:=(X7.1 hy).1;have hli:=tK y a;simp only[J3 hy,o7,F8,hy,o8];rw[show V4 (P8 s x) (V8 (k:Int))=some y from hy,o8,CS _ l7,o8,Y3 l7];exact⟨rfl,by show(ins y a).length<=_;omega⟩
    .simp only[I9];rfl
    .rfl
   .rcases(UA y _ _).1 hy with h4|h4
    .exact uF h4
    .exact hJ.2 y h4
  .simp only[I9];rfl
  .rfl
 .simp only[I9];rfl
 .rw[h2];rfl
def mk(S:d5V)(x:Int):Bool:=if 0<=x then S.getD x.toNat false else false
def unm(S:d5V):Nat:=S.count false
def rG(b:d5V×d5R)(e:Int):d5V×d5R:=l9 (mk b.1 e) b (b.1.set e.toNat true,b.2++[e])
variable {S:d5V}
theorem a7B(h0:0<=x)(h1:x<o9 S):S[x.toNat]? =some (mk S x):=by
 unfold mk;rw[if_pos h0,uZ];have:x.toNat<S.length:=by simp only[o9]at h1;omega
 rw[bQ this];rfl
theorem l_{e:Int}(h0:0<=e)(h1:e<o9 S)(x:Int):mk (S.set e.toNat true) x=l9 (x8 x e) true (mk S x):=by
 unfold mk;have hl:e.toNat<S.length:=by simp only[o9]at h1;omega
 by_cases hx:0<=x
 .rw[if_pos hx,if_pos hx,uZ,uZ,Z5];by_cases hq:x=e
  .subst hq;rw[if_pos rfl,if_pos hl,O5 rfl];rfl
  .rw[if_neg l7,O8 hq];rfl
 .rw[if_neg hx,if_neg hx,O8 l7];rfl
theorem b9Q{e:Int}(h0:0<=e)(h1:e<o9 S)(hm:mk S e=false):unm (S.set e.toNat true)+1=unm S:=by
 have hl:e.toNat<S.length:=by simp only[o9]at h1;omega
 have hg:=a7B h0 h1;rw[hm,bQ hl]at hg;have hg' :S[e.toNat]=false:=P5 hg;unfold unm;rw[List.count_set hl,hg'];have:0<S.count false:=List.count_pos_iff.2 (by rw[←hg'];exact I4 hl);simp;omega
structure RInv (n:Nat) (S:d5V) (Q:d5R) (l:d5R) (S' :d5V) (Q' :d5R):Prop where
 len:S'.length=n
 seen:∀x:Int,0<=x->x<(n:Int)->(mk S' x=true↔mk S x=true\/x∈l)
 sum:Q'.length+unm S' =Q.length+unm S
 le:unm S' <=unm S
 old:∀x∈Q,x∈Q'
 new:∀x∈Q',x∈Q\/x∈l
 got:∀x,mk S' x=true->mk S x=true\/x∈Q'
theorem b5G{n:Nat} :∀(l:d5R) (S:d5V) (Q:d5R),S.length=n->(∀x∈l,0<=x/\x<(n:Int))->RInv n S Q l (l.foldl rG (S,Q)).1 (l.foldl rG (S,Q)).2
 |[],S,Q,hl,_=>⟨hl,λx _ _=>by simp,rfl,E9 _,λx hx=>hx,λx hx=> .inl hx,λx hx=> .inl hx⟩|e::l,S,Q,hl,hi=>by
  have he:=hi e x9;have hel:e<o9 S:=by simp only[o9];omega
  rw[O9];cases hm:mk S e with
  |true=>
   rw[show rG (S,Q) e=(S,Q) by unfold rG;rw[hm];rfl];have ih:=b5G l S Q hl λx hx=>hi x (by simp[hx]);refine⟨ih.len,λx h0 h1=>?_,ih.sum,ih.le,ih.old,λx hx=>?_,ih.got⟩
   .rw[ih.seen x h0 h1,D6];constructor
    .rintro(h|h)
     .exact .inl h
     .exact .inr (.inr h)
    .rintro(h|h|h)
     .exact .inl h
     .subst h;exact .inl hm
     .exact .inr h
   .rcases ih.new x hx with h|h
    .exact .inl h
    .exact .inr (by simp[h])
  |false=>
   rw[show rG (S,Q) e=(S.set e.toNat true,Q++[e]) by unfold rG;rw[hm];rfl];have ih:=b5G l (S.set e.toNat true) (Q++[e]) (by simp[hl]) λx hx=>hi x (by simp[hx]);have hu:=b9Q he.1 hel hm;refine⟨ih.len,λx h0 h1=>?_,?_,?_,λx hx=>ih.old x (by simp[hx]),λx hx=>?_,λx hx=>?_⟩
   .rw[ih.seen x h0 h1,l_ he.1 hel,D6];cases hq:x8 x e
    .rw[zh]at hq;simp[hq]
    .rw[P7]at hq;simp[hq]
   .have:=ih.sum;simp only[F5,I5,dB]at this;omega
   .have:=ih.le;omega
   .rcases ih.new x hx with h|h
    .rcases D5.1 h with h|h
     .exact .inl h
     .exact .inr (by simp at h;simp[h])
    .exact .inr (by simp[h])
   .rcases ih.got x hx with h|h
    .rw[l_ he.1 hel]at h;cases hq:x8 x e
     .rw[hq]at h;exact .inl h
     .rw[P7]at hq;subst hq;exact .inr (ih.old _ x9)
    .exact .inr h
def Xw(S:d5V):d5R:=((List.range S.length).filter λi=>S.getD i false).map λ(i:Nat)=>(i:Int)
theorem QK(x:Int):x∈Xw S↔mk S x=true:=by
 unfold Xw mk;rw[X5];constructor
 .rintro⟨i,hi,rfl⟩;rw[if_pos l7];exact(O0.1 hi).2
 .intro h;split at h
  .refine⟨x.toNat,O0.2 ⟨U5.2 ?_,h⟩,l7⟩;rw[uZ]at h;cases hg:S[x.toNat]? with
   |none=>rw[hg]at h;cases h|some b=>exact(X7.1 hg).1
  .cases h
theorem b3V(S:d5V):SI (Xw S):=by unfold Xw;refine List.Pairwise.map _ (R:=(·< ·)) (λa b h=>by omega) (List.Pairwise.filter _ rO)
theorem a7A(S:d5V)(hS:S.length<=100)
  (hin:∀(i:Nat) (a:Bool) (acc:d5R),S[i]? =some a->i<=1000000->acc.length<=i->f (acc,(i:Int))=l9 a (o5 (bV acc [(i:Int)]) λx=>some (.inl (x,C9 .i64 (i:Int) 1))) (some (.inl (acc,C9 .i64 (i:Int) 1))))
  (hend:∀acc,f (acc,(S.length:Int))=some (.inr acc)):ay f ([],0)=some (Xw S):=by
 have mk2:∀i,i<=S.length->((List.range i).filter λi=>S.getD i false).length<=i:=λi _=>by have:=aI (λi=>S.getD i false) (List.range i);simpa using this
 obtain⟨e,h1,h2⟩:=iG (f:=f) (s:=([],0)) (λx=>∃i:Nat,x=(((List.range i).filter λi=>S.getD i false).map λ(i:Nat)=>(i:Int),(i:Int))/\i<=S.length) (λe=>e=Xw S) (λx=>S.length -x.2.toNat) ⟨0,rfl,l7⟩ Y8 (by
  rintro x ⟨i,rfl,hi⟩;by_cases h:i<S.length
  .have e:=bQ h;have hst:(List.range (i+1)).filter (λi=>S.getD i false)=(List.range i).filter (λi=>S.getD i false)++l9 S[i] [i] []:=by
    rw[W9,mO];congr 1;rw[dJ,uZ,e];cases S[i]<;>rfl
   have hl:=mk2 i hi;refine .inl ⟨(((List.range (i+1)).filter λi=>S.getD i false).map λ(i:Nat)=>(i:Int),((i+1:Nat):Int)),?_,⟨i+1,rfl,h⟩,by simp;omega⟩;rw[hin i _ _ e l7 (by simpa using hl),Y3 l7,hst,dC,fK _ (by rw[L9];omega)];cases S[i]
   .simp
   .rfl
  .have:i=S.length:=l7;subst this;exact .inr ⟨_,hend _,rfl⟩)
 rw[h1,h2]
variable {n:Nat}
theorem M_{D:Int->d5R}(hn:n<=14)(hsi:∀x,SI (D x))(hin:∀x,∀y∈D x,0<=y/\y<(n:Int))(h0:0<=d)(h1:d<(n:Int)):
  ∃L,zO ((List.range n).map λ(x:Nat)=>D (x:Int)) d=some L/\Rch D d L:=by
 have hA:o9 ((List.range n).map λ(x:Nat)=>D (x:Int))=(n:Int):=by simp[o9]
 have hget:∀x:Int,0<=x->x<n->G6 ((List.range n).map λ(x:Nat)=>D (x:Int)) x=some (D x):=λx a b=>by
  have:x.toNat<n:=l7;unfold G6
  rw[if_pos a,Ic n _ this,ax a]
 unfold zO;generalize (List.range n).map (λ(x:Nat)=>D (x:Int))=A at*;rw[hA,show pR (n:Int) false=some (List.replicate n false) by unfold pR;rw[if_pos l7];simp,o8];have hD14:∀x,(D x).length<=14:=λx=>bC (TJ n (hsi x) (hin x)) hn;have key:=iG (f:=λ(x:d5V×d5R)=>l9 (D9 0 (o9 x.2)) (o5 (G6 x.2 0) λ(x_1:Int)=>o5 (V4 x.2 (V8 0)) λ(x_2:Int)=>l9 (uf 1 (o9 x.2) (o9 x.2)) (o5 (G6 A x_2) λ(x_3:d5R)=>
   o5 (ay (λ(x:d5V×d5R×Int)=>l9 (D9 x.2.2 (o9 x_3)) (o5 (G6 x_3 x.2.2) λ(x_4:Int)=>o5 (G6 x.1 x_4) λ(x_5:Bool)=>o5 (V4 x.1 (V8 x_4)) λ(x_6:Bool)=>
     l9 (F7 x_6) (o5 (G6 x.1 x_4) λ(x_7:Bool)=>o5 (V4 x.1 (V8 x_4)) λ(x_8:Bool)=>o5 (bV x.2.1 [x_4]) λ(x_9:d5R)=>some (.inl (aU x.1 (V8 x_4) true,x_9,C9 .i64 x.2.2 1)))
      (some (.inl (x.1,x.2.1,C9 .i64 x.2.2 1)))) (some (.inr (x.1,x.2.1)))) (x.1,qj x.2 (V8 1) (V8 (o9 x.2)),0)) λ(y:d5V×d5R)=>some (.inl y)) none) (some (.inr x.1)))
  (s:=(List.replicate n false,[d]))
  (λx=>x.1.length=n/\(∀q∈x.2,0<=q/\q<(n:Int))/\x.2.length+unm x.1<=n+1/\(∀q∈x.2,q=d\/mk x.1 q=true)/\(∀v,v=d\/mk x.1 v=true->v∈x.2\/∀y∈D v,mk x.1 y=true)/\
   (∀C:Int->Prop,(∀x∈D d,C x)->(∀x,C x->∀y∈D x,C y)->∀v,mk x.1 v=true->C v)/\(∀v,mk x.1 v=true->0<=v/\v<(n:Int)))
  (λS=>S.length=n/\Rch D d (Xw S)) (λx=>2*unm x.1+x.2.length) ?_ ?_ ?_
 .obtain⟨S,k1,k2,k3⟩:=key;refine⟨Xw S,?_,k3⟩;refine(lN k1 _).trans ?_;rw[gU];refine a7A S l7 (λi a acc ha hi hacc=>?_) (λacc=>?_)
  .simp only[J3 ha,o7,F8,ha,o8];rw[show V4 S (V8 (i:Int))=some a from ha,o8]
  .simp only[I9];rfl
 .have hnone:∀v,mk (List.replicate n false) v=false:=λv=>by
   unfold mk;split
   .rw[uZ,jo];split<;>rfl
   .rfl
  refine⟨x9,λq hq=>by simp at hq;omega,?_,λq hq=> .inl (by simpa using hq),λv hv=>?_,λC _ _ v hv=>(by rw[hnone]at hv;cases hv),λv hv=>(by rw[hnone]at hv;cases hv)⟩
  .simp[unm,List.count_replicate];omega
  .rcases hv with rfl|hv
   .exact .inl x9
   .rw[hnone]at hv;cases hv
 .simp[unm,List.count_replicate];omega
 .rintro⟨S,Q⟩ ⟨i1,i2,i3,i4,i5,i6,i7⟩;simp only at i1 i2 i3 i4 i5 i6 i7;cases Q with
  |nil=>
   right;refine⟨S,rfl,i1,b3V S,λx hx=>?_,λx hx y hy=>?_,λC c1 c2 x hx=>i6 C c1 c2 x ((QK x).1 hx)⟩
   .rcases i5 d (.inl rfl)with h|h
    .cases h
    .exact(QK x).2 (h x hx)
   .rcases i5 x (.inr ((QK x).1 hx))with h|h
    .cases h
    .exact(QK y).2 (h y hy)
  |cons q Q=>
   left;have hq:=i2 q x9;have hfold:=b5G (n:=n) (D q) S Q i1 (λx hx=>hin q x hx);refine⟨(D q).foldl rG (S,Q),?_,?_,?_⟩
   .simp only[U6 (show(0:Int)<o9 (q::Q) by simp[o9]<;>omega),o7,show G6 (q::Q) 0=some q from rfl,show V4 (q::Q) (V8 0)=some q from rfl,o8,hget q hq.1 hq.2,
     show uf 1 (o9 (q::Q)) (o9 (q::Q))=true by simp[uf,o9]<;>omega,show qj (q::Q) (V8 1) (V8 (o9 (q::Q)))=Q by simp[qj,V8,o9]]
    refine dD (D q) rG (λb i=>(b.1,b.2,i)) (λb=>b) (λi b=>b.1.length=n/\b.2.length<=100+i) (S,Q) (by have:=hD14 q;omega) ⟨i1,by simp at i3;show Q.length<=100+0;omega⟩ (λi e b he hi hI=>?_) (λb hI=>?_) (λh2=>rfl)
    .obtain⟨S1,Q1⟩:=b;simp only at hI;have hee:=hin q e (kK he);have hlt:=(X7.1 he).1;have hdl:=hD14 q;have hg:=a7B (S:=S1) hee.1 (by simp only[o9];omega);have hla:G6 S1 e=some (mk S1 e):=by unfold G6;rw[if_pos hee.1];exact hg
     have hlg:V4 S1 (V8 e)=some (mk S1 e):=hg;simp only[J3 he,o7,F8 (D q),he,o8,hla,hlg];rw[Y3 l7,fK _ l7];unfold rG;simp only;cases mk S1 e
     .exact⟨rfl,by simp[hI.1],by simp<;>omega⟩
     .exact⟨rfl,hI.1,by show Q1.length<=_;omega⟩
    .simp only[I9];rfl
   .obtain⟨j1,j2,j3,j4,j5,j6,j7⟩:=hfold;generalize (D q).foldl rG (S,Q)=b at*;obtain⟨S',Q'⟩:=b;simp only at j1 j2 j3 j4 j5 j6 j7 ⊢;have hrange:∀v,mk S' v=true->0<=v/\v<(n:Int):=λv hv=>by
     rcases j7 v hv with h|h
     .exact i7 v h
     .rcases j6 v h with h|h
      .exact i2 v (by simp[h])
      .exact hin q v h
    refine⟨j1,λx hx=>?_,?_,λx hx=>?_,λv hv=>?_,λC c1 c2 v hv=>?_,hrange⟩
    .rcases j6 x hx with h|h
     .exact i2 x (by simp[h])
     .exact hin q x h
    .simp only[I5]at i3;omega
    .rcases j6 x hx with h|h
     .rcases i4 x (by simp[h])with h2|h2
      .exact .inl h2
      .have hr:=i7 x h2;exact .inr ((j2 x hr.1 hr.2).2 (.inl h2))
     .have hr:=hin q x h;exact .inr ((j2 x hr.1 hr.2).2 (.inr h))
    .have up:∀y,mk S y=true->mk S' y=true:=λy hy=>by
      have hr:=i7 y hy;exact(j2 y hr.1 hr.2).2 (.inl hy)
     by_cases hvq:v=q
     .subst hvq;right;intro y hy;have hr:=hin v y hy;exact(j2 y hr.1 hr.2).2 (.inr hy)
     .by_cases hold:v=d\/mk S v=true
      .rcases i5 v hold with h|h
       .rcases D6.1 h with h|h
        .exact absurd h hvq
        .exact .inl (j5 v h)
       .exact .inr λy hy=>up y (h y hy)
      .rcases hv with h|h
       .exact absurd (.inl h) hold
       .rcases j7 v h with h2|h2
        .exact absurd (.inr h2) hold
        .exact .inl h2
    .by_cases hS:mk S v=true
     .exact i6 C c1 c2 v hS
     .have hr:=hrange v hv;rcases(j2 v hr.1 hr.2).1 hv with h|h
      .exact absurd h hS
      .rcases i4 q x9 with h2|h2
       .subst h2;exact c1 v h
       .exact c2 q (i6 C c1 c2 q h2) v h
   .have:=hfold.sum;have:=hfold.le;simp only[I5];omega
theorem Ls(h:SmS s)(h0:0<=d)(h1:d<nD s):uC s d=some (bI s d):=by have hn:nD s=((s.2.2.2.1.length:Nat):Int):=rfl;unfold uC;change l9 (D9 d 0) _ (l9 (L6 (nD s) d) _ _)=_;rw[N7 h0,o6,Y9 h1,o6,MS h,o8,gU];obtain⟨L,k1,k2⟩:=M_ (D:=P8 s) h.nd (CW s) (λx y hy=>uF hy) h0 (show d<((s.2.2.2.1.length:Nat):Int) by omega);rw[k1,Rch.unique k2 (xm s d)]
structure SmL (l:U9):Prop where
 few:Few l
 en:a2y l
 tb:YL l
 sc:∀s∈l.2.2,SmS s
theorem SmL.scopes(h:SmL l):TP l:=λs hs=>by have hm:=h.sc s hs;exact⟨hm.nm,by have:=hm.ni;omega,by have:=hm.nd;omega,by have:=hm.nr;omega⟩
theorem uI{ε ρ:Type}{p:Nat->Option ρ}(n:Nat)(hn:n<=1000000)(e:ε){f:Int->Option (Out Int ε ρ)}
  (h1:∀i,i<n->f (i:Int)=some (match p i with|some r=> .rt r|none=> .nx (C9 .i64 (i:Int) 1))) (h2:f (n:Int)=some (.ex e)):
  ae f 0=some (match aO n p with|some r=> .inr r|none=> .inl e):=
 KC n l7 e (λi hi=>by rw[h1 i hi,Y3 l7]<;>cases p i<;>rfl) h2
def MN(l:U9)(s:A7)(k:Nat):Option (Int×Int):=match s.2.2.2.2[k]? with|some r=>VO (JE s (FX l s) k r) (300+k:Nat)|none=>none
def Yd(s:A7)(d:Nat):Option (Int×Int):=l9 ((bI s d).any λx=>x8 (d:Int) x) (some (9,((200+d:Nat):Int))) none
def CP(l:U9)(i:Nat)(m:Int):Bool:=l9 (x8 m (-1)) false (l9 (D9 m 0) true (l9 (L6 (i:Int) m) true (match G6 l.2.2 m with|some q=>F7 (x8 q.2.1 (-1))|none=>true)))
def Tn(l:U9)(s:A7):Int×Int:=match DV l s with
 |some r=>r
 |none=>match aO s.2.2.2.2.length (MN l s)with
  |some r=>r
  |none=>match aO s.2.2.2.1.length (Yd s)with
   |some r=>r|none=>(0,0)
def Hg(l:U9)(i:Nat)(s:A7):Int×Int:=
 l9 (EW s.1) (l9 (GX l 3 i s.1) (7,0) (l9 (CP l i s.2.1) (6,0) (l9 (D9 12 (o9 s.2.2.1)) (4,112) (l9 (D9 12 (o9 s.2.2.2.1)) (4,212) (Tn l s))))) (2,0)
theorem a0I(hL:SmL l)(hs:l.2.2[i]? =some s):Eb l (i:Int)=some (Hg l i s):=by
 have hi:=(X7.1 hs).1;have hS:=hL.sc s (kK hs);have hf:=hL.few;have hf1:=hf.1;have hf2:=hf.2.1;have hf3:=hf.2.2;have n1:=hS.ni;have n2:=hS.nd;have n3:=hS.nr;unfold Eb Hg GX;rw[F8,hs,o8,Dj l7,o8,SQ _ l7,o8,Xp _ l7,o8,a4U _ Y8,o8];have hb:(l9 (l.1.any λx=>seq x.1 s.1) (some (s,true)) (l9 (l.2.1.any λx=>seq x.1 s.1) (some (s,true)) (some (s,(l.2.2.take i).any λx=>seq x.1 s.1))))=
   some (s,(l.1.any λx=>seq x.1 s.1) || (l.2.1.any λx=>seq x.1 s.1) || (l.2.2.take i).any λx=>seq x.1 s.1):=by
  cases l.1.any λx=>seq x.1 s.1
  .cases l.2.1.any λx=>seq x.1 s.1<;>rfl
  .rfl
 rw[hb,o8];simp only;rw[uA hS.nm,o8];cases EW s.1
 .rfl
 simp only[E5,o6,o7];cases (l.1.any λx=>seq x.1 s.1) || (l.2.1.any λx=>seq x.1 s.1) || (l.2.2.take i).any λx=>seq x.1 s.1
 case true=>rfl
 simp only[o6];have hm:(l9 (F7 (x8 s.2.1 (-1))) (l9 (D9 s.2.1 0) (some true) (l9 (L6 (i:Int) s.2.1) (some true) (o5 (G6 (l.2.2.take i) s.2.1) λ(x:A7)=>some (F7 (x8 x.2.1 (-1)))))) (some false))=some (CP l i s.2.1):=by
  unfold CP;cases x8 s.2.1 (-1)
  case true=>rfl
  simp only[bg,o7,o6];cases h0:D9 s.2.1 0
  case true=>rfl
  cases h1:L6 (i:Int) s.2.1
  case true=>rfl
  rw[iM]at h0;rw[DX]at h1;obtain⟨q,hq,_⟩:=lZ (l:=l.2.2.take i) h0 (by simp only[o9,bD];omega);have hq2:G6 l.2.2 s.2.1=some q:=by have:=(dU hq).2.2.2;unfold G6;rw[if_pos h0];exact(Vq this).2
  rw[hq,hq2];rfl
 rw[hm,o8];cases CP l i s.2.1
 case true=>rfl
 simp only[o6];cases D9 12 (o9 s.2.2.1)
 case true=>rfl
 cases D9 12 (o9 s.2.2.2.1)
 case true=>rfl
 simp only[o6,o8,U0];unfold Tn DV;refine X8 (uI (p:=inP l s) s.2.2.1.length l7 PUnit.unit (λk hk=>?_) ?_) ?_
 rotate_left 2
 .cases aO s.2.2.1.length (inP l s)
  case some r=>rfl
  simp only[o8,U0];refine X8 (uI (p:=a2M l s) s.2.2.2.1.length l7 PUnit.unit (λk hk=>?_) ?_) ?_
  rotate_left 2
  .cases aO s.2.2.2.1.length (a2M l s)
   case some r=>rfl
   simp only[o8,U0];rw[JH hL.scopes hs,o8];refine X8 (uI (p:=MN l s) s.2.2.2.2.length l7 PUnit.unit (λk hk=>?_) ?_) ?_
   rotate_left 2
   .cases aO s.2.2.2.2.length (MN l s)
    case some r=>rfl
    simp only[o8,U0];refine X8 (uI (p:=Yd s) s.2.2.2.1.length l7 PUnit.unit (λk hk=>?_) ?_) ?_
    rotate_left 2
    .cases aO s.2.2.2.1.length (Yd s)<;>rfl
    .have e:=bQ hk;simp only[J3 e,o7];rw[Ls hS l7 (by show(k:Int)<o9 s.2.2.2.1;simp only[o9];omega),o8,b1g _ (by
      have:=Fv hS (xm s (k:Int)).1 (λx hx=>zK hx);omega),o8,show(200:Int)=((200:Nat):Int)from rfl,Xq l7 l7]
     unfold Yd;cases (bI s (k:Int)).any λx=>x8 (k:Int) x<;>rfl
    .rw[I9];rfl
   .have e:=bQ hk;have hr:=(hS.ro _ (I4 hk)).1;simp only[J3 e,o7];rw[a2J _ e l7 hr,o8,show(300:Int)=((300:Nat):Int)from rfl,Xq l7 l7];simp only[MN,e,VO];cases x8 (JE s (FX l s) k s.2.2.2.2[k]) 0<;>rfl
   .rw[I9];rfl
  .have e:=bQ hk;have hm:=hS.fo.2 _ (I4 hk);simp only[J3 e,o7,F8,e,o8];rw[Dj l7,o8,RI hm l7 Y8,o8,show(200:Int)=((200:Nat):Int)from rfl,Xq l7 l7];simp only[a2M,e,VO];cases x8 (KZ l.1 s.2.2.2.1[k] s.2.2.1 (s.2.2.2.1.take k)) 0<;>rfl
  .rw[I9];rfl
 .have e:=bQ hk;have hm:=hS.fo.1 _ (I4 hk);simp only[J3 e,o7,F8,e,o8];rw[Dj l7,o8,RI hm Y8 x9,o8,show(100:Int)=((100:Nat):Int)from rfl,Xq l7 l7];simp only[inP,e,VO];cases x8 (KZ l.1 s.2.2.1[k] (s.2.2.1.take k) []) 0<;>rfl
 .rw[I9];rfl
theorem LQ{c e:Int}{r:Int×Int}(h:VO c e=some r):r.1≠0:=by
 unfold VO at h;cases hc:x8 c 0<;>rw[hc]at h
 .cases h;exact zh.1 hc
 .cases h
theorem Kv{r:Int×Int}(h:DV l s=some r):r.1≠0:=by
 unfold DV at h;split at h
 .rename_i q hq;cases h;obtain⟨k,_,hk⟩:=je hq;unfold inP at hk;split at hk
  .exact LQ hk
  .cases hk
 .obtain⟨k,_,hk⟩:=je h;unfold a2M at hk;split at hk
  .exact LQ hk
  .cases hk
theorem I_(hL:SmL l)(hs:l.2.2[i]? =some s):Ar l (i:Int)=some (l9 (x8 (Hg l i s).1 0) (0,0,0,0) (XZ i (Hg l i s))):=by
 have hi:=(X7.1 hs).1;have hS:=hL.sc s (kK hs);have hf:=hL.few;have hf1:=hf.1;have hf2:=hf.2.1;have hf3:=hf.2.2;have n1:=hS.ni;have n2:=hS.nd;have n3:=hS.nr;unfold Ar Hg;rw[F8,hs,o8,pI hS.nm,o8];cases EW s.1
 .rfl
 simp only[E5,o6,o7];rw[b2x hf,o8];cases GX l 3 i s.1
 case true=>rfl
 simp only[o6];have hm:(l9 (F7 (x8 s.2.1 (-1))) (l9 (D9 s.2.1 0) (some (Sum.inr ((6:Int),(3:Int),(i:Int),(0:Int)))) (l9 (L6 (i:Int) s.2.1) (some (.inr (6,3,(i:Int),0))) (o5 (G6 l.2.2 s.2.1) λ(x:A7)=>l9 (F7 (x8 x.2.1 (-1))) (some (.inr (6,3,(i:Int),0))) (some (.inl (((0:Int),(0:Int),(0:Int),(0:Int)),(0:Int),(3:Int),(i:Int),(0:Int))))))) (some (.inl ((0,0,0,0),0,3,(i:Int),0))))=
   some (l9 (CP l i s.2.1) (.inr (6,3,(i:Int),0)) (.inl ((0,0,0,0),0,3,(i:Int),0))):=by
  unfold CP;cases x8 s.2.1 (-1)
  case true=>rfl
  simp only[bg,o7,o6];cases h0:D9 s.2.1 0
  case true=>rfl
  cases h1:L6 (i:Int) s.2.1
  case true=>rfl
  rw[iM]at h0;rw[DX]at h1;obtain⟨q,hq,_⟩:=lZ (l:=l.2.2) h0 (by simp only[o9];omega);rw[hq];simp only[o6,o8];cases x8 q.2.1 (-1)<;>rfl
 rw[hm,o8];cases CP l i s.2.1
 case true=>rfl
 simp only[o6,U0];cases D9 12 (o9 s.2.2.1)
 case true=>rfl
 cases D9 12 (o9 s.2.2.2.1)
 case true=>rfl
 simp only[o6];rw[F_ hs l7 l7 hS.fo,o8];unfold Tn;cases hfs:DV l s with
 |some r=>have hc:=Kv hfs;simp only[XZ];rw[O8 hc];rfl|none=>
  simp only[O5 (rfl:(0:Int)=0),E5,o6];refine X8 (rW (p:=λk=>(MN l s k).map (XZ i)) s.2.2.2.2.length l7 _ (0,0,0,0) (λk hk=>?_) ?_) ?_
  rotate_left 2
  .rw[Kw];cases hfr:aO s.2.2.2.2.length (MN l s)with
   |some r=>
    obtain⟨k,_,hk⟩:=je hfr;have hc:r.1≠0:=by
     unfold MN at hk;split at hk
     .exact LQ hk
     .cases hk
    simp only[eH,o8,uj];rw[O8 hc];rfl
   |none=>
    simp only[Option.map_none,o8,U0];refine X8 (rW (p:=λk=>(Yd s k).map (XZ i)) s.2.2.2.1.length l7 _ (0,0,0,0) (λk hk=>?_) ?_) ?_
    rotate_left 2
    .rw[Kw];cases hfc:aO s.2.2.2.1.length (Yd s)with
     |some r=>
      obtain⟨k,_,hk⟩:=je hfc;have hc:r.1≠0:=by
       unfold Yd at hk;cases hq:(bI s (k:Int)).any λx=>x8 (k:Int) x<;>rw[hq]at hk
       .cases hk
       .cases hk;show(9:Int)≠0;decide
      simp only[eH,o8,uj];rw[O8 hc];rfl
     |none=>rfl
    .have e:=bQ hk;have htl:=Fv hS (xm s (k:Int)).1 (λx hx=>zK hx);simp only[J3 e,o7];rw[Jt hS,o8,show(200:Int)=((200:Nat):Int)from rfl,Xq l7 l7];have hcy:ae (λ(x_6:I7×Int)=>l9 (D9 x_6.2 (o9 (bI s (k:Int)))) (o5 (G6 (bI s (k:Int)) x_6.2) λ(x:Int)=>l9 (x8 x (k:Int)) (some (Out.rt ((9:Int),(3:Int),(i:Int),((200+k:Nat):Int)))) (some (.nx (x_6.1,C9 .i64 x_6.2 1)))) (some (.ex x_6.1))) (((0:Int),(0:Int),(0:Int),(0:Int)),(0:Int))=
       some (l9 ((bI s (k:Int)).any λx=>x8 (k:Int) x) (.inr (9,3,(i:Int),((200+k:Nat):Int))) (.inl (0,0,0,0))):=by
      have h1:=SV (bI s (k:Int)) (λ(b:Int×Int×Int×Int) x=>l9 (x8 x (k:Int)) (.inr ((9:Int),(3:Int),(i:Int),((200+k:Nat):Int))) (.inl b)) (λb i=>(b,i)) (λb=>b) (λ_ _=>True) (b:=((0,0,0,0):Int×Int×Int×Int)) (f:=λ(x_6:I7×Int)=>l9 (D9 x_6.2 (o9 (bI s (k:Int)))) (o5 (G6 (bI s (k:Int)) x_6.2) λ(x:Int)=>l9 (x8 x (k:Int)) (some (Out.rt ((9:Int),(3:Int),(i:Int),((200+k:Nat):Int)))) (some (.nx (x_6.1,C9 .i64 x_6.2 1)))) (some (.ex x_6.1))) l7 trivial (λj x b hx hj _=>by refine⟨?_,λ_ _=>trivial⟩;simp only[J3 hx,o7,F8,hx,o8];rw[Y3 l7];cases x8 x (k:Int)<;>rfl) (λb _=>by simp only[I9];rfl)
      refine h1.1.trans ?_;have hfo:∀(l:d5R) (b:Int×Int×Int×Int),bF (λ(b:Int×Int×Int×Int) x=>l9 (x8 x (k:Int)) (.inr ((9:Int),(3:Int),(i:Int),((200+k:Nat):Int))) (.inl b)) l b=l9 (l.any λx=>x8 (k:Int) x) (.inr (9,3,(i:Int),((200+k:Nat):Int))) (.inl b):=by
       intro l;induction l with
       |nil=>intro b;rfl|cons a l ih=>
        intro b;unfold bF;rw[jT,show x8 (k:Int) a=x8 a (k:Int) by unfold x8;by_cases h:a=(k:Int)<;>simp[h,eq_comm]];cases x8 a (k:Int)
        .simp only[o6,jR];exact ih b
        .rfl
      rw[hfo];cases (bI s (k:Int)).any λx=>x8 (k:Int) x<;>rfl
     refine X8 hcy ?_;unfold Yd;cases (bI s (k:Int)).any λx=>x8 (k:Int) x<;>rfl
    .simp only[I9];rfl
  .have e:=bQ hk;have hr:=(hS.ro _ (I4 hk)).1;simp only[J3 e,o7];rw[a1b hL.scopes hs e hr,o8,show(300:Int)=((300:Nat):Int)from rfl,Xq l7 l7];simp only[MN,e,VO];cases x8 (JE s (FX l s) k s.2.2.2.2[k]) 0<;>rfl
  .simp only[I9];rfl
def Lp(l:U9)(i:Nat):Option (Int×Int×Int×Int):=match l.2.2[i]? with|some s=>SN 3 i (Hg l i s)|none=>none
def Vj(l:U9):Int×Int×Int×Int:=l9 (D9 4 (o9 l.2.2)) (4,3,4,0) (match aO l.2.2.length (Lp l)with|some r=>r|none=>(0,0,0,0))
def iE(l:U9):Int×Int×Int×Int:=l9 (x8 (Np l).1 0) (l9 (x8 (Ol l).1 0) (Vj l) (Ol l)) (Np l)
theorem Zg(hL:SmL l):BK l=some (Vj l):=by
 have hf:=hL.few.2.2;unfold BK Vj;cases D9 4 (o9 l.2.2)
 case true=>rfl
 simp only[o6];refine X8 (rW (p:=Lp l) l.2.2.length l7 _ (0,0,0,0) (λi hi=>?_) ?_) ?_
 rotate_left 2
 .cases aO l.2.2.length (Lp l)<;>rfl
 .have e:=bQ hi;simp only[J3 e,o7,a0I hL e,o8,Lp,e,SN];cases x8 (Hg l i l.2.2[i]).1 0<;>rfl
 .rw[I9];rfl
theorem a6H(hL:SmL l):Ia l=some (iE l):=by
 unfold Ia iE;rw[a0H hL.few hL.en,o8];cases x8 (Np l).1 0
 .rfl
 simp only[E5,o6,o7];rw[Zh hL.few hL.tb,o8];cases x8 (Ol l).1 0
 .rfl
 simp only[E5,o6,o7];rw[Zg hL];rfl
theorem VP{k i:Int}{c:Int×Int}{r:Int×Int×Int×Int}(h:SN k i c=some r):r.1≠0:=by
 unfold SN at h;cases hc:x8 c.1 0<;>rw[hc]at h
 .cases h;exact zh.1 hc
 .cases h
theorem a3B(hL:SmL l):Ez l=some (iE l):=by
 have hf1:=hL.few.1;have hf2:=hL.few.2.1;have hf3:=hL.few.2.2;unfold Ez iE Np;cases D9 8 (o9 l.1)
 case true=>rfl
 simp only[o6];refine X8 (rW (p:=Pj l) l.1.length l7 _ (0,0,0,0) (λi hi=>?_) ?_) ?_
 rotate_left 2
 .cases hfe:aO l.1.length (Pj l)with
  |some r=>
   obtain⟨k,_,hk⟩:=je hfe;have hc:r.1≠0:=by
    unfold Pj at hk;split at hk
    .exact VP hk
    .cases hk
   simp only[o8,uj,O8 hc,o6]
  |none=>
   simp only[o8,U0,O5 (rfl:(0:Int)=0),o7];unfold Ol;cases D9 8 (o9 l.2.1)
   case true=>rfl
   simp only[o6];refine X8 (rW (p:=Qn l) l.2.1.length l7 _ (0,0,0,0) (λi hi=>?_) ?_) ?_
   rotate_left 2
   .cases hft:aO l.2.1.length (Qn l)with
    |some r=>
     obtain⟨k,_,hk⟩:=je hft;have hc:r.1≠0:=by
      unfold Qn at hk;split at hk
      .exact VP hk
      .cases hk
     simp only[o8,uj,O8 hc,o6]
    |none=>
     simp only[o8,U0,O5 (rfl:(0:Int)=0),o7];unfold Vj;cases D9 4 (o9 l.2.2)
     case true=>rfl
     simp only[o6];refine X8 (rW (p:=Lp l) l.2.2.length l7 _ (0,0,0,0) (λi hi=>?_) ?_) ?_
     rotate_left 2
     .cases aO l.2.2.length (Lp l)<;>rfl
     .have e:=bQ hi;simp only[J3 e,o7,I_ hL e,o8,Lp,e,SN];cases hc:x8 (Hg l i l.2.2[i]).1 0
      .simp only[o6,XZ,hc];rfl
      .simp only[o7,O5 (rfl:(0:Int)=0)];rfl
     .simp only[I9];rfl
   .have e:=bQ hi;simp only[J3 e,o7,J_ hL.few e (hL.tb _ (I4 hi)),o8,Qn,e,SN,Ro];cases hc:x8 (a0n l i l.2.1[i]).1 0
    .simp only[o6,hc];rfl
    .simp only[o7,O5 (rfl:(0:Int)=0)];rfl
   .simp only[I9];rfl
 .have e:=bQ hi;have hm:=hL.en _ (I4 hi);simp only[J3 e,o7,a0Y hL.few e hm.1 hm.2,o8,Pj,e,SN,Ro];cases hc:x8 (Xk l i l.1[i]).1 0
  .simp only[o6,hc];rfl
  .simp only[o7,O5 (rfl:(0:Int)=0)];rfl
 .simp only[I9];rfl
structure SmC (c:aF):Prop where
 ni:c.2.1.length<=1000
 nm:c.2.2.length<=1000
 nv:∀v∈c.2.2,v.length<=1000
def a9b(en:List jw)(fs:List jm)(vs:List V6)(i:Nat):Option (Int×Int):=match vs[i]?,fs[i]? with
 |some v,some f=>l9 (x8 v.1 f.2.1) (l9 (x8 v.2.1 f.2.2) (l9 (inB v.2.2 (bnd f.2 en)) none (some ((i:Int),3))) (some ((i:Int),8))) (some ((i:Int),8))|_,_=>none
def Bz(en:List jw)(fs:List jm)(vs:List V6):Int×Int:=
 l9 (D9 (o9 vs) (o9 fs)) (o9 vs,5) (l9 (D9 (o9 fs) (o9 vs)) (o9 fs,4) (match aO vs.length (a9b en fs vs)with|some r=>r|none=>(0,0)))
theorem Ph(l:U9){vs:List V6}{fs:List jm}(hv:vs.length<=1000000):qc l vs fs=some (Bz l.1 fs vs):=by
 unfold qc Bz;cases h1:D9 (o9 vs) (o9 fs)
 case true=>rfl
 cases h2:D9 (o9 fs) (o9 vs)
 case true=>rfl
 simp only[o6];have hl:vs.length=fs.length:=by rw[iM]at h1 h2;simp only[o9]at h1 h2;omega
 refine X8 (uI (p:=a9b l.1 fs vs) vs.length hv PUnit.unit (λk hk=>?_) ?_) ?_
 rotate_left 2
 .cases aO vs.length (a9b l.1 fs vs)<;>rfl
 .have e:=bQ hk;have e2:=bQ (show k<fs.length by omega);simp only[J3 e,o7,F8,e,e2,o8,VF,a9b,inB,rH];cases x8 vs[k].1 fs[k].2.1
  .rfl
  cases x8 vs[k].2.1 fs[k].2.2
  .rfl
  cases L6 (bnd fs[k].2 l.1).1 vs[k].2.2
  .rfl
  cases L6 vs[k].2.2 (bnd fs[k].2 l.1).2<;>rfl
 .rw[I9];rfl
theorem G_(l:U9){vs:List V6}{fs:List jm}(hv:vs.length<=1000000):Aw l fs vs=some (Bz l.1 fs vs):=by
 unfold Aw Bz;cases h1:D9 (o9 vs) (o9 fs)
 case true=>rfl
 cases h2:D9 (o9 fs) (o9 vs)
 case true=>rfl
 simp only[o6];have hl:vs.length=fs.length:=by rw[iM]at h1 h2;simp only[o9]at h1 h2;omega
 refine X8 (uI (p:=a9b l.1 fs vs) vs.length hv PUnit.unit (λk hk=>?_) ?_) ?_
 rotate_left 2
 .cases aO vs.length (a9b l.1 fs vs)<;>rfl
 .have e:=bQ hk;have e2:=bQ (show k<fs.length by omega);simp only[J3 e,o7,F8,e,e2,o8,a3x,a9b,TA];cases x8 vs[k].1 fs[k].2.1
  .rfl
  cases x8 vs[k].2.1 fs[k].2.2
  .rfl
  cases inB vs[k].2.2 (bnd fs[k].2 l.1)<;>rfl
 .rw[I9];rfl
def pF(l:U9)(s:A7):List jm×Int:=match G6 l.2.2 s.2.1 with|some q=>(q.2.2.1,8)|none=>([],0)
def Wn(en:List jw)(fs:List jm)(ms:List (List V6))(i:Nat):Option (Int×Int×Int):=match ms[i]? with
 |some vs=>l9 (x8 (Bz en fs vs).2 0) none (some ((i:Int),Bz en fs vs))|none=>none
def DI(l:U9)(k:Int)(c:aF):Int×Int×Int:=match G6 l.2.2 k with
 |none=>(-1,-1,6)
 |some s=>l9 (D9 c.1 0) (-1,-1,3) (l9 (D9 109572 c.1) (-1,-1,3) (l9 (x8 (Bz l.1 s.2.2.1 c.2.1).2 0)
   (l9 (D9 (pF l s).2 (o9 c.2.2)) ((pF l s).2,-1,4) (match aO c.2.2.length (Wn l.1 (pF l s).1 c.2.2)with|some r=>r|none=>(0,0,0))) (-1,Bz l.1 s.2.2.1 c.2.1)))
theorem a6i{k:Int}{A B:Option (PUnit⊕(Int×Int×Int))} :(∃s,G6 l.2.2 k=some s/\l9 (D9 k 0) A (l9 (L6 (o9 l.2.2) k) A B)=B/\s∈l.2.2)\/(G6 l.2.2 k=none/\l9 (D9 k 0) A (l9 (L6 (o9 l.2.2) k) A B)=A):=by
 rw[rH k 0,Gi (o9 l.2.2) k];cases h0:L6 0 k
 .exact .inr ⟨tJ (.inl h0),rfl⟩
 cases h1:D9 k (o9 l.2.2)
 .exact .inr ⟨tJ (.inr h1),rfl⟩
 obtain⟨s,hs,hm⟩:=lZ (jr.1 h0) (jK.1 h1);exact .inl ⟨s,hs,rfl,hm⟩
theorem b8p(l:U9)(k:Int){c:aF}(hc:SmC c):yE l k c=some (DI l k c):=by
 unfold yE DI;rcases a6i (l:=l) (k:=k) (A:=some (.inr ((-1:Int),(-1:Int),(6:Int)))) (B:=some (.inl PUnit.unit))with⟨s,hs,hb,_⟩|⟨hs,hb⟩
 .rw[hb,hs];simp only[o8,U0];cases D9 c.1 0
  case true=>rfl
  cases D9 109572 c.1
  case true=>rfl
  simp only[o6,o8,U0];rw[Ph l (by have:=hc.ni;omega),o8];cases x8 (Bz l.1 s.2.2.1 c.2.1).2 0
  .rfl
  simp only[E5,o6,o7];have hm:uk l k=some (pF l s):=by
   unfold uk pF;rw[hs,o8,rH s.2.1 0,Gi (o9 l.2.2) s.2.1];cases h0:L6 0 s.2.1
   .rw[tJ (.inl h0)];rfl
   cases h1:D9 s.2.1 (o9 l.2.2)
   .rw[tJ (.inr h1)];rfl
   obtain⟨q,hq,_⟩:=lZ (jr.1 h0) (jK.1 h1);rw[hq];rfl
  rw[hm,o8];cases D9 (pF l s).2 (o9 c.2.2)
  case true=>rfl
  simp only[o6];refine X8 (uI (p:=Wn l.1 (pF l s).1 c.2.2) c.2.2.length (by have:=hc.nm;omega) PUnit.unit (λj hj=>?_) ?_) ?_
  rotate_left 2
  .cases aO c.2.2.length (Wn l.1 (pF l s).1 c.2.2)<;>rfl
  .have e:=bQ hj;simp only[J3 e,o7,F8,e,o8];rw[Ph l (by have:=hc.nv _ (I4 hj);omega),o8];simp only[Wn,e];cases x8 (Bz l.1 (pF l s).1 c.2.2[j]).2 0<;>rfl
  .rw[I9];rfl
 .rw[hb,hs];rfl
theorem b5q(l:U9)(k:Int){c:aF}(hc:SmC c):EC l k c=some (DI l k c):=by
 unfold EC DI;rcases a6i (l:=l) (k:=k) (A:=some (.inr ((-1:Int),(-1:Int),(6:Int)))) (B:=some (.inl PUnit.unit))with⟨s,hs,hb,_⟩|⟨hs,hb⟩
 .rw[hb,hs];simp only[o8,U0];cases D9 c.1 0
  case true=>rfl
  cases D9 109572 c.1
  case true=>rfl
  simp only[o6,o8,U0];rw[G_ l (by have:=hc.ni;omega),o8];cases x8 (Bz l.1 s.2.2.1 c.2.1).2 0
  .rfl
  simp only[E5,o6,o7];have hm:Gs l k=some (l9 (L6 0 s.2.1) (l9 (D9 s.2.1 (o9 l.2.2)) (s.2.1,8) (-1,0)) (-1,0)):=by
   unfold Gs;rw[hs,o8,rH s.2.1 0,Gi (o9 l.2.2) s.2.1];cases L6 0 s.2.1
   .rfl
   cases D9 s.2.1 (o9 l.2.2)<;>rfl
  rw[hm,o8];unfold pF;have hz:∀(m:Int) (fs:List jm),l9 (D9 (0:Int) (o9 c.2.2)) (some (((0:Int),(-1:Int),(4:Int)):Int×Int×Int)) (o5 (ae (λ(x_1:Int)=>l9 (D9 x_1 (o9 c.2.2)) (o5 (G6 l.2.2 m) λ(x:A7)=>o5 (G6 c.2.2 x_1) λ(x_2:List V6)=>o5 (Aw l x.2.2.1 x_2) λ(x:F6)=>l9 (F7 (x8 x.2 0)) (some (Out.rt ((x_1,x):Int×Int×Int))) (some (.nx (C9 .i64 x_1 1)))) (some (.ex PUnit.unit))) 0) λ(o:PUnit⊕V6)=>ah o (λ(y:PUnit)=>some (0,0,0)) λ(r:V6)=>some r)=
    some (l9 (D9 0 (o9 c.2.2)) (0,-1,4) (match aO c.2.2.length (Wn l.1 fs c.2.2)with|some r=>r|none=>(0,0,0))):=by
   intro m fs;cases h0:D9 0 (o9 c.2.2)
   case true=>rfl
   have:c.2.2.length=0:=by rw[iM]at h0;simp only[o9]at h0;omega
   have hnil:c.2.2=[]:=S9.1 this;rw[hnil];rfl
  cases h0:L6 0 s.2.1
  .rw[tJ (.inl h0)];exact hz _ _
  cases h1:D9 s.2.1 (o9 l.2.2)
  .rw[tJ (.inr h1)];exact hz _ _
  obtain⟨q,hq,_⟩:=lZ (jr.1 h0) (jK.1 h1);rw[hq];simp only[o7];cases D9 8 (o9 c.2.2)
  case true=>rfl
  simp only[o6];refine X8 (uI (p:=Wn l.1 q.2.2.1 c.2.2) c.2.2.length (by have:=hc.nm;omega) PUnit.unit (λj hj=>?_) ?_) ?_
  rotate_left 2
  .cases aO c.2.2.length (Wn l.1 q.2.2.1 c.2.2)<;>rfl
  .have e:=bQ hj;simp only[J3 e,o7,F8,e,o8,hq];rw[G_ l (by have:=hc.nv _ (I4 hj);omega),o8];simp only[Wn,e];cases x8 (Bz l.1 q.2.2.1 c.2.2[j]).2 0<;>rfl
  .rw[I9];rfl
 .rw[hb,hs];rfl
def SH(r:Int×Int)(t:Int):Bool:=l9 (Ja r) (l9 (L6 r.1 t) (D9 t r.2) false) false
theorem JZ(r:Int×Int)(t:Int):oZ r t=some (SH r t):=by
 unfold oZ SH;rw[LM,o8];cases Ja r
 .rfl
 cases L6 r.1 t<;>rfl
theorem NS(r:Int×Int)(t:Int):wZ r t=some (SH r t):=JZ r t
section
variable (on:Nat->Bool) (par:Nat->Int)
def lI(i:Nat):Nat:=((List.range i).filter on).length
def Ig(i:Nat):Int:=if on i=true then(lI on i:Int)else if h:0<=par i/\par i<(i:Int)then Ig (par i).toNat else -1
termination_by i
decreasing_by omega
def anc(i:Nat):Int:=if 0<=par i/\par i<(i:Int)then Ig on par (par i).toNat else -1
theorem UD(i:Nat):Ig on par i=if on i=true then(lI on i:Int)else anc on par i:=by
 rw[Ig];unfold anc;by_cases h:on i=true
 .rw[if_pos h,if_pos h]
 .rw[if_neg h,if_neg h];by_cases h2:0<=par i/\par i<(i:Int)
  .rw[dif_pos h2,if_pos h2]
  .rw[dif_neg h2,if_neg h2]
def onL(n:Nat):d5S:=(List.range n).filter on
theorem Jo(i:Nat):onL on (i+1)=onL on i++(bif on i then[i]else[]):=by unfold onL;rw[W9,mO];rw[show List.filter on [i]=bif on i then[i]else[] by rw[dJ];cases on i<;>rfl]
theorem Ej(i:Nat):(onL on i).length<=i:=by have:=aI on (List.range i);unfold onL;simpa using this
theorem Ih{n p:Nat}(hp:p<n)(h:on p=true):(onL on n)[lI on p]? =some p:=by
 induction n with
 |zero=>omega|succ n ih=>
  rw[Jo];by_cases hq:p=n
  .subst hq;rw[h,J6 (by unfold lI onL;omega)];unfold lI onL;simp
  .have:=ih l7;rw[U8 (X7.1 this).1];exact this
theorem Wx(h:i∈onL on n):i<n/\on i=true:=by unfold onL at h;obtain⟨h1,h2⟩:=O0.1 h;exact⟨U5.1 h1,h2⟩
end
def castL(l:d5S):d5R:=l.map λ(i:Nat)=>(i:Int)
theorem VG{l:d5S}{i a:Nat}(h:l[i]? =some a):(castL l)[i]? =some (a:Int):=by unfold castL;rw[V7,h];rfl
theorem b2c{rs:List aj}{on:Nat->Bool}{f:d5R×d5R×d5R×Int->Option ((d5R×d5R×d5R×Int)⊕(d5R×d5R))}(hl:rs.length<=1000)
  (hin:∀(i:Nat) (r:aj) (A B C:d5R),rs[i]? =some r->f (A,B,C,(i:Int))=o5 (l9 (L6 0 r.2.2.1) (l9 (D9 r.2.2.1 (i:Int)) (o5 (G6 C r.2.2.1) λ(x_2:Int)=>o5 (V4 C (V8 r.2.2.1)) λ(x:Int)=>some x) (some (-1))) (some (-1))) λ(x_2:Int)=>
   o5 (G6 C (i:Int)) λ(x_3:Int)=>o5 (V4 C (V8 (i:Int))) λ(x_4:Int)=>l9 (on i) (o5 (G6 (aU C (V8 (i:Int)) x_2) (i:Int)) λ(x_6:Int)=>o5 (V4 (aU C (V8 (i:Int)) x_2) (V8 (i:Int))) λ(x_7:Int)=>o5 (bV A [(i:Int)]) λ(x_8:d5R)=>o5 (bV B [x_2]) λ(x_9:d5R)=>
     some (.inl (x_8,x_9,aU (aU C (V8 (i:Int)) x_2) (V8 (i:Int)) (o9 A),C9 .i64 (i:Int) 1))) (some (.inl (A,B,aU C (V8 (i:Int)) x_2,C9 .i64 (i:Int) 1))))
  (hend:∀(A B C:d5R),f (A,B,C,(rs.length:Int))=some (.inr (A,B))):
  ay f ([],[],List.replicate rs.length 0,0)=some (castL (onL on rs.length),(onL on rs.length).map (anc on λi=>match rs[i]? with|some r=>r.2.2.1|none=>-1)):=by
 obtain⟨par,hpar⟩:∃par:Nat->Int,par=λi=>match rs[i]? with|some r=>r.2.2.1|none=>-1:=⟨_,rfl⟩
 rw[←hpar];obtain⟨e,h1,h2⟩:=iG (f:=f) (s:=([],[],List.replicate rs.length 0,0)) (λx=>∃i:Nat,x=(castL (onL on i),(onL on i).map (anc on par),pd ((List.range i).map (Ig on par)) (rs.length -i),(i:Int))/\i<=rs.length)
  (λe=>e=(castL (onL on rs.length),(onL on rs.length).map (anc on par))) (λx=>rs.length -x.2.2.2.toNat) ⟨0,by simp[onL,castL,pd],l7⟩ Y8 (by
  rintro x ⟨i,rfl,hi⟩;by_cases h:i<rs.length
  .left;have e:=bQ h;have hp:par i=rs[i].2.2.1:=by rw[hpar];simp only[e]
   obtain⟨p,hpp⟩:∃p:Int,p=par i:=⟨_,rfl⟩;have hp' :rs[i].2.2.1=p:=by rw[hpp,hp]
   have hlen:((List.range i).map (Ig on par)).length=i:=x9;have hol:=Ej on i;obtain⟨m,hm⟩:∃m,rs.length -i=m+1:=⟨rs.length -i -1,l7⟩;have hanc:o5 (l9 (L6 0 p) (l9 (D9 p (i:Int)) (o5 (G6 (pd ((List.range i).map (Ig on par)) (m+1)) p) λ(x_2:Int)=>o5 (V4 (pd ((List.range i).map (Ig on par)) (m+1)) (V8 p)) λ(x:Int)=>some x) (some (-1))) (some (-1))) (λx=>some x)=some (anc on par i):=by
    unfold anc;rw[←hpp];by_cases h0:0<=p
    .rw[Y5 h0];by_cases h1:p<(i:Int)
     .have hk:p.toNat<i:=l7;have hg:(pd ((List.range i).map (Ig on par)) (m+1))[p.toNat]? =some (Ig on par p.toNat):=by
       unfold pd;rw[U8 Y8,Ic _ _ hk]
      rw[U6 h1,if_pos ⟨h0,h1⟩];simp only[o7];rw[show G6 (pd ((List.range i).map (Ig on par)) (m+1)) p=some (Ig on par p.toNat) by unfold G6;rw[if_pos h0];exact hg,o8,show V4 (pd ((List.range i).map (Ig on par)) (m+1)) (V8 p)=some (Ig on par p.toNat)from hg];rfl
     .rw[N7 l7,if_neg l7];rfl
    .rw[Y9 l7,if_neg l7];rfl
   rw[gU]at hanc;refine⟨(castL (onL on (i+1)),(onL on (i+1)).map (anc on par),pd ((List.range (i+1)).map (Ig on par)) (rs.length -(i+1)),((i+1:Nat):Int)),?_,⟨i+1,rfl,h⟩,by simp;omega⟩;rw[hin i _ _ _ _ e,hm,hp',hanc,o8,Y3 l7,show rs.length -(i+1)=m by omega,Jo,W9,dC];have q1:=a3n ((List.range i).map (Ig on par)) m;have q2:=a3o ((List.range i).map (Ig on par)) m;have q3:=a7N ((List.range i).map (Ig on par)) m (anc on par i);have q4:=QQ ((List.range i).map (Ig on par)) m (anc on par i);have q5:=PQ ((List.range i).map (Ig on par)) m (anc on par i);have q6:=UO ((List.range i).map (Ig on par)) m (anc on par i) (o9 (castL (onL on i)));rw[hlen]at q1 q2 q3 q4 q5 q6;rw[q1,o8,q2,o8,q3];have hna:(List.map (Ig on par) (List.range i++[i]))=(List.range i).map (Ig on par)++[if on i=true then(lI on i:Int)else anc on par i]:=by rw[dC,List.map_singleton,UD]
   rw[hna];cases hon:on i
   .simp[castL]
   .simp only[o7,cond_true];rw[q4,o8,q5,o8,fK _ (by simp[castL];omega),o8,fK _ Y8,o8,q6];simp[castL,o9,lI,onL]
  .right;have:i=rs.length:=l7;subst this;exact⟨_,hend _ _ _,rfl⟩)
 rw[h1,h2]
def onR(s:A7)(d t:Int)(i:Nat):Bool:=match s.2.2.2.2[i]? with|some r=>l9 (x8 r.2.1 d) (SH r.2.2.2.2.1 t) false|none=>false
def eQ(s:A7)(i:Nat):Int:=match s.2.2.2.2[i]? with|some r=>r.2.2.1|none=>-1
def aB(s:A7)(d t:Int):d5S:=onL (onR s d t) s.2.2.2.2.length
def Dn(s:A7)(i:Nat):Int:=match s.2.2.2.2[i]? with|some r=>r.2.2.2.1|none=>0
def dn(s:A7)(d t:Int):d5R×d5R×d5R:=(castL (aB s d t),(aB s d t).map (anc (onR s d t) (eQ s)),(aB s d t).map (Dn s))
theorem c1A(h:s.2.2.2.2[i]? =some r)(d t:Int):xA r d t=some (onR s d t i):=by unfold xA onR;rw[h,JZ];simp only;cases x8 r.2.1 d<;>rfl
theorem a3I(h:s.2.2.2.2.length<=1000)(d t:Int):wC s.2.2.2.2 (d,t)=some (castL (aB s d t),(aB s d t).map (anc (onR s d t) (eQ s))):=by
 unfold wC;rw[show pR (o9 s.2.2.2.2) (0:Int)=some (List.replicate s.2.2.2.2.length 0) by unfold pR;rw[if_pos (by simp[o9];omega)];simp[o9],o8,gU];refine b2c h (λi r A B C hr=>?_) (λA B C=>?_)
 .simp only[J3 hr,o7,F8,hr,o8];rw[c1A hr];rfl
 .simp only[I9];rfl
theorem qG{d t:Int}(h:i∈aB s d t):i<s.2.2.2.2.length/\onR s d t i=true:=Wx _ h
theorem b2A(h:s.2.2.2.2.length<=1000)(d t:Int):zQ s d t=some (dn s d t):=by
 have hl:=Ej (onR s d t) s.2.2.2.2.length;unfold zQ;rw[a3I h,o8];refine X8 (b3B (castL (aB s d t)) (λ(k:Int)=>Dn s k.toNat) (F:=id) (by unfold castL aB;simp;omega) (λi a acc ha hacc=>?_) (λacc=>?_)) ?_
 rotate_left 2
 .rw[o8];unfold dn castL;rw[vF];rfl
 .simp only[J3 ha,o7,F8 (castL (aB s d t)),ha,o8];rw[show V4 (castL (aB s d t)) (V8 (i:Int))=some a from ha,o8];obtain⟨k,hk,rfl⟩:∃k,k∈aB s d t/\(k:Int)=a:=by
   have:=kK ha;unfold castL at this;exact X5.1 this
  have hlt:=qG hk;have e:=bQ hlt.1;have hil:=(X7.1 ha).1;simp only[castL,L9]at hil;rw[F8,e,o8,fK _ (by unfold aB at hil;omega),o8];simp only[Dn,E8,e]
 .simp only[I9];rfl
theorem a5P(h:s.2.2.2.2.length<=1000)(d t:Int):Gq s d t=some (castL (aB s d t)):=by
 unfold Gq;rw[gU];obtain⟨e,h1,h2⟩:=iG (f:=λ(x:d5R×Int)=>l9 (D9 x.2 (o9 s.2.2.2.2)) (o5 (G6 s.2.2.2.2 x.2) λ(x_1:aj)=>l9 (x8 x_1.2.1 d) (o5 (G6 s.2.2.2.2 x.2) λ(x_2:aj)=>o5 (wZ x_2.2.2.2.2.1 t) λ(x_3:Bool)=>
   l9 x_3 (o5 (bV x.1 [x.2]) λ(x_4:d5R)=>some (.inl (x_4,C9 .i64 x.2 1))) (some (.inl (x.1,C9 .i64 x.2 1)))) (some (.inl (x.1,C9 .i64 x.2 1)))) (some (.inr x.1)))
  (s:=([],0)) (λx=>∃i:Nat,x=(castL (onL (onR s d t) i),(i:Int))/\i<=s.2.2.2.2.length) (λe=>e=castL (aB s d t)) (λx=>s.2.2.2.2.length -x.2.toNat) ⟨0,rfl,l7⟩ Y8 (by
  rintro x ⟨i,rfl,hi⟩;by_cases hlt:i<s.2.2.2.2.length
  .left;have e:=bQ hlt;have hol:=Ej (onR s d t) i;refine⟨(castL (onL (onR s d t) (i+1)),((i+1:Nat):Int)),?_,⟨i+1,rfl,hlt⟩,by simp;omega⟩;simp only[J3 e,o7,F8,e,o8,NS];rw[Y3 l7,fK _ (by simp[castL];omega),Jo];have hon:onR s d t i=l9 (x8 s.2.2.2.2[i].2.1 d) (SH s.2.2.2.2[i].2.2.2.2.1 t) false:=by unfold onR;rw[e]
   rw[hon];cases x8 s.2.2.2.2[i].2.1 d
   .simp[castL]
   simp only[o7];cases SH s.2.2.2.2[i].2.2.2.2.1 t<;>simp[castL]
  .right;have:i=s.2.2.2.2.length:=l7;subst this;exact⟨_,by rw[I9];rfl,rfl⟩)
 rw[h1,h2]
theorem QN{l:d5S}(hl:l.Pairwise (·< ·)){i j a:Nat}(hi:l[i]? =some a)(hj:l[j]? =some a):i=j:=by
 obtain⟨h1,h2⟩:=X7.1 hi;obtain⟨h3,h4⟩:=X7.1 hj;rcases Nat.lt_trichotomy i j with h|h|h
 .have:=iU.1 hl i j h1 h3 h;omega
 .exact h
 .have:=iU.1 hl j i h3 h1 h;omega
theorem Wy(on:Nat->Bool)(n:Nat):(onL on n).Pairwise (·< ·):=List.Pairwise.filter _ rO
theorem b1R(on:Nat->Bool){n p:Nat}(hn:n<=1000)(hp:p<n):GN (castL (onL on n)) (p:Int)=some (if on p=true then(lI on p:Int)else -1):=by
 have hl:=Ej on n;unfold GN;have key:=xC (f:=λ(x:Int)=>l9 (D9 x (o9 (castL (onL on n)))) (o5 (G6 (castL (onL on n)) x) λ(x_1:Int)=>l9 (x8 x_1 (p:Int)) (some (.rt x)) (some (.nx (C9 .i64 x 1)))) (some (.ex PUnit.unit)))
  (s:=0) (λx=>∃i:Nat,x=i/\i<=(onL on n).length/\∀j,j<i->(onL on n)[j]?≠some p) (λ_=>∀j,j<(onL on n).length->(onL on n)[j]?≠some p) (λr=>∃i:Nat,r=(i:Int)/\(onL on n)[i]? =some p) (λx=>(onL on n).length -x.toNat) ⟨0,rfl,l7,λj hj=>by omega⟩ Y8 (by
  rintro x ⟨i,rfl,hi,hno⟩;by_cases hlt:i<(onL on n).length
  .have e:=bQ hlt;have e2:=VG e;have e3:D9 (i:Int) (o9 (castL (onL on n)))=true:=J3 e2;rw[e3,o7,F8,e2,o8];by_cases hq:(onL on n)[i]=p
   .right;right;exact⟨_,by rw[O5 l7];rfl,i,rfl,by rw[e,hq]⟩
   .left;refine⟨((i+1:Nat):Int),by rw[O8 l7,Y3 l7];rfl,⟨i+1,rfl,hlt,λj hj=>?_⟩,by simp;omega⟩;by_cases hji:j=i
    .subst hji;rw[e];intro h;exact hq (P5 h)
    .exact hno j l7
  .right;left;have hil:i=(onL on n).length:=l7;subst hil;have e3:D9 ((onL on n).length:Int) (o9 (castL (onL on n)))=false:=by
    have:=I9 (castL (onL on n));rw[show(castL (onL on n)).length=(onL on n).length by simp[castL]]at this;exact this
   exact⟨_,by rw[e3];rfl,hno⟩)
 rcases key with⟨e,k1,k2⟩|⟨r,k1,i,k2,k3⟩
 .refine(lN k1 _).trans ?_;by_cases ho:on p=true
  .have:=Ih on hp ho;exact absurd this (k2 _ (X7.1 this).1)
  .rw[if_neg ho];rfl
 .refine(lN k1 _).trans ?_;have hm:=Wx on (kK k3);have:=Ih on hp hm.2;rw[if_pos hm.2,k2,QN (Wy on n) k3 this];rfl
theorem c0T(on:Nat->Bool)(par:Nat->Int):∀i:Nat,anc on par i=if h:0<=par i/\par i<(i:Int)then(if on (par i).toNat=true then(lI on (par i).toNat:Int)else anc on par (par i).toNat)else -1:=by
 intro i;by_cases h:0<=par i/\par i<(i:Int)
 .rw[dif_pos h];rw[show anc on par i=Ig on par (par i).toNat by unfold anc;rw[if_pos h],UD]
 .rw[dif_neg h];unfold anc;rw[if_neg h]
theorem a7V(h:s.2.2.2.2.length<=1000)(on:Nat->Bool)(hi:i<s.2.2.2.2.length):Ir s (castL (onL on s.2.2.2.2.length)) (i:Int)=some (anc on (eQ s) i):=by
 unfold Ir;have hp:∀k:Nat,(hk:k<s.2.2.2.2.length)->∃r,s.2.2.2.2[k]? =some r/\(eQ s k=r.2.2.1):=λk hk=>⟨_,bQ hk,by unfold eQ;rw[bQ hk]⟩;obtain⟨r,hr,hpr⟩:=hp i hi;rw[F8,hr,o8];have key:=xC (f:=λ(x:Int×Int)=>l9 (L6 0 x.2) (l9 (D9 x.2 x.1) (o5 (GN (castL (onL on s.2.2.2.2.length)) x.2) λ(x_1:Int)=>l9 (L6 0 x_1) (some (.rt x_1)) (o5 (G6 s.2.2.2.2 x.2) λ(x_2:aj)=>some (.nx (x.2,x_2.2.2.1)))) (some (.ex PUnit.unit))) (some (.ex PUnit.unit)))
  (s:=((i:Int),r.2.2.1)) (λx=>∃k:Nat,x=((k:Int),eQ s k)/\k<s.2.2.2.2.length/\anc on (eQ s) k=anc on (eQ s) i) (λ_=>anc on (eQ s) i=-1) (λq=>q=anc on (eQ s) i) (λx=>x.1.toNat) ⟨i,by rw[hpr],hi,rfl⟩ Y8 (by
  rintro x ⟨k,rfl,hk,ha⟩;simp only;rw[←ha,c0T on (eQ s) k];by_cases hc:0<=eQ s k/\eQ s k<(k:Int)
  .rw[Y5 hc.1,U6 hc.2,dif_pos hc];simp only[o7];obtain⟨p,hpp⟩:∃p:Nat,eQ s k=(p:Int):=⟨(eQ s k).toNat,l7⟩;rw[hpp,b1R on h (show p<s.2.2.2.2.length by omega),o8,E8];by_cases ho:on p=true
   .rw[if_pos ho,if_pos ho];exact .inr (.inr ⟨_,by rw[Y5 l7];rfl,rfl⟩)
   .rw[if_neg ho,if_neg ho];left;obtain⟨q,hq1,hq2⟩:=hp p l7;refine⟨((p:Int),eQ s p),by rw[Y9 l7,o6,F8,hq1,o8,hq2],⟨p,rfl,l7,?_⟩,by simp;omega⟩;rfl
  .rw[dif_neg hc];right;left;refine⟨PUnit.unit,?_,rfl⟩;by_cases h0:0<=eQ s k
   .rw[Y5 h0,N7 l7];rfl
   .rw[Y9 l7];rfl)
 rcases key with⟨e,k1,k2⟩|⟨q,k1,k2⟩
 .refine(lN k1 _).trans ?_;rw[k2];rfl
 .refine(lN k1 _).trans ?_;rw[k2];rfl
theorem a7X(h:s.2.2.2.2.length<=1000)(d t:Int):Iq s d t=some (dn s d t):=by
 have hl:=Ej (onR s d t) s.2.2.2.2.length;unfold Iq;rw[a5P h,o8];refine dD (castL (aB s d t)) (λ(b:d5R×d5R) (k:Int)=>(b.1++[anc (onR s d t) (eQ s) k.toNat],b.2++[Dn s k.toNat])) (λb i=>(b.1,b.2,i)) (λb=>b) (λi b=>b.1.length=i/\b.2.length=i) (([],[]):d5R×d5R) (by unfold castL aB;simp;omega) x9 (λi a b ha hi hI=>?_) (λb hI=>?_) (λh2=>?_)
 .obtain⟨b1,b2⟩:=b;simp only at hI;simp only[J3 ha,o7,F8 (castL (aB s d t)),ha,o8];rw[show V4 (castL (aB s d t)) (V8 (i:Int))=some a from ha,o8];obtain⟨k,hk,rfl⟩:∃k,k∈aB s d t/\(k:Int)=a:=by
   have:=kK ha;unfold castL at this;exact X5.1 this
  have hlt:=qG hk;have e:=bQ hlt.1;have hil:=(X7.1 ha).1;simp only[castL,L9]at hil;unfold aB at hil;rw[show castL (aB s d t)=castL (onL (onR s d t) s.2.2.2.2.length)from rfl,a7V h _ hlt.1,o8,fK _ l7,o8,o8,F8,e,o8,fK _ l7,o8,Y3 l7];refine⟨?_,by simp[hI.1],by simp[hI.2]⟩;simp only[Dn,E8,e]
 .simp only[I9];rfl
 .have hf:∀(l:d5S) (b:d5R×d5R),(castL l).foldl (λ(b:d5R×d5R) (k:Int)=>(b.1++[anc (onR s d t) (eQ s) k.toNat],b.2++[Dn s k.toNat])) b=(b.1++l.map (anc (onR s d t) (eQ s)),b.2++l.map (Dn s)):=by
   intro l;induction l with
   |nil=>intro b;simp[castL]|cons a l ih=>intro b;rw[show castL (a::l)=(a:Int)::castL l from rfl,O9,ih];simp
  rw[hf];rfl
end
section
def OI(par prio:d5R)(i:Nat):d5X:=match par[i]?,prio[i]? with
 |some p,some q=>l9 (D9 p (-1)) (some 9) (l9 (L6 (i:Int) p) (some 9) (l9 (D9 q 0) (some 3) (l9 (D9 9 q) (some 3) none)))|_,_=>none
def Bv(par prio:d5R):Int:=l9 (F7 (x8 (o9 par) (o9 prio))) 2 (l9 (D9 8 (o9 par)) 4 (match aO par.length (OI par prio)with|some r=>r|none=>0))
theorem b7V(par prio:d5R):yK par prio=some (Bv par prio):=by
 unfold yK Bv;cases h1:x8 (o9 par) (o9 prio)
 .rfl
 simp only[E5,o6];cases h2:D9 8 (o9 par)
 case true=>rfl
 simp only[o6];have hl:par.length=prio.length:=by rw[P7]at h1;simp only[o9]at h1;omega
 refine X8 (uI (p:=OI par prio) par.length (by rw[iM]at h2;simp only[o9]at h2;omega) PUnit.unit (λk hk=>?_) ?_) ?_
 rotate_left 2
 .cases aO par.length (OI par prio)<;>rfl
 .have e:=bQ hk;have e2:=bQ (show k<prio.length by omega);simp only[J3 e,o7,F8,e,e2,o8,OI];cases D9 par[k] (-1)
  case true=>rfl
  cases L6 (k:Int) par[k]
  case true=>rfl
  cases D9 prio[k] 0
  case true=>rfl
  cases D9 9 prio[k]<;>rfl
 .rw[I9];rfl
theorem b1U(par prio:d5R):Ey par prio=some (Bv par prio):=by
 unfold Ey Bv;cases h1:x8 (o9 par) (o9 prio)
 .rfl
 simp only[E5,o6];cases h2:D9 8 (o9 par)
 case true=>rfl
 simp only[o6];have hl:par.length=prio.length:=by rw[P7]at h1;simp only[o9]at h1;omega
 refine X8 (uI (p:=OI par prio) par.length (by rw[iM]at h2;simp only[o9]at h2;omega) PUnit.unit (λk hk=>?_) ?_) ?_
 rotate_left 2
 .cases aO par.length (OI par prio)<;>rfl
 .have e:=bQ hk;have e2:=bQ (show k<prio.length by omega);simp only[J3 e,o7,F8,e,e2,o8,OI];cases D9 par[k] (-1)
  case true=>rfl
  cases L6 (k:Int) par[k]
  case true=>rfl
  cases D9 prio[k] 0
  case true=>rfl
  cases D9 9 prio[k]<;>rfl
 .rw[I9];rfl
theorem uY{ρ:Type}{n:Nat}{p:Nat->Option ρ}(h:aO n p=none):∀i,i<n->p i=none:=by unfold aO at h;intro i hi;exact jL.1 h i (U5.2 hi)
theorem FZ{par prio:d5R}(h:Bv par prio=0):par.length=prio.length/\par.length<=8/\∀(i:Nat) (p:Int),par[i]? =some p->-1<=p/\p<(i:Int):=by
 unfold Bv at h;cases h1:x8 (o9 par) (o9 prio)<;>rw[h1]at h
 .cases h
 simp only[E5,o6]at h;cases h2:D9 8 (o9 par)<;>rw[h2]at h
 case true=>cases h
 simp only[o6]at h;have hl:par.length=prio.length:=by rw[P7]at h1;simp only[o9]at h1;omega
 refine⟨hl,by rw[iM]at h2;simp only[o9]at h2;omega,λi p hp=>?_⟩;have hi:=(X7.1 hp).1;cases hf:aO par.length (OI par prio)with
 |some r=>
  rw[hf]at h;simp only at h;obtain⟨k,hk,hr⟩:=je hf;unfold OI at hr;split at hr
  .subst h;rename_i a b _ _;cases c1:D9 a (-1)<;>rw[c1]at hr<;>try (cases hr;done)
   cases c2:L6 (k:Int) a<;>rw[c2]at hr<;>try (cases hr;done)
   cases c3:D9 b 0<;>rw[c3]at hr<;>try (cases hr;done)
   cases c4:D9 9 b<;>rw[c4]at hr<;>cases hr
  .cases hr
 |none=>
  have:=uY hf i hi;unfold OI at this;rw[hp,bQ (show i<prio.length by omega)]at this;simp only at this;cases c1:D9 p (-1)<;>rw[c1]at this
  case true=>cases this
  cases c2:L6 (i:Int) p<;>rw[c2]at this
  case true=>cases this
  rw[iM]at c1;rw[DX]at c2;exact⟨c1,c2⟩
def a2Y(par:d5R)(at' :Int)(i:Nat):Bool:=match par[i]? with|some p=>x8 p at'|none=>false
def kids(par:d5R)(at' :Int):d5S:=onL (a2Y par at') par.length
variable {par:d5R}
theorem Xh(h:par.length<=1000)(at' :Int):vM par at' =some (castL (kids par at')):=by
 unfold vM;rw[gU];obtain⟨e,h1,h2⟩:=iG (f:=λ(x:d5R×Int)=>l9 (D9 x.2 (o9 par)) (o5 (G6 par x.2) λ(x_1:Int)=>l9 (x8 x_1 at') (o5 (bV x.1 [x.2]) λ(x_2:d5R)=>some (.inl (x_2,C9 .i64 x.2 1))) (some (.inl (x.1,C9 .i64 x.2 1)))) (some (.inr x.1)))
  (s:=([],0)) (λx=>∃i:Nat,x=(castL (onL (a2Y par at') i),(i:Int))/\i<=par.length) (λe=>e=castL (kids par at')) (λx=>par.length -x.2.toNat) ⟨0,rfl,l7⟩ Y8 (by
  rintro x ⟨i,rfl,hi⟩;by_cases hlt:i<par.length
  .left;have e:=bQ hlt;have hol:=Ej (a2Y par at') i;refine⟨(castL (onL (a2Y par at') (i+1)),((i+1:Nat):Int)),?_,⟨i+1,rfl,hlt⟩,by simp;omega⟩;simp only[J3 e,o7,F8,e,o8];rw[Y3 l7,fK _ (by simp[castL];omega),Jo];have hon:a2Y par at' i=x8 par[i] at' :=by unfold a2Y;rw[e]
   rw[hon];cases x8 par[i] at'<;>simp[castL]
  .right;have:i=par.length:=l7;subst this;exact⟨_,by rw[I9];rfl,rfl⟩)
 rw[h1,h2]
theorem a3t:Jy=vM:=rfl
theorem Yt{at' :Int}{i:Nat}(h:i∈kids par at'):i<par.length/\par[i]? =some at' :=by obtain⟨h1,h2⟩:=Wx _ h;refine⟨h1,?_⟩;unfold a2Y at h2;rw[bQ h1]at h2 ⊢;simp only[P7]at h2;rw[h2]
def bG(oc pr:Int->Int)(acc:d5R)(a:Int):d5R:=l9 (x8 (oc a) (-1)) acc (match acc with
 |[]=>[a]
 |b::r=>l9 (D9 (pr b) (pr a)) [a] (l9 (x8 (pr a) (pr b)) (b::r++[a]) (b::r)))
theorem b2Z(oc pr:Int->Int){acc:d5R}{a x:Int}(h:x∈bG oc pr acc a):x∈acc\/x=a:=by
 unfold bG at h;cases h1:x8 (oc a) (-1)<;>rw[h1]at h
 case true=>exact .inl h
 simp only[o6]at h;cases acc with
 |nil=>exact .inr (by simpa using h)|cons b r=>
  simp only at h;cases h2:D9 (pr b) (pr a)<;>rw[h2]at h
  .simp only[o6]at h;cases h3:x8 (pr a) (pr b)<;>rw[h3]at h
   .exact .inl h
   .simp only[o7]at h;rcases D5.1 h with h|h
    .exact .inl h
    .exact .inr (by simpa using h)
  .exact .inr (by simpa using h)
theorem c1m(oc pr:Int->Int)(acc:d5R)(a:Int):(bG oc pr acc a).length<=acc.length+1:=by
 unfold bG;cases x8 (oc a) (-1)
 case true=>simp
 simp only[o6];cases acc with
 |nil=>simp|cons b r=>
  simp only;cases D9 (pr b) (pr a)
  .cases x8 (pr a) (pr b)<;>simp
  .simp
def qR(oc pr:Int->Int)(l:d5R):d5R:=l.foldl (bG oc pr) []
theorem a4t(oc pr:Int->Int):∀(l acc:d5R) (x:Int),x∈l.foldl (bG oc pr) acc->x∈acc\/x∈l
 |[],acc,x,h=> .inl h|a::l,acc,x,h=>by
  rcases a4t oc pr l _ x h with h|h
  .rcases b2Z oc pr h with h|h
   .exact .inl h
   .exact .inr (by simp[h])
  .exact .inr (by simp[h])
variable {x:Int}
theorem LD{oc pr:Int->Int}{l:d5R}(h:x∈qR oc pr l):x∈l:=by
 rcases a4t oc pr l [] x h with h|h
 .cases h
 .exact h
theorem YW{oc oc' pr:Int->Int} :∀(l acc:d5R),(∀x∈l,oc x=oc' x)->l.foldl (bG oc pr) acc=l.foldl (bG oc' pr) acc
 |[],acc,_=>rfl|a::l,acc,h=>by rw[O9,O9,YW l _ λx hx=>h x (by simp[hx])];congr 1;unfold bG;rw[h a x9]
def chF(oc pr:Int->Int)(l:d5R):Int:=match qR oc pr l with|[]=>-1|[b]=>oc b|_=>-2
theorem a1v{oc oc' pr:Int->Int}{l:d5R}(h:∀x∈l,oc x=oc' x):chF oc pr l=chF oc' pr l:=by
 have e:qR oc pr l=qR oc' pr l:=YW l [] h;unfold chF;rw[e];cases hb:qR oc' pr l with
 |nil=>rfl|cons b r=>
  cases r with
  |nil=>exact h b (LD (oc:=oc') (pr:=pr) (by rw[hb];simp))|cons c r=>rfl
section
variable (par prio:d5R) (ap:d5V)
def prF(i:Int):Int:=prio.getD i.toNat 0
def apF(i:Int):Bool:=ap.getD i.toNat false
def ocF:Nat->Int->Int
 |0,_=>-1|k+1,i=>l9 (x8 (chF (ocF k) (prF prio) (castL (kids par i))) (-1)) (l9 (apF ap i) i (-1)) (chF (ocF k) (prF prio) (castL (kids par i)))
variable (hv:Bv par prio=0)
include hv
theorem NE{i x:Int}(h:x∈castL (kids par i)):i<x/\x<(par.length:Int)/\0<=x:=by unfold castL at h;obtain⟨k,hk,rfl⟩:=X5.1 h;obtain⟨h1,h2⟩:=Yt hk;have:=(FZ hv).2.2 k i h2;omega
theorem a2a:∀(k k' :Nat) (i:Int),(par.length:Int) -i<=k->(par.length:Int) -i<=k' ->i<par.length->ocF par prio ap k i=ocF par prio ap k' i
 |0,_,i,h,_,h2=>by omega|_+1,0,i,_,h,h2=>by omega|k+1,k' +1,i,h,h',h2=>by
  unfold ocF;have:chF (ocF par prio ap k) (prF prio) (castL (kids par i))=chF (ocF par prio ap k') (prF prio) (castL (kids par i)):=
   a1v λx hx=>by have:=NE par prio hv hx;exact a2a k k' x l7 l7 l7
  rw[this]
end
end
section
theorem NR{prio:d5R}{i:Int}(h0:0<=i)(h:i<o9 prio):G6 prio i=some (prF prio i):=by obtain⟨x,hx,_⟩:=lZ h0 h;rw[hx];have:=(dU hx).2.2.2;unfold prF;rw[uZ,this];rfl
theorem a1s{f:d5R×Int->Option ((d5R×Int)⊕d5R)}(oc:Int->Int)(prio:d5R)(l:d5R)(hl:l.length<=1000)(hr:∀x∈l,0<=x/\x<o9 prio)
  (hin:∀(i:Nat) (a:Int) (acc:d5R),l[i]? =some a->acc.length<=1000->(∀x∈acc,0<=x/\x<o9 prio)->0<=a->a<o9 prio->f (acc,(i:Int))=some (.inl (bG oc (prF prio) acc a,C9 .i64 (i:Int) 1)))
  (hend:∀acc,f (acc,(l.length:Int))=some (.inr acc)):ay f ([],0)=some (qR oc (prF prio) l):=by
 refine(nO l (bG oc (prF prio)) (λb i=>(b,i)) (λb=>b) (λi acc=>acc.length<=i/\∀x∈acc,0<=x/\x<o9 prio) (b:=[]) l7 ⟨x9,x9⟩ (λi a acc ha hi hI=>?_) (λacc hI=>hend acc)).1;have hlt:=(X7.1 ha).1;have ham:=hr a (kK ha);rw[hin i a acc ha l7 hI.2 ham.1 ham.2,Y3 l7];refine⟨rfl,by have:=c1m oc (prF prio) acc a;omega,λx hx=>?_⟩;rcases b2Z _ _ hx with h|h
 .exact hI.2 x h
 .rw[h];exact ham
section
variable (par prio:d5R) (ap:d5V) (hv:Bv par prio=0) (hap:ap.length=par.length)
def OC(i:Int):Int:=ocF par prio ap (par.length+1) i
def chS(at' :Int):Int:=chF (OC par prio ap) (prF prio) (castL (kids par at'))
include hv in
theorem a1l{i:Int}(h0:-1<=i)(h:i<par.length):OC par prio ap i=l9 (x8 (chS par prio ap i) (-1)) (l9 (apF ap i) i (-1)) (chS par prio ap i):=by
 unfold OC chS;rw[ocF];have:chF (ocF par prio ap par.length) (prF prio) (castL (kids par i))=chF (OC par prio ap) (prF prio) (castL (kids par i)):=
  a1v λx hx=>by have:=NE par prio hv hx;exact a2a par prio ap hv _ _ x l7 l7 l7
 rw[this]
include hv in
theorem a5e(i:Int):(castL (kids par i)).length<=8:=by have h1:=Ej (a2Y par i) par.length;have h2:=(FZ hv).2.1;unfold castL kids;rw[L9];omega
include hv in
theorem a1S{i x:Int}(h:x∈castL (kids par i)):0<=x/\x<o9 prio:=by have:=NE par prio hv h;have h2:=(FZ hv).1;simp only[o9];omega
include hv in
theorem b7R(arr:d5R)(i:Int)(hA:∀x∈castL (kids par i),G6 arr x=some (OC par prio ap x)):xO (par,prio,arr) i=some (qR (OC par prio ap) (prF prio) (castL (kids par i))):=by
 unfold xO;rw[Xh (by have:=(FZ hv).2.1;simp only;omega),o8,gU];refine a1s (OC par prio ap) prio _ (by have:=a5e par prio hv i;omega) (λx hx=>a1S par prio hv hx) (λk a acc ha hl hacc h0 h1=>?_) (λacc=>?_)
 .simp only[J3 ha,o7,F8 (castL (kids par i)),ha,o8];rw[show V4 (castL (kids par i)) (V8 (k:Int))=some a from ha,o8,hA a (kK ha),o8];unfold bG;cases x8 (OC par prio ap a) (-1)
  case true=>rfl
  simp only[o6,NR h0 h1,o8];cases acc with
  |nil=>simp only[N7 (show o9 ([]:d5R)<=0 by simp[o9]),o6,o8,O5 (show o9 ([]:d5R)=0 from rfl),o7,fK a (show([]:d5R).length<=1000000 by simp)];rfl|cons b r=>
   have hb:=hacc b x9;simp only[U6 (show(0:Int)<o9 (b::r) by simp[o9]<;>omega),o7,show G6 (b::r) 0=some b from rfl,show V4 (b::r) (V8 0)=some b from rfl,o8,NR hb.1 hb.2];cases D9 (prF prio b) (prF prio a)
   .simp only[o6,o8,O8 (show o9 (b::r)≠0 by simp[o9]<;>omega),show G6 (b::r) 0=some b from rfl,show V4 (b::r) (V8 0)=some b from rfl,NR hb.1 hb.2];cases x8 (prF prio a) (prF prio b)
    .rfl
    .rw[o7,o7,fK _ l7];rfl
   .simp only[o7,show uf 0 0 (o9 (b::r))=true by simp[uf,o9]<;>omega,show qj (b::r) (V8 0) (V8 0)=[]from rfl,o8,O5 (show o9 ([]:d5R)=0 from rfl),fK a (show([]:d5R).length<=1000000 by simp)];rfl
 .simp only[I9];rfl
include hv in
theorem b0c(arr:d5R)(i:Int)(hA:∀x∈castL (kids par i),G6 arr x=some (OC par prio ap x)):jv (par,prio,arr) i=some (chS par prio ap i):=by
 unfold jv chS chF;rw[b7R par prio ap hv arr i hA,o8];have hsub:∀x∈qR (OC par prio ap) (prF prio) (castL (kids par i)),G6 arr x=some (OC par prio ap x):=λx hx=>hA x (LD hx);generalize qR (OC par prio ap) (prF prio) (castL (kids par i))=b at*;match b,hsub with
 |[],_=>rfl|[x],hsub=>simp only[O8 (show o9 [x]≠0 by simp[o9]),O5 (show o9 [x]=1 from rfl),o6,o7,show G6 [x] 0=some x from rfl,show V4 [x] (V8 0)=some x from rfl,o8,hsub x x9]|x::y::r,_=>rw[O8 (by simp[o9];omega),O8 (by simp[o9];omega)];rfl
include hv hap in
theorem a5E:∃arr,yL par prio ap=some arr/\∀x,0<=x->x<(par.length:Int)->G6 arr x=some (OC par prio ap x):=by
 have h8:=(FZ hv).2.1;unfold yL;rw[show pR (o9 par) (0:Int)=some (List.replicate par.length 0) by unfold pR;rw[if_pos (by simp[o9];omega)];simp[o9],o8];have key:=iG (f:=λ(x:lG×Int)=>l9 (L6 0 x.2) (o5 (jv x.1 x.2) λ(x_1:Int)=>o5 (G6 x.1.2.2 x.2) λ(x_2:Int)=>o5 (V4 x.1.2.2 (V8 x.2)) λ(x_3:Int)=>
   o5 (G6 (aU x.1.2.2 (V8 x.2) x_1) x.2) λ(x_4:Int)=>o5 (V4 (aU x.1.2.2 (V8 x.2) x_1) (V8 x.2)) λ(x_5:Int)=>l9 (x8 x_5 (-1)) (o5 (G6 ap x.2) λ(x_6:Bool)=>l9 x_6 (o5 (G6 (aU x.1.2.2 (V8 x.2) x_1) x.2) λ(x_7:Int)=>
    o5 (V4 (aU x.1.2.2 (V8 x.2) x_1) (V8 x.2)) λ(x_8:Int)=>some (.inl ((x.1.1,x.1.2.1,aU (aU x.1.2.2 (V8 x.2) x_1) (V8 x.2) x.2),J9 .i64 x.2 1))) (some (.inl ((x.1.1,x.1.2.1,aU x.1.2.2 (V8 x.2) x_1),J9 .i64 x.2 1))))
     (some (.inl ((x.1.1,x.1.2.1,aU x.1.2.2 (V8 x.2) x_1),J9 .i64 x.2 1)))) (some (.inr x.1)))
  (s:=((par,prio,List.replicate par.length 0),J9 .i64 (o9 par) 1)) (λx=>∃(arr:d5R) (i:Int),x=((par,prio,arr),i)/\-1<=i/\i<par.length/\arr.length=par.length/\∀x,i<x->x<(par.length:Int)->G6 arr x=some (OC par prio ap x))
  (λy=>∃arr:d5R,y=(par,prio,arr)/\∀x,0<=x->x<(par.length:Int)->G6 arr x=some (OC par prio ap x)) (λx=>(x.2+1).toNat) ?_ ?_ ?_
 .obtain⟨y,k1,arr,rfl,k3⟩:=key;refine⟨arr,(lN k1 _).trans rfl,k3⟩
 .exact⟨_,_,rfl,by rw[X3 (by unfold kE o9;omega)];simp[o9];omega,by rw[X3 (by unfold kE o9;omega)];simp only[o9];omega,x9,λx h1 h2=>by rw[X3 (by unfold kE o9;omega)]at h1;simp only[o9]at h1;omega⟩
 .rw[X3 (by unfold kE o9;omega)];simp[o9];omega
 .rintro x ⟨arr,i,rfl,h1,h2,hlen,hA⟩;by_cases h0:0<=i
  .left;obtain⟨k,rfl⟩:∃k:Nat,i=(k:Int):=⟨i.toNat,l7⟩;have hk:k<arr.length:=l7;have hka:k<ap.length:=l7;have e:=bQ hk;have ea:=bQ hka;have hch:=b0c par prio ap hv arr (k:Int) (λx hx=>by
    have:=NE par prio hv hx;exact hA x this.1 this.2.1)
   have hs:∀v:Int,G6 (aU arr (V8 (k:Int)) v) (k:Int)=some v:=λv=>by rw[F8];show(arr.set k v)[k]? =some v;rw[iJ hk]
   have hs2:∀v:Int,V4 (aU arr (V8 (k:Int)) v) (V8 (k:Int))=some v:=λv=>by have:=hs v;rw[F8]at this;exact this
   have hsub:J9 .i64 (k:Int) 1=(k:Int) -1:=X3 U4;have hoc:=a1l par prio ap hv (i:=(k:Int)) l7 l7;have hapk:apF ap (k:Int)=ap[k]:=by unfold apF;rw[E8,uZ,ea];rfl
   rw[hapk]at hoc;refine⟨((par,prio,arr.set k (OC par prio ap (k:Int))),(k:Int) -1),?_,⟨_,_,rfl,l7,l7,by simp[hlen],λx hx1 hx2=>?_⟩,by simp<;>omega⟩
   .simp only[Y5 h0,o7,hch,o8,F8 arr,e,show V4 arr (V8 (k:Int))=some arr[k]from e,hs,hs2,F8 ap,ea,hsub];rw[hoc];cases hq:x8 (chS par prio ap (k:Int)) (-1)
    .simp only[o6];rfl
    .simp only[o7];cases ap[k]
     .rw[P7.1 hq];rfl
     .simp only[o7];show some (Sum.inl ((par,prio,(arr.set k _).set k _),_))=_;rw[List.set_set]
   .unfold G6
    rw[if_pos l7];by_cases hxk:x=(k:Int)
    .rw[hxk,E8,iJ hk]
    .have:=hA x l7 hx2;unfold G6 at this;rw[if_pos l7]at this;rw[Z5,if_neg l7];exact this
  .right;exact⟨(par,prio,arr),by rw[Y9 l7];rfl,arr,rfl,λx hx1 hx2=>hA x l7 hx2⟩
end
def EY(par prio:d5R)(ap:d5V):Int:=l9 (x8 (Bv par prio) 0) (l9 (x8 (o9 ap) (o9 par)) (chS par prio ap (-1)) (-1)) (-1)
theorem b2s(par prio:d5R)(ap:d5V):Ce par prio ap=some (EY par prio ap):=by
 unfold Ce EY;rw[b7V,o8];cases hv:x8 (Bv par prio) 0
 .rfl
 simp only[E5,o6,o7];cases hl:x8 (o9 ap) (o9 par)
 .rfl
 simp only[E5,o6,o7];have hv' :=P7.1 hv;have hl' :ap.length=par.length:=by rw[P7]at hl;simp only[o9]at hl;omega
 obtain⟨arr,h1,h2⟩:=a5E par prio ap hv' hl';rw[h1,o8,gU];exact b0c par prio ap hv' arr (-1) λx hx=>by have:=NE par prio hv' hx;exact h2 x this.2.2 this.2.1
section
variable (par prio:d5R) (ap:d5V) (hv:Bv par prio=0) (hap:ap.length=par.length)
include hv hap in
theorem a3A:∀(f:Nat) (i:Int),-1<=i->i<par.length->
  (3*((par.length:Int) -i) -1<=f->(J7 f).1 par prio ap i=some (chS par prio ap i))/\
  (3*((par.length:Int) -i) -2<=f->(J7 f).2.1 par prio ap i=some (qR (OC par prio ap) (prF prio) (castL (kids par i))))/\
  (0<=i->3*((par.length:Int) -i)<=f->(J7 f).2.2 par prio ap i=some (OC par prio ap i))
 |0,i,h1,h2=>⟨λh=>by omega,λh=>by omega,λ_ h=>by omega⟩|f+1,i,h1,h2=>by
  obtain⟨ih1,ih2,ih3⟩:=a3A f i h1 h2;have hkid:∀x∈castL (kids par i),3*((par.length:Int) -i) -3<=f->(J7 f).2.2 par prio ap x=some (OC par prio ap x):=λx hx hf=>by have hk:=NE par prio hv hx;exact(a3A f x l7 l7).2.2 hk.2.2 l7
  refine⟨λh=>?_,λh=>?_,λh0 h=>?_⟩
  .show AU (J7 f).1 (J7 f).2.1 (J7 f).2.2 par prio ap i=_;unfold AU;rw[ih2 l7,o8];unfold chS chF;have hsub:∀x∈qR (OC par prio ap) (prF prio) (castL (kids par i)),(J7 f).2.2 par prio ap x=some (OC par prio ap x):=λx hx=>hkid x (LD hx) l7;generalize qR (OC par prio ap) (prF prio) (castL (kids par i))=b at*;match b,hsub with
   |[],_=>rfl|[x],hsub=>simp only[O8 (show o9 [x]≠0 by simp[o9]),N7 (show o9 [x]<=1 by simp[o9]),o6,show G6 [x] 0=some x from rfl,o8,hsub x x9]|x::y::r,_=>rw[O8 (by simp[o9];omega),U6 (by simp[o9];omega)];rfl
  .show He (J7 f).1 (J7 f).2.1 (J7 f).2.2 par prio ap i=_;unfold He;rw[a3t,Xh (by have:=(FZ hv).2.1;omega),o8,gU];refine a1s (OC par prio ap) prio _ (by have:=a5e par prio hv i;omega) (λx hx=>a1S par prio hv hx) (λk a acc ha hl hacc g0 g1=>?_) (λacc=>?_)
   .simp only[J3 ha,o7,F8 (castL (kids par i)),ha,o8];rw[show V4 (castL (kids par i)) (V8 (k:Int))=some a from ha,o8,hkid a (kK ha) l7,o8];unfold bG;cases x8 (OC par prio ap a) (-1)
    case true=>rfl
    simp only[o6,o8,NR g0 g1];cases acc with
    |nil=>simp only[N7 (show o9 ([]:d5R)<=0 by simp[o9]),o6,o8,O5 (show o9 ([]:d5R)=0 from rfl),o7,fK a (show([]:d5R).length<=1000000 by simp)];rfl|cons b r=>
     have hb:=hacc b x9;simp only[U6 (show(0:Int)<o9 (b::r) by simp[o9]<;>omega),o7,show G6 (b::r) 0=some b from rfl,show V4 (b::r) (V8 0)=some b from rfl,o8,NR hb.1 hb.2];cases D9 (prF prio b) (prF prio a)
     .simp only[o6,o8,O8 (show o9 (b::r)≠0 by simp[o9]<;>omega),show G6 (b::r) 0=some b from rfl,show V4 (b::r) (V8 0)=some b from rfl,NR hb.1 hb.2];cases x8 (prF prio a) (prF prio b)
      .rfl
      .rw[o7,o7,fK _ l7];rfl
     .simp only[o7,o8,O5 (show o9 ([]:d5R)=0 from rfl),fK a (show([]:d5R).length<=1000000 by simp)];rfl
   .simp only[I9];rfl
  .show CU (J7 f).1 (J7 f).2.1 (J7 f).2.2 par prio ap i=_;unfold CU;rw[ih1 l7,o8,a1l par prio ap hv h1 h2];obtain⟨k,rfl⟩:∃k:Nat,i=(k:Int):=⟨i.toNat,l7⟩;have ea:=bQ (show k<ap.length by omega);have hapk:apF ap (k:Int)=ap[k]:=by unfold apF;rw[E8,uZ,ea];rfl
   rw[hapk,F8,ea,o8];cases hq:x8 (chS par prio ap (k:Int)) (-1)
   .rfl
   .simp only[o7];rw[P7.1 hq];cases ap[k]<;>rfl
end
theorem a7W(par prio:d5R)(ap:d5V):Ip par prio ap=some (EY par prio ap):=by
 unfold Ip EY;rw[b1U,o8];cases hv:x8 (Bv par prio) 0
 .rfl
 simp only[E5,o6,o7];cases hl:x8 (o9 ap) (o9 par)
 .rfl
 simp only[E5,o6,o7];have hv' :=P7.1 hv;have hl' :ap.length=par.length:=by rw[P7]at hl;simp only[o9]at hl;omega
 have h8:=(FZ hv').2.1;have:=(a3A par prio ap hv' hl' iL (-1) l7 l7).1 (by unfold iL;omega);rw[show Jz par prio ap (-1)=(J7 iL).1 par prio ap (-1)from rfl,this];rfl
variable {l:d5R}{i:Nat}
theorem b1i(h:i<l.length):G6 l (i:Int)=some (hg l i):=by rw[F8];exact zT h
variable {j:Nat}
theorem a4W(hi:i<l.length)(hj:j<l.length):eU l (i:Int) (j:Int)=some (D9 (hg l i) (hg l j)):=by unfold eU;rw[b1i hi,o8,b1i hj,o8]
theorem a4X(hi:i<l.length)(hj:j<l.length):fV l (i:Int) (j:Int)=some (swp l i j):=by
 unfold fV;have e1:V4 l (V8 (i:Int))=some (hg l i):=zT hi;have e2:V4 l (V8 (j:Int))=some (hg l j):=zT hj;have hj2:j<(aU l (V8 (i:Int)) (hg l j)).length:=by show j<(l.set i (hg l j)).length;simp[hj]
 have e3:V4 (aU l (V8 (i:Int)) (hg l j)) (V8 (j:Int))=some (hg (aU l (V8 (i:Int)) (hg l j)) j):=zT hj2;rw[b1i hj,o8,e2,o8,b1i hi,o8,e1,o8,o8,o8,b1i hj2,o8,e3,o8];rfl
theorem C_{l m:d5R}(h:l.Perm m):l.length=m.length:=h.length_eq
theorem d5h(hl:l.length<=100000)(hj:j<l.length)(h:Vy l j):∃l',yF l (j:Int)=some l' /\OO l' l'.length/\l'.Perm l:=by
 unfold yF;have key:=iG (f:=λ(x:d5R×Int)=>l9 (x8 (dY .i64 (J9 .i64 x.2 1) 2) x.2) (some (.inr x.1)) (o5 (eU x.1 x.2 (dY .i64 (J9 .i64 x.2 1) 2)) λ(x_1:Bool)=>l9 (F7 x_1) (some (.inr x.1))
   (o5 (fV x.1 (dY .i64 (J9 .i64 x.2 1) 2) x.2) λ(x_2:d5R)=>some (.inl (x_2,dY .i64 (J9 .i64 x.2 1) 2)))))
  (s:=(l,(j:Int))) (λx=>∃(m:d5R) (k:Nat),x=(m,(k:Int))/\k<m.length/\Vy m k/\m.Perm l) (λm=>OO m m.length/\m.Perm l) (λx=>x.2.toNat) ⟨l,j,rfl,hj,h,List.Perm.refl _⟩ Y8 (by
  rintro x ⟨m,k,rfl,hk,hu,hp⟩;have hm:=C_ hp;by_cases h0:k=0
  .subst h0;exact .inr ⟨m,rfl,ZG hu (.inl rfl),hp⟩
  have hpar:dY .i64 (J9 .i64 (k:Int) 1) 2=(((k -1) / 2:Nat):Int):=by rw[X3 U4,Be (by rw[ku l7];unfold kE;omega),ku l7];omega
  simp only[hpar];rw[O8 l7,o6,a4W hk l7,o8];cases hc:D9 (hg m k) (hg m ((k -1) / 2))
  .exact .inr ⟨m,rfl,ZG hu (.inr (by rw[iM]at hc;exact hc)),hp⟩
  .rw[E5,o6,a4X l7 hk];exact .inl ⟨(swp m ((k -1) / 2) k,(((k -1) / 2:Nat):Int)),rfl,⟨_,_,rfl,by rw[Oj];omega,a4V hu l7 hk (jK.1 hc),(Ql l7 hk).trans hp⟩,by simp;omega⟩)
 obtain⟨m,k1,k2,k3⟩:=key;exact⟨m,(lN k1 _).trans rfl,k2,k3⟩
theorem a1K(hl:l.length<=1000)(h:OO l l.length)(x:Int):∃l',iO l x=some l' /\OO l' l'.length/\l'.Perm (l++[x]):=by
 unfold iO DK mi;rw[fK _ l7,o8,o8,o8];have hlen:(l++[x]).length=l.length+1:=x9;have hu:Vy (l++[x]) l.length:=by
  refine⟨λk k0 k1 k2=>?_,λh0 k k0 k1 k2=>by omega⟩;have hk:k<l.length:=l7;have hga:∀i,i<l.length->hg (l++[x]) i=hg l i:=λi hi=>by unfold hg;rw[uZ,uZ,U8 hi]
  rw[hga k hk,hga _ l7];exact h k k0 hk
 obtain⟨m,k1,k2,k3⟩:=d5h (l:=l++[x]) (j:=l.length) l7 l7 hu;refine⟨m,?_,k2,k3⟩;rw[show J9 .i64 (o9 (l++[x])) 1=((l.length:Nat):Int) by rw[X3 (by unfold kE o9;omega)];simp[o9],k1];rfl
theorem b8t{n i:Nat}(hl:l.length<=100000)(hn:n<=l.length)(hi:i<l.length)(h:Lt l n i):∃b l',ww l (i:Int) (n:Int)=some (b,l')/\OO l' n/\l'.Perm l/\l'.drop n=l.drop n:=by
 unfold ww;have key:=iG (f:=λ(x:d5R×Int)=>l9 (L6 (n:Int) (C9 .i64 (az .i64 2 x.2) 1)) (some (.inr x)) (l9 (D9 (C9 .i64 (az .i64 2 x.2) 1) 0) (some (.inr x)) (l9 (D9 (C9 .i64 (C9 .i64 (az .i64 2 x.2) 1) 1) (n:Int))
   (o5 (eU x.1 (C9 .i64 (C9 .i64 (az .i64 2 x.2) 1) 1) (C9 .i64 (az .i64 2 x.2) 1)) λ(x_1:Bool)=>l9 x_1 (o5 (eU x.1 (C9 .i64 (C9 .i64 (az .i64 2 x.2) 1) 1) x.2) λ(x_2:Bool)=>l9 (F7 x_2) (some (.inr x))
     (o5 (fV x.1 x.2 (C9 .i64 (C9 .i64 (az .i64 2 x.2) 1) 1)) λ(x_3:d5R)=>some (.inl (x_3,C9 .i64 (C9 .i64 (az .i64 2 x.2) 1) 1)))) (o5 (eU x.1 (C9 .i64 (az .i64 2 x.2) 1) x.2) λ(x_2:Bool)=>l9 (F7 x_2) (some (.inr x))
     (o5 (fV x.1 x.2 (C9 .i64 (az .i64 2 x.2) 1)) λ(x_3:d5R)=>some (.inl (x_3,C9 .i64 (az .i64 2 x.2) 1)))))
   (o5 (eU x.1 (C9 .i64 (az .i64 2 x.2) 1) x.2) λ(x_1:Bool)=>l9 (F7 x_1) (some (.inr x)) (o5 (fV x.1 x.2 (C9 .i64 (az .i64 2 x.2) 1)) λ(x_2:d5R)=>some (.inl (x_2,C9 .i64 (az .i64 2 x.2) 1)))))))
  (s:=(l,(i:Int))) (λx=>∃(m:d5R) (k:Nat),x=(m,(k:Int))/\k<m.length/\Lt m n k/\m.Perm l/\m.drop n=l.drop n) (λy=>OO y.1 n/\y.1.Perm l/\y.1.drop n=l.drop n) (λx=>l.length -x.2.toNat) ⟨l,i,rfl,hi,h,List.Perm.refl _,rfl⟩ Y8 (by
  rintro x ⟨m,k,rfl,hk,hd,hp,hdr⟩;have hm:=C_ hp;have hc1:C9 .i64 (az .i64 2 (k:Int)) 1=((2*k+1:Nat):Int):=by rw[nI U4,ai U4];omega
  have hc2:C9 .i64 (((2*k+1:Nat):Int)) 1=((2*k+2:Nat):Int):=by rw[ai U4];omega
  have dswp:∀a b,a<n->b<n->(swp m a b).drop n=l.drop n:=λa b ha hb=>by unfold swp;rw[List.drop_set_of_lt hb,List.drop_set_of_lt ha,hdr]
  simp only[hc1,hc2];by_cases h1:n<=2*k+1
  .rw[Y5 l7,o7];exact .inr ⟨_,rfl,Hy hd (λj j0 j1 j2=>by omega),hp,hdr⟩
  rw[Y9 l7,o6,N7 l7,o6];by_cases h2:2*k+2<n
  .rw[U6 l7,o7,a4W l7 l7,o8];cases hc:D9 (hg m (2*k+2)) (hg m (2*k+1))
   .rw[iM]at hc;rw[o6,a4W l7 hk,o8];cases hq:D9 (hg m (2*k+1)) (hg m k)
    .rw[iM]at hq;exact .inr ⟨_,rfl,Hy hd (λj j0 j1 j2=>by have:j=2*k+1\/j=2*k+2:=l7;rcases this with rfl|rfl<;>(dsimp only;omega)),hp,hdr⟩
    .rw[E5,o6,a4X hk l7];exact .inl ⟨(swp m k (2*k+1),((2*k+1:Nat):Int)),rfl,⟨_,_,rfl,by rw[Oj];omega,Ld hd l7 l7 l7 l7 (λj j0 j1 j2=>by
      have:j=2*k+1\/j=2*k+2:=l7;rcases this with rfl|rfl
      .exact aX _
      .exact hc) (jK.1 hq),(Ql hk l7).trans hp,dswp _ _ l7 l7⟩,by simp;omega⟩
   .rw[jK]at hc;rw[o7,a4W l7 hk,o8];cases hq:D9 (hg m (2*k+2)) (hg m k)
    .rw[iM]at hq;exact .inr ⟨_,rfl,Hy hd (λj j0 j1 j2=>by have:j=2*k+1\/j=2*k+2:=l7;rcases this with rfl|rfl<;>(dsimp only;omega)),hp,hdr⟩
    .rw[E5,o6,a4X hk l7];exact .inl ⟨(swp m k (2*k+2),((2*k+2:Nat):Int)),rfl,⟨_,_,rfl,by rw[Oj];omega,Ld hd l7 l7 l7 l7 (λj j0 j1 j2=>by
      have:j=2*k+1\/j=2*k+2:=l7;rcases this with rfl|rfl
      .omega
      .exact aX _) (jK.1 hq),(Ql hk l7).trans hp,dswp _ _ l7 l7⟩,by simp;omega⟩
  .rw[N7 l7,o6,a4W l7 hk,o8];cases hq:D9 (hg m (2*k+1)) (hg m k)
   .rw[iM]at hq;exact .inr ⟨_,rfl,Hy hd (λj j0 j1 j2=>by have:j=2*k+1:=l7;subst this;omega),hp,hdr⟩
   .rw[E5,o6,a4X hk l7];exact .inl ⟨(swp m k (2*k+1),((2*k+1:Nat):Int)),rfl,⟨_,_,rfl,by rw[Oj];omega,Ld hd l7 l7 l7 l7 (λj j0 j1 j2=>by have:j=2*k+1:=l7;subst this;exact aX _) (jK.1 hq),(Ql hk l7).trans hp,dswp _ _ l7 l7⟩,by simp;omega⟩)
 obtain⟨y,k1,k2,k3,k4⟩:=key;exact⟨D9 (i:Int) y.2,y.1,(lN k1 _).trans rfl,k2,k3,k4⟩
theorem b3F(hl:l.length<=1000)(h:OO l l.length)(h0:0<l.length):∃l',sO l=some (hg l 0,l')/\OO l' l'.length/\(l' ++[hg l 0]).Perm l:=by
 obtain⟨n,hn⟩:∃n,l.length=n+1:=⟨l.length -1,l7⟩;have hsub:J9 .i64 ((l.length:Nat):Int) 1=((n:Nat):Int):=by rw[X3 U4];omega
 unfold sO mi;rw[o8,show o9 l=((l.length:Nat):Int)from rfl,hsub,show(0:Int)=((0:Nat):Int)from rfl,a4X l7 l7,o8];have hlen:(swp l 0 n).length=n+1:=by rw[Oj,hn]
 obtain⟨b,m,k1,k2,k3,k4⟩:=b8t (l:=swp l 0 n) (n:=n) (i:=0) l7 l7 l7 (a7r h l7);rw[k1,o8];have hml:=C_ k3;have hmn:m.length=n+1:=l7;have hlast:hg m n=hg l 0:=by
  have e1:(m.drop n)[0]? =((swp l 0 n).drop n)[0]?:=by rw[k4]
  rw[Y6,Y6,dN,zT l7,zT l7]at e1;rw[P5 e1,a2T l7 l7,if_pos rfl]
 unfold Fg;dsimp only;have hs2:J9 .i64 (o9 m) 1=((n:Nat):Int):=by rw[show o9 m=((m.length:Nat):Int)from rfl,hmn,X3 U4];omega
 rw[hs2,b1i l7,o8,show V4 m (V8 (n:Int))=some (hg m n)from zT (i:=n) l7,o8,show uf 0 (n:Int) (o9 m)=true by simp[uf,o9];omega,o7,show qj m (V8 0) (V8 (n:Int))=m.take n by simp[qj,V8],hlast];refine⟨m.take n,rfl,?_,?_⟩
 .have:(m.take n).length=n:=by simp;omega
  rw[this];intro k k0 k1';have hga:∀i,i<n->hg (m.take n) i=hg m i:=λi hi=>by unfold hg;rw[uZ,uZ,ja hi]
  rw[hga k k1',hga _ l7];exact k2 k k0 k1'
 .have hcat:m.take n++[hg l 0]=m:=by
   rw[←hlast];have e:m.drop n=[hg m n]:=by
    apply bK;intro i;rw[Y6];cases i with
    |zero=>rw[dN,zT l7];rfl|succ i=>rw[bH l7];rfl
   rw[←e,gp]
  rw[hcat];exact k3.trans (Ql l7 l7)
def qP(O:d5R)(x:Int):Bool:=O.any λy=>x8 y x
variable {O:d5R}
theorem xW{x:Int} :qP O x=true↔x∈O:=by
 unfold qP;rw[aP];constructor
 .rintro⟨y,hy,h⟩;rw[P7]at h;exact h▸hy
 .exact λh=>⟨x,h,O5 rfl⟩
theorem a3w(h:O.length<=1000000)(x:Int):Dt O x=some (qP O x):=by
 unfold Dt;refine X8 (xw O (λy=>x8 y x) true PUnit.unit h (λi a ha=>?_) ?_) ?_
 rotate_left 2
 .unfold qP;cases O.any λy=>x8 y x<;>rfl
 .simp only[J3 ha,o7,F8,ha,o8];cases x8 a x<;>rfl
 .rw[I9];rfl
def WJ(s:A7)(d:Int)(O:d5R):Bool:=(P8 s d).all λx=>qP O x
variable {s:A7}
theorem b1T(h:SmS s)(hO:O.length<=1000000)(d:Int):Du s d O=some (WJ s d O):=by
 unfold Du;rw[Tq h,o8];have hdl:=Nc h d;refine X8 (xw (P8 s d) (λy=> !qP O y) false PUnit.unit l7 (λi a ha=>?_) ?_) ?_
 rotate_left 2
 .unfold WJ;have:((P8 s d).any λy=> !qP O y)= !(P8 s d).all λx=>qP O x:=by rw[List.not_all_eq_any_not]
  rw[this];cases (P8 s d).all λx=>qP O x<;>rfl
 .simp only[J3 ha,o7,F8,ha,o8];rw[show V4 (P8 s d) (V8 (i:Int))=some a from ha,o8,a3w hO,o8];cases qP O a<;>rfl
 .rw[I9];rfl
def okN(s:A7)(O:d5R)(d:Nat):Bool:=l9 (qP O (d:Int)) false (WJ s (d:Int) O)
def Xy(s:A7)(O:d5R)(d:Nat):Option Nat:=l9 (okN s O d) (some d) none
def OD(s:A7)(O:d5R):Option Nat:=aO s.2.2.2.1.length (Xy s O)
theorem b4g{d r:Nat}(h:Xy s O d=some r):r=d/\okN s O d=true:=by
 unfold Xy at h;cases hq:okN s O d<;>rw[hq]at h
 .cases h
 .cases h;exact⟨rfl,rfl⟩
variable {d:Nat}
theorem r_(h:OD s O=some d):d<s.2.2.2.1.length/\okN s O d=true:=by obtain⟨i,hi,hp⟩:=je h;obtain⟨rfl,ho⟩:=b4g hp;exact⟨hi,ho⟩
theorem Xz(hd:d<s.2.2.2.1.length)(ho:okN s O d=true)(hn:∀j,j<d->okN s O j=false):OD s O=some d:=by unfold OD;exact Ug (p:=Xy s O) (jL.2 λj hj=>by unfold Xy;rw[hn j (U5.1 hj)];rfl) (by unfold Xy;rw[ho];rfl) hd
theorem p_(hn:∀j,j<s.2.2.2.1.length->okN s O j=false):OD s O=none:=by unfold OD aO;exact jL.2 λj hj=>by unfold Xy;rw[hn j (U5.1 hj)];rfl
def UM(s:A7):Nat->d5R->d5R⊕(d5R×Int)
 |0,O=> .inl O|k+1,O=>if O.length<s.2.2.2.1.length then(match OD s O with|none=> .inr ([],9)|some d=>UM s k (O++[(d:Int)]))else .inl O
def kN(s:A7):d5R×Int:=match UM s 100 []with| .inl O=>(O,0)| .inr x=>x
theorem b1S(h:SmS s):ut s=some (kN s):=by
 have hnd:=h.nd;unfold ut;have hn:o9 s.2.2.2.1=((s.2.2.2.1.length:Nat):Int):=rfl;generalize hfd:(λ(x:d5R)=>l9 (D9 (o9 x) (o9 s.2.2.2.1)) (o5 (ay (λ(x_1:Int)=>l9 (D9 x_1 (o9 s.2.2.2.1)) (o5 (Dt x x_1) λ(x_2:Bool)=>l9 x_2 (some (.inl (C9 .i64 x_1 1))) (o5 (Du s x_1 x) λ(x:Bool)=>l9 (F7 x) (some (.inl (C9 .i64 x_1 1))) (some (.inr x_1)))) (some (.inr x_1))) 0) λ(y:Int)=>
   l9 (x8 y (o9 s.2.2.2.1)) (some (Out.rt ((([],9):d5R×Int)))) (o5 (bV x [y]) λ(x:d5R)=>some (.nx x))) (some (.ex x)))=f
 have step:∀O:d5R,O.length<=100->f O=some (if O.length<s.2.2.2.1.length then(match OD s O with|none=> .rt ([],9)|some d=> .nx (O++[(d:Int)]))else .ex O):=by
  intro O hO;rw[←hfd];simp only;by_cases hlt:O.length<s.2.2.2.1.length
  .rw[U6 (by simp only[o9];omega),if_pos hlt,o7];have key:=iG (f:=λ(x_1:Int)=>l9 (D9 x_1 (o9 s.2.2.2.1)) (o5 (Dt O x_1) λ(x_2:Bool)=>l9 x_2 (some (.inl (C9 .i64 x_1 1))) (o5 (Du s x_1 O) λ(x:Bool)=>l9 (F7 x) (some (.inl (C9 .i64 x_1 1))) (some (.inr x_1)))) (some (.inr x_1)))
    (s:=0) (λx=>∃i:Nat,x=i/\i<=s.2.2.2.1.length/\∀j,j<i->okN s O j=false) (λy=>∃i:Nat,y=i/\i<=s.2.2.2.1.length/\(∀j,j<i->okN s O j=false)/\(i<s.2.2.2.1.length->okN s O i=true)) (λx=>s.2.2.2.1.length -x.toNat) ⟨0,rfl,l7,λj hj=>by omega⟩ Y8 (by
    rintro x ⟨i,rfl,hi,hno⟩;by_cases hl:i<s.2.2.2.1.length
    .rw[U6 (by rw[hn];omega),o7,a3w l7,o8,b1T h l7,o8,Y3 l7];have hok:okN s O i=l9 (qP O (i:Int)) false (WJ s (i:Int) O):=rfl;cases h1:qP O (i:Int)
     .cases h2:WJ s (i:Int) O
      .exact .inl ⟨_,rfl,⟨i+1,rfl,hl,λj hj=>by
        by_cases hji:j=i
        .subst hji;rw[hok,h1,h2];rfl
        .exact hno j l7⟩,by simp;omega⟩
      .exact .inr ⟨_,rfl,i,rfl,hi,hno,λ_=>by rw[hok,h1,h2];rfl⟩
     .exact .inl ⟨_,rfl,⟨i+1,rfl,hl,λj hj=>by
       by_cases hji:j=i
       .subst hji;rw[hok,h1];rfl
       .exact hno j l7⟩,by simp;omega⟩
    .have:i=s.2.2.2.1.length:=l7;subst this;exact .inr ⟨_,by rw[N7 (by rw[hn];omega)];rfl,_,rfl,E9 _,hno,λhh=>by omega⟩)
   obtain⟨y,k1,i,rfl,hi,hno,hyes⟩:=key;rw[k1,o8];by_cases hl:i<s.2.2.2.1.length
   .rw[O8 (by rw[hn];omega),o6,fK _ l7,o8,Xz hl (hyes hl) hno]
   .rw[O5 (by rw[hn];omega),o7,p_ λj hj=>hno j l7]
  .rw[N7 (by simp only[o9];omega),if_neg hlt];rfl
 have key:∀(k j:Nat) (O:d5R),s.2.2.2.1.length -O.length<k->k<=j->O.length<=s.2.2.2.1.length->qZ f j O=some (match UM s k O with| .inl O=> .inl O| .inr x=> .inr x):=by
  intro k;induction k with
  |zero=>intro j O hk;omega|succ k ih=>
   intro j O hk hj hO;obtain⟨j,rfl⟩:∃j',j=j' +1:=⟨j -1,l7⟩;rw[qZ,step O l7];unfold UM;by_cases hlt:O.length<s.2.2.2.1.length
   .rw[if_pos hlt,if_pos hlt];cases OD s O with
    |none=>rfl|some d=>exact ih j (O++[(d:Int)]) Y8 l7 Y8
   .rw[if_neg hlt,if_neg hlt]
 have:=key 100 iL [] Y8 (by unfold iL;omega) x9;refine(lN this _).trans ?_;unfold kN;cases UM s 100 []<;>rfl
def qw(s:A7)(e:Int)(i:Nat):d5S:=onL (λd=>decide (e∈P8 s (d:Int))) i
def Ut(s:A7)(O:d5R)(d:Int):d5R:=(P8 s d).filter λx=> !qP O x
def hw(W:d5R)(d:Int):Int:=W.getD d.toNat 0
variable {W:d5R}
theorem b3G{d:Int}(h0:0<=d)(h:d<o9 W):G6 W d=some (hw W d)/\V4 W (V8 d)=some (hw W d):=by have:=NR h0 h;refine⟨this,?_⟩;unfold G6 at this;rw[if_pos h0]at this;exact this
theorem b3H{d:Int}(h0:0<=d)(h:d<o9 W)(v x:Int)(hx:0<=x):hw (aU W (V8 d) v) x=if x=d then v else hw W x:=by
 unfold hw;have hl:d.toNat<W.length:=by simp only[o9]at h;omega
 show(W.set d.toNat v).getD x.toNat 0=_;rw[uZ,uZ,Z5];by_cases hq:x=d
 .subst hq;rw[if_pos rfl,if_pos hl,if_pos rfl];rfl
 .rw[if_neg l7,if_neg hq]
theorem ZX(W:d5R)(i:Nat)(v:Int):(aU W i v).length=W.length:=by show(W.set i v).length=_;simp
theorem QO{n:Nat}(hd:l.Nodup)(hr:∀x∈l,0<=x/\x<(n:Int)):l.length<=n:=by
 have hp:=Jh l;have hs:=HY l;have hnd:(Md l).Nodup:=hp.nodup_iff.2 hd;have hsi:SI (Md l):=by have:=List.Pairwise.and hs hnd;exact this.imp λ{a b} ⟨h1,h2⟩=>by omega
 have:=TJ n hsi λx hx=>hr x (hp.mem_iff.1 hx);rw[hp.length_eq]at this;exact this
theorem a4Q(h:SI l){m:Int}(hm:m∉O):((l.filter λx=> !qP (O++[m]) x).length:Int)=((l.filter λx=> !qP O x).length:Int) -(if m∈l then 1 else 0):=by
 have hh:∀x,qP (O++[m]) x=(qP O x || x8 m x):=λx=>by unfold qP;rw[vC];simp
 induction l with
 |nil=>simp|cons a l ih=>
  have h' :=Z8.1 h;have ih' :=ih h'.2;rw[dJ,dJ,hh];by_cases hma:m=a
  .subst hma;have hno:m∉l:=λhx=>by have:=h'.1 m hx;omega
   rw[if_neg hno]at ih';have h1:qP O m=false:=by
    cases hq:qP O m
    .rfl
    .exact absurd (xW.1 hq) hm
   have hA:(!(qP O m || x8 m m))=false:=by rw[O5 rfl];simp
   have hB:(!qP O m)=true:=by rw[h1];rfl
   rw[hA,hB,if_pos (show m∈m::l by simp)];simp only[dG,if_false,if_true,I5];omega
  .rw[O8 hma,sW];have:(if m∈a::l then(1:Int)else 0)=if m∈l then 1 else 0:=by simp[hma]
   rw[this];cases qP O a
   .simp only[Bool.not_false,if_true,I5];omega
   .simp only[jf,dG,if_false];exact ih'
structure KInv (s:A7) (O W H:d5R):Prop where
 nd:O.Nodup
 rng:∀x∈O,0<=x/\x<nD s
 cl:∀u∈O,∀x∈P8 s u,x∈O
 wl:W.length=s.2.2.2.1.length
 w:∀d,0<=d->d<nD s->hw W d=((Ut s O d).length:Int)
 hp:OO H H.length
 hnd:H.Nodup
 hm:∀d,d∈H↔0<=d/\d<nD s/\d∉O/\hw W d=0
theorem a7H :okN s O d=true↔(d:Int)∉O/\Ut s O (d:Int)=[]:=by
 unfold okN WJ Ut;cases hq:qP O (d:Int)
 .have h1:(d:Int)∉O:=λh=>by rw[xW.2 h]at hq;cases hq
  simp only[o6,lC,mY,lu,Bool.not_eq_false'];exact⟨λh=>⟨h1,λa ha=>by rw[h a ha]⟩,λh a ha=>h.2 a ha⟩
 .have h1:=xW.1 hq;simp only[o7];exact⟨λh=>(by cases h),λh=>absurd h1 h.1⟩
variable {H:d5R}
theorem KInv.ready(h:KInv s O W H)(hd:d<s.2.2.2.1.length):okN s O d=true↔(d:Int)∈H:=by
 have hn:nD s=((s.2.2.2.1.length:Nat):Int):=rfl;rw[a7H,h.hm];have:=h.w (d:Int) l7 l7;constructor
 .rintro⟨h1,h2⟩;exact⟨l7,l7,h1,by rw[this,h2];rfl⟩
 .rintro⟨_,_,h1,h2⟩;refine⟨h1,S9.1 ?_⟩;rw[this]at h2;omega
theorem KInv.next_none(h:KInv s O W []):OD s O=none:=
 p_ λj hj=>by
  cases hq:okN s O j
  .rfl
  .have:=(h.ready hj).1 hq;cases this
theorem KInv.next_some(h:KInv s O W H)(h0:0<H.length):∃m:Nat,hg H 0=(m:Int)/\OD s O=some m/\m<s.2.2.2.1.length/\O.length<s.2.2.2.1.length:=by
 have hn:nD s=((s.2.2.2.1.length:Nat):Int):=rfl;have hmem:hg H 0∈H:=by have:=zT h0;exact kK this
 have hmm:=(h.hm _).1 hmem;obtain⟨m,hm⟩:∃m:Nat,hg H 0=(m:Int):=⟨(hg H 0).toNat,l7⟩;rw[hm]at hmem hmm;have hlt:m<s.2.2.2.1.length:=l7;refine⟨m,hm,Xz hlt ((h.ready hlt).2 hmem) λj hj=>?_,hlt,?_⟩
 .cases hq:okN s O j
  .rfl
  .have hjH:=(h.ready l7).1 hq;obtain⟨i,hi,he⟩:=Y7 hjH;have:=b3E h.hp i hi;have e:=zT hi;rw[bQ hi,he]at e;have:=P5 e;omega
 .have hnd:(O++[(m:Int)]).Nodup:=N8.2 ⟨h.nd,x9,λa ha b hb=>by simp at hb;subst hb;intro hq;subst hq;exact hmm.2.2.1 ha⟩;have:=QO (n:=s.2.2.2.1.length) hnd λx hx=>by
   rcases D5.1 hx with hx|hx
   .exact h.rng x hx
   .simp at hx;subst hx;omega
  simp at this;omega
structure UInv (s:A7) (W H0:d5R) (us:d5R) (W' H' :d5R):Prop where
 wl:W'.length=s.2.2.2.1.length
 w:∀d,0<=d->d<nD s->hw W' d=hw W d -(if d∈us then 1 else 0)
 hp:OO H' H'.length
 pm:∃P:d5R,H'.Perm (H0++P)/\P.Sublist us/\∀d,d∈P↔d∈us/\hw W d=1
theorem a8Y(hs:SmS s){W H0 us:d5R}(hW:W.length=s.2.2.2.1.length)(hW2:∀d,0<=d->d<nD s->-1000<=hw W d/\hw W d<=1000)(hH:OO H0 H0.length)(hHl:H0.length<=100)(hus:SI us)(hur:∀u∈us,0<=u/\u<nD s)
  {f:d5R×d5R×Int->Option ((d5R×d5R×Int)⊕(d5R×d5R))}
  (hin:∀(i:Nat) (u:Int) (A B:d5R),us[i]? =some u->f (A,B,(i:Int))=o5 (G6 A u) λ(x_8:Int)=>o5 (V4 A (V8 u)) λ(x_9:Int)=>o5 (G6 A u) λ(x_10:Int)=>o5 (V4 A (V8 u)) λ(x_11:Int)=>
   o5 (G6 (aU A (V8 u) (J9 .i64 x_9 1)) u) λ(x_12:Int)=>o5 (V4 (aU A (V8 u) (J9 .i64 x_9 1)) (V8 u)) λ(x_13:Int)=>l9 (x8 x_13 0) (o5 (iO B u) λ(x_14:d5R)=>some (.inl (aU A (V8 u) (J9 .i64 x_9 1),x_14,C9 .i64 (i:Int) 1)))
    (some (.inl (aU A (V8 u) (J9 .i64 x_9 1),B,C9 .i64 (i:Int) 1))))
  (hend:∀(A B:d5R),f (A,B,(us.length:Int))=some (.inr (A,B))):∃W' H',ay f (W,H0,0)=some (W',H')/\UInv s W H0 us W' H' :=by
 have hn:nD s=((s.2.2.2.1.length:Nat):Int):=rfl;have hul:us.length<=14:=Fv hs hus hur;obtain⟨e,h1,h2⟩:=iG (f:=f) (s:=(W,H0,0)) (λx=>∃(i:Nat) (A B:d5R),x=(A,B,(i:Int))/\i<=us.length/\UInv s W H0 (us.take i) A B/\B.length<=H0.length+i) (λe=>UInv s W H0 us e.1 e.2) (λx=>us.length -x.2.2.toNat)
  ⟨0,W,H0,rfl,l7,⟨hW,λd _ _=>by simp,hH,[],x9,x9,λd=>by simp⟩,l7⟩ Y8 (by
  rintro x ⟨i,A,B,rfl,hi,hU,hBl⟩;by_cases hlt:i<us.length
  .left;have e:=bQ hlt;generalize us[i]=u at e;have hu:=hur u (kK e);have hst:us.take (i+1)=us.take i++[u]:=by rw[U7 hlt,(X7.1 e).2]
   have hnot:u∉us.take i:=λhx=>by obtain⟨j,hj,hq⟩:=Y7 hx;simp only[bD]at hj;have h3:=iU.1 hus j i l7 hlt l7;rw[rM]at hq;have h4:=(X7.1 e).2;omega
   have hAl:=hU.wl;have hAu:=hU.w u hu.1 hu.2;rw[if_neg hnot]at hAu;have hbd:=hW2 u hu.1 hu.2;obtain⟨q1,q2⟩:=b3G (W:=A) hu.1 (by simp only[o9];omega);have hsub:J9 .i64 (hw A u) 1=hw A u -1:=X3 U4;have hA2:∀d,0<=d->d<nD s->hw (aU A (V8 u) (hw A u -1)) d=hw W d -(if d∈us.take (i+1)then 1 else 0):=λd d0 d1=>by
    rw[b3H hu.1 (by simp only[o9];omega) _ _ d0,hst];have:=hU.w d d0 d1;by_cases hq:d=u
    .subst hq;rw[if_pos rfl,if_pos x9];omega
    .rw[if_neg hq,this];simp[hq]
   obtain⟨q3,q4⟩:=b3G (W:=aU A (V8 u) (hw A u -1)) (d:=u) hu.1 (by simp only[o9,ZX];omega);have hv:hw (aU A (V8 u) (hw A u -1)) u=hw A u -1:=by rw[b3H hu.1 (by simp only[o9];omega) _ _ hu.1,if_pos rfl]
   rw[hv]at q3 q4;obtain⟨P,p1,p2,p3⟩:=hU.pm;rw[hin i u A B e,q1,o8,q2,o8,o8,o8,hsub,q3,o8,q4,o8,Y3 l7];by_cases hz:hw A u -1=0
   .obtain⟨B',b1,b2,b3⟩:=a1K (l:=B) l7 hU.hp u;rw[O5 hz,o7,b1,o8];have hB'l:B'.length=B.length+1:=by rw[b3.length_eq];simp
    refine⟨_,rfl,⟨i+1,_,_,rfl,hlt,⟨by rw[ZX];exact hAl,hA2,b2,P++[u],?_,?_,λd=>?_⟩,l7⟩,by simp;omega⟩
    .rw[←G5];exact b3.trans (p1.append_right [u])
    .rw[hst];exact p2.append (List.Sublist.refl _)
    .rw[D5,p3,hst,D5];constructor
     .rintro(⟨h,h'⟩|h)
      .exact⟨.inl h,h'⟩
      .simp at h;subst h;exact⟨.inr x9,l7⟩
     .rintro⟨h|h,h'⟩
      .exact .inl ⟨h,h'⟩
      .exact .inr h
   .rw[O8 hz,o6];refine⟨_,rfl,⟨i+1,_,_,rfl,hlt,⟨by rw[ZX];exact hAl,hA2,hU.hp,P,p1,?_,λd=>?_⟩,l7⟩,by simp;omega⟩
    .rw[hst];exact p2.trans (List.sublist_append_left _ _)
    .rw[p3,hst,D5];constructor
     .rintro⟨h,h'⟩;exact⟨.inl h,h'⟩
     .rintro⟨h|h,h'⟩
      .exact⟨h,h'⟩
      .simp at h;subst h;omega
  .right;have:i=us.length:=l7;subst this;rw[aS]at hU;exact⟨_,hend _ _,hU⟩)
 exact⟨e.1,e.2,h1,h2⟩
theorem Oo{m:Int}{d:Int} :d∈castL (qw s m s.2.2.2.1.length)↔0<=d/\d<nD s/\m∈P8 s d:=by
 have hn:nD s=((s.2.2.2.1.length:Nat):Int):=rfl;unfold castL;rw[X5];constructor
 .rintro⟨k,hk,rfl⟩;obtain⟨h1,h2⟩:=Wx _ hk;exact⟨l7,l7,by simpa using h2⟩
 .rintro⟨h1,h2,h3⟩;refine⟨d.toNat,?_,l7⟩;unfold qw onL;rw[O0,U5];exact⟨l7,by rw[ax h1];simpa using h3⟩
theorem Zb{l:d5S}(h:l.Pairwise (·< ·)):SI (castL l):=List.Pairwise.map _ (λa b h=>by omega) h
theorem KInv.step(h:KInv s O W H)(h0:0<H.length){m:Nat}(hm:hg H 0=(m:Int)){R:d5R}(hR:OO R R.length)(hRp:(R++[(m:Int)]).Perm H){W' H' :d5R}(hU:UInv s W R (castL (qw s (m:Int) s.2.2.2.1.length)) W' H'):KInv s (O++[(m:Int)]) W' H' :=by
 have hn:nD s=((s.2.2.2.1.length:Nat):Int):=rfl;have hmem:(m:Int)∈H:=by rw[←hm];have:=zT h0;exact kK this
 have hmm:=(h.hm _).1 hmem;have hleft:Ut s O (m:Int)=[]:=by have:=h.w (m:Int) hmm.1 hmm.2.1;rw[hmm.2.2.2]at this;exact S9.1 l7
 have hdeps:∀x∈P8 s (m:Int),x∈O:=λx hx=>by have hnil:=mY.1 hleft x hx;simp only[lu,Bool.not_eq_false']at hnil;exact xW.1 hnil
 have hndR:(R++[(m:Int)]).Nodup:=hRp.nodup_iff.2 h.hnd;have hmR:(m:Int)∉R:=λhx=>by have:=(N8.1 hndR).2.2 _ hx _ (D8.2 rfl);exact this rfl
 have hRm:∀d,d∈R↔d∈H/\d≠(m:Int):=λd=>by
  rw[←hRp.mem_iff,D5,D8];constructor
  .intro hx;exact⟨.inl hx,λhq=>hmR (hq▸hx)⟩
  .rintro⟨hx|hx,hq⟩
   .exact hx
   .exact absurd hx hq
 obtain⟨P,p1,p2,p3⟩:=hU.pm;have huO:∀u,(m:Int)∈P8 s u->u∉O:=λu hu hx=>hmm.2.2.1 (h.cl u hx _ hu);refine⟨?_,?_,?_,hU.wl,λd d0 d1=>?_,hU.hp,?_,λd=>?_⟩
 .exact N8.2 ⟨h.nd,x9,λa ha b hb=>by simp at hb;subst hb;intro hq;subst hq;exact hmm.2.2.1 ha⟩
 .intro x hx;rcases D5.1 hx with hx|hx
  .exact h.rng x hx
  .simp at hx;subst hx;exact⟨hmm.1,hmm.2.1⟩
 .intro u hu x hx;rcases D5.1 hu with hu|hu
  .exact J8 _ (h.cl u hu x hx)
  .simp at hu;subst hu;exact J8 _ (hdeps x hx)
 .rw[hU.w d d0 d1,h.w d d0 d1];unfold Ut;rw[a4Q (CW s d) hmm.2.2.1];congr 1;have:(d∈castL (qw s (m:Int) s.2.2.2.1.length))↔((m:Int)∈P8 s d):=by rw[Oo];exact⟨λh=>h.2.2,λh=>⟨d0,d1,h⟩⟩
  by_cases hq:(m:Int)∈P8 s d
  .rw[if_pos (this.2 hq),if_pos hq]
  .rw[if_neg (λhx=>hq (this.1 hx)),if_neg hq]
 .rw[p1.nodup_iff];refine N8.2 ⟨(N8.1 hndR).1,?_,λa ha b hb hq=>?_⟩
  .have:(castL (qw s (m:Int) s.2.2.2.1.length)).Nodup:=(Zb (Wy _ _)).imp λ{a b} h=>by omega
   exact p2.nodup this
  .subst hq;have h1:=(h.hm a).1 ((hRm a).1 ha).1;have h2:=(p3 a).1 hb;omega
 .rw[p1.mem_iff,D5,hRm,p3,Oo,h.hm];have hw' :=λd0 d1=>hU.w d d0 d1;have hmemU:d∈castL (qw s (m:Int) s.2.2.2.1.length)↔0<=d/\d<nD s/\(m:Int)∈P8 s d:=Oo;constructor
  .rintro(⟨⟨d0,d1,dO,dw⟩,dm⟩|⟨⟨d0,d1,dd⟩,dw⟩)
   .refine⟨d0,d1,λhx=>?_,?_⟩
    .rcases D5.1 hx with hx|hx
     .exact dO hx
     .simp at hx;exact dm hx
    .have hnot:(m:Int)∉P8 s d:=λhx=>by
      have h1:=h.w d d0 d1;rw[dw]at h1;have h2:Ut s O d=[]:=S9.1 l7;have h3:=mY.1 h2 _ hx;simp only[lu,Bool.not_eq_false']at h3;exact hmm.2.2.1 (xW.1 h3)
     rw[hw' d0 d1,dw,if_neg (λhx=>hnot (hmemU.1 hx).2.2)];rfl
   .refine⟨d0,d1,λhx=>?_,?_⟩
    .rcases D5.1 hx with hx|hx
     .exact huO d dd hx
     .simp at hx;rw[hx]at dd;exact hmm.2.2.1 (hdeps _ dd)
    .rw[hw' d0 d1,if_pos (hmemU.2 ⟨d0,d1,dd⟩)];omega
  .rintro⟨d0,d1,dO,dw⟩;rw[hw' d0 d1]at dw;have dO1:d∉O:=λhx=>dO (J8 _ hx);have dm:d≠(m:Int):=λhx=>dO (by rw[hx];simp);by_cases hq:(m:Int)∈P8 s d
   .rw[if_pos (hmemU.2 ⟨d0,d1,hq⟩)]at dw;exact .inr ⟨⟨d0,d1,hq⟩,l7⟩
   .rw[if_neg (λhx=>hq (hmemU.1 hx).2.2)]at dw;exact .inl ⟨⟨d0,d1,dO1,l7⟩,dm⟩
def Gf(s:A7)(i:Nat):List d5R:=(List.range s.2.2.2.1.length).map λ(e:Nat)=>castL (qw s (e:Int) i)
theorem LH(l:d5S):(castL l).length=l.length:=by unfold castL;rw[L9]
theorem a8Z(s:A7)(e:Int)(i:Nat):castL (qw s e (i+1))=castL (qw s e i)++(if e∈P8 s (i:Int)then[(i:Int)]else[]):=by unfold qw;rw[Jo];by_cases h:e∈P8 s (i:Int)<;>simp[castL,h]
theorem a8X(hs:SmS s)(i:Nat)(hi:i<s.2.2.2.1.length){f:List d5R×Int->Option ((List d5R×Int)⊕List d5R)}
  (hin:∀(k:Nat) (e:Int) (A:List d5R),(P8 s (i:Int))[k]? =some e->f (A,(k:Int))=l9 (inb e (o9 A)) (o5 (V4 A (V8 e)) λ(x_7:d5R)=>o5 (bV x_7 [(i:Int)]) λ(x_8:d5R)=>l9 (inb e (o9 A)) (l9 (PN (V8 e) (V8 e)) (o5 (V4 A (V8 e)) λ(x_9:d5R)=>some (.inl (aU A (V8 e) x_8,C9 .i64 (k:Int) 1))) none) none) none)
  (hend:∀A,f (A,((P8 s (i:Int)).length:Int))=some (.inr A)):ay f (Gf s i,0)=some (Gf s (i+1)):=by
 have hn:nD s=((s.2.2.2.1.length:Nat):Int):=rfl;have hdl:=Nc hs (i:Int);have hnd:=hs.nd;have hsi:=CW s (i:Int);refine(nO (P8 s (i:Int)) (λ(A:List d5R) e=>A.set e.toNat (A.getD e.toNat []++[(i:Int)])) (λb k=>(b,k)) (λb=>b) (λk A=>A=(List.range s.2.2.2.1.length).map λ(e:Nat)=>castL (qw s (e:Int) i)++(if(e:Int)∈(P8 s (i:Int)).take k then[(i:Int)]else[])) (b:=Gf s i) l7 (by simp[Gf]) (λk e A he hk hA=>?_) (λA hA=>hend A)).1.trans ?_
 .have hlt:=(X7.1 he).1;have her:=uF (kK he);have hst:(P8 s (i:Int)).take (k+1)=(P8 s (i:Int)).take k++[e]:=by rw[U7 hlt,(X7.1 he).2]
  have hnot:e∉(P8 s (i:Int)).take k:=λhx=>by obtain⟨j,hj,hq⟩:=Y7 hx;simp only[bD]at hj;have h3:=iU.1 hsi j k l7 hlt l7;rw[rM]at hq;have h4:=(X7.1 he).2;omega
  have hlA:A.length=s.2.2.2.1.length:=by rw[hA];simp
  have hg:A[e.toNat]? =some (castL (qw s e i)):=by rw[hA,Ic _ _ (show e.toNat<s.2.2.2.1.length by omega),ax her.1,if_neg hnot,H7]
  have hul:(castL (qw s e i)).length<=i:=by rw[LH];exact Ej _ _
  rw[hin k e A he,show inb e (o9 A)=true from decide_eq_true ⟨her.1,by simp only[o9];omega⟩,o7,show V4 A (V8 e)=some (castL (qw s e i))from hg,o8,fK _ l7,o8,o7,show PN (V8 e) (V8 e)=true by simp[PN],o7,o8,Y3 l7];rw[show A.getD e.toNat []=castL (qw s e i) by rw[uZ,hg];rfl];refine⟨rfl,?_⟩;rw[hA,Yu];apply cu;intro d hd;rw[hst];by_cases hq:d=e.toNat
  .subst hq;rw[if_pos rfl,ax her.1,if_pos x9]
  .rw[if_neg hq];have:(if(d:Int)∈(P8 s (i:Int)).take k++[e]then[(i:Int)]else[])=if(d:Int)∈(P8 s (i:Int)).take k then[(i:Int)]else[]:=by
    have:(d:Int)≠e:=l7;simp[this]
   rw[this]
 .have h2:=(nO (P8 s (i:Int)) (λ(A:List d5R) e=>A.set e.toNat (A.getD e.toNat []++[(i:Int)])) (λb k=>(b,k)) (λb=>b) (λk A=>A=(List.range s.2.2.2.1.length).map λ(e:Nat)=>castL (qw s (e:Int) i)++(if(e:Int)∈(P8 s (i:Int)).take k then[(i:Int)]else[])) (f:=f) (b:=Gf s i) l7 (by simp[Gf]) (λk e A he hk hA=>by
   have hlt:=(X7.1 he).1;have her:=uF (kK he);have hst:(P8 s (i:Int)).take (k+1)=(P8 s (i:Int)).take k++[e]:=by rw[U7 hlt,(X7.1 he).2]
   have hnot:e∉(P8 s (i:Int)).take k:=λhx=>by obtain⟨j,hj,hq⟩:=Y7 hx;simp only[bD]at hj;have h3:=iU.1 hsi j k l7 hlt l7;rw[rM]at hq;have h4:=(X7.1 he).2;omega
   have hlA:A.length=s.2.2.2.1.length:=by rw[hA];simp
   have hg:A[e.toNat]? =some (castL (qw s e i)):=by rw[hA,Ic _ _ (show e.toNat<s.2.2.2.1.length by omega),ax her.1,if_neg hnot,H7]
   have hul:(castL (qw s e i)).length<=i:=by rw[LH];exact Ej _ _
   rw[hin k e A he,show inb e (o9 A)=true from decide_eq_true ⟨her.1,by simp only[o9];omega⟩,o7,show V4 A (V8 e)=some (castL (qw s e i))from hg,o8,fK _ l7,o8,o7,show PN (V8 e) (V8 e)=true by simp[PN],o7,o8,Y3 l7];rw[show A.getD e.toNat []=castL (qw s e i) by rw[uZ,hg];rfl];refine⟨rfl,?_⟩;rw[hA,Yu];apply cu;intro d hd;rw[hst];by_cases hq:d=e.toNat
   .subst hq;rw[if_pos rfl,ax her.1,if_pos x9]
   .rw[if_neg hq];have:(if(d:Int)∈(P8 s (i:Int)).take k++[e]then[(i:Int)]else[])=if(d:Int)∈(P8 s (i:Int)).take k then[(i:Int)]else[]:=by
     have:(d:Int)≠e:=l7;simp[this]
    rw[this]) (λA hA=>hend A)).2
  rw[h2];unfold Gf;apply congrArg some;apply cu;intro d hd;rw[a8Z,aS]
theorem b3z{α β σ:Type}{o:Option α}{x:α}{K:α->Option (σ⊕β)}{Q:σ->Prop}(h:o=some x)(hk:∃s',K x=some (.inl s')/\Q s'):∃s',o5 o K=some (.inl s')/\Q s' :=by rw[h];exact hk
structure IInv (s:A7) (i:Nat) (U:List d5R) (W H:d5R):Prop where
 u:U=Gf s i
 w:W=pd ((List.range i).map λ(d:Nat)=>((P8 s (d:Int)).length:Int)) (s.2.2.2.1.length -i)
 hp:OO H H.length
 hnd:H.Nodup
 hm:∀d,d∈H↔0<=d/\d<(i:Int)/\P8 s d=[]
 hl:H.length<=i
theorem b4B(hs:SmS s):uU s=some (kN s):=by
 have hn:nD s=((s.2.2.2.1.length:Nat):Int):=rfl;have hnd:=hs.nd;unfold uU;rw[MS hs,o8];have hAl:o9 ((List.range s.2.2.2.1.length).map λ(d:Nat)=>P8 s (d:Int))=((s.2.2.2.1.length:Nat):Int):=by simp[o9]
 have hAg:∀i,i<s.2.2.2.1.length->((List.range s.2.2.2.1.length).map λ(d:Nat)=>P8 s (d:Int))[i]? =some (P8 s (i:Int)):=λi hi=>Ic _ _ hi;generalize (List.range s.2.2.2.1.length).map (λ(d:Nat)=>P8 s (d:Int))=A at*;rw[hAl,show pR ((s.2.2.2.1.length:Nat):Int) ([]:d5R)=some (Gf s 0) by
  unfold pR Gf qw onL castL;rw[if_pos l7];simp[List.map_const'],o8,show pR ((s.2.2.2.1.length:Nat):Int) (0:Int)=some (pd ((List.range 0).map λ(d:Nat)=>((P8 s (d:Int)).length:Int)) (s.2.2.2.1.length -0)) by
  unfold pR pd;rw[if_pos l7];simp,o8]
 obtain⟨e,k1,k2⟩:=iG (f:=λ(x_3:List d5R×d5R×d5R×Int)=>l9 (D9 x_3.2.2.2 ((s.2.2.2.1.length:Nat):Int)) (o5 (G6 A x_3.2.2.2) λ(x:d5R)=>o5 (G6 x_3.2.1 x_3.2.2.2) λ(x_4:Int)=>o5 (V4 x_3.2.1 (V8 x_3.2.2.2)) λ(x_5:Int)=>
   o5 (ay (λ(x_6:List d5R×Int)=>l9 (D9 x_6.2 (o9 x)) (o5 (G6 x x_6.2) λ(x:Int)=>l9 (inb x (o9 x_6.1)) (o5 (V4 x_6.1 (V8 x)) λ(x_7:d5R)=>o5 (bV x_7 [x_3.2.2.2]) λ(x_8:d5R)=>l9 (inb x (o9 x_6.1)) (l9 (PN (V8 x) (V8 x)) (o5 (V4 x_6.1 (V8 x)) λ(x_9:d5R)=>some (.inl (aU x_6.1 (V8 x) x_8,C9 .i64 x_6.2 1))) none) none) none) (some (.inr x_6.1))) (x_3.1,0)) λ(y:List d5R)=>
   l9 (x8 (o9 x) 0) (o5 (iO x_3.2.2.1 x_3.2.2.2) λ(x_6:d5R)=>some (.inl (y,aU x_3.2.1 (V8 x_3.2.2.2) (o9 x),x_6,C9 .i64 x_3.2.2.2 1))) (some (.inl (y,aU x_3.2.1 (V8 x_3.2.2.2) (o9 x),x_3.2.2.1,C9 .i64 x_3.2.2.2 1)))) (some (.inr (x_3.1,x_3.2.1,x_3.2.2.1))))
  (s:=(Gf s 0,pd ((List.range 0).map λ(d:Nat)=>((P8 s (d:Int)).length:Int)) (s.2.2.2.1.length -0),[],0)) (λx=>∃(i:Nat) (U:List d5R) (W H:d5R),x=(U,W,H,(i:Int))/\i<=s.2.2.2.1.length/\IInv s i U W H) (λy=>IInv s s.2.2.2.1.length y.1 y.2.1 y.2.2) (λx=>s.2.2.2.1.length -x.2.2.2.toNat)
  ⟨0,_,_,_,rfl,l7,rfl,rfl,λk k0 k1=>by simp at k1,x9,λd=>by simp;omega,x9⟩ Y8 (by
  rintro x ⟨i,U,W,H,rfl,hi,hI⟩;by_cases hlt:i<s.2.2.2.1.length
  .left;obtain⟨m,hm⟩:∃m,s.2.2.2.1.length -i=m+1:=⟨s.2.2.2.1.length -i -1,l7⟩;have hlen:((List.range i).map λ(d:Nat)=>((P8 s (d:Int)).length:Int)).length=i:=x9;have q1:=a3n ((List.range i).map λ(d:Nat)=>((P8 s (d:Int)).length:Int)) m;have q2:=a3o ((List.range i).map λ(d:Nat)=>((P8 s (d:Int)).length:Int)) m;have q3:=a7N ((List.range i).map λ(d:Nat)=>((P8 s (d:Int)).length:Int)) m (o9 (P8 s (i:Int)));rw[hlen]at q1 q2 q3;have hW:=hI.w;rw[hm]at hW;have hl14:=hI.hl;have hus:=a8X hs i hlt (f:=λ(x_6:List d5R×Int)=>l9 (D9 x_6.2 (o9 (P8 s (i:Int)))) (o5 (G6 (P8 s (i:Int)) x_6.2) λ(x:Int)=>l9 (inb x (o9 x_6.1)) (o5 (V4 x_6.1 (V8 x)) λ(x_7:d5R)=>o5 (bV x_7 [(i:Int)]) λ(x_8:d5R)=>l9 (inb x (o9 x_6.1)) (l9 (PN (V8 x) (V8 x)) (o5 (V4 x_6.1 (V8 x)) λ(x_9:d5R)=>some (.inl (aU x_6.1 (V8 x) x_8,C9 .i64 x_6.2 1))) none) none) none) (some (.inr x_6.1)))
    (λk e A he=>by simp only[J3 he,o7,F8,he,o8]) (λA=>by simp only[I9];rfl)
   simp only;rw[U6 l7,o7,F8,hAg i hlt,o8,hW,q1,o8,q2,o8,hI.u];refine b3z hus ?_;rw[q3,Y3 l7];have hwn:pd ((List.range i).map (λ(d:Nat)=>((P8 s (d:Int)).length:Int))++[o9 (P8 s (i:Int))]) m=pd ((List.range (i+1)).map λ(d:Nat)=>((P8 s (d:Int)).length:Int)) (s.2.2.2.1.length -(i+1)):=by rw[W9,dC,show s.2.2.2.1.length -(i+1)=m by omega];rfl
   rw[hwn];by_cases hz:(P8 s (i:Int)).length=0
   .obtain⟨H',b1,b2,b3⟩:=a1K (l:=H) l7 hI.hp (i:Int);have hnil:=S9.1 hz;rw[O5 (by simp[o9,hz]),o7,b1,o8];have hni:(i:Int)∉H:=λhx=>by have:=(hI.hm _).1 hx;omega
    refine⟨_,rfl,⟨i+1,_,_,_,rfl,hlt,rfl,rfl,b2,?_,λd=>?_,by rw[b3.length_eq];simp;omega⟩,by simp;omega⟩
    .rw[b3.nodup_iff];exact N8.2 ⟨hI.hnd,x9,λa ha b hb=>by simp at hb;subst hb;intro hq;subst hq;exact hni ha⟩
    .rw[b3.mem_iff,D5,hI.hm,D8];constructor
     .rintro(⟨h1,h2,h3⟩|h)
      .exact⟨h1,l7,h3⟩
      .subst h;exact⟨l7,l7,hnil⟩
     .rintro⟨h1,h2,h3⟩;by_cases hq:d=(i:Int)
      .exact .inr hq
      .exact .inl ⟨h1,l7,h3⟩
   .rw[O8 (by simp only[o9];omega),o6];refine⟨_,rfl,⟨i+1,_,_,_,rfl,hlt,rfl,rfl,hI.hp,hI.hnd,λd=>?_,l7⟩,by simp;omega⟩;rw[hI.hm];constructor
    .rintro⟨h1,h2,h3⟩;exact⟨h1,l7,h3⟩
    .rintro⟨h1,h2,h3⟩;refine⟨h1,?_,h3⟩;by_cases hq:d=(i:Int)
     .subst hq;rw[h3]at hz;exact absurd rfl hz
     .omega
  .right;have:i=s.2.2.2.1.length:=l7;subst this;exact⟨(U,W,H),by simp only[N7 (show((s.2.2.2.1.length:Nat):Int)<=((s.2.2.2.1.length:Nat):Int) by omega)];rfl,hI⟩)
 refine(lN k1 _).trans ?_;obtain⟨U,W,H⟩:=e;simp only at k2 ⊢;have hwd:∀d,0<=d->d<nD s->hw W d=((P8 s d).length:Int):=λd d0 d1=>by have hd:d.toNat<s.2.2.2.1.length:=l7;rw[k2.w,dP];unfold hw pd;rw[uZ,List.replicate_zero,H7,Ic _ _ hd,ax d0];rfl
 have hK:KInv s [] W H:=by
  refine⟨x9,x9,x9,by rw[k2.w];simp[pd],λd d0 d1=>?_,k2.hp,k2.hnd,λd=>?_⟩
  .rw[hwd d d0 d1];have:Ut s [] d=P8 s d:=List.filter_eq_self.2 λa _=>rfl;rw[this]
  .rw[k2.hm];constructor
   .rintro⟨h1,h2,h3⟩;exact⟨h1,l7,x9,by rw[hwd d h1 l7,h3];rfl⟩
   .rintro⟨h1,h2,_,h4⟩;rw[hwd d h1 h2]at h4;exact⟨h1,l7,S9.1 l7⟩
 have hU:=k2.u;subst hU;have hlatU:∀m:Nat,m<s.2.2.2.1.length->G6 (Gf s s.2.2.2.1.length) (m:Int)=some (castL (qw s (m:Int) s.2.2.2.1.length)):=λm hm=>by rw[F8];exact Ic _ _ hm
 have key:∀(k j:Nat) (O W H:d5R),KInv s O W H->s.2.2.2.1.length -O.length<k->k<=j->∃y,lM (λ(x:List d5R×lG)=>o5 (mi x.2.2.1) λ(x_3:Int)=>l9 (D9 0 x_3) (o5 (sO x.2.2.1) λ(x_4:Int×d5R)=>o5 (bV x.2.2.2 [x_4.1]) λ(x_5:d5R)=>o5 (G6 x.1 x_4.1) λ(x_6:d5R)=>
   o5 (ay (λ(x:d5R×d5R×Int)=>l9 (D9 x.2.2 (o9 x_6)) (o5 (G6 x_6 x.2.2) λ(x_7:Int)=>o5 (G6 x.1 x_7) λ(x_8:Int)=>o5 (V4 x.1 (V8 x_7)) λ(x_9:Int)=>o5 (G6 x.1 x_7) λ(x_10:Int)=>o5 (V4 x.1 (V8 x_7)) λ(x_11:Int)=>o5 (G6 (aU x.1 (V8 x_7) (J9 .i64 x_9 1)) x_7) λ(x_12:Int)=>o5 (V4 (aU x.1 (V8 x_7) (J9 .i64 x_9 1)) (V8 x_7)) λ(x_13:Int)=>
     l9 (x8 x_13 0) (o5 (iO x.2.1 x_7) λ(x_14:d5R)=>some (.inl (aU x.1 (V8 x_7) (J9 .i64 x_9 1),x_14,C9 .i64 x.2.2 1))) (some (.inl (aU x.1 (V8 x_7) (J9 .i64 x_9 1),x.2.1,C9 .i64 x.2.2 1)))) (some (.inr (x.1,x.2.1)))) (x.2.1,x_4.2,0)) λ(y:d5R×d5R)=>some (.inl (x.1,y.1,y.2,x_5))) (some (.inr x.2.2.2))) j (Gf s s.2.2.2.1.length,W,H,O)=some y/\UM s k O=(if y.length<s.2.2.2.1.length then .inr ([],9)else .inl y):=by
  intro k;induction k with
  |zero=>intro j O W H hK hk;omega|succ k ih=>
   intro j O W H hK hk hj;obtain⟨j,rfl⟩:∃j',j=j' +1:=⟨j -1,l7⟩;rw[lM];simp only[mi,o8];cases H with
   |nil=>refine⟨O,rfl,?_⟩;unfold UM;rw[hK.next_none]|cons h0 H=>
    generalize hHH:h0::H=HH at*;have hpos:0<HH.length:=by rw[←hHH];simp
    obtain⟨m,hm1,hm2,hm3,hm4⟩:=hK.next_some hpos;have hHl:HH.length<=14:=bC (QO (n:=s.2.2.2.1.length) hK.hnd λx hx=>by have:=(hK.hm x).1 hx;omega) hnd;obtain⟨R,r1,r2,r3⟩:=b3F (l:=HH) l7 hK.hp hpos;rw[hm1]at r1 r3;have hRl:R.length<=14:=by have:=r3.length_eq;simp at this;omega
    have hOl:O.length<=14:=l7;obtain⟨W',H',u1,u2⟩:=a8Y hs (W:=W) (H0:=R) (us:=castL (qw s (m:Int) s.2.2.2.1.length)) hK.wl (λd d0 d1=>by
      have h1:=hK.w d d0 d1;have h2:=aI (λx=> !qP O x) (P8 s d);have h3:=Nc hs d;unfold Ut at h1;omega) r2 l7 (Zb (Wy _ _)) (λu hu=>by have:=Oo.1 hu;omega)
     (f:=λ(x:d5R×d5R×Int)=>l9 (D9 x.2.2 (o9 (castL (qw s (m:Int) s.2.2.2.1.length)))) (o5 (G6 (castL (qw s (m:Int) s.2.2.2.1.length)) x.2.2) λ(x_7:Int)=>o5 (G6 x.1 x_7) λ(x_8:Int)=>o5 (V4 x.1 (V8 x_7)) λ(x_9:Int)=>o5 (G6 x.1 x_7) λ(x_10:Int)=>o5 (V4 x.1 (V8 x_7)) λ(x_11:Int)=>o5 (G6 (aU x.1 (V8 x_7) (J9 .i64 x_9 1)) x_7) λ(x_12:Int)=>o5 (V4 (aU x.1 (V8 x_7) (J9 .i64 x_9 1)) (V8 x_7)) λ(x_13:Int)=>
     l9 (x8 x_13 0) (o5 (iO x.2.1 x_7) λ(x_14:d5R)=>some (.inl (aU x.1 (V8 x_7) (J9 .i64 x_9 1),x_14,C9 .i64 x.2.2 1))) (some (.inl (aU x.1 (V8 x_7) (J9 .i64 x_9 1),x.2.1,C9 .i64 x.2.2 1)))) (some (.inr (x.1,x.2.1))))
     (λi u A B hu=>by simp only[J3 hu,o7,F8 (castL (qw s (m:Int) s.2.2.2.1.length)),hu,o8]) (λA B=>by simp only[I9];rfl)
    have hK2:=hK.step hpos hm1 r2 r3 u2;obtain⟨y,y1,y2⟩:=ih j (O++[(m:Int)]) W' H' hK2 Y8 l7;refine⟨y,?_,?_⟩
    .rw[U6 (show(0:Int)<o9 HH by simp only[o9];omega),o7,r1,o8,fK _ l7,o8,hlatU m hm3,o8,u1,o8];exact y1
    .unfold UM;rw[if_pos hm4,hm2];exact y2
 obtain⟨y,y1,y2⟩:=key 100 iL [] W H hK Y8 (by unfold iL;omega);refine(lN y1 _).trans ?_;unfold kN;rw[y2];by_cases hl:y.length<s.2.2.2.1.length
 .rw[if_pos hl,U6 (by simp only[o9];omega)];rfl
 .rw[if_neg hl,N7 (by simp only[o9];omega)];rfl
end
end Go.GP
namespace Gt
open Go Go.GP
def il(y:Int):Bool:=if y % 4=0 then(if y % 100≠0 then true else decide (y % 400=0))else false
def ys(y:Int):Int:=(y -1900)*365+((y -1) / 4 -(y -1) / 100+(y -1) / 400) -460
def diy(y:Int):Int:=if il y then 366 else 365
theorem KW(y:Int):ys (y+1)=ys y+diy y:=by unfold ys diy il;by_cases h4:y % 4=0<;>by_cases h100:y % 100=0<;>by_cases h400:y % 400=0<;>simp[h4,h100,h400]<;>omega
theorem Rx(a b:Int):a<b\/b<=a:=l7
theorem VM(y:Int):365<=diy y/\diy y<=366:=by unfold diy;split<;>omega
theorem vO{y y' :Int}(h:y<=y'):ys y<=ys y' :=by
 obtain⟨n,rfl⟩:∃n:Nat,y' =y+n:=⟨(y' -y).toNat,l7⟩;clear h;induction n with
 |zero=>simp|succ n ih=>have:=KW (y+n);have:=VM (y+n);have e:y+((n+1:Nat):Int)=y+n+1:=l7;rw[e];omega
variable {y:Int}
theorem Rt(h:1900<=y):0<=ys y:=by
 have:=vO h;have e:ys 1900=0:=by decide+kernel
 omega
theorem b2F{y y' d:Int}(h1:ys y<=d)(h2:d<ys (y+1))(h3:ys y' <=d)(h4:d<ys (y' +1)):y=y' :=by
 rcases Int.lt_trichotomy y y' with h|h|h
 .have:=vO (y:=y+1) (y' :=y') l7;omega
 .exact h
 .have:=vO (y:=y' +1) (y' :=y) l7;omega
def dim(y m:Int):Int:=
 if m=2 then(if il y then 29 else 28)else if m=4\/m=6\/m=9\/m=11 then 30 else 31
theorem Fh(y m:Int):28<=dim y m/\dim y m<=31:=by
 unfold dim;repeat' split
 all_goals omega
theorem Pi(h:0<=y):Ko y=some (il y):=by
 unfold Ko il;simp only[Bf h];by_cases h4:y % 4=0
 .rw[Hr (O5 h4),if_pos h4];by_cases h100:y % 100=0
  .simp[x8,h100]
  .simp[x8,h100]
 .rw[MZ (O8 h4),if_neg h4]
theorem OG(h:0<=y):Ik y=some (il y):=Pi h
theorem Hq(h:0<=y):kQ y=some (diy y):=by unfold kQ diy;rw[OG h,o8];cases il y<;>rfl
variable {m:Int}
theorem m12(h:1<=m/\m<=12):m=1\/m=2\/m=3\/m=4\/m=5\/m=6\/m=7\/m=8\/m=9\/m=10\/m=11\/m=12:=l7
theorem wz(h:0<=y)(hm:1<=m/\m<=12):kF y m=some (dim y m):=by
 unfold kF;rcases m12 hm with rfl|rfl|rfl|rfl|rfl|rfl|rfl|rfl|rfl|rfl|rfl|rfl
 all_goals first|rfl|(rw[Pi h];unfold dim;cases il y<;>rfl)
theorem vJ(h:0<=y)(hm:1<=m/\m<=12):iD y m=some (dim y m):=by
 unfold iD;rcases m12 hm with rfl|rfl|rfl|rfl|rfl|rfl|rfl|rfl|rfl|rfl|rfl|rfl
 all_goals first|rfl|(rw[OG h];unfold dim;cases il y<;>rfl)
theorem Kq(h:0<=y)(h2:y<=1000000):yU y=some (y / 4 -y / 100+y / 400):=by unfold yU;simp only[dY,ku h];rw[oh U4,oh U4,oh U4,X3 U4,ai U4]
theorem DJ(h:1<=y)(h2:y<=1000000):sQ y=some (ys y):=by unfold sQ;have e1:J9 .i64 y 1900=y -1900:=X3 U4;have e2:az .i64 (y -1900) 365=(y -1900)*365:=nI U4;rw[X3 (a:=y) (b:=1) U4,Kq l7 l7,o8,Kq l7 l7,o8,e1,e2,ai U4,X3 U4];unfold ys;congr 1
def mo(y:Int):Nat->Int->Int×Int
 |0,d=>(d,13)|n+1,d=>if d<dim y (12 -n)then(d,12 -n)else mo y n (d -dim y (12 -n))
theorem a9Y(y:Int)(n:Nat)(d:Int):mo y (n+1) d=if d<dim y (12 -(n:Int))then(d,12 -(n:Int))else mo y n (d -dim y (12 -(n:Int))):=rfl
def rem(y:Int):Nat->Int
 |0=>0|n+1=>dim y (12 -n)+rem y n
theorem b5D(y:Int):rem y 12=diy y:=by unfold diy;cases h:il y<;>simp[rem,dim,h]
theorem b4e(y:Int):∀(n:Nat) (d:Int),n<=12->0<=d->d<rem y n->1<=(mo y n d).2/\(mo y n d).2<=12/\0<=(mo y n d).1/\(mo y n d).1<dim y (mo y n d).2
 |0,d,_,h0,h=>by simp[rem]at h;omega|n+1,d,hn,h0,h=>by
  unfold mo;by_cases hd:d<dim y (12 -n)
  .rw[if_pos hd];refine⟨?_,?_,h0,hd⟩<;>simp<;>omega
  .rw[if_neg hd];refine b4e y n _ l7 l7 ?_;simp only[rem]at h;omega
def yOf(d:Int):Int:=((((List.range 300).find? (λ(k:Nat)=>decide (d<ys (1900+(k:Int)+1)))).getD 0:Nat):Int)+1900
variable {d:Int}
theorem Vt(h0:0<=d)(h:d<=109572):1900<=yOf d/\yOf d<=2199/\ys (yOf d)<=d/\d<ys (yOf d+1):=by
 unfold yOf;cases hf:(List.range 300).find? (λ(k:Nat)=>decide (d<ys (1900+(k:Int)+1)))with
 |none=>
  have:=List.find?_eq_none.1 hf 299 x9;simp only[decide_eq_true_eq]at this;have e:ys (1900+(299:Nat)+1)=109573:=by decide+kernel
  omega
 |some k=>
  have h1:=List.find?_some hf;simp only[decide_eq_true_eq]at h1;have h2:=List.mem_of_find?_eq_some hf;simp only[U5]at h2;simp only[dK];refine⟨l7,l7,?_,?_⟩
  .cases k with
   |zero=>
    have e:ys 1900=0:=by decide+kernel
    simp[e,h0]
   |succ j=>have h3:=List.find?_range_eq_some.1 hf;have h4:=h3.2.2 j l7;simp only[ed,decide_eq_false_iff_not,iQ]at h4;have e:(((j+1:Nat):Int)+1900)=1900+(j:Int)+1:=l7;rw[e];exact h4
  .have e:(k:Int)+1900+1=1900+k+1:=l7;rw[e];exact h1
def qA(d:Int):Int×Int×Int:=let y:=yOf d;let r:=mo y 12 (d -ys y);(y,r.2,r.1+1)
theorem Gg(h0:0<=d)(h:d<=109572):yT d=some (qA d):=by
 obtain⟨y1,y2,y3,y4⟩:=Vt h0 h;have y0:=Rt y1;unfold yT yV;rw[Hr (Y5 h0),o8,Y5 h,E5,o6];have e0:C9 .i64 1900 (dY .i64 d 366)=1900+d / 366:=by
  have e:dY .i64 d 366=d / 366:=by rw[Be (by rw[ku h0];unfold kE;omega),ku h0]
  rw[e,ai U4]
 rw[e0];obtain⟨y,hy,hq⟩:=iG (f:=λ(x:Int)=>o5 (sQ (C9 IntKind.i64 x 1)) λ(x_1:Int)=>l9 (L6 x_1 d) (some (Sum.inl (C9 IntKind.i64 x 1))) (some (Sum.inr x))) (s:=1900+d / 366)
  (λy=>1900<=y/\y<=yOf d) (λy=>y=yOf d) (λy=>(2200 -y).toNat) (by
   refine⟨l7,?_⟩;have e:∀n:Nat,ys (1900+n)<=366*n:=by
    intro n;induction n with
    |zero=>decide+kernel|succ n ih=>have:=KW (1900+n);have:=VM (1900+n);have e:(1900:Int)+((n+1:Nat):Int)=1900+n+1:=l7;rw[e];omega
   have e1:=e (d / 366).toNat
   have e2:((d / 366).toNat:Int)=d / 366:=l7;rw[e2]at e1;rcases Rx (yOf d) (1900+d / 366)with hlt|hge
   .have:=vO (y:=yOf d+1) (y' :=1900+d / 366) l7;omega
   .exact hge) l7 (by
   intro y ⟨hy1,hy2⟩
   try simp only
   rw[ai U4,DJ l7 l7,o8];by_cases hle:ys (y+1)<=d
   .refine .inl ⟨y+1,by rw[Hr (Y5 hle)],⟨l7,?_⟩,l7⟩;rcases Rx (yOf d) (y+1)with hlt|hge
    .have:=vO (y:=yOf d+1) (y' :=y+1) l7;omega
    .exact hge
   .refine .inr ⟨y,by rw[MZ (Y9 l7)],?_⟩;rcases Rx y (yOf d)with hlt|hge
    .have:=vO (y:=y+1) (y' :=yOf d) l7;omega
    .omega)
 rw[hy,o8,hq,DJ l7 l7,o8,X3 U4];have hs:=KW (yOf d);have hr:=b5D (yOf d);rcases xC (f:=λ(x:Int×Int)=>l9 (D9 x.2 12) (o5 (kF (yOf d) (C9 IntKind.i64 x.2 1)) λ(x_1:Int)=>l9 (D9 x.1 x_1) (some (Out.rt (yOf d,C9 IntKind.i64 x.2 1,C9 IntKind.i64 x.1 1))) (some (Out.nx (J9 IntKind.i64 x.1 x_1,C9 IntKind.i64 x.2 1)))) (some (Out.ex PUnit.unit))) (s:=(d -ys (yOf d),0))
  (λs=>∃n:Nat,n<=12/\s.2=12 -n/\mo (yOf d) n s.1=mo (yOf d) 12 (d -ys (yOf d))/\0<=s.1/\s.1<rem (yOf d) n/\s.1<=400) (λ_=>False) (λr=>r=qA d) (λs=>(12 -s.2).toNat)
  ⟨12,l7,x9,rfl,l7,by rw[hr];show d -ys (yOf d)<_;omega,by have:=VM (yOf d);show d -ys (yOf d)<=400;omega⟩ x9 (by
   rintro⟨r,i⟩ ⟨n,hn,hi,hm,hr0,hrn,hr4⟩;simp only at hi hm hr0 hrn hr4 ⊢;cases n with
   |zero=>simp[rem]at hrn;omega|succ n=>
    have ei:i+1=12 -n:=l7;rw[Hr (U6 l7),ai U4,ei,wz l7 l7,o8];have hb:=Fh (yOf d) (12 -n);rw[a9Y (yOf d) n r]at hm;by_cases hlt:r<dim (yOf d) (12 -n)
    .rw[if_pos hlt]at hm;refine .inr (.inr ⟨_,by rw[Hr (U6 hlt)],?_⟩);rw[ai U4];unfold qA
     try simp only
     rw[←hm]
    .rw[if_neg hlt]at hm;refine .inl ⟨_,by rw[MZ (N7 l7),X3 U4],⟨n,l7,x9,hm,?_,?_,?_⟩,?_⟩
     .simp;omega
     .simp only[rem]at hrn ⊢;omega
     .simp;omega
     .simp;omega)with⟨_,_,hf⟩|⟨r,he,hr⟩
 .exact hf.elim
 .rw[he,o8,uj,hr]
theorem PU(h0:0<=d)(h:d<=109572):Dp d=some (qA d):=by
 obtain⟨y1,y2,y3,y4⟩:=Vt h0 h;have y0:=Rt y1;unfold Dp xq;rw[Hr (Y5 h0),o8,Y5 h,E5,o6];obtain⟨⟨r,y⟩,hy,hq⟩:=iG (f:=λ(x:Int×Int)=>o5 (kQ x.2) λ(x_1:Int)=>l9 (L6 x_1 x.1) (o5 (kQ x.2) λ(x_2:Int)=>some (Sum.inl (J9 IntKind.i64 x.1 x_2,C9 IntKind.i64 x.2 1))) (some (Sum.inr x))) (s:=(d,1900))
  (λs=>1900<=s.2/\s.2<=yOf d/\s.1=d -ys s.2) (λs=>s=(d -ys (yOf d),yOf d)) (λs=>(2200 -s.2).toNat)
  ⟨x9,by simpa using y1,by(have e:ys 1900=0:=by decide+kernel);simp[e]⟩ x9 (by
   rintro⟨r,y⟩ ⟨h1,h2,h3⟩;simp only at h1 h2 h3 ⊢;have hb:=VM y;have hs:=KW y;have hm:=vO h2;have hpos:0<=ys y:=by
     have:=vO (y:=1900) (y' :=y) h1;have e:ys 1900=0:=by decide+kernel
     omega
   rw[Hq l7,o8];by_cases hle:diy y<=r
   .refine .inl ⟨(r -diy y,y+1),?_,⟨by simp;omega,?_,?_⟩,?_⟩
    .rw[Hr (Y5 hle),o8,X3 U4,ai U4]
    .simp only;rcases Rx (yOf d) (y+1)with hlt|hge
     .have:=vO (y:=yOf d+1) (y' :=y+1) l7;omega
     .exact hge
    .simp only;omega
    .simp;omega
   .refine .inr ⟨_,by rw[MZ (Y9 l7)],?_⟩;have e:y=yOf d:=b2F (d:=d) l7 l7 y3 y4;subst e;rw[h3])
 rw[hy,o8,hq]
 try simp only
 have hs:=KW (yOf d);have hr:=b5D (yOf d);obtain⟨⟨r,m⟩,he,hq2⟩:=iG (f:=λ(x:Int×Int)=>o5 (iD (yOf d) x.2) λ(x_1:Int)=>l9 (L6 x_1 x.1) (o5 (iD (yOf d) x.2) λ(x_2:Int)=>some (Sum.inl (J9 IntKind.i64 x.1 x_2,C9 IntKind.i64 x.2 1))) (some (Sum.inr x))) (s:=(d -ys (yOf d),1))
  (λs=>∃n:Nat,n<=12/\s.2=13 -n/\mo (yOf d) n s.1=mo (yOf d) 12 (d -ys (yOf d))/\0<=s.1/\s.1<rem (yOf d) n/\s.1<=400) (λs=>s=mo (yOf d) 12 (d -ys (yOf d))) (λs=>(13 -s.2).toNat)
  ⟨12,l7,x9,rfl,l7,by rw[hr];show d -ys (yOf d)<_;omega,by have:=VM (yOf d);show d -ys (yOf d)<=400;omega⟩ x9 (by
   rintro⟨r,i⟩ ⟨n,hn,hi,hm,hr0,hrn,hr4⟩;simp only at hi hm hr0 hrn hr4 ⊢;cases n with
   |zero=>simp[rem]at hrn;omega|succ n=>
    have ei:i=12 -n:=l7;subst ei;rw[vJ l7 l7,o8];have hb:=Fh (yOf d) (12 -n);rw[a9Y (yOf d) n r]at hm;by_cases hlt:r<dim (yOf d) (12 -n)
    .rw[if_pos hlt]at hm;exact .inr ⟨_,by rw[MZ (Y9 l7)],hm⟩
    .rw[if_neg hlt]at hm;refine .inl ⟨(r -dim (yOf d) (12 -n),12 -n+1),by rw[Hr (Y5 l7),o8,X3 U4,ai U4],⟨n,l7,by simp;omega,hm,?_,?_,?_⟩,?_⟩
     .simp;omega
     .simp only[rem]at hrn ⊢;omega
     .simp;omega
     .simp;omega)
 rw[he,o8,hq2];have hb:=b4e (yOf d) 12 (d -ys (yOf d)) l7 l7 (by rw[hr];omega);have hb2:=Fh (yOf d) (mo (yOf d) 12 (d -ys (yOf d))).2;rw[ai U4];rfl
theorem Qv(h0:0<=d)(h:d<=109572):1900<=(qA d).1/\(qA d).1<=2199/\1<=(qA d).2.1/\(qA d).2.1<=12/\1<=(qA d).2.2/\(qA d).2.2<=31:=by
 obtain⟨y1,y2,y3,y4⟩:=Vt h0 h;have y0:=Rt y1;have hs:=KW (yOf d);have hb:=b4e (yOf d) 12 (d -ys (yOf d)) l7 l7 (by rw[b5D];omega);have hb2:=Fh (yOf d) (mo (yOf d) 12 (d -ys (yOf d))).2;unfold qA
 try simp only
 omega
end Gt
namespace Go.GP
open Gt
set_option maxRecDepth 100000
def xE(y:Int):Nat->Int
 |0=>0|k+1=>xE y k+dim y ((k:Int)+1)
def a4G(y m d:Int):Int:=ys y+xE y (m -1).toNat+d -1
theorem UB(y:Int):∀k:Nat,k<=12->28*k<=xE y k/\xE y k<=31*k
 |0,_=>by simp[xE]|k+1,h=>by have:=UB y k l7;have:=Fh y ((k:Int)+1);unfold xE;omega
theorem b1u(y:Int):xE y 12=diy y:=by unfold xE xE xE xE xE xE xE xE xE xE xE xE xE dim diy;simp;cases il y<;>simp
theorem a9Z(y:Int):∀j k:Nat,j<=k->xE y j<=xE y k
 |j,0,h=>by have:j=0:=l7;subst this;omega|j,k+1,h=>by
  by_cases hq:j=k+1
  .subst hq;omega
  .have:=a9Z y j k l7;have:=Fh y ((k:Int)+1);show xE y j<=xE y k+dim y ((k:Int)+1);omega
variable {y:Int}{d:Int}{m:Int}
theorem b8s(hm:1<=m/\m<=12)(h1:1<=d)(h2:d<=dim y m):ys y<=a4G y m d/\a4G y m d<ys (y+1):=by
 have h3:=a9Z y ((m -1).toNat+1) 12 l7;rw[b1u]at h3;have h4:xE y ((m -1).toNat+1)=xE y (m -1).toNat+dim y m:=by show xE y (m -1).toNat+dim y (((m -1).toNat:Int)+1)=_;rw[ax l7];congr 2;omega
 have h5:=UB y (m -1).toNat l7;have h6:=KW y;unfold a4G;omega
theorem b8h(h:1900<=y)(h2:y<=2200):0<=ys y/\ys y<=109573:=by
 have h1:=Rt h;have h3:=vO h2;have:ys 2200=109573:=by decide
 omega
theorem a7n(hy:1900<=y/\y<=2199)(hm:1<=m/\m<=12)(h1:1<=d)(h2:d<=dim y m):Hu y m d=some (a4G y m d,0):=by
 have hyb:=b8h hy.1 l7;have hdb:=Fh y m;unfold Hu;rw[N7 hy.1,o6,N7 hy.2,o6,N7 hm.1,o6,N7 hm.2,o6,N7 h1,o6,wz l7 hm,o8,N7 h2,o6,o8,U0,DJ l7 l7,o8];have hs:J9 .i64 m 1=m -1:=X3 U4;obtain⟨e,k1,k2⟩:=iG (f:=λ(x:Int×Int)=>l9 (D9 x.2 (J9 .i64 m 1)) (o5 (kF y (C9 .i64 x.2 1)) λ(x_1:Int)=>some (.inl (C9 .i64 x.1 x_1,C9 .i64 x.2 1))) (some (.inr x.1)))
  (s:=(ys y,0)) (λx=>∃i:Nat,x=(ys y+xE y i,(i:Int))/\(i:Int)<=m -1) (λe=>e=ys y+xE y (m -1).toNat) (λx=>(m -1 -x.2).toNat) ⟨0,by simp[xE],l7⟩ Y8 (by
  rintro x ⟨i,rfl,hi⟩;simp only[hs];by_cases hlt:(i:Int)<m -1
  .have hb:=UB y i l7;have hd:=Fh y ((i:Int)+1);left;refine⟨(ys y+xE y (i+1),((i+1:Nat):Int)),?_,⟨i+1,rfl,l7⟩,by simp;omega⟩;rw[U6 hlt,o7,Y3 l7,show(((i+1:Nat):Int))=(i:Int)+1 by omega,wz l7 l7,o8,ai U4];simp only[xE];rw[Int.add_assoc]
  .right;have:i=(m -1).toNat:=l7;subst this;exact⟨_,by rw[N7 l7];rfl,rfl⟩)
 refine(lN k1 _).trans ?_;have hb:=UB y (m -1).toNat l7;rw[k2,ai U4,X3 U4];rfl
theorem a5M(hy:1900<=y/\y<=2199)(hm:1<=m/\m<=12)(h1:1<=d)(h2:d<=dim y m):yz y m d=some (a4G y m d,0):=by
 have hyb:=b8h hy.1 l7;have hdb:=Fh y m;unfold yz;rw[N7 hy.1,o6,N7 hy.2,o6,N7 h1,o6,vJ l7 hm,o8,N7 h2,o6,o8,U0,X3 U4];obtain⟨e,k1,k2⟩:=iG (f:=λ(x:Int×Int)=>l9 (D9 x.2 y) (o5 (kQ x.2) λ(x_1:Int)=>some (.inl (C9 .i64 x.1 x_1,C9 .i64 x.2 1))) (some (.inr x.1)))
  (s:=(d -1,1900)) (λx=>∃i:Int,x=(d -1+ys i,i)/\1900<=i/\i<=y) (λe=>e=d -1+ys y) (λx=>(y -x.2).toNat) ⟨1900,by simp[show ys 1900=0 by decide],l7,l7⟩ Y8 (by
  rintro x ⟨i,rfl,hi,hi2⟩;by_cases hlt:i<y
  .left;have hb:=b8h hi l7;have hd:=VM i;refine⟨(d -1+ys (i+1),i+1),?_,⟨i+1,rfl,l7,l7⟩,by simp;omega⟩;simp only;rw[U6 hlt,o7,Hq l7,o8,ai U4,ai U4,KW,Int.add_assoc]
  .right;have:i=y:=l7;subst this;exact⟨_,by simp only[N7 (show i<=i by omega)];rfl,rfl⟩)
 refine(lN k1 _).trans ?_;subst k2;obtain⟨e,k1,k2⟩:=iG (f:=λ(x:Int×Int)=>l9 (D9 x.2 m) (o5 (iD y x.2) λ(x_1:Int)=>some (.inl (C9 .i64 x.1 x_1,C9 .i64 x.2 1))) (some (.inr x.1)))
  (s:=(d -1+ys y,1)) (λx=>∃i:Nat,x=(d -1+ys y+xE y i,(i:Int)+1)/\(i:Int)<=m -1) (λe=>e=d -1+ys y+xE y (m -1).toNat) (λx=>(m -x.2).toNat) ⟨0,by simp[xE],l7⟩ Y8 (by
  rintro x ⟨i,rfl,hi⟩;by_cases hlt:(i:Int)+1<m
  .have hb:=UB y i l7;have hd:=Fh y ((i:Int)+1);left;refine⟨(d -1+ys y+xE y (i+1),((i+1:Nat):Int)+1),?_,⟨i+1,rfl,l7⟩,by simp;omega⟩;simp only;rw[U6 hlt,o7,vJ l7 l7,o8,ai U4,ai U4];simp only[xE];rw[Int.add_assoc (d -1+ys y)];simp
  .right;have:i=(m -1).toNat:=l7;subst this;exact⟨_,by simp only[N7 (show m<=((m -1).toNat:Int)+1 by omega)];rfl,rfl⟩)
 refine(lN k1 _).trans ?_;rw[k2];unfold a4G;rw[show d -1+ys y+xE y (m -1).toNat=ys y+xE y (m -1).toNat+d -1 by omega]
def b0I(d n:Int):Int×Int:=
 if ¬(0<=d/\d<=109572)\/n< -3600\/3600<n then(0,3)else
  if((qA d).1 -1900)*12+(qA d).2.1 -1+n<0\/3599<((qA d).1 -1900)*12+(qA d).2.1 -1+n then(0,3)else
   (a4G (1900+(((qA d).1 -1900)*12+(qA d).2.1 -1+n) / 12) ((((qA d).1 -1900)*12+(qA d).2.1 -1+n) % 12+1) (qU (qA d).2.2 (dim (1900+(((qA d).1 -1900)*12+(qA d).2.1 -1+n) / 12) ((((qA d).1 -1900)*12+(qA d).2.1 -1+n) % 12+1))),0)
theorem QG(a b:Int):qU a b=if b<a then b else a:=rfl
theorem TR(d n:Int):wI d n=some (b0I d n):=by
 unfold wI yV b0I;by_cases h0:0<=d/\d<=109572
 case neg=>
  rw[if_pos (.inl h0)];by_cases h1:0<=d
  .rw[Y5 h1,Y9 l7];rfl
  .rw[Y9 l7];rfl
 rw[Y5 h0.1,Y5 h0.2,o7,o8,E5,o6];by_cases h1:n< -3600
 .rw[U6 h1,if_pos (.inr (.inl h1))];rfl
 by_cases h2:3600<n
 .rw[N7 l7,U6 h2,if_pos (.inr (.inr h2))];rfl
 rw[N7 l7,N7 l7,if_neg l7,o6,o6,o8,U0,Gg h0.1 h0.2,o8];obtain⟨b1,b2,b3,b4,b5,b6⟩:=Qv h0.1 h0.2;generalize qA d=q at*;obtain⟨y,m,dd⟩:=q;simp only at b1 b2 b3 b4 b5 b6 ⊢;have e1:J9 .i64 y 1900=y -1900:=X3 U4;have e2:az .i64 (y -1900) 12=(y -1900)*12:=nI U4;have e3:C9 .i64 ((y -1900)*12) m=(y -1900)*12+m:=ai U4;have e4:J9 .i64 ((y -1900)*12+m) 1=(y -1900)*12+m -1:=X3 U4;have e5:C9 .i64 ((y -1900)*12+m -1) n=(y -1900)*12+m -1+n:=ai U4;rw[e1,e2,e3,e4,e5];generalize ht:(y -1900)*12+m -1+n=t;by_cases t0:t<0
 .rw[U6 t0,if_pos (.inl t0)];rfl
 by_cases t1:3599<t
 .rw[N7 l7,U6 t1,if_pos (.inr t1)];rfl
 rw[N7 l7,N7 l7,if_neg l7,o6,o6];have e6:dY .i64 t 12=t / 12:=by rw[Be (by rw[ku l7];unfold kE;omega),ku l7]
 have e7:eX t 12=t % 12:=Bf l7;have e8:C9 .i64 1900 (t / 12)=1900+t / 12:=ai U4;have e9:C9 .i64 (t % 12) 1=t % 12+1:=ai U4;rw[e6,e7,e8,e9,wz l7 l7,o8];have hd:=Fh (1900+t / 12) (t % 12+1);rw[a7n l7 l7 (by rw[QG];split<;>omega) (by rw[QG];split<;>omega)];rfl
theorem Si(d n:Int):oG d n=some (b0I d n):=by
 unfold oG xq b0I;by_cases h0:0<=d/\d<=109572
 case neg=>
  rw[if_pos (.inl h0)];by_cases h1:0<=d
  .rw[Y5 h1,Y9 l7];rfl
  .rw[Y9 l7];rfl
 rw[Y5 h0.1,Y5 h0.2,o7,o8,E5,o6];by_cases h1:n< -3600
 .rw[U6 h1,if_pos (.inr (.inl h1))];rfl
 by_cases h2:3600<n
 .rw[N7 l7,U6 h2,if_pos (.inr (.inr h2))];rfl
 rw[N7 l7,N7 l7,if_neg l7,o6,o6,o8,U0,PU h0.1 h0.2,o8];obtain⟨b1,b2,b3,b4,b5,b6⟩:=Qv h0.1 h0.2;generalize qA d=q at*;obtain⟨y,m,dd⟩:=q;simp only at b1 b2 b3 b4 b5 b6 ⊢;have e2:az .i64 12 y=12*y:=nI U4;have e3:C9 .i64 (12*y) m=12*y+m:=ai U4;have e4:J9 .i64 (12*y+m) 1=12*y+m -1:=X3 U4;have e5:C9 .i64 (12*y+m -1) n=12*y+m -1+n:=ai U4;rw[e2,e3,e4,e5];generalize ht:(y -1900)*12+m -1+n=t;have hk:12*y+m -1+n=t+22800:=l7;rw[hk];have e6:dY .i64 (t+22800) 12=1900+t / 12:=by rw[Be (by rw[ku l7];unfold kE;omega),ku l7];omega
 have e7:eX (t+22800) 12=t % 12:=by rw[Bf l7];omega
 have e9:C9 .i64 (t % 12) 1=t % 12+1:=ai U4;rw[e6,e7,e9,vJ l7 l7,o8];have hd:=Fh (1900+t / 12) (t % 12+1);by_cases t0:t<0
 .rw[if_pos (.inl t0)];unfold yz;rw[U6 (show 1900+t / 12<1900 by omega)];rfl
 by_cases t1:3599<t
 .rw[if_pos (.inr t1)];unfold yz;rw[N7 (show 1900<=1900+t / 12 by omega),U6 (show 2199<1900+t / 12 by omega)];rfl
 rw[if_neg l7,a5M l7 l7 (by rw[QG];split<;>omega) (by rw[QG];split<;>omega)];rfl
def yrl(a k:Int):Int:=a4G ((qA a).1+k) (qA a).2.1 (qU (qA a).2.2 (dim ((qA a).1+k) (qA a).2.1))
variable {a:Int}
theorem a1m(h0:0<=a/\a<=109572){k:Int}(hk:0<=k)(hk2:k<=300):b0I a (12*k)=if(qA a).1+k<=2199 then(yrl a k,0)else(0,3):=by
 obtain⟨b1,b2,b3,b4,b5,b6⟩:=Qv h0.1 h0.2;unfold b0I yrl;rw[if_neg l7];generalize qA a=q at*;obtain⟨y,m,dd⟩:=q;simp only at b1 b2 b3 b4 b5 b6 ⊢;have e1:1900+((y -1900)*12+m -1+12*k) / 12=y+k:=l7;have e2:((y -1900)*12+m -1+12*k) % 12+1=m:=l7;by_cases h:y+k<=2199
 .rw[if_neg l7,if_pos h,e1,e2]
 .rw[if_pos l7,if_neg h]
theorem b8g(h0:0<=a/\a<=109572)(k:Int):ys ((qA a).1+k)<=yrl a k/\yrl a k<ys ((qA a).1+k+1):=by obtain⟨b1,b2,b3,b4,b5,b6⟩:=Qv h0.1 h0.2;have hd:=Fh ((qA a).1+k) (qA a).2.1;unfold yrl;exact b8s ⟨b3,b4⟩ (by rw[QG];split<;>omega) (by rw[QG];split<;>omega)
theorem Vu(h0:0<=a/\a<=109572):ys (qA a).1<=a/\a<ys ((qA a).1+1):=by have:=Vt h0.1 h0.2;exact⟨this.2.2.1,this.2.2.2⟩
def a4e(a b:Int):Int:=if 0<=a/\a<=109572/\0<=b/\b<=109572/\a<=b then
  (if(qA b).1 -(qA a).1<=0 then 0 else if yrl a ((qA b).1 -(qA a).1)<=b then(qA b).1 -(qA a).1 else(qA b).1 -(qA a).1 -1)else 0
theorem Yl(a b:Int):qF a b=some (a4e a b):=by
 unfold qF yV a4e;by_cases ha0:0<=a
 case neg=>rw[Y9 l7,if_neg l7];rfl
 by_cases ha1:a<=109572
 case neg=>rw[Y5 ha0,Y9 l7,if_neg l7];rfl
 rw[Y5 ha0,Y5 ha1,o7,o8,E5,o6];by_cases hb0:0<=b
 case neg=>rw[Y9 l7,if_neg l7];rfl
 by_cases hb1:b<=109572
 case neg=>rw[Y5 hb0,Y9 l7,if_neg l7];rfl
 rw[Y5 hb0,Y5 hb1,o7,o8,E5,o6];by_cases hab:a<=b
 case neg=>rw[U6 l7,if_neg l7];rfl
 rw[N7 hab,o6,if_pos ⟨ha0,ha1,hb0,hb1,hab⟩,Gg ha0 ha1,o8,Gg hb0 hb1,o8];obtain⟨p1,p2,_,_,_,_⟩:=Qv ha0 ha1;obtain⟨q1,q2,_,_,_,_⟩:=Qv hb0 hb1;have ya:=Vu ⟨ha0,ha1⟩;have yb:=Vu ⟨hb0,hb1⟩;have hK:0<=(qA b).1 -(qA a).1:=by
  rcases Rx (qA b).1 (qA a).1 with h|h
  .have:=vO (show(qA b).1+1<=(qA a).1 by omega);omega
  .omega
 rw[X3 (show kE ((qA b).1 -(qA a).1) by unfold kE;omega)];have hle:(qA a).1+((qA b).1 -(qA a).1)<=2199:=l7;generalize (qA b).1 -(qA a).1=K at*;rw[nI (show kE (12*K) by unfold kE;omega),TR,o8,a1m ⟨ha0,ha1⟩ hK l7,if_pos hle];simp only[O5 (rfl:(0:Int)=0),E5,o6];rw[X3 (show kE (K -1) by unfold kE;omega)];have im:∀x:Int,pO x 0=if x<0 then 0 else x:=λx=>rfl;by_cases hz:K<=0
 .have:K=0:=l7;subst this;rw[if_pos l7];cases D9 b (yrl a 0)<;>rfl
 .rw[if_neg hz];by_cases hq:yrl a K<=b
  .rw[if_pos hq,N7 hq,o6,im,if_neg l7]
  .rw[if_neg hq,U6 l7,o7,im,if_neg l7]
theorem WH(a b:Int):tN a b=some (a4e a b):=by
 unfold tN xq a4e;by_cases ha0:0<=a
 case neg=>rw[Y9 l7,if_neg l7];rfl
 by_cases ha1:a<=109572
 case neg=>rw[Y5 ha0,Y9 l7,if_neg l7];rfl
 rw[Y5 ha0,Y5 ha1,o7,o8,E5,o6];by_cases hb0:0<=b
 case neg=>rw[Y9 l7,if_neg l7];rfl
 by_cases hb1:b<=109572
 case neg=>rw[Y5 hb0,Y9 l7,if_neg l7];rfl
 rw[Y5 hb0,Y5 hb1,o7,o8,E5,o6];obtain⟨p1,p2,_,_,_,_⟩:=Qv ha0 ha1;obtain⟨q1,q2,_,_,_,_⟩:=Qv hb0 hb1;have ya:=Vu ⟨ha0,ha1⟩;have yb:=Vu ⟨hb0,hb1⟩;have key:=xC (f:=λ(x:Int)=>o5 (oG a (az .i64 12 (C9 .i64 x 1))) λ(x_1:Int×Int)=>l9 (F7 (x8 x_1.2 0)) (some (.rt x)) (l9 (D9 b x_1.1) (some (.rt x)) (some (.nx (C9 .i64 x 1)))))
  (s:=0) (λx=>0<=x/\(x=0\/(x<=(qA b).1 -(qA a).1/\yrl a x<=b))) (λ(_:PUnit)=>False) (λr=>r=(if a<=b then(if(qA b).1 -(qA a).1<=0 then 0 else if yrl a ((qA b).1 -(qA a).1)<=b then(qA b).1 -(qA a).1 else(qA b).1 -(qA a).1 -1)else 0)) (λx=>(300 -x).toNat) ⟨l7,.inl rfl⟩ x9 (by
  rintro x ⟨hx0,hx⟩;have hx300:x<=299:=l7;rw[ai (show kE (x+1) by unfold kE;omega),nI (show kE (12*(x+1)) by unfold kE;omega),Si,o8,a1m ⟨ha0,ha1⟩ l7 l7];have hyb:=b8g ⟨ha0,ha1⟩ (x+1);have hyx:=b8g ⟨ha0,ha1⟩ x;have hmono:ys ((qA a).1+x+1)<=ys ((qA a).1+(x+1)):=vO l7;have hax:a<yrl a (x+1):=by have:=vO (show(qA a).1+1<=(qA a).1+(x+1) by omega);omega
  by_cases hq:(qA a).1+(x+1)<=2199/\yrl a (x+1)<=b
  .left;obtain⟨hq1,hq2⟩:=hq;have hK:x+1<=(qA b).1 -(qA a).1:=by
    rcases Rx (qA b).1 ((qA a).1+(x+1))with h|h
    .have:=vO (show(qA b).1+1<=(qA a).1+(x+1) by omega);omega
    .omega
   refine⟨x+1,?_,⟨l7,.inr ⟨hK,hq2⟩⟩,l7⟩;rw[if_pos hq1];simp only[O5 (rfl:(0:Int)=0),E5,o6,N7 hq2]
  .right;right;refine⟨x,?_,?_⟩
   .by_cases hq1:(qA a).1+(x+1)<=2199
    .rw[if_pos hq1];simp only[O5 (rfl:(0:Int)=0),E5,o6,U6 (show b<yrl a (x+1) by omega),o7]
    .rw[if_neg hq1];rfl
   .by_cases hab:a<=b
    case neg=>
     rw[if_neg hab];by_cases hx1:x=0
     .exact hx1
     .exfalso;have:=vO (show(qA a).1+1<=(qA a).1+x by omega);omega
    rw[if_pos hab];have hK:0<=(qA b).1 -(qA a).1:=by
     rcases Rx (qA b).1 (qA a).1 with h|h
     .have:=vO (show(qA b).1+1<=(qA a).1 by omega);omega
     .omega
    have hxK:x<=(qA b).1 -(qA a).1:=l7;by_cases hxe:x=(qA b).1 -(qA a).1
    .by_cases hz:(qA b).1 -(qA a).1<=0
     .rw[if_pos hz];omega
     .rw[if_neg hz];rcases hx with hx|hx
      .omega
      .rw[←hxe,if_pos hx.2]
    .have hlt:x+1<=(qA b).1 -(qA a).1:=l7;rw[if_neg l7];have hyr:(qA a).1+(x+1)<=2199:=l7;have hgt:b<yrl a (x+1):=by
      have:=λh=>hq ⟨hyr,h⟩;omega
     have heq:x+1=(qA b).1 -(qA a).1:=by
      rcases Rx (x+1) ((qA b).1 -(qA a).1)with h|h
      .have:=vO (show(qA a).1+(x+1)+1<=(qA b).1 by omega);omega
      .omega
     rw[←heq,if_neg l7];omega)
 rcases key with⟨e,_,h⟩|⟨r,k1,k2⟩
 .exact h.elim
 .refine(lN k1 _).trans ?_;rw[k2];by_cases hab:a<=b
  .rw[if_pos hab,if_pos (show 0<=a/\a<=109572/\0<=b/\b<=109572/\a<=b from⟨ha0,ha1,hb0,hb1,hab⟩)];rfl
  .rw[if_neg hab,if_neg l7];rfl
def a9P:d5T:=(List.range 256).map λn=>UInt8.ofNat (if n=0 then 0 else Nat.log2 n+1)
theorem b3Q:∀n:Fin 256,∃k:Fin 9,a9P[n.val]? =some (UInt8.ofNat k.val)/\n.val<2^k.val/\(0<n.val->0<k.val/\2^(k.val -1)<=n.val):=by decide+kernel
def b0F(n:Int)(k:Nat):Prop:=n<2^k/\(0<n->0<k/\2^(k -1)<=n)
variable {n:Int}
theorem b9X(h0:0<=n)(h:n<256):wrap .u8 n=n:=by unfold wrap IntKind.wrap;simp[IntKind.signed,IntKind.bits];omega
theorem b8B(h0:0<=n)(h:n<256):∃k:Nat,k<=8/\sat a9P (wrap .u8 n)=some (k:Int)/\b0F n k:=by
 rw[b9X h0 h];obtain⟨k,k1,k2,k3⟩:=b3Q ⟨n.toNat,l7⟩;refine⟨k.val,l7,?_,?_,λhp=>?_⟩
 .unfold sat
  rw[if_pos h0];simp only at k1;rw[k1];simp;have:=k.isLt;omega
 .simp only at k2;have:((n.toNat:Nat):Int)<((2^k.val:Nat):Int):=l7;rw[ax h0,vz]at this;exact this
 .simp only at k3;obtain⟨a,b⟩:=k3 l7;refine⟨a,?_⟩;have:((2^(k.val -1):Nat):Int)<=((n.toNat:Nat):Int):=l7;rw[ax h0,vz]at this;exact this
theorem Um{k:Nat}(hk:k<=64):vW .u64 n (k:Int)=n / 2^k:=by unfold vW;rw[E8,show IntKind.bits .u64=64 from rfl,show min k 64=k by omega];exact Int.fdiv_eq_ediv_of_nonneg _ (Int.pow_nonneg l7)
theorem b0F.shift{j k:Nat}(h:b0F (n / 2^j) k)(hn:2^j<=n):b0F n (j+k):=by
 have hp:(0:Int)<2^j:=Int.pow_pos l7;have h1:0<n / 2^j:=by have:=sZ hp (show 1*2^j<=n by omega);omega
 obtain⟨a,b⟩:=h;obtain⟨b1,b2⟩:=b h1;have hdm:=Int.mul_ediv_add_emod n (2^j);have hm:=U1 n hp;have hm0:=V9 n (show(2:Int)^j≠0 by omega);refine⟨?_,λ_=>⟨l7,?_⟩⟩
 .have:(2:Int)^j*(n / 2^j+1)<=2^j*2^k:=Int.mul_le_mul_of_nonneg_left l7 l7;rw[Int.mul_add,Int.mul_one]at this;rw[Int.pow_add];omega
 .have:(2:Int)^j*2^(k -1)<=2^j*(n / 2^j):=Int.mul_le_mul_of_nonneg_left b2 l7;rw[show j+k -1=j+(k -1) by omega,Int.pow_add];omega
theorem b3P:(d5P:d5T)=a9P:=by decide+kernel
theorem qh(h0:0<=n)(h:n<=1000):wrap .i64 n=n:=oh U4
variable {b:Int}
theorem OB(h0:0<=a)(h1:a<=1000)(h2:0<=b)(h3:b<=1000):C9 .i64 a b=a+b:=ai U4
theorem b3O(h0:0<=n)(h:n<18446744073709551616):∃k:Nat,k<=64/\BO n=some (k:Int)/\b0F n k:=by
 have s32:∀m:Int,vW .u64 m 32=m / 2^32:=λm=>Um (k:=32) l7;have s16:∀m:Int,vW .u64 m 16=m / 2^16:=λm=>Um (k:=16) l7;have s8:∀m:Int,vW .u64 m 8=m / 2^8:=λm=>Um (k:=8) l7;unfold BO;rw[b3P,s32,s16,s16,s8,s8,s8,s8];have ow:∀(m:Int) (a:Int) (K:Nat),0<=m->m<256->a=(K:Int)->K<=56->∀(g:Int->Int),(∀x,0<=x->x<=8->g x=a+x)->∃k:Nat,k<=8/\(o5 (sat a9P (wrap .u8 m)) λ(x:Int)=>some (g x))=some (((K+k:Nat):Int))/\b0F m k:=by intro m a K m0 m1 ha hK g hg;obtain⟨k,k1,k2,k3⟩:=b8B m0 m1;refine⟨k,k1,?_,k3⟩;rw[k2,o8,hg _ l7 l7,ha];simp
 by_cases c32:4294967296<=n
 .rw[Y5 c32,o7];by_cases c16:65536<=n / 2^32
  .rw[Y5 c16,o7];by_cases c8:256<=n / 2^32 / 2^16
   .rw[Y5 c8,o7];obtain⟨k,k1,k2,k3⟩:=ow (n / 2^32 / 2^16 / 2^8) 56 56 l7 l7 rfl l7 (λx=>C9 .i64 (C9 .i64 (C9 .i64 32 16) 8) (wrap .i64 x)) (λx x0 x1=>by
     rw[qh x0 l7,show C9 .i64 (C9 .i64 32 16) 8=56 by decide,OB l7 l7 l7 l7])
    exact⟨56+k,l7,k2,by have:=((k3.shift (j:=8) l7).shift (j:=16) l7).shift (j:=32) l7;rw[show 32+(16+(8+k))=56+k by omega]at this;exact this⟩
   .rw[Y9 l7,o6];obtain⟨k,k1,k2,k3⟩:=ow (n / 2^32 / 2^16) 48 48 l7 l7 rfl l7 (λx=>C9 .i64 (C9 .i64 32 16) (wrap .i64 x)) (λx x0 x1=>by
     rw[qh x0 l7,OB (a:=32) l7 l7 l7 l7,OB l7 l7 l7 l7];rfl)
    exact⟨48+k,l7,k2,by have:=(k3.shift (j:=16) l7).shift (j:=32) l7;rw[show 32+(16+k)=48+k by omega]at this;exact this⟩
  .rw[Y9 l7,o6];by_cases c8:256<=n / 2^32
   .rw[Y5 c8,o7];obtain⟨k,k1,k2,k3⟩:=ow (n / 2^32 / 2^8) 40 40 l7 l7 rfl l7 (λx=>C9 .i64 (C9 .i64 32 8) (wrap .i64 x)) (λx x0 x1=>by
     rw[qh x0 l7,OB (a:=32) l7 l7 l7 l7,OB l7 l7 l7 l7];rfl)
    exact⟨40+k,l7,k2,by have:=(k3.shift (j:=8) l7).shift (j:=32) l7;rw[show 32+(8+k)=40+k by omega]at this;exact this⟩
   .rw[Y9 l7,o6];obtain⟨k,k1,k2,k3⟩:=ow (n / 2^32) 32 32 l7 l7 rfl l7 (λx=>C9 .i64 32 (wrap .i64 x)) (λx x0 x1=>by
     rw[qh x0 l7,OB l7 l7 l7 l7])
    exact⟨32+k,l7,k2,k3.shift (j:=32) l7⟩
 .rw[Y9 l7,o6];by_cases c16:65536<=n
  .rw[Y5 c16,o7];by_cases c8:256<=n / 2^16
   .rw[Y5 c8,o7];obtain⟨k,k1,k2,k3⟩:=ow (n / 2^16 / 2^8) 24 24 l7 l7 rfl l7 (λx=>C9 .i64 (C9 .i64 (C9 .i64 0 16) 8) (wrap .i64 x)) (λx x0 x1=>by
     rw[qh x0 l7,show C9 .i64 (C9 .i64 0 16) 8=24 by decide,OB l7 l7 l7 l7])
    exact⟨24+k,l7,k2,by have:=(k3.shift (j:=8) l7).shift (j:=16) l7;rw[show 16+(8+k)=24+k by omega]at this;exact this⟩
   .rw[Y9 l7,o6];obtain⟨k,k1,k2,k3⟩:=ow (n / 2^16) 16 16 l7 l7 rfl l7 (λx=>C9 .i64 (C9 .i64 0 16) (wrap .i64 x)) (λx x0 x1=>by
     rw[qh x0 l7,OB (a:=0) l7 l7 l7 l7,OB l7 l7 l7 l7];rfl)
    exact⟨16+k,l7,k2,k3.shift (j:=16) l7⟩
  .rw[Y9 l7,o6];by_cases c8:256<=n
   .rw[Y5 c8,o7];obtain⟨k,k1,k2,k3⟩:=ow (n / 2^8) 8 8 l7 l7 rfl l7 (λx=>C9 .i64 (C9 .i64 0 8) (wrap .i64 x)) (λx x0 x1=>by
     rw[qh x0 l7,OB (a:=0) l7 l7 l7 l7,OB l7 l7 l7 l7];rfl)
    exact⟨8+k,l7,k2,k3.shift (j:=8) l7⟩
   .rw[Y9 l7,o6];obtain⟨k,k1,k2,k3⟩:=ow n 0 0 l7 l7 rfl l7 (λx=>C9 .i64 0 (wrap .i64 x)) (λx x0 x1=>by
     rw[qh x0 l7,OB l7 l7 l7 l7])
    exact⟨0+k,l7,k2,by rw[iC];exact k3⟩
theorem Hm(h0:0<=n)(h:n<18446744073709551616):IntKind.wrap .u64 n=n:=b8f (by unfold U64;omega)
theorem BA(n:Int):IntKind.wrap .u64 n=n % 18446744073709551616:=by unfold IntKind.wrap;simp[IntKind.signed,IntKind.bits]
def a7I{σ ε:Type}(f:σ->Option (σ⊕ε))(m:Nat)(o:Option (σ⊕ε)):Option ε:=match o with
 |some (.inl s')=>lM f m s'|some (.inr e)=>some e|none=>none
theorem b1o{σ ε:Type}(f:σ->Option (σ⊕ε))(m:Nat)(s:σ):lM f (m+1) s=a7I f m (f s):=by
 rw[lM];unfold a7I;cases f s with
 |none=>rfl|some o=>cases o<;>rfl
variable {σ:Type}
theorem Zn(mkp:Int->Int->σ){f:σ->Option (σ⊕Int)}{y1 y0 U d:Int}(hy1:2147483648<=y1)(hy1' :y1<4294967296)(hy0:0<=y0)(hy0' :y0<4294967296)(hU:0<=U)(hUY:U<y1*4294967296+y0)(hd:0<=d)(hd' :d<4294967296)
  (hf:∀q r,0<=q->q<=4294967297->0<=r->r<4294967296->f (mkp q r)=l9 (L6 4294967296 q) (l9 (L6 4294967296 (C9 .u64 r y1)) (some (.inr (J9 .u64 q 1))) (some (.inl (mkp (J9 .u64 q 1) (C9 .u64 r y1)))))
   (l9 (D9 (C9 .u64 (az .u64 4294967296 r) d) (az .u64 q y0)) (l9 (L6 4294967296 (C9 .u64 r y1)) (some (.inr (J9 .u64 q 1))) (some (.inl (mkp (J9 .u64 q 1) (C9 .u64 r y1))))) (some (.inr q)))):
  ∃Q,ay f (mkp (U / y1) (U -U / y1*y1))=some Q/\0<=Q/\Q<4294967296/\Q*(y1*4294967296+y0)<=U*4294967296+d/\U*4294967296+d<(Q+1)*(y1*4294967296+y0):=by
 obtain⟨Y,hY⟩:∃Y,Y=y1*4294967296+y0:=⟨_,rfl⟩;have hYe:∀q:Int,q*Y=q*y1*4294967296+q*y0:=λq=>by rw[hY,Int.mul_add,←Int.mul_assoc]
 have hq0:0<=U / y1:=Z4 hU l7;have hdm:=Y4 U y1;have hm0:=V9 U (show y1≠0 by omega);have hm1:=U1 U (show 0<y1 by omega);have hqB:U / y1<=4294967297:=by
  rcases Rx 4294967297 (U / y1)with h|h
  .have:=U2 (show 4294967298<=U / y1 by omega) (show 0<=y1 by omega);omega
  .exact h
 obtain⟨n,hn⟩:∃n,n=(U / y1).toNat+1:=⟨_,rfl⟩;have key:∀(n:Nat) (q r:Int),0<=q->q<=4294967297->0<=r->r<4294967296->U=q*y1+r->U*4294967296+d<(q+1)*Y->q.toNat<n->∀m,n<=m->∃Q,lM f m (mkp q r)=some Q/\0<=Q/\Q<4294967296/\Q*Y<=U*4294967296+d/\U*4294967296+d<(Q+1)*Y:=by
  intro n;induction n with
  |zero=>intro q r _ _ _ _ _ _ h;omega|succ n ih=>
   intro q r q0 qB r0 rB hUq hlt hqn m hm;obtain⟨m,rfl⟩:∃m',m=m' +1:=⟨m -1,l7⟩;rw[b1o,hf q r q0 qB r0 rB];have e1:=hYe q;have e2:(q+1)*Y=q*Y+Y:=by rw[iT,fP]
   have hry:C9 .u64 r y1=r+y1:=Hm l7 l7;have g0:0<=q*y0:=X4 q0 hy0;have less:U*4294967296+d<q*Y->1<=q/\J9 .u64 q 1=q -1/\U=(q -1)*y1+(r+y1)/\(q -1+1)*Y=q*Y/\(q -1)*Y=q*Y -Y/\(q -1)*y0=q*y0 -y0:=by
    intro hgt;have hq1:1<=q:=by
     rcases Rx q 1 with h|h
     .have:q=0:=l7;subst this;simp at hgt;omega
     .exact h
    refine⟨hq1,Hm l7 l7,?_,?_,?_,?_⟩
    .rw[mM,fP];omega
    .rw[show q -1+1=q by omega]
    .rw[mM,fP]
    .rw[mM,fP]
   have dec:U*4294967296+d<q*Y->∃Q,a7I f m (l9 (L6 4294967296 (r+y1)) (some (Sum.inr (J9 .u64 q 1))) (some (Sum.inl (mkp (J9 .u64 q 1) (r+y1)))))=some Q/\0<=Q/\Q<4294967296/\Q*Y<=U*4294967296+d/\U*4294967296+d<(Q+1)*Y:=by
    intro hgt;obtain⟨l1,l2,l3,l4,l5,l6⟩:=less hgt;rw[l2];by_cases hr:4294967296<=r+y1
    .rw[Y5 hr];have h6:(q -1)*y0<=4294967296*y0:=U2 l7 hy0;have h7:=hYe (q -1);have hle:(q -1)*Y<=U*4294967296+d:=by rw[h7,l3];omega
     refine⟨q -1,rfl,l7,?_,hle,by rw[l4];exact hgt⟩;rcases Rx (q -1) 4294967296 with h|h
     .exact h
     .have:=U2 h (show 0<=Y by omega);omega
    .rw[Y9 l7];exact ih (q -1) (r+y1) l7 l7 l7 l7 l3 (by rw[l4];exact hgt) l7 m l7
   by_cases hqb:4294967296<=q
   .rw[Y5 hqb,o7,hry];have:=U2 hqb (show 0<=Y by omega);exact dec l7
   .rw[Y9 l7,o6,hry];have g1:q*y0<=4294967295*y0:=U2 l7 hy0;have m1:az .u64 4294967296 r=4294967296*r:=Hm l7 l7;have m2:C9 .u64 (4294967296*r) d=4294967296*r+d:=Hm l7 l7;have m3:az .u64 q y0=q*y0:=Hm g0 l7;rw[m1,m2,m3];by_cases hc:4294967296*r+d<q*y0
    .rw[U6 hc,o7];exact dec (by rw[e1];omega)
    .rw[N7 l7,o6];exact⟨q,rfl,q0,l7,by rw[e1];omega,hlt⟩
 rw[←hY];refine key n (U / y1) (U -U / y1*y1) hq0 hqB l7 l7 l7 ?_ l7 iL (by unfold iL;omega);have e1:=hYe (U / y1);rw[iT,fP,e1];have:=X4 hq0 hy0;omega
theorem TY(h0:0<=n)(h:n<18446744073709551616):(BitVec.ofInt 64 n).toNat=n.toNat:=by rw[BitVec.toNat_ofInt];have e:((2^64:Nat):Int)=18446744073709551616:=rfl;rw[e,Int.emod_eq_of_lt h0 h]
theorem a1M(h0:0<=n)(h:n<18446744073709551616):a4Y .u64 n 4294967295=n % 4294967296:=by unfold a4Y;rw[show IntKind.bits .u64=64 from rfl,BitVec.toNat_and,TY h0 h,TY H9 H9];rw[show(4294967295:Int).toNat=2^32 -1 from rfl,Nat.and_two_pow_sub_one_eq_mod];rw[Hm l7 l7];omega
theorem b8w{a c:Int}{s:Nat}(ha0:0<=a)(hc0:0<=c)(hc:c<2^s)(h:a*2^s+c<18446744073709551616):ior .u64 (a*2^s) c=a*2^s+c:=by
 have hp:(0:Int)<2^s:=Int.pow_pos l7;have hap:0<=a*2^s:=X4 ha0 l7;unfold ior;rw[show IntKind.bits .u64=64 from rfl,BitVec.toNat_or,TY hap l7,TY hc0 l7];obtain⟨m,rfl⟩:∃m:Nat,a=(m:Int):=⟨a.toNat,l7⟩;obtain⟨k,rfl⟩:∃k:Nat,c=(k:Int):=⟨c.toNat,l7⟩;have hk:k<2^s:=by exact_mod_cast hc
 have e1:((m:Int)*2^s).toNat=m<<<s:=by
  rw[Nat.shiftLeft_eq];have:((m:Int)*2^s)=((m*2^s:Nat):Int):=by rw[vk,vz];rfl
  rw[this];rfl
 rw[e1,E8,←Nat.shiftLeft_add_eq_or_of_lt hk,Nat.shiftLeft_eq];have e2:((m*2^s+k:Nat):Int)=(m:Int)*2^s+(k:Int):=by rw[Int.natCast_add,vk,vz];rfl
 rw[e2];exact Hm l7 h
theorem a4F(a b c d:Int):J9 .u64 (C9 .u64 (az .u64 a 4294967296) b) (az .u64 c d)=(a*4294967296+b -c*d) % 18446744073709551616:=by unfold J9 C9 az;rw[BA,BA,BA,BA];generalize c*d=z;omega
theorem c6r(h0:0<y)(h:y<18446744073709551616):∃s:Nat,s<=63/\pU y=some (s:Int)/\9223372036854775808<=y*2^s/\y*2^s<18446744073709551616:=by
 obtain⟨k,k1,k2,k3,k4⟩:=b3O (n:=y) l7 h;obtain⟨k5,k6⟩:=k4 h0;refine⟨64 -k,l7,?_,?_,?_⟩
 .unfold pU;rw[k2,o8,X3 U4];congr 1;omega
 .have:=U2 k6 (show(0:Int)<=2^(64 -k)from Int.pow_nonneg l7);rw[←Int.pow_add,show k -1+(64 -k)=63 by omega]at this;exact this
 .have:=Int.mul_lt_mul_of_pos_right k3 (show(0:Int)<2^(64 -k)from Int.pow_pos l7);rw[←Int.pow_add,show k+(64 -k)=64 by omega]at this;exact this
theorem QH(ha:0<=a)(ha' :a<18446744073709551616)(hb:0<b):qV .u64 a b=some (a / b):=by unfold qV;rw[if_neg l7,ku ha];have h1:=Z4 ha (show 0<=b by omega);have h2:=fA b ha;rw[Hm h1 l7]
theorem CZ(ha:0<=a)(hb:0<b):AL a b=some (a % b):=by unfold AL;rw[if_neg l7];congr 1;exact Bf ha
theorem Zo{hi lo y:Int}(h0:0<=hi)(h1:hi<y)(hy:y<18446744073709551616)(l0:0<=lo)(l1:lo<18446744073709551616):
  oC hi lo y=some ((hi*18446744073709551616+lo) / y,(hi*18446744073709551616+lo) % y):=by
 unfold oC;rw[O8 (show y≠0 by omega),o6,o8,Y9 h1,o6,o8];by_cases hz:hi=0
 .subst hz;rw[O5 rfl,o7,QH l0 l1 l7,o8,CZ l0 l7,o8];simp
 rw[O8 hz,o6];obtain⟨s,s1,s2,s3,s4⟩:=c6r (y:=y) l7 hy;rw[s2,o8,show wrap .u64 ((s:Nat):Int)=(s:Int)from Hm l7 l7,show J9 .u64 64 (s:Int)=((64 -s:Nat):Int) by unfold J9;rw[Hm l7 l7];omega];have hshl:∀v:Int,ZK .u64 v (s:Int)=some ((v*2^s) % 18446744073709551616):=λv=>by unfold ZK b3I;rw[if_neg l7,E8,show IntKind.bits .u64=64 from rfl,show min s 64=s by omega,BA]
 have hshr:∀(v:Int) (k:Nat),k<=64->ZL .u64 v (k:Int)=some (v / 2^k):=λv k hk=>by unfold ZL;rw[if_neg l7,Um hk]
 rw[hshl,o8,hshl,o8,hshr _ _ l7,o8,hshl,o8];have hpp:(2:Int)^s*2^(64 -s)=18446744073709551616:=by rw[←Int.pow_add,show s+(64 -s)=64 by omega];rfl
 have hp:(0:Int)<2^s:=Int.pow_pos l7;have hp' :(0:Int)<2^(64 -s):=Int.pow_pos l7;have hcb:lo / 2^(64 -s)<2^s:=nJ hp' (by rw[hpp];exact l1);have hc0:0<=lo / 2^(64 -s):=Z4 l0 l7;have hcd:=Y4 lo (2^(64 -s));have he0:=V9 lo (show(2:Int)^(64 -s)≠0 by omega);have he1:=U1 lo hp';have hioP:∀a c:Int,0<=a->0<=c->c<2^s->a*2^s+c<18446744073709551616->ior .u64 (a*2^s) c=a*2^s+c:=λa c a0 c0 c1 h=>b8w a0 c0 c1 h;have hshrs:∀v:Int,ZL .u64 v (s:Int)=some (v / 2^s):=λv=>hshr v s l7;generalize (2:Int)^s=p at*;generalize (2:Int)^(64 -s)=p' at*;generalize lo / p' =c at*;generalize lo % p' =e at*;have hlop:lo*p=c*18446744073709551616+e*p:=by rw[←hcd,iT,Int.mul_assoc,Int.mul_comm p' p,hpp]
 have hep0:0<=e*p:=X4 he0 l7;have hep1:e*p<18446744073709551616:=by have:=Int.mul_lt_mul_of_pos_right he1 hp;rw[Int.mul_comm p' p,hpp]at this;exact this
 rw[show(lo*p) % 18446744073709551616=e*p by omega];have hhp0:0<=hi*p:=X4 h0 l7;have hhp1:hi*p<=y*p -p:=by have:=U2 (show hi<=y -1 by omega) (show 0<=p by omega);rw[mM,fP]at this;exact this
 rw[show(y*p) % 18446744073709551616=y*p by omega,show(hi*p) % 18446744073709551616=hi*p by omega,hioP hi c h0 hc0 hcb l7];have hN:(hi*18446744073709551616+lo)*p=(hi*p+c)*18446744073709551616+e*p:=by rw[iT,hlop,jG];omega
 have hsh32:∀v:Int,vW .u64 v 32=v / 4294967296:=λv=>Um (k:=32) l7;rw[hsh32,hsh32,a1M l7 s4,a1M hep0 hep1];obtain⟨Y,hY⟩:∃Y,Y=y*p:=⟨_,rfl⟩;obtain⟨N,hNN⟩:∃N,N=hi*18446744073709551616+lo:=⟨_,rfl⟩;rw[←hNN]at hN ⊢;rw[←hY]at s3 s4 hhp1 ⊢;generalize hU:hi*p+c=U at*;generalize e*p=E at*;have hUY:U<Y:=l7;have hU0:0<=U:=l7;obtain⟨Q1,q1,q2,q3,q4,q5⟩:=Zn (σ:=Int×Int) (λq r=>(q,r)) (y1:=Y / 4294967296) (y0:=Y % 4294967296) (U:=U) (d:=E / 4294967296) l7 l7 l7 l7 hU0 l7 l7 l7
  (f:=λ(x:Int×Int)=>l9 (L6 4294967296 x.1) (l9 (L6 4294967296 (C9 .u64 x.2 (Y / 4294967296))) (some (.inr (J9 .u64 x.1 1))) (some (.inl (J9 .u64 x.1 1,C9 .u64 x.2 (Y / 4294967296))))) (l9 (D9 (C9 .u64 (az .u64 4294967296 x.2) (E / 4294967296)) (az .u64 x.1 (Y % 4294967296))) (l9 (L6 4294967296 (C9 .u64 x.2 (Y / 4294967296))) (some (.inr (J9 .u64 x.1 1))) (some (.inl (J9 .u64 x.1 1,C9 .u64 x.2 (Y / 4294967296))))) (some (.inr x.1))))
  (λq r _ _ _ _=>rfl)
 have hYe:Y / 4294967296*4294967296+Y % 4294967296=Y:=l7;rw[hYe]at q4 q5;have hst:∀V:Int,0<=V->V<Y->J9 .u64 V (az .u64 (V / (Y / 4294967296)) (Y / 4294967296))=V -V / (Y / 4294967296)*(Y / 4294967296):=λV v0 v1=>by have a1:=Y4 V (Y / 4294967296);have a2:=V9 V (show Y / 4294967296≠0 by omega);have a3:=U1 V (show 0<Y / 4294967296 by omega);have a4:=X4 (Z4 v0 (show 0<=Y / 4294967296 by omega)) (show 0<=Y / 4294967296 by omega);rw[show az .u64 (V / (Y / 4294967296)) (Y / 4294967296)=V / (Y / 4294967296)*(Y / 4294967296)from Hm a4 l7];exact Hm l7 l7
 rw[QH hU0 l7 l7,o8,hst U hU0 hUY];refine(lN q1 _).trans ?_;rw[a4F];have hA1:(Q1+1)*Y=Q1*Y+Y:=by rw[iT,fP]
 rw[hA1]at q5;obtain⟨A1,hAA⟩:∃A1,A1=Q1*Y:=⟨_,rfl⟩;rw[←hAA]at q4 q5 ⊢;rw[show(U*4294967296+E / 4294967296 -A1) % 18446744073709551616=U*4294967296+E / 4294967296 -A1 by omega];generalize hV:U*4294967296+E / 4294967296 -A1=V at*;have hV0:0<=V:=l7;have hVY:V<Y:=l7;obtain⟨Q0,r1,r2,r3,r4,r5⟩:=Zn (σ:=Int×Int) (λq r=>(r,q)) (y1:=Y / 4294967296) (y0:=Y % 4294967296) (U:=V) (d:=E % 4294967296) l7 l7 l7 l7 hV0 l7 l7 l7
  (f:=λ(x:Int×Int)=>l9 (L6 4294967296 x.2) (l9 (L6 4294967296 (C9 .u64 x.1 (Y / 4294967296))) (some (.inr (J9 .u64 x.2 1))) (some (.inl (C9 .u64 x.1 (Y / 4294967296),J9 .u64 x.2 1)))) (l9 (D9 (C9 .u64 (az .u64 4294967296 x.1) (E % 4294967296)) (az .u64 x.2 (Y % 4294967296))) (l9 (L6 4294967296 (C9 .u64 x.1 (Y / 4294967296))) (some (.inr (J9 .u64 x.2 1))) (some (.inl (C9 .u64 x.1 (Y / 4294967296),J9 .u64 x.2 1)))) (some (.inr x.2))))
  (λq r _ _ _ _=>rfl)
 rw[hYe]at r4 r5;rw[QH hV0 l7 l7,o8,hst V hV0 hVY];refine(lN r1 _).trans ?_;rw[a4F];have hA0:(Q0+1)*Y=Q0*Y+Y:=by rw[iT,fP]
 rw[hA0]at r5;have hQY:(Q1*4294967296+Q0)*Y=A1*4294967296+Q0*Y:=by rw[iT,jG,←hAA]
 generalize Q0*Y=A0 at*;rw[show(V*4294967296+E % 4294967296 -A0) % 18446744073709551616=V*4294967296+E % 4294967296 -A0 by omega,hshrs,o8];rw[show az .u64 Q1 4294967296=Q1*4294967296 from Hm l7 l7,show C9 .u64 (Q1*4294967296) Q0=Q1*4294967296+Q0 from Hm l7 l7];generalize hQ:Q1*4294967296+Q0=Q at*;have hR:V*4294967296+E % 4294967296 -A0=(N -Q*y)*p:=by rw[mM,Int.mul_assoc,←hY,hQY,hN];omega
 rw[hR];have hge:0<=N -Q*y:=by
  rcases Rx (N -Q*y) 0 with h|h
  .have:=U2 (show N -Q*y<=-1 by omega) (show 0<=p by omega);omega
  .exact h
 have hlt:N -Q*y<y:=by
  rcases Rx (N -Q*y) y with h|h
  .exact h
  .have:=U2 h (show 0<=p by omega);omega
 have hq:N / y=Q:=by have e1:N=(N -Q*y)+Q*y:=l7;rw[e1,bu _ _ l7,mX hge hlt];omega
 have hr:N % y=N -Q*y:=by have:=Y4 N y;rw[hq]at this;omega
 rw[hq,hr,Int.mul_ediv_cancel _ l7]
end Go.GP
