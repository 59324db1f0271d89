import Derived.Test.YtfelabniafejgaaGreatDoorT1
import Derived.Test.YtfelabniafejgaaGreatDoorT2
set_option linter.all false
namespace Go.GP
variable {a:Int}{b:Int}{n:Int}
section
variable {α β σ ε ρ:Type}
@[simp] theorem o8 (x:α) (f:α->Option β):o5 (some x) f=f x:=rfl
@[simp] theorem b7v (f:α->Option β):o5 none f=none:=rfl
theorem kR{o:Option α}{x:α}(h:o=some x)(f:α->Option β):o5 o f=f x:=by rw[h];rfl
theorem U8{o o' :Option α}(h:o=o'){K:α->Option β}{r:Option β}(h2:o5 o' K=r):o5 o K=r:=by rw[h];exact h2
theorem bb(a b:Bool):l7 a (some b) (some false)=some (a&&b):=by cases a<;>rfl
theorem fJ(o:Option α):o5 o (λx=>some x)=o:=by cases o<;>rfl
@[simp] theorem o7 (x y:α):l7 true x y=x:=rfl
@[simp] theorem o6 (x y:α):l7 false x y=y:=rfl
theorem Fh{b:Bool}(h:b=true)(x y:α):l7 b x y=x:=by rw[h];rfl
theorem Kz{b:Bool}(h:b=false)(x y:α):l7 b x y=y:=by rw[h];rfl
@[simp] theorem J7 (s:σ) (f:σ->α) (g:ε->α):U6 (.inl s) f g=f s:=rfl
@[simp] theorem vC (s:ε) (f:σ->α) (g:ε->α):U6 (.inr s) f g=g s:=rfl
@[simp] theorem D8:D7 true=false:=rfl
@[simp] theorem aB:D7 false=true:=rfl
theorem S9(h:a<b):D9 a b=true:=by simp[D9,h]
theorem J9(h:b<=a):D9 a b=false:=by simp[D9];omega
theorem X5(h:a<=b):J5 a b=true:=by simp[J5,h]
theorem Y4(h:b<a):J5 a b=false:=by simp[J5];omega
theorem O8(h:a=b):x8 a b=true:=by simp[x8,h]
theorem J6(h:a≠b):x8 a b=false:=by simp[x8,h]
theorem kz :D9 a b=true↔a<b:=by simp[D9]
theorem qc :J5 a b=true↔a<=b:=by simp[J5]
theorem Y5 :x8 a b=true↔a=b:=by simp[x8]
theorem iI :D9 a b=false↔b<=a:=by simp[D9]
theorem GL :J5 a b=false↔b<a:=by simp[J5]
theorem BP :x8 a b=false↔a≠b:=by simp[x8]
theorem fK{a b:d1x} :seq a b=true↔a=b:=by simp[seq]
theorem LH{a b:d1x} :seq a b=false↔a≠b:=by simp[seq]
theorem jQ(h:0<=a):a.tdiv b=a / b:=Int.tdiv_eq_ediv_of_nonneg h
theorem zG(h:0<=a):dM a b=a % b:=dX h
def kL(n:Int):Prop:=-9223372036854775808<=n/\n<=9223372036854775807
theorem O5{p:Int}(h:kL p:=by unfold kL;omega):kL p:=h
def U64(n:Int):Prop:=0<=n/\n<=18446744073709551615
theorem mi(h:kL n):IntKind.wrap .i64 n=n:=by unfold kL at h;unfold IntKind.wrap;simp[IntKind.signed,IntKind.bits];omega
theorem b4y(h:U64 n):IntKind.wrap .u64 n=n:=by unfold U64 at h;unfold IntKind.wrap;simp[IntKind.signed,IntKind.bits];omega
theorem X4(h:kL (a+b)):x9 .i64 a b=a+b:=mi h
theorem P8(h:kL (a -b)):I7 .i64 a b=a -b:=mi h
theorem lQ(h:kL (a*b)):X9 .i64 a b=a*b:=mi h
theorem BR(h:kL (a.tdiv b)):dD .i64 a b=a.tdiv b:=mi h
theorem Ze(h:(Lit.int .i64 n).wf=true):kL n:=by simp[Lit.wf,IntKind.min,IntKind.max,IntKind.signed,IntKind.bits]at h;unfold kL;omega
theorem Vj(l:List α):0<=o9 l:=by simp[o9]
theorem E5(l:List α)(i:Nat):F9 l (i:Int)=l[i]?:=by simp[F9]
theorem qw{l:List α}{i:Int}{x:α}(h:F9 l i=some x):0<=i/\i<o9 l/\x∈l/\l[i.toNat]? =some x:=by
 unfold F9 at h;split at h
 .rename_i h0;obtain⟨h1,h2⟩:=X6.1 h;refine⟨h0,by simp[o9];omega,?_,h⟩;rw[←h2];exact N7 h1
 .cases h
theorem mV{l:List α}{i:Int}(h0:0<=i)(h:i<o9 l):∃x,F9 l i=some x/\x∈l:=by
 unfold o9 at h;refine⟨l[i.toNat]'l9,?_,N7 _⟩;unfold F9
 rw[if_pos h0,eG]
theorem WF(l:d1x)(i:Nat):sat l (i:Int)=(l[i]?).map λc=>(c.toNat:Int):=by simp[sat]
theorem KR{a b:List α}(h:a.length+b.length<=1073741824):dG a b=some (a++b):=by simp[dG,h]
theorem b4U{l:List α}{lo hi:Int}(h0:0<=lo)(h1:lo<=hi)(h2:hi<=l.length):Ny l lo hi=some ((l.take hi.toNat).drop lo.toNat):=by simp[Ny,h0,h1,h2]
theorem b4V{l:List α}{hi:Int}(h1:0<=hi)(h2:hi<=l.length):Ny l 0 hi=some (l.take hi.toNat):=by rw[b4U l9 h1 h2];simp
end
section
variable {σ ε ρ:Type}
theorem Vl{f:σ->Option (σ⊕ε)}(Inv:σ->Prop)(Q:ε->Prop)(meas:σ->Nat)
  (h:∀s,Inv s->(∃s',f s=some (.inl s')/\Inv s' /\meas s' <meas s)\/(∃e,f s=some (.inr e)/\Q e)):
  ∀n s,Inv s->meas s<n->∃e,uh f n s=some e/\Q e
 |0,_,_,h=>by omega|n+1,s,hi,hm=>by
  unfold uh;rcases h s hi with⟨s',e,hi',hm'⟩|⟨x,e,hx⟩
  .rw[e];exact Vl Inv Q meas h n s' hi' l9
  .rw[e];exact⟨x,rfl,hx⟩
theorem gy{f:σ->Option (σ⊕ε)}{s:σ}(Inv:σ->Prop)(Q:ε->Prop)(meas:σ->Nat)(hi:Inv s)(hm:meas s<18446744073709551616)
  (h:∀s,Inv s->(∃s',f s=some (.inl s')/\Inv s' /\meas s' <meas s)\/(∃e,f s=some (.inr e)/\Q e)):∃e,Y9 f s=some e/\Q e:=
 Vl Inv Q meas h _ s hi hm
theorem XP{f:σ->Option (Out σ ε ρ)}(Inv:σ->Prop)(Q:ε->Prop)(Qr:ρ->Prop)(meas:σ->Nat)
  (h:∀s,Inv s->(∃s',f s=some (.nx s')/\Inv s' /\meas s' <meas s)\/(∃e,f s=some (.ex e)/\Q e)\/(∃r,f s=some (.rt r)/\Qr r)):
  ∀n s,Inv s->meas s<n->(∃e,pW f n s=some (.inl e)/\Q e)\/(∃r,pW f n s=some (.inr r)/\Qr r)
 |0,_,_,h=>by omega|n+1,s,hi,hm=>by
  unfold pW;rcases h s hi with⟨s',e,hi',hm'⟩|⟨x,e,hx⟩|⟨x,e,hx⟩
  .rw[e];exact XP Inv Q Qr meas h n s' hi' l9
  .rw[e];exact .inl ⟨x,rfl,hx⟩
  .rw[e];exact .inr ⟨x,rfl,hx⟩
theorem vP{f:σ->Option (Out σ ε ρ)}{s:σ}(Inv:σ->Prop)(Q:ε->Prop)(Qr:ρ->Prop)(meas:σ->Nat)(hi:Inv s)(hm:meas s<18446744073709551616)
  (h:∀s,Inv s->(∃s',f s=some (.nx s')/\Inv s' /\meas s' <meas s)\/(∃e,f s=some (.ex e)/\Q e)\/(∃r,f s=some (.rt r)/\Qr r)):
  (∃e,U1 f s=some (.inl e)/\Q e)\/(∃r,U1 f s=some (.inr r)/\Qr r):=
 XP Inv Q Qr meas h _ s hi hm
end
section
variable {α β ε ρ:Type}
open Classical in
theorem DR(l:List α)(p:Nat->α->Bool)(r:ρ)(e:ε)(f:Int->Option (Out Int ε ρ))(hl:l.length<18446744073709551616)
  (hin:∀(i:Nat) (a:α),l[i]? =some a->f (i:Int)=if p i a=true then some (.nx ((i+1:Nat):Int))else some (.rt r))
  (hend:f (l.length:Int)=some (.ex e)):
  U1 f 0=if(∀i a,l[i]? =some a->p i a=true)then some (.inl e)else some (.inr r):=by
 have key:∀(n i:Nat),i<=l.length->l.length -i<n->(∀j a,j<i->l[j]? =some a->p j a=true)->pW f n (i:Int)=if(∀i a,l[i]? =some a->p i a=true)then some (.inl e)else some (.inr r):=by
  intro n;induction n with
  |zero=>intro i _ h;omega|succ n ih=>
   intro i hi hn hp;unfold pW;by_cases h:i<l.length
   .have e' :=eG h;rw[hin i _ e'];by_cases hpi:p i l[i]=true
    .rw[if_pos hpi];exact ih (i+1) l9 l9 λj a hj ha=>by
      by_cases hji:j=i
      .subst hji;rw[e']at ha;cases ha;exact hpi
      .exact hp j a l9 ha
    .rw[if_neg hpi,if_neg];intro hall;exact hpi (hall i _ e')
   .have:i=l.length:=l9;subst this;rw[hend,if_pos];intro j a ha;exact hp j a (X6.1 ha).1 ha
 exact key _ 0 (dF _) hl λj a hj=>by omega
end
end Go.GP
namespace Go.GP
section
variable {α β α' β' σ τ ε ε' ρ ρ' :Type}
def Ag(R:α->β->Prop)(o:Option α)(p:Option β):Prop:=∃a b,o=some a/\p=some b/\R a b
theorem Ag.mk{R:α->β->Prop}{a:α}{b:β}(h:R a b):Ag R (some a) (some b):=⟨a,b,rfl,rfl,h⟩
theorem Ag.mono{R S:α->β->Prop}{o:Option α}{p:Option β}(h:Ag R o p)(hs:∀a b,o=some a->p=some b->R a b->S a b):Ag S o p:=by obtain⟨a,b,h1,h2,h3⟩:=h;exact⟨a,b,h1,h2,hs a b h1 h2 h3⟩
theorem Ag.bind{R:α->β->Prop}{S:α' ->β' ->Prop}{o:Option α}{p:Option β}{f:α->Option α'}{g:β->Option β'}(h:Ag R o p)
  (hk:∀a b,o=some a->p=some b->R a b->Ag S (f a) (g b)):Ag S (o5 o f) (o5 p g):=by
 obtain⟨a,b,h1,h2,h3⟩:=h;have:=hk a b h1 h2 h3;rw[h1,h2];exact this
theorem Ag.left{S:α' ->β->Prop}{o:Option α}{a:α}{f:α->Option α'}{p:Option β}(h:o=some a)(hk:Ag S (f a) p):Ag S (o5 o f) p:=by rw[h];exact hk
theorem Ag.right{S:α->β' ->Prop}{p:Option β}{b:β}{g:β->Option β'}{o:Option α}(h:p=some b)(hk:Ag S o (g b)):Ag S o (o5 p g):=by rw[h];exact hk
theorem Ag.cond{S:α->β->Prop}{b c:Bool}{x y:Option α}{u v:Option β}(h:b=c)(h1:b=true->Ag S x u)(h2:b=false->Ag S y v):Ag S (l7 b x y) (l7 c u v):=by
 subst h;cases b
 .exact h2 rfl
 .exact h1 rfl
theorem Ag.eq{o p:Option α}(h:Ag Eq o p):∃a,o=some a/\p=some a:=by obtain⟨a,b,h1,h2,rfl⟩:=h;exact⟨a,h1,h2⟩
def d0w(E:ε->ε' ->Prop)(Q:ρ->ρ' ->Prop):ε⊕ρ->ε' ⊕ρ' ->Prop
 | .inl a,.inl b=>E a b| .inr a,.inr b=>Q a b|_,_=>False
theorem Ag.sum{E:ε->ε' ->Prop}{Q:ρ->ρ' ->Prop}{S:α->β->Prop}{o:ε⊕ρ}{p:ε' ⊕ρ'}{f:ε->Option α}{g:ρ->Option α}{f' :ε' ->Option β}{g' :ρ' ->Option β}(h:d0w E Q o p)
  (h1:∀a b,E a b->Ag S (f a) (f' b)) (h2:∀a b,Q a b->Ag S (g a) (g' b)):Ag S (U6 o f g) (U6 p f' g'):=by
 cases o<;>cases p<;>first|exact h1 _ _ h|exact h2 _ _ h|exact h.elim
theorem IJ{p:Nat->Option ρ}(n:Nat)(hn:n<18446744073709551616)(e:ε){f:Int->Option (Out Int ε ρ)}
  (h1:∀i,i<n->f (i:Int)=some (match p i with|some r=> .rt r|none=> .nx ((i+1:Nat):Int))) (h2:f (n:Int)=some (.ex e)):
  U1 f 0=some (match(List.range n).findSome? p with|some r=> .inr r|none=> .inl e):=by
 have key:∀m i,i+m=n->∀k,m<k->pW f k (i:Int)=some (match(List.range' i m).findSome? p with|some r=> .inr r|none=> .inl e):=by
  intro m;induction m with
  |zero=>intro i hi k hk;obtain⟨k,rfl⟩:∃k',k=k' +1:=⟨k -1,l9⟩;have:i=n:=l9;subst this;unfold pW;rw[h2];rfl
  |succ m ih=>
   intro i hi k hk;obtain⟨k,rfl⟩:∃k',k=k' +1:=⟨k -1,l9⟩;unfold pW;rw[h1 i l9,ng,List.findSome?_cons];cases hp:p i with
   |some r=>rfl|none=>exact ih (i+1) l9 k l9
 have:=key n 0 l9 jU hn;rw[List.range_eq_range'];exact this
end
end Go.GP
namespace Go.GP
open Gt
set_option maxRecDepth 100000
section
variable {i:Nat}
theorem Y1(h:i<=9000000000000000000):x9 .i64 (i:Int) 1=((i+1:Nat):Int):=by rw[X4 O5];omega
def Ub(c:UInt8):Bool:=decide (97<=c.toNat)&&decide (c.toNat<=122)
def Dn(c:UInt8):Bool:=Ub c || (decide (48<=c.toNat)&&decide (c.toNat<=57)) || decide (c.toNat=95)
def MJ:List d1x:=uU.getD []
theorem b5r:uU=some MJ:=by kernel_rfl
def ED(s:d1x):Bool:=match s with|[]=>false|c::r=>decide (s.length<=16)&&Ub c&&s.all Dn&&!(MJ.any λw=>seq s w)
theorem u_(c:UInt8)(r:d1x):ED (c::r)=(decide ((c::r).length<=16)&&Ub c&&(c::r).all Dn&&!(MJ.any λw=>seq (c::r) w)):=rfl
theorem XQ(c:UInt8):wQ (c.toNat:Int)=some (Ub c):=by
 unfold wQ Ub;cases h:decide (97<=c.toNat)<;>simp only[decide_eq_true_eq,decide_eq_false_iff_not]at h
 .rw[Y4 l9];rfl
 .rw[X5 l9];simp only[o7,gu,J5];congr 1;by_cases h2:c.toNat<=122<;>simp[h2]<;>omega
theorem S_(c:UInt8):IQ (c.toNat:Int)=some (Ub c):=XQ c
def a2a(c:UInt8):Bool:=decide (48<=c.toNat)&&decide (c.toNat<=57)
theorem a2b(c:UInt8):zI (c.toNat:Int)=some (a2a c):=by
 unfold zI a2a;cases h:decide (48<=c.toNat)<;>simp only[decide_eq_true_eq,decide_eq_false_iff_not]at h
 .rw[Y4 l9];rfl
 .rw[X5 l9];simp only[o7,gu,J5];congr 1;by_cases h2:c.toNat<=57<;>simp[h2]<;>omega
theorem a8X(c:UInt8):NR (c.toNat:Int)=some (a2a c):=a2b c
theorem b6n(c:UInt8):x8 (c.toNat:Int) 95=decide (c.toNat=95):=by unfold x8;by_cases h:c.toNat=95<;>simp[h]<;>omega
theorem b6d(c:UInt8):Lh (c.toNat:Int)=some (Dn c):=by unfold Lh;rw[S_,o8,a8X,b6n];unfold Dn;change _=some (Ub c || a2a c || decide (c.toNat=95));cases Ub c<;>cases a2a c<;>rfl
variable {s:d1x}
theorem Zu(h:s.length<=1000000):∃k,yL s=some k/\(k=o9 s↔s.all Dn=true):=by
 unfold yL;have:=gy (f:=λ(x:Int)=>l7 (D9 x (o9 s)) (o5 (sat s x) λx_1=>o5 (wQ x_1) λx_2=>l7 x_2 (some (Sum.inl (x9 IntKind.i64 x 1)))
   (o5 (sat s x) λx_3=>o5 (zI x_3) λx_4=>l7 x_4 (some (Sum.inl (x9 IntKind.i64 x 1))) (o5 (sat s x) λx_5=>l7 (x8 x_5 95) (some (Sum.inl (x9 IntKind.i64 x 1))) (some (Sum.inr x))))) (some (Sum.inr x)))
  (s:=0) (λx=>∃i:Nat,x=i/\i<=s.length/\(s.take i).all Dn=true) (λk=>k=o9 s↔s.all Dn=true) (λx=>s.length -x.toNat) ⟨0,rfl,l9,rfl⟩ V6 ?_
 .obtain⟨k,h1,h2⟩:=this;refine⟨k,?_,h2⟩;rw[fJ];exact h1
 .rintro x ⟨i,rfl,hi,hall⟩;by_cases hl:i<s.length
  .have e:=eG hl;simp only[S9 (show(i:Int)<o9 s by simp[o9];omega),o7,WF,e,ax,o8,XQ,a2b,b6n];have hst:(s.take (i+1)).all Dn=((s.take i).all Dn&&Dn s[i]):=by rw[V8 hl,List.all_append];simp
   have hw:Dn s[i]=(Ub s[i] || a2a s[i] || decide (s[i].toNat=95)):=rfl;cases hwb:Dn s[i]with
   |true=>left;refine⟨((i+1:Nat):Int),?_,⟨i+1,rfl,hl,by rw[hst,hall,hwb];rfl⟩,by simp;omega⟩;rw[Y1 l9];rw[hw]at hwb;cases h1:Ub s[i]<;>cases h2:a2a s[i]<;>cases h3:decide (s[i].toNat=95)<;>rw[h1,h2,h3]at hwb<;>first|rfl|cases hwb
   |false=>
    right;refine⟨(i:Int),?_,?_⟩
    .rw[hw]at hwb;cases h1:Ub s[i]<;>cases h2:a2a s[i]<;>cases h3:decide (s[i].toNat=95)<;>rw[h1,h2,h3]at hwb<;>first|rfl|cases hwb
    .constructor
     .intro h;simp[o9]at h;omega
     .intro h;have:=kG.1 h s[i] (N7 hl);rw[hwb]at this;cases this
  .right;have:i=s.length:=l9;subst this;rw[aA]at hall;exact⟨_,by rw[J9 (by simp[o9])];rfl,by simp[o9,hall]⟩
theorem a9b{a:d1x}{w:d1x}{r:d1A}{x:Bool}(h:r=some x):l7 (seq a w) (some (seq a w)) r=some (seq a w || x):=by rw[h];cases seq a w<;>rfl
theorem a3s(s:d1x):Cb s=some (MJ.any λw=>seq s w):=by
 unfold Cb;refine U8 (o' :=some (MJ.any λw=>seq s w)) ?_ (by cases MJ.any λw=>seq s w<;>rfl);have hr:MJ=(uU).getD []:=rfl;rw[show(MJ.any λw=>seq s w)=List.foldr (λw b=>seq s w || b) false MJ from by induction MJ with|nil=>rfl|cons w l ih=>simp[lh,ih]];unfold MJ uU;simp only[bK,List.foldr]
 repeat (refine a9b ?_)
 simp
theorem rJ(h:s.length<=1000000):iK s=some (ED s):=by
 unfold iK;cases s with
 |nil=>rfl|cons c r=>
  have h1:seq (c::r) []=false:=by simp[seq]
  obtain⟨k,h2,h3⟩:=Zu h;rw[h1];simp only[aB,o7];rw[show sat (c::r) 0=some (c.toNat:Int)from rfl,o8,XQ,o8,h2,o8,a3s,o8];have h4:x8 k (o9 (c::r))=(c::r).all Dn:=by rw[fV,Y5];exact h3
  have h5:J5 (o9 (c::r)) 16=decide ((c::r).length<=16):=by simp only[J5,o9];congr 1;simp;omega
  rw[h4,h5,u_];cases Ub c<;>cases (c::r).all Dn<;>cases decide ((c::r).length<=16)<;>rfl
theorem nJ(h:s.length<=1000000):eU s=some (ED s):=by
 unfold eU;cases s with
 |nil=>rfl|cons c r=>
  have h0:x8 (o9 (c::r)) 0=false:=J6 (by simp[o9];omega);have h5:D9 16 (o9 (c::r))= !decide ((c::r).length<=16):=by simp only[D9,o9];rw[←decide_not];congr 1;simp;omega
  rw[h0,h5,show sat (c::r) 0=some (c.toNat:Int)from rfl,o8,S_,o8,u_];generalize hs:c::r=s at*;cases hl:decide (s.length<=16)
  .rfl
  cases hc:Ub c
  .rfl
  simp only[jq,o6,D8,o8,J7,gu];refine U8 (DR s (λi a=>Dn a) false PUnit.unit _ l9 (λi x hx=>?_) ?_) ?_
  rotate_left 2
  .have ha:(∀(i:Nat) (a:UInt8),s[i]? =some a->Dn a=true)↔s.all Dn=true:=by
    rw[kG];constructor
    .intro h x hx;obtain⟨i,hi,rfl⟩:=Y7 hx;exact h i _ (eG hi)
    .intro h i a hi;exact h a (iO hi)
   by_cases hw:s.all Dn=true
   .rw[if_pos (ha.2 hw),o8,J7,b5r,o8,hw];refine U8 (DR MJ (λi a=> !seq a s) false PUnit.unit _ (by decide+kernel) (λi x hx=>?_) ?_) ?_
    rotate_left 2
    .have hb:(∀(i:Nat) (a:d1x),MJ[i]? =some a->(!seq a s)=true)↔(MJ.any λw=>seq s w)=false:=by
      rw[jJ];constructor
      .intro h x hx;obtain⟨i,hi,rfl⟩:=Y7 hx;have:=h i _ (eG hi);intro hq;rw[fK.1 hq]at this;simp[seq]at this
      .intro h i a hi;have:=h a (iO hi);cases hq:seq a s
       .rfl
       .exact absurd (by rw[fK.1 hq];simp[seq]) this
     by_cases hv:(MJ.any λw=>seq s w)=false
     .rw[if_pos (hb.2 hv),hv];rfl
     .rw[if_neg (λh=>hv (hb.1 h))];simp only[qf]at hv;rw[hv];rfl
    .have hi:=(X6.1 hx).1;simp only[S9 (show(i:Int)<o9 MJ by simp[o9];omega),o7,E5,hx,o8];rw[show U0 MJ (U9 (i:Int))=some x from by simp[U0,U9,hx],o8,Y1 (by
       have:MJ.length<=100:=by decide+kernel
       omega)]
     cases seq x s<;>rfl
    .rw[J9 (by simp[o9])];rfl
   .rw[if_neg (λh=>hw (ha.1 h))];simp only[kF]at hw;rw[hw];rfl
  .have hi:=(X6.1 hx).1;simp only[S9 (show(i:Int)<o9 s by simp[o9];omega),o7,WF,hx,ax,o8,b6d];rw[Y1 l9];cases Dn x<;>rfl
  .rw[J9 (by simp[o9])];rfl
theorem Tv(t:Int×Int)(en:List gI):iT t en=dP t en:=by
 unfold iT dP;by_cases h1:t.1=1
 .simp[x8,h1,J5]
 by_cases h2:t.1=2
 .simp[x8,h2,J5]
 by_cases h3:t.1=3
 .simp[x8,h3,J5]
 by_cases h4:t.1=4
 .simp[x8,h4,J5]
 by_cases h5:t.1=5
 .simp[x8,h5,J5]
 by_cases h6:t.1=6
 .simp[x8,h6,J5]
 .simp only[x8,h1,h2,h3,h4,h5,h6,decide_false,o6,o8];by_cases h7:1<=t.1
  .rw[Fh (X5 h7),Kz (Y4 l9)]
  .rw[Kz (Y4 l9)]
theorem a7P(t:Int×Int)(en:List gI):tJ t en=nV t en:=by unfold tJ nV;rw[Tv]
def vty(t:Int×Int)(en:List gI):Bool:=l7 (x8 t.1 6) (l7 (J5 0 t.2) (D9 t.2 (o9 en)) false) (l7 (J5 1 t.1) (l7 (J5 t.1 5) (x8 t.2 0) false) false)
theorem jF(t:Int×Int)(en:List gI):dP t en=some (vty t en):=by unfold dP vty;cases x8 t.1 6<;>cases J5 0 t.2<;>cases J5 1 t.1<;>cases J5 t.1 5<;>rfl
theorem zl(t:Int×Int)(en:List gI):iT t en=some (vty t en):=(Tv t en).trans (jF t en)
theorem a1b(t:Int×Int)(en:List gI):∃b:Int×Int,nV t en=some b:=by
 unfold nV;rw[jF,o8];cases hv:vty t en
 .exact⟨_,rfl⟩
 simp only[D8,o6];cases h1:x8 t.1 1<;>simp only[o7,o6]
 .cases h2:x8 t.1 2<;>simp only[o7,o6]
  .cases h3:x8 t.1 3<;>simp only[o7,o6]
   .cases h4:x8 t.1 4<;>simp only[o7,o6]
    .cases h5:x8 t.1 5<;>simp only[o7,o6]
     .have h6:x8 t.1 6=true/\J5 0 t.2=true/\D9 t.2 (o9 en)=true:=by
       unfold vty at hv;rw[BP]at h1 h2 h3 h4 h5;cases h6:x8 t.1 6<;>rw[h6]at hv
       .rw[BP]at h6;cases h7:J5 1 t.1<;>rw[h7]at hv
        .cases hv
        cases h8:J5 t.1 5<;>rw[h8]at hv
        .cases hv
        rw[qc]at h7 h8;omega
       .cases h7:J5 0 t.2<;>rw[h7]at hv
        .cases hv
        .exact⟨rfl,rfl,hv⟩
      obtain⟨x,hx,_⟩:=mV (qc.1 h6.2.1) (kz.1 h6.2.2);rw[hx];exact⟨_,rfl⟩
     .exact⟨_,rfl⟩
    .exact⟨_,rfl⟩
   .exact⟨_,rfl⟩
  .exact⟨_,rfl⟩
 .exact⟨_,rfl⟩
def bnd(t:Int×Int)(en:List gI):Int×Int:=(nV t en).getD (0,0)
theorem QK(t:Int×Int)(en:List gI):nV t en=some (bnd t en):=by obtain⟨b,h⟩:=a1b t en;unfold bnd;rw[h];rfl
theorem TK(t:Int×Int)(en:List gI):tJ t en=some (bnd t en):=(a7P t en).trans (QK t en)
def inB(n:Int)(b:Int×Int):Bool:=l7 (J5 b.1 n) (J5 n b.2) false
theorem a0Y(n:Int)(t:Int×Int)(en:List gI):Hm n t en=some (inB n (bnd t en)):=by unfold Hm inB;rw[QK,o8];cases J5 (bnd t en).1 n<;>rfl
def Ig(r:Int×Int):Bool:=l7 (J5 0 r.1) (l7 (J5 r.1 r.2) (J5 r.2 109573) false) false
theorem JF(r:Int×Int):rM r=some (Ig r):=by unfold rM Ig;cases J5 0 r.1<;>cases J5 r.1 r.2<;>rfl
theorem Le(r:Int×Int):yf r=some (Ig r):=JF r
def Xq(a b:Int×Int):(Int×Int)×Bool:=l7 (Ig a) (l7 (Ig b) (l7 (J5 (pM a.2 b.2) (nR a.1 b.1)) ((0,0),false) ((nR a.1 b.1,pM a.2 b.2),true)) ((0,0),false)) ((0,0),false)
theorem b2q(a b:Int×Int):Ar a b=some (Xq a b):=by unfold Ar Xq;rw[Le,o8,Le,o8];cases Ig a<;>cases Ig b<;>cases J5 (pM a.2 b.2) (nR a.1 b.1)<;>rfl
theorem b5Q(a b:Int×Int):ut a b=some (Xq a b):=by
 unfold ut xg Xq;rw[JF,o8,JF,o8];cases Ig a
 .rfl
 simp only[o7];cases h1:D9 a.1 a.2
 .rw[iI]at h1;rw[X5 (show pM a.2 b.2<=nR a.1 b.1 by unfold pM nR;omega)];cases Ig b<;>rfl
 simp only[o8,D8,o6];cases Ig b
 .rfl
 simp only[o7];cases h2:D9 b.1 b.2
 .rw[iI]at h2;rw[X5 (show pM a.2 b.2<=nR a.1 b.1 by unfold pM nR;omega)];rfl
 .cases J5 (pM a.2 b.2) (nR a.1 b.1)<;>rfl
def zD(a b:ww):Bool:=l7 (Xq a.1 b.1).2 (D9 (nR a.2.1 b.2.1) (pM a.2.2.1 b.2.2.1)) false
theorem a1W(a b:ww):Di a b=some (zD a b):=by unfold Di zD;rw[b5Q,o8];cases (Xq a.1 b.1).2<;>rfl
theorem a1c(a b:ww):CO a b=some (zD a b):=by unfold CO zD;rw[b2q,o8];cases (Xq a.1 b.1).2<;>rfl
theorem b0s{l:List ww}(r:ww)(h:l.length<=1000000):∃k:Int,uz l r=some (k,l.any λy=>zD y r):=by
 unfold uz;have key:=vP (f:=λ(x:Int)=>l7 (D9 x (o9 l)) (o5 (F9 l x) λx_1=>o5 (vF x_1 r) λx_2=>l7 x_2 (some (Out.rt (x,true))) (some (Out.nx (x9 IntKind.i64 x 1)))) (some (Out.ex PUnit.unit)))
   (s:=0) (λx=>∃i:Nat,x=i/\i<=l.length/\(l.take i).any (λy=>zD y r)=false) (λ_=>(l.any λy=>zD y r)=false) (λk=>k.2=true/\(l.any λy=>zD y r)=true) (λx=>l.length -x.toNat) ⟨0,rfl,l9,rfl⟩ V6 ?_
 .rcases key with⟨e,h1,h2⟩|⟨k,h1,h2,h3⟩
  .exact⟨0,by rw[h1,h2];rfl⟩
  .refine⟨k.1,?_⟩;rw[h1,h3,←h2];rfl
 .rintro x ⟨i,rfl,hi,hall⟩;by_cases hl:i<l.length
  .have e:=eG hl;have hst:(l.take (i+1)).any (λy=>zD y r)=((l.take i).any (λy=>zD y r) || zD l[i] r):=by rw[V8 hl,sK];simp
   have hv:vF l[i] r=some (zD l[i] r):=by unfold vF;rw[a1W];rfl
   simp only[S9 (show(i:Int)<o9 l by simp[o9];omega),o7,E5,e,o8,hv];cases hc:zD l[i] r with
   |true=>exact .inr (.inr ⟨_,rfl,rfl,mY.2 ⟨l[i],N7 hl,hc⟩⟩)|false=>exact .inl ⟨((i+1:Nat):Int),by rw[Y1 l9];rfl,⟨i+1,rfl,hl,by rw[hst,hall,hc];rfl⟩,by simp;omega⟩
  .have:i=l.length:=l9;subst this;rw[aA]at hall;exact .inr (.inl ⟨_,by rw[J9 (by simp[o9])];rfl,hall⟩)
def UQ(x:ww)(bl br:Int×Int):Bool:=
 l7 (Ig x.1) (l7 (x8 x.1.1 x.1.2) true (l7 (J5 x.2.2.1 x.2.1) true (l7 (inB x.2.1 bl) (l7 (inB (I7 .i64 x.2.2.1 1) bl) (D7 (inB x.2.2.2 br)) true) true))) true
theorem a9g(x:ww)(t:bJ)(en:List gI):IR x t en=some (UQ x (bnd t.2.1 en) (bnd t.2.2.1 en)):=by
 unfold IR UQ;rw[Le,o8,a0Y,a0Y,a0Y];cases Ig x.1
 .rfl
 cases x8 x.1.1 x.1.2
 case true=>rfl
 cases J5 x.2.2.1 x.2.1
 case true=>rfl
 simp only[D8,o6,o8,J7,o7];cases inB x.2.1 (bnd t.2.1 en)
 .rfl
 cases inB (I7 .i64 x.2.2.1 1) (bnd t.2.1 en)
 .rfl
 rfl
def ZF(t:bJ)(en:List gI)(i:Nat):Option (Int×Int):=match t.2.2.2[i]? with
 |some x=>l7 (UQ x (bnd t.2.1 en) (bnd t.2.2.1 en)) (some ((i:Int),3)) (l7 ((t.2.2.2.take i).any λy=>zD y x) (some ((i:Int),11)) none)|none=>none
def PO(t:bJ)(en:List gI):Int×Int:=
 l7 (D9 64 (o9 t.2.2.2)) (64,4) (l7 (vty t.2.1 en) (l7 (vty t.2.2.1 en) (match(List.range t.2.2.2.length).findSome? (ZF t en)with|some r=>r|none=>(0,0)) (-1,8)) (-1,8))
theorem nP(a b:Int):D9 a b= !J5 b a:=by simp only[D9,J5];rw[←decide_not];congr 1;simp
theorem a9f(t:bJ)(en:List gI):CJ t en=some (PO t en):=by
 unfold CJ PO;rw[jF,o8,jF,o8];cases h64:D9 64 (o9 t.2.2.2)
 case true=>rfl
 simp only[o6];cases vty t.2.1 en
 .rfl
 cases vty t.2.2.1 en
 .rfl
 simp only[D8,o6,o8,J7,o7];have hlen:t.2.2.2.length<=64:=by rw[iI]at h64;simp only[o9]at h64;omega
 refine U8 (IJ (p:=ZF t en) t.2.2.2.length l9 PUnit.unit (λi hi=>?_) ?_) ?_
 rotate_left 2
 .cases (List.range t.2.2.2.length).findSome? (ZF t en)<;>rfl
 .have e:=eG hi;simp only[S9 (show(i:Int)<o9 t.2.2.2 by simp only[o9];omega),o7,E5,e,o8,a9g,ZF];cases UQ t.2.2.2[i] (bnd t.2.1 en) (bnd t.2.2.1 en)
  case true=>rfl
  simp only[o6];refine U8 (DR (t.2.2.2.take i) (λj a=> !zD a t.2.2.2[i]) ((i:Int),(11:Int)) PUnit.unit _ V6 (λj x hx=>?_) ?_) ?_
  rotate_left 2
  .have hb:(∀(j:Nat) (a:ww),(t.2.2.2.take i)[j]? =some a->(!zD a t.2.2.2[i])=true)↔((t.2.2.2.take i).any λy=>zD y t.2.2.2[i])=false:=by
    rw[jJ];constructor
    .intro h x hx;obtain⟨j,hj,rfl⟩:=Y7 hx;have:=h j _ (eG hj);simpa using this
    .intro h j a hj;have:=h a (iO hj);simpa using this
   by_cases hv:((t.2.2.2.take i).any λy=>zD y t.2.2.2[i])=false
   .rw[if_pos (hb.2 hv),hv,Y1 l9];rfl
   .rw[if_neg (λh=>hv (hb.1 h))];simp only[qf]at hv;rw[hv];rfl
  .have hj:=(X6.1 hx).1;simp only[ah]at hj;have hx' :t.2.2.2[j]? =some x:=by rw[X0]at hx;split at hx<;>first|exact hx|cases hx
   simp only[S9 (show(j:Int)<(i:Int) by omega),o7,E5,hx',o8,e,a1c];rw[Y1 l9];cases zD x t.2.2.2[i]<;>rfl
  .have hl:(t.2.2.2.take i).length=i:=by simp;omega
   rw[hl,J9 l9];rfl
 .rw[J9 (by simp[o9])];rfl
variable {α:Type}
theorem Bq{l:List α}(h:i<=l.length):Ny l 0 (i:Int)=some (l.take i):=by rw[b4V l9 l9];simp
theorem b4n(t:bJ)(en:List gI):Dh t en=some (PO t en):=by
 unfold Dh PO;rw[zl,o8,zl,o8];cases h64:D9 64 (o9 t.2.2.2)
 case true=>rfl
 simp only[o6];cases vty t.2.1 en
 .rfl
 cases vty t.2.2.1 en
 .rfl
 simp only[D8,o6,o8,J7,o7,TK];have hlen:t.2.2.2.length<=64:=by rw[iI]at h64;simp only[o9]at h64;omega
 refine U8 (IJ (p:=ZF t en) t.2.2.2.length l9 PUnit.unit (λi hi=>?_) ?_) ?_
 rotate_left 2
 .cases (List.range t.2.2.2.length).findSome? (ZF t en)<;>rfl
 .have e:=eG hi;simp only[S9 (show(i:Int)<o9 t.2.2.2 by simp only[o9];omega),o7,E5,e,o8,ZF,JF,Bq (show i<=t.2.2.2.length by omega)];obtain⟨k,hk⟩:=b0s (l:=t.2.2.2.take i) t.2.2.2[i] V6;rw[hk,Y1 l9];unfold UQ inB;simp only[nP];generalize bnd t.2.1 en=bl;generalize bnd t.2.2.1 en=br;cases Ig t.2.2.2[i].1
  .rfl
  cases x8 t.2.2.2[i].1.1 t.2.2.2[i].1.2
  case true=>rfl
  cases J5 t.2.2.2[i].2.2.1 t.2.2.2[i].2.1
  case true=>rfl
  cases J5 bl.1 t.2.2.2[i].2.1
  .rfl
  cases J5 t.2.2.2[i].2.1 bl.2
  .rfl
  cases J5 bl.1 (I7 IntKind.i64 t.2.2.2[i].2.2.1 1)
  .rfl
  cases J5 (I7 IntKind.i64 t.2.2.2[i].2.2.1 1) bl.2
  .rfl
  cases J5 br.1 t.2.2.2[i].2.2.2
  .rfl
  cases J5 t.2.2.2[i].2.2.2 br.2
  .rfl
  cases (t.2.2.2.take i).any λy=>zD y t.2.2.2[i]<;>rfl
 .rw[J9 (by simp[o9])];rfl
section
variable {α ε ρ:Type}
theorem wZ(l:List α)(p:α->Bool)(r:ρ)(e:ε){f:Int->Option (Out Int ε ρ)}(hl:l.length<=1000000)
  (hin:∀(i:Nat) (a:α),l[i]? =some a->f (i:Int)=some (bif p a then .rt r else .nx (x9 .i64 (i:Int) 1))) (hend:f (l.length:Int)=some (.ex e)):
  U1 f 0=some (bif l.any p then .inr r else .inl e):=by
 rw[DR l (λi a=> !p a) r e f l9 (λi a ha=>?_) hend]
 .have hb:(∀(j:Nat) (a:α),l[j]? =some a->(!p a)=true)↔l.any p=false:=by
   rw[jJ];constructor
   .intro h x hx;obtain⟨j,hj,rfl⟩:=Y7 hx;have:=h j _ (eG hj);simpa using this
   .intro h j a hj;have:=h a (iO hj);simpa using this
  by_cases hv:l.any p=false
  .rw[if_pos (hb.2 hv),hv];rfl
  .rw[if_neg (λh=>hv (hb.1 h))];simp only[qf]at hv;rw[hv];rfl
 .have hi:=(X6.1 ha).1;rw[hin i a ha,Y1 l9];cases p a<;>rfl
theorem DI(l:List α)(p:α->Bool){f:Int->Option (Out Int PUnit Int)}(hl:l.length<=1000000)
  (hin:∀(i:Nat) (a:α),l[i]? =some a->f (i:Int)=some (bif p a then .rt (i:Int)else .nx (x9 .i64 (i:Int) 1))) (hend:f (l.length:Int)=some (.ex PUnit.unit)):
  o5 (o5 (U1 f 0) λo=>U6 o (λ_=>some (-1)) λr=>some r) (λx=>some (J5 0 x))=some (l.any p):=by
 have key:=vP (f:=f) (s:=0) (λx=>∃i:Nat,x=i/\i<=l.length/\(l.take i).any p=false) (λ_=>l.any p=false) (λk=>0<=k/\l.any p=true) (λx=>l.length -x.toNat) ⟨0,rfl,l9,rfl⟩ V6 ?_
 .rcases key with⟨e,h1,h2⟩|⟨k,h1,h2,h3⟩
  .rw[h1,h2];rfl
  .rw[h1,h3,o8,vC,o8,X5 h2]
 .rintro x ⟨i,rfl,hi,hall⟩;by_cases h:i<l.length
  .have e:=eG h;have hst:(l.take (i+1)).any p=((l.take i).any p || p l[i]):=by rw[V8 h,sK];simp
   rw[hin i _ e];cases hc:p l[i]with
   |true=>exact .inr (.inr ⟨_,rfl,l9,mY.2 ⟨l[i],N7 h,hc⟩⟩)|false=>exact .inl ⟨((i+1:Nat):Int),by rw[Y1 l9];rfl,⟨i+1,rfl,h,by rw[hst,hall,hc];rfl⟩,by simp;omega⟩
  .have:i=l.length:=l9;subst this;rw[aA]at hall;exact .inr (.inl ⟨_,hend,hall⟩)
theorem H6{l:List α}{a:α}(h:l[i]? =some a):D9 (i:Int) (o9 l)=true:=S9 (by have:=(X6.1 h).1;simp only[o9];omega)
theorem G6(l:List α):D9 (l.length:Int) (o9 l)=false:=J9 (by simp[o9])
end
theorem Qv{l:List gI}(n:d1x)(h:l.length<=1000000):Bl l n=some (l.any λx=>seq x.1 n):=by unfold Bl jM lm;rw[fJ];refine DI l (λx=>seq x.1 n) h (λi a ha=>?_) (by rw[G6];rfl);rw[H6 ha,o7,E5,ha,o8];unfold Jq;rw[o8];cases seq a.1 n<;>rfl
theorem Ve{l:List bJ}(n:d1x)(h:l.length<=1000000):BZ l n=some (l.any λx=>seq x.1 n):=by unfold BZ jc jY;rw[fJ];refine DI l (λx=>seq x.1 n) h (λi a ha=>?_) (by rw[G6];rfl);rw[H6 ha,o7,E5,ha,o8];unfold GN;rw[o8];cases seq a.1 n<;>rfl
theorem a2o{l:List D6}(s:D6)(h:l.length<=1000000):fM l s=some (l.any λx=>seq x.1 s.1):=by unfold fM jX;refine DI l (λx=>seq x.1 s.1) h (λi a ha=>?_) (by rw[G6];rfl);rw[H6 ha,o7,E5,ha,o8];unfold DL;rw[o8];cases seq a.1 s.1<;>rfl
theorem a4C{l:List ak}(s:ak)(h:l.length<=1000000):gG l s=some (l.any λx=>seq x.1 s.1):=by unfold gG lq;refine DI l (λx=>seq x.1 s.1) h (λi a ha=>?_) (by rw[G6];rfl);rw[H6 ha,o7,E5,ha,o8];unfold ER;rw[o8];cases seq a.1 s.1<;>rfl
theorem Vd{l:List fF}(s:fF)(h:l.length<=1000000):cu l s=some (l.any λx=>seq x.1 s.1):=by unfold cu jW;refine DI l (λx=>seq x.1 s.1) h (λi a ha=>?_) (by rw[G6];rfl);rw[H6 ha,o7,E5,ha,o8];unfold DK;rw[o8];cases seq a.1 s.1<;>rfl
theorem a8f{l:List d1x}(s:d1x)(h:l.length<=1000000):kE l s=some (l.any λx=>seq s x):=by unfold kE qV;refine DI l (λx=>seq s x) h (λi a ha=>?_) (by rw[G6];rfl);rw[H6 ha,o7,E5,ha,o8];cases seq s a<;>rfl
variable {l:d1v}
theorem a8e(s:Int)(h:l.length<=1000000):oQ l s=some (l.any λx=>x8 s x):=by unfold oQ yz;refine DI l (λx=>x8 s x) h (λi a ha=>?_) (by rw[G6];rfl);rw[H6 ha,o7,E5,ha,o8];cases x8 s a<;>rfl
section
variable {α ε ρ:Type}
theorem JB(l:List α)(k:Nat)(p:α->Bool)(r:ρ)(e:ε){f:Int->Option (Out Int ε ρ)}(hl:l.length<=1000000)
  (hin:∀(i:Nat) (a:α),l[i]? =some a->f (i:Int)=some (bif (decide (i<k)&&p a)then .rt r else .nx (x9 .i64 (i:Int) 1))) (hend:f (l.length:Int)=some (.ex e)):
  U1 f 0=some (bif (l.take k).any p then .inr r else .inl e):=by
 rw[DR l (λi a=> !(decide (i<k)&&p a)) r e f l9 (λi a ha=>?_) hend]
 .have hb:(∀(j:Nat) (a:α),l[j]? =some a->(!(decide (j<k)&&p a))=true)↔(l.take k).any p=false:=by
   rw[jJ];constructor
   .intro h x hx;obtain⟨j,hj,rfl⟩:=Y7 hx;simp only[ah]at hj;have:=h j _ (eG l9);rw[qh];simp only[show j<k by omega,decide_true,gu]at this;simpa using this
   .intro h j a hj;by_cases hk:j<k
    .have hm:a∈l.take k:=iO (i:=j) (by rw[iE hk];exact hj);have:=h a hm;simpa[hk]using this
    .simp[hk]
  by_cases hv:(l.take k).any p=false
  .rw[if_pos (hb.2 hv),hv];rfl
  .rw[if_neg (λh=>hv (hb.1 h))];simp only[qf]at hv;rw[hv];rfl
 .have hi:=(X6.1 ha).1;rw[hin i a ha,Y1 l9];cases decide (i<k)&&p a<;>rfl
end
theorem Rx(i k:Nat):D9 (i:Int) (k:Int)=decide (i<k):=by unfold D9;by_cases h:i<k<;>simp[h]<;>omega
def EL(l:U5)(kind:Nat)(k:Nat)(n:d1x):Bool:=
 match kind with
 |1=>(l.1.take k).any λx=>seq x.1 n|2=>(l.1.any λx=>seq x.1 n) || ((l.2.1.take k).any λx=>seq x.1 n)|_=>(l.1.any λx=>seq x.1 n) || (l.2.1.any λx=>seq x.1 n) || ((l.2.2.take k).any λx=>seq x.1 n)
def Few(l:U5):Prop:=l.1.length<=1000/\l.2.1.length<=1000/\l.2.2.length<=1000
theorem a9p{l:U5}(h:Few l)(k:Nat)(n:d1x):jE l 1 (k:Int) n=some (EL l 1 k n):=by
 unfold jE EL;refine U8 (JB l.1 k (λx=>seq x.1 n) true PUnit.unit (by have:=h.1;omega) (λi a ha=>?_) ?_) ?_
 rotate_left 2
 .cases (l.1.take k).any λx=>seq x.1 n
  case true=>rfl
  simp only[cond_false,J7];refine U8 (JB l.2.1 0 (λx=>seq x.1 n) true PUnit.unit (by have:=h.2.1;omega) (λi a ha=>?_) ?_) ?_
  rotate_left 2
  .simp only[List.take_zero,List.any_nil,cond_false,J7];refine U8 (JB l.2.2 0 (λx=>seq x.1 n) true PUnit.unit (by have:=h.2.2;omega) (λi a ha=>?_) ?_) ?_
   rotate_left 2
   .rfl
   .rw[H6 ha];simp;rfl
   .rw[G6];rfl
  .rw[H6 ha];simp;rfl
  .rw[G6];rfl
 .rw[H6 ha,E5,ha,o8,Rx,o7];cases decide (i<k)<;>cases seq a.1 n<;>rfl
 .rw[G6];rfl
theorem a9q{l:U5}(h:Few l)(k:Nat)(n:d1x):jE l 2 (k:Int) n=some (EL l 2 k n):=by
 unfold jE EL;refine U8 (wZ l.1 (λx=>seq x.1 n) true PUnit.unit (by have:=h.1;omega) (λi a ha=>?_) ?_) ?_
 rotate_left 2
 .cases l.1.any λx=>seq x.1 n
  case true=>rfl
  simp only[cond_false,J7,lg];refine U8 (JB l.2.1 k (λx=>seq x.1 n) true PUnit.unit (by have:=h.2.1;omega) (λi a ha=>?_) ?_) ?_
  rotate_left 2
  .cases (l.2.1.take k).any λx=>seq x.1 n
   case true=>rfl
   simp only[cond_false,J7];refine U8 (JB l.2.2 0 (λx=>seq x.1 n) true PUnit.unit (by have:=h.2.2;omega) (λi a ha=>?_) ?_) ?_
   rotate_left 2
   .rfl
   .rw[H6 ha];simp;rfl
   .rw[G6];rfl
  .rw[H6 ha,E5,ha,o8,Rx,o7];cases decide (i<k)<;>cases seq a.1 n<;>rfl
  .rw[G6];rfl
 .rw[H6 ha,E5,ha,o8,o7];cases seq a.1 n<;>rfl
 .rw[G6];rfl
theorem a9r{l:U5}(h:Few l)(k:Nat)(n:d1x):jE l 3 (k:Int) n=some (EL l 3 k n):=by
 unfold jE EL;refine U8 (wZ l.1 (λx=>seq x.1 n) true PUnit.unit (by have:=h.1;omega) (λi a ha=>?_) ?_) ?_
 rotate_left 2
 .cases l.1.any λx=>seq x.1 n
  case true=>rfl
  simp only[cond_false,J7,lg];refine U8 (wZ l.2.1 (λx=>seq x.1 n) true PUnit.unit (by have:=h.2.1;omega) (λi a ha=>?_) ?_) ?_
  rotate_left 2
  .cases l.2.1.any λx=>seq x.1 n
   case true=>rfl
   simp only[cond_false,J7,lg];refine U8 (JB l.2.2 k (λx=>seq x.1 n) true PUnit.unit (by have:=h.2.2;omega) (λi a ha=>?_) ?_) ?_
   rotate_left 2
   .cases (l.2.2.take k).any λx=>seq x.1 n<;>rfl
   .rw[H6 ha,E5,ha,o8,Rx,o7];cases decide (i<k)<;>cases seq a.1 n<;>rfl
   .rw[G6];rfl
  .rw[H6 ha,E5,ha,o8,o7];cases seq a.1 n<;>rfl
  .rw[G6];rfl
 .rw[H6 ha,E5,ha,o8,o7];cases seq a.1 n<;>rfl
 .rw[G6];rfl
def Zt(ms:List d1x)(i:Nat):Option (Int×Int):=match ms[i]? with
 |some m=>l7 (ED m) (l7 ((ms.take i).any λx=>seq m x) (some (7,((100+i:Nat):Int))) none) (some (2,((100+i:Nat):Int)))|none=>none
def UW(l:U5)(i:Nat)(e:gI):Int×Int:=
 l7 (ED e.1) (l7 (EL l 1 i e.1) (7,0) (l7 (x8 (o9 e.2) 0) (5,0) (l7 (D9 16 (o9 e.2)) (4,116) (match(List.range e.2.length).findSome? (Zt e.2)with|some r=>r|none=>(0,0))))) (2,0)
theorem a6L(h:i<=1000000):x9 .i64 100 (i:Int)=((100+i:Nat):Int):=by rw[X4 O5];omega
theorem a0l{l:U5}(h:Few l)(hi:i<=l.1.length)(e:gI)(h1:e.1.length<=1000000)(h2:∀m∈e.2,m.length<=1000000):
  Ee l (i:Int) e=some (UW l i e):=by
 unfold Ee UW EL;rw[rJ h1,o8,Bq hi,o8,Qv _ (by have:=h.1;simp;omega),o8];cases ED e.1
 .rfl
 simp only[D8,o6,o7];cases (l.1.take i).any λx=>seq x.1 e.1
 case true=>rfl
 cases x8 (o9 e.2) 0
 case true=>rfl
 cases h16:D9 16 (o9 e.2)
 case true=>rfl
 simp only[o6];have hlen:e.2.length<=16:=by rw[iI]at h16;simp only[o9]at h16;omega
 refine U8 (IJ (p:=Zt e.2) e.2.length l9 PUnit.unit (λj hj=>?_) ?_) ?_
 rotate_left 2
 .cases (List.range e.2.length).findSome? (Zt e.2)<;>rfl
 .have e' :=eG hj;rw[H6 e',o7,E5,e',o8,rJ (h2 _ (N7 hj)),o8,Bq l9,o8,a8f _ V6,o8,a6L l9,Y1 l9];simp only[Zt,e'];cases ED e.2[j]
  .rfl
  cases (e.2.take j).any λx=>seq e.2[j] x<;>rfl
 .rw[G6];rfl
theorem Oj(a b:d1x):seq a b=seq b a:=by unfold seq;by_cases h:a=b<;>simp[h,eq_comm]
variable {ρ:Type}{ε:Type}{σ:Type}
theorem a7M(l:List α)(p:α->Bool)(n:Nat)(hn:n<=l.length)(hl:l.length<=1000000)(a b:σ)(r:ρ)(e:ε){f:σ×σ×Int->Option (Out (σ×σ×Int) ε ρ)}
  (hin:∀(i:Nat) (x:α),i<n->l[i]? =some x->f (a,b,(i:Int))=some (bif p x then .rt r else .nx (a,b,x9 .i64 (i:Int) 1))) (hend:f (a,b,(n:Int))=some (.ex e)):
  U1 f (a,b,0)=some (bif (l.take n).any p then .inr r else .inl e):=by
 have key:=vP (f:=f) (s:=(a,b,0)) (λx=>∃i:Nat,x=(a,b,(i:Int))/\i<=n/\(l.take i).any p=false) (λx=>x=e/\(l.take n).any p=false) (λk=>k=r/\(l.take n).any p=true) (λx=>n -x.2.2.toNat) ⟨0,rfl,l9,rfl⟩ V6 ?_
 .rcases key with⟨x,h1,rfl,h2⟩|⟨k,h1,rfl,h2⟩
  .rw[h1,h2];rfl
  .rw[h1,h2];rfl
 .rintro x ⟨i,rfl,hi,hall⟩;by_cases h:i<n
  .have e' :=eG (show i<l.length by omega);have hst:(l.take (i+1)).any p=((l.take i).any p || p l[i]):=by rw[V8 l9,sK];simp
   rw[hin i _ h e'];cases hc:p l[i]with
   |true=>refine .inr (.inr ⟨_,rfl,rfl,mY.2 ⟨l[i],?_,hc⟩⟩);exact iO (i:=i) (by rw[iE h];exact e')|false=>exact .inl ⟨(a,b,((i+1:Nat):Int)),by rw[Y1 l9];rfl,⟨i+1,rfl,h,by rw[hst,hall,hc];rfl⟩,by simp;omega⟩
  .have:i=n:=l9;subst this;exact .inr (.inl ⟨_,hend,rfl,hall⟩)
variable {n:Nat}{j:Nat}{β:Type}
theorem Ru{p:Nat->Option β}{c:β}(h0:(List.range j).findSome? p=none)(h1:p j=some c)(hj:j<n):(List.range n).findSome? p=some c:=by
 induction n with
 |zero=>omega|succ n ih=>
  rw[dB,lT];by_cases h:j<n
  .rw[ih h];rfl
  .have:j=n:=l9;subst this;rw[h0];simp[h1]
theorem a6J{p:Nat->Option β}(h0:(List.range j).findSome? p=none)(h1:p j=none):(List.range (j+1)).findSome? p=none:=by rw[dB,lT,h0];simp[h1]
def PI(kind i:Int)(r:Int×Int):Int×Int×Int×Int:=l7 (x8 r.1 0) (0,0,0,0) (r.1,kind,i,r.2)
theorem Zz{l:U5}(h:Few l){e:gI}(he:l.1[i]? =some e)(h1:e.1.length<=1000000)(h2:∀m∈e.2,m.length<=1000000):
  Az l (i:Int)=some (PI 1 i (UW l i e)):=by
 unfold Az UW;rw[E5,he,o8,nJ h1,o8,a9p h,o8];cases ED e.1
 .rfl
 simp only[D8,o6,o7];cases EL l 1 i e.1
 case true=>rfl
 cases x8 (o9 e.2) 0
 case true=>rfl
 cases h16:D9 16 (o9 e.2)
 case true=>rfl
 simp only[o6];have hlen:e.2.length<=16:=by rw[iI]at h16;simp only[o9]at h16;omega
 have key:=vP (f:=λ(x_3:oV×oV×Int)=>
   l7 (D9 x_3.2.2 (o9 e.2)) (o5 (F9 e.2 x_3.2.2) λ(x_4:d1x)=>o5 (eU x_4) λ(x_5:Bool)=>
    l7 (D7 x_5) (some (Out.rt (2,x_3.2.1.2.1,x_3.2.1.2.2.1,x9 IntKind.i64 100 x_3.2.2)))
     (o5 (U1 (λ(x_6:oV×oV×Int)=>l7 (D9 x_6.2.2 x_3.2.2) (o5 (F9 e.2 x_6.2.2) λ(x_7:d1x)=>o5 (F9 e.2 x_3.2.2) λ(x:d1x)=>
       l7 (seq x_7 x) (some (Out.rt (7,x_6.2.1.2))) (some (Out.nx (x_6.1,x_6.2.1,x9 IntKind.i64 x_6.2.2 1)))) (some (Out.ex (x_6.1,x_6.2.1))))
      (x_3.1,(x_3.2.1.1,x_3.2.1.2.1,x_3.2.1.2.2.1,x9 IntKind.i64 100 x_3.2.2),0)) λ(o:oV×oV⊕oV)=>
       U6 o (λ(y:oV×oV)=>some (Out.nx (y.1,y.2,x9 IntKind.i64 x_3.2.2 1))) λ(r:oV)=>some (Out.rt r))) (some (Out.ex x_3.1)))
  (s:=((0,0,0,0),(0,1,(i:Int),0),0))
  (λx=>∃(B:Int×Int×Int×Int) (j:Nat),x=((0,0,0,0),B,(j:Int))/\B.2.1=1/\B.2.2.1=i/\j<=e.2.length/\(List.range j).findSome? (Zt e.2)=none)
  (λ_=>(List.range e.2.length).findSome? (Zt e.2)=none) (λr=>∃c,(List.range e.2.length).findSome? (Zt e.2)=some c/\r=(c.1,1,(i:Int),c.2)/\c.1≠0)
  (λx=>e.2.length -x.2.2.toNat) ⟨_,0,rfl,rfl,rfl,l9,rfl⟩ V6 ?_
 .rcases key with⟨x,k1,k2⟩|⟨r,k1,c,k2,k3,k4⟩
  .refine(kR k1 _).trans ?_;rw[k2];rfl
  .refine(kR k1 _).trans ?_;rw[k2,k3];simp only[vC,PI];rw[J6 k4];rfl
 .rintro x ⟨B,j,rfl,b1,b2,hj,hn⟩;by_cases hl:j<e.2.length
  .have e' :=eG hl;simp only[H6 e',o7,E5,e',o8,nJ (h2 _ (N7 hl)),a6L (show j<=1000000 by omega)];cases hid:ED e.2[j]
   .refine .inr (.inr ⟨_,rfl,(2,((100+j:Nat):Int)),Ru hn (by simp only[Zt,e',hid];rfl) hl,?_,(by show(2:Int)≠0;decide)⟩);rw[b1,b2]
   .simp only[D8,o6];rw[a7M e.2 (λx=>seq e.2[j] x) j l9 l9 (0,0,0,0) (B.1,B.2.1,B.2.2.1,((100+j:Nat):Int)) (7,B.2.1,B.2.2.1,((100+j:Nat):Int)) ((0,0,0,0),(B.1,B.2.1,B.2.2.1,((100+j:Nat):Int)))
     (λk x hk hx=>by simp only[S9 (show(k:Int)<(j:Int) by omega),o7,E5,hx,o8,e'];rw[Oj];cases seq e.2[j] x<;>rfl)
     (by simp only[J9 (show(j:Int)<=(j:Int) by omega)];rfl)]
    cases hd:(e.2.take j).any λx=>seq e.2[j] x
    .refine .inl ⟨((0,0,0,0),(B.1,B.2.1,B.2.2.1,((100+j:Nat):Int)),((j+1:Nat):Int)),by rw[Y1 l9];rfl,⟨_,j+1,rfl,b1,b2,hl,a6J hn (by simp only[Zt,e',hid,hd];rfl)⟩,by simp;omega⟩
    .refine .inr (.inr ⟨_,rfl,(7,((100+j:Nat):Int)),Ru hn (by simp only[Zt,e',hid,hd];rfl) hl,?_,(by show(7:Int)≠0;decide)⟩);rw[b1,b2]
  .have:j=e.2.length:=l9;subst this;exact .inr (.inl ⟨_,by simp only[G6];rfl,hn⟩)
def Z4(n:Nat)(p:Nat->Option ρ):Option ρ:=(List.range n).findSome? p
theorem ql{p:Nat->Option ρ}(n:Nat)(hn:n<=1000000)(a:σ)(e:ε){f:σ×Int->Option (Out (σ×Int) ε ρ)}
  (h1:∀i,i<n->f (a,(i:Int))=some (match p i with|some r=> .rt r|none=> .nx (a,x9 .i64 (i:Int) 1))) (h2:f (a,(n:Int))=some (.ex e)):
  U1 f (a,0)=some (match Z4 n p with|some r=> .inr r|none=> .inl e):=by
 have key:=vP (f:=f) (s:=(a,0)) (λx=>∃i:Nat,x=(a,(i:Int))/\i<=n/\Z4 i p=none) (λx=>x=e/\Z4 n p=none) (λr=>Z4 n p=some r) (λx=>n -x.2.toNat) ⟨0,rfl,l9,rfl⟩ V6 ?_
 .rcases key with⟨x,k1,rfl,k2⟩|⟨r,k1,k2⟩
  .rw[k1,k2]
  .rw[k1,k2]
 .rintro x ⟨i,rfl,hi,hnone⟩;by_cases h:i<n
  .rw[h1 i h];cases hp:p i with
   |some r=>exact .inr (.inr ⟨_,rfl,Ru hnone hp h⟩)|none=>exact .inl ⟨(a,((i+1:Nat):Int)),by rw[Y1 l9],⟨i+1,rfl,h,a6J hnone hp⟩,by simp;omega⟩
  .have:i=n:=l9;subst this;exact .inr (.inl ⟨_,h2,rfl,hnone⟩)
def Qu(kind i:Int)(r:Int×Int):Option (Int×Int×Int×Int):=l7 (x8 r.1 0) none (some (r.1,kind,i,r.2))
def Nc(l:U5)(i:Nat):Option (Int×Int×Int×Int):=match l.1[i]? with|some e=>Qu 1 i (UW l i e)|none=>none
def Jk(l:U5):Int×Int×Int×Int:=l7 (D9 8 (o9 l.1)) (4,1,8,0) (match Z4 l.1.length (Nc l)with|some r=>r|none=>(0,0,0,0))
def a6k(l:U5):Prop:=∀e∈l.1,e.1.length<=1000000/\∀m∈e.2,m.length<=1000000
theorem Zj{l:U5}(h:Few l)(hE:a6k l):BV l=some (Jk l):=by
 unfold BV Jk;cases D9 8 (o9 l.1)
 case true=>rfl
 simp only[o6];refine U8 (ql (p:=Nc l) l.1.length (by have:=h.1;omega) _ (0,0,0,0) (λi hi=>?_) ?_) ?_
 rotate_left 2
 .cases Z4 l.1.length (Nc l)<;>rfl
 .have e:=eG hi;have hm:=hE _ (N7 hi);simp only[H6 e,o7,E5,e,o8,a0l h (show i<=l.1.length by omega) _ hm.1 hm.2,Nc,Qu];cases x8 (UW l i l.1[i]).1 0<;>rfl
 .rw[G6];rfl
theorem ja{p:Nat->Option ρ}{r:ρ}(h:Z4 n p=some r):∃i,i<n/\p i=some r:=by unfold Z4 at h;obtain⟨i,hi,hp⟩:=List.exists_of_findSome?_eq_some h;exact⟨i,bg.1 hi,hp⟩
theorem b4m(t:bJ)(en:List gI):(PO t en).1=-1\/0<=(PO t en).1:=by
 unfold PO;cases D9 64 (o9 t.2.2.2)
 case true=>right;simp only[o7];decide
 cases vty t.2.1 en
 .left;rfl
 cases vty t.2.2.1 en
 .left;rfl
 right;simp only[o7,o6];cases hf:(List.range t.2.2.2.length).findSome? (ZF t en)with
 |none=>exact gV _|some r=>
  obtain⟨i,hi,hp⟩:=ja (p:=ZF t en) hf;unfold ZF at hp;split at hp
  .rename_i x hx;cases hw:UQ x (bnd t.2.1 en) (bnd t.2.2.1 en)<;>rw[hw]at hp
   .cases ha:(t.2.2.2.take i).any λy=>zD y x<;>rw[ha]at hp
    .cases hp
    .cases hp;show(0:Int)<=(i:Int);omega
   .cases hp;show(0:Int)<=(i:Int);omega
  .cases hp
def YU(l:U5)(i:Nat)(t:bJ):Int×Int:=
 l7 (ED t.1) (l7 (EL l 2 i t.1) (7,0) (l7 (x8 (PO t l.1).2 0) (0,0) ((PO t l.1).2,l7 (J5 0 (PO t l.1).1) (x9 .i64 100 (PO t l.1).1) 0))) (2,0)
def Oq(l:U5)(i:Nat):Option (Int×Int×Int×Int):=match l.2.1[i]? with|some t=>Qu 2 i (YU l i t)|none=>none
def Jd(l:U5):Int×Int×Int×Int:=l7 (D9 8 (o9 l.2.1)) (4,2,8,0) (match Z4 l.2.1.length (Oq l)with|some r=>r|none=>(0,0,0,0))
def a1J(l:U5):Prop:=∀t∈l.2.1,t.1.length<=1000000
theorem Yu{l:U5}(h:Few l){t:bJ}(he:l.2.1[i]? =some t)(h1:t.1.length<=1000000):yZ l (i:Int)=some (PI 2 i (YU l i t)):=by
 unfold yZ YU;rw[E5,he,o8,nJ h1,o8,a9q h,o8,a9f,o8];cases ED t.1
 .rfl
 cases EL l 2 i t.1
 case true=>rfl
 simp only[D8,o6,o7];cases hz:x8 (PO t l.1).2 0
 case true=>rfl
 simp only[o6,PI,hz];cases J5 0 (PO t l.1).1<;>rfl
theorem Xe{l:U5}(h:Few l)(hT:a1J l):Am l=some (Jd l):=by
 unfold Am Jd;cases D9 8 (o9 l.2.1)
 case true=>rfl
 simp only[o6];refine U8 (ql (p:=Oq l) l.2.1.length (by have:=h.2.1;omega) _ (0,0,0,0) (λi hi=>?_) ?_) ?_
 rotate_left 2
 .cases Z4 l.2.1.length (Oq l)<;>rfl
 .have e:=eG hi;have hm:=hT _ (N7 hi);simp only[H6 e,o7,E5,e,o8,b4n,rJ hm,Qv _ (show l.1.length<=1000000 by have:=h.1;omega),Bq (show i<=l.2.1.length by omega),
   Ve _ (show(l.2.1.take i).length<=1000000 by have:=h.2.1;simp;omega),Oq,YU,EL]
  cases ED l.2.1[i].1
  .rfl
  cases l.1.any λx=>seq x.1 l.2.1[i].1
  case true=>rfl
  cases (l.2.1.take i).any λx=>seq x.1 l.2.1[i].1
  case true=>rfl
  simp only[D8,o6,o7,o8,Bool.or_false];cases hz:x8 (PO l.2.1[i] l.1).2 0
  case true=>rfl
  simp only[aB,o7,o6,Qu,hz];rcases b4m l.2.1[i] l.1 with hr|hr
  .rw[O8 hr,Y4 (show(PO l.2.1[i] l.1).1<0 by omega)];simp only[D8,o6,o8,hz,aB,o7]
  .rw[J6 (show(PO l.2.1[i] l.1).1≠-1 by omega),X5 hr];simp only[aB,o7,o8,hz]
 .rw[G6];rfl
theorem b0t(l:List α)(g:α->β)(hl:l.length<=1000000){f:List β×Int->Option ((List β×Int)⊕ε)}{F:List β->ε}
  (hin:∀(i:Nat) (a:α) (acc:List β),l[i]? =some a->acc.length=i->f (acc,(i:Int))=some (.inl (acc++[g a],x9 .i64 (i:Int) 1))) (hend:∀acc,f (acc,(l.length:Int))=some (.inr (F acc))):
  Y9 f ([],0)=some (F (l.map g)):=by
 obtain⟨e,h1,h2⟩:=gy (f:=f) (s:=([],0)) (λx=>∃i:Nat,x=((l.take i).map g,(i:Int))/\i<=l.length) (λe=>e=F (l.map g)) (λx=>l.length -x.2.toNat) ⟨0,rfl,l9⟩ V6 (by
  rintro x ⟨i,rfl,hi⟩;by_cases h:i<l.length
  .have e:=eG h;refine .inl ⟨((l.take (i+1)).map g,((i+1:Nat):Int)),?_,⟨i+1,rfl,h⟩,by simp;omega⟩;rw[hin i _ _ e V6,Y1 l9,V8 h,iF];rfl
  .have:i=l.length:=l9;subst this;refine .inr ⟨_,hend _,?_⟩;rw[aA])
 rw[h1,h2]
theorem Jm{l:List fF}(h:l.length<=1000000):uN l=some (l.map (·.2)):=by
 unfold uN;rw[fJ];refine b0t (F:=id) l (λx=>x.2) h (λi a acc ha hacc=>?_) (λacc=>?_)
 .have hi:=(X6.1 ha).1;simp only[H6 ha,o7,E5,ha,o8];rw[KR (by simp[hacc];omega)];rfl
 .simp only[G6];rfl
def QS(l:U5):Prop:=∀s∈l.2.2,s.1.length<=1000000/\s.2.2.1.length<=1000/\s.2.2.2.1.length<=1000/\s.2.2.2.2.length<=1000
def Jy(l:U5)(s:D6):List gI×List bJ×List (Int×Int)×List (Int×Int)×List (Int×Int)×Bool:=
 match(if 0<=s.2.1 then l.2.2[s.2.1.toNat]? else none)with
 |some k=>(l.1,l.2.1,s.2.2.1.map (·.2),s.2.2.2.1.map (·.2),k.2.2.2.1.map (·.2),true)|none=>(l.1,l.2.1,s.2.2.1.map (·.2),s.2.2.2.1.map (·.2),[],false)
theorem Ib{l:U5}(h:QS l){s:D6}(hs:l.2.2[i]? =some s):pV l (i:Int)=some (Jy l s):=by
 have hm:=h s (iO hs);unfold pV Jy;rw[E5,hs,o8,Jm l9,o8,Jm l9,o8];by_cases h0:0<=s.2.1
 .rw[X5 h0,if_pos h0,o7];by_cases h1:s.2.1<o9 l.2.2
  .obtain⟨k,hk,hkm⟩:=mV h0 h1;have hk' :l.2.2[s.2.1.toNat]? =some k:=(qw hk).2.2.2;rw[S9 h1,o7,hk,o8,Jm (by have:=h k hkm;omega),o8,hk']
  .have h1' :o9 l.2.2<=s.2.1:=iP.1 h1;rw[J9 h1',o6,gW (by simp only[o9]at h1';exact Int.le_toNat h0 |>.2 h1')]
 .have h0' :s.2.1<(0:Int):=kV.1 h0;rw[Y4 h0',if_neg h0];rfl
theorem ZE{l:U5}(h:QS l){s:D6}(hs:l.2.2[i]? =some s):Aw l (i:Int)=some (Jy l s):=by have hi:=(X6.1 hs).1;rw[←Ib h hs];unfold Aw pV;rw[J9 l9,Y4 (by simp only[o9];omega)];rfl
abbrev SI(l:d1v):Prop:=l.Pairwise (·< ·)
theorem a5A:∀{a b:d1v},SI a->SI b->(∀x,x∈a↔x∈b)->a=b
 |[],[],_,_,_=>rfl|[],y::b,_,_,h=>absurd ((h y).2 A7) A7|x::a,[],_,_,h=>absurd ((h x).1 A7) A7|x::a,y::b,ha,hb,h=>by
  have ha' :=V7.1 ha;have hb' :=V7.1 hb;have hxy:x=y:=by
   rcases D5.1 ((h x).1 A7)with h1|h1
   .exact h1
   .rcases D5.1 ((h y).2 A7)with h2|h2
    .exact h2.symm
    .have:=hb'.1 _ h1;have:=ha'.1 _ h2;omega
  subst hxy;congr 1;refine a5A ha'.2 hb'.2 λz=>⟨λhz=>?_,λhz=>?_⟩
  .rcases D5.1 ((h z).1 (by simp[hz]))with h1|h1
   .have:=ha'.1 _ hz;omega
   .exact h1
  .rcases D5.1 ((h z).2 (by simp[hz]))with h1|h1
   .have:=hb'.1 _ hz;omega
   .exact h1
def ins(n:Int):d1v->d1v
 |[]=>[n]|a::l=>if n<=a then(if n<a then n::a::l else a::l)else a::ins n l
theorem RQ(n x:Int):∀l,x∈ins n l↔x=n\/x∈l
 |[]=>by simp[ins]|a::l=>by
  unfold ins;by_cases h:n<=a
  .rw[if_pos h];by_cases h2:n<a
   .rw[if_pos h2];simp
   .rw[if_neg h2];have:n=a:=l9;subst this;simp
  .rw[if_neg h,D5,RQ n x l,D5];constructor
   .rintro(h|h|h)<;>simp[h]
   .rintro(h|h|h)<;>simp[h]
theorem b2X(n:Int):∀{l},SI l->SI (ins n l)
 |[],_=>List.pairwise_singleton _ _|a::l,h=>by
  have h' :=V7.1 h;unfold ins;by_cases h1:n<=a
  .rw[if_pos h1];by_cases h2:n<a
   .rw[if_pos h2];refine V7.2 ⟨λx hx=>?_,h⟩;rcases D5.1 hx with rfl|hx
    .exact h2
    .have:=h'.1 x hx;omega
   .rw[if_neg h2];exact h
  .rw[if_neg h1];refine V7.2 ⟨λx hx=>?_,b2X n h'.2⟩;rcases(RQ n x l).1 hx with rfl|hx
   .omega
   .exact h'.1 x hx
def EC(ns:d1v)(l:d1v):d1v:=ns.foldl (λacc n=>ins n acc) l
theorem RS(x:Int):∀ns l,x∈EC ns l↔x∈ns\/x∈l
 |[],l=>by simp[EC]|n::ns,l=>by
  show x∈EC ns (ins n l)↔_;rw[RS x ns,RQ,D5];constructor
  .rintro(h|h|h)<;>simp[h]
  .rintro((h|h)|h)<;>simp[h]
theorem WH:∀ns {l},SI l->SI (EC ns l)
 |[],_,h=>h|n::ns,_,h=>WH ns (b2X n h)
theorem IC(a b l:d1v):EC (a++b) l=EC b (EC a l):=List.foldl_append ..
def MK(l:d1v):d1v:=EC l []
theorem NE(x:Int)(l:d1v):x∈MK l↔x∈l:=by unfold MK;rw[RS];simp
theorem a7y(l:d1v):SI (MK l):=WH l List.Pairwise.nil
theorem vO(n:Int):∀l,(ins n l).length<=l.length+1
 |[]=>by simp[ins]|a::l=>by
  unfold ins;by_cases h1:n<=a
  .rw[if_pos h1];by_cases h2:n<a
   .rw[if_pos h2];simp
   .rw[if_neg h2];simp
  .rw[if_neg h1];have:=vO n l;simp only[H5];omega
theorem Bo:∀ns l,(EC ns l).length<=l.length+ns.length
 |[],l=>by simp[EC]|n::ns,l=>by have h1:=Bo ns (ins n l);have h2:=vO n l;show(EC ns (ins n l)).length<=_;simp only[H5];omega
theorem Nw(l:d1v):(MK l).length<=l.length:=by have:=Bo l [];unfold MK;simpa using this
theorem YM(n:Nat)(h:SI l)(h2:∀x∈l,0<=x/\x<n):l.length<=n:=by
 have key:∀(l:d1v) (lo:Int),SI l->(∀x∈l,lo<=x/\x<n)->lo<=n->(l.length:Int)<=n -lo:=by
  intro l;induction l with
  |nil=>intro lo _ _ hlo;simp;omega|cons a l ih=>intro lo hs hb hlo;have h' :=V7.1 hs;have ha:=hb a A7;have:=ih (a+1) h'.2 (λx hx=>⟨by have:=h'.1 x hx;omega,(hb x (by simp[hx])).2⟩) l9;simp only[H5];omega
 have:=key l 0 h (λx hx=>h2 x hx) l9;omega
theorem Xj(x:Int):∀(l:d1v) (p:Int),(p::l).Pairwise (·<=·)->SI (p::ddp p l)/\(x∈p::ddp p l↔x∈p::l)
 |[],p,_=>⟨List.pairwise_singleton _ _,Iff.rfl⟩|a::l,p,h=>by
  have h1:=V7.1 h;obtain⟨i1,i2⟩:=Xj x l a h1.2;have h2:=V7.1 h1.2;have hpa:=h1.1 a A7;unfold ddp;cases hq:x8 a p
  .rw[BP]at hq;simp only[cond_false];refine⟨V7.2 ⟨λy hy=>?_,i1⟩,?_⟩
   .rcases D5.1 hy with rfl|hy
    .omega
    .have:=(V7.1 i1).1 y hy;omega
   .rw[D5,i2,D5 (a:=x) (b:=p)]
  .rw[Y5]at hq;subst hq;simp only[cond_true];refine⟨i1,?_⟩;rw[i2];simp
theorem b0e(l:d1v):dd (JS l)=MK l:=by
 have hs:=FB l;have hp:=GM l;refine a5A ?_ (a7y l) λx=>?_
 .cases he:JS l with
  |nil=>exact List.Pairwise.nil|cons a r=>rw[he]at hs;exact(Xj a r a hs).1
 .rw[NE,←hp.mem_iff];cases he:JS l with
  |nil=>exact Iff.rfl|cons a r=>rw[he]at hs;exact(Xj x r a hs).2
theorem a8l(l:d1v):(JS l).length=l.length:=(GM l).length_eq
theorem b5Z(h:l.length<=1000000):o5 (Gv l) (λx=>rX x)=some (MK l):=by unfold Gv rX;rw[show Nat.blt l.length 4611686018427387904=true from by simp[Nat.blt];omega];simp only[cond_true,o8];rw[show Nat.blt (JS l).length 4611686018427387904=true from by rw[a8l];simp[Nat.blt];omega];rw[cond_true,b0e]
def hg(l:d1v)(i:Nat):Int:=l.getD i 0
def swp(l:d1v)(i j:Nat):d1v:=(l.set i (hg l j)).set j (hg l i)
theorem yG(h:i<l.length):l[i]? =some (hg l i):=by unfold hg;rw[zH,eG h];rfl
theorem LM(l:d1v)(i j:Nat):(swp l i j).length=l.length:=by simp[swp]
theorem a0x(hi:i<l.length)(hj:j<l.length)(k:Nat):hg (swp l i j) k=if k=j then hg l i else if k=i then hg l j else hg l k:=by
 unfold hg swp;simp only[zH,W9,sO];by_cases h1:k=j
 .subst h1;simp[hj,hg,zH]
 .rw[if_neg (λh=>h1 h.symm),if_neg h1];by_cases h2:k=i
  .subst h2;simp[hi,hg,zH]
  .rw[if_neg (λh=>h2 h.symm),if_neg h2]
theorem Om(hi:i<l.length)(hj:j<l.length):(swp l i j).Perm l:=by
 have e1:hg l i=l[i]:=by have:=yG hi;rw[eG hi]at this;exact(aP this).symm
 have e2:hg l j=l[j]:=by have:=yG hj;rw[eG hj]at this;exact(aP this).symm
 unfold swp;rw[e1,e2];exact List.set_set_perm hi hj
def ML(l:d1v)(n:Nat):Prop:=∀k,0<k->k<n->hg l ((k -1) / 2)<=hg l k
def TC(l:d1v)(j:Nat):Prop:=(∀k,0<k->k<l.length->k≠j->hg l ((k -1) / 2)<=hg l k)/\(0<j->∀k,0<k->k<l.length->(k -1) / 2=j->hg l ((j -1) / 2)<=hg l k)
def Jz(l:d1v)(n i:Nat):Prop:=(∀k,0<k->k<n->(k -1) / 2≠i->hg l ((k -1) / 2)<=hg l k)/\(0<i->∀k,0<k->k<n->(k -1) / 2=i->hg l ((i -1) / 2)<=hg l k)
theorem a2p(h:TC l j)(h0:0<j)(hj:j<l.length)(hlt:hg l j<hg l ((j -1) / 2)):TC (swp l ((j -1) / 2) j) ((j -1) / 2):=by
 have hi:(j -1) / 2<l.length:=l9;have hij:(j -1) / 2<j:=l9;generalize hp:(j -1) / 2=i at*;have G:=a0x hi hj;refine⟨λk k0 k1 k2=>?_,λi0 k k0 k1 k2=>?_⟩
 .rw[LM]at k1;rw[G k,G];by_cases a:k=j
  .subst a;rw[if_pos rfl,hp,if_neg l9,if_pos rfl];omega
  rw[if_neg a,if_neg k2];by_cases b:(k -1) / 2=j
  .rw[if_pos b];have:=h.2 h0 k k0 k1 b;rw[hp]at this;exact this
  rw[if_neg b];by_cases c:(k -1) / 2=i
  .rw[if_pos c];have:=h.1 k k0 k1 a;rw[c]at this;omega
  rw[if_neg c];exact h.1 k k0 k1 a
 .rw[LM]at k1;rw[G,G,if_neg l9,if_neg l9];have e1:=h.1 i i0 hi l9;by_cases a:k=j
  .rw[if_pos a];exact e1
  .rw[if_neg a,if_neg l9];have:=h.1 k k0 k1 a;rw[k2]at this;omega
theorem XE(h:TC l j)(he:j=0\/hg l ((j -1) / 2)<=hg l j):ML l l.length:=λk k0 k1=>by
 by_cases a:k=j
 .subst a;rcases he with he|he
  .omega
  .exact he
 .exact h.1 k k0 k1 a
theorem Jo(h:Jz l n i)(hn:n<=l.length)(hj:(j -1) / 2=i)(hj0:0<j)(hjn:j<n)(hmin:∀k,0<k->k<n->(k -1) / 2=i->hg l j<=hg l k)(hlt:hg l j<hg l i):Jz (swp l i j) n j:=by
 have G:=a0x (l:=l) (i:=i) (j:=j) l9 l9;refine⟨λk k0 k1 k2=>?_,λj0 k k0 k1 k2=>?_⟩
 .rw[G k,G,if_neg k2];by_cases a:k=j
  .rw[if_pos a,if_pos l9];omega
  rw[if_neg a];by_cases b:k=i
  .rw[if_pos b,if_neg l9];rw[b];exact h.2 l9 j hj0 hjn hj
  rw[if_neg b];by_cases c:(k -1) / 2=i
  .rw[if_pos c];exact hmin k k0 k1 c
  .rw[if_neg c];exact h.1 k k0 k1 c
 .rw[G,G,if_neg l9,if_pos hj,if_neg l9,if_neg l9];have:=h.1 k k0 k1 l9;rw[k2]at this;exact this
theorem Fz(h:Jz l n i)(he:∀k,0<k->k<n->(k -1) / 2=i->hg l i<=hg l k):ML l n:=λk k0 k1=>by
 by_cases a:(k -1) / 2=i
 .rw[a];exact he k k0 k1 a
 .exact h.1 k k0 k1 a
theorem b0w(h:ML l n):∀k,k<n->hg l 0<=hg l k:=by
 intro k;induction k using Nat.strongRecOn with
 |ind k ih=>
  intro hk;by_cases h0:k=0
  .subst h0;exact gV _
  .have h1:=h k l9 hk;have h2:=ih ((k -1) / 2) l9 l9;omega
theorem a4E(h:ML l l.length)(hn:n+1=l.length):Jz (swp l 0 n) n 0:=by have G:=a0x (l:=l) (i:=0) (j:=n) l9 l9;refine⟨λk k0 k1 k2=>?_,λh0=>by omega⟩;rw[G k,G,if_neg l9,if_neg k2,if_neg l9,if_neg l9];exact h k k0 l9
theorem Tn{l:List α}{a:α}(h:(l.take n)[i]? =some a):i<n/\l[i]? =some a:=by
 rw[X0]at h;split at h
 .exact⟨by assumption,h⟩
 .cases h
theorem Lc{l:List fF}(hl:l.length<=1000000)(n:Nat)(nm:d1x):uY l (n:Int) nm=some ((l.take n).any λx=>seq x.1 nm):=by
 unfold uY;refine U8 (wZ (l.take n) (λx=>seq x.1 nm) true PUnit.unit V6 (λi a ha=>?_) ?_) ?_
 rotate_left 2
 .cases (l.take n).any λx=>seq x.1 nm<;>rfl
 .obtain⟨h1,h2⟩:=Tn ha;rw[S9 (show(i:Int)<n by omega),H6 h2,E5,h2];simp only[o7,o8];cases seq a.1 nm<;>rfl
 .by_cases h:n<l.length
  .have e:(l.take n).length=n:=by simp;omega
   rw[e,J9 l9];rfl
  .have e:(l.take n).length=l.length:=by simp;omega
   rw[e,G6];cases D9 (l.length:Int) (n:Int)<;>rfl
def Nk(en:List gI)(f:fF)(a b:List fF):Int:=
 l7 (ED f.1) (l7 (a.any λx=>seq x.1 f.1) 7 (l7 (b.any λx=>seq x.1 f.1) 7 (l7 (vty f.2 en) 0 8))) 2
theorem PT{l:U5}{f:fF}{a b:List fF}(h:f.1.length<=1000000)(ha:a.length<=1000000)(hb:b.length<=1000000):xQ l f a b=some (Nk l.1 f a b):=by
 unfold xQ Nk;rw[rJ h,o8,Vd _ ha,o8,Vd _ hb,o8,zl,o8];cases ED f.1
 .rfl
 cases a.any λx=>seq x.1 f.1
 case true=>rfl
 cases b.any λx=>seq x.1 f.1
 case true=>rfl
 cases vty f.2 l.1<;>rfl
def VZ(c e:Int):Option (Int×Int):=l7 (x8 c 0) none (some (c,e))
def inP(l:U5)(s:D6)(i:Nat):Option (Int×Int):=match s.2.2.1[i]? with|some f=>VZ (Nk l.1 f (s.2.2.1.take i) []) (100+i:Nat)|none=>none
def a1Y(l:U5)(s:D6)(i:Nat):Option (Int×Int):=match s.2.2.2.1[i]? with|some f=>VZ (Nk l.1 f s.2.2.1 (s.2.2.2.1.take i)) (200+i:Nat)|none=>none
def a1G(s:D6):Prop:=(∀f∈s.2.2.1,f.1.length<=1000000)/\(∀f∈s.2.2.2.1,f.1.length<=1000000)
theorem Vf{c i:Nat}(hc:c<=1000)(h:i<=1000000):x9 .i64 (c:Int) (i:Int)=((c+i:Nat):Int):=by rw[X4 O5];omega
def VS(i:Int)(r:Int×Int):Int×Int×Int×Int:=(r.1,3,i,r.2)
theorem IB{ρ ρ' :Type}(g:ρ->ρ')(n:Nat)(p:Nat->Option ρ):Z4 n (λi=>(p i).map g)=(Z4 n p).map g:=by
 unfold Z4;induction n with
 |zero=>rfl|succ n ih=>rw[dB,lT,lT,ih];cases (List.range n).findSome? p<;>simp
def IA(l:U5)(s:D6):Option (Int×Int):=match Z4 s.2.2.1.length (inP l s)with|some r=>some r|none=>Z4 s.2.2.2.1.length (a1Y l s)
theorem Yq{l:U5}{s:D6}(hs:l.2.2[i]? =some s)(h1:s.2.2.1.length<=1000)(h2:s.2.2.2.1.length<=1000)(hf:a1G s):
  yV l (i:Int)=some (match IA l s with|some r=>VS i r|none=>(0,0,0,0)):=by
 unfold yV IA;rw[E5,hs,o8];refine U8 (ql (p:=λk=>(inP l s k).map (VS i)) s.2.2.1.length l9 _ (0,0,0,0) (λk hk=>?_) ?_) ?_
 rotate_left 2
 .rw[IB];cases Z4 s.2.2.1.length (inP l s)
  case some r=>rfl
  simp only[Option.map_none,J7];refine U8 (ql (p:=λk=>(a1Y l s k).map (VS i)) s.2.2.2.1.length l9 _ (0,0,0,0) (λk hk=>?_) ?_) ?_
  rotate_left 2
  .rw[IB];cases Z4 s.2.2.2.1.length (a1Y l s)<;>rfl
  .have e:=eG hk;have hm:=hf.2 _ (N7 hk);simp only[H6 e,o7,E5,e,o8,nJ hm,show o9 s.2.2.1=((s.2.2.1.length:Nat):Int)from rfl,Lc (show s.2.2.1.length<=1000000 by omega),Lc (show s.2.2.2.1.length<=1000000 by omega),jF,a1Y,Nk,VZ,aA];rw[show(200:Int)=((200:Nat):Int)from rfl,Vf l9 l9];cases ED s.2.2.2.1[k].1
   .rfl
   cases s.2.2.1.any λx=>seq x.1 s.2.2.2.1[k].1
   case true=>rfl
   cases (s.2.2.2.1.take k).any λx=>seq x.1 s.2.2.2.1[k].1
   case true=>rfl
   cases vty s.2.2.2.1[k].2 l.1<;>rfl
  .simp only[G6];rfl
 .have e:=eG hk;have hm:=hf.1 _ (N7 hk);simp only[H6 e,o7,E5,e,o8,nJ hm,Lc (show s.2.2.1.length<=1000000 by omega),jF,inP,Nk,VZ];rw[show(100:Int)=((100:Nat):Int)from rfl,Vf l9 l9];cases ED s.2.2.1[k].1
  .rfl
  cases (s.2.2.1.take k).any λx=>seq x.1 s.2.2.1[k].1
  case true=>rfl
  cases vty s.2.2.1[k].2 l.1<;>rfl
 .simp only[G6];rfl
def arF(op:Int):Int:=(iY op).getD 0
variable {op:Int}
theorem b7B(h:1<=op/\op<=39):∃k:Fin 40,op=(k.val:Int):=⟨⟨op.toNat,l9⟩,by simp;omega⟩
theorem c1C:∀k:Fin 40,1<=k.val->(pq (k.val:Int)=iY (k.val:Int))/\(iY (k.val:Int)=some 0\/iY (k.val:Int)=some 1\/iY (k.val:Int)=some 2\/iY (k.val:Int)=some 3):=by decide+kernel
theorem a0z(h:¬(1<=op/\op<=39))(k:Int)(h1:1<=k)(h2:k<=39):x8 op k=false:=J6 l9
theorem a7p(h:¬(1<=op/\op<=39)):iY op=some (-1):=by
 unfold iY;by_cases h1:1<=op
 .rw[X5 h1,o7,Y4 (show(9:Int)<op by omega),o6,Y4 (show(39:Int)<op by omega),Y4 (show(30:Int)<op by omega)];simp[a0z h];cases J5 35 op<;>cases J5 11 op<;>rfl
 .rw[Y4 (show op<1 by omega),o6,Y4 (show op<35 by omega),Y4 (show op<11 by omega)];simp[a0z h]
theorem b7m(h:¬(1<=op/\op<=39)):pq op=some (-1):=by unfold pq;simp[a0z h]
theorem JC(op:Int):pq op=some (arF op)/\iY op=some (arF op)/\(arF op=-1\/arF op=0\/arF op=1\/arF op=2\/arF op=3):=by
 unfold arF;by_cases h:1<=op/\op<=39
 .obtain⟨k,rfl⟩:=b7B h;obtain⟨h1,h2⟩:=c1C k l9;rcases h2 with h2|h2|h2|h2<;>rw[h1,h2]<;>simp
 .rw[b7m h,a7p h];simp
theorem WT(op:Int):pq op=some (arF op):=(JC op).1
theorem Yv(op:Int):iY op=some (arF op):=(JC op).2.1
inductive XT where
 |l0 (n:Int×Int)|l1 (n:Int×Int) (a:XT)|l2 (n:Int×Int) (a b:XT)|l3 (n:Int×Int) (a b c:XT)
def XT.size:XT->Nat
 | .l0 _=>1| .l1 _ a=>a.size+1| .l2 _ a b=>a.size+b.size+1| .l3 _ a b c=>a.size+b.size+c.size+1
def XT.post:XT->List (Int×Int)
 | .l0 n=>[n]| .l1 n a=>a.post++[n]| .l2 n a b=>a.post++b.post++[n]| .l3 n a b c=>a.post++b.post++c.post++[n]
def XT.sts(o:Nat):XT->d1v
 | .l0 _=>[(o:Int)]| .l1 _ a=>a.sts o++[(o:Int)]| .l2 _ a b=>a.sts o++b.sts (o+a.size)++[(o:Int)]| .l3 _ a b c=>a.sts o++b.sts (o+a.size)++c.sts (o+a.size+b.size)++[(o:Int)]
theorem XT.size_pos(t:XT):0<t.size:=by cases t<;>simp[XT.size]
theorem XT.post_len(t:XT):t.post.length=t.size:=by
 induction t with
 |l0 n=>rfl|l1 n a ha=>simp[XT.post,XT.size,ha]|l2 n a b ha hb=>simp[XT.post,XT.size,ha,hb];try omega
 |l3 n a b c ha hb hc=>simp[XT.post,XT.size,ha,hb,hc];try omega
theorem XT.sts_len(t:XT):∀o,(t.sts o).length=t.size:=by
 induction t with
 |l0 n=>intro o;rfl|l1 n a ha=>intro o;simp[XT.sts,XT.size,ha]|l2 n a b ha hb=>intro o;simp[XT.sts,XT.size,ha,hb];try omega
 |l3 n a b c ha hb hc=>intro o;simp[XT.sts,XT.size,ha,hb,hc];try omega
def jg:List XT->Nat
 |[]=>0|t::r=>jg r+t.size
def Md:List XT->List (Int×Int)
 |[]=>[]|t::r=>Md r++t.post
def stR:List XT->d1v
 |[]=>[]|t::r=>stR r++t.sts (jg r)
def oM:List XT->d1v
 |[]=>[]|t::r=>oM r++[(jg r:Int)]
theorem oI:∀ts,(oM ts).length=ts.length
 |[]=>rfl|t::r=>by simp[oM,oI r]
theorem Gg:∀ts,(stR ts).length=jg ts
 |[]=>rfl|t::r=>by simp[stR,jg,Gg r,XT.sts_len]
theorem Ph:∀ts,(Md ts).length=jg ts
 |[]=>rfl|t::r=>by simp[Md,jg,Ph r,XT.post_len]
def push(n:Int×Int)(ts:List XT):Int⊕List XT:=
 if arF n.1=0 then .inr (.l0 n::ts)
 else if arF n.1=1 then(match ts with|a::r=> .inr (.l1 n a::r)|_=> .inl 5)
 else if arF n.1=2 then(match ts with|b::a::r=> .inr (.l2 n a b::r)|_=> .inl 5)
 else if arF n.1=3 then(match ts with|c::b::a::r=> .inr (.l3 n a b c::r)|_=> .inl 5)
 else .inl 2
def wY:Nat->List (Int×Int)->List XT->(Int×Int)⊕List XT
 |_,[],ts=> .inr ts
 |i,n::es,ts=>match push n ts with
  | .inl c=> .inl ((i:Int),c)| .inr ts' =>if 12<ts'.length then .inl ((i:Int),16)else wY (i+1) es ts'
def mX(e:List (Int×Int)):(Int×Int)⊕XT:=
 if 48<e.length then .inl (0,4)else if e.length=0 then .inl (0,5)else
  match wY 0 e []with
  | .inl x=> .inl x| .inr [t]=> .inr t| .inr _=> .inl ((e.length:Int),4)
theorem O_{n:Int×Int}{ts ts' :List XT}(h:push n ts= .inr ts'):Md ts' =Md ts++[n]/\ts' ≠[]:=by
 unfold push at h;split at h
 .cases h;exact⟨rfl,A7⟩
 split at h
 .split at h
  .cases h;exact⟨by simp[Md,XT.post],A7⟩
  .cases h
 split at h
 .split at h
  .cases h;exact⟨by simp[Md,XT.post],A7⟩
  .cases h
 split at h
 .split at h
  .cases h;exact⟨by simp[Md,XT.post],A7⟩
  .cases h
 .cases h
theorem Pj{n:Int×Int}{ts ts' :List XT}(h:push n ts= .inr ts'):jg ts' =jg ts+1:=by rw[←Ph,←Ph,(O_ h).1];simp
theorem KY:∀(es:List (Int×Int)) (i:Nat) (ts ts' :List XT),wY i es ts= .inr ts' ->Md ts' =Md ts++es/\(ts≠[]\/es≠[]->ts' ≠[])
 |[],i,ts,ts',h=>by cases h;exact⟨A7,A7⟩|n::es,i,ts,ts',h=>by
  unfold wY at h;cases hp:push n ts with
  |inl c=>rw[hp]at h;cases h|inr t2=>
   rw[hp]at h;simp only at h;split at h
   .cases h
   .obtain⟨h1,h2⟩:=KY es (i+1) t2 ts' h;obtain⟨h3,h4⟩:=O_ hp;exact⟨by rw[h1,h3];simp,λ_=>h2 (.inl h4)⟩
theorem Jc{e:List (Int×Int)}{t:XT}(h:mX e= .inr t):e=t.post/\e.length<=48:=by
 unfold mX at h;split at h
 .cases h
 split at h
 .cases h
 split at h
 .cases h
 .rename_i t' hp;cases h;have:=(KY e 0 [] [t] hp).1;exact⟨by simpa[Md]using this.symm,l9⟩
 .cases h
theorem VP(e:List (Int×Int))(he:e.length<=48)(g:List XT->σ)(fin:List XT->ε)(rt:Int×Int->ρ){f:σ->Option (Out σ ε ρ)}
  (hs:∀(i:Nat) (n:Int×Int) (ts:List XT),e[i]? =some n->i=jg ts->ts.length<=12->f (g ts)=some (match push n ts with
   | .inl c=> .rt (rt ((i:Int),c))
   | .inr ts' =>if 12<ts'.length then .rt (rt ((i:Int),16))else .nx (g ts')))
  (hend:∀ts,jg ts=e.length->f (g ts)=some (.ex (fin ts))):
  U1 f (g [])=some (match wY 0 e []with| .inl x=> .inr (rt x)| .inr ts=> .inl (fin ts)):=by
 have key:∀(es:List (Int×Int)) (i:Nat) (ts:List XT) (k:Nat),e.drop i=es->i=jg ts->ts.length<=12->i<=e.length->es.length<k->
   pW f k (g ts)=some (match wY i es ts with| .inl x=> .inr (rt x)| .inr ts=> .inl (fin ts)):=by
  intro es;induction es with
  |nil=>
   intro i ts k hd hi hl hle hk;obtain⟨k,rfl⟩:∃k',k=k' +1:=⟨k -1,l9⟩;have:i=e.length:=by have:=congrArg List.length hd;simp at this;omega
   unfold pW;rw[hend ts l9];rfl
  |cons n es ih=>
   intro i ts k hd hi hl hle hk;obtain⟨k,rfl⟩:∃k',k=k' +1:=⟨k -1,l9⟩;have hn:e[i]? =some n:=by
    have:(e.drop i)[0]? =some n:=by rw[hd];rfl
    simpa using this
   have hlt:=(X6.1 hn).1;unfold pW;rw[hs i n ts hn hi hl];unfold wY;cases hp:push n ts with
   |inl c=>rfl|inr ts' =>
    simp only;by_cases h12:12<ts'.length
    .rw[if_pos h12,if_pos h12]
    .rw[if_neg h12,if_neg h12];exact ih (i+1) ts' k (by rw[←Y8,hd];rfl) (by rw[Pj hp,hi]) l9 l9 (by simp at hk;omega)
 exact key e 0 [] jU rfl rfl A7 l9 (by unfold jU;omega)
theorem a2Q:∀(p r:List XT),∃X,oM (p++r)=oM r++X/\X.length=p.length/\(p≠[]->X.head?=some (jg r:Int))
 |[],r=>⟨[],A7,rfl,λh=>absurd rfl h⟩|a::p,r=>by
  obtain⟨X,h1,h2,h3⟩:=a2Q p r;refine⟨X++[(jg (p++r):Int)],?_,by simp[h2],λ_=>?_⟩
  .show oM (p++r)++[(jg (p++r):Int)]=_;rw[h1,F8]
  .cases p with
   |nil=>simp at h2;subst h2;rfl|cons b p=>rw[List.head?_append,h3 A7];rfl
theorem Um(p r:List XT)(k:Int)(hk:k=(p.length:Int))(h:p.length+r.length<=100)(hp:p≠[]):
  I7 .i64 (o9 (oM (p++r))) k=(r.length:Int)/\F9 (oM (p++r)) (r.length:Int)=some (jg r:Int)/\U0 (oM (p++r)) (U9 (r.length:Int))=some (jg r:Int)
  /\qQ 0 (r.length:Int) (o9 (oM (p++r)))=true/\oD (oM (p++r)) (U9 0) (U9 (r.length:Int))=oM r:=by
 obtain⟨X,h1,h2,h3⟩:=a2Q p r;have hl:(oM (p++r)).length=r.length+p.length:=by rw[oI];simp;omega
 have hg:(oM (p++r))[r.length]? =some (jg r:Int):=by rw[h1,I4 (by rw[oI];omega),oI,bT,←List.head?_eq_getElem?];exact h3 hp
 refine⟨?_,?_,?_,?_,?_⟩
 .simp only[o9,hl];rw[P8 O5];omega
 .rw[E5];exact hg
 .exact hg
 .simp only[qQ,o9,hl,decide_eq_true_eq];omega
 .show((oM (p++r)).take r.length).drop 0=_;rw[h1,pU,af (by rw[oI];omega),V4 (by rw[oI];omega)]
theorem Vg(ts:List XT):D9 12 (o9 (oM ts))=decide (12<ts.length):=by rw[show o9 (oM ts)=((ts.length:Nat):Int) by simp[o9,oI]];exact Rx 12 ts.length
theorem iR{l:List α}(x:α)(h:l.length<=1000000):dG l [x]=some (l++[x]):=KR V6
theorem JQ(ts:List XT)(k:Nat):D9 (o9 (oM ts)) (k:Int)=decide (ts.length<k):=by rw[show o9 (oM ts)=((ts.length:Nat):Int) by simp[o9,oI]];exact Rx _ _
def xA(e:List (Int×Int)):d1v×Int×Int:=match mX e with| .inl x=>([],x)| .inr t=>(t.sts 0,0,0)
theorem L_{e:List (Int×Int)}(h0:e.length≠0){K:d1v×Int×Int->d1v×Int×Int}(h48:¬48<e.length)
  {r:d1v×Int×Int} (h:∀ts,wY 0 e []= .inr ts->r=l7 (D9 1 (o9 (oM ts))) ([],o9 e,4) (stR ts,0,0)) (hi:∀x,wY 0 e []= .inl x->r=([],x)):r=xA e:=by
 unfold xA mX;rw[if_neg h48,if_neg h0];cases hp:wY 0 e []with
 |inl x=>exact hi x hp|inr ts=>
  rw[h ts hp];have:=(KY e 0 [] ts hp).2 (.inr (by intro he;subst he;exact h0 rfl));match ts,this with
  |[t],_=>simp[oM,o9,D9,stR,jg]|a::b::ts,_=>rw[S9 (by simp[o9,oI];omega)];rfl
theorem Ju(e:List (Int×Int)):rU e=some (xA e):=by
 unfold rU;by_cases h48:48<e.length
 .rw[S9 (by simp[o9];omega),o7];unfold xA mX;rw[if_pos h48]
 by_cases h0:e.length=0
 .rw[J9 (by simp[o9];omega),o6,O8 (by simp[o9,h0]),o7];unfold xA mX;rw[if_neg h48,if_pos h0]
 rw[J9 (by simp[o9];omega),o6,J6 (by simp[o9];intro h;exact h0 (by simp[h])),o6];refine U8 (VP e l9 (λts=>(stR ts,oM ts,(jg ts:Int))) (λts=>(stR ts,oM ts)) (λx=>(([]:d1v),x)) (λi n ts hn hi hl=>?_) (λts hsz=>?_)) ?_
 rotate_left 2
 .rw[←L_ h0 h48 (K:=id) (r:=match wY 0 e []with| .inl x=>([],x)| .inr ts=>l7 (D9 1 (o9 (oM ts))) ([],o9 e,4) (stR ts,0,0)) (λts h=>by rw[h]) (λx h=>by rw[h])];cases wY 0 e []with
  |inl x=>rfl|inr ts=>simp only[o8,J7];cases D9 1 (o9 (oM ts))<;>rfl
 .subst hi;have hlt:=(X6.1 hn).1;have hst:=Gg ts;have hof:=oI ts;simp only[H6 hn,o7,E5,hn,o8,Yv];rcases(JC n.1).2.2 with h|h|h|h|h
  .rw[show push n ts= .inl 2 by simp[push,h],h];rfl
  .rw[show push n ts= .inr (.l0 n::ts) by simp[push,h],h,J9 l9,o6,J9 (Vj _),o6,o6,iR _ l9,o8,iR _ l9,o8,Y1 l9];rw[show oM ts++[(jg ts:Int)]=oM (.l0 n::ts)from rfl,Vg];by_cases hc:12<(XT.l0 n::ts).length
   .simp only[hc,decide_true,if_true,o7]
   .simp only[hc,decide_false,if_false,o6];rfl
  .match ts with
   |[]=>rw[show push n []= .inl 5 by simp[push,h],h];rfl|a::r=>
    obtain⟨p1,p2,p3,p4,p5⟩:=Um [a] r 1 rfl (by simp at hl ⊢;omega) A7;simp only[Z5,H8]at p1 p2 p3 p4 p5;have:=Gg (a::r);have:=oI r;simp only[H5]at hl;rw[show push n (a::r)= .inr (.l1 n a::r) by simp[push,h],h,J9 l9,o6,show(1:Int)=((1:Nat):Int)from rfl,JQ,show decide ((a::r).length<1)=false by simp];simp only[Int.natCast_one]at p1 ⊢;rw[o6,S9 l9,o7,p1,p2,o8,p3,o8,p4,o7,p5,iR _ l9,o8,iR _ l9,o8,Y1 l9];rw[show oM r++[(jg r:Int)]=oM (.l1 n a::r)from rfl,Vg];by_cases hc:12<(XT.l1 n a::r).length
    .simp only[hc,decide_true,if_true,o7]
    .simp only[hc,decide_false,if_false,o6,stR,XT.sts,F8,jg,XT.size,iJ]
  .match ts with
   |[]=>rw[show push n []= .inl 5 by simp[push,h],h];rfl|[a]=>rw[show push n [a]= .inl 5 by simp[push,h],h];rfl|b::a::r=>
    obtain⟨p1,p2,p3,p4,p5⟩:=Um [b,a] r 2 rfl (by simp at hl ⊢;omega) A7;simp only[Z5,H8]at p1 p2 p3 p4 p5;have:=Gg (b::a::r);have:=oI r;simp only[H5]at hl;rw[show push n (b::a::r)= .inr (.l2 n a b::r) by simp[push,h],h,J9 l9,o6,show(2:Int)=((2:Nat):Int)from rfl,JQ,show decide ((b::a::r).length<2)=false by simp];rw[o6,S9 l9,o7,show((2:Nat):Int)=2 from rfl,p1,p2,o8,p3,o8,p4,o7,p5,iR _ l9,o8,iR _ l9,o8,Y1 l9];rw[show oM r++[(jg r:Int)]=oM (.l2 n a b::r)from rfl,Vg];by_cases hc:12<(XT.l2 n a b::r).length
    .simp only[hc,decide_true,if_true,o7]
    .simp only[hc,decide_false,if_false,o6,stR,XT.sts,F8,jg,XT.size,iJ]
  .match ts with
   |[]=>rw[show push n []= .inl 5 by simp[push,h],h];rfl|[a]=>rw[show push n [a]= .inl 5 by simp[push,h],h];rfl|[b,a]=>rw[show push n [b,a]= .inl 5 by simp[push,h],h];rfl|c::b::a::r=>
    obtain⟨p1,p2,p3,p4,p5⟩:=Um [c,b,a] r 3 rfl (by simp at hl ⊢;omega) A7;simp only[Z5,H8]at p1 p2 p3 p4 p5;have:=Gg (c::b::a::r);have:=oI r;simp only[H5]at hl;rw[show push n (c::b::a::r)= .inr (.l3 n a b c::r) by simp[push,h],h,J9 l9,o6,show(3:Int)=((3:Nat):Int)from rfl,JQ,show decide ((c::b::a::r).length<3)=false by simp];rw[o6,S9 l9,o7,show((3:Nat):Int)=3 from rfl,p1,p2,o8,p3,o8,p4,o7,p5,iR _ l9,o8,iR _ l9,o8,Y1 l9];rw[show oM r++[(jg r:Int)]=oM (.l3 n a b c::r)from rfl,Vg];by_cases hc:12<(XT.l3 n a b c::r).length
    .simp only[hc,decide_true,if_true,o7]
    .simp only[hc,decide_false,if_false,o6,stR,XT.sts,F8,jg,XT.size,iJ]
 .simp only[hsz,G6];rfl
def pd(l:d1v)(k:Nat):d1v:=l++List.replicate k 0
theorem a0O(l:d1v)(m:Nat):F9 (pd l (m+1)) (l.length:Int)=some 0:=by rw[E5];unfold pd;rw[I4 l9,bT];rfl
theorem a0P(l:d1v)(m:Nat):U0 (pd l (m+1)) (U9 (l.length:Int))=some 0:=by have:=a0O l m;rw[E5]at this;exact this
theorem a4Y(l:d1v)(m:Nat)(v:Int):bi (pd l (m+1)) (U9 (l.length:Int)) v=pd (l++[v]) m:=by show(l++List.replicate (m+1) 0).set l.length v=_;rw[jy _ _ l9,bT,kQ];simp[pd]
theorem SA(l:d1v)(m:Nat)(v w:Int):bi (pd (l++[v]) m) (U9 (l.length:Int)) w=pd (l++[w]) m:=by show(l++[v]++List.replicate m 0).set l.length w=_;rw[F8,jy _ _ l9,bT];simp[pd]
theorem OZ(l:d1v)(m:Nat)(v:Int):F9 (pd (l++[v]) m) (l.length:Int)=some v:=by rw[E5];unfold pd;rw[F8,I4 l9,bT];rfl
theorem NL(l:d1v)(m:Nat)(v:Int):U0 (pd (l++[v]) m) (U9 (l.length:Int))=some v:=by have:=OZ l m v;rw[E5]at this;exact this
theorem Tm(e:List (Int×Int)):xM e=some (xA e):=by
 unfold xM;by_cases h48:48<e.length
 .rw[S9 (by simp[o9];omega),o7];unfold xA mX;rw[if_pos h48]
 by_cases h0:e.length=0
 .rw[J9 (by simp[o9];omega),o6,O8 (by simp[o9,h0]),o7];unfold xA mX;rw[if_neg h48,if_pos h0]
 rw[J9 (by simp[o9];omega),o6,J6 (by simp[o9];intro h;exact h0 (by simp[h])),o6];rw[show qL (o9 e) (0:Int)=some (pd (stR []) (e.length -jg [])) by simp[qL,o9,pd,stR,jg];omega,o8];refine U8 (VP e l9 (λts=>(pd (stR ts) (e.length -jg ts),oM ts,(jg ts:Int))) (λts=>(pd (stR ts) (e.length -jg ts),oM ts)) (λx=>(([]:d1v),x)) (λi n ts hn hi hl=>?_) (λts hsz=>?_)) ?_
 rotate_left 2
 .rw[←L_ h0 h48 (K:=id) (r:=match wY 0 e []with| .inl x=>([],x)| .inr ts=>l7 (D9 1 (o9 (oM ts))) ([],o9 e,4) (stR ts,0,0)) (λts h=>by rw[h]) (λx h=>by rw[h])];cases hp:wY 0 e []with
  |inl x=>rfl|inr ts=>
   have:=(KY e 0 [] ts hp).1;have hz:e.length -jg ts=0:=by have:=congrArg List.length this;rw[Ph]at this;simp[Md]at this;omega
   simp only[o8,J7,hz,pd,List.replicate_zero,G9];cases D9 1 (o9 (oM ts))<;>rfl
 .subst hi;have hlt:=(X6.1 hn).1;have hst:=Gg ts;have hof:=oI ts;obtain⟨m,hm⟩:∃m,e.length -jg ts=m+1:=⟨e.length -jg ts -1,l9⟩;simp only[H6 hn,o7,E5 e,hn,o8,WT,hm];rw[←hst];simp only[a0O,a0P,o8,a4Y,OZ,NL,SA];rw[hst];rcases(JC n.1).2.2 with h|h|h|h|h
  .rw[show push n ts= .inl 2 by simp[push,h],h];rfl
  .have e0:I7 .i64 (o9 (oM ts)) 0=((oM ts).length:Int):=by rw[P8 (by unfold kL o9;omega)];simp[o9]
   rw[show push n ts= .inr (.l0 n::ts) by simp[push,h],h,J9 l9,o6,J9 (Vj _),o6,o6,e0,show qQ 0 ((oM ts).length:Int) (o9 (oM ts))=true by simp[qQ,o9],o7,
    show oD (oM ts) (U9 0) (U9 ((oM ts).length:Int))=oM ts by simp[oD,U9],iR _ l9,o8,Y1 l9]
   rw[show oM ts++[(jg ts:Int)]=oM (.l0 n::ts)from rfl,Vg];by_cases hc:12<(XT.l0 n::ts).length
   .simp only[hc,decide_true,if_true,o7]
   .simp only[hc,decide_false,if_false,o6,jg,XT.size,stR,XT.sts,show e.length -(jg ts+1)=m by omega]
  .match ts with
   |[]=>rw[show push n []= .inl 5 by simp[push,h],h];rfl|a::r=>
    obtain⟨p1,p2,p3,p4,p5⟩:=Um [a] r 1 rfl (by simp at hl ⊢;omega) A7;simp only[Z5,H8]at p1 p2 p3 p4 p5;have:=Gg (a::r);have:=oI r;simp only[H5]at hl;rw[show push n (a::r)= .inr (.l1 n a::r) by simp[push,h],h,J9 l9,o6,show(1:Int)=((1:Nat):Int)from rfl,JQ,show decide ((a::r).length<1)=false by simp];simp only[Int.natCast_one]at p1 ⊢;rw[o6,S9 l9,o7,p1,p2,o8,p3,o8,p4,o7,p5];rw[←hst]
    try simp only[SA,OZ,NL,o8]
    rw[hst,iR _ l9,o8,Y1 l9];rw[show oM r++[(jg r:Int)]=oM (.l1 n a::r)from rfl,Vg];have hz:=Pj (show push n (a::r)= .inr (.l1 n a::r) by simp[push,h]);by_cases hc:12<(XT.l1 n a::r).length
    .simp only[hc,decide_true,if_true,o7]
    .simp only[hc,decide_false,if_false,o6,hz,show e.length -(jg (a::r)+1)=m by omega,stR,XT.sts,F8]
  .match ts with
   |[]=>rw[show push n []= .inl 5 by simp[push,h],h];rfl|[a]=>rw[show push n [a]= .inl 5 by simp[push,h],h];rfl|b::a::r=>
    obtain⟨p1,p2,p3,p4,p5⟩:=Um [b,a] r 2 rfl (by simp at hl ⊢;omega) A7;simp only[Z5,H8]at p1 p2 p3 p4 p5;have:=Gg (b::a::r);have:=oI r;simp only[H5]at hl;rw[show push n (b::a::r)= .inr (.l2 n a b::r) by simp[push,h],h,J9 l9,o6,show(2:Int)=((2:Nat):Int)from rfl,JQ,show decide ((b::a::r).length<2)=false by simp];rw[o6,S9 l9,o7,show((2:Nat):Int)=2 from rfl,p1,p2,o8,p3,o8,p4,o7,p5];rw[←hst]
    try simp only[SA,OZ,NL,o8]
    rw[hst,iR _ l9,o8,Y1 l9];rw[show oM r++[(jg r:Int)]=oM (.l2 n a b::r)from rfl,Vg];have hz:=Pj (show push n (b::a::r)= .inr (.l2 n a b::r) by simp[push,h]);by_cases hc:12<(XT.l2 n a b::r).length
    .simp only[hc,decide_true,if_true,o7]
    .rw[hz,show e.length -(jg (b::a::r)+1)=m by omega,show stR (.l2 n a b::r)=stR (b::a::r)++[(jg r:Int)] by simp only[stR,XT.sts,F8,jg]];simp only[hc,decide_false,if_false,o6]
  .match ts with
   |[]=>rw[show push n []= .inl 5 by simp[push,h],h];rfl|[a]=>rw[show push n [a]= .inl 5 by simp[push,h],h];rfl|[b,a]=>rw[show push n [b,a]= .inl 5 by simp[push,h],h];rfl|c::b::a::r=>
    obtain⟨p1,p2,p3,p4,p5⟩:=Um [c,b,a] r 3 rfl (by simp at hl ⊢;omega) A7;simp only[Z5,H8]at p1 p2 p3 p4 p5;have:=Gg (c::b::a::r);have:=oI r;simp only[H5]at hl;rw[show push n (c::b::a::r)= .inr (.l3 n a b c::r) by simp[push,h],h,J9 l9,o6,show(3:Int)=((3:Nat):Int)from rfl,JQ,show decide ((c::b::a::r).length<3)=false by simp];rw[o6,S9 l9,o7,show((3:Nat):Int)=3 from rfl,p1,p2,o8,p3,o8,p4,o7,p5];rw[←hst]
    try simp only[SA,OZ,NL,o8]
    rw[hst,iR _ l9,o8,Y1 l9];rw[show oM r++[(jg r:Int)]=oM (.l3 n a b c::r)from rfl,Vg];have hz:=Pj (show push n (c::b::a::r)= .inr (.l3 n a b c::r) by simp[push,h]);by_cases hc:12<(XT.l3 n a b c::r).length
    .simp only[hc,decide_true,if_true,o7]
    .rw[hz,show e.length -(jg (c::b::a::r)+1)=m by omega,show stR (.l3 n a b c::r)=stR (c::b::a::r)++[(jg r:Int)] by simp only[stR,XT.sts,F8,jg]];simp only[hc,decide_false,if_false,o6]
 .simp only[hsz,G6];rfl
end
section
def VT(t:Int×Int):Prop:=t=(1,0)\/t=(2,0)\/t=(3,0)\/t=(4,0)\/t=(5,0)\/∃e,t=(6,e)
theorem Ou{t:Int×Int}{en:List gI}(h:vty t en=true):VT t:=by
 obtain⟨k,e⟩:=t;unfold vty at h;simp only at h;cases h6:x8 k 6
 .rw[h6,o6]at h;cases h1:J5 1 k<;>rw[h1]at h
  .cases h
  cases h5:J5 k 5<;>rw[h5]at h
  .cases h
  simp only[o7,Y5]at h;rw[qc]at h1 h5;subst h;have:k=1\/k=2\/k=3\/k=4\/k=5:=l9;rcases this with rfl|rfl|rfl|rfl|rfl<;>simp[VT]
 .rw[Y5]at h6;subst h6;exact .inr (.inr (.inr (.inr (.inr ⟨e,rfl⟩))))
def EN(n:Int×Int)(ops:List (Int×Int))(sg:L8):Option ((Int×Int)×Int):=
 l7 (D7 (x8 n.2 0)) (o5 (kZ n.1) λu=>l7 (D7 u) (some ((0,0),2)) (bD n ops sg)) (bD n ops sg)
def vI(n:Int×Int)(ops:List (Int×Int))(sg:L8):Prop:=∃r:(Int×Int)×Int,yP n ops sg=some r/\EN n ops sg=some r/\(r.2=0->VT r.1)
variable {k:Int}
theorem VT.lit(h:1<=k/\k<=5):VT (k,0):=by have:k=1\/k=2\/k=3\/k=4\/k=5:=l9;rcases this with rfl|rfl|rfl|rfl|rfl<;>simp[VT]
theorem Af(a b:Int):J5 a b= !D9 b a:=by simp only[D9,J5];rw[←decide_not];congr 1;simp
theorem IX{α β:Type}(o:Option β)(f:α->Option β):o5 (o5 o λx=>some (Sum.inr x)) (λq=>U6 q f λr=>some r)=o:=by cases o<;>rfl
theorem VT.enum(e:Int):VT (6,e):=.inr (.inr (.inr (.inr (.inr ⟨e,rfl⟩))))
theorem sS{R E:Option ((Int×Int)×Int)}{c:Int}(hc:c≠0)(h1:R=some ((0,0),c))(h2:E=some ((0,0),c)):∃r:(Int×Int)×Int,R=some r/\E=some r/\(r.2=0->VT r.1):=⟨_,h1,h2,λh=>absurd h hc⟩
theorem nok{R E:Option ((Int×Int)×Int)}{t:Int×Int}(hv:VT t)(h1:R=some (t,0))(h2:E=some (t,0)):∃r:(Int×Int)×Int,R=some r/\E=some r/\(r.2=0->VT r.1):=⟨_,h1,h2,λ_=>hv⟩
def RR(a0:Int×Int)(a1:List (Int×Int))(a2:L8):Option ((Int×Int)×Int):=
 o5 (sW a0 a2) λ(x:Bool)=>l7 (D7 x) (some ((0,0),3)) (o5 (vH a0 a2) λ(x:Bool)=>l7 (D7 x) (some ((0,0),6))
  (l7 (x8 (o9 a1) 0) (o5 (lX a0 a2) λ(x:zC×Bool)=>l7 (D7 x.2) (some ((0,0),8)) (some (x.1,0)))
  (l7 (x8 (o9 a1) 1) (o5 (F9 a1 0) λ(x:zC)=>o5 (vT a0 x a2) λ(x:zC×Bool)=>l7 (D7 x.2) (some ((0,0),8)) (some (x.1,0)))
  (l7 (x8 (o9 a1) 2) (o5 (F9 a1 0) λ(x:zC)=>o5 (F9 a1 1) λ(x_1:zC)=>o5 (yQ a0.1 x x_1) λ(x:zC×Bool)=>l7 (D7 x.2) (some ((0,0),8)) (some (x.1,0)))
  (o5 (F9 a1 1) λ(x:zC)=>o5 (F9 a1 0) λ(x_1:zC)=>l7 (x8 x_1.1 1) (o5 (F9 a1 1) λ(x_2:zC)=>o5 (F9 a1 2) λ(x_3:zC)=>
   l7 (D7 (aj (x8 x_2.1 x_3.1) (x8 x_2.2 x_3.2))) (some ((0,0),8)) (some (x,0))) (l7 (D7 false) (some ((0,0),8)) (some (x,0))))))))
theorem b6T(n:Int×Int)(ops:List (Int×Int))(sg:L8):yP n ops sg=l7 (D7 (x8 n.2 0)) (o5 (iy n.1) λx=>l7 x (RR n ops sg) (some ((0,0),2))) (RR n ops sg):=by
 unfold yP;cases x8 n.2 0
 .simp only[aB,o7];cases iy n.1 with
  |none=>rfl|some b=>cases b<;>rfl
 .rfl
theorem NJ{op N:Int}{ops:List (Int×Int)}{sg:L8}(h1:kZ op=some true)(h2:iy op=some true)
  (h:∃r:(Int×Int)×Int,RR (op,N) ops sg=some r/\bD (op,N) ops sg=some r/\(r.2=0->VT r.1)):vI (op,N) ops sg:=by
 unfold vI;rw[b6T];unfold EN;dsimp only;rw[h1,h2];cases x8 N 0<;>exact h
theorem Ui{op N:Int}{ops:List (Int×Int)}{sg:L8}(h1:kZ op=some false)(h2:iy op=some false)
  (h:∃r:(Int×Int)×Int,RR (op,0) ops sg=some r/\bD (op,0) ops sg=some r/\(r.2=0->VT r.1)):vI (op,N) ops sg:=by
 unfold vI;rw[b6T];unfold EN;dsimp only;rw[h1,h2];cases hz:x8 N 0
 .exact sS (c:=2) J8 rfl rfl
 .rw[Y5]at hz;subst hz;exact h
section
variable (N:Int) (sg:L8)
theorem b0Z(hk:k=1\/k=2\/k=3\/k=4\/k=5):vI (k,N) [] sg:=by
 have hv:vty (k,0) sg.1=true:=by rcases hk with rfl|rfl|rfl|rfl|rfl<;>rfl
 have hm:kZ k=some true/\iy k=some true:=by rcases hk with rfl|rfl|rfl|rfl|rfl<;>exact⟨rfl,rfl⟩
 refine NJ hm.1 hm.2 ?_;have key:bD (k,N) [] sg=lC N k sg:=by rcases hk with rfl|rfl|rfl|rfl|rfl<;>exact IX _ _
 have key2:RR (k,N) [] sg=o5 (o5 (nV (k,0) sg.1) λ(x:zC)=>l7 (J5 x.1 N) (some (J5 N x.2)) (some false)) λ(x:Bool)=>l7 (D7 x) (some ((0,0),3)) (some ((k,0),0)):=by rcases hk with rfl|rfl|rfl|rfl|rfl<;>rfl
 rw[key,key2];unfold lC;rw[TK,QK,o8,o8,nP,nP];cases J5 (bnd (k,0) sg.1).1 N
 .exact sS (c:=3) J8 rfl rfl
 cases J5 N (bnd (k,0) sg.1).2
 .exact sS (c:=3) J8 rfl rfl
 .exact nok (Ou hv) rfl rfl
theorem a8w(hN:kL N):vI (6,N) [] sg:=by
 have hq:0<=N->dD .i64 N 16=N / 16:=λh=>by rw[BR (by rw[jQ h];unfold kL at*;omega),jQ h]
 refine NJ rfl rfl ?_;have hf:vH (6,N) sg=l7 (D9 (dD .i64 N 16) (o9 sg.1)) (o5 (F9 sg.1 (dD .i64 N 16)) λ(x:gI)=>some (D9 (dM N 16) (o9 x.2))) (some false):=rfl;have hl:lX (6,N) sg=some ((6,dD .i64 N 16),vty (6,dD .i64 N 16) sg.1):=by unfold lX;simp only[jF];rfl
 rw[show bD (6,N) [] sg=Ed N sg from IX _ _];unfold RR Ed;rw[hf,show sW (6,N) sg=some (J5 0 N)from rfl,hl];by_cases h0:0<=N
 .rw[J9 h0,X5 h0,hq h0];by_cases h1:N / 16<o9 sg.1
  .obtain⟨x,hx,_⟩:=mV (show 0<=N / 16 by omega) h1;rw[S9 h1,Y4 h1,hx,show vty (6,N / 16) sg.1=true by unfold vty;simp only[X5 (show 0<=N / 16 by omega),S9 h1];rfl];simp only[o8,nP];cases J5 (o9 x.2) (dM N 16)
   .exact nok (VT.enum (N / 16)) rfl rfl
   .exact sS (c:=6) J8 rfl rfl
  .have h1' :o9 sg.1<=N / 16:=l9;rw[J9 h1',X5 h1'];exact sS (c:=6) J8 rfl rfl
 .rw[S9 (show N<0 by omega),Y4 (show N<0 by omega)];exact sS (c:=3) J8 rfl rfl
theorem Cc(ts:List (Int×Int))(en:L8):(∃x,F9 ts N=some x/\J5 0 N=true/\D9 N (o9 ts)=true/\kT N ts en=some (l7 (vty x en.1) (x,0) ((0,0),8)))\/((J5 0 N=false\/J5 0 N=true/\D9 N (o9 ts)=false)/\kT N ts en=some ((0,0),6)):=by
 unfold kT;rw[nP N 0,Af (o9 ts) N];cases h0:J5 0 N
 .exact .inr ⟨.inl A7,rfl⟩
 cases h1:D9 N (o9 ts)
 .exact .inr ⟨.inr A7,rfl⟩
 rw[qc]at h0;rw[kz]at h1;obtain⟨x,hx,_⟩:=mV h0 h1;rw[hx];simp only[jq,Bool.not_false,o6,o7,o8,zl];exact .inl ⟨x,rfl,A7,A7,by cases vty x en.1<;>rfl⟩
theorem b5a:vI (7,N) [] sg:=by
 refine NJ rfl rfl ?_;rw[show bD (7,N) [] sg=kT N sg.2.2.1 sg from IX _ _];have hf:vH (7,N) sg=l7 (J5 0 N) (some (D9 N (o9 sg.2.2.1))) (some false):=rfl;unfold RR;rw[hf,show sW (7,N) sg=some true from rfl];rcases Cc N sg.2.2.1 sg with⟨x,h1,h2,h3,h4⟩|⟨h1|⟨h1,h2⟩,h4⟩
 .have hl:lX (7,N) sg=some (x,vty x sg.1):=by
   unfold lX;dsimp only;rw[h1];simp only[jF];rfl
  rw[h2,h3,h4,hl];cases hv:vty x sg.1
  .exact sS (c:=8) J8 rfl rfl
  .exact nok (Ou hv) rfl rfl
 .rw[h1,h4];exact sS (c:=6) J8 rfl rfl
 .rw[h1,h2,h4];exact sS (c:=6) J8 rfl rfl
theorem b0X:vI (8,N) [] sg:=by
 refine NJ rfl rfl ?_;rw[show bD (8,N) [] sg=kT N sg.2.2.2.1 sg from IX _ _];have hf:vH (8,N) sg=l7 (J5 0 N) (some (D9 N (o9 sg.2.2.2.1))) (some false):=rfl;unfold RR;rw[hf,show sW (8,N) sg=some true from rfl];rcases Cc N sg.2.2.2.1 sg with⟨x,h1,h2,h3,h4⟩|⟨h1|⟨h1,h2⟩,h4⟩
 .have hl:lX (8,N) sg=some (x,vty x sg.1):=by
   unfold lX;dsimp only;rw[h1];simp only[jF];rfl
  rw[h2,h3,h4,hl];cases hv:vty x sg.1
  .exact sS (c:=8) J8 rfl rfl
  .exact nok (Ou hv) rfl rfl
 .rw[h1,h4];exact sS (c:=6) J8 rfl rfl
 .rw[h1,h2,h4];exact sS (c:=6) J8 rfl rfl
theorem a8v:vI (9,N) [] sg:=Ui rfl rfl (nok (VT.lit (k:=5) l9) rfl rfl)
theorem a4Q:vI (35,N) [] sg:=by
 refine Ui rfl rfl ?_;rw[show bD (35,0) [] sg=rP (35,0) sg from IX _ _];unfold RR rP;simp only[sW,vH,lX,jF,o8];cases sg.2.2.2.2.2
 .exact sS (c:=6) J8 rfl rfl
 .exact nok (VT.lit (k:=2) l9) rfl rfl
theorem b1a(hk:k=36\/k=37\/k=38\/k=39):vI (k,N) [] sg:=by
 have hm:kZ k=some true/\iy k=some true/\x8 k 35=false:=by rcases hk with rfl|rfl|rfl|rfl<;>exact⟨rfl,rfl,rfl⟩
 refine NJ hm.1 hm.2.1 ?_;rw[show bD (k,N) [] sg=rP (k,N) sg by rcases hk with rfl|rfl|rfl|rfl<;>exact IX _ _];have hr:RR (k,N) [] sg=o5 (l7 sg.2.2.2.2.2 (l7 (J5 0 N) (some (D9 N (o9 sg.2.2.2.2.1))) (some false)) (some false)) λ(x:Bool)=>l7 (D7 x) (some ((0,0),6))
   (o5 (lX (k,N) sg) λ(x:zC×Bool)=>l7 (D7 x.2) (some ((0,0),8)) (some (x.1,0))):=by rcases hk with rfl|rfl|rfl|rfl<;>rfl
 rw[hr];unfold rP;rw[hm.2.2,o6];cases sg.2.2.2.2.2
 .exact sS (c:=6) J8 rfl rfl
 simp only[o7,D8,o6];rcases Cc N sg.2.2.2.2.1 sg with⟨x,h1,h2,h3,h4⟩|⟨h1|⟨h1,h2⟩,h4⟩
 .rw[h2,h3,h4];have hl:lX (k,N) sg=o5 (some (l7 (x8 k 36) (l7 (vty x sg.1) (l7 (x8 x.1 2) true (x8 x.1 3)) false) (l7 (x8 k 39) (l7 (vty x sg.1) (l7 (x8 x.1 2) true (l7 (x8 x.1 3) true (l7 (x8 x.1 4) true (x8 x.1 5)))) false) (l7 (vty x sg.1) (x8 x.1 1) false)))) λb=>some (x,b):=by
   unfold lX;simp only[jF,uk,yR];rcases hk with rfl|rfl|rfl|rfl<;>(rw[h1];simp only[x8,Int.reduceEq,decide_true,decide_false,o7,o6,o8];cases vty x sg.1<;>cases decide (x.1=2)<;>cases decide (x.1=3)<;>cases decide (x.1=4)<;>rfl)
  rw[hl];simp only[o8,nO];cases hv:vty x sg.1
  .rcases hk with rfl|rfl|rfl|rfl<;>exact sS (c:=8) J8 rfl rfl
  .have hx:=Ou hv;rcases hk with rfl|rfl|rfl|rfl<;>rcases hx with rfl|rfl|rfl|rfl|rfl|⟨e,rfl⟩ <;>
    first
    |exact nok (Ou hv) rfl rfl
    |exact sS (c:=8) J8 rfl rfl
 .rw[h1,h4];exact sS (c:=6) J8 rfl rfl
 .rw[h1,h2,h4];exact sS (c:=6) J8 rfl rfl
end
end
section
variable {a:Int×Int}{k:Int}{b:Int×Int}
section
variable (N:Int) (sg:L8)
theorem b5b(hk:k=10\/k=25\/k=31\/k=32)(ha:VT a):vI (k,N) [a] sg:=by
 have hm:kZ k=some false/\iy k=some false:=by rcases hk with rfl|rfl|rfl|rfl<;>exact⟨rfl,rfl⟩
 refine Ui hm.1 hm.2 ?_;rcases hk with rfl|rfl|rfl|rfl<;>rcases ha with rfl|rfl|rfl|rfl|rfl|⟨e,rfl⟩ <;>
  first
  |exact nok (VT.lit (k:=1) l9) rfl rfl
  |exact nok (VT.lit (k:=2) l9) rfl rfl
  |exact nok (VT.lit (k:=3) l9) rfl rfl
  |exact nok (VT.lit (k:=4) l9) rfl rfl
  |exact sS (c:=8) J8 rfl rfl
theorem b0W(hk:k=13\/k=23\/k=24\/k=27\/k=28\/k=29\/k=30)(ha:VT a)(hb:VT b):vI (k,N) [a,b] sg:=by
 have hm:kZ k=some false/\iy k=some false:=by rcases hk with rfl|rfl|rfl|rfl|rfl|rfl|rfl<;>exact⟨rfl,rfl⟩
 refine Ui hm.1 hm.2 ?_;rcases hk with rfl|rfl|rfl|rfl|rfl|rfl|rfl<;>rcases ha with rfl|rfl|rfl|rfl|rfl|⟨e,rfl⟩<;>rcases hb with rfl|rfl|rfl|rfl|rfl|⟨f,rfl⟩ <;>
  first
  |exact sS (c:=8) J8 rfl rfl
  |exact nok (VT.lit (k:=1) l9) rfl rfl
  |exact nok (VT.lit (k:=2) l9) rfl rfl
  |exact nok (VT.lit (k:=3) l9) rfl rfl
  |exact nok (VT.lit (k:=4) l9) rfl rfl
  |exact nok (VT.lit (k:=5) l9) rfl rfl
theorem a8x(hk:k=14\/k=15\/k=16)(ha:VT a)(hb:VT b):vI (k,N) [a,b] sg:=by
 have hm:kZ k=some true/\iy k=some true:=by rcases hk with rfl|rfl|rfl<;>exact⟨rfl,rfl⟩
 refine NJ hm.1 hm.2 ?_;have hr:RR (k,N) [a,b] sg=o5 (l7 (J5 0 N) (some (J5 N 5)) (some false)) λx=>l7 (D7 x) (some ((0,0),3)) (o5 (yQ k a b) λx=>l7 (D7 x.2) (some ((0,0),8)) (some (x.1,0))):=by rcases hk with rfl|rfl|rfl<;>rfl
 have he:bD (k,N) [a,b] sg=o5 (l7 (J5 0 N) (some (J5 N 5)) (some false)) λx=>l7 (D7 x) (some ((0,0),3)) (o5 (pF k [a,b]) λx=>l7 (D7 x.2) (some ((0,0),8)) (some (x.1,0))):=by
  rcases hk with rfl|rfl|rfl <;>
   (show o5 (o5 (oh N) λx=>l7 (D7 x) (some (Sum.inr (((0:Int),(0:Int)),(3:Int)))) (some (.inl ((0:Int),(0:Int))))) _=_
    unfold oh;cases J5 0 N<;>cases J5 N 5<;>rfl)
 rw[hr,he];cases J5 0 N
 .exact sS (c:=3) J8 rfl rfl
 cases J5 N 5
 .exact sS (c:=3) J8 rfl rfl
 rcases hk with rfl|rfl|rfl<;>rcases ha with rfl|rfl|rfl|rfl|rfl|⟨e,rfl⟩<;>rcases hb with rfl|rfl|rfl|rfl|rfl|⟨f,rfl⟩ <;>
  first
  |exact sS (c:=8) J8 rfl rfl
  |exact nok (VT.lit (k:=2) l9) rfl rfl
  |exact nok (VT.lit (k:=3) l9) rfl rfl
  |exact nok (VT.lit (k:=4) l9) rfl rfl
theorem a8y(hk:k=11\/k=12\/k=17\/k=18\/k=19\/k=20\/k=21\/k=22)(ha:VT a):vI (k,N) [a,b] sg:=by
 have hm:kZ k=some false/\iy k=some false:=by rcases hk with rfl|rfl|rfl|rfl|rfl|rfl|rfl|rfl<;>exact⟨rfl,rfl⟩
 refine Ui hm.1 hm.2 ?_;have hr:RR (k,0) [a,b] sg=o5 (yQ k a b) λx=>l7 (D7 x.2) (some ((0,0),8)) (some (x.1,0)):=by rcases hk with rfl|rfl|rfl|rfl|rfl|rfl|rfl|rfl<;>rfl
 have he:bD (k,0) [a,b] sg=o5 (pF k [a,b]) λx=>l7 (D7 x.2) (some ((0,0),8)) (some (x.1,0)):=by rcases hk with rfl|rfl|rfl|rfl|rfl|rfl|rfl|rfl<;>rfl
 rw[hr,he];unfold yQ pF;simp only[show F9 [a,b] 0=some a from rfl,show F9 [a,b] 1=some b from rfl,o8,yR,uk,jB,nO];cases h1:x8 a.1 b.1
 .rcases hk with rfl|rfl|rfl|rfl|rfl|rfl|rfl|rfl<;>exact sS (c:=8) J8 rfl rfl
 cases h2:x8 a.2 b.2
 .rcases hk with rfl|rfl|rfl|rfl|rfl|rfl|rfl|rfl<;>exact sS (c:=8) J8 rfl rfl
 have ha' :=ha;rcases hk with rfl|rfl|rfl|rfl|rfl|rfl|rfl|rfl<;>rcases ha with rfl|rfl|rfl|rfl|rfl|⟨e,rfl⟩ <;>
  first
  |exact nok ha' rfl rfl
  |exact nok (VT.lit (k:=1) l9) rfl rfl
  |exact sS (c:=8) J8 rfl rfl
theorem b4Z{a b c:Int×Int}(ha:VT a)(hb:VT b):vI (26,N) [a,b,c] sg:=by
 refine Ui rfl rfl ?_;have hr:RR (26,0) [a,b,c] sg=l7 (x8 a.1 1) (l7 (D7 (aj (x8 b.1 c.1) (x8 b.2 c.2))) (some ((0,0),8)) (some (b,0))) (some ((0,0),8)):=rfl;have he:bD (26,0) [a,b,c] sg=o5 (pF 26 [a,b,c]) λx=>l7 (D7 x.2) (some ((0,0),8)) (some (x.1,0)):=rfl;have he2:pF 26 [a,b,c]=o5 (l7 (x8 a.1 1) (some (Sum.inr (b,aj (x8 b.1 c.1) (x8 b.2 c.2)))) (some (Sum.inr (b,false)))) λ(o:zC⊕zC×Bool)=>U6 o (λ(x:zC)=>some ((0,0),false)) λ(r:zC×Bool)=>some r:=rfl;rw[hr,he,he2];cases x8 a.1 1
 .exact sS (c:=8) J8 rfl rfl
 cases x8 b.1 c.1
 .exact sS (c:=8) J8 rfl rfl
 cases x8 b.2 c.2
 .exact sS (c:=8) J8 rfl rfl
 .exact nok hb rfl rfl
theorem a2O(ha:VT a):vI (33,N) [a] sg:=by
 refine NJ rfl rfl ?_;have he:bD (33,N) [a] sg=uH (33,N) a sg:=IX _ _;have hr:RR (33,N) [a] sg=o5 (l7 (J5 0 N) (some (D9 N (o9 sg.2.1))) (some false)) λx=>l7 (D7 x) (some ((0,0),6)) (o5 (vT (33,N) a sg) λx=>l7 (D7 x.2) (some ((0,0),8)) (some (x.1,0))):=rfl;have hs:vT (33,N) a sg=o5 (F9 sg.2.1 N) λ(x:bJ)=>o5 (dP x.2.1 sg.1) λ(x_1:Bool)=>l7 x_1 (o5 (dP x.2.2.1 sg.1) λ(x_2:Bool)=>l7 x_2 (some (x.2.2.1,aj (x8 a.1 x.2.1.1) (x8 a.2 x.2.1.2))) (some (x.2.2.1,false))) (some (x.2.2.1,false)):=rfl;rw[he,hr,hs];unfold uH;simp only[x8,Int.reduceEq,decide_false,o6,o8,J7,nP N 0,Af (o9 sg.2.1) N];cases h0:J5 0 N
 .exact sS (c:=6) J8 rfl rfl
 cases h1:D9 N (o9 sg.2.1)
 .exact sS (c:=6) J8 rfl rfl
 rw[qc]at h0;rw[kz]at h1;obtain⟨x,hx,_⟩:=mV h0 h1;simp only[o8,J7,jq,o6,hx,zl,jF,aB,o7];cases vty x.2.1 sg.1
 .exact sS (c:=8) J8 rfl rfl
 cases hv:vty x.2.2.1 sg.1
 .exact sS (c:=8) J8 rfl rfl
 simp only[D8,o6,o7,o8];cases aj (decide (a.1=x.2.1.1)) (decide (a.2=x.2.1.2))
 .exact sS (c:=8) J8 rfl rfl
 .exact nok (Ou hv) rfl rfl
theorem Zv(hN:kL N)(ha:VT a):vI (34,N) [a] sg:=by
 refine NJ rfl rfl ?_;have he:bD (34,N) [a] sg=uH (34,N) a sg:=IX _ _;have hr:RR (34,N) [a] sg=o5 (l7 (J5 0 N) (some (J5 (dM N 8) 5)) (some false)) λx=>l7 (D7 x) (some ((0,0),3)) (l7 (D7 (D9 (dD .i64 N 8) (o9 sg.2.1))) (some ((0,0),6)) (o5 (vT (34,N) a sg) λx=>l7 (D7 x.2) (some ((0,0),8)) (some (x.1,0)))):=rfl;have hs:vT (34,N) a sg=o5 (F9 sg.2.1 (dD .i64 N 8)) λ(x:bJ)=>l7 (x8 a.1 3) (l7 (aj (x8 x.2.1.1 3) (x8 x.2.1.2 0)) (some (a,aj (x8 x.2.2.1.1 4) (x8 x.2.2.1.2 0))) (some (a,false))) (some (a,false)):=rfl;rw[he,hr,hs];unfold uH oh;by_cases h0:0<=N
 case neg=>rw[Y4 (show N<0 by omega),S9 (show N<0 by omega)];exact sS (c:=3) J8 rfl rfl
 have hq:dD .i64 N 8=N / 8:=by rw[BR (by rw[jQ h0];unfold kL at*;omega),jQ h0]
 rw[X5 h0,J9 h0,hq,zG h0];simp only[x8,Int.reduceEq,decide_true,o7,o6,X5 (show 0<=N % 8 by omega),o8];cases J5 (N % 8) 5
 .exact sS (c:=3) J8 rfl rfl
 simp only[D8,o6,o8,J7,J9 (show 0<=N / 8 by omega),Af];cases h1:D9 (N / 8) (o9 sg.2.1)
 .exact sS (c:=6) J8 rfl rfl
 rw[kz]at h1;obtain⟨x,hx,_⟩:=mV (show 0<=N / 8 by omega) h1;simp only[hx,jq,o6,o8,J7,zl,D8];obtain⟨nm,⟨k1,k2⟩,⟨v1,v2⟩,rows⟩:=x;dsimp only;by_cases hK:k1=3/\k2=0
 .obtain⟨rfl,rfl⟩:=hK;by_cases hV:v1=4/\v2=0
  .obtain⟨rfl,rfl⟩:=hV;rcases ha with rfl|rfl|rfl|rfl|rfl|⟨e,rfl⟩ <;>
    first
    |exact nok (VT.lit (k:=3) l9) rfl rfl
    |exact sS (c:=8) J8 rfl rfl
  .have hE:vty (v1,v2) sg.1=true->v1≠4:=λhv h=>by
    subst h;rcases Ou hv with h|h|h|h|h|⟨e,h⟩<;>cases h;exact hV ⟨rfl,rfl⟩
   have hR:aj (decide (v1=4)) (decide (v2=0))=false:=by
    by_cases h1:v1=4
    .have:v2≠0:=λh2=>hV ⟨h1,h2⟩;simp[aj,h1,this]
    .simp[aj,h1]
   rw[hR];cases hv:vty (v1,v2) sg.1
   .rcases ha with rfl|rfl|rfl|rfl|rfl|⟨e,rfl⟩<;>exact sS (c:=8) J8 rfl rfl
   .have h4:=hE hv;rw[show decide (v1=4)=false by simp[h4]];rcases ha with rfl|rfl|rfl|rfl|rfl|⟨e,rfl⟩<;>exact sS (c:=8) J8 rfl rfl
 .have hR:aj (decide (k1=3)) (decide (k2=0))=false:=by
   by_cases h1:k1=3
   .have:k2≠0:=λh2=>hK ⟨h1,h2⟩;simp[aj,h1,this]
   .simp[aj,h1]
  rw[hR];cases hv:vty (k1,k2) sg.1
  .rcases ha with rfl|rfl|rfl|rfl|rfl|⟨e,rfl⟩<;>exact sS (c:=8) J8 rfl rfl
  cases hw:vty (v1,v2) sg.1
  .rcases ha with rfl|rfl|rfl|rfl|rfl|⟨e,rfl⟩<;>exact sS (c:=8) J8 rfl rfl
  have h3:k1≠3:=λh=>by subst h;rcases Ou hv with h|h|h|h|h|⟨e,h⟩<;>cases h;exact hK ⟨rfl,rfl⟩
  simp only[show decide (k1=3)=false by simp[h3],D8,o6,o7,o8];cases aj (decide (a.1=k1)) (decide (a.2=k2))
  .cases decide (a.1=3)<;>exact sS (c:=8) J8 rfl rfl
  .cases decide (a.1=3)<;>exact sS (c:=8) J8 rfl rfl
theorem a0H(n:Int×Int)(hN:kL n.2)(ops:List (Int×Int))(hv:∀t∈ops,VT t)(hl:o9 ops=arF n.1):vI n ops sg:=by
 obtain⟨op,N⟩:=n;dsimp only at hN hl;have hr:1<=op/\op<=39:=by
  by_cases h:1<=op/\op<=39
  .exact h
  .have:arF op=-1:=by unfold arF;rw[a7p h];rfl
   rw[this]at hl;simp[o9]at hl
 have hc:op=1\/op=2\/op=3\/op=4\/op=5\/op=6\/op=7\/op=8\/op=9\/op=10\/op=11\/op=12\/op=13\/op=14\/op=15\/op=16\/op=17\/op=18\/op=19\/op=20\/op=21\/op=22\/op=23\/op=24\/op=25\/op=26\/op=27\/op=28\/op=29\/op=30\/op=31\/op=32\/op=33\/op=34\/op=35\/op=36\/op=37\/op=38\/op=39:=l9;have L0:arF op=0->ops=[]:=λh=>by rw[h]at hl;simp only[o9]at hl;exact O7.1 l9
 have L1:arF op=1->∃a,ops=[a]/\VT a:=λh=>by
  rw[h]at hl;simp only[o9]at hl;match ops,hl,hv with
  |[a],_,hv=>exact⟨a,rfl,hv a A7⟩|[],hl,_=>simp at hl|a::b::r,hl,_=>simp at hl;omega
 have L2:arF op=2->∃a b,ops=[a,b]/\VT a/\VT b:=λh=>by
  rw[h]at hl;simp only[o9]at hl;match ops,hl,hv with
  |[a,b],_,hv=>exact⟨a,b,rfl,hv a A7,hv b A7⟩|[],hl,_=>simp at hl|[a],hl,_=>simp at hl|a::b::c::r,hl,_=>simp at hl;omega
 have L3:arF op=3->∃a b c,ops=[a,b,c]/\VT a/\VT b:=λh=>by
  rw[h]at hl;simp only[o9]at hl;match ops,hl,hv with
  |[a,b,c],_,hv=>exact⟨a,b,c,rfl,hv a A7,hv b A7⟩|[],hl,_=>simp at hl|[a],hl,_=>simp at hl|[a,b],hl,_=>simp at hl|a::b::c::d::r,hl,_=>simp at hl;omega
 rcases hc with rfl|rfl|rfl|rfl|rfl|rfl|rfl|rfl|rfl|rfl|rfl|rfl|rfl|rfl|rfl|rfl|rfl|rfl|rfl|rfl|rfl|rfl|rfl|rfl|rfl|rfl|rfl|rfl|rfl|rfl|rfl|rfl|rfl|rfl|rfl|rfl|rfl|rfl|rfl <;>
  first
  |(rw[L0 rfl];first|exact b0Z N sg l9|exact a8w N sg hN|exact b5a N sg|exact b0X N sg|exact a8v N sg|exact a4Q N sg|exact b1a N sg l9)
  |(obtain⟨a,rfl,ha⟩:=L1 rfl;first|exact b5b N sg l9 ha|exact a2O N sg ha|exact Zv N sg hN ha)
  |(obtain⟨a,b,rfl,ha,hb⟩:=L2 rfl;first|exact b0W N sg l9 ha hb|exact a8x N sg l9 ha hb|exact a8y N sg l9 ha)
  |(obtain⟨a,b,c,rfl,ha,hb⟩:=L3 rfl;exact b4Z N sg ha hb)
end
end
section
def XT.wf:XT->Prop
 | .l0 n=>arF n.1=0| .l1 n a=>arF n.1=1/\a.wf| .l2 n a b=>arF n.1=2/\a.wf/\b.wf| .l3 n a b c=>arF n.1=3/\a.wf/\b.wf/\c.wf
theorem b5i{n:Int×Int}{ts ts' :List XT}(h:push n ts= .inr ts')(hw:∀t∈ts,t.wf):∀t∈ts',t.wf:=by
 unfold push at h;split at h
 .cases h;intro t ht;rcases D5.1 ht with rfl|ht
  .assumption
  .exact hw t ht
 split at h
 .split at h
  .cases h;intro t ht;rcases D5.1 ht with rfl|ht
   .exact⟨by assumption,hw _ A7⟩
   .exact hw t (by simp[ht])
  .cases h
 split at h
 .split at h
  .cases h;intro t ht;rcases D5.1 ht with rfl|ht
   .exact⟨by assumption,hw _ A7,hw _ A7⟩
   .exact hw t (by simp[ht])
  .cases h
 split at h
 .split at h
  .cases h;intro t ht;rcases D5.1 ht with rfl|ht
   .exact⟨by assumption,hw _ A7,hw _ A7,hw _ A7⟩
   .exact hw t (by simp[ht])
  .cases h
 .cases h
theorem a2Y:∀(es:List (Int×Int)) (i:Nat) (ts ts' :List XT),wY i es ts= .inr ts' ->(∀t∈ts,t.wf)->∀t∈ts',t.wf
 |[],i,ts,ts',h,hw=>by cases h;exact hw|n::es,i,ts,ts',h,hw=>by
  unfold wY at h;cases hp:push n ts with
  |inl c=>rw[hp]at h;cases h|inr t2=>
   rw[hp]at h;simp only at h;split at h
   .cases h
   .exact a2Y es (i+1) t2 ts' h (b5i hp hw)
variable {e:List (Int×Int)}
theorem PH{t:XT}(h:mX e= .inr t):t.wf:=by
 unfold mX at h;split at h
 .cases h
 split at h
 .cases h
 split at h
 .cases h
 .rename_i t' hp;cases h;exact a2Y e 0 [] [t] hp A7 t A7
 .cases h
def UD(n:Int×Int)(ops:List (Int×Int))(sg:L8):(Int×Int)×Int:=(yP n ops sg).getD ((0,0),0)
def GZ(sg:L8)(n:Int×Int)(ops:List (Int×Int))(i:Nat):(Int×Int)⊕(Int×Int):=if(UD n ops sg).2=0 then .inr (UD n ops sg).1 else .inl ((i:Int),(UD n ops sg).2)
def lK(sg:L8):XT->Nat->(Int×Int)⊕(Int×Int)
 | .l0 n,o=>GZ sg n [] o
 | .l1 n a,o=>match lK sg a o with
  | .inl x=> .inl x| .inr ta=>GZ sg n [ta] (o+a.size)
 | .l2 n a b,o=>match lK sg a o with
  | .inl x=> .inl x
  | .inr ta=>match lK sg b (o+a.size)with
   | .inl x=> .inl x| .inr tb=>GZ sg n [ta,tb] (o+a.size+b.size)
 | .l3 n a b c,o=>match lK sg a o with
  | .inl x=> .inl x
  | .inr ta=>match lK sg b (o+a.size)with
   | .inl x=> .inl x
   | .inr tb=>match lK sg c (o+a.size+b.size)with
    | .inl x=> .inl x| .inr tc=>GZ sg n [ta,tb,tc] (o+a.size+b.size+c.size)
variable {i:Nat}
theorem RY{sg:L8}{n:Int×Int}{ops:List (Int×Int)}{t:Int×Int}(hN:kL n.2)(hv:∀t∈ops,VT t)(hl:o9 ops=arF n.1)(h:GZ sg n ops i= .inr t):VT t:=by
 obtain⟨r,h1,h2,h3⟩:=a0H sg n hN ops hv hl;unfold GZ at h;split at h
 .rename_i h0;cases h;have e:UD n ops sg=r:=by unfold UD;rw[h1];rfl
  rw[e]at h0 ⊢;exact h3 h0
 .cases h
section
variable (e:List (Int×Int)) (sg:L8) (z:Int×Int)
def b6j(f:(Int×Int)×List (Int×Int)×Int->Option (Out ((Int×Int)×List (Int×Int)×Int) ((Int×Int)×List (Int×Int)) ((Int×Int)×Int×Int))):Prop:=
 ∀(i:Nat) (n:Int×Int) (s ops:List (Int×Int)),e[i]? =some n->i<=100->o9 ops=arF n.1->(∀t∈ops,VT t)->s.length+ops.length<=100->
  f (z,s++ops,(i:Int))=some (match GZ sg n ops i with| .inl x=> .rt ((0,0),x)| .inr t=> .nx (z,s++[t],((i+1:Nat):Int)))
theorem a9v{f:(Int×Int)×List (Int×Int)×Int->Option (Out ((Int×Int)×List (Int×Int)×Int) ((Int×Int)×List (Int×Int)) ((Int×Int)×Int×Int))}
  (he:e.length<=48) (hI:∀n∈e,kL n.2) (hs:b6j e sg z f):∀(t:XT),t.wf->∀(pre suf s:List (Int×Int)) (k:Nat),e=pre++t.post++suf->s.length<=pre.length->
  pW f (k+t.size) (z,s,(pre.length:Int))=(match lK sg t pre.length with| .inl x=>some (.inr ((0,0),x))| .inr r=>pW f k (z,s++[r],((pre.length+t.size:Nat):Int)))/\∀r,lK sg t pre.length= .inr r->VT r:=by
 intro t;have step:∀(i k:Nat) (n:Int×Int) (s ops:List (Int×Int)),e[i]? =some n->o9 ops=arF n.1->(∀t∈ops,VT t)->s.length+ops.length<=100->
   pW f (k+1) (z,s++ops,(i:Int))=(match GZ sg n ops i with| .inl x=>some (.inr ((0,0),x))| .inr r=>pW f k (z,s++[r],((i+1:Nat):Int))):=by
  intro i k n s ops h1 h2 h3 h4;rw[pW,hs i n s ops h1 (by have:=(X6.1 h1).1;omega) h2 h3 h4];cases GZ sg n ops i<;>rfl
 have getn:∀(pre suf:List (Int×Int)) (n:Int×Int),e=pre++[n]++suf->e[pre.length]? =some n:=by intro pre suf n h;rw[h,F8,I4 l9,bT];rfl
 have mem:∀(i:Nat) (n:Int×Int),e[i]? =some n->kL n.2:=λi n h=>hI n (iO h);induction t with
 |l0 n=>
  intro hw pre suf s k hd hl;have hn:=getn pre suf n hd;have hlen:pre.length<e.length:=(X6.1 hn).1;have hz:o9 ([]:List (Int×Int))=arF n.1:=by rw[show arF n.1=0 from hw];rfl
  have h:=step pre.length k n s [] hn hz A7 V6;rw[G9]at h;exact⟨h,λr hr=>RY (mem _ n hn) A7 hz hr⟩
 |l1 n a iha=>
  intro hw pre suf s k hd hl;simp only[XT.post,F8]at hd;have hpa:(pre++a.post).length=pre.length+a.size:=by simp[XT.post_len]
  have hn:=getn (pre++a.post) suf n (by simpa using hd);rw[hpa]at hn;have hlen:=(X6.1 hn).1;obtain⟨i1,i2⟩:=iha hw.2 pre ([n]++suf) s (k+1) (by simpa using hd) hl;simp only[XT.size,lK];rw[show k+(a.size+1)=(k+1)+a.size by omega,i1];cases ht:lK sg a pre.length with
  |inl x=>exact⟨rfl,λr hr=>by cases hr⟩|inr ta=>
   have hz:o9 [ta]=arF n.1:=by rw[show arF n.1=1 from hw.1];rfl
   have hv:∀t∈[ta],VT t:=by simpa using i2 ta ht
   exact⟨step _ k n s [ta] hn hz hv V6,λr hr=>RY (mem _ n hn) hv hz hr⟩
 |l2 n a b iha ihb=>
  intro hw pre suf s k hd hl;simp only[XT.post,F8]at hd;have hpa:(pre++a.post).length=pre.length+a.size:=by simp[XT.post_len]
  have hpb:(pre++a.post++b.post).length=pre.length+a.size+b.size:=by simp[XT.post_len];omega
  have hn:=getn (pre++a.post++b.post) suf n (by simpa using hd);rw[hpb]at hn;have hlen:=(X6.1 hn).1;obtain⟨i1,i2⟩:=iha hw.2.1 pre (b.post++[n]++suf) s (k+1+b.size) (by simpa using hd) hl;simp only[XT.size,lK];rw[show k+(a.size+b.size+1)=(k+1+b.size)+a.size by omega,i1];cases ht:lK sg a pre.length with
  |inl x=>exact⟨rfl,λr hr=>by cases hr⟩|inr ta=>
   have hsa:=a.size_pos;obtain⟨j1,j2⟩:=ihb hw.2.2 (pre++a.post) ([n]++suf) (s++[ta]) (k+1) (by simpa using hd) (by simp[XT.post_len];omega);rw[hpa]at j1 j2;simp only;rw[j1];cases hu:lK sg b (pre.length+a.size)with
   |inl x=>exact⟨rfl,λr hr=>by cases hr⟩|inr tb=>
    have hz:o9 [ta,tb]=arF n.1:=by rw[show arF n.1=2 from hw.1];rfl
    have hv:∀t∈[ta,tb],VT t:=by simpa using ⟨i2 ta ht,j2 tb hu⟩
    have:=step _ k n s [ta,tb] hn hz hv V6;simp only[F8,Z5,H8];rw[show pre.length+(a.size+b.size+1)=pre.length+a.size+b.size+1 by omega];exact⟨this,λr hr=>RY (mem _ n hn) hv hz hr⟩
 |l3 n a b c iha ihb ihc=>
  intro hw pre suf s k hd hl;simp only[XT.post,F8]at hd;have hpa:(pre++a.post).length=pre.length+a.size:=by simp[XT.post_len]
  have hpb:(pre++a.post++b.post).length=pre.length+a.size+b.size:=by simp[XT.post_len];omega
  have hpc:(pre++a.post++b.post++c.post).length=pre.length+a.size+b.size+c.size:=by simp[XT.post_len];omega
  have hn:=getn (pre++a.post++b.post++c.post) suf n (by simpa using hd);rw[hpc]at hn;have hlen:=(X6.1 hn).1;obtain⟨i1,i2⟩:=iha hw.2.1 pre (b.post++(c.post++([n]++suf))) s (k+1+c.size+b.size) (by simpa using hd) hl;simp only[XT.size,lK];rw[show k+(a.size+b.size+c.size+1)=(k+1+c.size+b.size)+a.size by omega,i1];have hsa:=a.size_pos;have hsb:=b.size_pos;cases ht:lK sg a pre.length with
  |inl x=>exact⟨rfl,λr hr=>by cases hr⟩|inr ta=>
   obtain⟨j1,j2⟩:=ihb hw.2.2.1 (pre++a.post) (c.post++([n]++suf)) (s++[ta]) (k+1+c.size) (by simpa using hd) (by simp[XT.post_len];omega);rw[hpa]at j1 j2;simp only;rw[j1];cases hu:lK sg b (pre.length+a.size)with
   |inl x=>exact⟨rfl,λr hr=>by cases hr⟩|inr tb=>
    obtain⟨q1,q2⟩:=ihc hw.2.2.2 (pre++a.post++b.post) ([n]++suf) (s++[ta]++[tb]) (k+1) (by simpa using hd) (by simp[XT.post_len];omega);rw[hpb]at q1 q2;simp only;rw[q1];cases hc:lK sg c (pre.length+a.size+b.size)with
    |inl x=>exact⟨rfl,λr hr=>by cases hr⟩|inr tc=>
     have hz:o9 [ta,tb,tc]=arF n.1:=by rw[show arF n.1=3 from hw.1];rfl
     have hv:∀t∈[ta,tb,tc],VT t:=by simpa using ⟨i2 ta ht,j2 tb hu,q2 tc hc⟩
     have:=step _ k n s [ta,tb,tc] hn hz hv V6;simp only[F8,Z5,H8];rw[show pre.length+(a.size+b.size+c.size+1)=pre.length+a.size+b.size+c.size+1 by omega];exact⟨this,λr hr=>RY (mem _ n hn) hv hz hr⟩
end
def nY(e:List (Int×Int))(sg:L8):(Int×Int)×Int×Int:=match mX e with
 | .inl x=>((0,0),x)
 | .inr t=>match lK sg t 0 with
  | .inl x=>((0,0),x)| .inr r=>(r,0,0)
variable {α:Type}
theorem Za(s ops:List α)(k:Int)(hk:o9 ops=k)(h:s.length+ops.length<=100):
  I7 .i64 (o9 (s++ops)) k=(s.length:Int)/\qQ (s.length:Int) (o9 (s++ops)) (o9 (s++ops))=true/\oD (s++ops) (U9 (s.length:Int)) (U9 (o9 (s++ops)))=ops
  /\qQ 0 (s.length:Int) (o9 (s++ops))=true/\oD (s++ops) (U9 0) (U9 (s.length:Int))=s:=by
 subst hk;refine⟨?_,?_,?_,?_,?_⟩
 .rw[P8 (by unfold kL;simp[o9];omega)];simp[o9]
 .simp[qQ,o9];omega
 .show((s++ops).take (((s++ops).length:Nat):Int).toNat).drop s.length=ops;rw[U2,aA,List.drop_left]
 .simp[qQ,o9];omega
 .simp[oD,U9]
theorem YZ{sg:L8}{f:(Int×Int)×List (Int×Int)×Int->Option (Out ((Int×Int)×List (Int×Int)×Int) ((Int×Int)×List (Int×Int)) ((Int×Int)×Int×Int))}
  (hI:∀n∈e,kL n.2) (hs:b6j e sg (0,0) f) (hend:∀s,f ((0,0),s,(e.length:Int))=some (.ex ((0,0),s))) (hcode:∀x,mX e= .inl x->x.2≠0):
  l7 (D7 (x8 (xA e).2.2 0)) (some ((((0:Int),(0:Int)),(xA e).2):(Int×Int)×Int×Int)) (o5 (U1 f (((0:Int),(0:Int)),([]:List (Int×Int)),(0:Int))) λ(o:(Int×Int)×List (Int×Int)⊕(Int×Int)×Int×Int)=>
   U6 o (λ(y:(Int×Int)×List (Int×Int))=>o5 (F9 y.2 0) λ(x:Int×Int)=>o5 (U0 y.2 (U9 0)) λ(x:Int×Int)=>some (x,0,0)) λ(r:(Int×Int)×Int×Int)=>some r)=some (nY e sg):=by
 unfold xA nY;cases h:mX e with
 |inl x=>simp only[J6 (hcode x h),aB,o7]|inr t=>
  obtain⟨hp,h48⟩:=Jc h;have hw:=PH h;obtain⟨l1,_⟩:=a9v e sg (0,0) h48 hI hs t hw [] [] [] (jU -t.size) (by simpa using hp) A7;have hsz:e.length=t.size:=by rw[hp,XT.post_len]
  have hlo:U1 f (((0:Int),(0:Int)),([]:List (Int×Int)),(0:Int))=pW f (jU -t.size+t.size) ((0,0),[],(([]:List (Int×Int)).length:Int)):=by unfold U1;rw[Nat.sub_add_cancel (by unfold jU;omega)];rfl
  simp only[O8 (rfl:(0:Int)=0),D8,o6];rw[hlo,l1];simp only[eF,bU];cases lK sg t 0 with
  |inl x=>rfl|inr r=>obtain⟨k,hk⟩:∃k,jU -t.size=k+1:=⟨jU -t.size -1,by unfold jU;omega⟩;simp only[H8];rw[hk,pW,←hsz,hend];rfl
theorem EK{x:Int×Int}(h:mX e= .inl x):x.2≠0:=by
 have key:∀(es:List (Int×Int)) (i:Nat) (ts:List XT) (x:Int×Int),wY i es ts= .inl x->x.2≠0:=by
  intro es;induction es with
  |nil=>intro i ts x h;cases h|cons n es ih=>
   intro i ts x h;unfold wY at h;cases hp:push n ts with
   |inl c=>
    rw[hp]at h;cases h;show c≠0;unfold push at hp
    (repeat' split at hp)<;>first|(cases hp;done)|(cases hp;decide)
   |inr t2=>
    rw[hp]at h;simp only at h;split at h
    .cases h;show(16:Int)≠0;decide
    .exact ih _ _ _ h
 unfold mX at h;split at h
 .cases h;show(4:Int)≠0;decide
 split at h
 .cases h;show(5:Int)≠0;decide
 split at h
 .rename_i y hp;cases h;exact key _ _ _ _ hp
 .cases h
 .cases h;show(4:Int)≠0;decide
theorem a5k(sg:L8)(hI:∀n∈e,kL n.2):FN e sg=some (nY e sg):=by
 unfold FN;rw[Ju,o8];refine YZ hI (λi n s ops hn hi2 hl hv hlen=>?_) (λs=>?_) (λx h=>EK h)
 .obtain⟨r,h1,h2,h3⟩:=a0H sg n (hI n (iO hn)) ops hv hl;obtain⟨v1,v2,v3,v4,v5⟩:=Za s ops _ hl hlen;have e' :UD n ops sg=r:=by unfold UD;rw[h1];rfl
  have hi:=(X6.1 hn).1;simp only[H6 hn,o7,E5,hn,o8,Yv,v1,v2,v3,v4,v5,h1];unfold GZ;rw[e'];by_cases h0:r.2=0
  .rw[if_pos h0,O8 h0];simp only[D8,o6];rw[iR _ l9,o8,Y1 l9]
  .rw[if_neg h0,J6 h0];rfl
 .rw[G6];rfl
theorem a9u(sg:L8)(hI:∀n∈e,kL n.2):Iz e sg=some (nY e sg):=by
 unfold Iz;rw[Tm,o8];refine YZ hI (λi n s ops hn hi2 hl hv hlen=>?_) (λs=>?_) (λx h=>EK h)
 .obtain⟨r,h1,h2,h3⟩:=a0H sg n (hI n (iO hn)) ops hv hl;obtain⟨v1,v2,v3,v4,v5⟩:=Za s ops _ hl hlen;have e' :UD n ops sg=r:=by unfold UD;rw[h1];rfl
  have hi:=(X6.1 hn).1;simp only[H6 hn,o7,E5,hn,o8,WT,v1,v2,v3,v4,v5];unfold GZ;rw[e'];unfold EN at h2;have fin:bD n ops sg=some r->(o5 (bD n ops sg) λ(x_3:zC×Int)=>l7 (D7 (x8 x_3.2 0)) (some (Out.rt ((((0:Int),(0:Int)),((i:Int),x_3.2)):(Int×Int)×Int×Int)))
    (o5 (dG s [x_3.1]) λ(x_4:List zC)=>some (Out.nx (((0:Int),(0:Int)),x_4,x9 .i64 (i:Int) 1))))=
    some (match if r.2=0 then(.inr r.1:(Int×Int)⊕(Int×Int))else .inl ((i:Int),r.2)with| .inl x=>Out.rt ((0,0),x)| .inr t=>(Out.nx ((0,0),s++[t],((i+1:Nat):Int)):Out ((Int×Int)×List (Int×Int)×Int) ((Int×Int)×List (Int×Int)) ((Int×Int)×Int×Int))):=by
   intro hr;rw[hr,o8];by_cases h0:r.2=0
   .rw[if_pos h0,O8 h0];simp only[D8,o6];rw[iR _ l9,o8,Y1 l9]
   .rw[if_neg h0,J6 h0];rfl
  cases hz:x8 n.2 0
  .rw[hz]at h2;simp only[aB,o7]at h2 ⊢;cases hu:kZ n.1 with
   |none=>rw[hu]at h2;cases h2|some u=>
    rw[hu]at h2;simp only[o8]at h2 ⊢;cases u
    .simp only[aB,o7]at h2 ⊢;cases h2;rfl
    .exact fin h2
  .rw[hz]at h2;exact fin h2
 .rw[G6];rfl
section
variable {α β σ ε ρ:Type}
theorem lU(l:List α)(G:β->α->β)(mk:β->Int->σ)(fin:β->ε)(Inv:Nat->β->Prop){f:σ->Option (σ⊕ε)}{b:β}(hl:l.length<=1000000)(h0:Inv 0 b)
  (hin:∀(i:Nat) (a:α) (b:β),l[i]? =some a->i<=1000000->Inv i b->f (mk b (i:Int))=some (.inl (mk (G b a) ((i+1:Nat):Int)))/\Inv (i+1) (G b a))
  (hend:∀b,Inv l.length b->f (mk b (l.length:Int))=some (.inr (fin b))):
  Y9 f (mk b 0)=some (fin (l.foldl G b))/\Inv l.length (l.foldl G b):=by
 have key:∀(n i:Nat) (b:β),i<=l.length->l.length -i<n->Inv i b->uh f n (mk b (i:Int))=some (fin ((l.drop i).foldl G b))/\Inv l.length ((l.drop i).foldl G b):=by
  intro n;induction n with
  |zero=>intro i b _ h _;omega|succ n ih=>
   intro i b hi hn hI;unfold uh;by_cases h:i<l.length
   .have e:=eG h;obtain⟨h1,h2⟩:=hin i _ b e l9 hI;rw[h1,eP h];exact ih (i+1) _ l9 l9 h2
   .have:i=l.length:=l9;subst this;rw[hend b hI,Dq];exact⟨rfl,hI⟩
 have:=key jU 0 b l9 (by unfold jU;omega) h0;exact this
theorem aZ{γ:Type}(l:List α)(G:β->α->β)(mk:β->Int->σ)(fin:β->ε)(Inv:Nat->β->Prop)(b:β){f:σ->Option (σ⊕ε)}{K:ε->Option γ}{r:Option γ}(hl:l.length<=1000000)(h0:Inv 0 b)
  (hin:∀(i:Nat) (a:α) (b:β),l[i]? =some a->i<=1000000->Inv i b->f (mk b (i:Int))=some (.inl (mk (G b a) ((i+1:Nat):Int)))/\Inv (i+1) (G b a))
  (hend:∀b,Inv l.length b->f (mk b (l.length:Int))=some (.inr (fin b))) (hk:Inv l.length (l.foldl G b)->K (fin (l.foldl G b))=r):o5 (Y9 f (mk b 0)) K=r:=by
 obtain⟨h1,h2⟩:=lU l G mk fin Inv hl h0 hin hend;rw[h1];exact hk h2
def ik(G:β->α->β⊕ρ):List α->β->β⊕ρ
 |[],b=> .inl b
 |a::l,b=>match G b a with| .inl b' =>ik G l b'| .inr r=> .inr r
theorem Qx(l:List α)(G:β->α->β⊕ρ)(mk:β->Int->σ)(fin:β->ε)(Inv:Nat->β->Prop){f:σ->Option (Out σ ε ρ)}{b:β}(hl:l.length<=1000000)(h0:Inv 0 b)
  (hin:∀(i:Nat) (a:α) (b:β),l[i]? =some a->i<=1000000->Inv i b->f (mk b (i:Int))=some (match G b a with| .inl b' => .nx (mk b' ((i+1:Nat):Int))| .inr r=> .rt r)/\∀b',G b a= .inl b' ->Inv (i+1) b')
  (hend:∀b,Inv l.length b->f (mk b (l.length:Int))=some (.ex (fin b))):
  U1 f (mk b 0)=some (match ik G l b with| .inl b' => .inl (fin b')| .inr r=> .inr r)/\∀b',ik G l b= .inl b' ->Inv l.length b' :=by
 have key:∀(n i:Nat) (b:β),i<=l.length->l.length -i<n->Inv i b->pW f n (mk b (i:Int))=some (match ik G (l.drop i) b with| .inl b' => .inl (fin b')| .inr r=> .inr r)/\∀b',ik G (l.drop i) b= .inl b' ->Inv l.length b' :=by
  intro n;induction n with
  |zero=>intro i b _ h _;omega|succ n ih=>
   intro i b hi hn hI;unfold pW;by_cases h:i<l.length
   .have e:=eG h;obtain⟨h1,h2⟩:=hin i _ b e l9 hI;rw[h1,eP h];unfold ik;cases hg:G b l[i]with
    |inr r=>exact⟨rfl,λb' hb=>by cases hb⟩|inl b' =>exact ih (i+1) _ l9 l9 (h2 b' hg)
   .have:i=l.length:=l9;subst this;rw[hend b hI,Dq];exact⟨rfl,λb' hb=>by cases hb;exact hI⟩
 have:=key jU 0 b l9 (by unfold jU;omega) h0;exact this
theorem lV{γ:Type}(l:List α)(G:β->α->β⊕ρ)(mk:β->Int->σ)(fin:β->ε)(Inv:Nat->β->Prop)(b:β){f:σ->Option (Out σ ε ρ)}{K:ε⊕ρ->Option γ}{r:Option γ}(hl:l.length<=1000000)(h0:Inv 0 b)
  (hin:∀(i:Nat) (a:α) (b:β),l[i]? =some a->i<=1000000->Inv i b->f (mk b (i:Int))=some (match G b a with| .inl b' => .nx (mk b' ((i+1:Nat):Int))| .inr r=> .rt r)/\∀b',G b a= .inl b' ->Inv (i+1) b')
  (hend:∀b,Inv l.length b->f (mk b (l.length:Int))=some (.ex (fin b)))
  (hk:(∀b',ik G l b= .inl b' ->Inv l.length b')->K (match ik G l b with| .inl b' => .inl (fin b')| .inr r=> .inr r)=r):o5 (U1 f (mk b 0)) K=r:=by
 obtain⟨h1,h2⟩:=Qx l G mk fin Inv hl h0 hin hend;rw[h1];exact hk h2
end
def UL(c:UInt8):Bool:=decide (32<=c.toNat)&&decide (c.toNat<=126)&&decide (c.toNat≠34)
def a1x(s:d1x):Bool:=decide (s.length<=64)&&s.all UL
theorem a6N(c:UInt8):∀s:d1x,decide (0<=Lib.indexByte s c)=s.any λx=>decide (x.toNat=c.toNat)
 |[]=>by simp[Lib.indexByte]|b::l=>by
  have ih:=a6N c l;have hge:=Lib.indexByte_ge l c;rw[lh,←ih];have e:Lib.indexByte (b::l) c=if b=c then 0 else if Lib.indexByte l c=-1 then -1 else Lib.indexByte l c+1:=by rw[Lib.indexByte];simp
  rw[e];by_cases h:b=c
  .subst h;simp
  .have h2:b.toNat≠c.toNat:=λhh=>h (UInt8.toNat_inj.1 hh);rw[if_neg h,show decide (b.toNat=c.toNat)=false by simp[h2],lg];by_cases h3:Lib.indexByte l c=-1
   .rw[h3];rfl
   .rw[if_neg h3];simp;omega
theorem a3R(c:UInt8):UL c=(!D9 (c.toNat:Int) 32&&!D9 126 (c.toNat:Int)&&!x8 (c.toNat:Int) 34):=by unfold UL D9 x8;rw[fV];simp;omega
theorem Wp(s:d1x)(p:UInt8->Bool):(∀(i:Nat) (a:UInt8),s[i]? =some a->p a=true)↔s.all p=true:=by rw[kG];exact⟨λh x hx=>by obtain⟨i,hi,rfl⟩:=Y7 hx;exact h i _ (eG hi),λh i a hi=>h a (iO hi)⟩
theorem a0Q{s:d1x}(h:s.length<=1000000):AA s=some (a1x s):=by
 unfold AA;refine U8 (DR s (λi a=>UL a) false PUnit.unit _ l9 (λi x hx=>?_) ?_) ?_
 rotate_left 2
 .have h5:J5 (o9 s) 64=decide (s.length<=64):=by simp only[J5,o9];congr 1;simp;omega
  unfold a1x;by_cases hw:s.all UL=true
  .rw[if_pos ((Wp s UL).2 hw),hw,o8,J7,h5,Bool.and_true]
  .rw[if_neg (λh=>hw ((Wp s UL).1 h))];simp only[kF]at hw;rw[hw,Bool.and_false];rfl
 .have hi:=(X6.1 hx).1;simp only[H6 hx,o7,WF,hx,ax,o8];rw[Y1 l9,a3R];cases D9 (x.toNat:Int) 32<;>cases D9 126 (x.toNat:Int)<;>cases x8 (x.toNat:Int) 34<;>rfl
 .rw[G6];rfl
theorem Zb{s:d1x}(h:s.length<=1000000):Ap s=some (a1x s):=by
 unfold Ap;have h5:D9 64 (o9 s)= !decide (s.length<=64):=by simp only[D9,o9];rw[←decide_not];congr 1;simp;omega
 rw[h5,show zy s [34]=some (s.any λx=>decide (x.toNat=(34:UInt8).toNat))from congrArg some (a6N 34 s)];unfold a1x;cases decide (s.length<=64)
 .rfl
 simp only[jq,o6,o8,gu];cases h34:s.any λx=>decide (x.toNat=(34:UInt8).toNat)
 case true=>
  obtain⟨x,hx,hx2⟩:=mY.1 h34;simp only[decide_eq_true_eq]at hx2;have:s.all UL=false:=by rw[List.all_eq_false];refine⟨x,hx,?_⟩;unfold UL;rw[hx2];decide
  rw[this];rfl
 simp only[o6];refine U8 (DR s (λi a=>UL a) false PUnit.unit _ l9 (λi x hx=>?_) ?_) ?_
 rotate_left 2
 .by_cases hw:s.all UL=true
  .rw[if_pos ((Wp s UL).2 hw),hw];rfl
  .rw[if_neg (λh=>hw ((Wp s UL).1 h))];simp only[kF]at hw;rw[hw];rfl
 .have hi:=(X6.1 hx).1;have hne:x8 (x.toNat:Int) 34=false:=by
   have:=(jJ.1 h34) x (iO hx);simp only[decide_eq_true_eq]at this;exact J6 (by have h:(34:UInt8).toNat=34:=rfl;omega)
  simp only[H6 hx,o7,WF,hx,ax,o8];rw[Y1 l9,a3R,hne];cases D9 (x.toNat:Int) 32<;>cases D9 126 (x.toNat:Int)<;>rfl
 .rw[G6];rfl
def Ie(e:List (Int×Int))(sg:L8)(t:Int×Int):Int:=l7 (x8 (nY e sg).2.2 0) (l7 (aj (x8 (nY e sg).1.1 t.1) (x8 (nY e sg).1.2 t.2)) 0 8) (nY e sg).2.2
theorem Rf(sg:L8)(t:Int×Int)(hI:∀n∈e,kL n.2):wP e sg t=some (Ie e sg t):=by
 unfold wP Ie;rw[a9u sg hI,o8];cases x8 (nY e sg).2.2 0
 .rfl
 simp only[D8,o6,o7];cases aj (x8 (nY e sg).1.1 t.1) (x8 (nY e sg).1.2 t.2)<;>rfl
theorem Rn(sg:L8)(t:Int×Int)(hI:∀n∈e,kL n.2):rV e sg t=some (Ie e sg t):=by
 unfold rV Ie;rw[a5k sg hI,o8];cases x8 (nY e sg).2.2 0
 .rfl
 simp only[D8,o6,o7];cases aj (x8 (nY e sg).1.1 t.1) (x8 (nY e sg).1.2 t.2)<;>rfl
def a4c(r:ak):Prop:=r.1.length<=1000000/\r.2.2.2.2.2.2.2.length<=1000000/\(∀n∈r.2.2.2.2.2.1,kL n.2)/\(∀n∈r.2.2.2.2.2.2.1,kL n.2)
def TM(rs:List ak)(d:Int):Nat:=rs.countP λo=>x8 o.2.1 d
def TU(r:ak)(sg:L8)(t:Int×Int):Int:=
 l7 (D9 0 (o9 r.2.2.2.2.2.1)) (l7 (x8 (Ie r.2.2.2.2.2.1 sg (1,0)) 0) (Ie r.2.2.2.2.2.2.1 sg t) (Ie r.2.2.2.2.2.1 sg (1,0))) (Ie r.2.2.2.2.2.2.1 sg t)
def Ko(s:D6)(sg:L8)(k:Nat)(r:ak):Int:=
 l7 (ED r.1) (l7 ((s.2.2.2.2.take k).any λx=>seq x.1 r.1) 7 (match F9 s.2.2.2.1 r.2.1 with
  |none=>6|some d=>l7 (l7 (x8 r.2.2.1 (-1)) false (l7 (D9 r.2.2.1 0) true (l7 (J5 k r.2.2.1) true (match F9 s.2.2.2.2 r.2.2.1 with|some q=>D7 (x8 q.2.1 r.2.1)|none=>true)))) 9
   (l7 (D9 r.2.2.2.1 0) 3 (l7 (D9 9 r.2.2.2.1) 3 (l7 (Ig r.2.2.2.2.1) (l7 (x8 r.2.2.2.2.1.1 r.2.2.2.2.1.2) 3
    (l7 (J5 8 (TM (s.2.2.2.2.take k) r.2.1)) 4 (l7 (a1x r.2.2.2.2.2.2.2) (TU r sg d.2) 2))) 3))))) 2
theorem jO{l:List α}{i:Int}(h:J5 0 i=false\/D9 i (o9 l)=false):F9 l i=none:=by
 unfold F9
 split
 .rename_i h0;rcases h with h|h
  .rw[GL]at h;omega
  .rw[iI]at h;simp only[o9]at h;exact gW l9
 .rfl
variable {s:D6}{r:ak}{k:Nat}
theorem a0m(sg:L8)(hr:s.2.2.2.2[k]? =some r)(hl:s.2.2.2.2.length<=1000)(h:a4c r):Ef s (k:Int) sg=some (Ko s sg k r):=by
 have hk:=(X6.1 hr).1;have hcnt:TM (s.2.2.2.2.take k) r.2.1<=1000:=by have:=List.countP_le_length (l:=s.2.2.2.2.take k) (p:=λ(o:ak)=>x8 o.2.1 r.2.1);unfold TM;simp at this;omega
 unfold Ef;rw[E5,hr,o8,Bq l9,o8];refine U8 (lU (s.2.2.2.2.take k) (λ(c:Nat) (o:ak)=>l7 (x8 o.2.1 r.2.1) (c+1) c) (λc i=>((c:Int),i)) (λc=>(c:Int)) (λi c=>c<=i) (b:=0) V6 l9 (λi a c ha hi hc=>?_) (λc hc=>?_)).1 ?_
 rotate_left 2
 .have hf:∀(l:List ak) (c:Nat),l.foldl (λ(c:Nat) (o:ak)=>l7 (x8 o.2.1 r.2.1) (c+1) c) c=c+TM l r.2.1:=by
   intro l;induction l with
   |nil=>intro c;rfl|cons a l ih=>intro c;rw[P5,ih];unfold TM;rw[List.countP_cons];cases x8 a.2.1 r.2.1<;>simp<;>omega
  rw[hf,bU,o8,rJ h.1,o8,o8,a4C _ V6,o8];unfold Ko;cases ED r.1
  .rfl
  simp only[D8,o6,o7,o8];cases (s.2.2.2.2.take k).any λx=>seq x.1 r.1
  case true=>rfl
  simp only[o6];rw[nP r.2.1 0,Af (o9 s.2.2.2.1) r.2.1];cases h0:J5 0 r.2.1
  .rw[jO (.inl h0)];rfl
  cases h1:D9 r.2.1 (o9 s.2.2.2.1)
  .rw[jO (.inr h1)];rfl
  obtain⟨d,hd,_⟩:=mV (qc.1 h0) (kz.1 h1);rw[hd];simp only[jq,o6,o8,Zb h.2.1];have hpar:(l7 (D7 (x8 r.2.2.1 (-1))) (l7 (D9 r.2.2.1 0) (some true) (l7 (J5 (k:Int) r.2.2.1) (some true) (o5 (F9 s.2.2.2.2 r.2.2.1) λ(x_6:ak)=>some (D7 (x8 x_6.2.1 r.2.1))))) (some false))=
    some (l7 (x8 r.2.2.1 (-1)) false (l7 (D9 r.2.2.1 0) true (l7 (J5 k r.2.2.1) true (match F9 s.2.2.2.2 r.2.2.1 with|some q=>D7 (x8 q.2.1 r.2.1)|none=>true)))):=by
   cases x8 r.2.2.1 (-1)
   case true=>rfl
   simp only[aB,o7,o6];cases hp0:D9 r.2.2.1 0
   case true=>rfl
   cases hp1:J5 (k:Int) r.2.2.1
   case true=>rfl
   rw[iI]at hp0;rw[GL]at hp1;obtain⟨q,hq,_⟩:=mV (l:=s.2.2.2.2) hp0 (by simp only[o9];omega);rw[hq];rfl
  rw[hpar,o8];cases (l7 (x8 r.2.2.1 (-1)) false (l7 (D9 r.2.2.1 0) true (l7 (J5 k r.2.2.1) true (match F9 s.2.2.2.2 r.2.2.1 with|some q=>D7 (x8 q.2.1 r.2.1)|none=>true))))
  case true=>rfl
  simp only[o6];cases D9 r.2.2.2.1 0
  case true=>rfl
  simp only[o6,o8];cases D9 9 r.2.2.2.1
  case true=>rfl
  simp only[o6];have hval:∀(A B:Option (ak⊕Int)),l7 (D9 r.2.2.2.2.1.1 0) A (l7 (J5 r.2.2.2.2.1.2 r.2.2.2.2.1.1) A (l7 (D9 109573 r.2.2.2.2.1.2) A B))=l7 (Ig r.2.2.2.2.1) (l7 (x8 r.2.2.2.2.1.1 r.2.2.2.2.1.2) A B) A:=by
   intro A B;unfold Ig;by_cases v0:r.2.2.2.2.1.1<(0:Int)
   .rw[S9 v0,Y4 (show r.2.2.2.2.1.1<(0:Int)from v0)];rfl
   rw[J9 (iP.1 v0),X5 (iP.1 v0)];by_cases v1:(r.2.2.2.2.1.2:Int)<=r.2.2.2.2.1.1
   .rw[X5 v1];by_cases v2:(r.2.2.2.2.1.1:Int)<=r.2.2.2.2.1.2
    .rw[X5 v2,O8 (Int.le_antisymm v2 v1)];cases J5 r.2.2.2.2.1.2 109573<;>rfl
    .rw[Y4 (kV.1 v2)];rfl
   .have v1' :=kV.1 v1;rw[Y4 v1',X5 (Int.le_of_lt v1'),J6 (λhh=>by rw[hh]at v1';exact Int.lt_irrefl _ v1'),nP];cases J5 r.2.2.2.2.1.2 109573<;>rfl
  rw[hval];cases Ig r.2.2.2.2.1
  .rfl
  cases x8 r.2.2.2.2.1.1 r.2.2.2.2.1.2
  case true=>rfl
  simp only[o7,o6];cases J5 8 ((TM (s.2.2.2.2.take k) r.2.1:Nat):Int)
  case true=>rfl
  cases a1x r.2.2.2.2.2.2.2
  .rfl
  simp only[D8,o6,o7,o8,J7,TU,hd,Rf sg _ h.2.2.1,Rf sg _ h.2.2.2];cases D9 0 (o9 r.2.2.2.2.2.1)
  .rfl
  simp only[o7];cases x8 (Ie r.2.2.2.2.2.1 sg (1,0)) 0<;>rfl
 .have hc' :c<=1000000:=l9;obtain⟨ha1,ha2⟩:=Tn ha;simp only[H6 ha,o7,E5,ha,o8];rw[Y1 (show i<=9000000000000000000 by omega),Y1 (show c<=9000000000000000000 by omega)];cases x8 a.2.1 r.2.1
  .exact⟨rfl,by show c<=i+1;omega⟩
  .exact⟨rfl,by show c+1<=i+1;omega⟩
 .simp only[G6];rfl
theorem a5d(s:D6)(d:Int):EI s d=some (l7 (J5 0 d) (D9 d (o9 s.2.2.2.1)) false):=by unfold EI;cases J5 0 d<;>rfl
theorem d_(r:ak):∀(l:List ak) (c:Nat),ik (λ(c:Nat) (o:ak)=>l7 (seq o.1 r.1) (.inr (7:Int)) (.inl (l7 (x8 o.2.1 r.2.1) (c+1) c))) l c=l7 (l.any λx=>seq x.1 r.1) (.inr 7) (.inl (c+TM l r.2.1))
 |[],c=>rfl|a::l,c=>by
  unfold ik;rw[lh];cases seq a.1 r.1
  case true=>rfl
  simp only[o6,lg];rw[d_ r l];unfold TM;rw[List.countP_cons];cases x8 a.2.1 r.2.1
  .simp only[o6,bF,if_false,aY]
  .simp only[o7,if_true];rw[show c+1+List.countP (λo=>x8 o.2.1 r.2.1) l=c+(List.countP (λo=>x8 o.2.1 r.2.1) l+1) by omega]
variable {l:U5}
theorem ZC(hL:QS l)(hs:l.2.2[i]? =some s)(hr:s.2.2.2.2[k]? =some r)(h:a4c r):AB l (i:Int) (k:Int)=some (Ko s (Jy l s) k r):=by
 have hk:=(X6.1 hr).1;have hl:=(hL s (iO hs)).2.2.2;have hcnt:TM (s.2.2.2.2.take k) r.2.1<=1000:=by have:=List.countP_le_length (l:=s.2.2.2.2.take k) (p:=λ(o:ak)=>x8 o.2.1 r.2.1);unfold TM;simp at this;omega
 unfold AB Ko;rw[E5,hs,o8,E5,hr,o8,nJ h.1,o8];cases ED r.1
 .rfl
 simp only[D8,o6,o7];refine U8 (Qx (s.2.2.2.2.take k) (λ(c:Nat) (o:ak)=>l7 (seq o.1 r.1) (.inr (7:Int)) (.inl (l7 (x8 o.2.1 r.2.1) (c+1) c))) (λc i=>((c:Int),i)) (λc=>(c:Int)) (λi c=>c<=i) (b:=0) V6 l9 (λj a c ha hi hc=>?_) (λc hc=>?_)).1 ?_
 rotate_left 2
 .rw[d_];cases (s.2.2.2.2.take k).any λx=>seq x.1 r.1
  case true=>rfl
  simp only[o6,bU,o8,J7];rw[nP r.2.1 0,Af (o9 s.2.2.2.1) r.2.1];cases h0:J5 0 r.2.1
  .rw[jO (.inl h0)];rfl
  cases h1:D9 r.2.1 (o9 s.2.2.2.1)
  .rw[jO (.inr h1)];rfl
  obtain⟨d,hd,_⟩:=mV (qc.1 h0) (kz.1 h1);rw[hd];simp only[jq,o6,o8,J7];have hpar:(l7 (D7 (x8 r.2.2.1 (-1))) (l7 (D9 r.2.2.1 0) (some (Sum.inr (9:Int))) (l7 (J5 (k:Int) r.2.2.1) (some (.inr 9)) (o5 (F9 s.2.2.2.2 r.2.2.1) λ(x:ak)=>l7 (D7 (x8 x.2.1 r.2.1)) (some (.inr 9)) (some (.inl PUnit.unit))))) (some (.inl PUnit.unit)))=
    some (l7 (l7 (x8 r.2.2.1 (-1)) false (l7 (D9 r.2.2.1 0) true (l7 (J5 k r.2.2.1) true (match F9 s.2.2.2.2 r.2.2.1 with|some q=>D7 (x8 q.2.1 r.2.1)|none=>true)))) (.inr 9) (.inl PUnit.unit)):=by
   cases x8 r.2.2.1 (-1)
   case true=>rfl
   simp only[aB,o7,o6];cases hp0:D9 r.2.2.1 0
   case true=>rfl
   cases hp1:J5 (k:Int) r.2.2.1
   case true=>rfl
   rw[iI]at hp0;rw[GL]at hp1;obtain⟨q,hq,_⟩:=mV (l:=s.2.2.2.2) hp0 (by simp only[o9];omega);rw[hq];simp only[o8,o6];cases x8 q.2.1 r.2.1<;>rfl
  rw[hpar,o8];cases (l7 (x8 r.2.2.1 (-1)) false (l7 (D9 r.2.2.1 0) true (l7 (J5 k r.2.2.1) true (match F9 s.2.2.2.2 r.2.2.1 with|some q=>D7 (x8 q.2.1 r.2.1)|none=>true))))
  case true=>rfl
  simp only[o6,J7];cases D9 r.2.2.2.1 0
  case true=>rfl
  cases D9 9 r.2.2.2.1
  case true=>rfl
  simp only[o6,Le,o8];cases Ig r.2.2.2.2.1
  .rfl
  cases x8 r.2.2.2.2.1.1 r.2.2.2.2.1.2
  case true=>rfl
  simp only[D8,o7,o6,o8,J7];cases J5 8 ((TM (s.2.2.2.2.take k) r.2.1:Nat):Int)
  case true=>rfl
  simp only[o6,a0Q h.2.1,o8];cases a1x r.2.2.2.2.2.2.2
  .rfl
  simp only[D8,o6,o7,o8,ZE hL hs,TU,hd,Rn (Jy l s) _ h.2.2.1,Rn (Jy l s) _ h.2.2.2];cases D9 0 (o9 r.2.2.2.2.2.1)
  .rfl
  simp only[o7];cases x8 (Ie r.2.2.2.2.2.1 (Jy l s) (1,0)) 0<;>rfl
 .obtain⟨ha1,ha2⟩:=Tn ha;simp only[S9 (show(j:Int)<(k:Int) by omega),o7,E5,ha2,o8];rw[Y1 (show j<=9000000000000000000 by omega),Y1 (show c<=9000000000000000000 by omega)];cases seq a.1 r.1
  .cases x8 a.2.1 r.2.1
   .exact⟨rfl,λb' hb=>by cases hb;show c<=j+1;omega⟩
   .exact⟨rfl,λb' hb=>by cases hb;show c+1<=j+1;omega⟩
  .exact⟨rfl,λb' hb=>by cases hb⟩
 .have e:(s.2.2.2.2.take k).length=k:=by simp;omega
  simp only[e,J9 (show(k:Int)<=(k:Int) by omega)];rfl
structure SmS (s:D6):Prop where
 nm:s.1.length<=1000000
 ni:s.2.2.1.length<=14
 nd:s.2.2.2.1.length<=14
 nr:s.2.2.2.2.length<=60
 fo:a1G s
 ro:∀r∈s.2.2.2.2,a4c r/\r.2.2.2.2.2.1.length<=50/\r.2.2.2.2.2.2.1.length<=50
theorem a0Z:qi=kX:=rfl
def Qw(n:Int)(b:d1v×Bool)(a:Int):d1v×Bool:=l7 b.2 (b.1++[a],true) (l7 (J5 n a) (l7 (D9 n a) (b.1++[n]++[a],true) (b.1++[a],true)) (b.1++[a],false))
theorem a4G(n:Int):∀(l p:d1v),l.foldl (Qw n) (p,true)=(p++l,true)
 |[],p=>by simp|a::l,p=>by rw[P5,show Qw n (p,true) a=(p++[a],true)from rfl,a4G n l];simp
theorem b0B(n:Int):∀(l p:d1v),(l7 (l.foldl (Qw n) (p,false)).2 (l.foldl (Qw n) (p,false)).1 ((l.foldl (Qw n) (p,false)).1++[n]))=p++ins n l
 |[],p=>rfl|a::l,p=>by
  rw[P5];unfold ins;by_cases h1:n<=a
  .rw[if_pos h1];by_cases h2:n<a
   .rw[if_pos h2,show Qw n (p,false) a=(p++[n]++[a],true) by simp[Qw,X5 h1,S9 h2],a4G];simp
   .rw[if_neg h2,show Qw n (p,false) a=(p++[a],true) by simp[Qw,X5 h1,J9 (show a<=n by omega)],a4G];simp
  .rw[if_neg h1,show Qw n (p,false) a=(p++[a],false) by simp[Qw,Y4 (show a<n by omega)],b0B n l];simp
theorem Ba{l:d1v}(n:Int)(hl:l.length<=1000000):kX l n=some (ins n l):=by
 unfold kX;refine aZ l (Qw n) (λb i=>(b.1,b.2,i)) (λb=>b) (λi b=>b.1.length<=i+1/\(b.2=false->b.1.length<=i)) (([],false):d1v×Bool) hl A7 (λi a b ha hi hI=>?_) (λb hI=>?_) (λh2=>?_)
 .obtain⟨o,d⟩:=b;simp only at hI;simp only[H6 ha,o7,E5,ha,o8];rw[Y1 l9];cases d
  .simp only[aB,o7,Qw,o6];have:=hI.2 rfl;cases J5 n a
   .rw[o6,iR a (show o.length<=1000000 by omega)];exact⟨rfl,by simp<;>omega,by simp<;>omega⟩
   .rw[o7];cases D9 n a
    .rw[o6,iR a (show o.length<=1000000 by omega)];exact⟨rfl,by simp<;>omega,A7⟩
    .rw[o7,iR n (show o.length<=1000000 by omega),o8,KR V6];exact⟨rfl,by simp<;>omega,A7⟩
  .simp only[D8,o6,Qw,o7];rw[KR V6];exact⟨rfl,by simp<;>omega,A7⟩
 .simp only[G6];rfl
 .have hf:=b0B n l [];generalize l.foldl (Qw n) ([],false)=b at*;obtain⟨o,d⟩:=b;cases d
  .simp only[o6,H8]at hf;simp only[aB,o7];rw[iR _ (by simp at h2;omega),hf];rfl
  .simp only[o7,H8]at hf;simp only[D8,o6,hf]
def isM(op:Int):Bool:=l7 (J5 36 op) (J5 op 39) false
theorem b7q(op:Int):isM op=l7 (x8 op 36) true (l7 (x8 op 37) true (l7 (x8 op 38) true (x8 op 39))):=by
 unfold isM;by_cases h1:36<=op
 .rw[X5 h1,o7];by_cases h2:op<=39
  .rw[X5 h2];have:op=36\/op=37\/op=38\/op=39:=l9;rcases this with rfl|rfl|rfl|rfl<;>rfl
  .rw[Y4 l9,J6 l9,J6 l9,J6 l9,J6 l9];rfl
 .rw[Y4 l9,J6 l9,J6 l9,J6 l9,J6 l9];rfl
def RZ(p:Int->Bool)(e:List (Int×Int)):d1v:=(e.filter λn=>p n.1).map (·.2)
def rC(e:List (Int×Int)):d1v×d1v×d1v:=(MK (RZ (λo=>x8 o 7) e),MK (RZ (λo=>x8 o 8) e),MK (RZ isM e))
def a8Y(g:d1v->Int->d1v)(b:d1v×d1v×d1v)(n:Int×Int):d1v×d1v×d1v:=
 (l7 (x8 n.1 7) (g b.1 n.2) b.1,l7 (x8 n.1 8) (g b.2.1 n.2) b.2.1,l7 (isM n.1) (g b.2.2 n.2) b.2.2)
theorem Uu(g:d1v->Int->d1v):∀(e:List (Int×Int)) (b:d1v×d1v×d1v),e.foldl (a8Y g) b=((RZ (λo=>x8 o 7) e).foldl g b.1,(RZ (λo=>x8 o 8) e).foldl g b.2.1,(RZ isM e).foldl g b.2.2)
 |[],b=>rfl|n::e,b=>by
  have hn:∀p:Int->Bool,RZ p (n::e)=l7 (p n.1) (n.2::RZ p e) (RZ p e):=λp=>by unfold RZ;rw[dJ];cases p n.1<;>rfl
  rw[P5,Uu g e,hn,hn,hn];unfold a8Y;simp only;cases x8 n.1 7<;>cases x8 n.1 8<;>cases isM n.1<;>rfl
theorem g_:∀(l b:d1v),l.foldl (λacc n=>acc++[n]) b=b++l
 |[],b=>by simp|a::l,b=>by rw[P5,g_ l];simp
theorem Jp{a k:Int}(h:a=k)(m:Int)(hm:k≠m):x8 a m=false:=J6 l9
theorem Iw{l:d1v}(hl:l.length<=1000000):wL l=some (MK l):=by unfold wL;have:=b5Z (l:=l) hl;rw[show(λx=>o5 (rX x) λ(x:d1v)=>some x)=λx=>rX x from funext λx=>fJ _];exact this
theorem Es(h:e.length<=1000000):pz e=some (rC e):=by
 unfold pz;refine aZ e (a8Y (λacc n=>acc++[n])) (λb i=>(b.1,b.2.1,b.2.2,i)) (λb=>b) (λi b=>b.1.length<=i/\b.2.1.length<=i/\b.2.2.length<=i) (([],[],[]):d1v×d1v×d1v) h A7 (λi a b ha hi hI=>?_) (λb hI=>?_) (λh2=>?_)
 .obtain⟨b1,b2,b3⟩:=b;simp only at hI;simp only[H6 ha,o7,E5,ha,o8,iR a.2 (show b1.length<=1000000 by omega),iR a.2 (show b2.length<=1000000 by omega),iR a.2 (show b3.length<=1000000 by omega),a8Y,b7q];rw[Y1 l9];by_cases h7:a.1=7
  .rw[O8 h7,Jp h7 8 J8,Jp h7 36 J8,Jp h7 37 J8,Jp h7 38 J8,Jp h7 39 J8];exact⟨rfl,by simp<;>omega,by simp<;>omega,by simp<;>omega⟩
  rw[J6 h7];by_cases h8:a.1=8
  .rw[O8 h8,Jp h8 36 J8,Jp h8 37 J8,Jp h8 38 J8,Jp h8 39 J8];exact⟨rfl,by simp<;>omega,by simp<;>omega,by simp<;>omega⟩
  rw[J6 h8];cases x8 a.1 36<;>cases x8 a.1 37<;>cases x8 a.1 38<;>cases x8 a.1 39<;>exact⟨rfl,by simp<;>omega,by simp<;>omega,by simp<;>omega⟩
 .simp only[G6];rfl
 .rw[Uu]at h2 ⊢;simp only[g_,H8]at h2 ⊢;rw[Iw l9,o8,Iw l9,o8,Iw l9];rfl
theorem Cm(h:e.length<=500000):nK e=some (rC e):=by
 unfold nK;refine aZ e (a8Y (λacc n=>ins n acc)) (λb i=>(b.1,b.2.1,b.2.2,i)) (λb=>b) (λi b=>b.1.length<=i/\b.2.1.length<=i/\b.2.2.length<=i) (([],[],[]):d1v×d1v×d1v) l9 A7 (λi a b ha hi hI=>?_) (λb hI=>?_) (λh2=>?_)
 .obtain⟨b1,b2,b3⟩:=b;simp only at hI;have l1:=vO a.2 b1;have l2:=vO a.2 b2;have l3:=vO a.2 b3;rw[a0Z];simp only[H6 ha,o7,E5,ha,o8,Ba a.2 (show b1.length<=1000000 by omega),Ba a.2 (show b2.length<=1000000 by omega),Ba a.2 (show b3.length<=1000000 by omega),a8Y,isM];rw[Y1 l9];by_cases h7:a.1=7
  .rw[O8 h7,Jp h7 8 J8,Y4 (show a.1<36 by omega)];exact⟨rfl,by simp<;>omega,by simp<;>omega,by simp<;>omega⟩
  rw[J6 h7];cases x8 a.1 8<;>cases J5 36 a.1<;>cases J5 a.1 39<;>exact⟨rfl,by simp<;>omega,by simp<;>omega,by simp<;>omega⟩
 .simp only[G6];rfl
 .rw[Uu];rfl
theorem a2P(p:Int->Bool)(e:List (Int×Int)):(RZ p e).length<=e.length:=by unfold RZ;rw[V9];exact aF _ _
theorem Gn(e:List (Int×Int)):(rC e).2.1.length<=e.length:=iw (Nw _) (a2P _ e)
theorem Gp(e:List (Int×Int)):(rC e).2.2.length<=e.length:=iw (Nw _) (a2P _ e)
def inD(n d:Int):Bool:=l7 (J5 0 d) (D9 d n) false
def Ff(n:Int)(r:ak):d1v:=(rC r.2.2.2.2.2.1).2.1.filter (inD n)++(rC r.2.2.2.2.2.2.1).2.1.filter (inD n)
theorem Xy(p:Int->Bool):∀(l b:d1v),l.foldl (λacc x=>l7 (p x) (acc++[x]) acc) b=b++l.filter p
 |[],b=>by simp|a::l,b=>by rw[P5,Xy p l,dJ];cases p a<;>simp
variable {f:d1v×Int->Option ((d1v×Int)⊕d1v)}
theorem b_(l b:d1v)(n:Int)(hl:l.length<=1000)(hb:b.length<=1000)
  (hin:∀(i:Nat) (a:Int) (acc:d1v),l[i]? =some a->i<=1000000->f (acc,(i:Int))=l7 (J5 0 a) (l7 (D9 a n) (o5 (dG acc [a]) λx=>some (.inl (x,x9 .i64 (i:Int) 1))) (some (.inl (acc,x9 .i64 (i:Int) 1)))) (some (.inl (acc,x9 .i64 (i:Int) 1))))
  (hend:∀acc,f (acc,(l.length:Int))=some (.inr acc)):Y9 f (b,0)=some (b++l.filter (inD n)):=by
 have key:=lU l (λ(acc:d1v) x=>l7 (inD n x) (acc++[x]) acc) (λb i=>(b,i)) (λb=>b) (λi acc=>acc.length<=1000+i) (f:=f) (b:=b) l9 l9 ?_ ?_
 .rw[key.1,Xy]
 .intro i a acc ha hi hI;have:=(X6.1 ha).1;rw[hin i a acc ha hi,Y1 l9,iR _ l9];unfold inD;cases J5 0 a
  .exact⟨rfl,by show acc.length<=_;omega⟩
  cases D9 a n
  .exact⟨rfl,by show acc.length<=_;omega⟩
  .exact⟨rfl,by simp;omega⟩
 .intro acc hI;rw[hend]
theorem TR(n:Int)(h1:r.2.2.2.2.2.1.length<=50)(h2:r.2.2.2.2.2.2.1.length<=50):vJ r n=some (Ff n r):=by
 have g1:=Gn r.2.2.2.2.2.1;have g2:=Gn r.2.2.2.2.2.2.1;unfold vJ Ff;rw[Es l9,o8,Es l9,o8];refine U8 (b_ (rC r.2.2.2.2.2.1).2.1 [] n l9 A7 (λi a acc ha hi=>?_) (λacc=>?_)) ?_
 rotate_left 2
 .rw[o8,fJ,H8];have:=aF (inD n) (rC r.2.2.2.2.2.1).2.1;refine b_ (rC r.2.2.2.2.2.2.1).2.1 _ n l9 l9 (λi a acc ha hi=>?_) (λacc=>?_)
  .simp only[H6 ha,o7,E5,ha,o8];rw[show U0 (rC r.2.2.2.2.2.2.1).2.1 (U9 (i:Int))=some a from ha,o8]
  .simp only[G6];rfl
 .simp only[H6 ha,o7,E5,ha,o8];rw[show U0 (rC r.2.2.2.2.2.1).2.1 (U9 (i:Int))=some a from ha,o8]
 .simp only[G6];rfl
def nD(s:D6):Int:=o9 s.2.2.2.1
def dl(n:Int)(rs:List ak)(d:Int):d1v:=rs.flatMap λr=>l7 (x8 r.2.1 d) (Ff n r) []
def P7(s:D6)(d:Int):d1v:=l7 (inD (nD s) d) (MK (dl (nD s) s.2.2.2.2 d)) []
theorem Us(h:SmS s)(hr:r∈s.2.2.2.2)(n:Int):(Ff n r).length<=100:=by obtain⟨_,h1,h2⟩:=h.ro r hr;have a1:=Gn r.2.2.2.2.2.1;have a2:=Gn r.2.2.2.2.2.2.1;have b1:=aF (inD n) (rC r.2.2.2.2.2.1).2.1;have b2:=aF (inD n) (rC r.2.2.2.2.2.2.1).2.1;unfold Ff;rw[E8];omega
theorem a6E(n:Int)(rs:List ak)(r:ak)(d:Int):dl n (rs++[r]) d=dl n rs d++l7 (x8 r.2.1 d) (Ff n r) []:=by unfold dl;rw[List.flatMap_append];simp
theorem a6D(n:Int)(rs:List ak)(r:ak)(d:Int):dl n (r::rs) d=l7 (x8 r.2.1 d) (Ff n r) []++dl n rs d:=rfl
theorem a4p{s:D6}(h:SmS s)(n d:Int):∀(rs:List ak),(∀r∈rs,r∈s.2.2.2.2)->(dl n rs d).length<=100*rs.length
 |[],_=>by simp[dl]|r::rs,hm=>by
  have ih:=a4p h n d rs λr hr=>hm r (by simp[hr]);have h1:=Us h (hm r A7) n;rw[a6D,E8,H5];cases x8 r.2.1 d
  .simp only[o6,eF];omega
  .simp only[o7];omega
variable {d:Int}{x:Int}
theorem b7t{n:Int}{rs:List ak} :x∈dl n rs d↔∃r∈rs,r.2.1=d/\x∈Ff n r:=by
 unfold dl;rw[Dt];constructor
 .rintro⟨r,hr,hx⟩;cases hq:x8 r.2.1 d<;>rw[hq]at hx
  .simp at hx
  .exact⟨r,hr,Y5.1 hq,hx⟩
 .rintro⟨r,hr,hq,hx⟩;exact⟨r,hr,by rw[O8 hq];exact hx⟩
theorem b2e{n:Int}(h:x∈Ff n r):0<=x/\x<n:=by
 have key:inD n x=true:=by unfold Ff at h;rcases F7.1 h with h|h<;>exact(iG.1 h).2
 unfold inD at key;cases h0:J5 0 x<;>rw[h0]at key
 .cases key
 .exact⟨qc.1 h0,kz.1 key⟩
theorem Bf(s:D6)(d:Int):SI (P7 s d):=by
 unfold P7;cases inD (nD s) d
 .exact List.Pairwise.nil
 .exact a7y _
theorem yC(h:x∈P7 s d):0<=x/\x<nD s:=by
 unfold P7 at h;cases hq:inD (nD s) d<;>rw[hq]at h
 .simp at h
 .obtain⟨r,_,_,hx⟩:=b7t.1 ((NE _ _).1 h);exact b2e hx
theorem a2t(s:D6)(l b:d1v)(hl:l.length<=1000)(hb:b.length<=100000)
  (hin:∀(i:Nat) (a:Int) (acc:d1v),l[i]? =some a->i<=1000000->f (acc,(i:Int))=o5 (EI s a) λx=>l7 x (o5 (kX acc a) λx=>some (.inl (x,x9 .i64 (i:Int) 1))) (some (.inl (acc,x9 .i64 (i:Int) 1))))
  (hend:∀acc,f (acc,(l.length:Int))=some (.inr acc)):Y9 f (b,0)=some (EC (l.filter (inD (nD s))) b):=by
 have key:=lU l (λ(acc:d1v) x=>l7 (inD (nD s) x) (ins x acc) acc) (λb i=>(b,i)) (λb=>b) (λi acc=>acc.length<=100000+i) (f:=f) (b:=b) l9 l9 ?_ ?_
 .have hf:∀(l b:d1v),l.foldl (λ(acc:d1v) x=>l7 (inD (nD s) x) (ins x acc) acc) b=EC (l.filter (inD (nD s))) b:=by
   intro l;induction l with
   |nil=>intro b;rfl|cons a l ih=>intro b;rw[P5,ih,dJ];cases inD (nD s) a<;>rfl
  rw[key.1,hf]
 .intro i a acc ha hi hI;have hlt:=(X6.1 ha).1;have h2:=vO a acc;rw[hin i a acc ha hi,a5d,o8,Y1 l9,Ba _ l9];change l7 (inD (nD s) a) _ _=_/\_;cases inD (nD s) a
  .exact⟨rfl,by show acc.length<=_;omega⟩
  .exact⟨rfl,by show(ins a acc).length<=_;omega⟩
 .intro acc hI;rw[hend]
theorem QJ(h:SmS s)(d:Int):yU s d=some (P7 s d):=by
 have hnr:=h.nr;unfold yU P7;rw[a5d,o8];change l7 (D7 (inD (nD s) d)) _ _=_;cases inD (nD s) d
 .rfl
 simp only[D8,o6,o7];refine aZ s.2.2.2.2 (λ(acc:d1v) r=>l7 (x8 r.2.1 d) (EC (Ff (nD s) r) acc) acc) (λb i=>(b,i)) (λb=>b) (λi acc=>acc.length<=100*i) [] l9 A7 (λi r acc ha hi hI=>?_) (λacc hI=>?_) (λh2=>?_)
 .have hlt:=(X6.1 ha).1;obtain⟨_,h1,h2⟩:=h.ro r (iO ha);have a1:=Gn r.2.2.2.2.2.1;have a2:=Gn r.2.2.2.2.2.2.1;have hlen:=Bo (Ff (nD s) r) acc;have hrl:=Us h (iO ha) (nD s);simp only[H6 ha,o7,E5,ha,o8];rw[Y1 l9];cases x8 r.2.1 d
  .exact⟨rfl,by show acc.length<=_;omega⟩
  simp only[D8,o6,o7,Cm (show r.2.2.2.2.2.1.length<=500000 by omega),Cm (show r.2.2.2.2.2.2.1.length<=500000 by omega),o8];refine⟨?_,by show(EC (Ff (nD s) r) acc).length<=_;omega⟩;refine U8 (a2t s (rC r.2.2.2.2.2.1).2.1 acc l9 l9 (λi a acc ha hi=>?_) (λacc=>?_)) ?_
  rotate_left 2
  .rw[o8];have hl2:=Bo ((rC r.2.2.2.2.2.1).2.1.filter (inD (nD s))) acc;have hl3:=aF (inD (nD s)) (rC r.2.2.2.2.2.1).2.1;refine U8 (a2t s (rC r.2.2.2.2.2.2.1).2.1 _ l9 l9 (λi a acc ha hi=>?_) (λacc=>?_)) ?_
   rotate_left 2
   .rw[o8];unfold Ff;rw[IC]
   .simp only[H6 ha,o7,E5,ha,o8];rw[show U0 (rC r.2.2.2.2.2.2.1).2.1 (U9 (i:Int))=some a from ha];rfl
   .simp only[G6];rfl
  .simp only[H6 ha,o7,E5,ha,o8];rw[show U0 (rC r.2.2.2.2.2.1).2.1 (U9 (i:Int))=some a from ha];rfl
  .simp only[G6];rfl
 .simp only[G6];rfl
 .have hf:∀(l:List ak) (b:d1v),l.foldl (λ(acc:d1v) r=>l7 (x8 r.2.1 d) (EC (Ff (nD s) r) acc) acc) b=EC (dl (nD s) l d) b:=by
   intro l;induction l with
   |nil=>intro b;rfl|cons a l ih=>intro b;rw[P5,ih,a6D,IC];cases x8 a.2.1 d<;>rfl
  rw[hf];rfl
theorem Wv(m k:Nat)(f:Nat->α)(v:α):((List.range m).map f).set k v=(List.range m).map λd=>if d=k then v else f d:=by
 apply dZ;intro i;rw[W9,ed,ed,V9,fZ];by_cases hi:i<m
 .rw[ug hi];by_cases h:k=i
  .subst h;simp[hi]
  .simp[h,Ne.symm h]
 .have:(List.range m)[i]? =none:=by simp;omega
  rw[this];by_cases h:k=i
  .subst h;simp[hi]
  .simp[h]
def WU(m:Nat)(rs:List ak):List d1v:=(List.range m).map λ(d:Nat)=>dl (m:Int) rs (d:Int)
theorem Tj{l:d1v}(hl:l.length<=1000000):BK l=some (MK l):=Iw hl
theorem FC(m:Nat)(f:Nat->α)(h:k<m):((List.range m).map f)[k]? =some (f k):=by rw[ed,ug h];rfl
theorem Kw(h:SmS s):uF s=some ((List.range s.2.2.2.1.length).map λ(d:Nat)=>P7 s (d:Int)):=by
 have hnr:=h.nr;have hnd:=h.nd;unfold uF;generalize hm:s.2.2.2.1.length=m at*;have hn:nD s=(m:Int):=by unfold nD o9;rw[hm]
 rw[show o9 s.2.2.2.1=(m:Int)from hn,show qL (m:Int) ([]:d1v)=some (WU m []) by unfold qL WU dl;rw[if_pos l9];simp[List.map_const'],o8];refine aZ s.2.2.2.2 (λ(b:List d1v) r=>l7 (inD m r.2.1) (b.set r.2.1.toNat ((b.getD r.2.1.toNat [])++Ff m r)) b) (λb i=>(b,i)) (λb=>b) (λi b=>b=WU m (s.2.2.2.2.take i)) (WU m []) l9 A7 (λi r b ha hi hI=>?_) (λb hI=>?_) (λh2=>?_)
 .have hlt:=(X6.1 ha).1;obtain⟨_,h1,h2⟩:=h.ro r (iO ha);have hst:s.2.2.2.2.take (i+1)=s.2.2.2.2.take i++[r]:=by
   rw[V8 hlt,(X6.1 ha).2]
  have hlb:o9 b=(m:Int):=by rw[hI];simp[o9,WU]
  obtain⟨rd,hrd⟩:∃rd:Int,r.2.1=rd:=⟨r.2.1,rfl⟩;simp only[H6 ha,o7,E5,ha,o8,hlb,hrd];rw[Y1 l9,hst];by_cases hd:0<=rd/\rd<(m:Int)
  .obtain⟨d0,d1⟩:=hd;have hk:rd.toNat<m:=l9;have hkk:((rd.toNat:Nat):Int)=rd:=l9;have hg:b[rd.toNat]? =some (dl m (s.2.2.2.2.take i) rd):=by rw[hI];unfold WU;rw[FC m _ hk,hkk]
   have hll:=a4p h m rd (s.2.2.2.2.take i) λr hr=>List.mem_of_mem_take hr;have hrl:=Us h (iO ha) m;have htl:(s.2.2.2.2.take i).length<=60:=by simp;omega
   rw[X5 d0,S9 d1,show inb rd (m:Int)=true by unfold inb;simp;omega,show U0 b (U9 rd)=some (dl m (s.2.2.2.2.take i) rd)from hg,TR _ h1 h2];simp only[o7,o8];rw[KR l9,show QF (U9 rd) (U9 rd)=true by simp[QF]];simp only[o7,o8];have hin:inD m rd=true:=by unfold inD;rw[X5 d0,S9 d1];rfl
   rw[hin,show b.getD rd.toNat []=dl m (s.2.2.2.2.take i) rd by rw[zH,hg];rfl];refine⟨rfl,?_⟩;show b.set rd.toNat _=_;rw[hI];unfold WU;rw[Wv];apply dh;intro d hdm;rw[a6E,hrd];by_cases hq:d=rd.toNat
   .subst hq;rw[if_pos rfl,hkk,O8 rfl];rfl
   .rw[if_neg hq,J6 l9];simp
  .have hin:inD m rd=false:=by
    unfold inD;by_cases d0:0<=rd
    .rw[X5 d0,J9 l9];rfl
    .rw[Y4 l9];rfl
   rw[hin];refine⟨?_,?_⟩
   .unfold inD at hin;cases q0:J5 0 rd
    .rfl
    .rw[q0]at hin;simp only[o7]at hin ⊢;rw[hin];rfl
   .show b=_;rw[hI];unfold WU;apply dh;intro d hdm;have:=bg.1 hdm;rw[a6E,hrd,J6 l9];simp
 .simp only[G6];rfl
 .rw[aA]at h2;rw[h2];generalize hA:WU m s.2.2.2.2=A;have hAl:o9 A=(m:Int):=by rw[←hA];simp[o9,WU]
  refine aZ (List.range m) (λ(b:List d1v) d=>b.set d (MK (b.getD d []))) (λb i=>(b,i)) (λb=>b) (λi b=>b=(List.range m).map λ(d:Nat)=>if d<i then MK (dl m s.2.2.2.2 (d:Int))else dl m s.2.2.2.2 (d:Int)) A V6 (by rw[←hA];unfold WU;simp) (λi d b ha hi hI=>?_) (λb hI=>?_) (λh3=>?_)
  .have hlt:=(X6.1 ha).1;simp only[fZ]at hlt;have hdi:d=i:=by rw[ug hlt]at ha;exact(aP ha).symm
   subst hdi;have hlb:o9 b=(m:Int):=by rw[hI];simp[o9]
   have hg:b[d]? =some (dl m s.2.2.2.2 (d:Int)):=by rw[hI,FC m _ hlt,if_neg l9]
   have hll:=a4p h m d s.2.2.2.2 λr hr=>hr;simp only[hAl,hlb];rw[S9 (show(d:Int)<(m:Int) by omega),show inb (d:Int) (m:Int)=true by unfold inb;simp;omega,show U0 b (U9 (d:Int))=some (dl m s.2.2.2.2 (d:Int))from hg];simp only[o7,o8];rw[Tj l9,show QF (U9 (d:Int)) (U9 (d:Int))=true by simp[QF],Y1 l9];simp only[o7,o8];rw[show b.getD d []=dl m s.2.2.2.2 (d:Int) by rw[zH,hg];rfl];refine⟨rfl,?_⟩;rw[hI,Wv];apply dh;intro e he;by_cases hq:e=d
   .subst hq;rw[if_pos rfl,if_pos l9]
   .rw[if_neg hq];by_cases hq2:e<d
    .rw[if_pos hq2,if_pos l9]
    .rw[if_neg hq2,if_neg l9]
  .simp only[fZ,hAl,J9 (show(m:Int)<=(m:Int) by omega)];rfl
  .rw[h3];apply congrArg some;apply dh;intro d hd;have:=bg.1 hd;simp only[fZ];rw[if_pos this];unfold P7;rw[hn,show inD (m:Int) (d:Int)=true by unfold inD;rw[X5 l9,S9 l9];rfl];rfl
def Rch(D:Int->d1v)(d:Int)(L:d1v):Prop:=SI L/\(∀x∈D d,x∈L)/\(∀x∈L,∀y∈D x,y∈L)/\∀C:Int->Prop,(∀x∈D d,C x)->(∀x,C x->∀y∈D x,C y)->∀x∈L,C x
theorem Rch.unique{D:Int->d1v}{L M:d1v}(h:Rch D d L)(k:Rch D d M):L=M:=
 a5A h.1 k.1 λx=>⟨λhx=>h.2.2.2 (λy=>y∈M) k.2.1 k.2.2.1 x hx,λhx=>k.2.2.2 (λy=>y∈L) h.2.1 h.2.2.1 x hx⟩
theorem a1z:∀{B A:d1v},SI A->SI B->(∀x∈A,x∈B)->A=B\/A.length<B.length
 |[],A,_,_,h=>by
  cases A with
  |nil=>exact .inl rfl|cons a A=>exact absurd (h a A7) A7
 |b::B,[],_,_,_=> .inr A7|b::B,a::A,hA,hB,h=>by
  have hA' :=V7.1 hA;have hB' :=V7.1 hB;rcases D5.1 (h a A7)with hab|hab
  .subst hab;rcases a1z (B:=B) (A:=A) hA'.2 hB'.2 (λx hx=>by
    rcases D5.1 (h x (by simp[hx]))with h1|h1
    .have:=hA'.1 x hx;omega
    .exact h1)with h1|h1
   .exact .inl (by rw[h1])
   .exact .inr (by simp only[H5];omega)
  .have hab2:=hB'.1 a hab;rcases a1z (B:=B) (A:=a::A) hA hB'.2 (λx hx=>by
    rcases D5.1 (h x hx)with h1|h1
    .rcases D5.1 hx with h2|h2
     .omega
     .have:=hA'.1 x h2;omega
    .exact h1)with h1|h1
   .exact .inr (by rw[h1];simp)
   .exact .inr (by simp only[H5]at*;omega)
def JW(D:Int->d1v)(L:d1v):d1v:=L.foldl (λacc x=>EC (D x) acc) L
theorem JX(D:Int->d1v)(x:Int):∀(l acc:d1v),x∈l.foldl (λacc x=>EC (D x) acc) acc↔x∈acc\/∃y∈l,x∈D y
 |[],acc=>by simp|a::l,acc=>by
  rw[P5,JX D x l,RS];constructor
  .rintro((h|h)|⟨y,hy,h⟩)
   .exact .inr ⟨a,A7,h⟩
   .exact .inl h
   .exact .inr ⟨y,by simp[hy],h⟩
  .rintro(h|⟨y,hy,h⟩)
   .exact .inl (.inr h)
   .rcases D5.1 hy with rfl|hy
    .exact .inl (.inl h)
    .exact .inr ⟨y,hy,h⟩
theorem a7e(D:Int->d1v):∀(l:d1v) {acc:d1v},SI acc->SI (l.foldl (λacc x=>EC (D x) acc) acc)
 |[],_,h=>h|a::l,_,h=>by rw[P5];exact a7e D l (WH _ h)
theorem Ye(D:Int->d1v){L:d1v}(h:SI L):SI (JW D L):=a7e D L h
def itS(D:Int->d1v)(d:Int):Nat->d1v
 |0=>D d|k+1=>JW D (itS D d k)
section
variable {D:Int->d1v} {n:Nat} (hsi:∀x,SI (D x)) (hin:∀x,∀y∈D x,0<=y/\y<(n:Int))
include hsi hin
theorem w_(d:Int):∀k,SI (itS D d k)
 |0=>hsi d|k+1=>Ye D (w_ d k)
theorem a6Q(d:Int):∀k,∀x∈itS D d k,0<=x/\x<(n:Int)
 |0,x,hx=>hin d x hx|k+1,x,hx=>by
  rcases(JX D x _ _).1 hx with h|⟨y,_,h⟩
  .exact a6Q d k x h
  .exact hin y x h
theorem a6P(d:Int)(k:Nat):JW D (itS D d k)=itS D d k\/(itS D d k).length<(JW D (itS D d k)).length:=by
 rcases a1z (w_ hsi hin d k) (Ye D (w_ hsi hin d k)) (λx hx=>(JX D x _ _).2 (.inl hx))with h|h
 .exact .inl h.symm
 .exact .inr h
theorem x_(d:Int):∀k,JW D (itS D d k)=itS D d k\/k<(JW D (itS D d k)).length
 |0=>by
  rcases a6P hsi hin d 0 with h|h
  .exact .inl h
  .exact .inr l9
 |k+1=>by
  rcases x_ d k with h|h
  .exact .inl (by show JW D (JW D (itS D d k))=JW D (itS D d k);rw[h,h])
  .rcases a6P hsi hin d (k+1)with h2|h2
   .exact .inl h2
   .exact .inr (by have:(itS D d (k+1)).length=(JW D (itS D d k)).length:=rfl;omega)
theorem b7r(d:Int):Rch D d (itS D d n):=by
 have hst:JW D (itS D d n)=itS D d n:=by
  rcases x_ hsi hin d n with h|h
  .exact h
  .have:=YM n (Ye D (w_ hsi hin d n)) (a6Q hsi hin d (n+1));omega
 refine⟨w_ hsi hin d n,?_,?_,?_⟩
 .intro x hx;have:∀k,x∈itS D d k:=by
   intro k;induction k with
   |zero=>exact hx|succ k ih=>exact(JX D x _ _).2 (.inl ih)
  exact this n
 .intro x hx y hy;rw[←hst];exact(JX D y _ _).2 (.inr ⟨x,hx,hy⟩)
 .intro C h1 h2;have:∀k,∀x∈itS D d k,C x:=by
   intro k;induction k with
   |zero=>exact h1|succ k ih=>
    intro x hx;rcases(JX D x _ _).1 hx with h|⟨y,hy,h⟩
    .exact ih x h
    .exact h2 y (ih y hy) x h
  exact this n
end
def bz(s:D6)(d:Int):d1v:=itS (P7 s) d s.2.2.2.1.length
theorem Ku(s:D6)(d:Int):Rch (P7 s) d (bz s d):=
 b7r (n:=s.2.2.2.1.length) (Bf s) (λx y hy=>yC hy) d
theorem Dk(h:x∈bz s d):0<=x/\x<nD s:=a6Q (n:=s.2.2.2.1.length) (Bf s) (λx y hy=>yC hy) d _ x h
theorem KD(h:SmS s)(d:Int):(P7 s d).length<=14:=
 iw (YM s.2.2.2.1.length (Bf s d) (λx hx=>yC hx)) h.nd
theorem DJ(h:SmS s){l:d1v}(hs:SI l)(hi:∀x∈l,0<=x/\x<nD s):l.length<=14:=iw (YM s.2.2.2.1.length hs hi) h.nd
theorem xU(h:SmS s)(d:Int):lI s d=some (bz s d):=by
 have hnd:=h.nd;unfold lI;rw[QJ h,o8];have hsi:=Bf s;have hin:∀x,∀y∈P7 s x,0<=y/\y<((s.2.2.2.1.length:Nat):Int):=λx y hy=>yC hy;refine aZ s.2.2.2.1 (λ(b:d1v) (_:fF)=>JW (P7 s) b) (λb i=>(b,i)) (λb=>b) (λi b=>b=itS (P7 s) d i) (P7 s d) l9 rfl (λi f b ha hi hI=>?_) (λb hI=>?_) (λh2=>?_)
 .simp only[H6 ha,o7];refine⟨?_,by show JW _ b=_;rw[hI];rfl⟩;have hb1:SI b:=by rw[hI];exact w_ hsi hin d i
  have hb2:∀x∈b,0<=x/\x<nD s:=by rw[hI];exact a6Q hsi hin d i
  have hbl:=DJ h hb1 hb2;rw[Y1 l9];refine aZ b (λ(acc:d1v) x=>EC (P7 s x) acc) (λb i=>(b,i)) (λb=>b) (λi acc=>SI acc/\∀x∈acc,0<=x/\x<nD s) b l9 ⟨hb1,hb2⟩ (λj x acc hx hj hJ=>?_) (λacc hJ=>?_) (λh3=>?_)
  .have hal:=DJ h hJ.1 hJ.2;have hdl:=KD h x;simp only[H6 hx,o7,E5,hx,o8,QJ h x];rw[Y1 l9];refine⟨?_,WH _ hJ.1,λy hy=>?_⟩
   .refine aZ (P7 s x) (λ(acc:d1v) y=>ins y acc) (λb i=>(b,i)) (λb=>b) (λi a=>a.length<=acc.length+i) acc l9 l9 (λk y a hy hk hK=>?_) (λa hK=>?_) (λh4=>?_)
    .have hlt:=(X6.1 hy).1;have hli:=vO y a;simp only[H6 hy,o7,E5,hy,o8];rw[show U0 (P7 s x) (U9 (k:Int))=some y from hy,o8,Ba _ l9,o8,Y1 l9];exact⟨rfl,by show(ins y a).length<=_;omega⟩
    .simp only[G6];rfl
    .rfl
   .rcases(RS y _ _).1 hy with h4|h4
    .exact yC h4
    .exact hJ.2 y h4
  .simp only[G6];rfl
  .rfl
 .simp only[G6];rfl
 .rw[h2];rfl
def mk(S:d1z)(x:Int):Bool:=if 0<=x then S.getD x.toNat false else false
def unm(S:d1z):Nat:=S.count false
def rG(b:d1z×d1v)(e:Int):d1z×d1v:=l7 (mk b.1 e) b (b.1.set e.toNat true,b.2++[e])
variable {S:d1z}
theorem a4M(h0:0<=x)(h1:x<o9 S):S[x.toNat]? =some (mk S x):=by
 unfold mk;rw[if_pos h0,zH];have:x.toNat<S.length:=by simp only[o9]at h1;omega
 rw[eG this];rfl
theorem a0G{e:Int}(h0:0<=e)(h1:e<o9 S)(x:Int):mk (S.set e.toNat true) x=l7 (x8 x e) true (mk S x):=by
 unfold mk;have hl:e.toNat<S.length:=by simp only[o9]at h1;omega
 by_cases hx:0<=x
 .rw[if_pos hx,if_pos hx,zH,zH,W9];by_cases hq:x=e
  .subst hq;rw[if_pos rfl,if_pos hl,O8 rfl];rfl
  .rw[if_neg l9,J6 hq];rfl
 .rw[if_neg hx,if_neg hx,J6 l9];rfl
theorem b6a{e:Int}(h0:0<=e)(h1:e<o9 S)(hm:mk S e=false):unm (S.set e.toNat true)+1=unm S:=by
 have hl:e.toNat<S.length:=by simp only[o9]at h1;omega
 have hg:=a4M h0 h1;rw[hm,eG hl]at hg;have hg' :S[e.toNat]=false:=aP hg;unfold unm;rw[List.count_set hl,hg'];have:0<S.count false:=List.count_pos_iff.2 (by rw[←hg'];exact N7 hl);simp;omega
structure RInv (n:Nat) (S:d1z) (Q:d1v) (l:d1v) (S' :d1z) (Q' :d1v):Prop where
 len:S'.length=n
 seen:∀x:Int,0<=x->x<(n:Int)->(mk S' x=true↔mk S x=true\/x∈l)
 sum:Q'.length+unm S' =Q.length+unm S
 le:unm S' <=unm S
 old:∀x∈Q,x∈Q'
 new:∀x∈Q',x∈Q\/x∈l
 got:∀x,mk S' x=true->mk S x=true\/x∈Q'
theorem b2l{n:Nat} :∀(l:d1v) (S:d1z) (Q:d1v),S.length=n->(∀x∈l,0<=x/\x<(n:Int))->RInv n S Q l (l.foldl rG (S,Q)).1 (l.foldl rG (S,Q)).2
 |[],S,Q,hl,_=>⟨hl,λx _ _=>by simp,rfl,F5 _,λx hx=>hx,λx hx=> .inl hx,λx hx=> .inl hx⟩|e::l,S,Q,hl,hi=>by
  have he:=hi e A7;have hel:e<o9 S:=by simp only[o9];omega
  rw[P5];cases hm:mk S e with
  |true=>
   rw[show rG (S,Q) e=(S,Q) by unfold rG;rw[hm];rfl];have ih:=b2l l S Q hl λx hx=>hi x (by simp[hx]);refine⟨ih.len,λx h0 h1=>?_,ih.sum,ih.le,ih.old,λx hx=>?_,ih.got⟩
   .rw[ih.seen x h0 h1,D5];constructor
    .rintro(h|h)
     .exact .inl h
     .exact .inr (.inr h)
    .rintro(h|h|h)
     .exact .inl h
     .subst h;exact .inl hm
     .exact .inr h
   .rcases ih.new x hx with h|h
    .exact .inl h
    .exact .inr (by simp[h])
  |false=>
   rw[show rG (S,Q) e=(S.set e.toNat true,Q++[e]) by unfold rG;rw[hm];rfl];have ih:=b2l l (S.set e.toNat true) (Q++[e]) (by simp[hl]) λx hx=>hi x (by simp[hx]);have hu:=b6a he.1 hel hm;refine⟨ih.len,λx h0 h1=>?_,?_,?_,λx hx=>ih.old x (by simp[hx]),λx hx=>?_,λx hx=>?_⟩
   .rw[ih.seen x h0 h1,a0G he.1 hel,D5];cases hq:x8 x e
    .rw[BP]at hq;simp[hq]
    .rw[Y5]at hq;simp[hq]
   .have:=ih.sum;simp only[E8,H5,eF]at this;omega
   .have:=ih.le;omega
   .rcases ih.new x hx with h|h
    .rcases F7.1 h with h|h
     .exact .inl h
     .exact .inr (by simp at h;simp[h])
    .exact .inr (by simp[h])
   .rcases ih.got x hx with h|h
    .rw[a0G he.1 hel]at h;cases hq:x8 x e
     .rw[hq]at h;exact .inl h
     .rw[Y5]at hq;subst hq;exact .inr (ih.old _ A7)
    .exact .inr h
def Vm(S:d1z):d1v:=((List.range S.length).filter λi=>S.getD i false).map λ(i:Nat)=>(i:Int)
theorem OX(x:Int):x∈Vm S↔mk S x=true:=by
 unfold Vm mk;rw[bQ];constructor
 .rintro⟨i,hi,rfl⟩;rw[if_pos l9];exact(iG.1 hi).2
 .intro h;split at h
  .refine⟨x.toNat,iG.2 ⟨bg.2 ?_,h⟩,l9⟩;rw[zH]at h;cases hg:S[x.toNat]? with
   |none=>rw[hg]at h;cases h|some b=>exact(X6.1 hg).1
  .cases h
theorem b0O(S:d1z):SI (Vm S):=by unfold Vm;refine List.Pairwise.map _ (R:=(·< ·)) (λa b h=>by omega) (List.Pairwise.filter _ xn)
theorem a4K(S:d1z)(hS:S.length<=100)
  (hin:∀(i:Nat) (a:Bool) (acc:d1v),S[i]? =some a->i<=1000000->acc.length<=i->f (acc,(i:Int))=l7 a (o5 (dG acc [(i:Int)]) λx=>some (.inl (x,x9 .i64 (i:Int) 1))) (some (.inl (acc,x9 .i64 (i:Int) 1))))
  (hend:∀acc,f (acc,(S.length:Int))=some (.inr acc)):Y9 f ([],0)=some (Vm S):=by
 have mk2:∀i,i<=S.length->((List.range i).filter λi=>S.getD i false).length<=i:=λi _=>by have:=aF (λi=>S.getD i false) (List.range i);simpa using this
 obtain⟨e,h1,h2⟩:=gy (f:=f) (s:=([],0)) (λx=>∃i:Nat,x=(((List.range i).filter λi=>S.getD i false).map λ(i:Nat)=>(i:Int),(i:Int))/\i<=S.length) (λe=>e=Vm S) (λx=>S.length -x.2.toNat) ⟨0,rfl,l9⟩ V6 (by
  rintro x ⟨i,rfl,hi⟩;by_cases h:i<S.length
  .have e:=eG h;have hst:(List.range (i+1)).filter (λi=>S.getD i false)=(List.range i).filter (λi=>S.getD i false)++l7 S[i] [i] []:=by
    rw[dB,uK];congr 1;rw[dJ,zH,e];cases S[i]<;>rfl
   have hl:=mk2 i hi;refine .inl ⟨(((List.range (i+1)).filter λi=>S.getD i false).map λ(i:Nat)=>(i:Int),((i+1:Nat):Int)),?_,⟨i+1,rfl,h⟩,by simp;omega⟩;rw[hin i _ _ e l9 (by simpa using hl),Y1 l9,hst,iF,iR _ (by rw[V9];omega)];cases S[i]
   .simp
   .rfl
  .have:i=S.length:=l9;subst this;exact .inr ⟨_,hend _,rfl⟩)
 rw[h1,h2]
variable {n:Nat}
theorem Yx{D:Int->d1v}(hn:n<=14)(hsi:∀x,SI (D x))(hin:∀x,∀y∈D x,0<=y/\y<(n:Int))(h0:0<=d)(h1:d<(n:Int)):
  ∃L,yB ((List.range n).map λ(x:Nat)=>D (x:Int)) d=some L/\Rch D d L:=by
 have hA:o9 ((List.range n).map λ(x:Nat)=>D (x:Int))=(n:Int):=by simp[o9]
 have hget:∀x:Int,0<=x->x<n->F9 ((List.range n).map λ(x:Nat)=>D (x:Int)) x=some (D x):=λx a b=>by
  have:x.toNat<n:=l9;unfold F9
  rw[if_pos a,FC n _ this,aC a]
 unfold yB;generalize (List.range n).map (λ(x:Nat)=>D (x:Int))=A at*;rw[hA,show qL (n:Int) false=some (List.replicate n false) by unfold qL;rw[if_pos l9];simp,o8];have hD14:∀x,(D x).length<=14:=λx=>iw (YM n (hsi x) (hin x)) hn;have key:=gy (f:=λ(x:d1z×d1v)=>l7 (D9 0 (o9 x.2)) (o5 (F9 x.2 0) λ(x_1:Int)=>o5 (U0 x.2 (U9 0)) λ(x_2:Int)=>l7 (qQ 1 (o9 x.2) (o9 x.2)) (o5 (F9 A x_2) λ(x_3:d1v)=>
   o5 (Y9 (λ(x:d1z×d1v×Int)=>l7 (D9 x.2.2 (o9 x_3)) (o5 (F9 x_3 x.2.2) λ(x_4:Int)=>o5 (F9 x.1 x_4) λ(x_5:Bool)=>o5 (U0 x.1 (U9 x_4)) λ(x_6:Bool)=>
     l7 (D7 x_6) (o5 (F9 x.1 x_4) λ(x_7:Bool)=>o5 (U0 x.1 (U9 x_4)) λ(x_8:Bool)=>o5 (dG x.2.1 [x_4]) λ(x_9:d1v)=>some (.inl (bi x.1 (U9 x_4) true,x_9,x9 .i64 x.2.2 1)))
      (some (.inl (x.1,x.2.1,x9 .i64 x.2.2 1)))) (some (.inr (x.1,x.2.1)))) (x.1,oD x.2 (U9 1) (U9 (o9 x.2)),0)) λ(y:d1z×d1v)=>some (.inl y)) none) (some (.inr x.1)))
  (s:=(List.replicate n false,[d]))
  (λx=>x.1.length=n/\(∀q∈x.2,0<=q/\q<(n:Int))/\x.2.length+unm x.1<=n+1/\(∀q∈x.2,q=d\/mk x.1 q=true)/\(∀v,v=d\/mk x.1 v=true->v∈x.2\/∀y∈D v,mk x.1 y=true)/\
   (∀C:Int->Prop,(∀x∈D d,C x)->(∀x,C x->∀y∈D x,C y)->∀v,mk x.1 v=true->C v)/\(∀v,mk x.1 v=true->0<=v/\v<(n:Int)))
  (λS=>S.length=n/\Rch D d (Vm S)) (λx=>2*unm x.1+x.2.length) ?_ ?_ ?_
 .obtain⟨S,k1,k2,k3⟩:=key;refine⟨Vm S,?_,k3⟩;refine(kR k1 _).trans ?_;rw[fJ];refine a4K S l9 (λi a acc ha hi hacc=>?_) (λacc=>?_)
  .simp only[H6 ha,o7,E5,ha,o8];rw[show U0 S (U9 (i:Int))=some a from ha,o8]
  .simp only[G6];rfl
 .have hnone:∀v,mk (List.replicate n false) v=false:=λv=>by
   unfold mk;split
   .rw[zH,kW];split<;>rfl
   .rfl
  refine⟨A7,λq hq=>by simp at hq;omega,?_,λq hq=> .inl (by simpa using hq),λv hv=>?_,λC _ _ v hv=>(by rw[hnone]at hv;cases hv),λv hv=>(by rw[hnone]at hv;cases hv)⟩
  .simp[unm,List.count_replicate];omega
  .rcases hv with rfl|hv
   .exact .inl A7
   .rw[hnone]at hv;cases hv
 .simp[unm,List.count_replicate];omega
 .rintro⟨S,Q⟩ ⟨i1,i2,i3,i4,i5,i6,i7⟩;simp only at i1 i2 i3 i4 i5 i6 i7;cases Q with
  |nil=>
   right;refine⟨S,rfl,i1,b0O S,λx hx=>?_,λx hx y hy=>?_,λC c1 c2 x hx=>i6 C c1 c2 x ((OX x).1 hx)⟩
   .rcases i5 d (.inl rfl)with h|h
    .cases h
    .exact(OX x).2 (h x hx)
   .rcases i5 x (.inr ((OX x).1 hx))with h|h
    .cases h
    .exact(OX y).2 (h y hy)
  |cons q Q=>
   left;have hq:=i2 q A7;have hfold:=b2l (n:=n) (D q) S Q i1 (λx hx=>hin q x hx);refine⟨(D q).foldl rG (S,Q),?_,?_,?_⟩
   .simp only[S9 (show(0:Int)<o9 (q::Q) by simp[o9]<;>omega),o7,show F9 (q::Q) 0=some q from rfl,show U0 (q::Q) (U9 0)=some q from rfl,o8,hget q hq.1 hq.2,
     show qQ 1 (o9 (q::Q)) (o9 (q::Q))=true by simp[qQ,o9]<;>omega,show oD (q::Q) (U9 1) (U9 (o9 (q::Q)))=Q by simp[oD,U9,o9]]
    refine aZ (D q) rG (λb i=>(b.1,b.2,i)) (λb=>b) (λi b=>b.1.length=n/\b.2.length<=100+i) (S,Q) (by have:=hD14 q;omega) ⟨i1,by simp at i3;show Q.length<=100+0;omega⟩ (λi e b he hi hI=>?_) (λb hI=>?_) (λh2=>rfl)
    .obtain⟨S1,Q1⟩:=b;simp only at hI;have hee:=hin q e (iO he);have hlt:=(X6.1 he).1;have hdl:=hD14 q;have hg:=a4M (S:=S1) hee.1 (by simp only[o9];omega);have hla:F9 S1 e=some (mk S1 e):=by unfold F9;rw[if_pos hee.1];exact hg
     have hlg:U0 S1 (U9 e)=some (mk S1 e):=hg;simp only[H6 he,o7,E5 (D q),he,o8,hla,hlg];rw[Y1 l9,iR _ l9];unfold rG;simp only;cases mk S1 e
     .exact⟨rfl,by simp[hI.1],by simp<;>omega⟩
     .exact⟨rfl,hI.1,by show Q1.length<=_;omega⟩
    .simp only[G6];rfl
   .obtain⟨j1,j2,j3,j4,j5,j6,j7⟩:=hfold;generalize (D q).foldl rG (S,Q)=b at*;obtain⟨S',Q'⟩:=b;simp only at j1 j2 j3 j4 j5 j6 j7 ⊢;have hrange:∀v,mk S' v=true->0<=v/\v<(n:Int):=λv hv=>by
     rcases j7 v hv with h|h
     .exact i7 v h
     .rcases j6 v h with h|h
      .exact i2 v (by simp[h])
      .exact hin q v h
    refine⟨j1,λx hx=>?_,?_,λx hx=>?_,λv hv=>?_,λC c1 c2 v hv=>?_,hrange⟩
    .rcases j6 x hx with h|h
     .exact i2 x (by simp[h])
     .exact hin q x h
    .simp only[H5]at i3;omega
    .rcases j6 x hx with h|h
     .rcases i4 x (by simp[h])with h2|h2
      .exact .inl h2
      .have hr:=i7 x h2;exact .inr ((j2 x hr.1 hr.2).2 (.inl h2))
     .have hr:=hin q x h;exact .inr ((j2 x hr.1 hr.2).2 (.inr h))
    .have up:∀y,mk S y=true->mk S' y=true:=λy hy=>by
      have hr:=i7 y hy;exact(j2 y hr.1 hr.2).2 (.inl hy)
     by_cases hvq:v=q
     .subst hvq;right;intro y hy;have hr:=hin v y hy;exact(j2 y hr.1 hr.2).2 (.inr hy)
     .by_cases hold:v=d\/mk S v=true
      .rcases i5 v hold with h|h
       .rcases D5.1 h with h|h
        .exact absurd h hvq
        .exact .inl (j5 v h)
       .exact .inr λy hy=>up y (h y hy)
      .rcases hv with h|h
       .exact absurd (.inl h) hold
       .rcases j7 v h with h2|h2
        .exact absurd (.inr h2) hold
        .exact .inl h2
    .by_cases hS:mk S v=true
     .exact i6 C c1 c2 v hS
     .have hr:=hrange v hv;rcases(j2 v hr.1 hr.2).1 hv with h|h
      .exact absurd h hS
      .rcases i4 q A7 with h2|h2
       .subst h2;exact c1 v h
       .exact c2 q (i6 C c1 c2 q h2) v h
   .have:=hfold.sum;have:=hfold.le;simp only[H5];omega
theorem zY(h:SmS s)(h0:0<=d)(h1:d<nD s):mD s d=some (bz s d):=by have hn:nD s=((s.2.2.2.1.length:Nat):Int):=rfl;unfold mD;change l7 (D9 d 0) _ (l7 (J5 (nD s) d) _ _)=_;rw[J9 h0,o6,Y4 h1,o6,Kw h,o8,fJ];obtain⟨L,k1,k2⟩:=Yx (D:=P7 s) h.nd (Bf s) (λx y hy=>yC hy) h0 (show d<((s.2.2.2.1.length:Nat):Int) by omega);rw[k1,Rch.unique k2 (Ku s d)]
structure SmL (l:U5):Prop where
 few:Few l
 en:a6k l
 tb:a1J l
 sc:∀s∈l.2.2,SmS s
theorem SmL.scopes(h:SmL l):QS l:=λs hs=>by have hm:=h.sc s hs;exact⟨hm.nm,by have:=hm.ni;omega,by have:=hm.nd;omega,by have:=hm.nr;omega⟩
theorem qp{ε ρ:Type}{p:Nat->Option ρ}(n:Nat)(hn:n<=1000000)(e:ε){f:Int->Option (Out Int ε ρ)}
  (h1:∀i,i<n->f (i:Int)=some (match p i with|some r=> .rt r|none=> .nx (x9 .i64 (i:Int) 1))) (h2:f (n:Int)=some (.ex e)):
  U1 f 0=some (match Z4 n p with|some r=> .inr r|none=> .inl e):=
 IJ n l9 e (λi hi=>by rw[h1 i hi,Y1 l9]<;>cases p i<;>rfl) h2
def Ob(l:U5)(s:D6)(k:Nat):Option (Int×Int):=match s.2.2.2.2[k]? with|some r=>VZ (Ko s (Jy l s) k r) (300+k:Nat)|none=>none
def a1X(s:D6)(d:Nat):Option (Int×Int):=l7 ((bz s d).any λx=>x8 (d:Int) x) (some (9,((200+d:Nat):Int))) none
def GU(l:U5)(i:Nat)(m:Int):Bool:=l7 (x8 m (-1)) false (l7 (D9 m 0) true (l7 (J5 (i:Int) m) true (match F9 l.2.2 m with|some q=>D7 (x8 q.2.1 (-1))|none=>true)))
def Yk(l:U5)(s:D6):Int×Int:=match IA l s with
 |some r=>r
 |none=>match Z4 s.2.2.2.2.length (Ob l s)with
  |some r=>r
  |none=>match Z4 s.2.2.2.1.length (a1X s)with
   |some r=>r|none=>(0,0)
def EX(l:U5)(i:Nat)(s:D6):Int×Int:=
 l7 (ED s.1) (l7 (EL l 3 i s.1) (7,0) (l7 (GU l i s.2.1) (6,0) (l7 (D9 12 (o9 s.2.2.1)) (4,112) (l7 (D9 12 (o9 s.2.2.2.1)) (4,212) (Yk l s))))) (2,0)
theorem Zk(hL:SmL l)(hs:l.2.2[i]? =some s):BX l (i:Int)=some (EX l i s):=by
 have hi:=(X6.1 hs).1;have hS:=hL.sc s (iO hs);have hf:=hL.few;have hf1:=hf.1;have hf2:=hf.2.1;have hf3:=hf.2.2;have n1:=hS.ni;have n2:=hS.nd;have n3:=hS.nr;unfold BX EX EL;rw[E5,hs,o8,Bq l9,o8,Qv _ l9,o8,Ve _ l9,o8,a2o _ V6,o8];have hb:(l7 (l.1.any λx=>seq x.1 s.1) (some (s,true)) (l7 (l.2.1.any λx=>seq x.1 s.1) (some (s,true)) (some (s,(l.2.2.take i).any λx=>seq x.1 s.1))))=
   some (s,(l.1.any λx=>seq x.1 s.1) || (l.2.1.any λx=>seq x.1 s.1) || (l.2.2.take i).any λx=>seq x.1 s.1):=by
  cases l.1.any λx=>seq x.1 s.1
  .cases l.2.1.any λx=>seq x.1 s.1<;>rfl
  .rfl
 rw[hb,o8];simp only;rw[rJ hS.nm,o8];cases ED s.1
 .rfl
 simp only[D8,o6,o7];cases (l.1.any λx=>seq x.1 s.1) || (l.2.1.any λx=>seq x.1 s.1) || (l.2.2.take i).any λx=>seq x.1 s.1
 case true=>rfl
 simp only[o6];have hm:(l7 (D7 (x8 s.2.1 (-1))) (l7 (D9 s.2.1 0) (some true) (l7 (J5 (i:Int) s.2.1) (some true) (o5 (F9 (l.2.2.take i) s.2.1) λ(x:D6)=>some (D7 (x8 x.2.1 (-1)))))) (some false))=some (GU l i s.2.1):=by
  unfold GU;cases x8 s.2.1 (-1)
  case true=>rfl
  simp only[aB,o7,o6];cases h0:D9 s.2.1 0
  case true=>rfl
  cases h1:J5 (i:Int) s.2.1
  case true=>rfl
  rw[iI]at h0;rw[GL]at h1;obtain⟨q,hq,_⟩:=mV (l:=l.2.2.take i) h0 (by simp only[o9,ah];omega);have hq2:F9 l.2.2 s.2.1=some q:=by have:=(qw hq).2.2.2;unfold F9;rw[if_pos h0];exact(Tn this).2
  rw[hq,hq2];rfl
 rw[hm,o8];cases GU l i s.2.1
 case true=>rfl
 simp only[o6];cases D9 12 (o9 s.2.2.1)
 case true=>rfl
 cases D9 12 (o9 s.2.2.2.1)
 case true=>rfl
 simp only[o6,o8,J7];unfold Yk IA;refine U8 (qp (p:=inP l s) s.2.2.1.length l9 PUnit.unit (λk hk=>?_) ?_) ?_
 rotate_left 2
 .cases Z4 s.2.2.1.length (inP l s)
  case some r=>rfl
  simp only[o8,J7];refine U8 (qp (p:=a1Y l s) s.2.2.2.1.length l9 PUnit.unit (λk hk=>?_) ?_) ?_
  rotate_left 2
  .cases Z4 s.2.2.2.1.length (a1Y l s)
   case some r=>rfl
   simp only[o8,J7];rw[Ib hL.scopes hs,o8];refine U8 (qp (p:=Ob l s) s.2.2.2.2.length l9 PUnit.unit (λk hk=>?_) ?_) ?_
   rotate_left 2
   .cases Z4 s.2.2.2.2.length (Ob l s)
    case some r=>rfl
    simp only[o8,J7];refine U8 (qp (p:=a1X s) s.2.2.2.1.length l9 PUnit.unit (λk hk=>?_) ?_) ?_
    rotate_left 2
    .cases Z4 s.2.2.2.1.length (a1X s)<;>rfl
    .have e:=eG hk;simp only[H6 e,o7];rw[zY hS l9 (by show(k:Int)<o9 s.2.2.2.1;simp only[o9];omega),o8,a8e _ (by
      have:=DJ hS (Ku s (k:Int)).1 (λx hx=>Dk hx);omega),o8,show(200:Int)=((200:Nat):Int)from rfl,Vf l9 l9]
     unfold a1X;cases (bz s (k:Int)).any λx=>x8 (k:Int) x<;>rfl
    .rw[G6];rfl
   .have e:=eG hk;have hr:=(hS.ro _ (N7 hk)).1;simp only[H6 e,o7];rw[a0m _ e l9 hr,o8,show(300:Int)=((300:Nat):Int)from rfl,Vf l9 l9];simp only[Ob,e,VZ];cases x8 (Ko s (Jy l s) k s.2.2.2.2[k]) 0<;>rfl
   .rw[G6];rfl
  .have e:=eG hk;have hm:=hS.fo.2 _ (N7 hk);simp only[H6 e,o7,E5,e,o8];rw[Bq l9,o8,PT hm l9 V6,o8,show(200:Int)=((200:Nat):Int)from rfl,Vf l9 l9];simp only[a1Y,e,VZ];cases x8 (Nk l.1 s.2.2.2.1[k] s.2.2.1 (s.2.2.2.1.take k)) 0<;>rfl
  .rw[G6];rfl
 .have e:=eG hk;have hm:=hS.fo.1 _ (N7 hk);simp only[H6 e,o7,E5,e,o8];rw[Bq l9,o8,PT hm V6 A7,o8,show(100:Int)=((100:Nat):Int)from rfl,Vf l9 l9];simp only[inP,e,VZ];cases x8 (Nk l.1 s.2.2.1[k] (s.2.2.1.take k) []) 0<;>rfl
 .rw[G6];rfl
theorem OT{c e:Int}{r:Int×Int}(h:VZ c e=some r):r.1≠0:=by
 unfold VZ at h;cases hc:x8 c 0<;>rw[hc]at h
 .cases h;exact BP.1 hc
 .cases h
theorem UZ{r:Int×Int}(h:IA l s=some r):r.1≠0:=by
 unfold IA at h;split at h
 .rename_i q hq;cases h;obtain⟨k,_,hk⟩:=ja hq;unfold inP at hk;split at hk
  .exact OT hk
  .cases hk
 .obtain⟨k,_,hk⟩:=ja h;unfold a1Y at hk;split at hk
  .exact OT hk
  .cases hk
theorem Yt(hL:SmL l)(hs:l.2.2[i]? =some s):yY l (i:Int)=some (l7 (x8 (EX l i s).1 0) (0,0,0,0) (VS i (EX l i s))):=by
 have hi:=(X6.1 hs).1;have hS:=hL.sc s (iO hs);have hf:=hL.few;have hf1:=hf.1;have hf2:=hf.2.1;have hf3:=hf.2.2;have n1:=hS.ni;have n2:=hS.nd;have n3:=hS.nr;unfold yY EX;rw[E5,hs,o8,nJ hS.nm,o8];cases ED s.1
 .rfl
 simp only[D8,o6,o7];rw[a9r hf,o8];cases EL l 3 i s.1
 case true=>rfl
 simp only[o6];have hm:(l7 (D7 (x8 s.2.1 (-1))) (l7 (D9 s.2.1 0) (some (Sum.inr ((6:Int),(3:Int),(i:Int),(0:Int)))) (l7 (J5 (i:Int) s.2.1) (some (.inr (6,3,(i:Int),0))) (o5 (F9 l.2.2 s.2.1) λ(x:D6)=>l7 (D7 (x8 x.2.1 (-1))) (some (.inr (6,3,(i:Int),0))) (some (.inl (((0:Int),(0:Int),(0:Int),(0:Int)),(0:Int),(3:Int),(i:Int),(0:Int))))))) (some (.inl ((0,0,0,0),0,3,(i:Int),0))))=
   some (l7 (GU l i s.2.1) (.inr (6,3,(i:Int),0)) (.inl ((0,0,0,0),0,3,(i:Int),0))):=by
  unfold GU;cases x8 s.2.1 (-1)
  case true=>rfl
  simp only[aB,o7,o6];cases h0:D9 s.2.1 0
  case true=>rfl
  cases h1:J5 (i:Int) s.2.1
  case true=>rfl
  rw[iI]at h0;rw[GL]at h1;obtain⟨q,hq,_⟩:=mV (l:=l.2.2) h0 (by simp only[o9];omega);rw[hq];simp only[o6,o8];cases x8 q.2.1 (-1)<;>rfl
 rw[hm,o8];cases GU l i s.2.1
 case true=>rfl
 simp only[o6,J7];cases D9 12 (o9 s.2.2.1)
 case true=>rfl
 cases D9 12 (o9 s.2.2.2.1)
 case true=>rfl
 simp only[o6];rw[Yq hs l9 l9 hS.fo,o8];unfold Yk;cases hfs:IA l s with
 |some r=>have hc:=UZ hfs;simp only[VS];rw[J6 hc];rfl|none=>
  simp only[O8 (rfl:(0:Int)=0),D8,o6];refine U8 (ql (p:=λk=>(Ob l s k).map (VS i)) s.2.2.2.2.length l9 _ (0,0,0,0) (λk hk=>?_) ?_) ?_
  rotate_left 2
  .rw[IB];cases hfr:Z4 s.2.2.2.2.length (Ob l s)with
   |some r=>
    obtain⟨k,_,hk⟩:=ja hfr;have hc:r.1≠0:=by
     unfold Ob at hk;split at hk
     .exact OT hk
     .cases hk
    simp only[ax,o8,vC];rw[J6 hc];rfl
   |none=>
    simp only[Option.map_none,o8,J7];refine U8 (ql (p:=λk=>(a1X s k).map (VS i)) s.2.2.2.1.length l9 _ (0,0,0,0) (λk hk=>?_) ?_) ?_
    rotate_left 2
    .rw[IB];cases hfc:Z4 s.2.2.2.1.length (a1X s)with
     |some r=>
      obtain⟨k,_,hk⟩:=ja hfc;have hc:r.1≠0:=by
       unfold a1X at hk;cases hq:(bz s (k:Int)).any λx=>x8 (k:Int) x<;>rw[hq]at hk
       .cases hk
       .cases hk;show(9:Int)≠0;decide
      simp only[ax,o8,vC];rw[J6 hc];rfl
     |none=>rfl
    .have e:=eG hk;have htl:=DJ hS (Ku s (k:Int)).1 (λx hx=>Dk hx);simp only[H6 e,o7];rw[xU hS,o8,show(200:Int)=((200:Nat):Int)from rfl,Vf l9 l9];have hcy:U1 (λ(x_6:oV×Int)=>l7 (D9 x_6.2 (o9 (bz s (k:Int)))) (o5 (F9 (bz s (k:Int)) x_6.2) λ(x:Int)=>l7 (x8 x (k:Int)) (some (Out.rt ((9:Int),(3:Int),(i:Int),((200+k:Nat):Int)))) (some (.nx (x_6.1,x9 .i64 x_6.2 1)))) (some (.ex x_6.1))) (((0:Int),(0:Int),(0:Int),(0:Int)),(0:Int))=
       some (l7 ((bz s (k:Int)).any λx=>x8 (k:Int) x) (.inr (9,3,(i:Int),((200+k:Nat):Int))) (.inl (0,0,0,0))):=by
      have h1:=Qx (bz s (k:Int)) (λ(b:Int×Int×Int×Int) x=>l7 (x8 x (k:Int)) (.inr ((9:Int),(3:Int),(i:Int),((200+k:Nat):Int))) (.inl b)) (λb i=>(b,i)) (λb=>b) (λ_ _=>True) (b:=((0,0,0,0):Int×Int×Int×Int)) (f:=λ(x_6:oV×Int)=>l7 (D9 x_6.2 (o9 (bz s (k:Int)))) (o5 (F9 (bz s (k:Int)) x_6.2) λ(x:Int)=>l7 (x8 x (k:Int)) (some (Out.rt ((9:Int),(3:Int),(i:Int),((200+k:Nat):Int)))) (some (.nx (x_6.1,x9 .i64 x_6.2 1)))) (some (.ex x_6.1))) l9 trivial (λj x b hx hj _=>by refine⟨?_,λ_ _=>trivial⟩;simp only[H6 hx,o7,E5,hx,o8];rw[Y1 l9];cases x8 x (k:Int)<;>rfl) (λb _=>by simp only[G6];rfl)
      refine h1.1.trans ?_;have hfo:∀(l:d1v) (b:Int×Int×Int×Int),ik (λ(b:Int×Int×Int×Int) x=>l7 (x8 x (k:Int)) (.inr ((9:Int),(3:Int),(i:Int),((200+k:Nat):Int))) (.inl b)) l b=l7 (l.any λx=>x8 (k:Int) x) (.inr (9,3,(i:Int),((200+k:Nat):Int))) (.inl b):=by
       intro l;induction l with
       |nil=>intro b;rfl|cons a l ih=>
        intro b;unfold ik;rw[lh,show x8 (k:Int) a=x8 a (k:Int) by unfold x8;by_cases h:a=(k:Int)<;>simp[h,eq_comm]];cases x8 a (k:Int)
        .simp only[o6,lg];exact ih b
        .rfl
      rw[hfo];cases (bz s (k:Int)).any λx=>x8 (k:Int) x<;>rfl
     refine U8 hcy ?_;unfold a1X;cases (bz s (k:Int)).any λx=>x8 (k:Int) x<;>rfl
    .simp only[G6];rfl
  .have e:=eG hk;have hr:=(hS.ro _ (N7 hk)).1;simp only[H6 e,o7];rw[ZC hL.scopes hs e hr,o8,show(300:Int)=((300:Nat):Int)from rfl,Vf l9 l9];simp only[Ob,e,VZ];cases x8 (Ko s (Jy l s) k s.2.2.2.2[k]) 0<;>rfl
  .simp only[G6];rfl
def Ia(l:U5)(i:Nat):Option (Int×Int×Int×Int):=match l.2.2[i]? with|some s=>Qu 3 i (EX l i s)|none=>none
def PE(l:U5):Int×Int×Int×Int:=l7 (D9 4 (o9 l.2.2)) (4,3,4,0) (match Z4 l.2.2.length (Ia l)with|some r=>r|none=>(0,0,0,0))
def iM(l:U5):Int×Int×Int×Int:=l7 (x8 (Jk l).1 0) (l7 (x8 (Jd l).1 0) (PE l) (Jd l)) (Jk l)
theorem Xd(hL:SmL l):Ak l=some (PE l):=by
 have hf:=hL.few.2.2;unfold Ak PE;cases D9 4 (o9 l.2.2)
 case true=>rfl
 simp only[o6];refine U8 (ql (p:=Ia l) l.2.2.length l9 _ (0,0,0,0) (λi hi=>?_) ?_) ?_
 rotate_left 2
 .cases Z4 l.2.2.length (Ia l)<;>rfl
 .have e:=eG hi;simp only[H6 e,o7,Zk hL e,o8,Ia,e,Qu];cases x8 (EX l i l.2.2[i]).1 0<;>rfl
 .rw[G6];rfl
theorem Ot(hL:SmL l):yI l=some (iM l):=by
 unfold yI iM;rw[Zj hL.few hL.en,o8];cases x8 (Jk l).1 0
 .rfl
 simp only[D8,o6,o7];rw[Xe hL.few hL.tb,o8];cases x8 (Jd l).1 0
 .rfl
 simp only[D8,o6,o7];rw[Xd hL];rfl
theorem OU{k i:Int}{c:Int×Int}{r:Int×Int×Int×Int}(h:Qu k i c=some r):r.1≠0:=by
 unfold Qu at h;cases hc:x8 c.1 0<;>rw[hc]at h
 .cases h;exact BP.1 hc
 .cases h
theorem Ld(hL:SmL l):uX l=some (iM l):=by
 have hf1:=hL.few.1;have hf2:=hL.few.2.1;have hf3:=hL.few.2.2;unfold uX iM Jk;cases D9 8 (o9 l.1)
 case true=>rfl
 simp only[o6];refine U8 (ql (p:=Nc l) l.1.length l9 _ (0,0,0,0) (λi hi=>?_) ?_) ?_
 rotate_left 2
 .cases hfe:Z4 l.1.length (Nc l)with
  |some r=>
   obtain⟨k,_,hk⟩:=ja hfe;have hc:r.1≠0:=by
    unfold Nc at hk;split at hk
    .exact OU hk
    .cases hk
   simp only[o8,vC,J6 hc,o6]
  |none=>
   simp only[o8,J7,O8 (rfl:(0:Int)=0),o7];unfold Jd;cases D9 8 (o9 l.2.1)
   case true=>rfl
   simp only[o6];refine U8 (ql (p:=Oq l) l.2.1.length l9 _ (0,0,0,0) (λi hi=>?_) ?_) ?_
   rotate_left 2
   .cases hft:Z4 l.2.1.length (Oq l)with
    |some r=>
     obtain⟨k,_,hk⟩:=ja hft;have hc:r.1≠0:=by
      unfold Oq at hk;split at hk
      .exact OU hk
      .cases hk
     simp only[o8,vC,J6 hc,o6]
    |none=>
     simp only[o8,J7,O8 (rfl:(0:Int)=0),o7];unfold PE;cases D9 4 (o9 l.2.2)
     case true=>rfl
     simp only[o6];refine U8 (ql (p:=Ia l) l.2.2.length l9 _ (0,0,0,0) (λi hi=>?_) ?_) ?_
     rotate_left 2
     .cases Z4 l.2.2.length (Ia l)<;>rfl
     .have e:=eG hi;simp only[H6 e,o7,Yt hL e,o8,Ia,e,Qu];cases hc:x8 (EX l i l.2.2[i]).1 0
      .simp only[o6,VS,hc];rfl
      .simp only[o7,O8 (rfl:(0:Int)=0)];rfl
     .simp only[G6];rfl
   .have e:=eG hi;simp only[H6 e,o7,Yu hL.few e (hL.tb _ (N7 hi)),o8,Oq,e,Qu,PI];cases hc:x8 (YU l i l.2.1[i]).1 0
    .simp only[o6,hc];rfl
    .simp only[o7,O8 (rfl:(0:Int)=0)];rfl
   .simp only[G6];rfl
 .have e:=eG hi;have hm:=hL.en _ (N7 hi);simp only[H6 e,o7,Zz hL.few e hm.1 hm.2,o8,Nc,e,Qu,PI];cases hc:x8 (UW l i l.1[i]).1 0
  .simp only[o6,hc];rfl
  .simp only[o7,O8 (rfl:(0:Int)=0)];rfl
 .simp only[G6];rfl
structure SmC (c:ig):Prop where
 ni:c.2.1.length<=1000
 nm:c.2.2.length<=1000
 nv:∀v∈c.2.2,v.length<=1000
def a6g(en:List gI)(fs:List fF)(vs:List J4)(i:Nat):Option (Int×Int):=match vs[i]?,fs[i]? with
 |some v,some f=>l7 (x8 v.1 f.2.1) (l7 (x8 v.2.1 f.2.2) (l7 (inB v.2.2 (bnd f.2 en)) none (some ((i:Int),3))) (some ((i:Int),8))) (some ((i:Int),8))|_,_=>none
def MH(en:List gI)(fs:List fF)(vs:List J4):Int×Int:=
 l7 (D9 (o9 vs) (o9 fs)) (o9 vs,5) (l7 (D9 (o9 fs) (o9 vs)) (o9 fs,4) (match Z4 vs.length (a6g en fs vs)with|some r=>r|none=>(0,0)))
theorem MX(l:U5){vs:List J4}{fs:List fF}(hv:vs.length<=1000000):og l vs fs=some (MH l.1 fs vs):=by
 unfold og MH;cases h1:D9 (o9 vs) (o9 fs)
 case true=>rfl
 cases h2:D9 (o9 fs) (o9 vs)
 case true=>rfl
 simp only[o6];have hl:vs.length=fs.length:=by rw[iI]at h1 h2;simp only[o9]at h1 h2;omega
 refine U8 (qp (p:=a6g l.1 fs vs) vs.length hv PUnit.unit (λk hk=>?_) ?_) ?_
 rotate_left 2
 .cases Z4 vs.length (a6g l.1 fs vs)<;>rfl
 .have e:=eG hk;have e2:=eG (show k<fs.length by omega);simp only[H6 e,o7,E5,e,e2,o8,TK,a6g,inB,nP];cases x8 vs[k].1 fs[k].2.1
  .rfl
  cases x8 vs[k].2.1 fs[k].2.2
  .rfl
  cases J5 (bnd fs[k].2 l.1).1 vs[k].2.2
  .rfl
  cases J5 vs[k].2.2 (bnd fs[k].2 l.1).2<;>rfl
 .rw[G6];rfl
theorem Yr(l:U5){vs:List J4}{fs:List fF}(hv:vs.length<=1000000):zf l fs vs=some (MH l.1 fs vs):=by
 unfold zf MH;cases h1:D9 (o9 vs) (o9 fs)
 case true=>rfl
 cases h2:D9 (o9 fs) (o9 vs)
 case true=>rfl
 simp only[o6];have hl:vs.length=fs.length:=by rw[iI]at h1 h2;simp only[o9]at h1 h2;omega
 refine U8 (qp (p:=a6g l.1 fs vs) vs.length hv PUnit.unit (λk hk=>?_) ?_) ?_
 rotate_left 2
 .cases Z4 vs.length (a6g l.1 fs vs)<;>rfl
 .have e:=eG hk;have e2:=eG (show k<fs.length by omega);simp only[H6 e,o7,E5,e,e2,o8,a0Y,a6g,QM];cases x8 vs[k].1 fs[k].2.1
  .rfl
  cases x8 vs[k].2.1 fs[k].2.2
  .rfl
  cases inB vs[k].2.2 (bnd fs[k].2 l.1)<;>rfl
 .rw[G6];rfl
def Js(l:U5)(s:D6):List fF×Int:=match F9 l.2.2 s.2.1 with|some q=>(q.2.2.1,8)|none=>([],0)
def a2F(en:List gI)(fs:List fF)(ms:List (List J4))(i:Nat):Option (Int×Int×Int):=match ms[i]? with
 |some vs=>l7 (x8 (MH en fs vs).2 0) none (some ((i:Int),MH en fs vs))|none=>none
def MW(l:U5)(k:Int)(c:ig):Int×Int×Int:=match F9 l.2.2 k with
 |none=>(-1,-1,6)
 |some s=>l7 (D9 c.1 0) (-1,-1,3) (l7 (D9 109572 c.1) (-1,-1,3) (l7 (x8 (MH l.1 s.2.2.1 c.2.1).2 0)
   (l7 (D9 (Js l s).2 (o9 c.2.2)) ((Js l s).2,-1,4) (match Z4 c.2.2.length (a2F l.1 (Js l s).1 c.2.2)with|some r=>r|none=>(0,0,0))) (-1,MH l.1 s.2.2.1 c.2.1)))
theorem a3D{k:Int}{A B:Option (PUnit⊕(Int×Int×Int))} :(∃s,F9 l.2.2 k=some s/\l7 (D9 k 0) A (l7 (J5 (o9 l.2.2) k) A B)=B/\s∈l.2.2)\/(F9 l.2.2 k=none/\l7 (D9 k 0) A (l7 (J5 (o9 l.2.2) k) A B)=A):=by
 rw[nP k 0,Af (o9 l.2.2) k];cases h0:J5 0 k
 .exact .inr ⟨jO (.inl h0),rfl⟩
 cases h1:D9 k (o9 l.2.2)
 .exact .inr ⟨jO (.inr h1),rfl⟩
 obtain⟨s,hs,hm⟩:=mV (qc.1 h0) (kz.1 h1);exact .inl ⟨s,hs,rfl,hm⟩
theorem b4I(l:U5)(k:Int){c:ig}(hc:SmC c):xe l k c=some (MW l k c):=by
 unfold xe MW;rcases a3D (l:=l) (k:=k) (A:=some (.inr ((-1:Int),(-1:Int),(6:Int)))) (B:=some (.inl PUnit.unit))with⟨s,hs,hb,_⟩|⟨hs,hb⟩
 .rw[hb,hs];simp only[o8,J7];cases D9 c.1 0
  case true=>rfl
  cases D9 109572 c.1
  case true=>rfl
  simp only[o6,o8,J7];rw[MX l (by have:=hc.ni;omega),o8];cases x8 (MH l.1 s.2.2.1 c.2.1).2 0
  .rfl
  simp only[D8,o6,o7];have hm:qW l k=some (Js l s):=by
   unfold qW Js;rw[hs,o8,nP s.2.1 0,Af (o9 l.2.2) s.2.1];cases h0:J5 0 s.2.1
   .rw[jO (.inl h0)];rfl
   cases h1:D9 s.2.1 (o9 l.2.2)
   .rw[jO (.inr h1)];rfl
   obtain⟨q,hq,_⟩:=mV (qc.1 h0) (kz.1 h1);rw[hq];rfl
  rw[hm,o8];cases D9 (Js l s).2 (o9 c.2.2)
  case true=>rfl
  simp only[o6];refine U8 (qp (p:=a2F l.1 (Js l s).1 c.2.2) c.2.2.length (by have:=hc.nm;omega) PUnit.unit (λj hj=>?_) ?_) ?_
  rotate_left 2
  .cases Z4 c.2.2.length (a2F l.1 (Js l s).1 c.2.2)<;>rfl
  .have e:=eG hj;simp only[H6 e,o7,E5,e,o8];rw[MX l (by have:=hc.nv _ (N7 hj);omega),o8];simp only[a2F,e];cases x8 (MH l.1 (Js l s).1 c.2.2[j]).2 0<;>rfl
  .rw[G6];rfl
 .rw[hb,hs];rfl
theorem b1Z(l:U5)(k:Int){c:ig}(hc:SmC c):CU l k c=some (MW l k c):=by
 unfold CU MW;rcases a3D (l:=l) (k:=k) (A:=some (.inr ((-1:Int),(-1:Int),(6:Int)))) (B:=some (.inl PUnit.unit))with⟨s,hs,hb,_⟩|⟨hs,hb⟩
 .rw[hb,hs];simp only[o8,J7];cases D9 c.1 0
  case true=>rfl
  cases D9 109572 c.1
  case true=>rfl
  simp only[o6,o8,J7];rw[Yr l (by have:=hc.ni;omega),o8];cases x8 (MH l.1 s.2.2.1 c.2.1).2 0
  .rfl
  simp only[D8,o6,o7];have hm:En l k=some (l7 (J5 0 s.2.1) (l7 (D9 s.2.1 (o9 l.2.2)) (s.2.1,8) (-1,0)) (-1,0)):=by
   unfold En;rw[hs,o8,nP s.2.1 0,Af (o9 l.2.2) s.2.1];cases J5 0 s.2.1
   .rfl
   cases D9 s.2.1 (o9 l.2.2)<;>rfl
  rw[hm,o8];unfold Js;have hz:∀(m:Int) (fs:List fF),l7 (D9 (0:Int) (o9 c.2.2)) (some (((0:Int),(-1:Int),(4:Int)):Int×Int×Int)) (o5 (U1 (λ(x_1:Int)=>l7 (D9 x_1 (o9 c.2.2)) (o5 (F9 l.2.2 m) λ(x:D6)=>o5 (F9 c.2.2 x_1) λ(x_2:List J4)=>o5 (zf l x.2.2.1 x_2) λ(x:zC)=>l7 (D7 (x8 x.2 0)) (some (Out.rt ((x_1,x):Int×Int×Int))) (some (.nx (x9 .i64 x_1 1)))) (some (.ex PUnit.unit))) 0) λ(o:PUnit⊕J4)=>U6 o (λ(y:PUnit)=>some (0,0,0)) λ(r:J4)=>some r)=
    some (l7 (D9 0 (o9 c.2.2)) (0,-1,4) (match Z4 c.2.2.length (a2F l.1 fs c.2.2)with|some r=>r|none=>(0,0,0))):=by
   intro m fs;cases h0:D9 0 (o9 c.2.2)
   case true=>rfl
   have:c.2.2.length=0:=by rw[iI]at h0;simp only[o9]at h0;omega
   have hnil:c.2.2=[]:=O7.1 this;rw[hnil];rfl
  cases h0:J5 0 s.2.1
  .rw[jO (.inl h0)];exact hz _ _
  cases h1:D9 s.2.1 (o9 l.2.2)
  .rw[jO (.inr h1)];exact hz _ _
  obtain⟨q,hq,_⟩:=mV (qc.1 h0) (kz.1 h1);rw[hq];simp only[o7];cases D9 8 (o9 c.2.2)
  case true=>rfl
  simp only[o6];refine U8 (qp (p:=a2F l.1 q.2.2.1 c.2.2) c.2.2.length (by have:=hc.nm;omega) PUnit.unit (λj hj=>?_) ?_) ?_
  rotate_left 2
  .cases Z4 c.2.2.length (a2F l.1 q.2.2.1 c.2.2)<;>rfl
  .have e:=eG hj;simp only[H6 e,o7,E5,e,o8,hq];rw[Yr l (by have:=hc.nv _ (N7 hj);omega),o8];simp only[a2F,e];cases x8 (MH l.1 q.2.2.1 c.2.2[j]).2 0<;>rfl
  .rw[G6];rfl
 .rw[hb,hs];rfl
def Qq(r:Int×Int)(t:Int):Bool:=l7 (Ig r) (l7 (J5 r.1 t) (D9 t r.2) false) false
theorem Iq(r:Int×Int)(t:Int):nG r t=some (Qq r t):=by
 unfold nG Qq;rw[JF,o8];cases Ig r
 .rfl
 cases J5 r.1 t<;>rfl
theorem La(r:Int×Int)(t:Int):uT r t=some (Qq r t):=Iq r t
section
variable (on:Nat->Bool) (par:Nat->Int)
def MZ(i:Nat):Nat:=((List.range i).filter on).length
def FH(i:Nat):Int:=if on i=true then(MZ on i:Int)else if h:0<=par i/\par i<(i:Int)then FH (par i).toNat else -1
termination_by i
decreasing_by omega
def anc(i:Nat):Int:=if 0<=par i/\par i<(i:Int)then FH on par (par i).toNat else -1
theorem a7d(i:Nat):FH on par i=if on i=true then(MZ on i:Int)else anc on par i:=by
 rw[FH];unfold anc;by_cases h:on i=true
 .rw[if_pos h,if_pos h]
 .rw[if_neg h,if_neg h];by_cases h2:0<=par i/\par i<(i:Int)
  .rw[dif_pos h2,if_pos h2]
  .rw[dif_neg h2,if_neg h2]
def onL(n:Nat):d1w:=(List.range n).filter on
theorem NK(i:Nat):onL on (i+1)=onL on i++(bif on i then[i]else[]):=by unfold onL;rw[dB,uK];rw[show List.filter on [i]=bif on i then[i]else[] by rw[dJ];cases on i<;>rfl]
theorem Eg(i:Nat):(onL on i).length<=i:=by have:=aF on (List.range i);unfold onL;simpa using this
theorem a7i{n p:Nat}(hp:p<n)(h:on p=true):(onL on n)[MZ on p]? =some p:=by
 induction n with
 |zero=>omega|succ n ih=>
  rw[NK];by_cases hq:p=n
  .subst hq;rw[h,I4 (by unfold MZ onL;omega)];unfold MZ onL;simp
  .have:=ih l9;rw[O0 (X6.1 this).1];exact this
theorem a0I(h:i∈onL on n):i<n/\on i=true:=by unfold onL at h;obtain⟨h1,h2⟩:=iG.1 h;exact⟨bg.1 h1,h2⟩
end
def castL(l:d1w):d1v:=l.map λ(i:Nat)=>(i:Int)
theorem a7R{l:d1w}{i a:Nat}(h:l[i]? =some a):(castL l)[i]? =some (a:Int):=by unfold castL;rw[ed,h];rfl
theorem a9a{rs:List ak}{on:Nat->Bool}{f:d1v×d1v×d1v×Int->Option ((d1v×d1v×d1v×Int)⊕(d1v×d1v))}(hl:rs.length<=1000)
  (hin:∀(i:Nat) (r:ak) (A B C:d1v),rs[i]? =some r->f (A,B,C,(i:Int))=o5 (l7 (J5 0 r.2.2.1) (l7 (D9 r.2.2.1 (i:Int)) (o5 (F9 C r.2.2.1) λ(x_2:Int)=>o5 (U0 C (U9 r.2.2.1)) λ(x:Int)=>some x) (some (-1))) (some (-1))) λ(x_2:Int)=>
   o5 (F9 C (i:Int)) λ(x_3:Int)=>o5 (U0 C (U9 (i:Int))) λ(x_4:Int)=>l7 (on i) (o5 (F9 (bi C (U9 (i:Int)) x_2) (i:Int)) λ(x_6:Int)=>o5 (U0 (bi C (U9 (i:Int)) x_2) (U9 (i:Int))) λ(x_7:Int)=>o5 (dG A [(i:Int)]) λ(x_8:d1v)=>o5 (dG B [x_2]) λ(x_9:d1v)=>
     some (.inl (x_8,x_9,bi (bi C (U9 (i:Int)) x_2) (U9 (i:Int)) (o9 A),x9 .i64 (i:Int) 1))) (some (.inl (A,B,bi C (U9 (i:Int)) x_2,x9 .i64 (i:Int) 1))))
  (hend:∀(A B C:d1v),f (A,B,C,(rs.length:Int))=some (.inr (A,B))):
  Y9 f ([],[],List.replicate rs.length 0,0)=some (castL (onL on rs.length),(onL on rs.length).map (anc on λi=>match rs[i]? with|some r=>r.2.2.1|none=>-1)):=by
 obtain⟨par,hpar⟩:∃par:Nat->Int,par=λi=>match rs[i]? with|some r=>r.2.2.1|none=>-1:=⟨_,rfl⟩
 rw[←hpar];obtain⟨e,h1,h2⟩:=gy (f:=f) (s:=([],[],List.replicate rs.length 0,0)) (λx=>∃i:Nat,x=(castL (onL on i),(onL on i).map (anc on par),pd ((List.range i).map (FH on par)) (rs.length -i),(i:Int))/\i<=rs.length)
  (λe=>e=(castL (onL on rs.length),(onL on rs.length).map (anc on par))) (λx=>rs.length -x.2.2.2.toNat) ⟨0,by simp[onL,castL,pd],l9⟩ V6 (by
  rintro x ⟨i,rfl,hi⟩;by_cases h:i<rs.length
  .left;have e:=eG h;have hp:par i=rs[i].2.2.1:=by rw[hpar];simp only[e]
   obtain⟨p,hpp⟩:∃p:Int,p=par i:=⟨_,rfl⟩;have hp' :rs[i].2.2.1=p:=by rw[hpp,hp]
   have hlen:((List.range i).map (FH on par)).length=i:=A7;have hol:=Eg on i;obtain⟨m,hm⟩:∃m,rs.length -i=m+1:=⟨rs.length -i -1,l9⟩;have hanc:o5 (l7 (J5 0 p) (l7 (D9 p (i:Int)) (o5 (F9 (pd ((List.range i).map (FH on par)) (m+1)) p) λ(x_2:Int)=>o5 (U0 (pd ((List.range i).map (FH on par)) (m+1)) (U9 p)) λ(x:Int)=>some x) (some (-1))) (some (-1))) (λx=>some x)=some (anc on par i):=by
    unfold anc;rw[←hpp];by_cases h0:0<=p
    .rw[X5 h0];by_cases h1:p<(i:Int)
     .have hk:p.toNat<i:=l9;have hg:(pd ((List.range i).map (FH on par)) (m+1))[p.toNat]? =some (FH on par p.toNat):=by
       unfold pd;rw[O0 V6,FC _ _ hk]
      rw[S9 h1,if_pos ⟨h0,h1⟩];simp only[o7];rw[show F9 (pd ((List.range i).map (FH on par)) (m+1)) p=some (FH on par p.toNat) by unfold F9;rw[if_pos h0];exact hg,o8,show U0 (pd ((List.range i).map (FH on par)) (m+1)) (U9 p)=some (FH on par p.toNat)from hg];rfl
     .rw[J9 l9,if_neg l9];rfl
    .rw[Y4 l9,if_neg l9];rfl
   rw[fJ]at hanc;refine⟨(castL (onL on (i+1)),(onL on (i+1)).map (anc on par),pd ((List.range (i+1)).map (FH on par)) (rs.length -(i+1)),((i+1:Nat):Int)),?_,⟨i+1,rfl,h⟩,by simp;omega⟩;rw[hin i _ _ _ _ e,hm,hp',hanc,o8,Y1 l9,show rs.length -(i+1)=m by omega,NK,dB,iF];have q1:=a0O ((List.range i).map (FH on par)) m;have q2:=a0P ((List.range i).map (FH on par)) m;have q3:=a4Y ((List.range i).map (FH on par)) m (anc on par i);have q4:=OZ ((List.range i).map (FH on par)) m (anc on par i);have q5:=NL ((List.range i).map (FH on par)) m (anc on par i);have q6:=SA ((List.range i).map (FH on par)) m (anc on par i) (o9 (castL (onL on i)));rw[hlen]at q1 q2 q3 q4 q5 q6;rw[q1,o8,q2,o8,q3];have hna:(List.map (FH on par) (List.range i++[i]))=(List.range i).map (FH on par)++[if on i=true then(MZ on i:Int)else anc on par i]:=by rw[iF,List.map_singleton,a7d]
   rw[hna];cases hon:on i
   .simp[castL]
   .simp only[o7,cond_true];rw[q4,o8,q5,o8,iR _ (by simp[castL];omega),o8,iR _ V6,o8,q6];simp[castL,o9,MZ,onL]
  .right;have:i=rs.length:=l9;subst this;exact⟨_,hend _ _ _,rfl⟩)
 rw[h1,h2]
def onR(s:D6)(d t:Int)(i:Nat):Bool:=match s.2.2.2.2[i]? with|some r=>l7 (x8 r.2.1 d) (Qq r.2.2.2.2.1 t) false|none=>false
def Jt(s:D6)(i:Nat):Int:=match s.2.2.2.2[i]? with|some r=>r.2.2.1|none=>-1
def pG(s:D6)(d t:Int):d1w:=onL (onR s d t) s.2.2.2.2.length
def Yn(s:D6)(i:Nat):Int:=match s.2.2.2.2[i]? with|some r=>r.2.2.2.1|none=>0
def iC(s:D6)(d t:Int):d1v×d1v×d1v:=(castL (pG s d t),(pG s d t).map (anc (onR s d t) (Jt s)),(pG s d t).map (Yn s))
theorem b7y(h:s.2.2.2.2[i]? =some r)(d t:Int):vM r d t=some (onR s d t i):=by unfold vM onR;rw[h,Iq];simp only;cases x8 r.2.1 d<;>rfl
theorem a1h(h:s.2.2.2.2.length<=1000)(d t:Int):uu s.2.2.2.2 (d,t)=some (castL (pG s d t),(pG s d t).map (anc (onR s d t) (Jt s))):=by
 unfold uu;rw[show qL (o9 s.2.2.2.2) (0:Int)=some (List.replicate s.2.2.2.2.length 0) by unfold qL;rw[if_pos (by simp[o9];omega)];simp[o9],o8,fJ];refine a9a h (λi r A B C hr=>?_) (λA B C=>?_)
 .simp only[H6 hr,o7,E5,hr,o8];rw[b7y hr];rfl
 .simp only[G6];rfl
theorem UE{d t:Int}(h:i∈pG s d t):i<s.2.2.2.2.length/\onR s d t i=true:=a0I _ h
theorem a9t(h:s.2.2.2.2.length<=1000)(d t:Int):yD s d t=some (iC s d t):=by
 have hl:=Eg (onR s d t) s.2.2.2.2.length;unfold yD;rw[a1h h,o8];refine U8 (b0t (castL (pG s d t)) (λ(k:Int)=>Yn s k.toNat) (F:=id) (by unfold castL pG;simp;omega) (λi a acc ha hacc=>?_) (λacc=>?_)) ?_
 rotate_left 2
 .rw[o8];unfold iC castL;rw[xm];rfl
 .simp only[H6 ha,o7,E5 (castL (pG s d t)),ha,o8];rw[show U0 (castL (pG s d t)) (U9 (i:Int))=some a from ha,o8];obtain⟨k,hk,rfl⟩:∃k,k∈pG s d t/\(k:Int)=a:=by
   have:=iO ha;unfold castL at this;exact bQ.1 this
  have hlt:=UE hk;have e:=eG hlt.1;have hil:=(X6.1 ha).1;simp only[castL,V9]at hil;rw[E5,e,o8,iR _ (by unfold pG at hil;omega),o8];simp only[Yn,U2,e]
 .simp only[G6];rfl
theorem a3k(h:s.2.2.2.2.length<=1000)(d t:Int):Em s d t=some (castL (pG s d t)):=by
 unfold Em;rw[fJ];obtain⟨e,h1,h2⟩:=gy (f:=λ(x:d1v×Int)=>l7 (D9 x.2 (o9 s.2.2.2.2)) (o5 (F9 s.2.2.2.2 x.2) λ(x_1:ak)=>l7 (x8 x_1.2.1 d) (o5 (F9 s.2.2.2.2 x.2) λ(x_2:ak)=>o5 (uT x_2.2.2.2.2.1 t) λ(x_3:Bool)=>
   l7 x_3 (o5 (dG x.1 [x.2]) λ(x_4:d1v)=>some (.inl (x_4,x9 .i64 x.2 1))) (some (.inl (x.1,x9 .i64 x.2 1)))) (some (.inl (x.1,x9 .i64 x.2 1)))) (some (.inr x.1)))
  (s:=([],0)) (λx=>∃i:Nat,x=(castL (onL (onR s d t) i),(i:Int))/\i<=s.2.2.2.2.length) (λe=>e=castL (pG s d t)) (λx=>s.2.2.2.2.length -x.2.toNat) ⟨0,rfl,l9⟩ V6 (by
  rintro x ⟨i,rfl,hi⟩;by_cases hlt:i<s.2.2.2.2.length
  .left;have e:=eG hlt;have hol:=Eg (onR s d t) i;refine⟨(castL (onL (onR s d t) (i+1)),((i+1:Nat):Int)),?_,⟨i+1,rfl,hlt⟩,by simp;omega⟩;simp only[H6 e,o7,E5,e,o8,La];rw[Y1 l9,iR _ (by simp[castL];omega),NK];have hon:onR s d t i=l7 (x8 s.2.2.2.2[i].2.1 d) (Qq s.2.2.2.2[i].2.2.2.2.1 t) false:=by unfold onR;rw[e]
   rw[hon];cases x8 s.2.2.2.2[i].2.1 d
   .simp[castL]
   simp only[o7];cases Qq s.2.2.2.2[i].2.2.2.2.1 t<;>simp[castL]
  .right;have:i=s.2.2.2.2.length:=l9;subst this;exact⟨_,by rw[G6];rfl,rfl⟩)
 rw[h1,h2]
theorem a8A{l:d1w}(hl:l.Pairwise (·< ·)){i j a:Nat}(hi:l[i]? =some a)(hj:l[j]? =some a):i=j:=by
 obtain⟨h1,h2⟩:=X6.1 hi;obtain⟨h3,h4⟩:=X6.1 hj;rcases Nat.lt_trichotomy i j with h|h|h
 .have:=gX.1 hl i j h1 h3 h;omega
 .exact h
 .have:=gX.1 hl j i h3 h1 h;omega
theorem a4S(on:Nat->Bool)(n:Nat):(onL on n).Pairwise (·< ·):=List.Pairwise.filter _ xn
theorem a8S(on:Nat->Bool){n p:Nat}(hn:n<=1000)(hp:p<n):EH (castL (onL on n)) (p:Int)=some (if on p=true then(MZ on p:Int)else -1):=by
 have hl:=Eg on n;unfold EH;have key:=vP (f:=λ(x:Int)=>l7 (D9 x (o9 (castL (onL on n)))) (o5 (F9 (castL (onL on n)) x) λ(x_1:Int)=>l7 (x8 x_1 (p:Int)) (some (.rt x)) (some (.nx (x9 .i64 x 1)))) (some (.ex PUnit.unit)))
  (s:=0) (λx=>∃i:Nat,x=i/\i<=(onL on n).length/\∀j,j<i->(onL on n)[j]?≠some p) (λ_=>∀j,j<(onL on n).length->(onL on n)[j]?≠some p) (λr=>∃i:Nat,r=(i:Int)/\(onL on n)[i]? =some p) (λx=>(onL on n).length -x.toNat) ⟨0,rfl,l9,λj hj=>by omega⟩ V6 (by
  rintro x ⟨i,rfl,hi,hno⟩;by_cases hlt:i<(onL on n).length
  .have e:=eG hlt;have e2:=a7R e;have e3:D9 (i:Int) (o9 (castL (onL on n)))=true:=H6 e2;rw[e3,o7,E5,e2,o8];by_cases hq:(onL on n)[i]=p
   .right;right;exact⟨_,by rw[O8 l9];rfl,i,rfl,by rw[e,hq]⟩
   .left;refine⟨((i+1:Nat):Int),by rw[J6 l9,Y1 l9];rfl,⟨i+1,rfl,hlt,λj hj=>?_⟩,by simp;omega⟩;by_cases hji:j=i
    .subst hji;rw[e];intro h;exact hq (aP h)
    .exact hno j l9
  .right;left;have hil:i=(onL on n).length:=l9;subst hil;have e3:D9 ((onL on n).length:Int) (o9 (castL (onL on n)))=false:=by
    have:=G6 (castL (onL on n));rw[show(castL (onL on n)).length=(onL on n).length by simp[castL]]at this;exact this
   exact⟨_,by rw[e3];rfl,hno⟩)
 rcases key with⟨e,k1,k2⟩|⟨r,k1,i,k2,k3⟩
 .refine(kR k1 _).trans ?_;by_cases ho:on p=true
  .have:=a7i on hp ho;exact absurd this (k2 _ (X6.1 this).1)
  .rw[if_neg ho];rfl
 .refine(kR k1 _).trans ?_;have hm:=a0I on (iO k3);have:=a7i on hp hm.2;rw[if_pos hm.2,k2,a8A (a4S on n) k3 this];rfl
theorem b6W(on:Nat->Bool)(par:Nat->Int):∀i:Nat,anc on par i=if h:0<=par i/\par i<(i:Int)then(if on (par i).toNat=true then(MZ on (par i).toNat:Int)else anc on par (par i).toNat)else -1:=by
 intro i;by_cases h:0<=par i/\par i<(i:Int)
 .rw[dif_pos h];rw[show anc on par i=FH on par (par i).toNat by unfold anc;rw[if_pos h],a7d]
 .rw[dif_neg h];unfold anc;rw[if_neg h]
theorem a5g(h:s.2.2.2.2.length<=1000)(on:Nat->Bool)(hi:i<s.2.2.2.2.length):FU s (castL (onL on s.2.2.2.2.length)) (i:Int)=some (anc on (Jt s) i):=by
 unfold FU;have hp:∀k:Nat,(hk:k<s.2.2.2.2.length)->∃r,s.2.2.2.2[k]? =some r/\(Jt s k=r.2.2.1):=λk hk=>⟨_,eG hk,by unfold Jt;rw[eG hk]⟩;obtain⟨r,hr,hpr⟩:=hp i hi;rw[E5,hr,o8];have key:=vP (f:=λ(x:Int×Int)=>l7 (J5 0 x.2) (l7 (D9 x.2 x.1) (o5 (EH (castL (onL on s.2.2.2.2.length)) x.2) λ(x_1:Int)=>l7 (J5 0 x_1) (some (.rt x_1)) (o5 (F9 s.2.2.2.2 x.2) λ(x_2:ak)=>some (.nx (x.2,x_2.2.2.1)))) (some (.ex PUnit.unit))) (some (.ex PUnit.unit)))
  (s:=((i:Int),r.2.2.1)) (λx=>∃k:Nat,x=((k:Int),Jt s k)/\k<s.2.2.2.2.length/\anc on (Jt s) k=anc on (Jt s) i) (λ_=>anc on (Jt s) i=-1) (λq=>q=anc on (Jt s) i) (λx=>x.1.toNat) ⟨i,by rw[hpr],hi,rfl⟩ V6 (by
  rintro x ⟨k,rfl,hk,ha⟩;simp only;rw[←ha,b6W on (Jt s) k];by_cases hc:0<=Jt s k/\Jt s k<(k:Int)
  .rw[X5 hc.1,S9 hc.2,dif_pos hc];simp only[o7];obtain⟨p,hpp⟩:∃p:Nat,Jt s k=(p:Int):=⟨(Jt s k).toNat,l9⟩;rw[hpp,a8S on h (show p<s.2.2.2.2.length by omega),o8,U2];by_cases ho:on p=true
   .rw[if_pos ho,if_pos ho];exact .inr (.inr ⟨_,by rw[X5 l9];rfl,rfl⟩)
   .rw[if_neg ho,if_neg ho];left;obtain⟨q,hq1,hq2⟩:=hp p l9;refine⟨((p:Int),Jt s p),by rw[Y4 l9,o6,E5,hq1,o8,hq2],⟨p,rfl,l9,?_⟩,by simp;omega⟩;rfl
  .rw[dif_neg hc];right;left;refine⟨PUnit.unit,?_,rfl⟩;by_cases h0:0<=Jt s k
   .rw[X5 h0,J9 l9];rfl
   .rw[Y4 l9];rfl)
 rcases key with⟨e,k1,k2⟩|⟨q,k1,k2⟩
 .refine(kR k1 _).trans ?_;rw[k2];rfl
 .refine(kR k1 _).trans ?_;rw[k2];rfl
theorem a5j(h:s.2.2.2.2.length<=1000)(d t:Int):FT s d t=some (iC s d t):=by
 have hl:=Eg (onR s d t) s.2.2.2.2.length;unfold FT;rw[a3k h,o8];refine aZ (castL (pG s d t)) (λ(b:d1v×d1v) (k:Int)=>(b.1++[anc (onR s d t) (Jt s) k.toNat],b.2++[Yn s k.toNat])) (λb i=>(b.1,b.2,i)) (λb=>b) (λi b=>b.1.length=i/\b.2.length=i) (([],[]):d1v×d1v) (by unfold castL pG;simp;omega) A7 (λi a b ha hi hI=>?_) (λb hI=>?_) (λh2=>?_)
 .obtain⟨b1,b2⟩:=b;simp only at hI;simp only[H6 ha,o7,E5 (castL (pG s d t)),ha,o8];rw[show U0 (castL (pG s d t)) (U9 (i:Int))=some a from ha,o8];obtain⟨k,hk,rfl⟩:∃k,k∈pG s d t/\(k:Int)=a:=by
   have:=iO ha;unfold castL at this;exact bQ.1 this
  have hlt:=UE hk;have e:=eG hlt.1;have hil:=(X6.1 ha).1;simp only[castL,V9]at hil;unfold pG at hil;rw[show castL (pG s d t)=castL (onL (onR s d t) s.2.2.2.2.length)from rfl,a5g h _ hlt.1,o8,iR _ l9,o8,o8,E5,e,o8,iR _ l9,o8,Y1 l9];refine⟨?_,by simp[hI.1],by simp[hI.2]⟩;simp only[Yn,U2,e]
 .simp only[G6];rfl
 .have hf:∀(l:d1w) (b:d1v×d1v),(castL l).foldl (λ(b:d1v×d1v) (k:Int)=>(b.1++[anc (onR s d t) (Jt s) k.toNat],b.2++[Yn s k.toNat])) b=(b.1++l.map (anc (onR s d t) (Jt s)),b.2++l.map (Yn s)):=by
   intro l;induction l with
   |nil=>intro b;simp[castL]|cons a l ih=>intro b;rw[show castL (a::l)=(a:Int)::castL l from rfl,P5,ih];simp
  rw[hf];rfl
end
section
def Qk(par prio:d1v)(i:Nat):d1B:=match par[i]?,prio[i]? with
 |some p,some q=>l7 (D9 p (-1)) (some 9) (l7 (J5 (i:Int) p) (some 9) (l7 (D9 q 0) (some 3) (l7 (D9 9 q) (some 3) none)))|_,_=>none
def Jh(par prio:d1v):Int:=l7 (D7 (x8 (o9 par) (o9 prio))) 2 (l7 (D9 8 (o9 par)) 4 (match Z4 par.length (Qk par prio)with|some r=>r|none=>0))
theorem b4s(par prio:d1v):xw par prio=some (Jh par prio):=by
 unfold xw Jh;cases h1:x8 (o9 par) (o9 prio)
 .rfl
 simp only[D8,o6];cases h2:D9 8 (o9 par)
 case true=>rfl
 simp only[o6];have hl:par.length=prio.length:=by rw[Y5]at h1;simp only[o9]at h1;omega
 refine U8 (qp (p:=Qk par prio) par.length (by rw[iI]at h2;simp only[o9]at h2;omega) PUnit.unit (λk hk=>?_) ?_) ?_
 rotate_left 2
 .cases Z4 par.length (Qk par prio)<;>rfl
 .have e:=eG hk;have e2:=eG (show k<prio.length by omega);simp only[H6 e,o7,E5,e,e2,o8,Qk];cases D9 par[k] (-1)
  case true=>rfl
  cases J5 (k:Int) par[k]
  case true=>rfl
  cases D9 prio[k] 0
  case true=>rfl
  cases D9 9 prio[k]<;>rfl
 .rw[G6];rfl
theorem a8V(par prio:d1v):CS par prio=some (Jh par prio):=by
 unfold CS Jh;cases h1:x8 (o9 par) (o9 prio)
 .rfl
 simp only[D8,o6];cases h2:D9 8 (o9 par)
 case true=>rfl
 simp only[o6];have hl:par.length=prio.length:=by rw[Y5]at h1;simp only[o9]at h1;omega
 refine U8 (qp (p:=Qk par prio) par.length (by rw[iI]at h2;simp only[o9]at h2;omega) PUnit.unit (λk hk=>?_) ?_) ?_
 rotate_left 2
 .cases Z4 par.length (Qk par prio)<;>rfl
 .have e:=eG hk;have e2:=eG (show k<prio.length by omega);simp only[H6 e,o7,E5,e,e2,o8,Qk];cases D9 par[k] (-1)
  case true=>rfl
  cases J5 (k:Int) par[k]
  case true=>rfl
  cases D9 prio[k] 0
  case true=>rfl
  cases D9 9 prio[k]<;>rfl
 .rw[G6];rfl
theorem Fq{ρ:Type}{n:Nat}{p:Nat->Option ρ}(h:Z4 n p=none):∀i,i<n->p i=none:=by unfold Z4 at h;intro i hi;exact ji.1 h i (bg.2 hi)
theorem DZ{par prio:d1v}(h:Jh par prio=0):par.length=prio.length/\par.length<=8/\∀(i:Nat) (p:Int),par[i]? =some p->-1<=p/\p<(i:Int):=by
 unfold Jh at h;cases h1:x8 (o9 par) (o9 prio)<;>rw[h1]at h
 .cases h
 simp only[D8,o6]at h;cases h2:D9 8 (o9 par)<;>rw[h2]at h
 case true=>cases h
 simp only[o6]at h;have hl:par.length=prio.length:=by rw[Y5]at h1;simp only[o9]at h1;omega
 refine⟨hl,by rw[iI]at h2;simp only[o9]at h2;omega,λi p hp=>?_⟩;have hi:=(X6.1 hp).1;cases hf:Z4 par.length (Qk par prio)with
 |some r=>
  rw[hf]at h;simp only at h;obtain⟨k,hk,hr⟩:=ja hf;unfold Qk at hr;split at hr
  .subst h;rename_i a b _ _;cases c1:D9 a (-1)<;>rw[c1]at hr<;>try (cases hr;done)
   cases c2:J5 (k:Int) a<;>rw[c2]at hr<;>try (cases hr;done)
   cases c3:D9 b 0<;>rw[c3]at hr<;>try (cases hr;done)
   cases c4:D9 9 b<;>rw[c4]at hr<;>cases hr
  .cases hr
 |none=>
  have:=Fq hf i hi;unfold Qk at this;rw[hp,eG (show i<prio.length by omega)]at this;simp only at this;cases c1:D9 p (-1)<;>rw[c1]at this
  case true=>cases this
  cases c2:J5 (i:Int) p<;>rw[c2]at this
  case true=>cases this
  rw[iI]at c1;rw[GL]at c2;exact⟨c1,c2⟩
def a2x(par:d1v)(at' :Int)(i:Nat):Bool:=match par[i]? with|some p=>x8 p at'|none=>false
def AX(par:d1v)(at' :Int):d1w:=onL (a2x par at') par.length
variable {par:d1v}
theorem UT(h:par.length<=1000)(at' :Int):tH par at' =some (castL (AX par at')):=by
 unfold tH;rw[fJ];obtain⟨e,h1,h2⟩:=gy (f:=λ(x:d1v×Int)=>l7 (D9 x.2 (o9 par)) (o5 (F9 par x.2) λ(x_1:Int)=>l7 (x8 x_1 at') (o5 (dG x.1 [x.2]) λ(x_2:d1v)=>some (.inl (x_2,x9 .i64 x.2 1))) (some (.inl (x.1,x9 .i64 x.2 1)))) (some (.inr x.1)))
  (s:=([],0)) (λx=>∃i:Nat,x=(castL (onL (a2x par at') i),(i:Int))/\i<=par.length) (λe=>e=castL (AX par at')) (λx=>par.length -x.2.toNat) ⟨0,rfl,l9⟩ V6 (by
  rintro x ⟨i,rfl,hi⟩;by_cases hlt:i<par.length
  .left;have e:=eG hlt;have hol:=Eg (a2x par at') i;refine⟨(castL (onL (a2x par at') (i+1)),((i+1:Nat):Int)),?_,⟨i+1,rfl,hlt⟩,by simp;omega⟩;simp only[H6 e,o7,E5,e,o8];rw[Y1 l9,iR _ (by simp[castL];omega),NK];have hon:a2x par at' i=x8 par[i] at' :=by unfold a2x;rw[e]
   rw[hon];cases x8 par[i] at'<;>simp[castL]
  .right;have:i=par.length:=l9;subst this;exact⟨_,by rw[G6];rfl,rfl⟩)
 rw[h1,h2]
theorem a0U:Hq=tH:=rfl
theorem a0B{at' :Int}{i:Nat}(h:i∈AX par at'):i<par.length/\par[i]? =some at' :=by obtain⟨h1,h2⟩:=a0I _ h;refine⟨h1,?_⟩;unfold a2x at h2;rw[eG h1]at h2 ⊢;simp only[Y5]at h2;rw[h2]
def bG(oc pr:Int->Int)(acc:d1v)(a:Int):d1v:=l7 (x8 (oc a) (-1)) acc (match acc with
 |[]=>[a]
 |b::r=>l7 (D9 (pr b) (pr a)) [a] (l7 (x8 (pr a) (pr b)) (b::r++[a]) (b::r)))
theorem a9R(oc pr:Int->Int){acc:d1v}{a x:Int}(h:x∈bG oc pr acc a):x∈acc\/x=a:=by
 unfold bG at h;cases h1:x8 (oc a) (-1)<;>rw[h1]at h
 case true=>exact .inl h
 simp only[o6]at h;cases acc with
 |nil=>exact .inr (by simpa using h)|cons b r=>
  simp only at h;cases h2:D9 (pr b) (pr a)<;>rw[h2]at h
  .simp only[o6]at h;cases h3:x8 (pr a) (pr b)<;>rw[h3]at h
   .exact .inl h
   .simp only[o7]at h;rcases F7.1 h with h|h
    .exact .inl h
    .exact .inr (by simpa using h)
  .exact .inr (by simpa using h)
theorem b7n(oc pr:Int->Int)(acc:d1v)(a:Int):(bG oc pr acc a).length<=acc.length+1:=by
 unfold bG;cases x8 (oc a) (-1)
 case true=>simp
 simp only[o6];cases acc with
 |nil=>simp|cons b r=>
  simp only;cases D9 (pr b) (pr a)
  .cases x8 (pr a) (pr b)<;>simp
  .simp
def Io(oc pr:Int->Int)(l:d1v):d1v:=l.foldl (bG oc pr) []
theorem a1S(oc pr:Int->Int):∀(l acc:d1v) (x:Int),x∈l.foldl (bG oc pr) acc->x∈acc\/x∈l
 |[],acc,x,h=> .inl h|a::l,acc,x,h=>by
  rcases a1S oc pr l _ x h with h|h
  .rcases a9R oc pr h with h|h
   .exact .inl h
   .exact .inr (by simp[h])
  .exact .inr (by simp[h])
variable {x:Int}
theorem JD{oc pr:Int->Int}{l:d1v}(h:x∈Io oc pr l):x∈l:=by
 rcases a1S oc pr l [] x h with h|h
 .cases h
 .exact h
theorem WV{oc oc' pr:Int->Int} :∀(l acc:d1v),(∀x∈l,oc x=oc' x)->l.foldl (bG oc pr) acc=l.foldl (bG oc' pr) acc
 |[],acc,_=>rfl|a::l,acc,h=>by rw[P5,P5,WV l _ λx hx=>h x (by simp[hx])];congr 1;unfold bG;rw[h a A7]
def chF(oc pr:Int->Int)(l:d1v):Int:=match Io oc pr l with|[]=>-1|[b]=>oc b|_=>-2
theorem ZV{oc oc' pr:Int->Int}{l:d1v}(h:∀x∈l,oc x=oc' x):chF oc pr l=chF oc' pr l:=by
 have e:Io oc pr l=Io oc' pr l:=WV l [] h;unfold chF;rw[e];cases hb:Io oc' pr l with
 |nil=>rfl|cons b r=>
  cases r with
  |nil=>exact h b (JD (oc:=oc') (pr:=pr) (by rw[hb];simp))|cons c r=>rfl
section
variable (par prio:d1v) (ap:d1z)
def prF(i:Int):Int:=prio.getD i.toNat 0
def apF(i:Int):Bool:=ap.getD i.toNat false
def ocF:Nat->Int->Int
 |0,_=>-1|k+1,i=>l7 (x8 (chF (ocF k) (prF prio) (castL (AX par i))) (-1)) (l7 (apF ap i) i (-1)) (chF (ocF k) (prF prio) (castL (AX par i)))
variable (hv:Jh par prio=0)
include hv
theorem TY{i x:Int}(h:x∈castL (AX par i)):i<x/\x<(par.length:Int)/\0<=x:=by unfold castL at h;obtain⟨k,hk,rfl⟩:=bQ.1 h;obtain⟨h1,h2⟩:=a0B hk;have:=(DZ hv).2.2 k i h2;omega
theorem G_:∀(k k' :Nat) (i:Int),(par.length:Int) -i<=k->(par.length:Int) -i<=k' ->i<par.length->ocF par prio ap k i=ocF par prio ap k' i
 |0,_,i,h,_,h2=>by omega|_+1,0,i,_,h,h2=>by omega|k+1,k' +1,i,h,h',h2=>by
  unfold ocF;have:chF (ocF par prio ap k) (prF prio) (castL (AX par i))=chF (ocF par prio ap k') (prF prio) (castL (AX par i)):=
   ZV λx hx=>by have:=TY par prio hv hx;exact G_ k k' x l9 l9 l9
  rw[this]
end
end
section
theorem KZ{prio:d1v}{i:Int}(h0:0<=i)(h:i<o9 prio):F9 prio i=some (prF prio i):=by obtain⟨x,hx,_⟩:=mV h0 h;rw[hx];have:=(qw hx).2.2.2;unfold prF;rw[zH,this];rfl
theorem ZQ{f:d1v×Int->Option ((d1v×Int)⊕d1v)}(oc:Int->Int)(prio:d1v)(l:d1v)(hl:l.length<=1000)(hr:∀x∈l,0<=x/\x<o9 prio)
  (hin:∀(i:Nat) (a:Int) (acc:d1v),l[i]? =some a->acc.length<=1000->(∀x∈acc,0<=x/\x<o9 prio)->0<=a->a<o9 prio->f (acc,(i:Int))=some (.inl (bG oc (prF prio) acc a,x9 .i64 (i:Int) 1)))
  (hend:∀acc,f (acc,(l.length:Int))=some (.inr acc)):Y9 f ([],0)=some (Io oc (prF prio) l):=by
 refine(lU l (bG oc (prF prio)) (λb i=>(b,i)) (λb=>b) (λi acc=>acc.length<=i/\∀x∈acc,0<=x/\x<o9 prio) (b:=[]) l9 ⟨A7,A7⟩ (λi a acc ha hi hI=>?_) (λacc hI=>hend acc)).1;have hlt:=(X6.1 ha).1;have ham:=hr a (iO ha);rw[hin i a acc ha l9 hI.2 ham.1 ham.2,Y1 l9];refine⟨rfl,by have:=b7n oc (prF prio) acc a;omega,λx hx=>?_⟩;rcases a9R _ _ hx with h|h
 .exact hI.2 x h
 .rw[h];exact ham
section
variable (par prio:d1v) (ap:d1z) (hv:Jh par prio=0) (hap:ap.length=par.length)
def OC(i:Int):Int:=ocF par prio ap (par.length+1) i
def chS(at' :Int):Int:=chF (OC par prio ap) (prF prio) (castL (AX par at'))
include hv in
theorem b6i{i:Int}(h0:-1<=i)(h:i<par.length):OC par prio ap i=l7 (x8 (chS par prio ap i) (-1)) (l7 (apF ap i) i (-1)) (chS par prio ap i):=by
 unfold OC chS;rw[ocF];have:chF (ocF par prio ap par.length) (prF prio) (castL (AX par i))=chF (OC par prio ap) (prF prio) (castL (AX par i)):=
  ZV λx hx=>by have:=TY par prio hv hx;exact G_ par prio ap hv _ _ x l9 l9 l9
 rw[this]
include hv in
theorem a2y(i:Int):(castL (AX par i)).length<=8:=by have h1:=Eg (a2x par i) par.length;have h2:=(DZ hv).2.1;unfold castL AX;rw[V9];omega
include hv in
theorem y_{i x:Int}(h:x∈castL (AX par i)):0<=x/\x<o9 prio:=by have:=TY par prio hv h;have h2:=(DZ hv).1;simp only[o9];omega
include hv in
theorem b4o(arr:d1v)(i:Int)(hA:∀x∈castL (AX par i),F9 arr x=some (OC par prio ap x)):vY (par,prio,arr) i=some (Io (OC par prio ap) (prF prio) (castL (AX par i))):=by
 unfold vY;rw[UT (by have:=(DZ hv).2.1;simp only;omega),o8,fJ];refine ZQ (OC par prio ap) prio _ (by have:=a2y par prio hv i;omega) (λx hx=>y_ par prio hv hx) (λk a acc ha hl hacc h0 h1=>?_) (λacc=>?_)
 .simp only[H6 ha,o7,E5 (castL (AX par i)),ha,o8];rw[show U0 (castL (AX par i)) (U9 (k:Int))=some a from ha,o8,hA a (iO ha),o8];unfold bG;cases x8 (OC par prio ap a) (-1)
  case true=>rfl
  simp only[o6,KZ h0 h1,o8];cases acc with
  |nil=>simp only[J9 (show o9 ([]:d1v)<=0 by simp[o9]),o6,o8,O8 (show o9 ([]:d1v)=0 from rfl),o7,iR a (show([]:d1v).length<=1000000 by simp)];rfl|cons b r=>
   have hb:=hacc b A7;simp only[S9 (show(0:Int)<o9 (b::r) by simp[o9]<;>omega),o7,show F9 (b::r) 0=some b from rfl,show U0 (b::r) (U9 0)=some b from rfl,o8,KZ hb.1 hb.2];cases D9 (prF prio b) (prF prio a)
   .simp only[o6,o8,J6 (show o9 (b::r)≠0 by simp[o9]<;>omega),show F9 (b::r) 0=some b from rfl,show U0 (b::r) (U9 0)=some b from rfl,KZ hb.1 hb.2];cases x8 (prF prio a) (prF prio b)
    .rfl
    .rw[o7,o7,iR _ l9];rfl
   .simp only[o7,show qQ 0 0 (o9 (b::r))=true by simp[qQ,o9]<;>omega,show oD (b::r) (U9 0) (U9 0)=[]from rfl,o8,O8 (show o9 ([]:d1v)=0 from rfl),iR a (show([]:d1v).length<=1000000 by simp)];rfl
 .simp only[G6];rfl
include hv in
theorem a7g(arr:d1v)(i:Int)(hA:∀x∈castL (AX par i),F9 arr x=some (OC par prio ap x)):iU (par,prio,arr) i=some (chS par prio ap i):=by
 unfold iU chS chF;rw[b4o par prio ap hv arr i hA,o8];have hsub:∀x∈Io (OC par prio ap) (prF prio) (castL (AX par i)),F9 arr x=some (OC par prio ap x):=λx hx=>hA x (JD hx);generalize Io (OC par prio ap) (prF prio) (castL (AX par i))=b at*;match b,hsub with
 |[],_=>rfl|[x],hsub=>simp only[J6 (show o9 [x]≠0 by simp[o9]),O8 (show o9 [x]=1 from rfl),o6,o7,show F9 [x] 0=some x from rfl,show U0 [x] (U9 0)=some x from rfl,o8,hsub x A7]|x::y::r,_=>rw[J6 (by simp[o9];omega),J6 (by simp[o9];omega)];rfl
include hv hap in
theorem a2W:∃arr,xx par prio ap=some arr/\∀x,0<=x->x<(par.length:Int)->F9 arr x=some (OC par prio ap x):=by
 have h8:=(DZ hv).2.1;unfold xx;rw[show qL (o9 par) (0:Int)=some (List.replicate par.length 0) by unfold qL;rw[if_pos (by simp[o9];omega)];simp[o9],o8];have key:=gy (f:=λ(x:kM×Int)=>l7 (J5 0 x.2) (o5 (iU x.1 x.2) λ(x_1:Int)=>o5 (F9 x.1.2.2 x.2) λ(x_2:Int)=>o5 (U0 x.1.2.2 (U9 x.2)) λ(x_3:Int)=>
   o5 (F9 (bi x.1.2.2 (U9 x.2) x_1) x.2) λ(x_4:Int)=>o5 (U0 (bi x.1.2.2 (U9 x.2) x_1) (U9 x.2)) λ(x_5:Int)=>l7 (x8 x_5 (-1)) (o5 (F9 ap x.2) λ(x_6:Bool)=>l7 x_6 (o5 (F9 (bi x.1.2.2 (U9 x.2) x_1) x.2) λ(x_7:Int)=>
    o5 (U0 (bi x.1.2.2 (U9 x.2) x_1) (U9 x.2)) λ(x_8:Int)=>some (.inl ((x.1.1,x.1.2.1,bi (bi x.1.2.2 (U9 x.2) x_1) (U9 x.2) x.2),I7 .i64 x.2 1))) (some (.inl ((x.1.1,x.1.2.1,bi x.1.2.2 (U9 x.2) x_1),I7 .i64 x.2 1))))
     (some (.inl ((x.1.1,x.1.2.1,bi x.1.2.2 (U9 x.2) x_1),I7 .i64 x.2 1)))) (some (.inr x.1)))
  (s:=((par,prio,List.replicate par.length 0),I7 .i64 (o9 par) 1)) (λx=>∃(arr:d1v) (i:Int),x=((par,prio,arr),i)/\-1<=i/\i<par.length/\arr.length=par.length/\∀x,i<x->x<(par.length:Int)->F9 arr x=some (OC par prio ap x))
  (λy=>∃arr:d1v,y=(par,prio,arr)/\∀x,0<=x->x<(par.length:Int)->F9 arr x=some (OC par prio ap x)) (λx=>(x.2+1).toNat) ?_ ?_ ?_
 .obtain⟨y,k1,arr,rfl,k3⟩:=key;refine⟨arr,(kR k1 _).trans rfl,k3⟩
 .exact⟨_,_,rfl,by rw[P8 (by unfold kL o9;omega)];simp[o9];omega,by rw[P8 (by unfold kL o9;omega)];simp only[o9];omega,A7,λx h1 h2=>by rw[P8 (by unfold kL o9;omega)]at h1;simp only[o9]at h1;omega⟩
 .rw[P8 (by unfold kL o9;omega)];simp[o9];omega
 .rintro x ⟨arr,i,rfl,h1,h2,hlen,hA⟩;by_cases h0:0<=i
  .left;obtain⟨k,rfl⟩:∃k:Nat,i=(k:Int):=⟨i.toNat,l9⟩;have hk:k<arr.length:=l9;have hka:k<ap.length:=l9;have e:=eG hk;have ea:=eG hka;have hch:=a7g par prio ap hv arr (k:Int) (λx hx=>by
    have:=TY par prio hv hx;exact hA x this.1 this.2.1)
   have hs:∀v:Int,F9 (bi arr (U9 (k:Int)) v) (k:Int)=some v:=λv=>by rw[E5];show(arr.set k v)[k]? =some v;rw[xk hk]
   have hs2:∀v:Int,U0 (bi arr (U9 (k:Int)) v) (U9 (k:Int))=some v:=λv=>by have:=hs v;rw[E5]at this;exact this
   have hsub:I7 .i64 (k:Int) 1=(k:Int) -1:=P8 O5;have hoc:=b6i par prio ap hv (i:=(k:Int)) l9 l9;have hapk:apF ap (k:Int)=ap[k]:=by unfold apF;rw[U2,zH,ea];rfl
   rw[hapk]at hoc;refine⟨((par,prio,arr.set k (OC par prio ap (k:Int))),(k:Int) -1),?_,⟨_,_,rfl,l9,l9,by simp[hlen],λx hx1 hx2=>?_⟩,by simp<;>omega⟩
   .simp only[X5 h0,o7,hch,o8,E5 arr,e,show U0 arr (U9 (k:Int))=some arr[k]from e,hs,hs2,E5 ap,ea,hsub];rw[hoc];cases hq:x8 (chS par prio ap (k:Int)) (-1)
    .simp only[o6];rfl
    .simp only[o7];cases ap[k]
     .rw[Y5.1 hq];rfl
     .simp only[o7];show some (Sum.inl ((par,prio,(arr.set k _).set k _),_))=_;rw[List.set_set]
   .unfold F9
    rw[if_pos l9];by_cases hxk:x=(k:Int)
    .rw[hxk,U2,xk hk]
    .have:=hA x l9 hx2;unfold F9 at this;rw[if_pos l9]at this;rw[W9,if_neg l9];exact this
  .right;exact⟨(par,prio,arr),by rw[Y4 l9];rfl,arr,rfl,λx hx1 hx2=>hA x l9 hx2⟩
end
def Kq(par prio:d1v)(ap:d1z):Int:=l7 (x8 (Jh par prio) 0) (l7 (x8 (o9 ap) (o9 par)) (chS par prio ap (-1)) (-1)) (-1)
theorem a9m(par prio:d1v)(ap:d1z):AC par prio ap=some (Kq par prio ap):=by
 unfold AC Kq;rw[b4s,o8];cases hv:x8 (Jh par prio) 0
 .rfl
 simp only[D8,o6,o7];cases hl:x8 (o9 ap) (o9 par)
 .rfl
 simp only[D8,o6,o7];have hv' :=Y5.1 hv;have hl' :ap.length=par.length:=by rw[Y5]at hl;simp only[o9]at hl;omega
 obtain⟨arr,h1,h2⟩:=a2W par prio ap hv' hl';rw[h1,o8,fJ];exact a7g par prio ap hv' arr (-1) λx hx=>by have:=TY par prio hv' hx;exact h2 x this.2.2 this.2.1
section
variable (par prio:d1v) (ap:d1z) (hv:Jh par prio=0) (hap:ap.length=par.length)
include hv hap in
theorem a1a:∀(f:Nat) (i:Int),-1<=i->i<par.length->
  (3*((par.length:Int) -i) -1<=f->(I5 f).1 par prio ap i=some (chS par prio ap i))/\
  (3*((par.length:Int) -i) -2<=f->(I5 f).2.1 par prio ap i=some (Io (OC par prio ap) (prF prio) (castL (AX par i))))/\
  (0<=i->3*((par.length:Int) -i)<=f->(I5 f).2.2 par prio ap i=some (OC par prio ap i))
 |0,i,h1,h2=>⟨λh=>by omega,λh=>by omega,λ_ h=>by omega⟩|f+1,i,h1,h2=>by
  obtain⟨ih1,ih2,ih3⟩:=a1a f i h1 h2;have hkid:∀x∈castL (AX par i),3*((par.length:Int) -i) -3<=f->(I5 f).2.2 par prio ap x=some (OC par prio ap x):=λx hx hf=>by have hk:=TY par prio hv hx;exact(a1a f x l9 l9).2.2 hk.2.2 l9
  refine⟨λh=>?_,λh=>?_,λh0 h=>?_⟩
  .show zu (I5 f).1 (I5 f).2.1 (I5 f).2.2 par prio ap i=_;unfold zu;rw[ih2 l9,o8];unfold chS chF;have hsub:∀x∈Io (OC par prio ap) (prF prio) (castL (AX par i)),(I5 f).2.2 par prio ap x=some (OC par prio ap x):=λx hx=>hkid x (JD hx) l9;generalize Io (OC par prio ap) (prF prio) (castL (AX par i))=b at*;match b,hsub with
   |[],_=>rfl|[x],hsub=>simp only[J6 (show o9 [x]≠0 by simp[o9]),J9 (show o9 [x]<=1 by simp[o9]),o6,show F9 [x] 0=some x from rfl,o8,hsub x A7]|x::y::r,_=>rw[J6 (by simp[o9];omega),S9 (by simp[o9];omega)];rfl
  .show ES (I5 f).1 (I5 f).2.1 (I5 f).2.2 par prio ap i=_;unfold ES;rw[a0U,UT (by have:=(DZ hv).2.1;omega),o8,fJ];refine ZQ (OC par prio ap) prio _ (by have:=a2y par prio hv i;omega) (λx hx=>y_ par prio hv hx) (λk a acc ha hl hacc g0 g1=>?_) (λacc=>?_)
   .simp only[H6 ha,o7,E5 (castL (AX par i)),ha,o8];rw[show U0 (castL (AX par i)) (U9 (k:Int))=some a from ha,o8,hkid a (iO ha) l9,o8];unfold bG;cases x8 (OC par prio ap a) (-1)
    case true=>rfl
    simp only[o6,o8,KZ g0 g1];cases acc with
    |nil=>simp only[J9 (show o9 ([]:d1v)<=0 by simp[o9]),o6,o8,O8 (show o9 ([]:d1v)=0 from rfl),o7,iR a (show([]:d1v).length<=1000000 by simp)];rfl|cons b r=>
     have hb:=hacc b A7;simp only[S9 (show(0:Int)<o9 (b::r) by simp[o9]<;>omega),o7,show F9 (b::r) 0=some b from rfl,show U0 (b::r) (U9 0)=some b from rfl,o8,KZ hb.1 hb.2];cases D9 (prF prio b) (prF prio a)
     .simp only[o6,o8,J6 (show o9 (b::r)≠0 by simp[o9]<;>omega),show F9 (b::r) 0=some b from rfl,show U0 (b::r) (U9 0)=some b from rfl,KZ hb.1 hb.2];cases x8 (prF prio a) (prF prio b)
      .rfl
      .rw[o7,o7,iR _ l9];rfl
     .simp only[o7,o8,O8 (show o9 ([]:d1v)=0 from rfl),iR a (show([]:d1v).length<=1000000 by simp)];rfl
   .simp only[G6];rfl
  .show Bc (I5 f).1 (I5 f).2.1 (I5 f).2.2 par prio ap i=_;unfold Bc;rw[ih1 l9,o8,b6i par prio ap hv h1 h2];obtain⟨k,rfl⟩:∃k:Nat,i=(k:Int):=⟨i.toNat,l9⟩;have ea:=eG (show k<ap.length by omega);have hapk:apF ap (k:Int)=ap[k]:=by unfold apF;rw[U2,zH,ea];rfl
   rw[hapk,E5,ea,o8];cases hq:x8 (chS par prio ap (k:Int)) (-1)
   .rfl
   .simp only[o7];rw[Y5.1 hq];cases ap[k]<;>rfl
end
theorem a5i(par prio:d1v)(ap:d1z):FP par prio ap=some (Kq par prio ap):=by
 unfold FP Kq;rw[a8V,o8];cases hv:x8 (Jh par prio) 0
 .rfl
 simp only[D8,o6,o7];cases hl:x8 (o9 ap) (o9 par)
 .rfl
 simp only[D8,o6,o7];have hv' :=Y5.1 hv;have hl' :ap.length=par.length:=by rw[Y5]at hl;simp only[o9]at hl;omega
 have h8:=(DZ hv').2.1;have:=(a1a par prio ap hv' hl' jU (-1) l9 l9).1 (by unfold jU;omega);rw[show Hr par prio ap (-1)=(I5 jU).1 par prio ap (-1)from rfl,this];rfl
variable {l:d1v}{i:Nat}
theorem a8g(h:i<l.length):F9 l (i:Int)=some (hg l i):=by rw[E5];exact yG h
variable {j:Nat}
theorem a2q(hi:i<l.length)(hj:j<l.length):dC l (i:Int) (j:Int)=some (D9 (hg l i) (hg l j)):=by unfold dC;rw[a8g hi,o8,a8g hj,o8]
theorem a2r(hi:i<l.length)(hj:j<l.length):eQ l (i:Int) (j:Int)=some (swp l i j):=by
 unfold eQ;have e1:U0 l (U9 (i:Int))=some (hg l i):=yG hi;have e2:U0 l (U9 (j:Int))=some (hg l j):=yG hj;have hj2:j<(bi l (U9 (i:Int)) (hg l j)).length:=by show j<(l.set i (hg l j)).length;simp[hj]
 have e3:U0 (bi l (U9 (i:Int)) (hg l j)) (U9 (j:Int))=some (hg (bi l (U9 (i:Int)) (hg l j)) j):=yG hj2;rw[a8g hj,o8,e2,o8,a8g hi,o8,e1,o8,o8,o8,a8g hj2,o8,e3,o8];rfl
theorem Ym{l m:d1v}(h:l.Perm m):l.length=m.length:=h.length_eq
theorem d0u(hl:l.length<=100000)(hj:j<l.length)(h:TC l j):∃l',xf l (j:Int)=some l' /\ML l' l'.length/\l'.Perm l:=by
 unfold xf;have key:=gy (f:=λ(x:d1v×Int)=>l7 (x8 (dD .i64 (I7 .i64 x.2 1) 2) x.2) (some (.inr x.1)) (o5 (dC x.1 x.2 (dD .i64 (I7 .i64 x.2 1) 2)) λ(x_1:Bool)=>l7 (D7 x_1) (some (.inr x.1))
   (o5 (eQ x.1 (dD .i64 (I7 .i64 x.2 1) 2) x.2) λ(x_2:d1v)=>some (.inl (x_2,dD .i64 (I7 .i64 x.2 1) 2)))))
  (s:=(l,(j:Int))) (λx=>∃(m:d1v) (k:Nat),x=(m,(k:Int))/\k<m.length/\TC m k/\m.Perm l) (λm=>ML m m.length/\m.Perm l) (λx=>x.2.toNat) ⟨l,j,rfl,hj,h,List.Perm.refl _⟩ V6 (by
  rintro x ⟨m,k,rfl,hk,hu,hp⟩;have hm:=Ym hp;by_cases h0:k=0
  .subst h0;exact .inr ⟨m,rfl,XE hu (.inl rfl),hp⟩
  have hpar:dD .i64 (I7 .i64 (k:Int) 1) 2=(((k -1) / 2:Nat):Int):=by rw[P8 O5,BR (by rw[jQ l9];unfold kL;omega),jQ l9];omega
  simp only[hpar];rw[J6 l9,o6,a2q hk l9,o8];cases hc:D9 (hg m k) (hg m ((k -1) / 2))
  .exact .inr ⟨m,rfl,XE hu (.inr (by rw[iI]at hc;exact hc)),hp⟩
  .rw[D8,o6,a2r l9 hk];exact .inl ⟨(swp m ((k -1) / 2) k,(((k -1) / 2:Nat):Int)),rfl,⟨_,_,rfl,by rw[LM];omega,a2p hu l9 hk (kz.1 hc),(Om l9 hk).trans hp⟩,by simp;omega⟩)
 obtain⟨m,k1,k2,k3⟩:=key;exact⟨m,(kR k1 _).trans rfl,k2,k3⟩
theorem l_(hl:l.length<=1000)(h:ML l l.length)(x:Int):∃l',gJ l x=some l' /\ML l' l'.length/\l'.Perm (l++[x]):=by
 unfold gJ BJ lu;rw[iR _ l9,o8,o8,o8];have hlen:(l++[x]).length=l.length+1:=A7;have hu:TC (l++[x]) l.length:=by
  refine⟨λk k0 k1 k2=>?_,λh0 k k0 k1 k2=>by omega⟩;have hk:k<l.length:=l9;have hga:∀i,i<l.length->hg (l++[x]) i=hg l i:=λi hi=>by unfold hg;rw[zH,zH,O0 hi]
  rw[hga k hk,hga _ l9];exact h k k0 hk
 obtain⟨m,k1,k2,k3⟩:=d0u (l:=l++[x]) (j:=l.length) l9 l9 hu;refine⟨m,?_,k2,k3⟩;rw[show I7 .i64 (o9 (l++[x])) 1=((l.length:Nat):Int) by rw[P8 (by unfold kL o9;omega)];simp[o9],k1];rfl
theorem b4N{n i:Nat}(hl:l.length<=100000)(hn:n<=l.length)(hi:i<l.length)(h:Jz l n i):∃b l',uo l (i:Int) (n:Int)=some (b,l')/\ML l' n/\l'.Perm l/\l'.drop n=l.drop n:=by
 unfold uo;have key:=gy (f:=λ(x:d1v×Int)=>l7 (J5 (n:Int) (x9 .i64 (X9 .i64 2 x.2) 1)) (some (.inr x)) (l7 (D9 (x9 .i64 (X9 .i64 2 x.2) 1) 0) (some (.inr x)) (l7 (D9 (x9 .i64 (x9 .i64 (X9 .i64 2 x.2) 1) 1) (n:Int))
   (o5 (dC x.1 (x9 .i64 (x9 .i64 (X9 .i64 2 x.2) 1) 1) (x9 .i64 (X9 .i64 2 x.2) 1)) λ(x_1:Bool)=>l7 x_1 (o5 (dC x.1 (x9 .i64 (x9 .i64 (X9 .i64 2 x.2) 1) 1) x.2) λ(x_2:Bool)=>l7 (D7 x_2) (some (.inr x))
     (o5 (eQ x.1 x.2 (x9 .i64 (x9 .i64 (X9 .i64 2 x.2) 1) 1)) λ(x_3:d1v)=>some (.inl (x_3,x9 .i64 (x9 .i64 (X9 .i64 2 x.2) 1) 1)))) (o5 (dC x.1 (x9 .i64 (X9 .i64 2 x.2) 1) x.2) λ(x_2:Bool)=>l7 (D7 x_2) (some (.inr x))
     (o5 (eQ x.1 x.2 (x9 .i64 (X9 .i64 2 x.2) 1)) λ(x_3:d1v)=>some (.inl (x_3,x9 .i64 (X9 .i64 2 x.2) 1)))))
   (o5 (dC x.1 (x9 .i64 (X9 .i64 2 x.2) 1) x.2) λ(x_1:Bool)=>l7 (D7 x_1) (some (.inr x)) (o5 (eQ x.1 x.2 (x9 .i64 (X9 .i64 2 x.2) 1)) λ(x_2:d1v)=>some (.inl (x_2,x9 .i64 (X9 .i64 2 x.2) 1)))))))
  (s:=(l,(i:Int))) (λx=>∃(m:d1v) (k:Nat),x=(m,(k:Int))/\k<m.length/\Jz m n k/\m.Perm l/\m.drop n=l.drop n) (λy=>ML y.1 n/\y.1.Perm l/\y.1.drop n=l.drop n) (λx=>l.length -x.2.toNat) ⟨l,i,rfl,hi,h,List.Perm.refl _,rfl⟩ V6 (by
  rintro x ⟨m,k,rfl,hk,hd,hp,hdr⟩;have hm:=Ym hp;have hc1:x9 .i64 (X9 .i64 2 (k:Int)) 1=((2*k+1:Nat):Int):=by rw[lQ O5,X4 O5];omega
  have hc2:x9 .i64 (((2*k+1:Nat):Int)) 1=((2*k+2:Nat):Int):=by rw[X4 O5];omega
  have dswp:∀a b,a<n->b<n->(swp m a b).drop n=l.drop n:=λa b ha hb=>by unfold swp;rw[List.drop_set_of_lt hb,List.drop_set_of_lt ha,hdr]
  simp only[hc1,hc2];by_cases h1:n<=2*k+1
  .rw[X5 l9,o7];exact .inr ⟨_,rfl,Fz hd (λj j0 j1 j2=>by omega),hp,hdr⟩
  rw[Y4 l9,o6,J9 l9,o6];by_cases h2:2*k+2<n
  .rw[S9 l9,o7,a2q l9 l9,o8];cases hc:D9 (hg m (2*k+2)) (hg m (2*k+1))
   .rw[iI]at hc;rw[o6,a2q l9 hk,o8];cases hq:D9 (hg m (2*k+1)) (hg m k)
    .rw[iI]at hq;exact .inr ⟨_,rfl,Fz hd (λj j0 j1 j2=>by have:j=2*k+1\/j=2*k+2:=l9;rcases this with rfl|rfl<;>(dsimp only;omega)),hp,hdr⟩
    .rw[D8,o6,a2r hk l9];exact .inl ⟨(swp m k (2*k+1),((2*k+1:Nat):Int)),rfl,⟨_,_,rfl,by rw[LM];omega,Jo hd l9 l9 l9 l9 (λj j0 j1 j2=>by
      have:j=2*k+1\/j=2*k+2:=l9;rcases this with rfl|rfl
      .exact gV _
      .exact hc) (kz.1 hq),(Om hk l9).trans hp,dswp _ _ l9 l9⟩,by simp;omega⟩
   .rw[kz]at hc;rw[o7,a2q l9 hk,o8];cases hq:D9 (hg m (2*k+2)) (hg m k)
    .rw[iI]at hq;exact .inr ⟨_,rfl,Fz hd (λj j0 j1 j2=>by have:j=2*k+1\/j=2*k+2:=l9;rcases this with rfl|rfl<;>(dsimp only;omega)),hp,hdr⟩
    .rw[D8,o6,a2r hk l9];exact .inl ⟨(swp m k (2*k+2),((2*k+2:Nat):Int)),rfl,⟨_,_,rfl,by rw[LM];omega,Jo hd l9 l9 l9 l9 (λj j0 j1 j2=>by
      have:j=2*k+1\/j=2*k+2:=l9;rcases this with rfl|rfl
      .omega
      .exact gV _) (kz.1 hq),(Om hk l9).trans hp,dswp _ _ l9 l9⟩,by simp;omega⟩
  .rw[J9 l9,o6,a2q l9 hk,o8];cases hq:D9 (hg m (2*k+1)) (hg m k)
   .rw[iI]at hq;exact .inr ⟨_,rfl,Fz hd (λj j0 j1 j2=>by have:j=2*k+1:=l9;subst this;omega),hp,hdr⟩
   .rw[D8,o6,a2r hk l9];exact .inl ⟨(swp m k (2*k+1),((2*k+1:Nat):Int)),rfl,⟨_,_,rfl,by rw[LM];omega,Jo hd l9 l9 l9 l9 (λj j0 j1 j2=>by have:j=2*k+1:=l9;subst this;exact gV _) (kz.1 hq),(Om hk l9).trans hp,dswp _ _ l9 l9⟩,by simp;omega⟩)
 obtain⟨y,k1,k2,k3,k4⟩:=key;exact⟨D9 (i:Int) y.2,y.1,(kR k1 _).trans rfl,k2,k3,k4⟩
theorem b0x(hl:l.length<=1000)(h:ML l l.length)(h0:0<l.length):∃l',qA l=some (hg l 0,l')/\ML l' l'.length/\(l' ++[hg l 0]).Perm l:=by
 obtain⟨n,hn⟩:∃n,l.length=n+1:=⟨l.length -1,l9⟩;have hsub:I7 .i64 ((l.length:Nat):Int) 1=((n:Nat):Int):=by rw[P8 O5];omega
 unfold qA lu;rw[o8,show o9 l=((l.length:Nat):Int)from rfl,hsub,show(0:Int)=((0:Nat):Int)from rfl,a2r l9 l9,o8];have hlen:(swp l 0 n).length=n+1:=by rw[LM,hn]
 obtain⟨b,m,k1,k2,k3,k4⟩:=b4N (l:=swp l 0 n) (n:=n) (i:=0) l9 l9 l9 (a4E h l9);rw[k1,o8];have hml:=Ym k3;have hmn:m.length=n+1:=l9;have hlast:hg m n=hg l 0:=by
  have e1:(m.drop n)[0]? =((swp l 0 n).drop n)[0]?:=by rw[k4]
  rw[U7,U7,aY,yG l9,yG l9]at e1;rw[aP e1,a0x l9 l9,if_pos rfl]
 unfold Dw;dsimp only;have hs2:I7 .i64 (o9 m) 1=((n:Nat):Int):=by rw[show o9 m=((m.length:Nat):Int)from rfl,hmn,P8 O5];omega
 rw[hs2,a8g l9,o8,show U0 m (U9 (n:Int))=some (hg m n)from yG (i:=n) l9,o8,show qQ 0 (n:Int) (o9 m)=true by simp[qQ,o9];omega,o7,show oD m (U9 0) (U9 (n:Int))=m.take n by simp[oD,U9],hlast];refine⟨m.take n,rfl,?_,?_⟩
 .have:(m.take n).length=n:=by simp;omega
  rw[this];intro k k0 k1';have hga:∀i,i<n->hg (m.take n) i=hg m i:=λi hi=>by unfold hg;rw[zH,zH,iE hi]
  rw[hga k k1',hga _ l9];exact k2 k k0 k1'
 .have hcat:m.take n++[hg l 0]=m:=by
   rw[←hlast];have e:m.drop n=[hg m n]:=by
    apply dZ;intro i;rw[U7];cases i with
    |zero=>rw[aY,yG l9];rfl|succ i=>rw[gW l9];rfl
   rw[←e,gY]
  rw[hcat];exact k3.trans (Om l9 l9)
def pK(O:d1v)(x:Int):Bool:=O.any λy=>x8 y x
variable {O:d1v}
theorem Ez{x:Int} :pK O x=true↔x∈O:=by
 unfold pK;rw[mY];constructor
 .rintro⟨y,hy,h⟩;rw[Y5]at h;exact h▸hy
 .exact λh=>⟨x,h,O8 rfl⟩
theorem a0X(h:O.length<=1000000)(x:Int):BA O x=some (pK O x):=by
 unfold BA;refine U8 (wZ O (λy=>x8 y x) true PUnit.unit h (λi a ha=>?_) ?_) ?_
 rotate_left 2
 .unfold pK;cases O.any λy=>x8 y x<;>rfl
 .simp only[H6 ha,o7,E5,ha,o8];cases x8 a x<;>rfl
 .rw[G6];rfl
def Ut(s:D6)(d:Int)(O:d1v):Bool:=(P7 s d).all λx=>pK O x
variable {s:D6}
theorem a8U(h:SmS s)(hO:O.length<=1000000)(d:Int):BC s d O=some (Ut s d O):=by
 unfold BC;rw[QJ h,o8];have hdl:=KD h d;refine U8 (wZ (P7 s d) (λy=> !pK O y) false PUnit.unit l9 (λi a ha=>?_) ?_) ?_
 rotate_left 2
 .unfold Ut;have:((P7 s d).any λy=> !pK O y)= !(P7 s d).all λx=>pK O x:=by rw[List.not_all_eq_any_not]
  rw[this];cases (P7 s d).all λx=>pK O x<;>rfl
 .simp only[H6 ha,o7,E5,ha,o8];rw[show U0 (P7 s d) (U9 (i:Int))=some a from ha,o8,a0X hO,o8];cases pK O a<;>rfl
 .rw[G6];rfl
def okN(s:D6)(O:d1v)(d:Nat):Bool:=l7 (pK O (d:Int)) false (Ut s (d:Int) O)
def Yc(s:D6)(O:d1v)(d:Nat):Option Nat:=l7 (okN s O d) (some d) none
def NH(s:D6)(O:d1v):Option Nat:=Z4 s.2.2.2.1.length (Yc s O)
theorem b0U{d r:Nat}(h:Yc s O d=some r):r=d/\okN s O d=true:=by
 unfold Yc at h;cases hq:okN s O d<;>rw[hq]at h
 .cases h
 .cases h;exact⟨rfl,rfl⟩
variable {d:Nat}
theorem a4O(h:NH s O=some d):d<s.2.2.2.1.length/\okN s O d=true:=by obtain⟨i,hi,hp⟩:=ja h;obtain⟨rfl,ho⟩:=b0U hp;exact⟨hi,ho⟩
theorem Vq(hd:d<s.2.2.2.1.length)(ho:okN s O d=true)(hn:∀j,j<d->okN s O j=false):NH s O=some d:=by unfold NH;exact Ru (p:=Yc s O) (ji.2 λj hj=>by unfold Yc;rw[hn j (bg.1 hj)];rfl) (by unfold Yc;rw[ho];rfl) hd
theorem Yd(hn:∀j,j<s.2.2.2.1.length->okN s O j=false):NH s O=none:=by unfold NH Z4;exact ji.2 λj hj=>by unfold Yc;rw[hn j (bg.1 hj)];rfl
def Wi(s:D6):Nat->d1v->d1v⊕(d1v×Int)
 |0,O=> .inl O|k+1,O=>if O.length<s.2.2.2.1.length then(match NH s O with|none=> .inr ([],9)|some d=>Wi s k (O++[(d:Int)]))else .inl O
def wX(s:D6):d1v×Int:=match Wi s 100 []with| .inl O=>(O,0)| .inr x=>x
theorem a8T(h:SmS s):rq s=some (wX s):=by
 have hnd:=h.nd;unfold rq;have hn:o9 s.2.2.2.1=((s.2.2.2.1.length:Nat):Int):=rfl;generalize hfd:(λ(x:d1v)=>l7 (D9 (o9 x) (o9 s.2.2.2.1)) (o5 (Y9 (λ(x_1:Int)=>l7 (D9 x_1 (o9 s.2.2.2.1)) (o5 (BA x x_1) λ(x_2:Bool)=>l7 x_2 (some (.inl (x9 .i64 x_1 1))) (o5 (BC s x_1 x) λ(x:Bool)=>l7 (D7 x) (some (.inl (x9 .i64 x_1 1))) (some (.inr x_1)))) (some (.inr x_1))) 0) λ(y:Int)=>
   l7 (x8 y (o9 s.2.2.2.1)) (some (Out.rt ((([],9):d1v×Int)))) (o5 (dG x [y]) λ(x:d1v)=>some (.nx x))) (some (.ex x)))=f
 have step:∀O:d1v,O.length<=100->f O=some (if O.length<s.2.2.2.1.length then(match NH s O with|none=> .rt ([],9)|some d=> .nx (O++[(d:Int)]))else .ex O):=by
  intro O hO;rw[←hfd];simp only;by_cases hlt:O.length<s.2.2.2.1.length
  .rw[S9 (by simp only[o9];omega),if_pos hlt,o7];have key:=gy (f:=λ(x_1:Int)=>l7 (D9 x_1 (o9 s.2.2.2.1)) (o5 (BA O x_1) λ(x_2:Bool)=>l7 x_2 (some (.inl (x9 .i64 x_1 1))) (o5 (BC s x_1 O) λ(x:Bool)=>l7 (D7 x) (some (.inl (x9 .i64 x_1 1))) (some (.inr x_1)))) (some (.inr x_1)))
    (s:=0) (λx=>∃i:Nat,x=i/\i<=s.2.2.2.1.length/\∀j,j<i->okN s O j=false) (λy=>∃i:Nat,y=i/\i<=s.2.2.2.1.length/\(∀j,j<i->okN s O j=false)/\(i<s.2.2.2.1.length->okN s O i=true)) (λx=>s.2.2.2.1.length -x.toNat) ⟨0,rfl,l9,λj hj=>by omega⟩ V6 (by
    rintro x ⟨i,rfl,hi,hno⟩;by_cases hl:i<s.2.2.2.1.length
    .rw[S9 (by rw[hn];omega),o7,a0X l9,o8,a8U h l9,o8,Y1 l9];have hok:okN s O i=l7 (pK O (i:Int)) false (Ut s (i:Int) O):=rfl;cases h1:pK O (i:Int)
     .cases h2:Ut s (i:Int) O
      .exact .inl ⟨_,rfl,⟨i+1,rfl,hl,λj hj=>by
        by_cases hji:j=i
        .subst hji;rw[hok,h1,h2];rfl
        .exact hno j l9⟩,by simp;omega⟩
      .exact .inr ⟨_,rfl,i,rfl,hi,hno,λ_=>by rw[hok,h1,h2];rfl⟩
     .exact .inl ⟨_,rfl,⟨i+1,rfl,hl,λj hj=>by
       by_cases hji:j=i
       .subst hji;rw[hok,h1];rfl
       .exact hno j l9⟩,by simp;omega⟩
    .have:i=s.2.2.2.1.length:=l9;subst this;exact .inr ⟨_,by rw[J9 (by rw[hn];omega)];rfl,_,rfl,F5 _,hno,λhh=>by omega⟩)
   obtain⟨y,k1,i,rfl,hi,hno,hyes⟩:=key;rw[k1,o8];by_cases hl:i<s.2.2.2.1.length
   .rw[J6 (by rw[hn];omega),o6,iR _ l9,o8,Vq hl (hyes hl) hno]
   .rw[O8 (by rw[hn];omega),o7,Yd λj hj=>hno j l9]
  .rw[J9 (by simp only[o9];omega),if_neg hlt];rfl
 have key:∀(k j:Nat) (O:d1v),s.2.2.2.1.length -O.length<k->k<=j->O.length<=s.2.2.2.1.length->pW f j O=some (match Wi s k O with| .inl O=> .inl O| .inr x=> .inr x):=by
  intro k;induction k with
  |zero=>intro j O hk;omega|succ k ih=>
   intro j O hk hj hO;obtain⟨j,rfl⟩:∃j',j=j' +1:=⟨j -1,l9⟩;rw[pW,step O l9];unfold Wi;by_cases hlt:O.length<s.2.2.2.1.length
   .rw[if_pos hlt,if_pos hlt];cases NH s O with
    |none=>rfl|some d=>exact ih j (O++[(d:Int)]) V6 l9 V6
   .rw[if_neg hlt,if_neg hlt]
 have:=key 100 jU [] V6 (by unfold jU;omega) A7;refine(kR this _).trans ?_;unfold wX;cases Wi s 100 []<;>rfl
def oK(s:D6)(e:Int)(i:Nat):d1w:=onL (λd=>decide (e∈P7 s (d:Int))) i
def Vh(s:D6)(O:d1v)(d:Int):d1v:=(P7 s d).filter λx=> !pK O x
def hw(W:d1v)(d:Int):Int:=W.getD d.toNat 0
variable {W:d1v}
theorem b0y{d:Int}(h0:0<=d)(h:d<o9 W):F9 W d=some (hw W d)/\U0 W (U9 d)=some (hw W d):=by have:=KZ h0 h;refine⟨this,?_⟩;unfold F9 at this;rw[if_pos h0]at this;exact this
theorem b0z{d:Int}(h0:0<=d)(h:d<o9 W)(v x:Int)(hx:0<=x):hw (bi W (U9 d) v) x=if x=d then v else hw W x:=by
 unfold hw;have hl:d.toNat<W.length:=by simp only[o9]at h;omega
 show(W.set d.toNat v).getD x.toNat 0=_;rw[zH,zH,W9];by_cases hq:x=d
 .subst hq;rw[if_pos rfl,if_pos hl,if_pos rfl];rfl
 .rw[if_neg l9,if_neg hq]
theorem XR(W:d1v)(i:Nat)(v:Int):(bi W i v).length=W.length:=by show(W.set i v).length=_;simp
theorem F_{n:Nat}(hd:l.Nodup)(hr:∀x∈l,0<=x/\x<(n:Int)):l.length<=n:=by
 have hp:=GM l;have hs:=FB l;have hnd:(JS l).Nodup:=hp.nodup_iff.2 hd;have hsi:SI (JS l):=by have:=List.Pairwise.and hs hnd;exact this.imp λ{a b} ⟨h1,h2⟩=>by omega
 have:=YM n hsi λx hx=>hr x (hp.mem_iff.1 hx);rw[hp.length_eq]at this;exact this
theorem a2k(h:SI l){m:Int}(hm:m∉O):((l.filter λx=> !pK (O++[m]) x).length:Int)=((l.filter λx=> !pK O x).length:Int) -(if m∈l then 1 else 0):=by
 have hh:∀x,pK (O++[m]) x=(pK O x || x8 m x):=λx=>by unfold pK;rw[sK];simp
 induction l with
 |nil=>simp|cons a l ih=>
  have h' :=V7.1 h;have ih' :=ih h'.2;rw[dJ,dJ,hh];by_cases hma:m=a
  .subst hma;have hno:m∉l:=λhx=>by have:=h'.1 m hx;omega
   rw[if_neg hno]at ih';have h1:pK O m=false:=by
    cases hq:pK O m
    .rfl
    .exact absurd (Ez.1 hq) hm
   have hA:(!(pK O m || x8 m m))=false:=by rw[O8 rfl];simp
   have hB:(!pK O m)=true:=by rw[h1];rfl
   rw[hA,hB,if_pos (show m∈m::l by simp)];simp only[bF,if_false,if_true,H5];omega
  .rw[J6 hma,Bool.or_false];have:(if m∈a::l then(1:Int)else 0)=if m∈l then 1 else 0:=by simp[hma]
   rw[this];cases pK O a
   .simp only[Bool.not_false,if_true,H5];omega
   .simp only[jq,bF,if_false];exact ih'
structure KInv (s:D6) (O W H:d1v):Prop where
 nd:O.Nodup
 rng:∀x∈O,0<=x/\x<nD s
 cl:∀u∈O,∀x∈P7 s u,x∈O
 wl:W.length=s.2.2.2.1.length
 w:∀d,0<=d->d<nD s->hw W d=((Vh s O d).length:Int)
 hp:ML H H.length
 hnd:H.Nodup
 hm:∀d,d∈H↔0<=d/\d<nD s/\d∉O/\hw W d=0
theorem b7x :okN s O d=true↔(d:Int)∉O/\Vh s O (d:Int)=[]:=by
 unfold okN Ut Vh;cases hq:pK O (d:Int)
 .have h1:(d:Int)∉O:=λh=>by rw[Ez.2 h]at hq;cases hq
  simp only[o6,kG,qg,kF,Bool.not_eq_false'];exact⟨λh=>⟨h1,λa ha=>by rw[h a ha]⟩,λh a ha=>h.2 a ha⟩
 .have h1:=Ez.1 hq;simp only[o7];exact⟨λh=>(by cases h),λh=>absurd h1 h.1⟩
variable {H:d1v}
theorem KInv.ready(h:KInv s O W H)(hd:d<s.2.2.2.1.length):okN s O d=true↔(d:Int)∈H:=by
 have hn:nD s=((s.2.2.2.1.length:Nat):Int):=rfl;rw[b7x,h.hm];have:=h.w (d:Int) l9 l9;constructor
 .rintro⟨h1,h2⟩;exact⟨l9,l9,h1,by rw[this,h2];rfl⟩
 .rintro⟨_,_,h1,h2⟩;refine⟨h1,O7.1 ?_⟩;rw[this]at h2;omega
theorem KInv.next_none(h:KInv s O W []):NH s O=none:=
 Yd λj hj=>by
  cases hq:okN s O j
  .rfl
  .have:=(h.ready hj).1 hq;cases this
theorem KInv.next_some(h:KInv s O W H)(h0:0<H.length):∃m:Nat,hg H 0=(m:Int)/\NH s O=some m/\m<s.2.2.2.1.length/\O.length<s.2.2.2.1.length:=by
 have hn:nD s=((s.2.2.2.1.length:Nat):Int):=rfl;have hmem:hg H 0∈H:=by have:=yG h0;exact iO this
 have hmm:=(h.hm _).1 hmem;obtain⟨m,hm⟩:∃m:Nat,hg H 0=(m:Int):=⟨(hg H 0).toNat,l9⟩;rw[hm]at hmem hmm;have hlt:m<s.2.2.2.1.length:=l9;refine⟨m,hm,Vq hlt ((h.ready hlt).2 hmem) λj hj=>?_,hlt,?_⟩
 .cases hq:okN s O j
  .rfl
  .have hjH:=(h.ready l9).1 hq;obtain⟨i,hi,he⟩:=Y7 hjH;have:=b0w h.hp i hi;have e:=yG hi;rw[eG hi,he]at e;have:=aP e;omega
 .have hnd:(O++[(m:Int)]).Nodup:=L9.2 ⟨h.nd,A7,λa ha b hb=>by simp at hb;subst hb;intro hq;subst hq;exact hmm.2.2.1 ha⟩;have:=F_ (n:=s.2.2.2.1.length) hnd λx hx=>by
   rcases F7.1 hx with hx|hx
   .exact h.rng x hx
   .simp at hx;subst hx;omega
  simp at this;omega
structure UInv (s:D6) (W H0:d1v) (us:d1v) (W' H' :d1v):Prop where
 wl:W'.length=s.2.2.2.1.length
 w:∀d,0<=d->d<nD s->hw W' d=hw W d -(if d∈us then 1 else 0)
 hp:ML H' H'.length
 pm:∃P:d1v,H'.Perm (H0++P)/\P.Sublist us/\∀d,d∈P↔d∈us/\hw W d=1
theorem a6d(hs:SmS s){W H0 us:d1v}(hW:W.length=s.2.2.2.1.length)(hW2:∀d,0<=d->d<nD s->-1000<=hw W d/\hw W d<=1000)(hH:ML H0 H0.length)(hHl:H0.length<=100)(hus:SI us)(hur:∀u∈us,0<=u/\u<nD s)
  {f:d1v×d1v×Int->Option ((d1v×d1v×Int)⊕(d1v×d1v))}
  (hin:∀(i:Nat) (u:Int) (A B:d1v),us[i]? =some u->f (A,B,(i:Int))=o5 (F9 A u) λ(x_8:Int)=>o5 (U0 A (U9 u)) λ(x_9:Int)=>o5 (F9 A u) λ(x_10:Int)=>o5 (U0 A (U9 u)) λ(x_11:Int)=>
   o5 (F9 (bi A (U9 u) (I7 .i64 x_9 1)) u) λ(x_12:Int)=>o5 (U0 (bi A (U9 u) (I7 .i64 x_9 1)) (U9 u)) λ(x_13:Int)=>l7 (x8 x_13 0) (o5 (gJ B u) λ(x_14:d1v)=>some (.inl (bi A (U9 u) (I7 .i64 x_9 1),x_14,x9 .i64 (i:Int) 1)))
    (some (.inl (bi A (U9 u) (I7 .i64 x_9 1),B,x9 .i64 (i:Int) 1))))
  (hend:∀(A B:d1v),f (A,B,(us.length:Int))=some (.inr (A,B))):∃W' H',Y9 f (W,H0,0)=some (W',H')/\UInv s W H0 us W' H' :=by
 have hn:nD s=((s.2.2.2.1.length:Nat):Int):=rfl;have hul:us.length<=14:=DJ hs hus hur;obtain⟨e,h1,h2⟩:=gy (f:=f) (s:=(W,H0,0)) (λx=>∃(i:Nat) (A B:d1v),x=(A,B,(i:Int))/\i<=us.length/\UInv s W H0 (us.take i) A B/\B.length<=H0.length+i) (λe=>UInv s W H0 us e.1 e.2) (λx=>us.length -x.2.2.toNat)
  ⟨0,W,H0,rfl,l9,⟨hW,λd _ _=>by simp,hH,[],A7,A7,λd=>by simp⟩,l9⟩ V6 (by
  rintro x ⟨i,A,B,rfl,hi,hU,hBl⟩;by_cases hlt:i<us.length
  .left;have e:=eG hlt;generalize us[i]=u at e;have hu:=hur u (iO e);have hst:us.take (i+1)=us.take i++[u]:=by rw[V8 hlt,(X6.1 e).2]
   have hnot:u∉us.take i:=λhx=>by obtain⟨j,hj,hq⟩:=Y7 hx;simp only[ah]at hj;have h3:=gX.1 hus j i l9 hlt l9;rw[qh]at hq;have h4:=(X6.1 e).2;omega
   have hAl:=hU.wl;have hAu:=hU.w u hu.1 hu.2;rw[if_neg hnot]at hAu;have hbd:=hW2 u hu.1 hu.2;obtain⟨q1,q2⟩:=b0y (W:=A) hu.1 (by simp only[o9];omega);have hsub:I7 .i64 (hw A u) 1=hw A u -1:=P8 O5;have hA2:∀d,0<=d->d<nD s->hw (bi A (U9 u) (hw A u -1)) d=hw W d -(if d∈us.take (i+1)then 1 else 0):=λd d0 d1=>by
    rw[b0z hu.1 (by simp only[o9];omega) _ _ d0,hst];have:=hU.w d d0 d1;by_cases hq:d=u
    .subst hq;rw[if_pos rfl,if_pos A7];omega
    .rw[if_neg hq,this];simp[hq]
   obtain⟨q3,q4⟩:=b0y (W:=bi A (U9 u) (hw A u -1)) (d:=u) hu.1 (by simp only[o9,XR];omega);have hv:hw (bi A (U9 u) (hw A u -1)) u=hw A u -1:=by rw[b0z hu.1 (by simp only[o9];omega) _ _ hu.1,if_pos rfl]
   rw[hv]at q3 q4;obtain⟨P,p1,p2,p3⟩:=hU.pm;rw[hin i u A B e,q1,o8,q2,o8,o8,o8,hsub,q3,o8,q4,o8,Y1 l9];by_cases hz:hw A u -1=0
   .obtain⟨B',b1,b2,b3⟩:=l_ (l:=B) l9 hU.hp u;rw[O8 hz,o7,b1,o8];have hB'l:B'.length=B.length+1:=by rw[b3.length_eq];simp
    refine⟨_,rfl,⟨i+1,_,_,rfl,hlt,⟨by rw[XR];exact hAl,hA2,b2,P++[u],?_,?_,λd=>?_⟩,l9⟩,by simp;omega⟩
    .rw[←F8];exact b3.trans (p1.append_right [u])
    .rw[hst];exact p2.append (List.Sublist.refl _)
    .rw[F7,p3,hst,F7];constructor
     .rintro(⟨h,h'⟩|h)
      .exact⟨.inl h,h'⟩
      .simp at h;subst h;exact⟨.inr A7,l9⟩
     .rintro⟨h|h,h'⟩
      .exact .inl ⟨h,h'⟩
      .exact .inr h
   .rw[J6 hz,o6];refine⟨_,rfl,⟨i+1,_,_,rfl,hlt,⟨by rw[XR];exact hAl,hA2,hU.hp,P,p1,?_,λd=>?_⟩,l9⟩,by simp;omega⟩
    .rw[hst];exact p2.trans (List.sublist_append_left _ _)
    .rw[p3,hst,F7];constructor
     .rintro⟨h,h'⟩;exact⟨.inl h,h'⟩
     .rintro⟨h|h,h'⟩
      .exact⟨h,h'⟩
      .simp at h;subst h;omega
  .right;have:i=us.length:=l9;subst this;rw[aA]at hU;exact⟨_,hend _ _,hU⟩)
 exact⟨e.1,e.2,h1,h2⟩
theorem LU{m:Int}{d:Int} :d∈castL (oK s m s.2.2.2.1.length)↔0<=d/\d<nD s/\m∈P7 s d:=by
 have hn:nD s=((s.2.2.2.1.length:Nat):Int):=rfl;unfold castL;rw[bQ];constructor
 .rintro⟨k,hk,rfl⟩;obtain⟨h1,h2⟩:=a0I _ hk;exact⟨l9,l9,by simpa using h2⟩
 .rintro⟨h1,h2,h3⟩;refine⟨d.toNat,?_,l9⟩;unfold oK onL;rw[iG,bg];exact⟨l9,by rw[aC h1];simpa using h3⟩
theorem a1U{l:d1w}(h:l.Pairwise (·< ·)):SI (castL l):=List.Pairwise.map _ (λa b h=>by omega) h
theorem KInv.step(h:KInv s O W H)(h0:0<H.length){m:Nat}(hm:hg H 0=(m:Int)){R:d1v}(hR:ML R R.length)(hRp:(R++[(m:Int)]).Perm H){W' H' :d1v}(hU:UInv s W R (castL (oK s (m:Int) s.2.2.2.1.length)) W' H'):KInv s (O++[(m:Int)]) W' H' :=by
 have hn:nD s=((s.2.2.2.1.length:Nat):Int):=rfl;have hmem:(m:Int)∈H:=by rw[←hm];have:=yG h0;exact iO this
 have hmm:=(h.hm _).1 hmem;have hleft:Vh s O (m:Int)=[]:=by have:=h.w (m:Int) hmm.1 hmm.2.1;rw[hmm.2.2.2]at this;exact O7.1 l9
 have hdeps:∀x∈P7 s (m:Int),x∈O:=λx hx=>by have hnil:=qg.1 hleft x hx;simp only[kF,Bool.not_eq_false']at hnil;exact Ez.1 hnil
 have hndR:(R++[(m:Int)]).Nodup:=hRp.nodup_iff.2 h.hnd;have hmR:(m:Int)∉R:=λhx=>by have:=(L9.1 hndR).2.2 _ hx _ (dE.2 rfl);exact this rfl
 have hRm:∀d,d∈R↔d∈H/\d≠(m:Int):=λd=>by
  rw[←hRp.mem_iff,F7,dE];constructor
  .intro hx;exact⟨.inl hx,λhq=>hmR (hq▸hx)⟩
  .rintro⟨hx|hx,hq⟩
   .exact hx
   .exact absurd hx hq
 obtain⟨P,p1,p2,p3⟩:=hU.pm;have huO:∀u,(m:Int)∈P7 s u->u∉O:=λu hu hx=>hmm.2.2.1 (h.cl u hx _ hu);refine⟨?_,?_,?_,hU.wl,λd d0 d1=>?_,hU.hp,?_,λd=>?_⟩
 .exact L9.2 ⟨h.nd,A7,λa ha b hb=>by simp at hb;subst hb;intro hq;subst hq;exact hmm.2.2.1 ha⟩
 .intro x hx;rcases F7.1 hx with hx|hx
  .exact h.rng x hx
  .simp at hx;subst hx;exact⟨hmm.1,hmm.2.1⟩
 .intro u hu x hx;rcases F7.1 hu with hu|hu
  .exact aJ _ (h.cl u hu x hx)
  .simp at hu;subst hu;exact aJ _ (hdeps x hx)
 .rw[hU.w d d0 d1,h.w d d0 d1];unfold Vh;rw[a2k (Bf s d) hmm.2.2.1];congr 1;have:(d∈castL (oK s (m:Int) s.2.2.2.1.length))↔((m:Int)∈P7 s d):=by rw[LU];exact⟨λh=>h.2.2,λh=>⟨d0,d1,h⟩⟩
  by_cases hq:(m:Int)∈P7 s d
  .rw[if_pos (this.2 hq),if_pos hq]
  .rw[if_neg (λhx=>hq (this.1 hx)),if_neg hq]
 .rw[p1.nodup_iff];refine L9.2 ⟨(L9.1 hndR).1,?_,λa ha b hb hq=>?_⟩
  .have:(castL (oK s (m:Int) s.2.2.2.1.length)).Nodup:=(a1U (a4S _ _)).imp λ{a b} h=>by omega
   exact p2.nodup this
  .subst hq;have h1:=(h.hm a).1 ((hRm a).1 ha).1;have h2:=(p3 a).1 hb;omega
 .rw[p1.mem_iff,F7,hRm,p3,LU,h.hm];have hw' :=λd0 d1=>hU.w d d0 d1;have hmemU:d∈castL (oK s (m:Int) s.2.2.2.1.length)↔0<=d/\d<nD s/\(m:Int)∈P7 s d:=LU;constructor
  .rintro(⟨⟨d0,d1,dO,dw⟩,dm⟩|⟨⟨d0,d1,dd⟩,dw⟩)
   .refine⟨d0,d1,λhx=>?_,?_⟩
    .rcases F7.1 hx with hx|hx
     .exact dO hx
     .simp at hx;exact dm hx
    .have hnot:(m:Int)∉P7 s d:=λhx=>by
      have h1:=h.w d d0 d1;rw[dw]at h1;have h2:Vh s O d=[]:=O7.1 l9;have h3:=qg.1 h2 _ hx;simp only[kF,Bool.not_eq_false']at h3;exact hmm.2.2.1 (Ez.1 h3)
     rw[hw' d0 d1,dw,if_neg (λhx=>hnot (hmemU.1 hx).2.2)];rfl
   .refine⟨d0,d1,λhx=>?_,?_⟩
    .rcases F7.1 hx with hx|hx
     .exact huO d dd hx
     .simp at hx;rw[hx]at dd;exact hmm.2.2.1 (hdeps _ dd)
    .rw[hw' d0 d1,if_pos (hmemU.2 ⟨d0,d1,dd⟩)];omega
  .rintro⟨d0,d1,dO,dw⟩;rw[hw' d0 d1]at dw;have dO1:d∉O:=λhx=>dO (aJ _ hx);have dm:d≠(m:Int):=λhx=>dO (by rw[hx];simp);by_cases hq:(m:Int)∈P7 s d
   .rw[if_pos (hmemU.2 ⟨d0,d1,hq⟩)]at dw;exact .inr ⟨⟨d0,d1,hq⟩,l9⟩
   .rw[if_neg (λhx=>hq (hmemU.1 hx).2.2)]at dw;exact .inl ⟨⟨d0,d1,dO1,l9⟩,dm⟩
def Eb(s:D6)(i:Nat):List d1v:=(List.range s.2.2.2.1.length).map λ(e:Nat)=>castL (oK s (e:Int) i)
theorem OJ(l:d1w):(castL l).length=l.length:=by unfold castL;rw[V9]
theorem a6e(s:D6)(e:Int)(i:Nat):castL (oK s e (i+1))=castL (oK s e i)++(if e∈P7 s (i:Int)then[(i:Int)]else[]):=by unfold oK;rw[NK];by_cases h:e∈P7 s (i:Int)<;>simp[castL,h]
theorem a6c(hs:SmS s)(i:Nat)(hi:i<s.2.2.2.1.length){f:List d1v×Int->Option ((List d1v×Int)⊕List d1v)}
  (hin:∀(k:Nat) (e:Int) (A:List d1v),(P7 s (i:Int))[k]? =some e->f (A,(k:Int))=l7 (inb e (o9 A)) (o5 (U0 A (U9 e)) λ(x_7:d1v)=>o5 (dG x_7 [(i:Int)]) λ(x_8:d1v)=>l7 (inb e (o9 A)) (l7 (QF (U9 e) (U9 e)) (o5 (U0 A (U9 e)) λ(x_9:d1v)=>some (.inl (bi A (U9 e) x_8,x9 .i64 (k:Int) 1))) none) none) none)
  (hend:∀A,f (A,((P7 s (i:Int)).length:Int))=some (.inr A)):Y9 f (Eb s i,0)=some (Eb s (i+1)):=by
 have hn:nD s=((s.2.2.2.1.length:Nat):Int):=rfl;have hdl:=KD hs (i:Int);have hnd:=hs.nd;have hsi:=Bf s (i:Int);refine(lU (P7 s (i:Int)) (λ(A:List d1v) e=>A.set e.toNat (A.getD e.toNat []++[(i:Int)])) (λb k=>(b,k)) (λb=>b) (λk A=>A=(List.range s.2.2.2.1.length).map λ(e:Nat)=>castL (oK s (e:Int) i)++(if(e:Int)∈(P7 s (i:Int)).take k then[(i:Int)]else[])) (b:=Eb s i) l9 (by simp[Eb]) (λk e A he hk hA=>?_) (λA hA=>hend A)).1.trans ?_
 .have hlt:=(X6.1 he).1;have her:=yC (iO he);have hst:(P7 s (i:Int)).take (k+1)=(P7 s (i:Int)).take k++[e]:=by rw[V8 hlt,(X6.1 he).2]
  have hnot:e∉(P7 s (i:Int)).take k:=λhx=>by obtain⟨j,hj,hq⟩:=Y7 hx;simp only[ah]at hj;have h3:=gX.1 hsi j k l9 hlt l9;rw[qh]at hq;have h4:=(X6.1 he).2;omega
  have hlA:A.length=s.2.2.2.1.length:=by rw[hA];simp
  have hg:A[e.toNat]? =some (castL (oK s e i)):=by rw[hA,FC _ _ (show e.toNat<s.2.2.2.1.length by omega),aC her.1,if_neg hnot,G9]
  have hul:(castL (oK s e i)).length<=i:=by rw[OJ];exact Eg _ _
  rw[hin k e A he,show inb e (o9 A)=true from decide_eq_true ⟨her.1,by simp only[o9];omega⟩,o7,show U0 A (U9 e)=some (castL (oK s e i))from hg,o8,iR _ l9,o8,o7,show QF (U9 e) (U9 e)=true by simp[QF],o7,o8,Y1 l9];rw[show A.getD e.toNat []=castL (oK s e i) by rw[zH,hg];rfl];refine⟨rfl,?_⟩;rw[hA,Wv];apply dh;intro d hd;rw[hst];by_cases hq:d=e.toNat
  .subst hq;rw[if_pos rfl,aC her.1,if_pos A7]
  .rw[if_neg hq];have:(if(d:Int)∈(P7 s (i:Int)).take k++[e]then[(i:Int)]else[])=if(d:Int)∈(P7 s (i:Int)).take k then[(i:Int)]else[]:=by
    have:(d:Int)≠e:=l9;simp[this]
   rw[this]
 .have h2:=(lU (P7 s (i:Int)) (λ(A:List d1v) e=>A.set e.toNat (A.getD e.toNat []++[(i:Int)])) (λb k=>(b,k)) (λb=>b) (λk A=>A=(List.range s.2.2.2.1.length).map λ(e:Nat)=>castL (oK s (e:Int) i)++(if(e:Int)∈(P7 s (i:Int)).take k then[(i:Int)]else[])) (f:=f) (b:=Eb s i) l9 (by simp[Eb]) (λk e A he hk hA=>by
   have hlt:=(X6.1 he).1;have her:=yC (iO he);have hst:(P7 s (i:Int)).take (k+1)=(P7 s (i:Int)).take k++[e]:=by rw[V8 hlt,(X6.1 he).2]
   have hnot:e∉(P7 s (i:Int)).take k:=λhx=>by obtain⟨j,hj,hq⟩:=Y7 hx;simp only[ah]at hj;have h3:=gX.1 hsi j k l9 hlt l9;rw[qh]at hq;have h4:=(X6.1 he).2;omega
   have hlA:A.length=s.2.2.2.1.length:=by rw[hA];simp
   have hg:A[e.toNat]? =some (castL (oK s e i)):=by rw[hA,FC _ _ (show e.toNat<s.2.2.2.1.length by omega),aC her.1,if_neg hnot,G9]
   have hul:(castL (oK s e i)).length<=i:=by rw[OJ];exact Eg _ _
   rw[hin k e A he,show inb e (o9 A)=true from decide_eq_true ⟨her.1,by simp only[o9];omega⟩,o7,show U0 A (U9 e)=some (castL (oK s e i))from hg,o8,iR _ l9,o8,o7,show QF (U9 e) (U9 e)=true by simp[QF],o7,o8,Y1 l9];rw[show A.getD e.toNat []=castL (oK s e i) by rw[zH,hg];rfl];refine⟨rfl,?_⟩;rw[hA,Wv];apply dh;intro d hd;rw[hst];by_cases hq:d=e.toNat
   .subst hq;rw[if_pos rfl,aC her.1,if_pos A7]
   .rw[if_neg hq];have:(if(d:Int)∈(P7 s (i:Int)).take k++[e]then[(i:Int)]else[])=if(d:Int)∈(P7 s (i:Int)).take k then[(i:Int)]else[]:=by
     have:(d:Int)≠e:=l9;simp[this]
    rw[this]) (λA hA=>hend A)).2
  rw[h2];unfold Eb;apply congrArg some;apply dh;intro d hd;rw[a6e,aA]
theorem b0r{α β σ:Type}{o:Option α}{x:α}{K:α->Option (σ⊕β)}{Q:σ->Prop}(h:o=some x)(hk:∃s',K x=some (.inl s')/\Q s'):∃s',o5 o K=some (.inl s')/\Q s' :=by rw[h];exact hk
structure IInv (s:D6) (i:Nat) (U:List d1v) (W H:d1v):Prop where
 u:U=Eb s i
 w:W=pd ((List.range i).map λ(d:Nat)=>((P7 s (d:Int)).length:Int)) (s.2.2.2.1.length -i)
 hp:ML H H.length
 hnd:H.Nodup
 hm:∀d,d∈H↔0<=d/\d<(i:Int)/\P7 s d=[]
 hl:H.length<=i
theorem b1m(hs:SmS s):rZ s=some (wX s):=by
 have hn:nD s=((s.2.2.2.1.length:Nat):Int):=rfl;have hnd:=hs.nd;unfold rZ;rw[Kw hs,o8];have hAl:o9 ((List.range s.2.2.2.1.length).map λ(d:Nat)=>P7 s (d:Int))=((s.2.2.2.1.length:Nat):Int):=by simp[o9]
 have hAg:∀i,i<s.2.2.2.1.length->((List.range s.2.2.2.1.length).map λ(d:Nat)=>P7 s (d:Int))[i]? =some (P7 s (i:Int)):=λi hi=>FC _ _ hi;generalize (List.range s.2.2.2.1.length).map (λ(d:Nat)=>P7 s (d:Int))=A at*;rw[hAl,show qL ((s.2.2.2.1.length:Nat):Int) ([]:d1v)=some (Eb s 0) by
  unfold qL Eb oK onL castL;rw[if_pos l9];simp[List.map_const'],o8,show qL ((s.2.2.2.1.length:Nat):Int) (0:Int)=some (pd ((List.range 0).map λ(d:Nat)=>((P7 s (d:Int)).length:Int)) (s.2.2.2.1.length -0)) by
  unfold qL pd;rw[if_pos l9];simp,o8]
 obtain⟨e,k1,k2⟩:=gy (f:=λ(x_3:List d1v×d1v×d1v×Int)=>l7 (D9 x_3.2.2.2 ((s.2.2.2.1.length:Nat):Int)) (o5 (F9 A x_3.2.2.2) λ(x:d1v)=>o5 (F9 x_3.2.1 x_3.2.2.2) λ(x_4:Int)=>o5 (U0 x_3.2.1 (U9 x_3.2.2.2)) λ(x_5:Int)=>
   o5 (Y9 (λ(x_6:List d1v×Int)=>l7 (D9 x_6.2 (o9 x)) (o5 (F9 x x_6.2) λ(x:Int)=>l7 (inb x (o9 x_6.1)) (o5 (U0 x_6.1 (U9 x)) λ(x_7:d1v)=>o5 (dG x_7 [x_3.2.2.2]) λ(x_8:d1v)=>l7 (inb x (o9 x_6.1)) (l7 (QF (U9 x) (U9 x)) (o5 (U0 x_6.1 (U9 x)) λ(x_9:d1v)=>some (.inl (bi x_6.1 (U9 x) x_8,x9 .i64 x_6.2 1))) none) none) none) (some (.inr x_6.1))) (x_3.1,0)) λ(y:List d1v)=>
   l7 (x8 (o9 x) 0) (o5 (gJ x_3.2.2.1 x_3.2.2.2) λ(x_6:d1v)=>some (.inl (y,bi x_3.2.1 (U9 x_3.2.2.2) (o9 x),x_6,x9 .i64 x_3.2.2.2 1))) (some (.inl (y,bi x_3.2.1 (U9 x_3.2.2.2) (o9 x),x_3.2.2.1,x9 .i64 x_3.2.2.2 1)))) (some (.inr (x_3.1,x_3.2.1,x_3.2.2.1))))
  (s:=(Eb s 0,pd ((List.range 0).map λ(d:Nat)=>((P7 s (d:Int)).length:Int)) (s.2.2.2.1.length -0),[],0)) (λx=>∃(i:Nat) (U:List d1v) (W H:d1v),x=(U,W,H,(i:Int))/\i<=s.2.2.2.1.length/\IInv s i U W H) (λy=>IInv s s.2.2.2.1.length y.1 y.2.1 y.2.2) (λx=>s.2.2.2.1.length -x.2.2.2.toNat)
  ⟨0,_,_,_,rfl,l9,rfl,rfl,λk k0 k1=>by simp at k1,A7,λd=>by simp;omega,A7⟩ V6 (by
  rintro x ⟨i,U,W,H,rfl,hi,hI⟩;by_cases hlt:i<s.2.2.2.1.length
  .left;obtain⟨m,hm⟩:∃m,s.2.2.2.1.length -i=m+1:=⟨s.2.2.2.1.length -i -1,l9⟩;have hlen:((List.range i).map λ(d:Nat)=>((P7 s (d:Int)).length:Int)).length=i:=A7;have q1:=a0O ((List.range i).map λ(d:Nat)=>((P7 s (d:Int)).length:Int)) m;have q2:=a0P ((List.range i).map λ(d:Nat)=>((P7 s (d:Int)).length:Int)) m;have q3:=a4Y ((List.range i).map λ(d:Nat)=>((P7 s (d:Int)).length:Int)) m (o9 (P7 s (i:Int)));rw[hlen]at q1 q2 q3;have hW:=hI.w;rw[hm]at hW;have hl14:=hI.hl;have hus:=a6c hs i hlt (f:=λ(x_6:List d1v×Int)=>l7 (D9 x_6.2 (o9 (P7 s (i:Int)))) (o5 (F9 (P7 s (i:Int)) x_6.2) λ(x:Int)=>l7 (inb x (o9 x_6.1)) (o5 (U0 x_6.1 (U9 x)) λ(x_7:d1v)=>o5 (dG x_7 [(i:Int)]) λ(x_8:d1v)=>l7 (inb x (o9 x_6.1)) (l7 (QF (U9 x) (U9 x)) (o5 (U0 x_6.1 (U9 x)) λ(x_9:d1v)=>some (.inl (bi x_6.1 (U9 x) x_8,x9 .i64 x_6.2 1))) none) none) none) (some (.inr x_6.1)))
    (λk e A he=>by simp only[H6 he,o7,E5,he,o8]) (λA=>by simp only[G6];rfl)
   simp only;rw[S9 l9,o7,E5,hAg i hlt,o8,hW,q1,o8,q2,o8,hI.u];refine b0r hus ?_;rw[q3,Y1 l9];have hwn:pd ((List.range i).map (λ(d:Nat)=>((P7 s (d:Int)).length:Int))++[o9 (P7 s (i:Int))]) m=pd ((List.range (i+1)).map λ(d:Nat)=>((P7 s (d:Int)).length:Int)) (s.2.2.2.1.length -(i+1)):=by rw[dB,iF,show s.2.2.2.1.length -(i+1)=m by omega];rfl
   rw[hwn];by_cases hz:(P7 s (i:Int)).length=0
   .obtain⟨H',b1,b2,b3⟩:=l_ (l:=H) l9 hI.hp (i:Int);have hnil:=O7.1 hz;rw[O8 (by simp[o9,hz]),o7,b1,o8];have hni:(i:Int)∉H:=λhx=>by have:=(hI.hm _).1 hx;omega
    refine⟨_,rfl,⟨i+1,_,_,_,rfl,hlt,rfl,rfl,b2,?_,λd=>?_,by rw[b3.length_eq];simp;omega⟩,by simp;omega⟩
    .rw[b3.nodup_iff];exact L9.2 ⟨hI.hnd,A7,λa ha b hb=>by simp at hb;subst hb;intro hq;subst hq;exact hni ha⟩
    .rw[b3.mem_iff,F7,hI.hm,dE];constructor
     .rintro(⟨h1,h2,h3⟩|h)
      .exact⟨h1,l9,h3⟩
      .subst h;exact⟨l9,l9,hnil⟩
     .rintro⟨h1,h2,h3⟩;by_cases hq:d=(i:Int)
      .exact .inr hq
      .exact .inl ⟨h1,l9,h3⟩
   .rw[J6 (by simp only[o9];omega),o6];refine⟨_,rfl,⟨i+1,_,_,_,rfl,hlt,rfl,rfl,hI.hp,hI.hnd,λd=>?_,l9⟩,by simp;omega⟩;rw[hI.hm];constructor
    .rintro⟨h1,h2,h3⟩;exact⟨h1,l9,h3⟩
    .rintro⟨h1,h2,h3⟩;refine⟨h1,?_,h3⟩;by_cases hq:d=(i:Int)
     .subst hq;rw[h3]at hz;exact absurd rfl hz
     .omega
  .right;have:i=s.2.2.2.1.length:=l9;subst this;exact⟨(U,W,H),by simp only[J9 (show((s.2.2.2.1.length:Nat):Int)<=((s.2.2.2.1.length:Nat):Int) by omega)];rfl,hI⟩)
 refine(kR k1 _).trans ?_;obtain⟨U,W,H⟩:=e;simp only at k2 ⊢;have hwd:∀d,0<=d->d<nD s->hw W d=((P7 s d).length:Int):=λd d0 d1=>by have hd:d.toNat<s.2.2.2.1.length:=l9;rw[k2.w,bT];unfold hw pd;rw[zH,List.replicate_zero,G9,FC _ _ hd,aC d0];rfl
 have hK:KInv s [] W H:=by
  refine⟨A7,A7,A7,by rw[k2.w];simp[pd],λd d0 d1=>?_,k2.hp,k2.hnd,λd=>?_⟩
  .rw[hwd d d0 d1];have:Vh s [] d=P7 s d:=List.filter_eq_self.2 λa _=>rfl;rw[this]
  .rw[k2.hm];constructor
   .rintro⟨h1,h2,h3⟩;exact⟨h1,l9,A7,by rw[hwd d h1 l9,h3];rfl⟩
   .rintro⟨h1,h2,_,h4⟩;rw[hwd d h1 h2]at h4;exact⟨h1,l9,O7.1 l9⟩
 have hU:=k2.u;subst hU;have hlatU:∀m:Nat,m<s.2.2.2.1.length->F9 (Eb s s.2.2.2.1.length) (m:Int)=some (castL (oK s (m:Int) s.2.2.2.1.length)):=λm hm=>by rw[E5];exact FC _ _ hm
 have key:∀(k j:Nat) (O W H:d1v),KInv s O W H->s.2.2.2.1.length -O.length<k->k<=j->∃y,uh (λ(x:List d1v×kM)=>o5 (lu x.2.2.1) λ(x_3:Int)=>l7 (D9 0 x_3) (o5 (qA x.2.2.1) λ(x_4:Int×d1v)=>o5 (dG x.2.2.2 [x_4.1]) λ(x_5:d1v)=>o5 (F9 x.1 x_4.1) λ(x_6:d1v)=>
   o5 (Y9 (λ(x:d1v×d1v×Int)=>l7 (D9 x.2.2 (o9 x_6)) (o5 (F9 x_6 x.2.2) λ(x_7:Int)=>o5 (F9 x.1 x_7) λ(x_8:Int)=>o5 (U0 x.1 (U9 x_7)) λ(x_9:Int)=>o5 (F9 x.1 x_7) λ(x_10:Int)=>o5 (U0 x.1 (U9 x_7)) λ(x_11:Int)=>o5 (F9 (bi x.1 (U9 x_7) (I7 .i64 x_9 1)) x_7) λ(x_12:Int)=>o5 (U0 (bi x.1 (U9 x_7) (I7 .i64 x_9 1)) (U9 x_7)) λ(x_13:Int)=>
     l7 (x8 x_13 0) (o5 (gJ x.2.1 x_7) λ(x_14:d1v)=>some (.inl (bi x.1 (U9 x_7) (I7 .i64 x_9 1),x_14,x9 .i64 x.2.2 1))) (some (.inl (bi x.1 (U9 x_7) (I7 .i64 x_9 1),x.2.1,x9 .i64 x.2.2 1)))) (some (.inr (x.1,x.2.1)))) (x.2.1,x_4.2,0)) λ(y:d1v×d1v)=>some (.inl (x.1,y.1,y.2,x_5))) (some (.inr x.2.2.2))) j (Eb s s.2.2.2.1.length,W,H,O)=some y/\Wi s k O=(if y.length<s.2.2.2.1.length then .inr ([],9)else .inl y):=by
  intro k;induction k with
  |zero=>intro j O W H hK hk;omega|succ k ih=>
   intro j O W H hK hk hj;obtain⟨j,rfl⟩:∃j',j=j' +1:=⟨j -1,l9⟩;rw[uh];simp only[lu,o8];cases H with
   |nil=>refine⟨O,rfl,?_⟩;unfold Wi;rw[hK.next_none]|cons h0 H=>
    generalize hHH:h0::H=HH at*;have hpos:0<HH.length:=by rw[←hHH];simp
    obtain⟨m,hm1,hm2,hm3,hm4⟩:=hK.next_some hpos;have hHl:HH.length<=14:=iw (F_ (n:=s.2.2.2.1.length) hK.hnd λx hx=>by have:=(hK.hm x).1 hx;omega) hnd;obtain⟨R,r1,r2,r3⟩:=b0x (l:=HH) l9 hK.hp hpos;rw[hm1]at r1 r3;have hRl:R.length<=14:=by have:=r3.length_eq;simp at this;omega
    have hOl:O.length<=14:=l9;obtain⟨W',H',u1,u2⟩:=a6d hs (W:=W) (H0:=R) (us:=castL (oK s (m:Int) s.2.2.2.1.length)) hK.wl (λd d0 d1=>by
      have h1:=hK.w d d0 d1;have h2:=aF (λx=> !pK O x) (P7 s d);have h3:=KD hs d;unfold Vh at h1;omega) r2 l9 (a1U (a4S _ _)) (λu hu=>by have:=LU.1 hu;omega)
     (f:=λ(x:d1v×d1v×Int)=>l7 (D9 x.2.2 (o9 (castL (oK s (m:Int) s.2.2.2.1.length)))) (o5 (F9 (castL (oK s (m:Int) s.2.2.2.1.length)) x.2.2) λ(x_7:Int)=>o5 (F9 x.1 x_7) λ(x_8:Int)=>o5 (U0 x.1 (U9 x_7)) λ(x_9:Int)=>o5 (F9 x.1 x_7) λ(x_10:Int)=>o5 (U0 x.1 (U9 x_7)) λ(x_11:Int)=>o5 (F9 (bi x.1 (U9 x_7) (I7 .i64 x_9 1)) x_7) λ(x_12:Int)=>o5 (U0 (bi x.1 (U9 x_7) (I7 .i64 x_9 1)) (U9 x_7)) λ(x_13:Int)=>
     l7 (x8 x_13 0) (o5 (gJ x.2.1 x_7) λ(x_14:d1v)=>some (.inl (bi x.1 (U9 x_7) (I7 .i64 x_9 1),x_14,x9 .i64 x.2.2 1))) (some (.inl (bi x.1 (U9 x_7) (I7 .i64 x_9 1),x.2.1,x9 .i64 x.2.2 1)))) (some (.inr (x.1,x.2.1))))
     (λi u A B hu=>by simp only[H6 hu,o7,E5 (castL (oK s (m:Int) s.2.2.2.1.length)),hu,o8]) (λA B=>by simp only[G6];rfl)
    have hK2:=hK.step hpos hm1 r2 r3 u2;obtain⟨y,y1,y2⟩:=ih j (O++[(m:Int)]) W' H' hK2 V6 l9;refine⟨y,?_,?_⟩
    .rw[S9 (show(0:Int)<o9 HH by simp only[o9];omega),o7,r1,o8,iR _ l9,o8,hlatU m hm3,o8,u1,o8];exact y1
    .unfold Wi;rw[if_pos hm4,hm2];exact y2
 obtain⟨y,y1,y2⟩:=key 100 jU [] W H hK V6 (by unfold jU;omega);refine(kR y1 _).trans ?_;unfold wX;rw[y2];by_cases hl:y.length<s.2.2.2.1.length
 .rw[if_pos hl,S9 (by simp only[o9];omega)];rfl
 .rw[if_neg hl,J9 (by simp only[o9];omega)];rfl
end
end Go.GP
namespace Gt
open Go Go.GP
def il(y:Int):Bool:=if y % 4=0 then(if y % 100≠0 then true else decide (y % 400=0))else false
def ys(y:Int):Int:=(y -1900)*365+((y -1) / 4 -(y -1) / 100+(y -1) / 400) -460
def diy(y:Int):Int:=if il y then 366 else 365
theorem Ji(y:Int):ys (y+1)=ys y+diy y:=by unfold ys diy il;by_cases h4:y % 4=0<;>by_cases h100:y % 100=0<;>by_cases h400:y % 400=0<;>simp[h4,h100,h400]<;>omega
theorem PM(a b:Int):a<b\/b<=a:=l9
theorem TS(y:Int):365<=diy y/\diy y<=366:=by unfold diy;split<;>omega
theorem tK{y y' :Int}(h:y<=y'):ys y<=ys y' :=by
 obtain⟨n,rfl⟩:∃n:Nat,y' =y+n:=⟨(y' -y).toNat,l9⟩;clear h;induction n with
 |zero=>simp|succ n ih=>have:=Ji (y+n);have:=TS (y+n);have e:y+((n+1:Nat):Int)=y+n+1:=l9;rw[e];omega
variable {y:Int}
theorem PK(h:1900<=y):0<=ys y:=by
 have:=tK h;have e:ys 1900=0:=by decide+kernel
 omega
theorem a9z{y y' d:Int}(h1:ys y<=d)(h2:d<ys (y+1))(h3:ys y' <=d)(h4:d<ys (y' +1)):y=y' :=by
 rcases Int.lt_trichotomy y y' with h|h|h
 .have:=tK (y:=y+1) (y' :=y') l9;omega
 .exact h
 .have:=tK (y:=y' +1) (y' :=y) l9;omega
def dim(y m:Int):Int:=
 if m=2 then(if il y then 29 else 28)else if m=4\/m=6\/m=9\/m=11 then 30 else 31
theorem Dx(y m:Int):28<=dim y m/\dim y m<=31:=by
 unfold dim;repeat' split
 all_goals omega
theorem Nb(h:0<=y):Ir y=some (il y):=by
 unfold Ir il;simp only[zG h];by_cases h4:y % 4=0
 .rw[Fh (O8 h4),if_pos h4];by_cases h100:y % 100=0
  .simp[x8,h100]
  .simp[x8,h100]
 .rw[Kz (J6 h4),if_neg h4]
theorem MC(h:0<=y):FM y=some (il y):=Nb h
theorem Fg(h:0<=y):jL y=some (diy y):=by unfold jL diy;rw[MC h,o8];cases il y<;>rfl
variable {m:Int}
theorem m12(h:1<=m/\m<=12):m=1\/m=2\/m=3\/m=4\/m=5\/m=6\/m=7\/m=8\/m=9\/m=10\/m=11\/m=12:=l9
theorem uq(h:0<=y)(hm:1<=m/\m<=12):jG y m=some (dim y m):=by
 unfold jG;rcases m12 hm with rfl|rfl|rfl|rfl|rfl|rfl|rfl|rfl|rfl|rfl|rfl|rfl
 all_goals first|rfl|(rw[Nb h];unfold dim;cases il y<;>rfl)
theorem sV(h:0<=y)(hm:1<=m/\m<=12):gp y m=some (dim y m):=by
 unfold gp;rcases m12 hm with rfl|rfl|rfl|rfl|rfl|rfl|rfl|rfl|rfl|rfl|rfl|rfl
 all_goals first|rfl|(rw[MC h];unfold dim;cases il y<;>rfl)
theorem Iu(h:0<=y)(h2:y<=1000000):xI y=some (y / 4 -y / 100+y / 400):=by unfold xI;simp only[dD,jQ h];rw[mi O5,mi O5,mi O5,P8 O5,X4 O5]
theorem BI(h:1<=y)(h2:y<=1000000):qC y=some (ys y):=by unfold qC;have e1:I7 .i64 y 1900=y -1900:=P8 O5;have e2:X9 .i64 (y -1900) 365=(y -1900)*365:=lQ O5;rw[P8 (a:=y) (b:=1) O5,Iu l9 l9,o8,Iu l9 l9,o8,e1,e2,X4 O5,P8 O5];unfold ys;congr 1
def mo(y:Int):Nat->Int->Int×Int
 |0,d=>(d,13)|n+1,d=>if d<dim y (12 -n)then(d,12 -n)else mo y n (d -dim y (12 -n))
theorem a7b(y:Int)(n:Nat)(d:Int):mo y (n+1) d=if d<dim y (12 -(n:Int))then(d,12 -(n:Int))else mo y n (d -dim y (12 -(n:Int))):=rfl
def rem(y:Int):Nat->Int
 |0=>0|n+1=>dim y (12 -n)+rem y n
theorem b2i(y:Int):rem y 12=diy y:=by unfold diy;cases h:il y<;>simp[rem,dim,h]
theorem b0S(y:Int):∀(n:Nat) (d:Int),n<=12->0<=d->d<rem y n->1<=(mo y n d).2/\(mo y n d).2<=12/\0<=(mo y n d).1/\(mo y n d).1<dim y (mo y n d).2
 |0,d,_,h0,h=>by simp[rem]at h;omega|n+1,d,hn,h0,h=>by
  unfold mo;by_cases hd:d<dim y (12 -n)
  .rw[if_pos hd];refine⟨?_,?_,h0,hd⟩<;>simp<;>omega
  .rw[if_neg hd];refine b0S y n _ l9 l9 ?_;simp only[rem]at h;omega
def yOf(d:Int):Int:=((((List.range 300).find? (λ(k:Nat)=>decide (d<ys (1900+(k:Int)+1)))).getD 0:Nat):Int)+1900
variable {d:Int}
theorem Tz(h0:0<=d)(h:d<=109572):1900<=yOf d/\yOf d<=2199/\ys (yOf d)<=d/\d<ys (yOf d+1):=by
 unfold yOf;cases hf:(List.range 300).find? (λ(k:Nat)=>decide (d<ys (1900+(k:Int)+1)))with
 |none=>
  have:=List.find?_eq_none.1 hf 299 A7;simp only[decide_eq_true_eq]at this;have e:ys (1900+(299:Nat)+1)=109573:=by decide+kernel
  omega
 |some k=>
  have h1:=List.find?_some hf;simp only[decide_eq_true_eq]at h1;have h2:=List.mem_of_find?_eq_some hf;simp only[bg]at h2;simp only[bK];refine⟨l9,l9,?_,?_⟩
  .cases k with
   |zero=>
    have e:ys 1900=0:=by decide+kernel
    simp[e,h0]
   |succ j=>have h3:=List.find?_range_eq_some.1 hf;have h4:=h3.2.2 j l9;simp only[cZ,decide_eq_false_iff_not,iP]at h4;have e:(((j+1:Nat):Int)+1900)=1900+(j:Int)+1:=l9;rw[e];exact h4
  .have e:(k:Int)+1900+1=1900+k+1:=l9;rw[e];exact h1
def oN(d:Int):Int×Int×Int:=let y:=yOf d;let r:=mo y 12 (d -ys y);(y,r.2,r.1+1)
theorem Ec(h0:0<=d)(h:d<=109572):xH d=some (oN d):=by
 obtain⟨y1,y2,y3,y4⟩:=Tz h0 h;have y0:=PK y1;unfold xH xJ;rw[Fh (X5 h0),o8,X5 h,D8,o6];have e0:x9 .i64 1900 (dD .i64 d 366)=1900+d / 366:=by
  have e:dD .i64 d 366=d / 366:=by rw[BR (by rw[jQ h0];unfold kL;omega),jQ h0]
  rw[e,X4 O5]
 rw[e0];obtain⟨y,hy,hq⟩:=gy (f:=λ(x:Int)=>o5 (qC (x9 IntKind.i64 x 1)) λ(x_1:Int)=>l7 (J5 x_1 d) (some (Sum.inl (x9 IntKind.i64 x 1))) (some (Sum.inr x))) (s:=1900+d / 366)
  (λy=>1900<=y/\y<=yOf d) (λy=>y=yOf d) (λy=>(2200 -y).toNat) (by
   refine⟨l9,?_⟩;have e:∀n:Nat,ys (1900+n)<=366*n:=by
    intro n;induction n with
    |zero=>decide+kernel|succ n ih=>have:=Ji (1900+n);have:=TS (1900+n);have e:(1900:Int)+((n+1:Nat):Int)=1900+n+1:=l9;rw[e];omega
   have e1:=e (d / 366).toNat
   have e2:((d / 366).toNat:Int)=d / 366:=l9;rw[e2]at e1;rcases PM (yOf d) (1900+d / 366)with hlt|hge
   .have:=tK (y:=yOf d+1) (y' :=1900+d / 366) l9;omega
   .exact hge) l9 (by
   intro y ⟨hy1,hy2⟩
   try simp only
   rw[X4 O5,BI l9 l9,o8];by_cases hle:ys (y+1)<=d
   .refine .inl ⟨y+1,by rw[Fh (X5 hle)],⟨l9,?_⟩,l9⟩;rcases PM (yOf d) (y+1)with hlt|hge
    .have:=tK (y:=yOf d+1) (y' :=y+1) l9;omega
    .exact hge
   .refine .inr ⟨y,by rw[Kz (Y4 l9)],?_⟩;rcases PM y (yOf d)with hlt|hge
    .have:=tK (y:=y+1) (y' :=yOf d) l9;omega
    .omega)
 rw[hy,o8,hq,BI l9 l9,o8,P8 O5];have hs:=Ji (yOf d);have hr:=b2i (yOf d);rcases vP (f:=λ(x:Int×Int)=>l7 (D9 x.2 12) (o5 (jG (yOf d) (x9 IntKind.i64 x.2 1)) λ(x_1:Int)=>l7 (D9 x.1 x_1) (some (Out.rt (yOf d,x9 IntKind.i64 x.2 1,x9 IntKind.i64 x.1 1))) (some (Out.nx (I7 IntKind.i64 x.1 x_1,x9 IntKind.i64 x.2 1)))) (some (Out.ex PUnit.unit))) (s:=(d -ys (yOf d),0))
  (λs=>∃n:Nat,n<=12/\s.2=12 -n/\mo (yOf d) n s.1=mo (yOf d) 12 (d -ys (yOf d))/\0<=s.1/\s.1<rem (yOf d) n/\s.1<=400) (λ_=>False) (λr=>r=oN d) (λs=>(12 -s.2).toNat)
  ⟨12,l9,A7,rfl,l9,by rw[hr];show d -ys (yOf d)<_;omega,by have:=TS (yOf d);show d -ys (yOf d)<=400;omega⟩ A7 (by
   rintro⟨r,i⟩ ⟨n,hn,hi,hm,hr0,hrn,hr4⟩;simp only at hi hm hr0 hrn hr4 ⊢;cases n with
   |zero=>simp[rem]at hrn;omega|succ n=>
    have ei:i+1=12 -n:=l9;rw[Fh (S9 l9),X4 O5,ei,uq l9 l9,o8];have hb:=Dx (yOf d) (12 -n);rw[a7b (yOf d) n r]at hm;by_cases hlt:r<dim (yOf d) (12 -n)
    .rw[if_pos hlt]at hm;refine .inr (.inr ⟨_,by rw[Fh (S9 hlt)],?_⟩);rw[X4 O5];unfold oN
     try simp only
     rw[←hm]
    .rw[if_neg hlt]at hm;refine .inl ⟨_,by rw[Kz (J9 l9),P8 O5],⟨n,l9,A7,hm,?_,?_,?_⟩,?_⟩
     .simp;omega
     .simp only[rem]at hrn ⊢;omega
     .simp;omega
     .simp;omega)with⟨_,_,hf⟩|⟨r,he,hr⟩
 .exact hf.elim
 .rw[he,o8,vC,hr]
theorem NQ(h0:0<=d)(h:d<=109572):Bz d=some (oN d):=by
 obtain⟨y1,y2,y3,y4⟩:=Tz h0 h;have y0:=PK y1;unfold Bz vG;rw[Fh (X5 h0),o8,X5 h,D8,o6];obtain⟨⟨r,y⟩,hy,hq⟩:=gy (f:=λ(x:Int×Int)=>o5 (jL x.2) λ(x_1:Int)=>l7 (J5 x_1 x.1) (o5 (jL x.2) λ(x_2:Int)=>some (Sum.inl (I7 IntKind.i64 x.1 x_2,x9 IntKind.i64 x.2 1))) (some (Sum.inr x))) (s:=(d,1900))
  (λs=>1900<=s.2/\s.2<=yOf d/\s.1=d -ys s.2) (λs=>s=(d -ys (yOf d),yOf d)) (λs=>(2200 -s.2).toNat)
  ⟨A7,by simpa using y1,by(have e:ys 1900=0:=by decide+kernel);simp[e]⟩ A7 (by
   rintro⟨r,y⟩ ⟨h1,h2,h3⟩;simp only at h1 h2 h3 ⊢;have hb:=TS y;have hs:=Ji y;have hm:=tK h2;have hpos:0<=ys y:=by
     have:=tK (y:=1900) (y' :=y) h1;have e:ys 1900=0:=by decide+kernel
     omega
   rw[Fg l9,o8];by_cases hle:diy y<=r
   .refine .inl ⟨(r -diy y,y+1),?_,⟨by simp;omega,?_,?_⟩,?_⟩
    .rw[Fh (X5 hle),o8,P8 O5,X4 O5]
    .simp only;rcases PM (yOf d) (y+1)with hlt|hge
     .have:=tK (y:=yOf d+1) (y' :=y+1) l9;omega
     .exact hge
    .simp only;omega
    .simp;omega
   .refine .inr ⟨_,by rw[Kz (Y4 l9)],?_⟩;have e:y=yOf d:=a9z (d:=d) l9 l9 y3 y4;subst e;rw[h3])
 rw[hy,o8,hq]
 try simp only
 have hs:=Ji (yOf d);have hr:=b2i (yOf d);obtain⟨⟨r,m⟩,he,hq2⟩:=gy (f:=λ(x:Int×Int)=>o5 (gp (yOf d) x.2) λ(x_1:Int)=>l7 (J5 x_1 x.1) (o5 (gp (yOf d) x.2) λ(x_2:Int)=>some (Sum.inl (I7 IntKind.i64 x.1 x_2,x9 IntKind.i64 x.2 1))) (some (Sum.inr x))) (s:=(d -ys (yOf d),1))
  (λs=>∃n:Nat,n<=12/\s.2=13 -n/\mo (yOf d) n s.1=mo (yOf d) 12 (d -ys (yOf d))/\0<=s.1/\s.1<rem (yOf d) n/\s.1<=400) (λs=>s=mo (yOf d) 12 (d -ys (yOf d))) (λs=>(13 -s.2).toNat)
  ⟨12,l9,A7,rfl,l9,by rw[hr];show d -ys (yOf d)<_;omega,by have:=TS (yOf d);show d -ys (yOf d)<=400;omega⟩ A7 (by
   rintro⟨r,i⟩ ⟨n,hn,hi,hm,hr0,hrn,hr4⟩;simp only at hi hm hr0 hrn hr4 ⊢;cases n with
   |zero=>simp[rem]at hrn;omega|succ n=>
    have ei:i=12 -n:=l9;subst ei;rw[sV l9 l9,o8];have hb:=Dx (yOf d) (12 -n);rw[a7b (yOf d) n r]at hm;by_cases hlt:r<dim (yOf d) (12 -n)
    .rw[if_pos hlt]at hm;exact .inr ⟨_,by rw[Kz (Y4 l9)],hm⟩
    .rw[if_neg hlt]at hm;refine .inl ⟨(r -dim (yOf d) (12 -n),12 -n+1),by rw[Fh (X5 l9),o8,P8 O5,X4 O5],⟨n,l9,by simp;omega,hm,?_,?_,?_⟩,?_⟩
     .simp;omega
     .simp only[rem]at hrn ⊢;omega
     .simp;omega
     .simp;omega)
 rw[he,o8,hq2];have hb:=b0S (yOf d) 12 (d -ys (yOf d)) l9 l9 (by rw[hr];omega);have hb2:=Dx (yOf d) (mo (yOf d) 12 (d -ys (yOf d))).2;rw[X4 O5];rfl
theorem OA(h0:0<=d)(h:d<=109572):1900<=(oN d).1/\(oN d).1<=2199/\1<=(oN d).2.1/\(oN d).2.1<=12/\1<=(oN d).2.2/\(oN d).2.2<=31:=by
 obtain⟨y1,y2,y3,y4⟩:=Tz h0 h;have y0:=PK y1;have hs:=Ji (yOf d);have hb:=b0S (yOf d) 12 (d -ys (yOf d)) l9 l9 (by rw[b2i];omega);have hb2:=Dx (yOf d) (mo (yOf d) 12 (d -ys (yOf d))).2;unfold oN
 try simp only
 omega
end Gt
namespace Go.GP
open Gt
set_option maxRecDepth 100000
def vS(y:Int):Nat->Int
 |0=>0|k+1=>vS y k+dim y ((k:Int)+1)
def a2d(y m d:Int):Int:=ys y+vS y (m -1).toNat+d -1
theorem RV(y:Int):∀k:Nat,k<=12->28*k<=vS y k/\vS y k<=31*k
 |0,_=>by simp[vS]|k+1,h=>by have:=RV y k l9;have:=Dx y ((k:Int)+1);unfold vS;omega
theorem a8r(y:Int):vS y 12=diy y:=by unfold vS vS vS vS vS vS vS vS vS vS vS vS vS dim diy;simp;cases il y<;>simp
theorem a7c(y:Int):∀j k:Nat,j<=k->vS y j<=vS y k
 |j,0,h=>by have:j=0:=l9;subst this;omega|j,k+1,h=>by
  by_cases hq:j=k+1
  .subst hq;omega
  .have:=a7c y j k l9;have:=Dx y ((k:Int)+1);show vS y j<=vS y k+dim y ((k:Int)+1);omega
variable {y:Int}{d:Int}{m:Int}
theorem b4M(hm:1<=m/\m<=12)(h1:1<=d)(h2:d<=dim y m):ys y<=a2d y m d/\a2d y m d<ys (y+1):=by
 have h3:=a7c y ((m -1).toNat+1) 12 l9;rw[a8r]at h3;have h4:vS y ((m -1).toNat+1)=vS y (m -1).toNat+dim y m:=by show vS y (m -1).toNat+dim y (((m -1).toNat:Int)+1)=_;rw[aC l9];congr 2;omega
 have h5:=RV y (m -1).toNat l9;have h6:=Ji y;unfold a2d;omega
theorem b4A(h:1900<=y)(h2:y<=2200):0<=ys y/\ys y<=109573:=by
 have h1:=PK h;have h3:=tK h2;have:ys 2200=109573:=by decide
 omega
theorem a4A(hy:1900<=y/\y<=2199)(hm:1<=m/\m<=12)(h1:1<=d)(h2:d<=dim y m):Fp y m d=some (a2d y m d,0):=by
 have hyb:=b4A hy.1 l9;have hdb:=Dx y m;unfold Fp;rw[J9 hy.1,o6,J9 hy.2,o6,J9 hm.1,o6,J9 hm.2,o6,J9 h1,o6,uq l9 hm,o8,J9 h2,o6,o8,J7,BI l9 l9,o8];have hs:I7 .i64 m 1=m -1:=P8 O5;obtain⟨e,k1,k2⟩:=gy (f:=λ(x:Int×Int)=>l7 (D9 x.2 (I7 .i64 m 1)) (o5 (jG y (x9 .i64 x.2 1)) λ(x_1:Int)=>some (.inl (x9 .i64 x.1 x_1,x9 .i64 x.2 1))) (some (.inr x.1)))
  (s:=(ys y,0)) (λx=>∃i:Nat,x=(ys y+vS y i,(i:Int))/\(i:Int)<=m -1) (λe=>e=ys y+vS y (m -1).toNat) (λx=>(m -1 -x.2).toNat) ⟨0,by simp[vS],l9⟩ V6 (by
  rintro x ⟨i,rfl,hi⟩;simp only[hs];by_cases hlt:(i:Int)<m -1
  .have hb:=RV y i l9;have hd:=Dx y ((i:Int)+1);left;refine⟨(ys y+vS y (i+1),((i+1:Nat):Int)),?_,⟨i+1,rfl,l9⟩,by simp;omega⟩;rw[S9 hlt,o7,Y1 l9,show(((i+1:Nat):Int))=(i:Int)+1 by omega,uq l9 l9,o8,X4 O5];simp only[vS];rw[Int.add_assoc]
  .right;have:i=(m -1).toNat:=l9;subst this;exact⟨_,by rw[J9 l9];rfl,rfl⟩)
 refine(kR k1 _).trans ?_;have hb:=RV y (m -1).toNat l9;rw[k2,X4 O5,P8 O5];rfl
theorem a3f(hy:1900<=y/\y<=2199)(hm:1<=m/\m<=12)(h1:1<=d)(h2:d<=dim y m):wS y m d=some (a2d y m d,0):=by
 have hyb:=b4A hy.1 l9;have hdb:=Dx y m;unfold wS;rw[J9 hy.1,o6,J9 hy.2,o6,J9 h1,o6,sV l9 hm,o8,J9 h2,o6,o8,J7,P8 O5];obtain⟨e,k1,k2⟩:=gy (f:=λ(x:Int×Int)=>l7 (D9 x.2 y) (o5 (jL x.2) λ(x_1:Int)=>some (.inl (x9 .i64 x.1 x_1,x9 .i64 x.2 1))) (some (.inr x.1)))
  (s:=(d -1,1900)) (λx=>∃i:Int,x=(d -1+ys i,i)/\1900<=i/\i<=y) (λe=>e=d -1+ys y) (λx=>(y -x.2).toNat) ⟨1900,by simp[show ys 1900=0 by decide],l9,l9⟩ V6 (by
  rintro x ⟨i,rfl,hi,hi2⟩;by_cases hlt:i<y
  .left;have hb:=b4A hi l9;have hd:=TS i;refine⟨(d -1+ys (i+1),i+1),?_,⟨i+1,rfl,l9,l9⟩,by simp;omega⟩;simp only;rw[S9 hlt,o7,Fg l9,o8,X4 O5,X4 O5,Ji,Int.add_assoc]
  .right;have:i=y:=l9;subst this;exact⟨_,by simp only[J9 (show i<=i by omega)];rfl,rfl⟩)
 refine(kR k1 _).trans ?_;subst k2;obtain⟨e,k1,k2⟩:=gy (f:=λ(x:Int×Int)=>l7 (D9 x.2 m) (o5 (gp y x.2) λ(x_1:Int)=>some (.inl (x9 .i64 x.1 x_1,x9 .i64 x.2 1))) (some (.inr x.1)))
  (s:=(d -1+ys y,1)) (λx=>∃i:Nat,x=(d -1+ys y+vS y i,(i:Int)+1)/\(i:Int)<=m -1) (λe=>e=d -1+ys y+vS y (m -1).toNat) (λx=>(m -x.2).toNat) ⟨0,by simp[vS],l9⟩ V6 (by
  rintro x ⟨i,rfl,hi⟩;by_cases hlt:(i:Int)+1<m
  .have hb:=RV y i l9;have hd:=Dx y ((i:Int)+1);left;refine⟨(d -1+ys y+vS y (i+1),((i+1:Nat):Int)+1),?_,⟨i+1,rfl,l9⟩,by simp;omega⟩;simp only;rw[S9 hlt,o7,sV l9 l9,o8,X4 O5,X4 O5];simp only[vS];rw[Int.add_assoc (d -1+ys y)];simp
  .right;have:i=(m -1).toNat:=l9;subst this;exact⟨_,by simp only[J9 (show m<=((m -1).toNat:Int)+1 by omega)];rfl,rfl⟩)
 refine(kR k1 _).trans ?_;rw[k2];unfold a2d;rw[show d -1+ys y+vS y (m -1).toNat=ys y+vS y (m -1).toNat+d -1 by omega]
def a7L(d n:Int):Int×Int:=
 if ¬(0<=d/\d<=109572)\/n< -3600\/3600<n then(0,3)else
  if((oN d).1 -1900)*12+(oN d).2.1 -1+n<0\/3599<((oN d).1 -1900)*12+(oN d).2.1 -1+n then(0,3)else
   (a2d (1900+(((oN d).1 -1900)*12+(oN d).2.1 -1+n) / 12) ((((oN d).1 -1900)*12+(oN d).2.1 -1+n) % 12+1) (pM (oN d).2.2 (dim (1900+(((oN d).1 -1900)*12+(oN d).2.1 -1+n) / 12) ((((oN d).1 -1900)*12+(oN d).2.1 -1+n) % 12+1))),0)
theorem OV(a b:Int):pM a b=if b<a then b else a:=rfl
theorem QU(d n:Int):uC d n=some (a7L d n):=by
 unfold uC xJ a7L;by_cases h0:0<=d/\d<=109572
 case neg=>
  rw[if_pos (.inl h0)];by_cases h1:0<=d
  .rw[X5 h1,Y4 l9];rfl
  .rw[Y4 l9];rfl
 rw[X5 h0.1,X5 h0.2,o7,o8,D8,o6];by_cases h1:n< -3600
 .rw[S9 h1,if_pos (.inr (.inl h1))];rfl
 by_cases h2:3600<n
 .rw[J9 l9,S9 h2,if_pos (.inr (.inr h2))];rfl
 rw[J9 l9,J9 l9,if_neg l9,o6,o6,o8,J7,Ec h0.1 h0.2,o8];obtain⟨b1,b2,b3,b4,b5,b6⟩:=OA h0.1 h0.2;generalize oN d=q at*;obtain⟨y,m,dd⟩:=q;simp only at b1 b2 b3 b4 b5 b6 ⊢;have e1:I7 .i64 y 1900=y -1900:=P8 O5;have e2:X9 .i64 (y -1900) 12=(y -1900)*12:=lQ O5;have e3:x9 .i64 ((y -1900)*12) m=(y -1900)*12+m:=X4 O5;have e4:I7 .i64 ((y -1900)*12+m) 1=(y -1900)*12+m -1:=P8 O5;have e5:x9 .i64 ((y -1900)*12+m -1) n=(y -1900)*12+m -1+n:=X4 O5;rw[e1,e2,e3,e4,e5];generalize ht:(y -1900)*12+m -1+n=t;by_cases t0:t<0
 .rw[S9 t0,if_pos (.inl t0)];rfl
 by_cases t1:3599<t
 .rw[J9 l9,S9 t1,if_pos (.inr t1)];rfl
 rw[J9 l9,J9 l9,if_neg l9,o6,o6];have e6:dD .i64 t 12=t / 12:=by rw[BR (by rw[jQ l9];unfold kL;omega),jQ l9]
 have e7:dM t 12=t % 12:=zG l9;have e8:x9 .i64 1900 (t / 12)=1900+t / 12:=X4 O5;have e9:x9 .i64 (t % 12) 1=t % 12+1:=X4 O5;rw[e6,e7,e8,e9,uq l9 l9,o8];have hd:=Dx (1900+t / 12) (t % 12+1);rw[a4A l9 l9 (by rw[OV];split<;>omega) (by rw[OV];split<;>omega)];rfl
theorem Qd(d n:Int):mO d n=some (a7L d n):=by
 unfold mO vG a7L;by_cases h0:0<=d/\d<=109572
 case neg=>
  rw[if_pos (.inl h0)];by_cases h1:0<=d
  .rw[X5 h1,Y4 l9];rfl
  .rw[Y4 l9];rfl
 rw[X5 h0.1,X5 h0.2,o7,o8,D8,o6];by_cases h1:n< -3600
 .rw[S9 h1,if_pos (.inr (.inl h1))];rfl
 by_cases h2:3600<n
 .rw[J9 l9,S9 h2,if_pos (.inr (.inr h2))];rfl
 rw[J9 l9,J9 l9,if_neg l9,o6,o6,o8,J7,NQ h0.1 h0.2,o8];obtain⟨b1,b2,b3,b4,b5,b6⟩:=OA h0.1 h0.2;generalize oN d=q at*;obtain⟨y,m,dd⟩:=q;simp only at b1 b2 b3 b4 b5 b6 ⊢;have e2:X9 .i64 12 y=12*y:=lQ O5;have e3:x9 .i64 (12*y) m=12*y+m:=X4 O5;have e4:I7 .i64 (12*y+m) 1=12*y+m -1:=P8 O5;have e5:x9 .i64 (12*y+m -1) n=12*y+m -1+n:=X4 O5;rw[e2,e3,e4,e5];generalize ht:(y -1900)*12+m -1+n=t;have hk:12*y+m -1+n=t+22800:=l9;rw[hk];have e6:dD .i64 (t+22800) 12=1900+t / 12:=by rw[BR (by rw[jQ l9];unfold kL;omega),jQ l9];omega
 have e7:dM (t+22800) 12=t % 12:=by rw[zG l9];omega
 have e9:x9 .i64 (t % 12) 1=t % 12+1:=X4 O5;rw[e6,e7,e9,sV l9 l9,o8];have hd:=Dx (1900+t / 12) (t % 12+1);by_cases t0:t<0
 .rw[if_pos (.inl t0)];unfold wS;rw[S9 (show 1900+t / 12<1900 by omega)];rfl
 by_cases t1:3599<t
 .rw[if_pos (.inr t1)];unfold wS;rw[J9 (show 1900<=1900+t / 12 by omega),S9 (show 2199<1900+t / 12 by omega)];rfl
 rw[if_neg l9,a3f l9 l9 (by rw[OV];split<;>omega) (by rw[OV];split<;>omega)];rfl
def yrl(a k:Int):Int:=a2d ((oN a).1+k) (oN a).2.1 (pM (oN a).2.2 (dim ((oN a).1+k) (oN a).2.1))
variable {a:Int}
theorem ZK(h0:0<=a/\a<=109572){k:Int}(hk:0<=k)(hk2:k<=300):a7L a (12*k)=if(oN a).1+k<=2199 then(yrl a k,0)else(0,3):=by
 obtain⟨b1,b2,b3,b4,b5,b6⟩:=OA h0.1 h0.2;unfold a7L yrl;rw[if_neg l9];generalize oN a=q at*;obtain⟨y,m,dd⟩:=q;simp only at b1 b2 b3 b4 b5 b6 ⊢;have e1:1900+((y -1900)*12+m -1+12*k) / 12=y+k:=l9;have e2:((y -1900)*12+m -1+12*k) % 12+1=m:=l9;by_cases h:y+k<=2199
 .rw[if_neg l9,if_pos h,e1,e2]
 .rw[if_pos l9,if_neg h]
theorem b4z(h0:0<=a/\a<=109572)(k:Int):ys ((oN a).1+k)<=yrl a k/\yrl a k<ys ((oN a).1+k+1):=by obtain⟨b1,b2,b3,b4,b5,b6⟩:=OA h0.1 h0.2;have hd:=Dx ((oN a).1+k) (oN a).2.1;unfold yrl;exact b4M ⟨b3,b4⟩ (by rw[OV];split<;>omega) (by rw[OV];split<;>omega)
theorem TA(h0:0<=a/\a<=109572):ys (oN a).1<=a/\a<ys ((oN a).1+1):=by have:=Tz h0.1 h0.2;exact⟨this.2.2.1,this.2.2.2⟩
def a1D(a b:Int):Int:=if 0<=a/\a<=109572/\0<=b/\b<=109572/\a<=b then
  (if(oN b).1 -(oN a).1<=0 then 0 else if yrl a ((oN b).1 -(oN a).1)<=b then(oN b).1 -(oN a).1 else(oN b).1 -(oN a).1 -1)else 0
theorem Wn(a b:Int):oO a b=some (a1D a b):=by
 unfold oO xJ a1D;by_cases ha0:0<=a
 case neg=>rw[Y4 l9,if_neg l9];rfl
 by_cases ha1:a<=109572
 case neg=>rw[X5 ha0,Y4 l9,if_neg l9];rfl
 rw[X5 ha0,X5 ha1,o7,o8,D8,o6];by_cases hb0:0<=b
 case neg=>rw[Y4 l9,if_neg l9];rfl
 by_cases hb1:b<=109572
 case neg=>rw[X5 hb0,Y4 l9,if_neg l9];rfl
 rw[X5 hb0,X5 hb1,o7,o8,D8,o6];by_cases hab:a<=b
 case neg=>rw[S9 l9,if_neg l9];rfl
 rw[J9 hab,o6,if_pos ⟨ha0,ha1,hb0,hb1,hab⟩,Ec ha0 ha1,o8,Ec hb0 hb1,o8];obtain⟨p1,p2,_,_,_,_⟩:=OA ha0 ha1;obtain⟨q1,q2,_,_,_,_⟩:=OA hb0 hb1;have ya:=TA ⟨ha0,ha1⟩;have yb:=TA ⟨hb0,hb1⟩;have hK:0<=(oN b).1 -(oN a).1:=by
  rcases PM (oN b).1 (oN a).1 with h|h
  .have:=tK (show(oN b).1+1<=(oN a).1 by omega);omega
  .omega
 rw[P8 (show kL ((oN b).1 -(oN a).1) by unfold kL;omega)];have hle:(oN a).1+((oN b).1 -(oN a).1)<=2199:=l9;generalize (oN b).1 -(oN a).1=K at*;rw[lQ (show kL (12*K) by unfold kL;omega),QU,o8,ZK ⟨ha0,ha1⟩ hK l9,if_pos hle];simp only[O8 (rfl:(0:Int)=0),D8,o6];rw[P8 (show kL (K -1) by unfold kL;omega)];have im:∀x:Int,nR x 0=if x<0 then 0 else x:=λx=>rfl;by_cases hz:K<=0
 .have:K=0:=l9;subst this;rw[if_pos l9];cases D9 b (yrl a 0)<;>rfl
 .rw[if_neg hz];by_cases hq:yrl a K<=b
  .rw[if_pos hq,J9 hq,o6,im,if_neg l9]
  .rw[if_neg hq,S9 l9,o7,im,if_neg l9]
theorem Ur(a b:Int):qM a b=some (a1D a b):=by
 unfold qM vG a1D;by_cases ha0:0<=a
 case neg=>rw[Y4 l9,if_neg l9];rfl
 by_cases ha1:a<=109572
 case neg=>rw[X5 ha0,Y4 l9,if_neg l9];rfl
 rw[X5 ha0,X5 ha1,o7,o8,D8,o6];by_cases hb0:0<=b
 case neg=>rw[Y4 l9,if_neg l9];rfl
 by_cases hb1:b<=109572
 case neg=>rw[X5 hb0,Y4 l9,if_neg l9];rfl
 rw[X5 hb0,X5 hb1,o7,o8,D8,o6];obtain⟨p1,p2,_,_,_,_⟩:=OA ha0 ha1;obtain⟨q1,q2,_,_,_,_⟩:=OA hb0 hb1;have ya:=TA ⟨ha0,ha1⟩;have yb:=TA ⟨hb0,hb1⟩;have key:=vP (f:=λ(x:Int)=>o5 (mO a (X9 .i64 12 (x9 .i64 x 1))) λ(x_1:Int×Int)=>l7 (D7 (x8 x_1.2 0)) (some (.rt x)) (l7 (D9 b x_1.1) (some (.rt x)) (some (.nx (x9 .i64 x 1)))))
  (s:=0) (λx=>0<=x/\(x=0\/(x<=(oN b).1 -(oN a).1/\yrl a x<=b))) (λ(_:PUnit)=>False) (λr=>r=(if a<=b then(if(oN b).1 -(oN a).1<=0 then 0 else if yrl a ((oN b).1 -(oN a).1)<=b then(oN b).1 -(oN a).1 else(oN b).1 -(oN a).1 -1)else 0)) (λx=>(300 -x).toNat) ⟨l9,.inl rfl⟩ A7 (by
  rintro x ⟨hx0,hx⟩;have hx300:x<=299:=l9;rw[X4 (show kL (x+1) by unfold kL;omega),lQ (show kL (12*(x+1)) by unfold kL;omega),Qd,o8,ZK ⟨ha0,ha1⟩ l9 l9];have hyb:=b4z ⟨ha0,ha1⟩ (x+1);have hyx:=b4z ⟨ha0,ha1⟩ x;have hmono:ys ((oN a).1+x+1)<=ys ((oN a).1+(x+1)):=tK l9;have hax:a<yrl a (x+1):=by have:=tK (show(oN a).1+1<=(oN a).1+(x+1) by omega);omega
  by_cases hq:(oN a).1+(x+1)<=2199/\yrl a (x+1)<=b
  .left;obtain⟨hq1,hq2⟩:=hq;have hK:x+1<=(oN b).1 -(oN a).1:=by
    rcases PM (oN b).1 ((oN a).1+(x+1))with h|h
    .have:=tK (show(oN b).1+1<=(oN a).1+(x+1) by omega);omega
    .omega
   refine⟨x+1,?_,⟨l9,.inr ⟨hK,hq2⟩⟩,l9⟩;rw[if_pos hq1];simp only[O8 (rfl:(0:Int)=0),D8,o6,J9 hq2]
  .right;right;refine⟨x,?_,?_⟩
   .by_cases hq1:(oN a).1+(x+1)<=2199
    .rw[if_pos hq1];simp only[O8 (rfl:(0:Int)=0),D8,o6,S9 (show b<yrl a (x+1) by omega),o7]
    .rw[if_neg hq1];rfl
   .by_cases hab:a<=b
    case neg=>
     rw[if_neg hab];by_cases hx1:x=0
     .exact hx1
     .exfalso;have:=tK (show(oN a).1+1<=(oN a).1+x by omega);omega
    rw[if_pos hab];have hK:0<=(oN b).1 -(oN a).1:=by
     rcases PM (oN b).1 (oN a).1 with h|h
     .have:=tK (show(oN b).1+1<=(oN a).1 by omega);omega
     .omega
    have hxK:x<=(oN b).1 -(oN a).1:=l9;by_cases hxe:x=(oN b).1 -(oN a).1
    .by_cases hz:(oN b).1 -(oN a).1<=0
     .rw[if_pos hz];omega
     .rw[if_neg hz];rcases hx with hx|hx
      .omega
      .rw[←hxe,if_pos hx.2]
    .have hlt:x+1<=(oN b).1 -(oN a).1:=l9;rw[if_neg l9];have hyr:(oN a).1+(x+1)<=2199:=l9;have hgt:b<yrl a (x+1):=by
      have:=λh=>hq ⟨hyr,h⟩;omega
     have heq:x+1=(oN b).1 -(oN a).1:=by
      rcases PM (x+1) ((oN b).1 -(oN a).1)with h|h
      .have:=tK (show(oN a).1+(x+1)+1<=(oN b).1 by omega);omega
      .omega
     rw[←heq,if_neg l9];omega)
 rcases key with⟨e,_,h⟩|⟨r,k1,k2⟩
 .exact h.elim
 .refine(kR k1 _).trans ?_;rw[k2];by_cases hab:a<=b
  .rw[if_pos hab,if_pos (show 0<=a/\a<=109572/\0<=b/\b<=109572/\a<=b from⟨ha0,ha1,hb0,hb1,hab⟩)];rfl
  .rw[if_neg hab,if_neg l9];rfl
def a6R:d1x:=(List.range 256).map λn=>UInt8.ofNat (if n=0 then 0 else Nat.log2 n+1)
theorem b0J:∀n:Fin 256,∃k:Fin 9,a6R[n.val]? =some (UInt8.ofNat k.val)/\n.val<2^k.val/\(0<n.val->0<k.val/\2^(k.val -1)<=n.val):=by decide+kernel
def a7I(n:Int)(k:Nat):Prop:=n<2^k/\(0<n->0<k/\2^(k -1)<=n)
variable {n:Int}
theorem b6e(h0:0<=n)(h:n<256):wrap .u8 n=n:=by unfold wrap IntKind.wrap;simp[IntKind.signed,IntKind.bits];omega
theorem b4T(h0:0<=n)(h:n<256):∃k:Nat,k<=8/\sat a6R (wrap .u8 n)=some (k:Int)/\a7I n k:=by
 rw[b6e h0 h];obtain⟨k,k1,k2,k3⟩:=b0J ⟨n.toNat,l9⟩;refine⟨k.val,l9,?_,?_,λhp=>?_⟩
 .unfold sat
  rw[if_pos h0];simp only at k1;rw[k1];simp;have:=k.isLt;omega
 .simp only at k2;have:((n.toNat:Nat):Int)<((2^k.val:Nat):Int):=l9;rw[aC h0,sJ]at this;exact this
 .simp only at k3;obtain⟨a,b⟩:=k3 l9;refine⟨a,?_⟩;have:((2^(k.val -1):Nat):Int)<=((n.toNat:Nat):Int):=l9;rw[aC h0,sJ]at this;exact this
theorem Rz{k:Nat}(hk:k<=64):uf .u64 n (k:Int)=n / 2^k:=by unfold uf;rw[U2,show IntKind.bits .u64=64 from rfl,show min k 64=k by omega];exact Int.fdiv_eq_ediv_of_nonneg _ (Int.pow_nonneg l9)
theorem a7I.shift{j k:Nat}(h:a7I (n / 2^j) k)(hn:2^j<=n):a7I n (j+k):=by
 have hp:(0:Int)<2^j:=Int.pow_pos l9;have h1:0<n / 2^j:=by have:=qH hp (show 1*2^j<=n by omega);omega
 obtain⟨a,b⟩:=h;obtain⟨b1,b2⟩:=b h1;have hdm:=Int.mul_ediv_add_emod n (2^j);have hm:=L6 n hp;have hm0:=O9 n (show(2:Int)^j≠0 by omega);refine⟨?_,λ_=>⟨l9,?_⟩⟩
 .have:(2:Int)^j*(n / 2^j+1)<=2^j*2^k:=Int.mul_le_mul_of_nonneg_left l9 l9;rw[Int.mul_add,Int.mul_one]at this;rw[Int.pow_add];omega
 .have:(2:Int)^j*2^(k -1)<=2^j*(n / 2^j):=Int.mul_le_mul_of_nonneg_left b2 l9;rw[show j+k -1=j+(k -1) by omega,Int.pow_add];omega
theorem b0I:(LP:d1x)=a6R:=by decide+kernel
theorem oq(h0:0<=n)(h:n<=1000):wrap .i64 n=n:=mi O5
variable {b:Int}
theorem LZ(h0:0<=a)(h1:a<=1000)(h2:0<=b)(h3:b<=1000):x9 .i64 a b=a+b:=X4 O5
theorem b0H(h0:0<=n)(h:n<18446744073709551616):∃k:Nat,k<=64/\Aq n=some (k:Int)/\a7I n k:=by
 have s32:∀m:Int,uf .u64 m 32=m / 2^32:=λm=>Rz (k:=32) l9;have s16:∀m:Int,uf .u64 m 16=m / 2^16:=λm=>Rz (k:=16) l9;have s8:∀m:Int,uf .u64 m 8=m / 2^8:=λm=>Rz (k:=8) l9;unfold Aq;rw[b0I,s32,s16,s16,s8,s8,s8,s8];have ow:∀(m:Int) (a:Int) (K:Nat),0<=m->m<256->a=(K:Int)->K<=56->∀(g:Int->Int),(∀x,0<=x->x<=8->g x=a+x)->∃k:Nat,k<=8/\(o5 (sat a6R (wrap .u8 m)) λ(x:Int)=>some (g x))=some (((K+k:Nat):Int))/\a7I m k:=by intro m a K m0 m1 ha hK g hg;obtain⟨k,k1,k2,k3⟩:=b4T m0 m1;refine⟨k,k1,?_,k3⟩;rw[k2,o8,hg _ l9 l9,ha];simp
 by_cases c32:4294967296<=n
 .rw[X5 c32,o7];by_cases c16:65536<=n / 2^32
  .rw[X5 c16,o7];by_cases c8:256<=n / 2^32 / 2^16
   .rw[X5 c8,o7];obtain⟨k,k1,k2,k3⟩:=ow (n / 2^32 / 2^16 / 2^8) 56 56 l9 l9 rfl l9 (λx=>x9 .i64 (x9 .i64 (x9 .i64 32 16) 8) (wrap .i64 x)) (λx x0 x1=>by
     rw[oq x0 l9,show x9 .i64 (x9 .i64 32 16) 8=56 by decide,LZ l9 l9 l9 l9])
    exact⟨56+k,l9,k2,by have:=((k3.shift (j:=8) l9).shift (j:=16) l9).shift (j:=32) l9;rw[show 32+(16+(8+k))=56+k by omega]at this;exact this⟩
   .rw[Y4 l9,o6];obtain⟨k,k1,k2,k3⟩:=ow (n / 2^32 / 2^16) 48 48 l9 l9 rfl l9 (λx=>x9 .i64 (x9 .i64 32 16) (wrap .i64 x)) (λx x0 x1=>by
     rw[oq x0 l9,LZ (a:=32) l9 l9 l9 l9,LZ l9 l9 l9 l9];rfl)
    exact⟨48+k,l9,k2,by have:=(k3.shift (j:=16) l9).shift (j:=32) l9;rw[show 32+(16+k)=48+k by omega]at this;exact this⟩
  .rw[Y4 l9,o6];by_cases c8:256<=n / 2^32
   .rw[X5 c8,o7];obtain⟨k,k1,k2,k3⟩:=ow (n / 2^32 / 2^8) 40 40 l9 l9 rfl l9 (λx=>x9 .i64 (x9 .i64 32 8) (wrap .i64 x)) (λx x0 x1=>by
     rw[oq x0 l9,LZ (a:=32) l9 l9 l9 l9,LZ l9 l9 l9 l9];rfl)
    exact⟨40+k,l9,k2,by have:=(k3.shift (j:=8) l9).shift (j:=32) l9;rw[show 32+(8+k)=40+k by omega]at this;exact this⟩
   .rw[Y4 l9,o6];obtain⟨k,k1,k2,k3⟩:=ow (n / 2^32) 32 32 l9 l9 rfl l9 (λx=>x9 .i64 32 (wrap .i64 x)) (λx x0 x1=>by
     rw[oq x0 l9,LZ l9 l9 l9 l9])
    exact⟨32+k,l9,k2,k3.shift (j:=32) l9⟩
 .rw[Y4 l9,o6];by_cases c16:65536<=n
  .rw[X5 c16,o7];by_cases c8:256<=n / 2^16
   .rw[X5 c8,o7];obtain⟨k,k1,k2,k3⟩:=ow (n / 2^16 / 2^8) 24 24 l9 l9 rfl l9 (λx=>x9 .i64 (x9 .i64 (x9 .i64 0 16) 8) (wrap .i64 x)) (λx x0 x1=>by
     rw[oq x0 l9,show x9 .i64 (x9 .i64 0 16) 8=24 by decide,LZ l9 l9 l9 l9])
    exact⟨24+k,l9,k2,by have:=(k3.shift (j:=8) l9).shift (j:=16) l9;rw[show 16+(8+k)=24+k by omega]at this;exact this⟩
   .rw[Y4 l9,o6];obtain⟨k,k1,k2,k3⟩:=ow (n / 2^16) 16 16 l9 l9 rfl l9 (λx=>x9 .i64 (x9 .i64 0 16) (wrap .i64 x)) (λx x0 x1=>by
     rw[oq x0 l9,LZ (a:=0) l9 l9 l9 l9,LZ l9 l9 l9 l9];rfl)
    exact⟨16+k,l9,k2,k3.shift (j:=16) l9⟩
  .rw[Y4 l9,o6];by_cases c8:256<=n
   .rw[X5 c8,o7];obtain⟨k,k1,k2,k3⟩:=ow (n / 2^8) 8 8 l9 l9 rfl l9 (λx=>x9 .i64 (x9 .i64 0 8) (wrap .i64 x)) (λx x0 x1=>by
     rw[oq x0 l9,LZ (a:=0) l9 l9 l9 l9,LZ l9 l9 l9 l9];rfl)
    exact⟨8+k,l9,k2,k3.shift (j:=8) l9⟩
   .rw[Y4 l9,o6];obtain⟨k,k1,k2,k3⟩:=ow n 0 0 l9 l9 rfl l9 (λx=>x9 .i64 0 (wrap .i64 x)) (λx x0 x1=>by
     rw[oq x0 l9,LZ l9 l9 l9 l9])
    exact⟨0+k,l9,k2,by rw[bU];exact k3⟩
theorem EZ(h0:0<=n)(h:n<18446744073709551616):IntKind.wrap .u64 n=n:=b4y (by unfold U64;omega)
theorem zZ(n:Int):IntKind.wrap .u64 n=n % 18446744073709551616:=by unfold IntKind.wrap;simp[IntKind.signed,IntKind.bits]
def a4T{σ ε:Type}(f:σ->Option (σ⊕ε))(m:Nat)(o:Option (σ⊕ε)):Option ε:=match o with
 |some (.inl s')=>uh f m s'|some (.inr e)=>some e|none=>none
theorem a8n{σ ε:Type}(f:σ->Option (σ⊕ε))(m:Nat)(s:σ):uh f (m+1) s=a4T f m (f s):=by
 rw[uh];unfold a4T;cases f s with
 |none=>rfl|some o=>cases o<;>rfl
variable {σ:Type}
theorem Xl(mkp:Int->Int->σ){f:σ->Option (σ⊕Int)}{y1 y0 U d:Int}(hy1:2147483648<=y1)(hy1' :y1<4294967296)(hy0:0<=y0)(hy0' :y0<4294967296)(hU:0<=U)(hUY:U<y1*4294967296+y0)(hd:0<=d)(hd' :d<4294967296)
  (hf:∀q r,0<=q->q<=4294967297->0<=r->r<4294967296->f (mkp q r)=l7 (J5 4294967296 q) (l7 (J5 4294967296 (x9 .u64 r y1)) (some (.inr (I7 .u64 q 1))) (some (.inl (mkp (I7 .u64 q 1) (x9 .u64 r y1)))))
   (l7 (D9 (x9 .u64 (X9 .u64 4294967296 r) d) (X9 .u64 q y0)) (l7 (J5 4294967296 (x9 .u64 r y1)) (some (.inr (I7 .u64 q 1))) (some (.inl (mkp (I7 .u64 q 1) (x9 .u64 r y1))))) (some (.inr q)))):
  ∃Q,Y9 f (mkp (U / y1) (U -U / y1*y1))=some Q/\0<=Q/\Q<4294967296/\Q*(y1*4294967296+y0)<=U*4294967296+d/\U*4294967296+d<(Q+1)*(y1*4294967296+y0):=by
 obtain⟨Y,hY⟩:∃Y,Y=y1*4294967296+y0:=⟨_,rfl⟩;have hYe:∀q:Int,q*Y=q*y1*4294967296+q*y0:=λq=>by rw[hY,Int.mul_add,←Int.mul_assoc]
 have hq0:0<=U / y1:=V5 hU l9;have hdm:=U4 U y1;have hm0:=O9 U (show y1≠0 by omega);have hm1:=L6 U (show 0<y1 by omega);have hqB:U / y1<=4294967297:=by
  rcases PM 4294967297 (U / y1)with h|h
  .have:=N9 (show 4294967298<=U / y1 by omega) (show 0<=y1 by omega);omega
  .exact h
 obtain⟨n,hn⟩:∃n,n=(U / y1).toNat+1:=⟨_,rfl⟩;have key:∀(n:Nat) (q r:Int),0<=q->q<=4294967297->0<=r->r<4294967296->U=q*y1+r->U*4294967296+d<(q+1)*Y->q.toNat<n->∀m,n<=m->∃Q,uh f m (mkp q r)=some Q/\0<=Q/\Q<4294967296/\Q*Y<=U*4294967296+d/\U*4294967296+d<(Q+1)*Y:=by
  intro n;induction n with
  |zero=>intro q r _ _ _ _ _ _ h;omega|succ n ih=>
   intro q r q0 qB r0 rB hUq hlt hqn m hm;obtain⟨m,rfl⟩:∃m',m=m' +1:=⟨m -1,l9⟩;rw[a8n,hf q r q0 qB r0 rB];have e1:=hYe q;have e2:(q+1)*Y=q*Y+Y:=by rw[gU,eH]
   have hry:x9 .u64 r y1=r+y1:=EZ l9 l9;have g0:0<=q*y0:=P6 q0 hy0;have less:U*4294967296+d<q*Y->1<=q/\I7 .u64 q 1=q -1/\U=(q -1)*y1+(r+y1)/\(q -1+1)*Y=q*Y/\(q -1)*Y=q*Y -Y/\(q -1)*y0=q*y0 -y0:=by
    intro hgt;have hq1:1<=q:=by
     rcases PM q 1 with h|h
     .have:q=0:=l9;subst this;simp at hgt;omega
     .exact h
    refine⟨hq1,EZ l9 l9,?_,?_,?_,?_⟩
    .rw[lF,eH];omega
    .rw[show q -1+1=q by omega]
    .rw[lF,eH]
    .rw[lF,eH]
   have dec:U*4294967296+d<q*Y->∃Q,a4T f m (l7 (J5 4294967296 (r+y1)) (some (Sum.inr (I7 .u64 q 1))) (some (Sum.inl (mkp (I7 .u64 q 1) (r+y1)))))=some Q/\0<=Q/\Q<4294967296/\Q*Y<=U*4294967296+d/\U*4294967296+d<(Q+1)*Y:=by
    intro hgt;obtain⟨l1,l2,l3,l4,l5,l6⟩:=less hgt;rw[l2];by_cases hr:4294967296<=r+y1
    .rw[X5 hr];have h6:(q -1)*y0<=4294967296*y0:=N9 l9 hy0;have h7:=hYe (q -1);have hle:(q -1)*Y<=U*4294967296+d:=by rw[h7,l3];omega
     refine⟨q -1,rfl,l9,?_,hle,by rw[l4];exact hgt⟩;rcases PM (q -1) 4294967296 with h|h
     .exact h
     .have:=N9 h (show 0<=Y by omega);omega
    .rw[Y4 l9];exact ih (q -1) (r+y1) l9 l9 l9 l9 l3 (by rw[l4];exact hgt) l9 m l9
   by_cases hqb:4294967296<=q
   .rw[X5 hqb,o7,hry];have:=N9 hqb (show 0<=Y by omega);exact dec l9
   .rw[Y4 l9,o6,hry];have g1:q*y0<=4294967295*y0:=N9 l9 hy0;have m1:X9 .u64 4294967296 r=4294967296*r:=EZ l9 l9;have m2:x9 .u64 (4294967296*r) d=4294967296*r+d:=EZ l9 l9;have m3:X9 .u64 q y0=q*y0:=EZ g0 l9;rw[m1,m2,m3];by_cases hc:4294967296*r+d<q*y0
    .rw[S9 hc,o7];exact dec (by rw[e1];omega)
    .rw[J9 l9,o6];exact⟨q,rfl,q0,l9,by rw[e1];omega,hlt⟩
 rw[←hY];refine key n (U / y1) (U -U / y1*y1) hq0 hqB l9 l9 l9 ?_ l9 jU (by unfold jU;omega);have e1:=hYe (U / y1);rw[gU,eH,e1];have:=P6 hq0 hy0;omega
theorem QY(h0:0<=n)(h:n<18446744073709551616):(BitVec.ofInt 64 n).toNat=n.toNat:=by rw[BitVec.toNat_ofInt];have e:((2^64:Nat):Int)=18446744073709551616:=rfl;rw[e,Int.emod_eq_of_lt h0 h]
theorem n_(h0:0<=n)(h:n<18446744073709551616):a2s .u64 n 4294967295=n % 4294967296:=by unfold a2s;rw[show IntKind.bits .u64=64 from rfl,BitVec.toNat_and,QY h0 h,QY J8 J8];rw[show(4294967295:Int).toNat=2^32 -1 from rfl,Nat.and_two_pow_sub_one_eq_mod];rw[EZ l9 l9];omega
theorem b4R{a c:Int}{s:Nat}(ha0:0<=a)(hc0:0<=c)(hc:c<2^s)(h:a*2^s+c<18446744073709551616):ior .u64 (a*2^s) c=a*2^s+c:=by
 have hp:(0:Int)<2^s:=Int.pow_pos l9;have hap:0<=a*2^s:=P6 ha0 l9;unfold ior;rw[show IntKind.bits .u64=64 from rfl,BitVec.toNat_or,QY hap l9,QY hc0 l9];obtain⟨m,rfl⟩:∃m:Nat,a=(m:Int):=⟨a.toNat,l9⟩;obtain⟨k,rfl⟩:∃k:Nat,c=(k:Int):=⟨c.toNat,l9⟩;have hk:k<2^s:=by exact_mod_cast hc
 have e1:((m:Int)*2^s).toNat=m<<<s:=by
  rw[Nat.shiftLeft_eq];have:((m:Int)*2^s)=((m*2^s:Nat):Int):=by rw[sH,sJ];rfl
  rw[this];rfl
 rw[e1,U2,←Nat.shiftLeft_add_eq_or_of_lt hk,Nat.shiftLeft_eq];have e2:((m*2^s+k:Nat):Int)=(m:Int)*2^s+(k:Int):=by rw[Int.natCast_add,sH,sJ];rfl
 rw[e2];exact EZ l9 h
theorem a2c(a b c d:Int):I7 .u64 (x9 .u64 (X9 .u64 a 4294967296) b) (X9 .u64 c d)=(a*4294967296+b -c*d) % 18446744073709551616:=by unfold I7 x9 X9;rw[zZ,zZ,zZ,zZ];generalize c*d=z;omega
theorem c1I(h0:0<y)(h:y<18446744073709551616):∃s:Nat,s<=63/\nT y=some (s:Int)/\9223372036854775808<=y*2^s/\y*2^s<18446744073709551616:=by
 obtain⟨k,k1,k2,k3,k4⟩:=b0H (n:=y) l9 h;obtain⟨k5,k6⟩:=k4 h0;refine⟨64 -k,l9,?_,?_,?_⟩
 .unfold nT;rw[k2,o8,P8 O5];congr 1;omega
 .have:=N9 k6 (show(0:Int)<=2^(64 -k)from Int.pow_nonneg l9);rw[←Int.pow_add,show k -1+(64 -k)=63 by omega]at this;exact this
 .have:=Int.mul_lt_mul_of_pos_right k3 (show(0:Int)<2^(64 -k)from Int.pow_pos l9);rw[←Int.pow_add,show k+(64 -k)=64 by omega]at this;exact this
theorem OW(ha:0<=a)(ha' :a<18446744073709551616)(hb:0<b):pO .u64 a b=some (a / b):=by unfold pO;rw[if_neg l9,jQ ha];have h1:=V5 ha (show 0<=b by omega);have h2:=dI b ha;rw[EZ h1 l9]
theorem Bj(ha:0<=a)(hb:0<b):zn a b=some (a % b):=by unfold zn;rw[if_neg l9];congr 1;exact zG ha
theorem Xm{hi lo y:Int}(h0:0<=hi)(h1:hi<y)(hy:y<18446744073709551616)(l0:0<=lo)(l1:lo<18446744073709551616):
  mJ hi lo y=some ((hi*18446744073709551616+lo) / y,(hi*18446744073709551616+lo) % y):=by
 unfold mJ;rw[J6 (show y≠0 by omega),o6,o8,Y4 h1,o6,o8];by_cases hz:hi=0
 .subst hz;rw[O8 rfl,o7,OW l0 l1 l9,o8,Bj l0 l9,o8];simp
 rw[J6 hz,o6];obtain⟨s,s1,s2,s3,s4⟩:=c1I (y:=y) l9 hy;rw[s2,o8,show wrap .u64 ((s:Nat):Int)=(s:Int)from EZ l9 l9,show I7 .u64 64 (s:Int)=((64 -s:Nat):Int) by unfold I7;rw[EZ l9 l9];omega];have hshl:∀v:Int,XI .u64 v (s:Int)=some ((v*2^s) % 18446744073709551616):=λv=>by unfold XI b0C;rw[if_neg l9,U2,show IntKind.bits .u64=64 from rfl,show min s 64=s by omega,zZ]
 have hshr:∀(v:Int) (k:Nat),k<=64->XJ .u64 v (k:Int)=some (v / 2^k):=λv k hk=>by unfold XJ;rw[if_neg l9,Rz hk]
 rw[hshl,o8,hshl,o8,hshr _ _ l9,o8,hshl,o8];have hpp:(2:Int)^s*2^(64 -s)=18446744073709551616:=by rw[←Int.pow_add,show s+(64 -s)=64 by omega];rfl
 have hp:(0:Int)<2^s:=Int.pow_pos l9;have hp' :(0:Int)<2^(64 -s):=Int.pow_pos l9;have hcb:lo / 2^(64 -s)<2^s:=lS hp' (by rw[hpp];exact l1);have hc0:0<=lo / 2^(64 -s):=V5 l0 l9;have hcd:=U4 lo (2^(64 -s));have he0:=O9 lo (show(2:Int)^(64 -s)≠0 by omega);have he1:=L6 lo hp';have hioP:∀a c:Int,0<=a->0<=c->c<2^s->a*2^s+c<18446744073709551616->ior .u64 (a*2^s) c=a*2^s+c:=λa c a0 c0 c1 h=>b4R a0 c0 c1 h;have hshrs:∀v:Int,XJ .u64 v (s:Int)=some (v / 2^s):=λv=>hshr v s l9;generalize (2:Int)^s=p at*;generalize (2:Int)^(64 -s)=p' at*;generalize lo / p' =c at*;generalize lo % p' =e at*;have hlop:lo*p=c*18446744073709551616+e*p:=by rw[←hcd,gU,Int.mul_assoc,Int.mul_comm p' p,hpp]
 have hep0:0<=e*p:=P6 he0 l9;have hep1:e*p<18446744073709551616:=by have:=Int.mul_lt_mul_of_pos_right he1 hp;rw[Int.mul_comm p' p,hpp]at this;exact this
 rw[show(lo*p) % 18446744073709551616=e*p by omega];have hhp0:0<=hi*p:=P6 h0 l9;have hhp1:hi*p<=y*p -p:=by have:=N9 (show hi<=y -1 by omega) (show 0<=p by omega);rw[lF,eH]at this;exact this
 rw[show(y*p) % 18446744073709551616=y*p by omega,show(hi*p) % 18446744073709551616=hi*p by omega,hioP hi c h0 hc0 hcb l9];have hN:(hi*18446744073709551616+lo)*p=(hi*p+c)*18446744073709551616+e*p:=by rw[gU,hlop,je];omega
 have hsh32:∀v:Int,uf .u64 v 32=v / 4294967296:=λv=>Rz (k:=32) l9;rw[hsh32,hsh32,n_ l9 s4,n_ hep0 hep1];obtain⟨Y,hY⟩:∃Y,Y=y*p:=⟨_,rfl⟩;obtain⟨N,hNN⟩:∃N,N=hi*18446744073709551616+lo:=⟨_,rfl⟩;rw[←hNN]at hN ⊢;rw[←hY]at s3 s4 hhp1 ⊢;generalize hU:hi*p+c=U at*;generalize e*p=E at*;have hUY:U<Y:=l9;have hU0:0<=U:=l9;obtain⟨Q1,q1,q2,q3,q4,q5⟩:=Xl (σ:=Int×Int) (λq r=>(q,r)) (y1:=Y / 4294967296) (y0:=Y % 4294967296) (U:=U) (d:=E / 4294967296) l9 l9 l9 l9 hU0 l9 l9 l9
  (f:=λ(x:Int×Int)=>l7 (J5 4294967296 x.1) (l7 (J5 4294967296 (x9 .u64 x.2 (Y / 4294967296))) (some (.inr (I7 .u64 x.1 1))) (some (.inl (I7 .u64 x.1 1,x9 .u64 x.2 (Y / 4294967296))))) (l7 (D9 (x9 .u64 (X9 .u64 4294967296 x.2) (E / 4294967296)) (X9 .u64 x.1 (Y % 4294967296))) (l7 (J5 4294967296 (x9 .u64 x.2 (Y / 4294967296))) (some (.inr (I7 .u64 x.1 1))) (some (.inl (I7 .u64 x.1 1,x9 .u64 x.2 (Y / 4294967296))))) (some (.inr x.1))))
  (λq r _ _ _ _=>rfl)
 have hYe:Y / 4294967296*4294967296+Y % 4294967296=Y:=l9;rw[hYe]at q4 q5;have hst:∀V:Int,0<=V->V<Y->I7 .u64 V (X9 .u64 (V / (Y / 4294967296)) (Y / 4294967296))=V -V / (Y / 4294967296)*(Y / 4294967296):=λV v0 v1=>by have a1:=U4 V (Y / 4294967296);have a2:=O9 V (show Y / 4294967296≠0 by omega);have a3:=L6 V (show 0<Y / 4294967296 by omega);have a4:=P6 (V5 v0 (show 0<=Y / 4294967296 by omega)) (show 0<=Y / 4294967296 by omega);rw[show X9 .u64 (V / (Y / 4294967296)) (Y / 4294967296)=V / (Y / 4294967296)*(Y / 4294967296)from EZ a4 l9];exact EZ l9 l9
 rw[OW hU0 l9 l9,o8,hst U hU0 hUY];refine(kR q1 _).trans ?_;rw[a2c];have hA1:(Q1+1)*Y=Q1*Y+Y:=by rw[gU,eH]
 rw[hA1]at q5;obtain⟨A1,hAA⟩:∃A1,A1=Q1*Y:=⟨_,rfl⟩;rw[←hAA]at q4 q5 ⊢;rw[show(U*4294967296+E / 4294967296 -A1) % 18446744073709551616=U*4294967296+E / 4294967296 -A1 by omega];generalize hV:U*4294967296+E / 4294967296 -A1=V at*;have hV0:0<=V:=l9;have hVY:V<Y:=l9;obtain⟨Q0,r1,r2,r3,r4,r5⟩:=Xl (σ:=Int×Int) (λq r=>(r,q)) (y1:=Y / 4294967296) (y0:=Y % 4294967296) (U:=V) (d:=E % 4294967296) l9 l9 l9 l9 hV0 l9 l9 l9
  (f:=λ(x:Int×Int)=>l7 (J5 4294967296 x.2) (l7 (J5 4294967296 (x9 .u64 x.1 (Y / 4294967296))) (some (.inr (I7 .u64 x.2 1))) (some (.inl (x9 .u64 x.1 (Y / 4294967296),I7 .u64 x.2 1)))) (l7 (D9 (x9 .u64 (X9 .u64 4294967296 x.1) (E % 4294967296)) (X9 .u64 x.2 (Y % 4294967296))) (l7 (J5 4294967296 (x9 .u64 x.1 (Y / 4294967296))) (some (.inr (I7 .u64 x.2 1))) (some (.inl (x9 .u64 x.1 (Y / 4294967296),I7 .u64 x.2 1)))) (some (.inr x.2))))
  (λq r _ _ _ _=>rfl)
 rw[hYe]at r4 r5;rw[OW hV0 l9 l9,o8,hst V hV0 hVY];refine(kR r1 _).trans ?_;rw[a2c];have hA0:(Q0+1)*Y=Q0*Y+Y:=by rw[gU,eH]
 rw[hA0]at r5;have hQY:(Q1*4294967296+Q0)*Y=A1*4294967296+Q0*Y:=by rw[gU,je,←hAA]
 generalize Q0*Y=A0 at*;rw[show(V*4294967296+E % 4294967296 -A0) % 18446744073709551616=V*4294967296+E % 4294967296 -A0 by omega,hshrs,o8];rw[show X9 .u64 Q1 4294967296=Q1*4294967296 from EZ l9 l9,show x9 .u64 (Q1*4294967296) Q0=Q1*4294967296+Q0 from EZ l9 l9];generalize hQ:Q1*4294967296+Q0=Q at*;have hR:V*4294967296+E % 4294967296 -A0=(N -Q*y)*p:=by rw[lF,Int.mul_assoc,←hY,hQY,hN];omega
 rw[hR];have hge:0<=N -Q*y:=by
  rcases PM (N -Q*y) 0 with h|h
  .have:=N9 (show N -Q*y<=-1 by omega) (show 0<=p by omega);omega
  .exact h
 have hlt:N -Q*y<y:=by
  rcases PM (N -Q*y) y with h|h
  .exact h
  .have:=N9 h (show 0<=p by omega);omega
 have hq:N / y=Q:=by have e1:N=(N -Q*y)+Q*y:=l9;rw[e1,ai _ _ l9,lL hge hlt];omega
 have hr:N % y=N -Q*y:=by have:=U4 N y;rw[hq]at this;omega
 rw[hq,hr,Int.mul_ediv_cancel _ l9]
end Go.GP
