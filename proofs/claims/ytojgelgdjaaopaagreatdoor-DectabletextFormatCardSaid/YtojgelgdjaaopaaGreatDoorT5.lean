import Derived.Test.YtojgelgdjaaopaaGreatDoorT1
import Derived.Test.YtojgelgdjaaopaaGreatDoorT3
import Derived.Lib.ItoaLen
set_option linter.all false
namespace Go.GP
variable {a:Int}{b:Int}{n:Int}
section
variable {α β σ ε ρ:Type}
@[simp] theorem o8 (x:α) (f:α->Option β):l9 (some x) f=f x:=rfl
@[simp] theorem a7g (f:α->Option β):l9 none f=none:=rfl
theorem Qn{o:Option α}{x:α}(h:o=some x)(f:α->Option β):l9 o f=f x:=by rw[h];rfl
theorem O9{o o' :Option α}(h:o=o'){K:α->Option β}{r:Option β}(h2:l9 o' K=r):l9 o K=r:=by rw[h];exact h2
theorem bb(a b:Bool):l7 a (some b) (some false)=some (a&&b):=by cases a<;>rfl
theorem uz(o:Option α):l9 o (λx=>some x)=o:=by cases o<;>rfl
@[simp] theorem o7 (x y:α):l7 true x y=x:=rfl
@[simp] theorem o6 (x y:α):l7 false x y=y:=rfl
theorem mZ(b:Bool)(x y:α):l7 b x y=if b=true then x else y:=by cases b<;>rfl
theorem kL{b:Bool}(h:b=true)(x y:α):l7 b x y=x:=by rw[h];rfl
theorem kZ{b:Bool}(h:b=false)(x y:α):l7 b x y=y:=by rw[h];rfl
@[simp] theorem U3 (s:σ) (f:σ->α) (g:ε->α):X9 (.inl s) f g=f s:=rfl
@[simp] theorem lW (s:ε) (f:σ->α) (g:ε->α):X9 (.inr s) f g=g s:=rfl
@[simp] theorem I7:G8 true=false:=rfl
@[simp] theorem Z7:G8 false=true:=rfl
theorem bn(h:a<b):H6 a b=true:=by simp[H6,h]
theorem au(h:b<=a):H6 a b=false:=by simp[H6];omega
theorem ai(h:a<=b):P7 a b=true:=by simp[P7,h]
theorem aW(h:b<a):P7 a b=false:=by simp[P7];omega
theorem Z9(h:a=b):C9 a b=true:=by simp[C9,h]
theorem N9(h:a≠b):C9 a b=false:=by simp[C9,h]
theorem sV :H6 a b=true↔a<b:=by simp[H6]
theorem qw :P7 a b=true↔a<=b:=by simp[P7]
theorem mf :C9 a b=true↔a=b:=by simp[C9]
theorem uk :H6 a b=false↔b<=a:=by simp[H6]
theorem PU :P7 a b=false↔b<a:=by simp[P7]
theorem IR :C9 a b=false↔a≠b:=by simp[C9]
theorem Vk{a b:List UInt8} :seq a b=true↔a=b:=by simp[seq]
theorem lX(h:0<=a):a.tdiv b=a / b:=Int.tdiv_eq_ediv_of_nonneg h
theorem zU(h:0<=a):jP a b=a % b:=xg h
def lG(n:Int):Prop:=-9223372036854775808<=n/\n<=9223372036854775807
theorem iG{p:Int}(h:lG p:=by unfold lG;omega):lG p:=h
def U64(n:Int):Prop:=0<=n/\n<=18446744073709551615
theorem yD(h:lG n):IntKind.wrap .i64 n=n:=by unfold lG at h;unfold IntKind.wrap;simp[IntKind.signed,IntKind.bits];omega
theorem KL(h:U64 n):IntKind.wrap .u64 n=n:=by unfold U64 at h;unfold IntKind.wrap;simp[IntKind.signed,IntKind.bits];omega
theorem jS(h:lG (a+b)):F6 .i64 a b=a+b:=yD h
theorem fO(h:lG (a -b)):Y1 .i64 a b=a -b:=yD h
theorem a1H(h:lG (a*b)):DU .i64 a b=a*b:=yD h
theorem JE(h:lG (a.tdiv b)):eU .i64 a b=a.tdiv b:=yD h
theorem Wl(h:U64 (a+b)):F6 .u64 a b=a+b:=KL h
theorem a1J(h:U64 (a.tdiv b)):eU .u64 a b=a.tdiv b:=KL h
theorem Jp(h:(Lit.int .i64 n).wf=true):lG n:=by simp[Lit.wf,IntKind.min,IntKind.max,IntKind.signed,IntKind.bits]at h;unfold lG;omega
theorem FK(l:List α):0<=o9 l:=by simp[o9]
theorem J9(l:List α)(i:Nat):L6 l (i:Int)=l[i]?:=by simp[L6]
theorem jm{l:List α}{i:Int}{x:α}(h:L6 l i=some x):0<=i/\i<o9 l/\x∈l/\l[i.toNat]? =some x:=by
 unfold L6 at h;split at h
 .rename_i h0;obtain⟨h1,h2⟩:=ax.1 h;refine⟨h0,by simp[o9];omega,?_,h⟩;rw[←h2];exact N8 h1
 .cases h
theorem pO{l:List α}{i:Int}(h0:0<=i)(h:i<o9 l):∃x,L6 l i=some x/\x∈l:=by
 unfold o9 at h;refine⟨l[i.toNat]'o5,?_,N8 _⟩;unfold L6
 rw[if_pos h0,lS]
theorem OB(l:List UInt8)(i:Nat):sat l (i:Int)=(l[i]?).map λc=>(c.toNat:Int):=by simp[sat]
theorem G5{a b:List UInt8}(h:a.length+b.length<=4611686018427387904):J5 a b=some (a++b):=by simp[J5,h]
theorem GV{a b:List α}(h:a.length+b.length<=1073741824):bK a b=some (a++b):=by simp[bK,h]
theorem b_{l:List α}{lo hi:Int}(h0:0<=lo)(h1:lo<=hi)(h2:hi<=l.length):iD l lo hi=some ((l.take hi.toNat).drop lo.toNat):=by simp[iD,h0,h1,h2]
theorem d_{l:List α}{hi:Int}(h1:0<=hi)(h2:hi<=l.length):iD l 0 hi=some (l.take hi.toNat):=by rw[b_ o5 h1 h2];simp
theorem Lt{l:List α}{lo:Int}(h1:0<=lo)(h2:lo<=l.length):iD l lo (o9 l)=some (l.drop lo.toNat):=by rw[b_ h1 (by simp[o9];omega) (by simp[o9])];simp[o9]
end
section
variable {σ ε ρ:Type}
theorem Nh{f:σ->Option (σ⊕ε)}(Inv:σ->Prop)(Q:ε->Prop)(meas:σ->Nat)
  (h:∀s,Inv s->(∃s',f s=some (.inl s')/\Inv s' /\meas s' <meas s)\/(∃e,f s=some (.inr e)/\Q e)):
  ∀n s,Inv s->meas s<n->∃e,ul f n s=some e/\Q e
 |0,_,_,h=>by omega|n+1,s,hi,hm=>by
  unfold ul;rcases h s hi with⟨s',e,hi',hm'⟩|⟨x,e,hx⟩
  .rw[e];exact Nh Inv Q meas h n s' hi' o5
  .rw[e];exact⟨x,rfl,hx⟩
theorem qy{f:σ->Option (σ⊕ε)}{s:σ}(Inv:σ->Prop)(Q:ε->Prop)(meas:σ->Nat)(hi:Inv s)(hm:meas s<18446744073709551616)
  (h:∀s,Inv s->(∃s',f s=some (.inl s')/\Inv s' /\meas s' <meas s)\/(∃e,f s=some (.inr e)/\Q e)):∃e,dV f s=some e/\Q e:=
 Nh Inv Q meas h _ s hi hm
theorem PZ{f:σ->Option (Out σ ε ρ)}(Inv:σ->Prop)(Q:ε->Prop)(Qr:ρ->Prop)(meas:σ->Nat)
  (h:∀s,Inv s->(∃s',f s=some (.nx s')/\Inv s' /\meas s' <meas s)\/(∃e,f s=some (.ex e)/\Q e)\/(∃r,f s=some (.rt r)/\Qr r)):
  ∀n s,Inv s->meas s<n->(∃e,jE f n s=some (.inl e)/\Q e)\/(∃r,jE f n s=some (.inr r)/\Qr r)
 |0,_,_,h=>by omega|n+1,s,hi,hm=>by
  unfold jE;rcases h s hi with⟨s',e,hi',hm'⟩|⟨x,e,hx⟩|⟨x,e,hx⟩
  .rw[e];exact PZ Inv Q Qr meas h n s' hi' o5
  .rw[e];exact .inl ⟨x,rfl,hx⟩
  .rw[e];exact .inr ⟨x,rfl,hx⟩
theorem xG{f:σ->Option (Out σ ε ρ)}{s:σ}(Inv:σ->Prop)(Q:ε->Prop)(Qr:ρ->Prop)(meas:σ->Nat)(hi:Inv s)(hm:meas s<18446744073709551616)
  (h:∀s,Inv s->(∃s',f s=some (.nx s')/\Inv s' /\meas s' <meas s)\/(∃e,f s=some (.ex e)/\Q e)\/(∃r,f s=some (.rt r)/\Qr r)):
  (∃e,U2 f s=some (.inl e)/\Q e)\/(∃r,U2 f s=some (.inr r)/\Qr r):=
 PZ Inv Q Qr meas h _ s hi hm
end
section
variable {α β ε ρ:Type}
open Classical in
theorem xF(l:List α)(p:Nat->α->Bool)(r:ρ)(e:ε)(f:Int->Option (Out Int ε ρ))(hl:l.length<18446744073709551616)
  (hin:∀(i:Nat) (a:α),l[i]? =some a->f (i:Int)=if p i a=true then some (.nx ((i+1:Nat):Int))else some (.rt r))
  (hend:f (l.length:Int)=some (.ex e)):
  U2 f 0=if(∀i a,l[i]? =some a->p i a=true)then some (.inl e)else some (.inr r):=by
 have key:∀(n i:Nat),i<=l.length->l.length -i<n->(∀j a,j<i->l[j]? =some a->p j a=true)->jE f n (i:Int)=if(∀i a,l[i]? =some a->p i a=true)then some (.inl e)else some (.inr r):=by
  intro n;induction n with
  |zero=>intro i _ h;omega|succ n ih=>
   intro i hi hn hp;unfold jE;by_cases h:i<l.length
   .have e' :=lS h;rw[hin i _ e'];by_cases hpi:p i l[i]=true
    .rw[if_pos hpi];exact ih (i+1) o5 o5 λj a hj ha=>by
      by_cases hji:j=i
      .subst hji;rw[e']at ha;cases ha;exact hpi
      .exact hp j a o5 ha
    .rw[if_neg hpi,if_neg];intro hall;exact hpi (hall i _ e')
   .have:i=l.length:=o5;subst this;rw[hend,if_pos];intro j a ha;exact hp j a (ax.1 ha).1 ha
 exact key _ 0 (eF _) hl λj a hj=>by omega
end
end Go.GP
namespace Go.GP
section
variable {α β α' β' σ τ ε ε' ρ ρ' :Type}
def Ag(R:α->β->Prop)(o:Option α)(p:Option β):Prop:=∃a b,o=some a/\p=some b/\R a b
theorem Ag.mk{R:α->β->Prop}{a:α}{b:β}(h:R a b):Ag R (some a) (some b):=⟨a,b,rfl,rfl,h⟩
theorem Ag.mono{R S:α->β->Prop}{o:Option α}{p:Option β}(h:Ag R o p)(hs:∀a b,o=some a->p=some b->R a b->S a b):Ag S o p:=by obtain⟨a,b,h1,h2,h3⟩:=h;exact⟨a,b,h1,h2,hs a b h1 h2 h3⟩
theorem Ag.bind{R:α->β->Prop}{S:α' ->β' ->Prop}{o:Option α}{p:Option β}{f:α->Option α'}{g:β->Option β'}(h:Ag R o p)
  (hk:∀a b,o=some a->p=some b->R a b->Ag S (f a) (g b)):Ag S (l9 o f) (l9 p g):=by
 obtain⟨a,b,h1,h2,h3⟩:=h;have:=hk a b h1 h2 h3;rw[h1,h2];exact this
theorem Ag.left{S:α' ->β->Prop}{o:Option α}{a:α}{f:α->Option α'}{p:Option β}(h:o=some a)(hk:Ag S (f a) p):Ag S (l9 o f) p:=by rw[h];exact hk
theorem Ag.right{S:α->β' ->Prop}{p:Option β}{b:β}{g:β->Option β'}{o:Option α}(h:p=some b)(hk:Ag S o (g b)):Ag S o (l9 p g):=by rw[h];exact hk
theorem Ag.cond{S:α->β->Prop}{b c:Bool}{x y:Option α}{u v:Option β}(h:b=c)(h1:b=true->Ag S x u)(h2:b=false->Ag S y v):Ag S (l7 b x y) (l7 c u v):=by
 subst h;cases b
 .exact h2 rfl
 .exact h1 rfl
theorem Ag.eq{o p:Option α}(h:Ag Eq o p):∃a,o=some a/\p=some a:=by obtain⟨a,b,h1,h2,rfl⟩:=h;exact⟨a,h1,h2⟩
def b6w(E:ε->ε' ->Prop)(Q:ρ->ρ' ->Prop):ε⊕ρ->ε' ⊕ρ' ->Prop
 | .inl a,.inl b=>E a b| .inr a,.inr b=>Q a b|_,_=>False
theorem Ag.sum{E:ε->ε' ->Prop}{Q:ρ->ρ' ->Prop}{S:α->β->Prop}{o:ε⊕ρ}{p:ε' ⊕ρ'}{f:ε->Option α}{g:ρ->Option α}{f' :ε' ->Option β}{g' :ρ' ->Option β}(h:b6w E Q o p)
  (h1:∀a b,E a b->Ag S (f a) (f' b)) (h2:∀a b,Q a b->Ag S (g a) (g' b)):Ag S (X9 o f g) (X9 p f' g'):=by
 cases o<;>cases p<;>first|exact h1 _ _ h|exact h2 _ _ h|exact h.elim
theorem Bl{p:Nat->Option ρ}(n:Nat)(hn:n<18446744073709551616)(e:ε){f:Int->Option (Out Int ε ρ)}
  (h1:∀i,i<n->f (i:Int)=some (match p i with|some r=> .rt r|none=> .nx ((i+1:Nat):Int))) (h2:f (n:Int)=some (.ex e)):
  U2 f 0=some (match(List.range n).findSome? p with|some r=> .inr r|none=> .inl e):=by
 have key:∀m i,i+m=n->∀k,m<k->jE f k (i:Int)=some (match(List.range' i m).findSome? p with|some r=> .inr r|none=> .inl e):=by
  intro m;induction m with
  |zero=>intro i hi k hk;obtain⟨k,rfl⟩:∃k',k=k' +1:=⟨k -1,o5⟩;have:i=n:=o5;subst this;unfold jE;rw[h2];rfl
  |succ m ih=>
   intro i hi k hk;obtain⟨k,rfl⟩:∃k',k=k' +1:=⟨k -1,o5⟩;unfold jE;rw[h1 i o5,jW,List.findSome?_cons];cases hp:p i with
   |some r=>rfl|none=>exact ih (i+1) o5 k o5
 have:=key n 0 o5 gy hn;rw[List.range_eq_range'];exact this
end
end Go.GP
namespace Go.GP
open Gt
set_option maxRecDepth 100000
variable {i:Nat}
theorem dF(h:i<=9000000000000000000):F6 .i64 (i:Int) 1=((i+1:Nat):Int):=by rw[jS iG];omega
def Ls(c:UInt8):Bool:=decide (97<=c.toNat)&&decide (c.toNat<=122)
def xe(c:UInt8):Bool:=Ls c || (decide (48<=c.toNat)&&decide (c.toNat<=57)) || decide (c.toNat=95)
def EQ:List (List UInt8):=qc.getD []
theorem a5A:qc=some EQ:=by kernel_rfl
def zW(s:List UInt8):Bool:=match s with|[]=>false|c::r=>decide (s.length<=16)&&Ls c&&s.all xe&&!(EQ.any λw=>seq s w)
theorem Tn(c:UInt8)(r:List UInt8):zW (c::r)=(decide ((c::r).length<=16)&&Ls c&&(c::r).all xe&&!(EQ.any λw=>seq (c::r) w)):=rfl
theorem Qb(c:UInt8):mV (c.toNat:Int)=some (Ls c):=by
 unfold mV Ls;cases h:decide (97<=c.toNat)<;>simp only[decide_eq_true_eq,decide_eq_false_iff_not]at h
 .rw[aW o5];rfl
 .rw[ai o5];simp only[o7,kD,P7];congr 1;by_cases h2:c.toNat<=122<;>simp[h2]<;>omega
theorem TW(c:UInt8):Bv (c.toNat:Int)=some (Ls c):=Qb c
def VR(c:UInt8):Bool:=decide (48<=c.toNat)&&decide (c.toNat<=57)
theorem VS(c:UInt8):kN (c.toNat:Int)=some (VR c):=by
 unfold kN VR;cases h:decide (48<=c.toNat)<;>simp only[decide_eq_true_eq,decide_eq_false_iff_not]at h
 .rw[aW o5];rfl
 .rw[ai o5];simp only[o7,kD,P7];congr 1;by_cases h2:c.toNat<=57<;>simp[h2]<;>omega
theorem a0G(c:UInt8):FX (c.toNat:Int)=some (VR c):=VS c
theorem a6h(c:UInt8):C9 (c.toNat:Int) 95=decide (c.toNat=95):=by unfold C9;by_cases h:c.toNat=95<;>simp[h]<;>omega
theorem a5X(c:UInt8):Eg (c.toNat:Int)=some (xe c):=by unfold Eg;rw[TW,o8,a0G,a6h];unfold xe;change _=some (Ls c || VR c || decide (c.toNat=95));cases Ls c<;>cases VR c<;>rfl
variable {s:List UInt8}
theorem RV(h:s.length<=1000000):∃k,pW s=some k/\(k=o9 s↔s.all xe=true):=by
 unfold pW;have:=qy (f:=λ(x:Int)=>l7 (H6 x (o9 s)) (l9 (sat s x) λx_1=>l9 (mV x_1) λx_2=>l7 x_2 (some (Sum.inl (F6 IntKind.i64 x 1)))
   (l9 (sat s x) λx_3=>l9 (kN x_3) λx_4=>l7 x_4 (some (Sum.inl (F6 IntKind.i64 x 1))) (l9 (sat s x) λx_5=>l7 (C9 x_5 95) (some (Sum.inl (F6 IntKind.i64 x 1))) (some (Sum.inr x))))) (some (Sum.inr x)))
  (s:=0) (λx=>∃i:Nat,x=i/\i<=s.length/\(s.take i).all xe=true) (λk=>k=o9 s↔s.all xe=true) (λx=>s.length -x.toNat) ⟨0,rfl,o5,rfl⟩ E5 ?_
 .obtain⟨k,h1,h2⟩:=this;refine⟨k,?_,h2⟩;rw[uz];exact h1
 .rintro x ⟨i,rfl,hi,hall⟩;by_cases hl:i<s.length
  .have e:=lS hl;simp only[bn (show(i:Int)<o9 s by simp[o9];omega),o7,OB,e,bG,o8,Qb,VS,a6h];have hst:(s.take (i+1)).all xe=((s.take i).all xe&&xe s[i]):=by rw[Z8 hl,List.all_append];simp
   have hw:xe s[i]=(Ls s[i] || VR s[i] || decide (s[i].toNat=95)):=rfl;cases hwb:xe s[i]with
   |true=>left;refine⟨((i+1:Nat):Int),?_,⟨i+1,rfl,hl,by rw[hst,hall,hwb];rfl⟩,by simp;omega⟩;rw[dF o5];rw[hw]at hwb;cases h1:Ls s[i]<;>cases h2:VR s[i]<;>cases h3:decide (s[i].toNat=95)<;>rw[h1,h2,h3]at hwb<;>first|rfl|cases hwb
   |false=>
    right;refine⟨(i:Int),?_,?_⟩
    .rw[hw]at hwb;cases h1:Ls s[i]<;>cases h2:VR s[i]<;>cases h3:decide (s[i].toNat=95)<;>rw[h1,h2,h3]at hwb<;>first|rfl|cases hwb
    .constructor
     .intro h;simp[o9]at h;omega
     .intro h;have:=fK.1 h s[i] (N8 hl);rw[hwb]at this;cases this
  .right;have:i=s.length:=o5;subst this;rw[bZ]at hall;exact⟨_,by rw[au (by simp[o9])];rfl,by simp[o9,hall]⟩
theorem a0K{a:List UInt8}{w:List UInt8}{r:Option Bool}{x:Bool}(h:r=some x):l7 (seq a w) (some (seq a w)) r=some (seq a w || x):=by rw[h];cases seq a w<;>rfl
theorem WW(s:List UInt8):wI s=some (EQ.any λw=>seq s w):=by
 unfold wI;refine O9 (o' :=some (EQ.any λw=>seq s w)) ?_ (by cases EQ.any λw=>seq s w<;>rfl);have hr:EQ=(qc).getD []:=rfl;rw[show(EQ.any λw=>seq s w)=List.foldr (λw b=>seq s w || b) false EQ from by induction EQ with|nil=>rfl|cons w l ih=>simp[qx,ih]];unfold EQ qc;simp only[cu,List.foldr]
 repeat (refine a0K ?_)
 simp
theorem nU(h:s.length<=1000000):bT s=some (zW s):=by
 unfold bT;cases s with
 |nil=>rfl|cons c r=>
  have h1:seq (c::r) []=false:=by simp[seq]
  obtain⟨k,h2,h3⟩:=RV h;rw[h1];simp only[Z7,o7];rw[show sat (c::r) 0=some (c.toNat:Int)from rfl,o8,Qb,o8,h2,o8,WW,o8];have h4:C9 k (o9 (c::r))=(c::r).all xe:=by rw[ji,mf];exact h3
  have h5:P7 (o9 (c::r)) 16=decide ((c::r).length<=16):=by simp only[P7,o9];congr 1;simp;omega
  rw[h4,h5,Tn];cases Ls c<;>cases (c::r).all xe<;>cases decide ((c::r).length<=16)<;>rfl
theorem kF(h:s.length<=1000000):bU s=some (zW s):=by
 unfold bU;cases s with
 |nil=>rfl|cons c r=>
  have h0:C9 (o9 (c::r)) 0=false:=N9 (by simp[o9];omega);have h5:H6 16 (o9 (c::r))= !decide ((c::r).length<=16):=by simp only[H6,o9];rw[←decide_not];congr 1;simp;omega
  rw[h0,h5,show sat (c::r) 0=some (c.toNat:Int)from rfl,o8,TW,o8,Tn];generalize hs:c::r=s at*;cases hl:decide (s.length<=16)
  .rfl
  cases hc:Ls c
  .rfl
  simp only[gG,o6,I7,o8,U3,kD];refine O9 (xF s (λi a=>xe a) false PUnit.unit _ o5 (λi x hx=>?_) ?_) ?_
  rotate_left 2
  .have ha:(∀(i:Nat) (a:UInt8),s[i]? =some a->xe a=true)↔s.all xe=true:=by
    rw[fK];constructor
    .intro h x hx;obtain⟨i,hi,rfl⟩:=bD hx;exact h i _ (lS hi)
    .intro h i a hi;exact h a (pg hi)
   by_cases hw:s.all xe=true
   .rw[if_pos (ha.2 hw),o8,U3,a5A,o8,hw];refine O9 (xF EQ (λi a=> !seq a s) false PUnit.unit _ (by decide+kernel) (λi x hx=>?_) ?_) ?_
    rotate_left 2
    .have hb:(∀(i:Nat) (a:List UInt8),EQ[i]? =some a->(!seq a s)=true)↔(EQ.any λw=>seq s w)=false:=by
      rw[iC];constructor
      .intro h x hx;obtain⟨i,hi,rfl⟩:=bD hx;have:=h i _ (lS hi);intro hq;rw[Vk.1 hq]at this;simp[seq]at this
      .intro h i a hi;have:=h a (pg hi);cases hq:seq a s
       .rfl
       .exact absurd (by rw[Vk.1 hq];simp[seq]) this
     by_cases hv:(EQ.any λw=>seq s w)=false
     .rw[if_pos (hb.2 hv),hv];rfl
     .rw[if_neg (λh=>hv (hb.1 h))];simp only[mg]at hv;rw[hv];rfl
    .have hi:=(ax.1 hx).1;simp only[bn (show(i:Int)<o9 EQ by simp[o9];omega),o7,J9,hx,o8];rw[show eH EQ (dB (i:Int))=some x from by simp[eH,dB,hx],o8,dF (by
       have:EQ.length<=100:=by decide+kernel
       omega)]
     cases seq x s<;>rfl
    .rw[au (by simp[o9])];rfl
   .rw[if_neg (λh=>hw (ha.1 h))];simp only[iT]at hw;rw[hw];rfl
  .have hi:=(ax.1 hx).1;simp only[bn (show(i:Int)<o9 s by simp[o9];omega),o7,OB,hx,bG,o8,a5X];rw[dF o5];cases xe x<;>rfl
  .rw[au (by simp[o9])];rfl
theorem qF(t:Int×Int)(en:List dM):aH t en=V9 t en:=by
 unfold aH V9;by_cases h1:t.1=1
 .simp[C9,h1,P7]
 by_cases h2:t.1=2
 .simp[C9,h2,P7]
 by_cases h3:t.1=3
 .simp[C9,h3,P7]
 by_cases h4:t.1=4
 .simp[C9,h4,P7]
 by_cases h5:t.1=5
 .simp[C9,h5,P7]
 by_cases h6:t.1=6
 .simp[C9,h6,P7]
 .simp only[C9,h1,h2,h3,h4,h5,h6,decide_false,o6,o8];by_cases h7:1<=t.1
  .rw[kL (ai h7),kZ (aW o5)]
  .rw[kZ (aW o5)]
theorem GK(t:Int×Int)(en:List dM):jM t en=dJ t en:=by unfold jM dJ;rw[qF]
def vty(t:Int×Int)(en:List dM):Bool:=l7 (C9 t.1 6) (l7 (P7 0 t.2) (H6 t.2 (o9 en)) false) (l7 (P7 1 t.1) (l7 (P7 t.1 5) (C9 t.2 0) false) false)
theorem iy(t:Int×Int)(en:List dM):V9 t en=some (vty t en):=by unfold V9 vty;cases C9 t.1 6<;>cases P7 0 t.2<;>cases P7 1 t.1<;>cases P7 t.1 5<;>rfl
theorem uf(t:Int×Int)(en:List dM):aH t en=some (vty t en):=(qF t en).trans (iy t en)
theorem UW(t:Int×Int)(en:List dM):∃b:Int×Int,dJ t en=some b:=by
 unfold dJ;rw[iy,o8];cases hv:vty t en
 .exact⟨_,rfl⟩
 simp only[I7,o6];cases h1:C9 t.1 1<;>simp only[o7,o6]
 .cases h2:C9 t.1 2<;>simp only[o7,o6]
  .cases h3:C9 t.1 3<;>simp only[o7,o6]
   .cases h4:C9 t.1 4<;>simp only[o7,o6]
    .cases h5:C9 t.1 5<;>simp only[o7,o6]
     .have h6:C9 t.1 6=true/\P7 0 t.2=true/\H6 t.2 (o9 en)=true:=by
       unfold vty at hv;rw[IR]at h1 h2 h3 h4 h5;cases h6:C9 t.1 6<;>rw[h6]at hv
       .rw[IR]at h6;cases h7:P7 1 t.1<;>rw[h7]at hv
        .cases hv
        cases h8:P7 t.1 5<;>rw[h8]at hv
        .cases hv
        rw[qw]at h7 h8;omega
       .cases h7:P7 0 t.2<;>rw[h7]at hv
        .cases hv
        .exact⟨rfl,rfl,hv⟩
      obtain⟨x,hx,_⟩:=pO (qw.1 h6.2.1) (sV.1 h6.2.2);rw[hx];exact⟨_,rfl⟩
     .exact⟨_,rfl⟩
    .exact⟨_,rfl⟩
   .exact⟨_,rfl⟩
  .exact⟨_,rfl⟩
 .exact⟨_,rfl⟩
def bnd(t:Int×Int)(en:List dM):Int×Int:=(dJ t en).getD (0,0)
theorem Jc(t:Int×Int)(en:List dM):dJ t en=some (bnd t en):=by obtain⟨b,h⟩:=UW t en;unfold bnd;rw[h];rfl
theorem SK(t:Int×Int)(en:List dM):jM t en=some (bnd t en):=(GK t en).trans (Jc t en)
def inB(n:Int)(b:Int×Int):Bool:=l7 (P7 b.1 n) (P7 n b.2) false
theorem YF(n:Int)(t:Int×Int)(en:List dM):wM n t en=some (inB n (bnd t en)):=by unfold wM inB;rw[Jc,o8];cases P7 (bnd t en).1 n<;>rfl
def CP(r:Int×Int):Bool:=l7 (P7 0 r.1) (l7 (P7 r.1 r.2) (P7 r.2 109573) false) false
theorem GN(r:Int×Int):qI r=some (CP r):=by unfold qI CP;cases P7 0 r.1<;>cases P7 r.1 r.2<;>rfl
theorem Ee(r:Int×Int):vS r=some (CP r):=GN r
def PG(a b:Int×Int):(Int×Int)×Bool:=l7 (CP a) (l7 (CP b) (l7 (P7 (wz a.2 b.2) (ww a.1 b.1)) ((0,0),false) ((ww a.1 b.1,wz a.2 b.2),true)) ((0,0),false)) ((0,0),false)
theorem a3b(a b:Int×Int):uJ a b=some (PG a b):=by unfold uJ PG;rw[Ee,o8,Ee,o8];cases CP a<;>cases CP b<;>cases P7 (wz a.2 b.2) (ww a.1 b.1)<;>rfl
theorem a5N(a b:Int×Int):pq a b=some (PG a b):=by
 unfold pq qW PG;rw[GN,o8,GN,o8];cases CP a
 .rfl
 simp only[o7];cases h1:H6 a.1 a.2
 .rw[uk]at h1;rw[ai (show wz a.2 b.2<=ww a.1 b.1 by unfold wz ww;omega)];cases CP b<;>rfl
 simp only[o8,I7,o6];cases CP b
 .rfl
 simp only[o7];cases h2:H6 b.1 b.2
 .rw[uk]at h2;rw[ai (show wz a.2 b.2<=ww a.1 b.1 by unfold wz ww;omega)];rfl
 .cases P7 (wz a.2 b.2) (ww a.1 b.1)<;>rfl
def uq(a b:EL):Bool:=l7 (PG a.1 b.1).2 (H6 (ww a.2.1 b.2.1) (wz a.2.2.1 b.2.2.1)) false
theorem VN(a b:EL):wX a b=some (uq a b):=by unfold wX uq;rw[a5N,o8];cases (PG a.1 b.1).2<;>rfl
theorem UX(a b:EL):wP a b=some (uq a b):=by unfold wP uq;rw[a3b,o8];cases (PG a.1 b.1).2<;>rfl
theorem a1G{l:List EL}(r:EL)(h:l.length<=1000000):∃k:Int,pF l r=some (k,l.any λy=>uq y r):=by
 unfold pF;have key:=xG (f:=λ(x:Int)=>l7 (H6 x (o9 l)) (l9 (L6 l x) λx_1=>l9 (qj x_1 r) λx_2=>l7 x_2 (some (Out.rt (x,true))) (some (Out.nx (F6 IntKind.i64 x 1)))) (some (Out.ex PUnit.unit)))
   (s:=0) (λx=>∃i:Nat,x=i/\i<=l.length/\(l.take i).any (λy=>uq y r)=false) (λ_=>(l.any λy=>uq y r)=false) (λk=>k.2=true/\(l.any λy=>uq y r)=true) (λx=>l.length -x.toNat) ⟨0,rfl,o5,rfl⟩ E5 ?_
 .rcases key with⟨e,h1,h2⟩|⟨k,h1,h2,h3⟩
  .exact⟨0,by rw[h1,h2];rfl⟩
  .refine⟨k.1,?_⟩;rw[h1,h3,←h2];rfl
 .rintro x ⟨i,rfl,hi,hall⟩;by_cases hl:i<l.length
  .have e:=lS hl;have hst:(l.take (i+1)).any (λy=>uq y r)=((l.take i).any (λy=>uq y r) || uq l[i] r):=by rw[Z8 hl,oC];simp
   have hv:qj l[i] r=some (uq l[i] r):=by unfold qj;rw[VN];rfl
   simp only[bn (show(i:Int)<o9 l by simp[o9];omega),o7,J9,e,o8,hv];cases hc:uq l[i] r with
   |true=>exact .inr (.inr ⟨_,rfl,rfl,jU.2 ⟨l[i],N8 hl,hc⟩⟩)|false=>exact .inl ⟨((i+1:Nat):Int),by rw[dF o5];rfl,⟨i+1,rfl,hl,by rw[hst,hall,hc];rfl⟩,by simp;omega⟩
  .have:i=l.length:=o5;subst this;rw[bZ]at hall;exact .inr (.inl ⟨_,by rw[au (by simp[o9])];rfl,hall⟩)
def MN(x:EL)(bl br:Int×Int):Bool:=
 l7 (CP x.1) (l7 (C9 x.1.1 x.1.2) true (l7 (P7 x.2.2.1 x.2.1) true (l7 (inB x.2.1 bl) (l7 (inB (Y1 .i64 x.2.2.1 1) bl) (G8 (inB x.2.2.2 br)) true) true))) true
theorem a0M(x:EL)(t:kQ)(en:List dM):BA x t en=some (MN x (bnd t.2.1 en) (bnd t.2.2.1 en)):=by
 unfold BA MN;rw[Ee,o8,YF,YF,YF];cases CP x.1
 .rfl
 cases C9 x.1.1 x.1.2
 case true=>rfl
 cases P7 x.2.2.1 x.2.1
 case true=>rfl
 simp only[I7,o6,o8,U3,o7];cases inB x.2.1 (bnd t.2.1 en)
 .rfl
 cases inB (Y1 .i64 x.2.2.1 1) (bnd t.2.1 en)
 .rfl
 rfl
def Sr(t:kQ)(en:List dM)(i:Nat):Option (Int×Int):=match t.2.2.2[i]? with
 |some x=>l7 (MN x (bnd t.2.1 en) (bnd t.2.2.1 en)) (some ((i:Int),3)) (l7 ((t.2.2.2.take i).any λy=>uq y x) (some ((i:Int),11)) none)|none=>none
def HY(t:kQ)(en:List dM):Int×Int:=
 l7 (H6 64 (o9 t.2.2.2)) (64,4) (l7 (vty t.2.1 en) (l7 (vty t.2.2.1 en) (match(List.range t.2.2.2.length).findSome? (Sr t en)with|some r=>r|none=>(0,0)) (-1,8)) (-1,8))
theorem yV(a b:Int):H6 a b= !P7 b a:=by simp only[H6,P7];rw[←decide_not];congr 1;simp
theorem a0L(t:kQ)(en:List dM):wO t en=some (HY t en):=by
 unfold wO HY;rw[iy,o8,iy,o8];cases h64:H6 64 (o9 t.2.2.2)
 case true=>rfl
 simp only[o6];cases vty t.2.1 en
 .rfl
 cases vty t.2.2.1 en
 .rfl
 simp only[I7,o6,o8,U3,o7];have hlen:t.2.2.2.length<=64:=by rw[uk]at h64;simp only[o9]at h64;omega
 refine O9 (Bl (p:=Sr t en) t.2.2.2.length o5 PUnit.unit (λi hi=>?_) ?_) ?_
 rotate_left 2
 .cases (List.range t.2.2.2.length).findSome? (Sr t en)<;>rfl
 .have e:=lS hi;simp only[bn (show(i:Int)<o9 t.2.2.2 by simp only[o9];omega),o7,J9,e,o8,a0M,Sr];cases MN t.2.2.2[i] (bnd t.2.1 en) (bnd t.2.2.1 en)
  case true=>rfl
  simp only[o6];refine O9 (xF (t.2.2.2.take i) (λj a=> !uq a t.2.2.2[i]) ((i:Int),(11:Int)) PUnit.unit _ E5 (λj x hx=>?_) ?_) ?_
  rotate_left 2
  .have hb:(∀(j:Nat) (a:EL),(t.2.2.2.take i)[j]? =some a->(!uq a t.2.2.2[i])=true)↔((t.2.2.2.take i).any λy=>uq y t.2.2.2[i])=false:=by
    rw[iC];constructor
    .intro h x hx;obtain⟨j,hj,rfl⟩:=bD hx;have:=h j _ (lS hj);simpa using this
    .intro h j a hj;have:=h a (pg hj);simpa using this
   by_cases hv:((t.2.2.2.take i).any λy=>uq y t.2.2.2[i])=false
   .rw[if_pos (hb.2 hv),hv,dF o5];rfl
   .rw[if_neg (λh=>hv (hb.1 h))];simp only[mg]at hv;rw[hv];rfl
  .have hj:=(ax.1 hx).1;simp only[aT]at hj;have hx' :t.2.2.2[j]? =some x:=by rw[U0]at hx;split at hx<;>first|exact hx|cases hx
   simp only[bn (show(j:Int)<(i:Int) by omega),o7,J9,hx',o8,e,UX];rw[dF o5];cases uq x t.2.2.2[i]<;>rfl
  .have hl:(t.2.2.2.take i).length=i:=by simp;omega
   rw[hl,au o5];rfl
 .rw[au (by simp[o9])];rfl
variable {α:Type}
theorem vN{l:List α}(h:i<=l.length):iD l 0 (i:Int)=some (l.take i):=by rw[d_ o5 o5];simp
theorem a4u(t:kQ)(en:List dM):wW t en=some (HY t en):=by
 unfold wW HY;rw[uf,o8,uf,o8];cases h64:H6 64 (o9 t.2.2.2)
 case true=>rfl
 simp only[o6];cases vty t.2.1 en
 .rfl
 cases vty t.2.2.1 en
 .rfl
 simp only[I7,o6,o8,U3,o7,SK];have hlen:t.2.2.2.length<=64:=by rw[uk]at h64;simp only[o9]at h64;omega
 refine O9 (Bl (p:=Sr t en) t.2.2.2.length o5 PUnit.unit (λi hi=>?_) ?_) ?_
 rotate_left 2
 .cases (List.range t.2.2.2.length).findSome? (Sr t en)<;>rfl
 .have e:=lS hi;simp only[bn (show(i:Int)<o9 t.2.2.2 by simp only[o9];omega),o7,J9,e,o8,Sr,GN,vN (show i<=t.2.2.2.length by omega)];obtain⟨k,hk⟩:=a1G (l:=t.2.2.2.take i) t.2.2.2[i] E5;rw[hk,dF o5];unfold MN inB;simp only[yV];generalize bnd t.2.1 en=bl;generalize bnd t.2.2.1 en=br;cases CP t.2.2.2[i].1
  .rfl
  cases C9 t.2.2.2[i].1.1 t.2.2.2[i].1.2
  case true=>rfl
  cases P7 t.2.2.2[i].2.2.1 t.2.2.2[i].2.1
  case true=>rfl
  cases P7 bl.1 t.2.2.2[i].2.1
  .rfl
  cases P7 t.2.2.2[i].2.1 bl.2
  .rfl
  cases P7 bl.1 (Y1 IntKind.i64 t.2.2.2[i].2.2.1 1)
  .rfl
  cases P7 (Y1 IntKind.i64 t.2.2.2[i].2.2.1 1) bl.2
  .rfl
  cases P7 br.1 t.2.2.2[i].2.2.2
  .rfl
  cases P7 t.2.2.2[i].2.2.2 br.2
  .rfl
  cases (t.2.2.2.take i).any λy=>uq y t.2.2.2[i]<;>rfl
 .rw[au (by simp[o9])];rfl
section
variable {α ε ρ:Type}
theorem yR(l:List α)(p:α->Bool)(r:ρ)(e:ε){f:Int->Option (Out Int ε ρ)}(hl:l.length<=1000000)
  (hin:∀(i:Nat) (a:α),l[i]? =some a->f (i:Int)=some (bif p a then .rt r else .nx (F6 .i64 (i:Int) 1))) (hend:f (l.length:Int)=some (.ex e)):
  U2 f 0=some (bif l.any p then .inr r else .inl e):=by
 rw[xF l (λi a=> !p a) r e f o5 (λi a ha=>?_) hend]
 .have hb:(∀(j:Nat) (a:α),l[j]? =some a->(!p a)=true)↔l.any p=false:=by
   rw[iC];constructor
   .intro h x hx;obtain⟨j,hj,rfl⟩:=bD hx;have:=h j _ (lS hj);simpa using this
   .intro h j a hj;have:=h a (pg hj);simpa using this
  by_cases hv:l.any p=false
  .rw[if_pos (hb.2 hv),hv];rfl
  .rw[if_neg (λh=>hv (hb.1 h))];simp only[mg]at hv;rw[hv];rfl
 .have hi:=(ax.1 ha).1;rw[hin i a ha,dF o5];cases p a<;>rfl
theorem xy(l:List α)(p:α->Bool){f:Int->Option (Out Int PUnit Int)}(hl:l.length<=1000000)
  (hin:∀(i:Nat) (a:α),l[i]? =some a->f (i:Int)=some (bif p a then .rt (i:Int)else .nx (F6 .i64 (i:Int) 1))) (hend:f (l.length:Int)=some (.ex PUnit.unit)):
  l9 (l9 (U2 f 0) λo=>X9 o (λ_=>some (-1)) λr=>some r) (λx=>some (P7 0 x))=some (l.any p):=by
 have key:=xG (f:=f) (s:=0) (λx=>∃i:Nat,x=i/\i<=l.length/\(l.take i).any p=false) (λ_=>l.any p=false) (λk=>0<=k/\l.any p=true) (λx=>l.length -x.toNat) ⟨0,rfl,o5,rfl⟩ E5 ?_
 .rcases key with⟨e,h1,h2⟩|⟨k,h1,h2,h3⟩
  .rw[h1,h2];rfl
  .rw[h1,h3,o8,lW,o8,ai h2]
 .rintro x ⟨i,rfl,hi,hall⟩;by_cases h:i<l.length
  .have e:=lS h;have hst:(l.take (i+1)).any p=((l.take i).any p || p l[i]):=by rw[Z8 h,oC];simp
   rw[hin i _ e];cases hc:p l[i]with
   |true=>exact .inr (.inr ⟨_,rfl,o5,jU.2 ⟨l[i],N8 h,hc⟩⟩)|false=>exact .inl ⟨((i+1:Nat):Int),by rw[dF o5];rfl,⟨i+1,rfl,h,by rw[hst,hall,hc];rfl⟩,by simp;omega⟩
  .have:i=l.length:=o5;subst this;rw[bZ]at hall;exact .inr (.inl ⟨_,hend,hall⟩)
theorem O7{l:List α}{a:α}(h:l[i]? =some a):H6 (i:Int) (o9 l)=true:=bn (by have:=(ax.1 h).1;simp only[o9];omega)
theorem O6(l:List α):H6 (l.length:Int) (o9 l)=false:=au (by simp[o9])
end
theorem IQ{l:List dM}(n:List UInt8)(h:l.length<=1000000):vK l n=some (l.any λx=>seq x.1 n):=by unfold vK iF jf;rw[uz];refine xy l (λx=>seq x.1 n) h (λi a ha=>?_) (by rw[O6];rfl);rw[O7 ha,o7,J9,ha,o8];unfold Cb;rw[o8];cases seq a.1 n<;>rfl
theorem MZ{l:List kQ}(n:List UInt8)(h:l.length<=1000000):wG l n=some (l.any λx=>seq x.1 n):=by unfold wG gm iK;rw[uz];refine xy l (λx=>seq x.1 n) h (λi a ha=>?_) (by rw[O6];rfl);rw[O7 ha,o7,J9,ha,o8];unfold zY;rw[o8];cases seq a.1 n<;>rfl
theorem Wj{l:List J3}(s:J3)(h:l.length<=1000000):dn l s=some (l.any λx=>seq x.1 s.1):=by unfold dn iJ;refine xy l (λx=>seq x.1 s.1) h (λi a ha=>?_) (by rw[O6];rfl);rw[O7 ha,o7,J9,ha,o8];unfold xC;rw[o8];cases seq a.1 s.1<;>rfl
theorem Yj{l:List gp}(s:gp)(h:l.length<=1000000):dU l s=some (l.any λx=>seq x.1 s.1):=by unfold dU jg;refine xy l (λx=>seq x.1 s.1) h (λi a ha=>?_) (by rw[O6];rfl);rw[O7 ha,o7,J9,ha,o8];unfold yI;rw[o8];cases seq a.1 s.1<;>rfl
theorem MX{l:List jw}(s:jw)(h:l.length<=1000000):aG l s=some (l.any λx=>seq x.1 s.1):=by unfold aG iI;refine xy l (λx=>seq x.1 s.1) h (λi a ha=>?_) (by rw[O6];rfl);rw[O7 ha,o7,J9,ha,o8];unfold xB;rw[o8];cases seq a.1 s.1<;>rfl
theorem a0f{l:List (List UInt8)}(s:List UInt8)(h:l.length<=1000000):iQ l s=some (l.any λx=>seq s x):=by unfold iQ gZ;refine xy l (λx=>seq s x) h (λi a ha=>?_) (by rw[O6];rfl);rw[O7 ha,o7,J9,ha,o8];cases seq s a<;>rfl
theorem a0e{l:List Int}(s:Int)(h:l.length<=1000000):lm l s=some (l.any λx=>C9 s x):=by unfold lm sJ;refine xy l (λx=>C9 s x) h (λi a ha=>?_) (by rw[O6];rfl);rw[O7 ha,o7,J9,ha,o8];cases C9 s a<;>rfl
section
variable {α ε ρ:Type}
theorem CE(l:List α)(k:Nat)(p:α->Bool)(r:ρ)(e:ε){f:Int->Option (Out Int ε ρ)}(hl:l.length<=1000000)
  (hin:∀(i:Nat) (a:α),l[i]? =some a->f (i:Int)=some (bif (decide (i<k)&&p a)then .rt r else .nx (F6 .i64 (i:Int) 1))) (hend:f (l.length:Int)=some (.ex e)):
  U2 f 0=some (bif (l.take k).any p then .inr r else .inl e):=by
 rw[xF l (λi a=> !(decide (i<k)&&p a)) r e f o5 (λi a ha=>?_) hend]
 .have hb:(∀(j:Nat) (a:α),l[j]? =some a->(!(decide (j<k)&&p a))=true)↔(l.take k).any p=false:=by
   rw[iC];constructor
   .intro h x hx;obtain⟨j,hj,rfl⟩:=bD hx;simp only[aT]at hj;have:=h j _ (lS o5);rw[DY];simp only[show j<k by omega,decide_true,kD]at this;simpa using this
   .intro h j a hj;by_cases hk:j<k
    .have hm:a∈l.take k:=pg (i:=j) (by rw[eX hk];exact hj);have:=h a hm;simpa[hk]using this
    .simp[hk]
  by_cases hv:(l.take k).any p=false
  .rw[if_pos (hb.2 hv),hv];rfl
  .rw[if_neg (λh=>hv (hb.1 h))];simp only[mg]at hv;rw[hv];rfl
 .have hi:=(ax.1 ha).1;rw[hin i a ha,dF o5];cases decide (i<k)&&p a<;>rfl
end
theorem JD(i k:Nat):H6 (i:Int) (k:Int)=decide (i<k):=by unfold H6;by_cases h:i<k<;>simp[h]<;>omega
def AB(l:dL)(kind:Nat)(k:Nat)(n:List UInt8):Bool:=
 match kind with
 |1=>(l.1.take k).any λx=>seq x.1 n|2=>(l.1.any λx=>seq x.1 n) || ((l.2.1.take k).any λx=>seq x.1 n)|_=>(l.1.any λx=>seq x.1 n) || (l.2.1.any λx=>seq x.1 n) || ((l.2.2.take k).any λx=>seq x.1 n)
def Few(l:dL):Prop:=l.1.length<=1000/\l.2.1.length<=1000/\l.2.2.length<=1000
variable {l:dL}
theorem a0R(h:Few l)(k:Nat)(n:List UInt8):iw l 1 (k:Int) n=some (AB l 1 k n):=by
 unfold iw AB;refine O9 (CE l.1 k (λx=>seq x.1 n) true PUnit.unit (by have:=h.1;omega) (λi a ha=>?_) ?_) ?_
 rotate_left 2
 .cases (l.1.take k).any λx=>seq x.1 n
  case true=>rfl
  simp only[cond_false,U3];refine O9 (CE l.2.1 0 (λx=>seq x.1 n) true PUnit.unit (by have:=h.2.1;omega) (λi a ha=>?_) ?_) ?_
  rotate_left 2
  .simp only[List.take_zero,List.any_nil,cond_false,U3];refine O9 (CE l.2.2 0 (λx=>seq x.1 n) true PUnit.unit (by have:=h.2.2;omega) (λi a ha=>?_) ?_) ?_
   rotate_left 2
   .rfl
   .rw[O7 ha];simp;rfl
   .rw[O6];rfl
  .rw[O7 ha];simp;rfl
  .rw[O6];rfl
 .rw[O7 ha,J9,ha,o8,JD,o7];cases decide (i<k)<;>cases seq a.1 n<;>rfl
 .rw[O6];rfl
theorem a0S(h:Few l)(k:Nat)(n:List UInt8):iw l 2 (k:Int) n=some (AB l 2 k n):=by
 unfold iw AB;refine O9 (yR l.1 (λx=>seq x.1 n) true PUnit.unit (by have:=h.1;omega) (λi a ha=>?_) ?_) ?_
 rotate_left 2
 .cases l.1.any λx=>seq x.1 n
  case true=>rfl
  simp only[cond_false,U3,kC];refine O9 (CE l.2.1 k (λx=>seq x.1 n) true PUnit.unit (by have:=h.2.1;omega) (λi a ha=>?_) ?_) ?_
  rotate_left 2
  .cases (l.2.1.take k).any λx=>seq x.1 n
   case true=>rfl
   simp only[cond_false,U3];refine O9 (CE l.2.2 0 (λx=>seq x.1 n) true PUnit.unit (by have:=h.2.2;omega) (λi a ha=>?_) ?_) ?_
   rotate_left 2
   .rfl
   .rw[O7 ha];simp;rfl
   .rw[O6];rfl
  .rw[O7 ha,J9,ha,o8,JD,o7];cases decide (i<k)<;>cases seq a.1 n<;>rfl
  .rw[O6];rfl
 .rw[O7 ha,J9,ha,o8,o7];cases seq a.1 n<;>rfl
 .rw[O6];rfl
theorem a0T(h:Few l)(k:Nat)(n:List UInt8):iw l 3 (k:Int) n=some (AB l 3 k n):=by
 unfold iw AB;refine O9 (yR l.1 (λx=>seq x.1 n) true PUnit.unit (by have:=h.1;omega) (λi a ha=>?_) ?_) ?_
 rotate_left 2
 .cases l.1.any λx=>seq x.1 n
  case true=>rfl
  simp only[cond_false,U3,kC];refine O9 (yR l.2.1 (λx=>seq x.1 n) true PUnit.unit (by have:=h.2.1;omega) (λi a ha=>?_) ?_) ?_
  rotate_left 2
  .cases l.2.1.any λx=>seq x.1 n
   case true=>rfl
   simp only[cond_false,U3,kC];refine O9 (CE l.2.2 k (λx=>seq x.1 n) true PUnit.unit (by have:=h.2.2;omega) (λi a ha=>?_) ?_) ?_
   rotate_left 2
   .cases (l.2.2.take k).any λx=>seq x.1 n<;>rfl
   .rw[O7 ha,J9,ha,o8,JD,o7];cases decide (i<k)<;>cases seq a.1 n<;>rfl
   .rw[O6];rfl
  .rw[O7 ha,J9,ha,o8,o7];cases seq a.1 n<;>rfl
  .rw[O6];rfl
 .rw[O7 ha,J9,ha,o8,o7];cases seq a.1 n<;>rfl
 .rw[O6];rfl
def RU(ms:List (List UInt8))(i:Nat):Option (Int×Int):=match ms[i]? with
 |some m=>l7 (zW m) (l7 ((ms.take i).any λx=>seq m x) (some (7,((100+i:Nat):Int))) none) (some (2,((100+i:Nat):Int)))|none=>none
def PH(l:dL)(i:Nat)(e:dM):Int×Int:=
 l7 (zW e.1) (l7 (AB l 1 i e.1) (7,0) (l7 (C9 (o9 e.2) 0) (5,0) (l7 (H6 16 (o9 e.2)) (4,116) (match(List.range e.2.length).findSome? (RU e.2)with|some r=>r|none=>(0,0))))) (2,0)
theorem ZQ(h:i<=1000000):F6 .i64 100 (i:Int)=((100+i:Nat):Int):=by rw[jS iG];omega
theorem Um(h:Few l)(hi:i<=l.1.length)(e:dM)(h1:e.1.length<=1000000)(h2:∀m∈e.2,m.length<=1000000):
  xW l (i:Int) e=some (PH l i e):=by
 unfold xW PH AB;rw[nU h1,o8,vN hi,o8,IQ _ (by have:=h.1;simp;omega),o8];cases zW e.1
 .rfl
 simp only[I7,o6,o7];cases (l.1.take i).any λx=>seq x.1 e.1
 case true=>rfl
 cases C9 (o9 e.2) 0
 case true=>rfl
 cases h16:H6 16 (o9 e.2)
 case true=>rfl
 simp only[o6];have hlen:e.2.length<=16:=by rw[uk]at h16;simp only[o9]at h16;omega
 refine O9 (Bl (p:=RU e.2) e.2.length o5 PUnit.unit (λj hj=>?_) ?_) ?_
 rotate_left 2
 .cases (List.range e.2.length).findSome? (RU e.2)<;>rfl
 .have e' :=lS hj;rw[O7 e',o7,J9,e',o8,nU (h2 _ (N8 hj)),o8,vN o5,o8,a0f _ E5,o8,ZQ o5,dF o5];simp only[RU,e'];cases zW e.2[j]
  .rfl
  cases (e.2.take j).any λx=>seq e.2[j] x<;>rfl
 .rw[O6];rfl
theorem a3t(a b:List UInt8):seq a b=seq b a:=by unfold seq;by_cases h:a=b<;>simp[h,eq_comm]
variable {ρ:Type}{ε:Type}{σ:Type}
theorem S_(l:List α)(p:α->Bool)(n:Nat)(hn:n<=l.length)(hl:l.length<=1000000)(a b:σ)(r:ρ)(e:ε){f:σ×σ×Int->Option (Out (σ×σ×Int) ε ρ)}
  (hin:∀(i:Nat) (x:α),i<n->l[i]? =some x->f (a,b,(i:Int))=some (bif p x then .rt r else .nx (a,b,F6 .i64 (i:Int) 1))) (hend:f (a,b,(n:Int))=some (.ex e)):
  U2 f (a,b,0)=some (bif (l.take n).any p then .inr r else .inl e):=by
 have key:=xG (f:=f) (s:=(a,b,0)) (λx=>∃i:Nat,x=(a,b,(i:Int))/\i<=n/\(l.take i).any p=false) (λx=>x=e/\(l.take n).any p=false) (λk=>k=r/\(l.take n).any p=true) (λx=>n -x.2.2.toNat) ⟨0,rfl,o5,rfl⟩ E5 ?_
 .rcases key with⟨x,h1,rfl,h2⟩|⟨k,h1,rfl,h2⟩
  .rw[h1,h2];rfl
  .rw[h1,h2];rfl
 .rintro x ⟨i,rfl,hi,hall⟩;by_cases h:i<n
  .have e' :=lS (show i<l.length by omega);have hst:(l.take (i+1)).any p=((l.take i).any p || p l[i]):=by rw[Z8 o5,oC];simp
   rw[hin i _ h e'];cases hc:p l[i]with
   |true=>refine .inr (.inr ⟨_,rfl,rfl,jU.2 ⟨l[i],?_,hc⟩⟩);exact pg (i:=i) (by rw[eX h];exact e')|false=>exact .inl ⟨(a,b,((i+1:Nat):Int)),by rw[dF o5];rfl,⟨i+1,rfl,h,by rw[hst,hall,hc];rfl⟩,by simp;omega⟩
  .have:i=n:=o5;subst this;exact .inr (.inl ⟨_,hend,rfl,hall⟩)
variable {β:Type}
theorem PR{p:Nat->Option β}{n j:Nat}{c:β}(h0:(List.range j).findSome? p=none)(h1:p j=some c)(hj:j<n):(List.range n).findSome? p=some c:=by
 induction n with
 |zero=>omega|succ n ih=>
  rw[eY,jD];by_cases h:j<n
  .rw[ih h];rfl
  .have:j=n:=o5;subst this;rw[h0];simp[h1]
theorem ZO{p:Nat->Option β}{j:Nat}(h0:(List.range j).findSome? p=none)(h1:p j=none):(List.range (j+1)).findSome? p=none:=by rw[eY,jD,h0];simp[h1]
def Hq(kind i:Int)(r:Int×Int):Int×Int×Int×Int:=l7 (C9 r.1 0) (0,0,0,0) (r.1,kind,i,r.2)
theorem Si(h:Few l){e:dM}(he:l.1[i]? =some e)(h1:e.1.length<=1000000)(h2:∀m∈e.2,m.length<=1000000):
  uM l (i:Int)=some (Hq 1 i (PH l i e)):=by
 unfold uM PH;rw[J9,he,o8,kF h1,o8,a0R h,o8];cases zW e.1
 .rfl
 simp only[I7,o6,o7];cases AB l 1 i e.1
 case true=>rfl
 cases C9 (o9 e.2) 0
 case true=>rfl
 cases h16:H6 16 (o9 e.2)
 case true=>rfl
 simp only[o6];have hlen:e.2.length<=16:=by rw[uk]at h16;simp only[o9]at h16;omega
 have key:=xG (f:=λ(x_3:TEvalError×TEvalError×Int)=>
   l7 (H6 x_3.2.2 (o9 e.2)) (l9 (L6 e.2 x_3.2.2) λ(x_4:List UInt8)=>l9 (bU x_4) λ(x_5:Bool)=>
    l7 (G8 x_5) (some (Out.rt (2,x_3.2.1.2.1,x_3.2.1.2.2.1,F6 IntKind.i64 100 x_3.2.2)))
     (l9 (U2 (λ(x_6:TEvalError×TEvalError×Int)=>l7 (H6 x_6.2.2 x_3.2.2) (l9 (L6 e.2 x_6.2.2) λ(x_7:List UInt8)=>l9 (L6 e.2 x_3.2.2) λ(x:List UInt8)=>
       l7 (seq x_7 x) (some (Out.rt (7,x_6.2.1.2))) (some (Out.nx (x_6.1,x_6.2.1,F6 IntKind.i64 x_6.2.2 1)))) (some (Out.ex (x_6.1,x_6.2.1))))
      (x_3.1,(x_3.2.1.1,x_3.2.1.2.1,x_3.2.1.2.2.1,F6 IntKind.i64 100 x_3.2.2),0)) λ(o:TEvalError×TEvalError⊕TEvalError)=>
       X9 o (λ(y:TEvalError×TEvalError)=>some (Out.nx (y.1,y.2,F6 IntKind.i64 x_3.2.2 1))) λ(r:TEvalError)=>some (Out.rt r))) (some (Out.ex x_3.1)))
  (s:=((0,0,0,0),(0,1,(i:Int),0),0))
  (λx=>∃(B:Int×Int×Int×Int) (j:Nat),x=((0,0,0,0),B,(j:Int))/\B.2.1=1/\B.2.2.1=i/\j<=e.2.length/\(List.range j).findSome? (RU e.2)=none)
  (λ_=>(List.range e.2.length).findSome? (RU e.2)=none) (λr=>∃c,(List.range e.2.length).findSome? (RU e.2)=some c/\r=(c.1,1,(i:Int),c.2)/\c.1≠0)
  (λx=>e.2.length -x.2.2.toNat) ⟨_,0,rfl,rfl,rfl,o5,rfl⟩ E5 ?_
 .rcases key with⟨x,k1,k2⟩|⟨r,k1,c,k2,k3,k4⟩
  .refine(Qn k1 _).trans ?_;rw[k2];rfl
  .refine(Qn k1 _).trans ?_;rw[k2,k3];simp only[lW,Hq];rw[N9 k4];rfl
 .rintro x ⟨B,j,rfl,b1,b2,hj,hn⟩;by_cases hl:j<e.2.length
  .have e' :=lS hl;simp only[O7 e',o7,J9,e',o8,kF (h2 _ (N8 hl)),ZQ (show j<=1000000 by omega)];cases hid:zW e.2[j]
   .refine .inr (.inr ⟨_,rfl,(2,((100+j:Nat):Int)),PR hn (by simp only[RU,e',hid];rfl) hl,?_,(by show(2:Int)≠0;decide)⟩);rw[b1,b2]
   .simp only[I7,o6];rw[S_ e.2 (λx=>seq e.2[j] x) j o5 o5 (0,0,0,0) (B.1,B.2.1,B.2.2.1,((100+j:Nat):Int)) (7,B.2.1,B.2.2.1,((100+j:Nat):Int)) ((0,0,0,0),(B.1,B.2.1,B.2.2.1,((100+j:Nat):Int)))
     (λk x hk hx=>by simp only[bn (show(k:Int)<(j:Int) by omega),o7,J9,hx,o8,e'];rw[a3t];cases seq e.2[j] x<;>rfl)
     (by simp only[au (show(j:Int)<=(j:Int) by omega)];rfl)]
    cases hd:(e.2.take j).any λx=>seq e.2[j] x
    .refine .inl ⟨((0,0,0,0),(B.1,B.2.1,B.2.2.1,((100+j:Nat):Int)),((j+1:Nat):Int)),by rw[dF o5];rfl,⟨_,j+1,rfl,b1,b2,hl,ZO hn (by simp only[RU,e',hid,hd];rfl)⟩,by simp;omega⟩
    .refine .inr (.inr ⟨_,rfl,(7,((100+j:Nat):Int)),PR hn (by simp only[RU,e',hid,hd];rfl) hl,?_,(by show(7:Int)≠0;decide)⟩);rw[b1,b2]
  .have:j=e.2.length:=o5;subst this;exact .inr (.inl ⟨_,by simp only[O6];rfl,hn⟩)
def dR(n:Nat)(p:Nat->Option ρ):Option ρ:=(List.range n).findSome? p
theorem mP{p:Nat->Option ρ}(n:Nat)(hn:n<=1000000)(a:σ)(e:ε){f:σ×Int->Option (Out (σ×Int) ε ρ)}
  (h1:∀i,i<n->f (a,(i:Int))=some (match p i with|some r=> .rt r|none=> .nx (a,F6 .i64 (i:Int) 1))) (h2:f (a,(n:Int))=some (.ex e)):
  U2 f (a,0)=some (match dR n p with|some r=> .inr r|none=> .inl e):=by
 have key:=xG (f:=f) (s:=(a,0)) (λx=>∃i:Nat,x=(a,(i:Int))/\i<=n/\dR i p=none) (λx=>x=e/\dR n p=none) (λr=>dR n p=some r) (λx=>n -x.2.toNat) ⟨0,rfl,o5,rfl⟩ E5 ?_
 .rcases key with⟨x,k1,rfl,k2⟩|⟨r,k1,k2⟩
  .rw[k1,k2]
  .rw[k1,k2]
 .rintro x ⟨i,rfl,hi,hnone⟩;by_cases h:i<n
  .rw[h1 i h];cases hp:p i with
   |some r=>exact .inr (.inr ⟨_,rfl,PR hnone hp h⟩)|none=>exact .inl ⟨(a,((i+1:Nat):Int)),by rw[dF o5],⟨i+1,rfl,h,ZO hnone hp⟩,by simp;omega⟩
  .have:i=n:=o5;subst this;exact .inr (.inl ⟨_,h2,rfl,hnone⟩)
def Oa(kind i:Int)(r:Int×Int):Option (Int×Int×Int×Int):=l7 (C9 r.1 0) none (some (r.1,kind,i,r.2))
def MS(l:dL)(i:Nat):Option (Int×Int×Int×Int):=match l.1[i]? with|some e=>Oa 1 i (PH l i e)|none=>none
def IM(l:dL):Int×Int×Int×Int:=l7 (H6 8 (o9 l.1)) (4,1,8,0) (match dR l.1.length (MS l)with|some r=>r|none=>(0,0,0,0))
def Zw(l:dL):Prop:=∀e∈l.1,e.1.length<=1000000/\∀m∈e.2,m.length<=1000000
theorem Rz(h:Few l)(hE:Zw l):wE l=some (IM l):=by
 unfold wE IM;cases H6 8 (o9 l.1)
 case true=>rfl
 simp only[o6];refine O9 (mP (p:=MS l) l.1.length (by have:=h.1;omega) _ (0,0,0,0) (λi hi=>?_) ?_) ?_
 rotate_left 2
 .cases dR l.1.length (MS l)<;>rfl
 .have e:=lS hi;have hm:=hE _ (N8 hi);simp only[O7 e,o7,J9,e,o8,Um h (show i<=l.1.length by omega) _ hm.1 hm.2,MS,Oa];cases C9 (PH l i l.1[i]).1 0<;>rfl
 .rw[O6];rfl
variable {n:Nat}
theorem oz{p:Nat->Option ρ}{r:ρ}(h:dR n p=some r):∃i,i<n/\p i=some r:=by unfold dR at h;obtain⟨i,hi,hp⟩:=List.exists_of_findSome?_eq_some h;exact⟨i,di.1 hi,hp⟩
theorem a4t(t:kQ)(en:List dM):(HY t en).1=-1\/0<=(HY t en).1:=by
 unfold HY;cases H6 64 (o9 t.2.2.2)
 case true=>right;simp only[o7];decide
 cases vty t.2.1 en
 .left;rfl
 cases vty t.2.2.1 en
 .left;rfl
 right;simp only[o7,o6];cases hf:(List.range t.2.2.2.length).findSome? (Sr t en)with
 |none=>exact xA _|some r=>
  obtain⟨i,hi,hp⟩:=oz (p:=Sr t en) hf;unfold Sr at hp;split at hp
  .rename_i x hx;cases hw:MN x (bnd t.2.1 en) (bnd t.2.2.1 en)<;>rw[hw]at hp
   .cases ha:(t.2.2.2.take i).any λy=>uq y x<;>rw[ha]at hp
    .cases hp
    .cases hp;show(0:Int)<=(i:Int);omega
   .cases hp;show(0:Int)<=(i:Int);omega
  .cases hp
def QZ(l:dL)(i:Nat)(t:kQ):Int×Int:=
 l7 (zW t.1) (l7 (AB l 2 i t.1) (7,0) (l7 (C9 (HY t l.1).2 0) (0,0) ((HY t l.1).2,l7 (P7 0 (HY t l.1).1) (F6 .i64 100 (HY t l.1).1) 0))) (2,0)
def Gu(l:dL)(i:Nat):Option (Int×Int×Int×Int):=match l.2.1[i]? with|some t=>Oa 2 i (QZ l i t)|none=>none
def Et(l:dL):Int×Int×Int×Int:=l7 (H6 8 (o9 l.2.1)) (4,2,8,0) (match dR l.2.1.length (Gu l)with|some r=>r|none=>(0,0,0,0))
def VF(l:dL):Prop:=∀t∈l.2.1,t.1.length<=1000000
theorem Qz(h:Few l){t:kQ}(he:l.2.1[i]? =some t)(h1:t.1.length<=1000000):tN l (i:Int)=some (Hq 2 i (QZ l i t)):=by
 unfold tN QZ;rw[J9,he,o8,kF h1,o8,a0S h,o8,a0L,o8];cases zW t.1
 .rfl
 cases AB l 2 i t.1
 case true=>rfl
 simp only[I7,o6,o7];cases hz:C9 (HY t l.1).2 0
 case true=>rfl
 simp only[o6,Hq,hz];cases P7 0 (HY t l.1).1<;>rfl
theorem Pi(h:Few l)(hT:VF l):uH l=some (Et l):=by
 unfold uH Et;cases H6 8 (o9 l.2.1)
 case true=>rfl
 simp only[o6];refine O9 (mP (p:=Gu l) l.2.1.length (by have:=h.2.1;omega) _ (0,0,0,0) (λi hi=>?_) ?_) ?_
 rotate_left 2
 .cases dR l.2.1.length (Gu l)<;>rfl
 .have e:=lS hi;have hm:=hT _ (N8 hi);simp only[O7 e,o7,J9,e,o8,a4u,nU hm,IQ _ (show l.1.length<=1000000 by have:=h.1;omega),vN (show i<=l.2.1.length by omega),
   MZ _ (show(l.2.1.take i).length<=1000000 by have:=h.2.1;simp;omega),Gu,QZ,AB]
  cases zW l.2.1[i].1
  .rfl
  cases l.1.any λx=>seq x.1 l.2.1[i].1
  case true=>rfl
  cases (l.2.1.take i).any λx=>seq x.1 l.2.1[i].1
  case true=>rfl
  simp only[I7,o6,o7,o8,Bool.or_false];cases hz:C9 (HY l.2.1[i] l.1).2 0
  case true=>rfl
  simp only[Z7,o7,o6,Oa,hz];rcases a4t l.2.1[i] l.1 with hr|hr
  .rw[Z9 hr,aW (show(HY l.2.1[i] l.1).1<0 by omega)];simp only[I7,o6,o8,hz,Z7,o7]
  .rw[N9 (show(HY l.2.1[i] l.1).1≠-1 by omega),ai hr];simp only[Z7,o7,o8,hz]
 .rw[O6];rfl
theorem Yh(l:List α)(g:α->β)(hl:l.length<=1000000){f:List β×Int->Option ((List β×Int)⊕ε)}{F:List β->ε}
  (hin:∀(i:Nat) (a:α) (acc:List β),l[i]? =some a->acc.length=i->f (acc,(i:Int))=some (.inl (acc++[g a],F6 .i64 (i:Int) 1))) (hend:∀acc,f (acc,(l.length:Int))=some (.inr (F acc))):
  dV f ([],0)=some (F (l.map g)):=by
 obtain⟨e,h1,h2⟩:=qy (f:=f) (s:=([],0)) (λx=>∃i:Nat,x=((l.take i).map g,(i:Int))/\i<=l.length) (λe=>e=F (l.map g)) (λx=>l.length -x.2.toNat) ⟨0,rfl,o5⟩ E5 (by
  rintro x ⟨i,rfl,hi⟩;by_cases h:i<l.length
  .have e:=lS h;refine .inl ⟨((l.take (i+1)).map g,((i+1:Nat):Int)),?_,⟨i+1,rfl,h⟩,by simp;omega⟩;rw[hin i _ _ e E5,dF o5,Z8 h,gJ];rfl
  .have:i=l.length:=o5;subst this;refine .inr ⟨_,hend _,?_⟩;rw[bZ])
 rw[h1,h2]
theorem BU{l:List jw}(h:l.length<=1000000):pU l=some (l.map (·.2)):=by
 unfold pU;rw[uz];refine Yh (F:=id) l (λx=>x.2) h (λi a acc ha hacc=>?_) (λacc=>?_)
 .have hi:=(ax.1 ha).1;simp only[O7 ha,o7,J9,ha,o8];rw[GV (by simp[hacc];omega)];rfl
 .simp only[O6];rfl
def Jr(l:dL):Prop:=∀s∈l.2.2,s.1.length<=1000000/\s.2.2.1.length<=1000/\s.2.2.2.1.length<=1000/\s.2.2.2.2.length<=1000
def Su(l:dL)(s:J3):List dM×List kQ×List (Int×Int)×List (Int×Int)×List (Int×Int)×Bool:=
 match(if 0<=s.2.1 then l.2.2[s.2.1.toNat]? else none)with
 |some k=>(l.1,l.2.1,s.2.2.1.map (·.2),s.2.2.2.1.map (·.2),k.2.2.2.1.map (·.2),true)|none=>(l.1,l.2.1,s.2.2.1.map (·.2),s.2.2.2.1.map (·.2),[],false)
theorem AA(h:Jr l){s:J3}(hs:l.2.2[i]? =some s):lU l (i:Int)=some (Su l s):=by
 have hm:=h s (pg hs);unfold lU Su;rw[J9,hs,o8,BU o5,o8,BU o5,o8];by_cases h0:0<=s.2.1
 .rw[ai h0,if_pos h0,o7];by_cases h1:s.2.1<o9 l.2.2
  .obtain⟨k,hk,hkm⟩:=pO h0 h1;have hk' :l.2.2[s.2.1.toNat]? =some k:=(jm hk).2.2.2;rw[bn h1,o7,hk,o8,BU (by have:=h k hkm;omega),o8,hk']
  .have h1' :o9 l.2.2<=s.2.1:=qL.1 h1;rw[au h1',o6,gI (by simp only[o9]at h1';exact Int.le_toNat h0 |>.2 h1')]
 .have h0' :s.2.1<(0:Int):=qK.1 h0;rw[aW h0',if_neg h0];rfl
theorem Sl(h:Jr l){s:J3}(hs:l.2.2[i]? =some s):uK l (i:Int)=some (Su l s):=by have hi:=(ax.1 hs).1;rw[←AA h hs];unfold uK lU;rw[au o5,aW (by simp only[o9];omega)];rfl
abbrev SI(l:List Int):Prop:=l.Pairwise (·< ·)
theorem YZ:∀{a b:List Int},SI a->SI b->(∀x,x∈a↔x∈b)->a=b
 |[],[],_,_,_=>rfl|[],y::b,_,_,h=>absurd ((h y).2 x9) x9|x::a,[],_,_,h=>absurd ((h x).1 x9) x9|x::a,y::b,ha,hb,h=>by
  have ha' :=P8.1 ha;have hb' :=P8.1 hb;have hxy:x=y:=by
   rcases D6.1 ((h x).1 x9)with h1|h1
   .exact h1
   .rcases D6.1 ((h y).2 x9)with h2|h2
    .exact h2.symm
    .have:=hb'.1 _ h1;have:=ha'.1 _ h2;omega
  subst hxy;congr 1;refine YZ ha'.2 hb'.2 λz=>⟨λhz=>?_,λhz=>?_⟩
  .rcases D6.1 ((h z).1 (by simp[hz]))with h1|h1
   .have:=ha'.1 _ hz;omega
   .exact h1
  .rcases D6.1 ((h z).2 (by simp[hz]))with h1|h1
   .have:=hb'.1 _ hz;omega
   .exact h1
def ins(n:Int):List Int->List Int
 |[]=>[n]|a::l=>if n<=a then(if n<a then n::a::l else a::l)else a::ins n l
theorem UH(n x:Int):∀l,x∈ins n l↔x=n\/x∈l
 |[]=>by simp[ins]|a::l=>by
  unfold ins;by_cases h:n<=a
  .rw[if_pos h];by_cases h2:n<a
   .rw[if_pos h2];simp
   .rw[if_neg h2];have:n=a:=o5;subst this;simp
  .rw[if_neg h,D6,UH n x l,D6];constructor
   .rintro(h|h|h)<;>simp[h]
   .rintro(h|h|h)<;>simp[h]
theorem a3w(n:Int):∀{l},SI l->SI (ins n l)
 |[],_=>List.pairwise_singleton _ _|a::l,h=>by
  have h' :=P8.1 h;unfold ins;by_cases h1:n<=a
  .rw[if_pos h1];by_cases h2:n<a
   .rw[if_pos h2];refine P8.2 ⟨λx hx=>?_,h⟩;rcases D6.1 hx with rfl|hx
    .exact h2
    .have:=h'.1 x hx;omega
   .rw[if_neg h2];exact h
  .rw[if_neg h1];refine P8.2 ⟨λx hx=>?_,a3w n h'.2⟩;rcases(UH n x l).1 hx with rfl|hx
   .omega
   .exact h'.1 x hx
def BZ(ns:List Int)(l:List Int):List Int:=ns.foldl (λacc n=>ins n acc) l
theorem JM(x:Int):∀ns l,x∈BZ ns l↔x∈ns\/x∈l
 |[],l=>by simp[BZ]|n::ns,l=>by
  show x∈BZ ns (ins n l)↔_;rw[JM x ns,UH,D6];constructor
  .rintro(h|h|h)<;>simp[h]
  .rintro((h|h)|h)<;>simp[h]
theorem OD:∀ns {l},SI l->SI (BZ ns l)
 |[],_,h=>h|n::ns,_,h=>OD ns (a3w n h)
theorem Nc(a b l:List Int):BZ (a++b) l=BZ b (BZ a l):=List.foldl_append ..
def Jl(l:List Int):List Int:=BZ l []
theorem WA(x:Int)(l:List Int):x∈Jl l↔x∈l:=by unfold Jl;rw[JM];simp
theorem G_(l:List Int):SI (Jl l):=OD l List.Pairwise.nil
theorem uV(n:Int):∀l,(ins n l).length<=l.length+1
 |[]=>by simp[ins]|a::l=>by
  unfold ins;by_cases h1:n<=a
  .rw[if_pos h1];by_cases h2:n<a
   .rw[if_pos h2];simp
   .rw[if_neg h2];simp
  .rw[if_neg h1];have:=uV n l;simp only[G7];omega
theorem Bj:∀ns l,(BZ ns l).length<=l.length+ns.length
 |[],l=>by simp[BZ]|n::ns,l=>by have h1:=Bj ns (ins n l);have h2:=uV n l;show(BZ ns (ins n l)).length<=_;simp only[G7];omega
theorem Wu(l:List Int):(Jl l).length<=l.length:=by have:=Bj l [];unfold Jl;simpa using this
theorem Vm{l:List Int}(n:Nat)(h:SI l)(h2:∀x∈l,0<=x/\x<n):l.length<=n:=by
 have key:∀(l:List Int) (lo:Int),SI l->(∀x∈l,lo<=x/\x<n)->lo<=n->(l.length:Int)<=n -lo:=by
  intro l;induction l with
  |nil=>intro lo _ _ hlo;simp;omega|cons a l ih=>intro lo hs hb hlo;have h' :=P8.1 hs;have ha:=hb a x9;have:=ih (a+1) h'.2 (λx hx=>⟨by have:=h'.1 x hx;omega,(hb x (by simp[hx])).2⟩) o5;simp only[G7];omega
 have:=key l 0 h (λx hx=>h2 x hx) o5;omega
theorem Pq(x:Int):∀(l:List Int) (p:Int),(p::l).Pairwise (·<=·)->SI (p::ddp p l)/\(x∈p::ddp p l↔x∈p::l)
 |[],p,_=>⟨List.pairwise_singleton _ _,Iff.rfl⟩|a::l,p,h=>by
  have h1:=P8.1 h;obtain⟨i1,i2⟩:=Pq x l a h1.2;have h2:=P8.1 h1.2;have hpa:=h1.1 a x9;unfold ddp;cases hq:C9 a p
  .rw[IR]at hq;simp only[cond_false];refine⟨P8.2 ⟨λy hy=>?_,i1⟩,?_⟩
   .rcases D6.1 hy with rfl|hy
    .omega
    .have:=(P8.1 i1).1 y hy;omega
   .rw[D6,i2,D6 (a:=x) (b:=p)]
  .rw[mf]at hq;subst hq;simp only[cond_true];refine⟨i1,?_⟩;rw[i2];simp
theorem a1v(l:List Int):dd (Fv l)=Jl l:=by
 have hs:=DX l;have hp:=DW l;refine YZ ?_ (G_ l) λx=>?_
 .cases he:Fv l with
  |nil=>exact List.Pairwise.nil|cons a r=>rw[he]at hs;exact(Pq a r a hs).1
 .rw[WA,←hp.mem_iff];cases he:Fv l with
  |nil=>exact Iff.rfl|cons a r=>rw[he]at hs;exact(Pq x r a hs).2
theorem a0i(l:List Int):(Fv l).length=l.length:=(DW l).length_eq
theorem a5S{l:List Int}(h:l.length<=1000000):l9 (zH l) (λx=>oq x)=some (Jl l):=by unfold zH oq;rw[show Nat.blt l.length 4611686018427387904=true from by simp[Nat.blt];omega];simp only[cond_true,o8];rw[show Nat.blt (Fv l).length 4611686018427387904=true from by rw[a0i];simp[Nat.blt];omega];rw[cond_true,a1v]
def hg(l:List Int)(i:Nat):Int:=l.getD i 0
theorem a4T{l:List Int}(h:i<l.length):l[i]? =some (hg l i):=by unfold hg;rw[Lm,lS h];rfl
def a4G(l:List Int)(n:Nat):Prop:=∀k,0<k->k<n->hg l ((k -1) / 2)<=hg l k
theorem KI{l:List α}{a:α}(h:(l.take n)[i]? =some a):i<n/\l[i]? =some a:=by
 rw[U0]at h;split at h
 .exact⟨by assumption,h⟩
 .cases h
theorem Ed{l:List jw}(hl:l.length<=1000000)(n:Nat)(nm:List UInt8):qg l (n:Int) nm=some ((l.take n).any λx=>seq x.1 nm):=by
 unfold qg;refine O9 (yR (l.take n) (λx=>seq x.1 nm) true PUnit.unit E5 (λi a ha=>?_) ?_) ?_
 rotate_left 2
 .cases (l.take n).any λx=>seq x.1 nm<;>rfl
 .obtain⟨h1,h2⟩:=KI ha;rw[bn (show(i:Int)<n by omega),O7 h2,J9,h2];simp only[o7,o8];cases seq a.1 nm<;>rfl
 .by_cases h:n<l.length
  .have e:(l.take n).length=n:=by simp;omega
   rw[e,au o5];rfl
  .have e:(l.take n).length=l.length:=by simp;omega
   rw[e,O6];cases H6 (l.length:Int) (n:Int)<;>rfl
def Fh(en:List dM)(f:jw)(a b:List jw):Int:=
 l7 (zW f.1) (l7 (a.any λx=>seq x.1 f.1) 7 (l7 (b.any λx=>seq x.1 f.1) 7 (l7 (vty f.2 en) 0 8))) 2
theorem Ig{f:jw}{a b:List jw}(h:f.1.length<=1000000)(ha:a.length<=1000000)(hb:b.length<=1000000):rU l f a b=some (Fh l.1 f a b):=by
 unfold rU Fh;rw[nU h,o8,MX _ ha,o8,MX _ hb,o8,uf,o8];cases zW f.1
 .rfl
 cases a.any λx=>seq x.1 f.1
 case true=>rfl
 cases b.any λx=>seq x.1 f.1
 case true=>rfl
 cases vty f.2 l.1<;>rfl
def PI(c e:Int):Option (Int×Int):=l7 (C9 c 0) none (some (c,e))
def inP(l:dL)(s:J3)(i:Nat):Option (Int×Int):=match s.2.2.1[i]? with|some f=>PI (Fh l.1 f (s.2.2.1.take i) []) (100+i:Nat)|none=>none
def VQ(l:dL)(s:J3)(i:Nat):Option (Int×Int):=match s.2.2.2.1[i]? with|some f=>PI (Fh l.1 f s.2.2.1 (s.2.2.2.1.take i)) (200+i:Nat)|none=>none
def VD(s:J3):Prop:=(∀f∈s.2.2.1,f.1.length<=1000000)/\(∀f∈s.2.2.2.1,f.1.length<=1000000)
theorem Na{c i:Nat}(hc:c<=1000)(h:i<=1000000):F6 .i64 (c:Int) (i:Int)=((c+i:Nat):Int):=by rw[jS iG];omega
def NU(i:Int)(r:Int×Int):Int×Int×Int×Int:=(r.1,3,i,r.2)
theorem Bh{ρ ρ' :Type}(g:ρ->ρ')(n:Nat)(p:Nat->Option ρ):dR n (λi=>(p i).map g)=(dR n p).map g:=by
 unfold dR;induction n with
 |zero=>rfl|succ n ih=>rw[eY,jD,jD,ih];cases (List.range n).findSome? p<;>simp
def DN(l:dL)(s:J3):Option (Int×Int):=match dR s.2.2.1.length (inP l s)with|some r=>some r|none=>dR s.2.2.2.1.length (VQ l s)
theorem Qx{s:J3}(hs:l.2.2[i]? =some s)(h1:s.2.2.1.length<=1000)(h2:s.2.2.2.1.length<=1000)(hf:VD s):
  tH l (i:Int)=some (match DN l s with|some r=>NU i r|none=>(0,0,0,0)):=by
 unfold tH DN;rw[J9,hs,o8];refine O9 (mP (p:=λk=>(inP l s k).map (NU i)) s.2.2.1.length o5 _ (0,0,0,0) (λk hk=>?_) ?_) ?_
 rotate_left 2
 .rw[Bh];cases dR s.2.2.1.length (inP l s)
  case some r=>rfl
  simp only[Option.map_none,U3];refine O9 (mP (p:=λk=>(VQ l s k).map (NU i)) s.2.2.2.1.length o5 _ (0,0,0,0) (λk hk=>?_) ?_) ?_
  rotate_left 2
  .rw[Bh];cases dR s.2.2.2.1.length (VQ l s)<;>rfl
  .have e:=lS hk;have hm:=hf.2 _ (N8 hk);simp only[O7 e,o7,J9,e,o8,kF hm,show o9 s.2.2.1=((s.2.2.1.length:Nat):Int)from rfl,Ed (show s.2.2.1.length<=1000000 by omega),Ed (show s.2.2.2.1.length<=1000000 by omega),iy,VQ,Fh,PI,bZ];rw[show(200:Int)=((200:Nat):Int)from rfl,Na o5 o5];cases zW s.2.2.2.1[k].1
   .rfl
   cases s.2.2.1.any λx=>seq x.1 s.2.2.2.1[k].1
   case true=>rfl
   cases (s.2.2.2.1.take k).any λx=>seq x.1 s.2.2.2.1[k].1
   case true=>rfl
   cases vty s.2.2.2.1[k].2 l.1<;>rfl
  .simp only[O6];rfl
 .have e:=lS hk;have hm:=hf.1 _ (N8 hk);simp only[O7 e,o7,J9,e,o8,kF hm,Ed (show s.2.2.1.length<=1000000 by omega),iy,inP,Fh,PI];rw[show(100:Int)=((100:Nat):Int)from rfl,Na o5 o5];cases zW s.2.2.1[k].1
  .rfl
  cases (s.2.2.1.take k).any λx=>seq x.1 s.2.2.1[k].1
  case true=>rfl
  cases vty s.2.2.1[k].2 l.1<;>rfl
 .simp only[O6];rfl
def arF(op:Int):Int:=(gW op).getD 0
variable {op:Int}
theorem Qp(h:1<=op/\op<=39):∃k:Fin 40,op=(k.val:Int):=⟨⟨op.toNat,o5⟩,by simp;omega⟩
theorem b0i:∀k:Fin 40,1<=k.val->(jB (k.val:Int)=gW (k.val:Int))/\(gW (k.val:Int)=some 0\/gW (k.val:Int)=some 1\/gW (k.val:Int)=some 2\/gW (k.val:Int)=some 3):=by decide+kernel
theorem UB(h:¬(1<=op/\op<=39))(k:Int)(h1:1<=k)(h2:k<=39):C9 op k=false:=N9 o5
theorem UV(h:¬(1<=op/\op<=39)):gW op=some (-1):=by
 unfold gW;by_cases h1:1<=op
 .rw[ai h1,o7,aW (show(9:Int)<op by omega),o6,aW (show(39:Int)<op by omega),aW (show(30:Int)<op by omega)];simp[UB h];cases P7 35 op<;>cases P7 11 op<;>rfl
 .rw[aW (show op<1 by omega),o6,aW (show op<35 by omega),aW (show op<11 by omega)];simp[UB h]
theorem a6U(h:¬(1<=op/\op<=39)):jB op=some (-1):=by unfold jB;simp[UB h]
theorem CG(op:Int):jB op=some (arF op)/\gW op=some (arF op)/\(arF op=-1\/arF op=0\/arF op=1\/arF op=2\/arF op=3):=by
 unfold arF;by_cases h:1<=op/\op<=39
 .obtain⟨k,rfl⟩:=Qp h;obtain⟨h1,h2⟩:=b0i k o5;rcases h2 with h2|h2|h2|h2<;>rw[h1,h2]<;>simp
 .rw[a6U h,UV h];simp
theorem a1k(op:Int):jB op=some (arF op):=(CG op).1
theorem YH(op:Int):gW op=some (arF op):=(CG op).2.1
inductive XT where
 |l0 (n:Int×Int)|l1 (n:Int×Int) (a:XT)|l2 (n:Int×Int) (a b:XT)|l3 (n:Int×Int) (a b c:XT)
def XT.size:XT->Nat
 | .l0 _=>1| .l1 _ a=>a.size+1| .l2 _ a b=>a.size+b.size+1| .l3 _ a b c=>a.size+b.size+c.size+1
def XT.post:XT->List (Int×Int)
 | .l0 n=>[n]| .l1 n a=>a.post++[n]| .l2 n a b=>a.post++b.post++[n]| .l3 n a b c=>a.post++b.post++c.post++[n]
def XT.sts(o:Nat):XT->List Int
 | .l0 _=>[(o:Int)]| .l1 _ a=>a.sts o++[(o:Int)]| .l2 _ a b=>a.sts o++b.sts (o+a.size)++[(o:Int)]| .l3 _ a b c=>a.sts o++b.sts (o+a.size)++c.sts (o+a.size+b.size)++[(o:Int)]
theorem XT.size_pos(t:XT):0<t.size:=by cases t<;>simp[XT.size]
theorem XT.post_len(t:XT):t.post.length=t.size:=by
 induction t with
 |l0 n=>rfl|l1 n a ha=>simp[XT.post,XT.size,ha]|l2 n a b ha hb=>simp[XT.post,XT.size,ha,hb];try omega
 |l3 n a b c ha hb hc=>simp[XT.post,XT.size,ha,hb,hc];try omega
theorem XT.sts_len(t:XT):∀o,(t.sts o).length=t.size:=by
 induction t with
 |l0 n=>intro o;rfl|l1 n a ha=>intro o;simp[XT.sts,XT.size,ha]|l2 n a b ha hb=>intro o;simp[XT.sts,XT.size,ha,hb];try omega
 |l3 n a b c ha hb hc=>intro o;simp[XT.sts,XT.size,ha,hb,hc];try omega
def gu:List XT->Nat
 |[]=>0|t::r=>gu r+t.size
def EG:List XT->List (Int×Int)
 |[]=>[]|t::r=>EG r++t.post
def stR:List XT->List Int
 |[]=>[]|t::r=>stR r++t.sts (gu r)
def kX:List XT->List Int
 |[]=>[]|t::r=>kX r++[(gu r:Int)]
theorem kW:∀ts,(kX ts).length=ts.length
 |[]=>rfl|t::r=>by simp[kX,kW r]
theorem zn:∀ts,(stR ts).length=gu ts
 |[]=>rfl|t::r=>by simp[stR,gu,zn r,XT.sts_len]
theorem Ha:∀ts,(EG ts).length=gu ts
 |[]=>rfl|t::r=>by simp[EG,gu,Ha r,XT.post_len]
def push(n:Int×Int)(ts:List XT):Int⊕List XT:=
 if arF n.1=0 then .inr (.l0 n::ts)
 else if arF n.1=1 then(match ts with|a::r=> .inr (.l1 n a::r)|_=> .inl 5)
 else if arF n.1=2 then(match ts with|b::a::r=> .inr (.l2 n a b::r)|_=> .inl 5)
 else if arF n.1=3 then(match ts with|c::b::a::r=> .inr (.l3 n a b c::r)|_=> .inl 5)
 else .inl 2
def qV:Nat->List (Int×Int)->List XT->(Int×Int)⊕List XT
 |_,[],ts=> .inr ts
 |i,n::es,ts=>match push n ts with
  | .inl c=> .inl ((i:Int),c)| .inr ts' =>if 12<ts'.length then .inl ((i:Int),16)else qV (i+1) es ts'
def jR(e:List (Int×Int)):(Int×Int)⊕XT:=
 if 48<e.length then .inl (0,4)else if e.length=0 then .inl (0,5)else
  match qV 0 e []with
  | .inl x=> .inl x| .inr [t]=> .inr t| .inr _=> .inl ((e.length:Int),4)
theorem TP{n:Int×Int}{ts ts' :List XT}(h:push n ts= .inr ts'):EG ts' =EG ts++[n]/\ts' ≠[]:=by
 unfold push at h;split at h
 .cases h;exact⟨rfl,x9⟩
 split at h
 .split at h
  .cases h;exact⟨by simp[EG,XT.post],x9⟩
  .cases h
 split at h
 .split at h
  .cases h;exact⟨by simp[EG,XT.post],x9⟩
  .cases h
 split at h
 .split at h
  .cases h;exact⟨by simp[EG,XT.post],x9⟩
  .cases h
 .cases h
theorem Hf{n:Int×Int}{ts ts' :List XT}(h:push n ts= .inr ts'):gu ts' =gu ts+1:=by rw[←Ha,←Ha,(TP h).1];simp
theorem Ec:∀(es:List (Int×Int)) (i:Nat) (ts ts' :List XT),qV i es ts= .inr ts' ->EG ts' =EG ts++es/\(ts≠[]\/es≠[]->ts' ≠[])
 |[],i,ts,ts',h=>by cases h;exact⟨x9,x9⟩|n::es,i,ts,ts',h=>by
  unfold qV at h;cases hp:push n ts with
  |inl c=>rw[hp]at h;cases h|inr t2=>
   rw[hp]at h;simp only at h;split at h
   .cases h
   .obtain⟨h1,h2⟩:=Ec es (i+1) t2 ts' h;obtain⟨h3,h4⟩:=TP hp;exact⟨by rw[h1,h3];simp,λ_=>h2 (.inl h4)⟩
theorem sK{e:List (Int×Int)}{t:XT}(h:jR e= .inr t):e=t.post/\e.length<=48:=by
 unfold jR at h;split at h
 .cases h
 split at h
 .cases h
 split at h
 .cases h
 .rename_i t' hp;cases h;have:=(Ec e 0 [] [t] hp).1;exact⟨by simpa[EG]using this.symm,o5⟩
 .cases h
theorem NS(e:List (Int×Int))(he:e.length<=48)(g:List XT->σ)(fin:List XT->ε)(rt:Int×Int->ρ){f:σ->Option (Out σ ε ρ)}
  (hs:∀(i:Nat) (n:Int×Int) (ts:List XT),e[i]? =some n->i=gu ts->ts.length<=12->f (g ts)=some (match push n ts with
   | .inl c=> .rt (rt ((i:Int),c))
   | .inr ts' =>if 12<ts'.length then .rt (rt ((i:Int),16))else .nx (g ts')))
  (hend:∀ts,gu ts=e.length->f (g ts)=some (.ex (fin ts))):
  U2 f (g [])=some (match qV 0 e []with| .inl x=> .inr (rt x)| .inr ts=> .inl (fin ts)):=by
 have key:∀(es:List (Int×Int)) (i:Nat) (ts:List XT) (k:Nat),e.drop i=es->i=gu ts->ts.length<=12->i<=e.length->es.length<k->
   jE f k (g ts)=some (match qV i es ts with| .inl x=> .inr (rt x)| .inr ts=> .inl (fin ts)):=by
  intro es;induction es with
  |nil=>
   intro i ts k hd hi hl hle hk;obtain⟨k,rfl⟩:∃k',k=k' +1:=⟨k -1,o5⟩;have:i=e.length:=by have:=congrArg List.length hd;simp at this;omega
   unfold jE;rw[hend ts o5];rfl
  |cons n es ih=>
   intro i ts k hd hi hl hle hk;obtain⟨k,rfl⟩:∃k',k=k' +1:=⟨k -1,o5⟩;have hn:e[i]? =some n:=by
    have:(e.drop i)[0]? =some n:=by rw[hd];rfl
    simpa using this
   have hlt:=(ax.1 hn).1;unfold jE;rw[hs i n ts hn hi hl];unfold qV;cases hp:push n ts with
   |inl c=>rfl|inr ts' =>
    simp only;by_cases h12:12<ts'.length
    .rw[if_pos h12,if_pos h12]
    .rw[if_neg h12,if_neg h12];exact ih (i+1) ts' k (by rw[←U9,hd];rfl) (by rw[Hf hp,hi]) o5 o5 (by simp at hk;omega)
 exact key e 0 [] gy rfl rfl x9 o5 (by unfold gy;omega)
theorem WF:∀(p r:List XT),∃X,kX (p++r)=kX r++X/\X.length=p.length/\(p≠[]->X.head?=some (gu r:Int))
 |[],r=>⟨[],x9,rfl,λh=>absurd rfl h⟩|a::p,r=>by
  obtain⟨X,h1,h2,h3⟩:=WF p r;refine⟨X++[(gu (p++r):Int)],?_,by simp[h2],λ_=>?_⟩
  .show kX (p++r)++[(gu (p++r):Int)]=_;rw[h1,E8]
  .cases p with
   |nil=>simp at h2;subst h2;rfl|cons b p=>rw[List.head?_append,h3 x9];rfl
theorem LK(p r:List XT)(k:Int)(hk:k=(p.length:Int))(h:p.length+r.length<=100)(hp:p≠[]):
  Y1 .i64 (o9 (kX (p++r))) k=(r.length:Int)/\L6 (kX (p++r)) (r.length:Int)=some (gu r:Int)/\eH (kX (p++r)) (dB (r.length:Int))=some (gu r:Int)
  /\jK 0 (r.length:Int) (o9 (kX (p++r)))=true/\iP (kX (p++r)) (dB 0) (dB (r.length:Int))=kX r:=by
 obtain⟨X,h1,h2,h3⟩:=WF p r;have hl:(kX (p++r)).length=r.length+p.length:=by rw[kW];simp;omega
 have hg:(kX (p++r))[r.length]? =some (gu r:Int):=by rw[h1,H8 (by rw[kW];omega),kW,fU,←List.head?_eq_getElem?];exact h3 hp
 refine⟨?_,?_,?_,?_,?_⟩
 .simp only[o9,hl];rw[fO iG];omega
 .rw[J9];exact hg
 .exact hg
 .simp only[jK,o9,hl,decide_eq_true_eq];omega
 .show((kX (p++r)).take r.length).drop 0=_;rw[h1,lT,W9 (by rw[kW];omega),O8 (by rw[kW];omega)]
theorem Nb(ts:List XT):H6 12 (o9 (kX ts))=decide (12<ts.length):=by rw[show o9 (kX ts)=((ts.length:Nat):Int) by simp[o9,kW]];exact JD 12 ts.length
theorem kK{l:List α}(x:α)(h:l.length<=1000000):bK l [x]=some (l++[x]):=GV E5
theorem CW(ts:List XT)(k:Nat):H6 (o9 (kX ts)) (k:Int)=decide (ts.length<k):=by rw[show o9 (kX ts)=((ts.length:Nat):Int) by simp[o9,kW]];exact JD _ _
def rf(e:List (Int×Int)):List Int×Int×Int:=match jR e with| .inl x=>([],x)| .inr t=>(t.sts 0,0,0)
theorem TL{e:List (Int×Int)}(h0:e.length≠0){K:List Int×Int×Int->List Int×Int×Int}(h48:¬48<e.length)
  {r:List Int×Int×Int} (h:∀ts,qV 0 e []= .inr ts->r=l7 (H6 1 (o9 (kX ts))) ([],o9 e,4) (stR ts,0,0)) (hi:∀x,qV 0 e []= .inl x->r=([],x)):r=rf e:=by
 unfold rf jR;rw[if_neg h48,if_neg h0];cases hp:qV 0 e []with
 |inl x=>exact hi x hp|inr ts=>
  rw[h ts hp];have:=(Ec e 0 [] ts hp).2 (.inr (by intro he;subst he;exact h0 rfl));match ts,this with
  |[t],_=>simp[kX,o9,H6,stR,gu]|a::b::ts,_=>rw[bn (by simp[o9,kW];omega)];rfl
theorem Cf(e:List (Int×Int)):nZ e=some (rf e):=by
 unfold nZ;by_cases h48:48<e.length
 .rw[bn (by simp[o9];omega),o7];unfold rf jR;rw[if_pos h48]
 by_cases h0:e.length=0
 .rw[au (by simp[o9];omega),o6,Z9 (by simp[o9,h0]),o7];unfold rf jR;rw[if_neg h48,if_pos h0]
 rw[au (by simp[o9];omega),o6,N9 (by simp[o9];intro h;exact h0 (by simp[h])),o6];refine O9 (NS e o5 (λts=>(stR ts,kX ts,(gu ts:Int))) (λts=>(stR ts,kX ts)) (λx=>(([]:List Int),x)) (λi n ts hn hi hl=>?_) (λts hsz=>?_)) ?_
 rotate_left 2
 .rw[←TL h0 h48 (K:=id) (r:=match qV 0 e []with| .inl x=>([],x)| .inr ts=>l7 (H6 1 (o9 (kX ts))) ([],o9 e,4) (stR ts,0,0)) (λts h=>by rw[h]) (λx h=>by rw[h])];cases qV 0 e []with
  |inl x=>rfl|inr ts=>simp only[o8,U3];cases H6 1 (o9 (kX ts))<;>rfl
 .subst hi;have hlt:=(ax.1 hn).1;have hst:=zn ts;have hof:=kW ts;simp only[O7 hn,o7,J9,hn,o8,YH];rcases(CG n.1).2.2 with h|h|h|h|h
  .rw[show push n ts= .inl 2 by simp[push,h],h];rfl
  .rw[show push n ts= .inr (.l0 n::ts) by simp[push,h],h,au o5,o6,au (FK _),o6,o6,kK _ o5,o8,kK _ o5,o8,dF o5];rw[show kX ts++[(gu ts:Int)]=kX (.l0 n::ts)from rfl,Nb];by_cases hc:12<(XT.l0 n::ts).length
   .simp only[hc,decide_true,if_true,o7]
   .simp only[hc,decide_false,if_false,o6];rfl
  .match ts with
   |[]=>rw[show push n []= .inl 5 by simp[push,h],h];rfl|a::r=>
    obtain⟨p1,p2,p3,p4,p5⟩:=LK [a] r 1 rfl (by simp at hl ⊢;omega) x9;simp only[X3,I5]at p1 p2 p3 p4 p5;have:=zn (a::r);have:=kW r;simp only[G7]at hl;rw[show push n (a::r)= .inr (.l1 n a::r) by simp[push,h],h,au o5,o6,show(1:Int)=((1:Nat):Int)from rfl,CW,show decide ((a::r).length<1)=false by simp];simp only[Int.natCast_one]at p1 ⊢;rw[o6,bn o5,o7,p1,p2,o8,p3,o8,p4,o7,p5,kK _ o5,o8,kK _ o5,o8,dF o5];rw[show kX r++[(gu r:Int)]=kX (.l1 n a::r)from rfl,Nb];by_cases hc:12<(XT.l1 n a::r).length
    .simp only[hc,decide_true,if_true,o7]
    .simp only[hc,decide_false,if_false,o6,stR,XT.sts,E8,gu,XT.size,fD]
  .match ts with
   |[]=>rw[show push n []= .inl 5 by simp[push,h],h];rfl|[a]=>rw[show push n [a]= .inl 5 by simp[push,h],h];rfl|b::a::r=>
    obtain⟨p1,p2,p3,p4,p5⟩:=LK [b,a] r 2 rfl (by simp at hl ⊢;omega) x9;simp only[X3,I5]at p1 p2 p3 p4 p5;have:=zn (b::a::r);have:=kW r;simp only[G7]at hl;rw[show push n (b::a::r)= .inr (.l2 n a b::r) by simp[push,h],h,au o5,o6,show(2:Int)=((2:Nat):Int)from rfl,CW,show decide ((b::a::r).length<2)=false by simp];rw[o6,bn o5,o7,show((2:Nat):Int)=2 from rfl,p1,p2,o8,p3,o8,p4,o7,p5,kK _ o5,o8,kK _ o5,o8,dF o5];rw[show kX r++[(gu r:Int)]=kX (.l2 n a b::r)from rfl,Nb];by_cases hc:12<(XT.l2 n a b::r).length
    .simp only[hc,decide_true,if_true,o7]
    .simp only[hc,decide_false,if_false,o6,stR,XT.sts,E8,gu,XT.size,fD]
  .match ts with
   |[]=>rw[show push n []= .inl 5 by simp[push,h],h];rfl|[a]=>rw[show push n [a]= .inl 5 by simp[push,h],h];rfl|[b,a]=>rw[show push n [b,a]= .inl 5 by simp[push,h],h];rfl|c::b::a::r=>
    obtain⟨p1,p2,p3,p4,p5⟩:=LK [c,b,a] r 3 rfl (by simp at hl ⊢;omega) x9;simp only[X3,I5]at p1 p2 p3 p4 p5;have:=zn (c::b::a::r);have:=kW r;simp only[G7]at hl;rw[show push n (c::b::a::r)= .inr (.l3 n a b c::r) by simp[push,h],h,au o5,o6,show(3:Int)=((3:Nat):Int)from rfl,CW,show decide ((c::b::a::r).length<3)=false by simp];rw[o6,bn o5,o7,show((3:Nat):Int)=3 from rfl,p1,p2,o8,p3,o8,p4,o7,p5,kK _ o5,o8,kK _ o5,o8,dF o5];rw[show kX r++[(gu r:Int)]=kX (.l3 n a b c::r)from rfl,Nb];by_cases hc:12<(XT.l3 n a b c::r).length
    .simp only[hc,decide_true,if_true,o7]
    .simp only[hc,decide_false,if_false,o6,stR,XT.sts,E8,gu,XT.size,fD]
 .simp only[hsz,O6];rfl
def pd(l:List Int)(k:Nat):List Int:=l++List.replicate k 0
theorem a2o(l:List Int)(m:Nat):L6 (pd l (m+1)) (l.length:Int)=some 0:=by rw[J9];unfold pd;rw[H8 o5,fU];rfl
theorem a5p(l:List Int)(m:Nat):eH (pd l (m+1)) (dB (l.length:Int))=some 0:=by have:=a2o l m;rw[J9]at this;exact this
theorem a7p(l:List Int)(m:Nat)(v:Int):um (pd l (m+1)) (dB (l.length:Int)) v=pd (l++[v]) m:=by show(l++List.replicate (m+1) 0).set l.length v=_;rw[nG _ _ o5,fU,oP];simp[pd]
theorem Ot(l:List Int)(m:Nat)(v w:Int):um (pd (l++[v]) m) (dB (l.length:Int)) w=pd (l++[w]) m:=by show(l++[v]++List.replicate m 0).set l.length w=_;rw[E8,nG _ _ o5,fU];simp[pd]
theorem JX(l:List Int)(m:Nat)(v:Int):L6 (pd (l++[v]) m) (l.length:Int)=some v:=by rw[J9];unfold pd;rw[E8,H8 o5,fU];rfl
theorem JY(l:List Int)(m:Nat)(v:Int):eH (pd (l++[v]) m) (dB (l.length:Int))=some v:=by have:=JX l m v;rw[J9]at this;exact this
theorem KH(e:List (Int×Int)):rM e=some (rf e):=by
 unfold rM;by_cases h48:48<e.length
 .rw[bn (by simp[o9];omega),o7];unfold rf jR;rw[if_pos h48]
 by_cases h0:e.length=0
 .rw[au (by simp[o9];omega),o6,Z9 (by simp[o9,h0]),o7];unfold rf jR;rw[if_neg h48,if_pos h0]
 rw[au (by simp[o9];omega),o6,N9 (by simp[o9];intro h;exact h0 (by simp[h])),o6];rw[show FM (o9 e) (0:Int)=some (pd (stR []) (e.length -gu [])) by simp[FM,o9,pd,stR,gu];omega,o8];refine O9 (NS e o5 (λts=>(pd (stR ts) (e.length -gu ts),kX ts,(gu ts:Int))) (λts=>(pd (stR ts) (e.length -gu ts),kX ts)) (λx=>(([]:List Int),x)) (λi n ts hn hi hl=>?_) (λts hsz=>?_)) ?_
 rotate_left 2
 .rw[←TL h0 h48 (K:=id) (r:=match qV 0 e []with| .inl x=>([],x)| .inr ts=>l7 (H6 1 (o9 (kX ts))) ([],o9 e,4) (stR ts,0,0)) (λts h=>by rw[h]) (λx h=>by rw[h])];cases hp:qV 0 e []with
  |inl x=>rfl|inr ts=>
   have:=(Ec e 0 [] ts hp).1;have hz:e.length -gu ts=0:=by have:=congrArg List.length this;rw[Ha]at this;simp[EG]at this;omega
   simp only[o8,U3,hz,pd,List.replicate_zero,F7];cases H6 1 (o9 (kX ts))<;>rfl
 .subst hi;have hlt:=(ax.1 hn).1;have hst:=zn ts;have hof:=kW ts;obtain⟨m,hm⟩:∃m,e.length -gu ts=m+1:=⟨e.length -gu ts -1,o5⟩;simp only[O7 hn,o7,J9 e,hn,o8,a1k,hm];rw[←hst];simp only[a2o,a5p,o8,a7p,JX,JY,Ot];rw[hst];rcases(CG n.1).2.2 with h|h|h|h|h
  .rw[show push n ts= .inl 2 by simp[push,h],h];rfl
  .have e0:Y1 .i64 (o9 (kX ts)) 0=((kX ts).length:Int):=by rw[fO (by unfold lG o9;omega)];simp[o9]
   rw[show push n ts= .inr (.l0 n::ts) by simp[push,h],h,au o5,o6,au (FK _),o6,o6,e0,show jK 0 ((kX ts).length:Int) (o9 (kX ts))=true by simp[jK,o9],o7,
    show iP (kX ts) (dB 0) (dB ((kX ts).length:Int))=kX ts by simp[iP,dB],kK _ o5,o8,dF o5]
   rw[show kX ts++[(gu ts:Int)]=kX (.l0 n::ts)from rfl,Nb];by_cases hc:12<(XT.l0 n::ts).length
   .simp only[hc,decide_true,if_true,o7]
   .simp only[hc,decide_false,if_false,o6,gu,XT.size,stR,XT.sts,show e.length -(gu ts+1)=m by omega]
  .match ts with
   |[]=>rw[show push n []= .inl 5 by simp[push,h],h];rfl|a::r=>
    obtain⟨p1,p2,p3,p4,p5⟩:=LK [a] r 1 rfl (by simp at hl ⊢;omega) x9;simp only[X3,I5]at p1 p2 p3 p4 p5;have:=zn (a::r);have:=kW r;simp only[G7]at hl;rw[show push n (a::r)= .inr (.l1 n a::r) by simp[push,h],h,au o5,o6,show(1:Int)=((1:Nat):Int)from rfl,CW,show decide ((a::r).length<1)=false by simp];simp only[Int.natCast_one]at p1 ⊢;rw[o6,bn o5,o7,p1,p2,o8,p3,o8,p4,o7,p5];rw[←hst]
    try simp only[Ot,JX,JY,o8]
    rw[hst,kK _ o5,o8,dF o5];rw[show kX r++[(gu r:Int)]=kX (.l1 n a::r)from rfl,Nb];have hz:=Hf (show push n (a::r)= .inr (.l1 n a::r) by simp[push,h]);by_cases hc:12<(XT.l1 n a::r).length
    .simp only[hc,decide_true,if_true,o7]
    .simp only[hc,decide_false,if_false,o6,hz,show e.length -(gu (a::r)+1)=m by omega,stR,XT.sts,E8]
  .match ts with
   |[]=>rw[show push n []= .inl 5 by simp[push,h],h];rfl|[a]=>rw[show push n [a]= .inl 5 by simp[push,h],h];rfl|b::a::r=>
    obtain⟨p1,p2,p3,p4,p5⟩:=LK [b,a] r 2 rfl (by simp at hl ⊢;omega) x9;simp only[X3,I5]at p1 p2 p3 p4 p5;have:=zn (b::a::r);have:=kW r;simp only[G7]at hl;rw[show push n (b::a::r)= .inr (.l2 n a b::r) by simp[push,h],h,au o5,o6,show(2:Int)=((2:Nat):Int)from rfl,CW,show decide ((b::a::r).length<2)=false by simp];rw[o6,bn o5,o7,show((2:Nat):Int)=2 from rfl,p1,p2,o8,p3,o8,p4,o7,p5];rw[←hst]
    try simp only[Ot,JX,JY,o8]
    rw[hst,kK _ o5,o8,dF o5];rw[show kX r++[(gu r:Int)]=kX (.l2 n a b::r)from rfl,Nb];have hz:=Hf (show push n (b::a::r)= .inr (.l2 n a b::r) by simp[push,h]);by_cases hc:12<(XT.l2 n a b::r).length
    .simp only[hc,decide_true,if_true,o7]
    .rw[hz,show e.length -(gu (b::a::r)+1)=m by omega,show stR (.l2 n a b::r)=stR (b::a::r)++[(gu r:Int)] by simp only[stR,XT.sts,E8,gu]];simp only[hc,decide_false,if_false,o6]
  .match ts with
   |[]=>rw[show push n []= .inl 5 by simp[push,h],h];rfl|[a]=>rw[show push n [a]= .inl 5 by simp[push,h],h];rfl|[b,a]=>rw[show push n [b,a]= .inl 5 by simp[push,h],h];rfl|c::b::a::r=>
    obtain⟨p1,p2,p3,p4,p5⟩:=LK [c,b,a] r 3 rfl (by simp at hl ⊢;omega) x9;simp only[X3,I5]at p1 p2 p3 p4 p5;have:=zn (c::b::a::r);have:=kW r;simp only[G7]at hl;rw[show push n (c::b::a::r)= .inr (.l3 n a b c::r) by simp[push,h],h,au o5,o6,show(3:Int)=((3:Nat):Int)from rfl,CW,show decide ((c::b::a::r).length<3)=false by simp];rw[o6,bn o5,o7,show((3:Nat):Int)=3 from rfl,p1,p2,o8,p3,o8,p4,o7,p5];rw[←hst]
    try simp only[Ot,JX,JY,o8]
    rw[hst,kK _ o5,o8,dF o5];rw[show kX r++[(gu r:Int)]=kX (.l3 n a b c::r)from rfl,Nb];have hz:=Hf (show push n (c::b::a::r)= .inr (.l3 n a b c::r) by simp[push,h]);by_cases hc:12<(XT.l3 n a b c::r).length
    .simp only[hc,decide_true,if_true,o7]
    .rw[hz,show e.length -(gu (c::b::a::r)+1)=m by omega,show stR (.l3 n a b c::r)=stR (c::b::a::r)++[(gu r:Int)] by simp only[stR,XT.sts,E8,gu]];simp only[hc,decide_false,if_false,o6]
 .simp only[hsz,O6];rfl
end Go.GP
namespace Go.GP
open Gt
set_option maxRecDepth 100000
def VT(t:Int×Int):Prop:=t=(1,0)\/t=(2,0)\/t=(3,0)\/t=(4,0)\/t=(5,0)\/∃e,t=(6,e)
theorem Gw{t:Int×Int}{en:List dM}(h:vty t en=true):VT t:=by
 obtain⟨k,e⟩:=t;unfold vty at h;simp only at h;cases h6:C9 k 6
 .rw[h6,o6]at h;cases h1:P7 1 k<;>rw[h1]at h
  .cases h
  cases h5:P7 k 5<;>rw[h5]at h
  .cases h
  simp only[o7,mf]at h;rw[qw]at h1 h5;subst h;have:k=1\/k=2\/k=3\/k=4\/k=5:=o5;rcases this with rfl|rfl|rfl|rfl|rfl<;>simp[VT]
 .rw[mf]at h6;subst h6;exact .inr (.inr (.inr (.inr (.inr ⟨e,rfl⟩))))
def EN(n:Int×Int)(ops:List (Int×Int))(sg:O0):Option ((Int×Int)×Int):=
 l7 (G8 (C9 n.2 0)) (l9 (aJ n.1) λu=>l7 (G8 u) (some ((0,0),2)) (ak n ops sg)) (ak n ops sg)
def qo(n:Int×Int)(ops:List (Int×Int))(sg:O0):Prop:=∃r:(Int×Int)×Int,sZ n ops sg=some r/\EN n ops sg=some r/\(r.2=0->VT r.1)
variable {k:Int}
theorem VT.lit(h:1<=k/\k<=5):VT (k,0):=by have:k=1\/k=2\/k=3\/k=4\/k=5:=o5;rcases this with rfl|rfl|rfl|rfl|rfl<;>simp[VT]
theorem JC(a b:Int):P7 a b= !H6 b a:=by simp only[H6,P7];rw[←decide_not];congr 1;simp
theorem BF{α β:Type}(o:Option β)(f:α->Option β):l9 (l9 o λx=>some (Sum.inr x)) (λq=>X9 q f λr=>some r)=o:=by cases o<;>rfl
theorem VT.enum(e:Int):VT (6,e):=.inr (.inr (.inr (.inr (.inr ⟨e,rfl⟩))))
theorem oD{R E:Option ((Int×Int)×Int)}{c:Int}(hc:c≠0)(h1:R=some ((0,0),c))(h2:E=some ((0,0),c)):∃r:(Int×Int)×Int,R=some r/\E=some r/\(r.2=0->VT r.1):=⟨_,h1,h2,λh=>absurd h hc⟩
theorem nok{R E:Option ((Int×Int)×Int)}{t:Int×Int}(hv:VT t)(h1:R=some (t,0))(h2:E=some (t,0)):∃r:(Int×Int)×Int,R=some r/\E=some r/\(r.2=0->VT r.1):=⟨_,h1,h2,λ_=>hv⟩
def RR(a0:Int×Int)(a1:List (Int×Int))(a2:O0):Option ((Int×Int)×Int):=
 l9 (qA a0 a2) λ(x:Bool)=>l7 (G8 x) (some ((0,0),3)) (l9 (rX a0 a2) λ(x:Bool)=>l7 (G8 x) (some ((0,0),6))
  (l7 (C9 (o9 a1) 0) (l9 (kH a0 a2) λ(x:J4×Bool)=>l7 (G8 x.2) (some ((0,0),8)) (some (x.1,0)))
  (l7 (C9 (o9 a1) 1) (l9 (L6 a1 0) λ(x:J4)=>l9 (qB a0 x a2) λ(x:J4×Bool)=>l7 (G8 x.2) (some ((0,0),8)) (some (x.1,0)))
  (l7 (C9 (o9 a1) 2) (l9 (L6 a1 0) λ(x:J4)=>l9 (L6 a1 1) λ(x_1:J4)=>l9 (tq a0.1 x x_1) λ(x:J4×Bool)=>l7 (G8 x.2) (some ((0,0),8)) (some (x.1,0)))
  (l9 (L6 a1 1) λ(x:J4)=>l9 (L6 a1 0) λ(x_1:J4)=>l7 (C9 x_1.1 1) (l9 (L6 a1 1) λ(x_2:J4)=>l9 (L6 a1 2) λ(x_3:J4)=>
   l7 (G8 (nP (C9 x_2.1 x_3.1) (C9 x_2.2 x_3.2))) (some ((0,0),8)) (some (x,0))) (l7 (G8 false) (some ((0,0),8)) (some (x,0))))))))
theorem a9X(n:Int×Int)(ops:List (Int×Int))(sg:O0):sZ n ops sg=l7 (G8 (C9 n.2 0)) (l9 (iq n.1) λx=>l7 x (RR n ops sg) (some ((0,0),2))) (RR n ops sg):=by
 unfold sZ;cases C9 n.2 0
 .simp only[Z7,o7];cases iq n.1 with
  |none=>rfl|some b=>cases b<;>rfl
 .rfl
theorem FT{op N:Int}{ops:List (Int×Int)}{sg:O0}(h1:aJ op=some true)(h2:iq op=some true)
  (h:∃r:(Int×Int)×Int,RR (op,N) ops sg=some r/\ak (op,N) ops sg=some r/\(r.2=0->VT r.1)):qo (op,N) ops sg:=by
 unfold qo;rw[a9X];unfold EN;dsimp only;rw[h1,h2];cases C9 N 0<;>exact h
theorem LC{op N:Int}{ops:List (Int×Int)}{sg:O0}(h1:aJ op=some false)(h2:iq op=some false)
  (h:∃r:(Int×Int)×Int,RR (op,0) ops sg=some r/\ak (op,0) ops sg=some r/\(r.2=0->VT r.1)):qo (op,N) ops sg:=by
 unfold qo;rw[a9X];unfold EN;dsimp only;rw[h1,h2];cases hz:C9 N 0
 .exact oD (c:=2) V5 rfl rfl
 .rw[mf]at hz;subst hz;exact h
section
variable (N:Int) (sg:O0)
theorem a1Z(hk:k=1\/k=2\/k=3\/k=4\/k=5):qo (k,N) [] sg:=by
 have hv:vty (k,0) sg.1=true:=by rcases hk with rfl|rfl|rfl|rfl|rfl<;>rfl
 have hm:aJ k=some true/\iq k=some true:=by rcases hk with rfl|rfl|rfl|rfl|rfl<;>exact⟨rfl,rfl⟩
 refine FT hm.1 hm.2 ?_;have key:ak (k,N) [] sg=jh N k sg:=by rcases hk with rfl|rfl|rfl|rfl|rfl<;>exact BF _ _
 have key2:RR (k,N) [] sg=l9 (l9 (dJ (k,0) sg.1) λ(x:J4)=>l7 (P7 x.1 N) (some (P7 N x.2)) (some false)) λ(x:Bool)=>l7 (G8 x) (some ((0,0),3)) (some ((k,0),0)):=by rcases hk with rfl|rfl|rfl|rfl|rfl<;>rfl
 rw[key,key2];unfold jh;rw[SK,Jc,o8,o8,yV,yV];cases P7 (bnd (k,0) sg.1).1 N
 .exact oD (c:=3) V5 rfl rfl
 cases P7 N (bnd (k,0) sg.1).2
 .exact oD (c:=3) V5 rfl rfl
 .exact nok (Gw hv) rfl rfl
theorem a0q(hN:lG N):qo (6,N) [] sg:=by
 have hq:0<=N->eU .i64 N 16=N / 16:=λh=>by rw[JE (by rw[lX h];unfold lG at*;omega),lX h]
 refine FT rfl rfl ?_;have hf:rX (6,N) sg=l7 (H6 (eU .i64 N 16) (o9 sg.1)) (l9 (L6 sg.1 (eU .i64 N 16)) λ(x:dM)=>some (H6 (jP N 16) (o9 x.2))) (some false):=rfl;have hl:kH (6,N) sg=some ((6,eU .i64 N 16),vty (6,eU .i64 N 16) sg.1):=by unfold kH;simp only[iy];rfl
 rw[show ak (6,N) [] sg=xU N sg from BF _ _];unfold RR xU;rw[hf,show qA (6,N) sg=some (P7 0 N)from rfl,hl];by_cases h0:0<=N
 .rw[au h0,ai h0,hq h0];by_cases h1:N / 16<o9 sg.1
  .obtain⟨x,hx,_⟩:=pO (show 0<=N / 16 by omega) h1;rw[bn h1,aW h1,hx,show vty (6,N / 16) sg.1=true by unfold vty;simp only[ai (show 0<=N / 16 by omega),bn h1];rfl];simp only[o8,yV];cases P7 (o9 x.2) (jP N 16)
   .exact nok (VT.enum (N / 16)) rfl rfl
   .exact oD (c:=6) V5 rfl rfl
  .have h1' :o9 sg.1<=N / 16:=o5;rw[au h1',ai h1'];exact oD (c:=6) V5 rfl rfl
 .rw[bn (show N<0 by omega),aW (show N<0 by omega)];exact oD (c:=3) V5 rfl rfl
theorem wJ(ts:List (Int×Int))(en:O0):(∃x,L6 ts N=some x/\P7 0 N=true/\H6 N (o9 ts)=true/\jb N ts en=some (l7 (vty x en.1) (x,0) ((0,0),8)))\/((P7 0 N=false\/P7 0 N=true/\H6 N (o9 ts)=false)/\jb N ts en=some ((0,0),6)):=by
 unfold jb;rw[yV N 0,JC (o9 ts) N];cases h0:P7 0 N
 .exact .inr ⟨.inl x9,rfl⟩
 cases h1:H6 N (o9 ts)
 .exact .inr ⟨.inr x9,rfl⟩
 rw[qw]at h0;rw[sV]at h1;obtain⟨x,hx,_⟩:=pO h0 h1;rw[hx];simp only[gG,Bool.not_false,o6,o7,o8,uf];exact .inl ⟨x,rfl,x9,x9,by cases vty x en.1<;>rfl⟩
theorem a5d:qo (7,N) [] sg:=by
 refine FT rfl rfl ?_;rw[show ak (7,N) [] sg=jb N sg.2.2.1 sg from BF _ _];have hf:rX (7,N) sg=l7 (P7 0 N) (some (H6 N (o9 sg.2.2.1))) (some false):=rfl;unfold RR;rw[hf,show qA (7,N) sg=some true from rfl];rcases wJ N sg.2.2.1 sg with⟨x,h1,h2,h3,h4⟩|⟨h1|⟨h1,h2⟩,h4⟩
 .have hl:kH (7,N) sg=some (x,vty x sg.1):=by
   unfold kH;dsimp only;rw[h1];simp only[iy];rfl
  rw[h2,h3,h4,hl];cases hv:vty x sg.1
  .exact oD (c:=8) V5 rfl rfl
  .exact nok (Gw hv) rfl rfl
 .rw[h1,h4];exact oD (c:=6) V5 rfl rfl
 .rw[h1,h2,h4];exact oD (c:=6) V5 rfl rfl
theorem a1Y:qo (8,N) [] sg:=by
 refine FT rfl rfl ?_;rw[show ak (8,N) [] sg=jb N sg.2.2.2.1 sg from BF _ _];have hf:rX (8,N) sg=l7 (P7 0 N) (some (H6 N (o9 sg.2.2.2.1))) (some false):=rfl;unfold RR;rw[hf,show qA (8,N) sg=some true from rfl];rcases wJ N sg.2.2.2.1 sg with⟨x,h1,h2,h3,h4⟩|⟨h1|⟨h1,h2⟩,h4⟩
 .have hl:kH (8,N) sg=some (x,vty x sg.1):=by
   unfold kH;dsimp only;rw[h1];simp only[iy];rfl
  rw[h2,h3,h4,hl];cases hv:vty x sg.1
  .exact oD (c:=8) V5 rfl rfl
  .exact nok (Gw hv) rfl rfl
 .rw[h1,h4];exact oD (c:=6) V5 rfl rfl
 .rw[h1,h2,h4];exact oD (c:=6) V5 rfl rfl
theorem a0p:qo (9,N) [] sg:=LC rfl rfl (nok (VT.lit (k:=5) o5) rfl rfl)
theorem Yu:qo (35,N) [] sg:=by
 refine LC rfl rfl ?_;rw[show ak (35,0) [] sg=nV (35,0) sg from BF _ _];unfold RR nV;simp only[qA,rX,kH,iy,o8];cases sg.2.2.2.2.2
 .exact oD (c:=6) V5 rfl rfl
 .exact nok (VT.lit (k:=2) o5) rfl rfl
theorem a2a(hk:k=36\/k=37\/k=38\/k=39):qo (k,N) [] sg:=by
 have hm:aJ k=some true/\iq k=some true/\C9 k 35=false:=by rcases hk with rfl|rfl|rfl|rfl<;>exact⟨rfl,rfl,rfl⟩
 refine FT hm.1 hm.2.1 ?_;rw[show ak (k,N) [] sg=nV (k,N) sg by rcases hk with rfl|rfl|rfl|rfl<;>exact BF _ _];have hr:RR (k,N) [] sg=l9 (l7 sg.2.2.2.2.2 (l7 (P7 0 N) (some (H6 N (o9 sg.2.2.2.2.1))) (some false)) (some false)) λ(x:Bool)=>l7 (G8 x) (some ((0,0),6))
   (l9 (kH (k,N) sg) λ(x:J4×Bool)=>l7 (G8 x.2) (some ((0,0),8)) (some (x.1,0))):=by rcases hk with rfl|rfl|rfl|rfl<;>rfl
 rw[hr];unfold nV;rw[hm.2.2,o6];cases sg.2.2.2.2.2
 .exact oD (c:=6) V5 rfl rfl
 simp only[o7,I7,o6];rcases wJ N sg.2.2.2.2.1 sg with⟨x,h1,h2,h3,h4⟩|⟨h1|⟨h1,h2⟩,h4⟩
 .rw[h2,h3,h4];have hl:kH (k,N) sg=l9 (some (l7 (C9 k 36) (l7 (vty x sg.1) (l7 (C9 x.1 2) true (C9 x.1 3)) false) (l7 (C9 k 39) (l7 (vty x sg.1) (l7 (C9 x.1 2) true (l7 (C9 x.1 3) true (l7 (C9 x.1 4) true (C9 x.1 5)))) false) (l7 (vty x sg.1) (C9 x.1 1) false)))) λb=>some (x,b):=by
   unfold kH;simp only[iy,oV,tu];rcases hk with rfl|rfl|rfl|rfl<;>(rw[h1];simp only[C9,Int.reduceEq,decide_true,decide_false,o7,o6,o8];cases vty x sg.1<;>cases decide (x.1=2)<;>cases decide (x.1=3)<;>cases decide (x.1=4)<;>rfl)
  rw[hl];simp only[o8,kM];cases hv:vty x sg.1
  .rcases hk with rfl|rfl|rfl|rfl<;>exact oD (c:=8) V5 rfl rfl
  .have hx:=Gw hv;rcases hk with rfl|rfl|rfl|rfl<;>rcases hx with rfl|rfl|rfl|rfl|rfl|⟨e,rfl⟩ <;>
    first
    |exact nok (Gw hv) rfl rfl
    |exact oD (c:=8) V5 rfl rfl
 .rw[h1,h4];exact oD (c:=6) V5 rfl rfl
 .rw[h1,h2,h4];exact oD (c:=6) V5 rfl rfl
end
end Go.GP
namespace Go.GP
open Gt
set_option maxRecDepth 100000
variable {a:Int×Int}{k:Int}{b:Int×Int}
section
variable (N:Int) (sg:O0)
theorem a5e(hk:k=10\/k=25\/k=31\/k=32)(ha:VT a):qo (k,N) [a] sg:=by
 have hm:aJ k=some false/\iq k=some false:=by rcases hk with rfl|rfl|rfl|rfl<;>exact⟨rfl,rfl⟩
 refine LC hm.1 hm.2 ?_;rcases hk with rfl|rfl|rfl|rfl<;>rcases ha with rfl|rfl|rfl|rfl|rfl|⟨e,rfl⟩ <;>
  first
  |exact nok (VT.lit (k:=1) o5) rfl rfl
  |exact nok (VT.lit (k:=2) o5) rfl rfl
  |exact nok (VT.lit (k:=3) o5) rfl rfl
  |exact nok (VT.lit (k:=4) o5) rfl rfl
  |exact oD (c:=8) V5 rfl rfl
theorem a1X(hk:k=13\/k=23\/k=24\/k=27\/k=28\/k=29\/k=30)(ha:VT a)(hb:VT b):qo (k,N) [a,b] sg:=by
 have hm:aJ k=some false/\iq k=some false:=by rcases hk with rfl|rfl|rfl|rfl|rfl|rfl|rfl<;>exact⟨rfl,rfl⟩
 refine LC hm.1 hm.2 ?_;rcases hk with rfl|rfl|rfl|rfl|rfl|rfl|rfl<;>rcases ha with rfl|rfl|rfl|rfl|rfl|⟨e,rfl⟩<;>rcases hb with rfl|rfl|rfl|rfl|rfl|⟨f,rfl⟩ <;>
  first
  |exact oD (c:=8) V5 rfl rfl
  |exact nok (VT.lit (k:=1) o5) rfl rfl
  |exact nok (VT.lit (k:=2) o5) rfl rfl
  |exact nok (VT.lit (k:=3) o5) rfl rfl
  |exact nok (VT.lit (k:=4) o5) rfl rfl
  |exact nok (VT.lit (k:=5) o5) rfl rfl
theorem a0r(hk:k=14\/k=15\/k=16)(ha:VT a)(hb:VT b):qo (k,N) [a,b] sg:=by
 have hm:aJ k=some true/\iq k=some true:=by rcases hk with rfl|rfl|rfl<;>exact⟨rfl,rfl⟩
 refine FT hm.1 hm.2 ?_;have hr:RR (k,N) [a,b] sg=l9 (l7 (P7 0 N) (some (P7 N 5)) (some false)) λx=>l7 (G8 x) (some ((0,0),3)) (l9 (tq k a b) λx=>l7 (G8 x.2) (some ((0,0),8)) (some (x.1,0))):=by rcases hk with rfl|rfl|rfl<;>rfl
 have he:ak (k,N) [a,b] sg=l9 (l7 (P7 0 N) (some (P7 N 5)) (some false)) λx=>l7 (G8 x) (some ((0,0),3)) (l9 (lI k [a,b]) λx=>l7 (G8 x.2) (some ((0,0),8)) (some (x.1,0))):=by
  rcases hk with rfl|rfl|rfl <;>
   (show l9 (l9 (kS N) λx=>l7 (G8 x) (some (Sum.inr (((0:Int),(0:Int)),(3:Int)))) (some (.inl ((0:Int),(0:Int))))) _=_
    unfold kS;cases P7 0 N<;>cases P7 N 5<;>rfl)
 rw[hr,he];cases P7 0 N
 .exact oD (c:=3) V5 rfl rfl
 cases P7 N 5
 .exact oD (c:=3) V5 rfl rfl
 rcases hk with rfl|rfl|rfl<;>rcases ha with rfl|rfl|rfl|rfl|rfl|⟨e,rfl⟩<;>rcases hb with rfl|rfl|rfl|rfl|rfl|⟨f,rfl⟩ <;>
  first
  |exact oD (c:=8) V5 rfl rfl
  |exact nok (VT.lit (k:=2) o5) rfl rfl
  |exact nok (VT.lit (k:=3) o5) rfl rfl
  |exact nok (VT.lit (k:=4) o5) rfl rfl
theorem a0s(hk:k=11\/k=12\/k=17\/k=18\/k=19\/k=20\/k=21\/k=22)(ha:VT a):qo (k,N) [a,b] sg:=by
 have hm:aJ k=some false/\iq k=some false:=by rcases hk with rfl|rfl|rfl|rfl|rfl|rfl|rfl|rfl<;>exact⟨rfl,rfl⟩
 refine LC hm.1 hm.2 ?_;have hr:RR (k,0) [a,b] sg=l9 (tq k a b) λx=>l7 (G8 x.2) (some ((0,0),8)) (some (x.1,0)):=by rcases hk with rfl|rfl|rfl|rfl|rfl|rfl|rfl|rfl<;>rfl
 have he:ak (k,0) [a,b] sg=l9 (lI k [a,b]) λx=>l7 (G8 x.2) (some ((0,0),8)) (some (x.1,0)):=by rcases hk with rfl|rfl|rfl|rfl|rfl|rfl|rfl|rfl<;>rfl
 rw[hr,he];unfold tq lI;simp only[show L6 [a,b] 0=some a from rfl,show L6 [a,b] 1=some b from rfl,o8,tu,oV,gX,kM];cases h1:C9 a.1 b.1
 .rcases hk with rfl|rfl|rfl|rfl|rfl|rfl|rfl|rfl<;>exact oD (c:=8) V5 rfl rfl
 cases h2:C9 a.2 b.2
 .rcases hk with rfl|rfl|rfl|rfl|rfl|rfl|rfl|rfl<;>exact oD (c:=8) V5 rfl rfl
 have ha' :=ha;rcases hk with rfl|rfl|rfl|rfl|rfl|rfl|rfl|rfl<;>rcases ha with rfl|rfl|rfl|rfl|rfl|⟨e,rfl⟩ <;>
  first
  |exact nok ha' rfl rfl
  |exact nok (VT.lit (k:=1) o5) rfl rfl
  |exact oD (c:=8) V5 rfl rfl
theorem a5c{a b c:Int×Int}(ha:VT a)(hb:VT b):qo (26,N) [a,b,c] sg:=by
 refine LC rfl rfl ?_;have hr:RR (26,0) [a,b,c] sg=l7 (C9 a.1 1) (l7 (G8 (nP (C9 b.1 c.1) (C9 b.2 c.2))) (some ((0,0),8)) (some (b,0))) (some ((0,0),8)):=rfl;have he:ak (26,0) [a,b,c] sg=l9 (lI 26 [a,b,c]) λx=>l7 (G8 x.2) (some ((0,0),8)) (some (x.1,0)):=rfl;have he2:lI 26 [a,b,c]=l9 (l7 (C9 a.1 1) (some (Sum.inr (b,nP (C9 b.1 c.1) (C9 b.2 c.2)))) (some (Sum.inr (b,false)))) λ(o:J4⊕J4×Bool)=>X9 o (λ(x:J4)=>some ((0,0),false)) λ(r:J4×Bool)=>some r:=rfl;rw[hr,he,he2];cases C9 a.1 1
 .exact oD (c:=8) V5 rfl rfl
 cases C9 b.1 c.1
 .exact oD (c:=8) V5 rfl rfl
 cases C9 b.2 c.2
 .exact oD (c:=8) V5 rfl rfl
 .exact nok hb rfl rfl
theorem WE(ha:VT a):qo (33,N) [a] sg:=by
 refine FT rfl rfl ?_;have he:ak (33,N) [a] sg=pJ (33,N) a sg:=BF _ _;have hr:RR (33,N) [a] sg=l9 (l7 (P7 0 N) (some (H6 N (o9 sg.2.1))) (some false)) λx=>l7 (G8 x) (some ((0,0),6)) (l9 (qB (33,N) a sg) λx=>l7 (G8 x.2) (some ((0,0),8)) (some (x.1,0))):=rfl;have hs:qB (33,N) a sg=l9 (L6 sg.2.1 N) λ(x:kQ)=>l9 (V9 x.2.1 sg.1) λ(x_1:Bool)=>l7 x_1 (l9 (V9 x.2.2.1 sg.1) λ(x_2:Bool)=>l7 x_2 (some (x.2.2.1,nP (C9 a.1 x.2.1.1) (C9 a.2 x.2.1.2))) (some (x.2.2.1,false))) (some (x.2.2.1,false)):=rfl;rw[he,hr,hs];unfold pJ;simp only[C9,Int.reduceEq,decide_false,o6,o8,U3,yV N 0,JC (o9 sg.2.1) N];cases h0:P7 0 N
 .exact oD (c:=6) V5 rfl rfl
 cases h1:H6 N (o9 sg.2.1)
 .exact oD (c:=6) V5 rfl rfl
 rw[qw]at h0;rw[sV]at h1;obtain⟨x,hx,_⟩:=pO h0 h1;simp only[o8,U3,gG,o6,hx,uf,iy,Z7,o7];cases vty x.2.1 sg.1
 .exact oD (c:=8) V5 rfl rfl
 cases hv:vty x.2.2.1 sg.1
 .exact oD (c:=8) V5 rfl rfl
 simp only[I7,o6,o7,o8];cases nP (decide (a.1=x.2.1.1)) (decide (a.2=x.2.1.2))
 .exact oD (c:=8) V5 rfl rfl
 .exact nok (Gw hv) rfl rfl
theorem RX(hN:lG N)(ha:VT a):qo (34,N) [a] sg:=by
 refine FT rfl rfl ?_;have he:ak (34,N) [a] sg=pJ (34,N) a sg:=BF _ _;have hr:RR (34,N) [a] sg=l9 (l7 (P7 0 N) (some (P7 (jP N 8) 5)) (some false)) λx=>l7 (G8 x) (some ((0,0),3)) (l7 (G8 (H6 (eU .i64 N 8) (o9 sg.2.1))) (some ((0,0),6)) (l9 (qB (34,N) a sg) λx=>l7 (G8 x.2) (some ((0,0),8)) (some (x.1,0)))):=rfl;have hs:qB (34,N) a sg=l9 (L6 sg.2.1 (eU .i64 N 8)) λ(x:kQ)=>l7 (C9 a.1 3) (l7 (nP (C9 x.2.1.1 3) (C9 x.2.1.2 0)) (some (a,nP (C9 x.2.2.1.1 4) (C9 x.2.2.1.2 0))) (some (a,false))) (some (a,false)):=rfl;rw[he,hr,hs];unfold pJ kS;by_cases h0:0<=N
 case neg=>rw[aW (show N<0 by omega),bn (show N<0 by omega)];exact oD (c:=3) V5 rfl rfl
 have hq:eU .i64 N 8=N / 8:=by rw[JE (by rw[lX h0];unfold lG at*;omega),lX h0]
 rw[ai h0,au h0,hq,zU h0];simp only[C9,Int.reduceEq,decide_true,o7,o6,ai (show 0<=N % 8 by omega),o8];cases P7 (N % 8) 5
 .exact oD (c:=3) V5 rfl rfl
 simp only[I7,o6,o8,U3,au (show 0<=N / 8 by omega),JC];cases h1:H6 (N / 8) (o9 sg.2.1)
 .exact oD (c:=6) V5 rfl rfl
 rw[sV]at h1;obtain⟨x,hx,_⟩:=pO (show 0<=N / 8 by omega) h1;simp only[hx,gG,o6,o8,U3,uf,I7];obtain⟨nm,⟨k1,k2⟩,⟨v1,v2⟩,rows⟩:=x;dsimp only;by_cases hK:k1=3/\k2=0
 .obtain⟨rfl,rfl⟩:=hK;by_cases hV:v1=4/\v2=0
  .obtain⟨rfl,rfl⟩:=hV;rcases ha with rfl|rfl|rfl|rfl|rfl|⟨e,rfl⟩ <;>
    first
    |exact nok (VT.lit (k:=3) o5) rfl rfl
    |exact oD (c:=8) V5 rfl rfl
  .have hE:vty (v1,v2) sg.1=true->v1≠4:=λhv h=>by
    subst h;rcases Gw hv with h|h|h|h|h|⟨e,h⟩<;>cases h;exact hV ⟨rfl,rfl⟩
   have hR:nP (decide (v1=4)) (decide (v2=0))=false:=by
    by_cases h1:v1=4
    .have:v2≠0:=λh2=>hV ⟨h1,h2⟩;simp[nP,h1,this]
    .simp[nP,h1]
   rw[hR];cases hv:vty (v1,v2) sg.1
   .rcases ha with rfl|rfl|rfl|rfl|rfl|⟨e,rfl⟩<;>exact oD (c:=8) V5 rfl rfl
   .have h4:=hE hv;rw[show decide (v1=4)=false by simp[h4]];rcases ha with rfl|rfl|rfl|rfl|rfl|⟨e,rfl⟩<;>exact oD (c:=8) V5 rfl rfl
 .have hR:nP (decide (k1=3)) (decide (k2=0))=false:=by
   by_cases h1:k1=3
   .have:k2≠0:=λh2=>hK ⟨h1,h2⟩;simp[nP,h1,this]
   .simp[nP,h1]
  rw[hR];cases hv:vty (k1,k2) sg.1
  .rcases ha with rfl|rfl|rfl|rfl|rfl|⟨e,rfl⟩<;>exact oD (c:=8) V5 rfl rfl
  cases hw:vty (v1,v2) sg.1
  .rcases ha with rfl|rfl|rfl|rfl|rfl|⟨e,rfl⟩<;>exact oD (c:=8) V5 rfl rfl
  have h3:k1≠3:=λh=>by subst h;rcases Gw hv with h|h|h|h|h|⟨e,h⟩<;>cases h;exact hK ⟨rfl,rfl⟩
  simp only[show decide (k1=3)=false by simp[h3],I7,o6,o7,o8];cases nP (decide (a.1=k1)) (decide (a.2=k2))
  .cases decide (a.1=3)<;>exact oD (c:=8) V5 rfl rfl
  .cases decide (a.1=3)<;>exact oD (c:=8) V5 rfl rfl
theorem UI(n:Int×Int)(hN:lG n.2)(ops:List (Int×Int))(hv:∀t∈ops,VT t)(hl:o9 ops=arF n.1):qo n ops sg:=by
 obtain⟨op,N⟩:=n;dsimp only at hN hl;have hr:1<=op/\op<=39:=by
  by_cases h:1<=op/\op<=39
  .exact h
  .have:arF op=-1:=by unfold arF;rw[UV h];rfl
   rw[this]at hl;simp[o9]at hl
 have hc:op=1\/op=2\/op=3\/op=4\/op=5\/op=6\/op=7\/op=8\/op=9\/op=10\/op=11\/op=12\/op=13\/op=14\/op=15\/op=16\/op=17\/op=18\/op=19\/op=20\/op=21\/op=22\/op=23\/op=24\/op=25\/op=26\/op=27\/op=28\/op=29\/op=30\/op=31\/op=32\/op=33\/op=34\/op=35\/op=36\/op=37\/op=38\/op=39:=o5;have L0:arF op=0->ops=[]:=λh=>by rw[h]at hl;simp only[o9]at hl;exact P9.1 o5
 have L1:arF op=1->∃a,ops=[a]/\VT a:=λh=>by
  rw[h]at hl;simp only[o9]at hl;match ops,hl,hv with
  |[a],_,hv=>exact⟨a,rfl,hv a x9⟩|[],hl,_=>simp at hl|a::b::r,hl,_=>simp at hl;omega
 have L2:arF op=2->∃a b,ops=[a,b]/\VT a/\VT b:=λh=>by
  rw[h]at hl;simp only[o9]at hl;match ops,hl,hv with
  |[a,b],_,hv=>exact⟨a,b,rfl,hv a x9,hv b x9⟩|[],hl,_=>simp at hl|[a],hl,_=>simp at hl|a::b::c::r,hl,_=>simp at hl;omega
 have L3:arF op=3->∃a b c,ops=[a,b,c]/\VT a/\VT b:=λh=>by
  rw[h]at hl;simp only[o9]at hl;match ops,hl,hv with
  |[a,b,c],_,hv=>exact⟨a,b,c,rfl,hv a x9,hv b x9⟩|[],hl,_=>simp at hl|[a],hl,_=>simp at hl|[a,b],hl,_=>simp at hl|a::b::c::d::r,hl,_=>simp at hl;omega
 rcases hc with rfl|rfl|rfl|rfl|rfl|rfl|rfl|rfl|rfl|rfl|rfl|rfl|rfl|rfl|rfl|rfl|rfl|rfl|rfl|rfl|rfl|rfl|rfl|rfl|rfl|rfl|rfl|rfl|rfl|rfl|rfl|rfl|rfl|rfl|rfl|rfl|rfl|rfl|rfl <;>
  first
  |(rw[L0 rfl];first|exact a1Z N sg o5|exact a0q N sg hN|exact a5d N sg|exact a1Y N sg|exact a0p N sg|exact Yu N sg|exact a2a N sg o5)
  |(obtain⟨a,rfl,ha⟩:=L1 rfl;first|exact a5e N sg o5 ha|exact WE N sg ha|exact RX N sg hN ha)
  |(obtain⟨a,b,rfl,ha,hb⟩:=L2 rfl;first|exact a1X N sg o5 ha hb|exact a0r N sg o5 ha hb|exact a0s N sg o5 ha)
  |(obtain⟨a,b,c,rfl,ha,hb⟩:=L3 rfl;exact a5c N sg ha hb)
end
end Go.GP
namespace Go.GP
open Gt
set_option maxRecDepth 100000
def XT.wf:XT->Prop
 | .l0 n=>arF n.1=0| .l1 n a=>arF n.1=1/\a.wf| .l2 n a b=>arF n.1=2/\a.wf/\b.wf| .l3 n a b c=>arF n.1=3/\a.wf/\b.wf/\c.wf
theorem a5t{n:Int×Int}{ts ts' :List XT}(h:push n ts= .inr ts')(hw:∀t∈ts,t.wf):∀t∈ts',t.wf:=by
 unfold push at h;split at h
 .cases h;intro t ht;rcases D6.1 ht with rfl|ht
  .assumption
  .exact hw t ht
 split at h
 .split at h
  .cases h;intro t ht;rcases D6.1 ht with rfl|ht
   .exact⟨by assumption,hw _ x9⟩
   .exact hw t (by simp[ht])
  .cases h
 split at h
 .split at h
  .cases h;intro t ht;rcases D6.1 ht with rfl|ht
   .exact⟨by assumption,hw _ x9,hw _ x9⟩
   .exact hw t (by simp[ht])
  .cases h
 split at h
 .split at h
  .cases h;intro t ht;rcases D6.1 ht with rfl|ht
   .exact⟨by assumption,hw _ x9,hw _ x9,hw _ x9⟩
   .exact hw t (by simp[ht])
  .cases h
 .cases h
theorem WM:∀(es:List (Int×Int)) (i:Nat) (ts ts' :List XT),qV i es ts= .inr ts' ->(∀t∈ts,t.wf)->∀t∈ts',t.wf
 |[],i,ts,ts',h,hw=>by cases h;exact hw|n::es,i,ts,ts',h,hw=>by
  unfold qV at h;cases hp:push n ts with
  |inl c=>rw[hp]at h;cases h|inr t2=>
   rw[hp]at h;simp only at h;split at h
   .cases h
   .exact WM es (i+1) t2 ts' h (a5t hp hw)
variable {e:List (Int×Int)}
theorem MH{t:XT}(h:jR e= .inr t):t.wf:=by
 unfold jR at h;split at h
 .cases h
 split at h
 .cases h
 split at h
 .cases h
 .rename_i t' hp;cases h;exact WM e 0 [] [t] hp x9 t x9
 .cases h
def Vg(n:Int×Int)(ops:List (Int×Int))(sg:O0):(Int×Int)×Int:=(sZ n ops sg).getD ((0,0),0)
def FP(sg:O0)(n:Int×Int)(ops:List (Int×Int))(i:Nat):(Int×Int)⊕(Int×Int):=if(Vg n ops sg).2=0 then .inr (Vg n ops sg).1 else .inl ((i:Int),(Vg n ops sg).2)
def wZ(sg:O0):XT->Nat->(Int×Int)⊕(Int×Int)
 | .l0 n,o=>FP sg n [] o
 | .l1 n a,o=>match wZ sg a o with
  | .inl x=> .inl x| .inr ta=>FP sg n [ta] (o+a.size)
 | .l2 n a b,o=>match wZ sg a o with
  | .inl x=> .inl x
  | .inr ta=>match wZ sg b (o+a.size)with
   | .inl x=> .inl x| .inr tb=>FP sg n [ta,tb] (o+a.size+b.size)
 | .l3 n a b c,o=>match wZ sg a o with
  | .inl x=> .inl x
  | .inr ta=>match wZ sg b (o+a.size)with
   | .inl x=> .inl x
   | .inr tb=>match wZ sg c (o+a.size+b.size)with
    | .inl x=> .inl x| .inr tc=>FP sg n [ta,tb,tc] (o+a.size+b.size+c.size)
variable {i:Nat}
theorem JO{sg:O0}{n:Int×Int}{ops:List (Int×Int)}{t:Int×Int}(hN:lG n.2)(hv:∀t∈ops,VT t)(hl:o9 ops=arF n.1)(h:FP sg n ops i= .inr t):VT t:=by
 obtain⟨r,h1,h2,h3⟩:=UI sg n hN ops hv hl;unfold FP at h;split at h
 .rename_i h0;cases h;have e:Vg n ops sg=r:=by unfold Vg;rw[h1];rfl
  rw[e]at h0 ⊢;exact h3 h0
 .cases h
section
variable (e:List (Int×Int)) (sg:O0) (z:Int×Int)
def a6c(f:(Int×Int)×List (Int×Int)×Int->Option (Out ((Int×Int)×List (Int×Int)×Int) ((Int×Int)×List (Int×Int)) ((Int×Int)×Int×Int))):Prop:=
 ∀(i:Nat) (n:Int×Int) (s ops:List (Int×Int)),e[i]? =some n->i<=100->o9 ops=arF n.1->(∀t∈ops,VT t)->s.length+ops.length<=100->
  f (z,s++ops,(i:Int))=some (match FP sg n ops i with| .inl x=> .rt ((0,0),x)| .inr t=> .nx (z,s++[t],((i+1:Nat):Int)))
theorem a0W{f:(Int×Int)×List (Int×Int)×Int->Option (Out ((Int×Int)×List (Int×Int)×Int) ((Int×Int)×List (Int×Int)) ((Int×Int)×Int×Int))}
  (he:e.length<=48) (hI:∀n∈e,lG n.2) (hs:a6c e sg z f):∀(t:XT),t.wf->∀(pre suf s:List (Int×Int)) (k:Nat),e=pre++t.post++suf->s.length<=pre.length->
  jE f (k+t.size) (z,s,(pre.length:Int))=(match wZ sg t pre.length with| .inl x=>some (.inr ((0,0),x))| .inr r=>jE f k (z,s++[r],((pre.length+t.size:Nat):Int)))/\∀r,wZ sg t pre.length= .inr r->VT r:=by
 intro t;have step:∀(i k:Nat) (n:Int×Int) (s ops:List (Int×Int)),e[i]? =some n->o9 ops=arF n.1->(∀t∈ops,VT t)->s.length+ops.length<=100->
   jE f (k+1) (z,s++ops,(i:Int))=(match FP sg n ops i with| .inl x=>some (.inr ((0,0),x))| .inr r=>jE f k (z,s++[r],((i+1:Nat):Int))):=by
  intro i k n s ops h1 h2 h3 h4;rw[jE,hs i n s ops h1 (by have:=(ax.1 h1).1;omega) h2 h3 h4];cases FP sg n ops i<;>rfl
 have getn:∀(pre suf:List (Int×Int)) (n:Int×Int),e=pre++[n]++suf->e[pre.length]? =some n:=by intro pre suf n h;rw[h,E8,H8 o5,fU];rfl
 have mem:∀(i:Nat) (n:Int×Int),e[i]? =some n->lG n.2:=λi n h=>hI n (pg h);induction t with
 |l0 n=>
  intro hw pre suf s k hd hl;have hn:=getn pre suf n hd;have hlen:pre.length<e.length:=(ax.1 hn).1;have hz:o9 ([]:List (Int×Int))=arF n.1:=by rw[show arF n.1=0 from hw];rfl
  have h:=step pre.length k n s [] hn hz x9 E5;rw[F7]at h;exact⟨h,λr hr=>JO (mem _ n hn) x9 hz hr⟩
 |l1 n a iha=>
  intro hw pre suf s k hd hl;simp only[XT.post,E8]at hd;have hpa:(pre++a.post).length=pre.length+a.size:=by simp[XT.post_len]
  have hn:=getn (pre++a.post) suf n (by simpa using hd);rw[hpa]at hn;have hlen:=(ax.1 hn).1;obtain⟨i1,i2⟩:=iha hw.2 pre ([n]++suf) s (k+1) (by simpa using hd) hl;simp only[XT.size,wZ];rw[show k+(a.size+1)=(k+1)+a.size by omega,i1];cases ht:wZ sg a pre.length with
  |inl x=>exact⟨rfl,λr hr=>by cases hr⟩|inr ta=>
   have hz:o9 [ta]=arF n.1:=by rw[show arF n.1=1 from hw.1];rfl
   have hv:∀t∈[ta],VT t:=by simpa using i2 ta ht
   exact⟨step _ k n s [ta] hn hz hv E5,λr hr=>JO (mem _ n hn) hv hz hr⟩
 |l2 n a b iha ihb=>
  intro hw pre suf s k hd hl;simp only[XT.post,E8]at hd;have hpa:(pre++a.post).length=pre.length+a.size:=by simp[XT.post_len]
  have hpb:(pre++a.post++b.post).length=pre.length+a.size+b.size:=by simp[XT.post_len];omega
  have hn:=getn (pre++a.post++b.post) suf n (by simpa using hd);rw[hpb]at hn;have hlen:=(ax.1 hn).1;obtain⟨i1,i2⟩:=iha hw.2.1 pre (b.post++[n]++suf) s (k+1+b.size) (by simpa using hd) hl;simp only[XT.size,wZ];rw[show k+(a.size+b.size+1)=(k+1+b.size)+a.size by omega,i1];cases ht:wZ sg a pre.length with
  |inl x=>exact⟨rfl,λr hr=>by cases hr⟩|inr ta=>
   have hsa:=a.size_pos;obtain⟨j1,j2⟩:=ihb hw.2.2 (pre++a.post) ([n]++suf) (s++[ta]) (k+1) (by simpa using hd) (by simp[XT.post_len];omega);rw[hpa]at j1 j2;simp only;rw[j1];cases hu:wZ sg b (pre.length+a.size)with
   |inl x=>exact⟨rfl,λr hr=>by cases hr⟩|inr tb=>
    have hz:o9 [ta,tb]=arF n.1:=by rw[show arF n.1=2 from hw.1];rfl
    have hv:∀t∈[ta,tb],VT t:=by simpa using ⟨i2 ta ht,j2 tb hu⟩
    have:=step _ k n s [ta,tb] hn hz hv E5;simp only[E8,X3,I5];rw[show pre.length+(a.size+b.size+1)=pre.length+a.size+b.size+1 by omega];exact⟨this,λr hr=>JO (mem _ n hn) hv hz hr⟩
 |l3 n a b c iha ihb ihc=>
  intro hw pre suf s k hd hl;simp only[XT.post,E8]at hd;have hpa:(pre++a.post).length=pre.length+a.size:=by simp[XT.post_len]
  have hpb:(pre++a.post++b.post).length=pre.length+a.size+b.size:=by simp[XT.post_len];omega
  have hpc:(pre++a.post++b.post++c.post).length=pre.length+a.size+b.size+c.size:=by simp[XT.post_len];omega
  have hn:=getn (pre++a.post++b.post++c.post) suf n (by simpa using hd);rw[hpc]at hn;have hlen:=(ax.1 hn).1;obtain⟨i1,i2⟩:=iha hw.2.1 pre (b.post++(c.post++([n]++suf))) s (k+1+c.size+b.size) (by simpa using hd) hl;simp only[XT.size,wZ];rw[show k+(a.size+b.size+c.size+1)=(k+1+c.size+b.size)+a.size by omega,i1];have hsa:=a.size_pos;have hsb:=b.size_pos;cases ht:wZ sg a pre.length with
  |inl x=>exact⟨rfl,λr hr=>by cases hr⟩|inr ta=>
   obtain⟨j1,j2⟩:=ihb hw.2.2.1 (pre++a.post) (c.post++([n]++suf)) (s++[ta]) (k+1+c.size) (by simpa using hd) (by simp[XT.post_len];omega);rw[hpa]at j1 j2;simp only;rw[j1];cases hu:wZ sg b (pre.length+a.size)with
   |inl x=>exact⟨rfl,λr hr=>by cases hr⟩|inr tb=>
    obtain⟨q1,q2⟩:=ihc hw.2.2.2 (pre++a.post++b.post) ([n]++suf) (s++[ta]++[tb]) (k+1) (by simpa using hd) (by simp[XT.post_len];omega);rw[hpb]at q1 q2;simp only;rw[q1];cases hc:wZ sg c (pre.length+a.size+b.size)with
    |inl x=>exact⟨rfl,λr hr=>by cases hr⟩|inr tc=>
     have hz:o9 [ta,tb,tc]=arF n.1:=by rw[show arF n.1=3 from hw.1];rfl
     have hv:∀t∈[ta,tb,tc],VT t:=by simpa using ⟨i2 ta ht,j2 tb hu,q2 tc hc⟩
     have:=step _ k n s [ta,tb,tc] hn hz hv E5;simp only[E8,X3,I5];rw[show pre.length+(a.size+b.size+c.size+1)=pre.length+a.size+b.size+c.size+1 by omega];exact⟨this,λr hr=>JO (mem _ n hn) hv hz hr⟩
end
def rq(e:List (Int×Int))(sg:O0):(Int×Int)×Int×Int:=match jR e with
 | .inl x=>((0,0),x)
 | .inr t=>match wZ sg t 0 with
  | .inl x=>((0,0),x)| .inr r=>(r,0,0)
variable {α:Type}
theorem Rk(s ops:List α)(k:Int)(hk:o9 ops=k)(h:s.length+ops.length<=100):
  Y1 .i64 (o9 (s++ops)) k=(s.length:Int)/\jK (s.length:Int) (o9 (s++ops)) (o9 (s++ops))=true/\iP (s++ops) (dB (s.length:Int)) (dB (o9 (s++ops)))=ops
  /\jK 0 (s.length:Int) (o9 (s++ops))=true/\iP (s++ops) (dB 0) (dB (s.length:Int))=s:=by
 subst hk;refine⟨?_,?_,?_,?_,?_⟩
 .rw[fO (by unfold lG;simp[o9];omega)];simp[o9]
 .simp[jK,o9];omega
 .show((s++ops).take (((s++ops).length:Nat):Int).toNat).drop s.length=ops;rw[U7,bZ,List.drop_left]
 .simp[jK,o9];omega
 .simp[iP,dB]
theorem Rj{sg:O0}{f:(Int×Int)×List (Int×Int)×Int->Option (Out ((Int×Int)×List (Int×Int)×Int) ((Int×Int)×List (Int×Int)) ((Int×Int)×Int×Int))}
  (hI:∀n∈e,lG n.2) (hs:a6c e sg (0,0) f) (hend:∀s,f ((0,0),s,(e.length:Int))=some (.ex ((0,0),s))) (hcode:∀x,jR e= .inl x->x.2≠0):
  l7 (G8 (C9 (rf e).2.2 0)) (some ((((0:Int),(0:Int)),(rf e).2):(Int×Int)×Int×Int)) (l9 (U2 f (((0:Int),(0:Int)),([]:List (Int×Int)),(0:Int))) λ(o:(Int×Int)×List (Int×Int)⊕(Int×Int)×Int×Int)=>
   X9 o (λ(y:(Int×Int)×List (Int×Int))=>l9 (L6 y.2 0) λ(x:Int×Int)=>l9 (eH y.2 (dB 0)) λ(x:Int×Int)=>some (x,0,0)) λ(r:(Int×Int)×Int×Int)=>some r)=some (rq e sg):=by
 unfold rf rq;cases h:jR e with
 |inl x=>simp only[N9 (hcode x h),Z7,o7]|inr t=>
  obtain⟨hp,h48⟩:=sK h;have hw:=MH h;obtain⟨l1,_⟩:=a0W e sg (0,0) h48 hI hs t hw [] [] [] (gy -t.size) (by simpa using hp) x9;have hsz:e.length=t.size:=by rw[hp,XT.post_len]
  have hlo:U2 f (((0:Int),(0:Int)),([]:List (Int×Int)),(0:Int))=jE f (gy -t.size+t.size) ((0,0),[],(([]:List (Int×Int)).length:Int)):=by unfold U2;rw[Nat.sub_add_cancel (by unfold gy;omega)];rfl
  simp only[Z9 (rfl:(0:Int)=0),I7,o6];rw[hlo,l1];simp only[dH,bP];cases wZ sg t 0 with
  |inl x=>rfl|inr r=>obtain⟨k,hk⟩:∃k,gy -t.size=k+1:=⟨gy -t.size -1,by unfold gy;omega⟩;simp only[I5];rw[hk,jE,←hsz,hend];rfl
theorem BJ{x:Int×Int}(h:jR e= .inl x):x.2≠0:=by
 have key:∀(es:List (Int×Int)) (i:Nat) (ts:List XT) (x:Int×Int),qV i es ts= .inl x->x.2≠0:=by
  intro es;induction es with
  |nil=>intro i ts x h;cases h|cons n es ih=>
   intro i ts x h;unfold qV at h;cases hp:push n ts with
   |inl c=>
    rw[hp]at h;cases h;show c≠0;unfold push at hp
    (repeat' split at hp)<;>first|(cases hp;done)|(cases hp;decide)
   |inr t2=>
    rw[hp]at h;simp only at h;split at h
    .cases h;show(16:Int)≠0;decide
    .exact ih _ _ _ h
 unfold jR at h;split at h
 .cases h;show(4:Int)≠0;decide
 split at h
 .cases h;show(5:Int)≠0;decide
 split at h
 .rename_i y hp;cases h;exact key _ _ _ _ hp
 .cases h
 .cases h;show(4:Int)≠0;decide
theorem YG(sg:O0)(hI:∀n∈e,lG n.2):zg e sg=some (rq e sg):=by
 unfold zg;rw[Cf,o8];refine Rj hI (λi n s ops hn hi2 hl hv hlen=>?_) (λs=>?_) (λx h=>BJ h)
 .obtain⟨r,h1,h2,h3⟩:=UI sg n (hI n (pg hn)) ops hv hl;obtain⟨v1,v2,v3,v4,v5⟩:=Rk s ops _ hl hlen;have e' :Vg n ops sg=r:=by unfold Vg;rw[h1];rfl
  have hi:=(ax.1 hn).1;simp only[O7 hn,o7,J9,hn,o8,YH,v1,v2,v3,v4,v5,h1];unfold FP;rw[e'];by_cases h0:r.2=0
  .rw[if_pos h0,Z9 h0];simp only[I7,o6];rw[kK _ o5,o8,dF o5]
  .rw[if_neg h0,N9 h0];rfl
 .rw[O6];rfl
theorem a0V(sg:O0)(hI:∀n∈e,lG n.2):Bg e sg=some (rq e sg):=by
 unfold Bg;rw[KH,o8];refine Rj hI (λi n s ops hn hi2 hl hv hlen=>?_) (λs=>?_) (λx h=>BJ h)
 .obtain⟨r,h1,h2,h3⟩:=UI sg n (hI n (pg hn)) ops hv hl;obtain⟨v1,v2,v3,v4,v5⟩:=Rk s ops _ hl hlen;have e' :Vg n ops sg=r:=by unfold Vg;rw[h1];rfl
  have hi:=(ax.1 hn).1;simp only[O7 hn,o7,J9,hn,o8,a1k,v1,v2,v3,v4,v5];unfold FP;rw[e'];unfold EN at h2;have fin:ak n ops sg=some r->(l9 (ak n ops sg) λ(x_3:J4×Int)=>l7 (G8 (C9 x_3.2 0)) (some (Out.rt ((((0:Int),(0:Int)),((i:Int),x_3.2)):(Int×Int)×Int×Int)))
    (l9 (bK s [x_3.1]) λ(x_4:List J4)=>some (Out.nx (((0:Int),(0:Int)),x_4,F6 .i64 (i:Int) 1))))=
    some (match if r.2=0 then(.inr r.1:(Int×Int)⊕(Int×Int))else .inl ((i:Int),r.2)with| .inl x=>Out.rt ((0,0),x)| .inr t=>(Out.nx ((0,0),s++[t],((i+1:Nat):Int)):Out ((Int×Int)×List (Int×Int)×Int) ((Int×Int)×List (Int×Int)) ((Int×Int)×Int×Int))):=by
   intro hr;rw[hr,o8];by_cases h0:r.2=0
   .rw[if_pos h0,Z9 h0];simp only[I7,o6];rw[kK _ o5,o8,dF o5]
   .rw[if_neg h0,N9 h0];rfl
  cases hz:C9 n.2 0
  .rw[hz]at h2;simp only[Z7,o7]at h2 ⊢;cases hu:aJ n.1 with
   |none=>rw[hu]at h2;cases h2|some u=>
    rw[hu]at h2;simp only[o8]at h2 ⊢;cases u
    .simp only[Z7,o7]at h2 ⊢;cases h2;rfl
    .exact fin h2
  .rw[hz]at h2;exact fin h2
 .rw[O6];rfl
section
variable {α β σ ε ρ:Type}
theorem xE(l:List α)(G:β->α->β)(mk:β->Int->σ)(fin:β->ε)(Inv:Nat->β->Prop){f:σ->Option (σ⊕ε)}{b:β}(hl:l.length<=1000000)(h0:Inv 0 b)
  (hin:∀(i:Nat) (a:α) (b:β),l[i]? =some a->i<=1000000->Inv i b->f (mk b (i:Int))=some (.inl (mk (G b a) ((i+1:Nat):Int)))/\Inv (i+1) (G b a))
  (hend:∀b,Inv l.length b->f (mk b (l.length:Int))=some (.inr (fin b))):
  dV f (mk b 0)=some (fin (l.foldl G b))/\Inv l.length (l.foldl G b):=by
 have key:∀(n i:Nat) (b:β),i<=l.length->l.length -i<n->Inv i b->ul f n (mk b (i:Int))=some (fin ((l.drop i).foldl G b))/\Inv l.length ((l.drop i).foldl G b):=by
  intro n;induction n with
  |zero=>intro i b _ h _;omega|succ n ih=>
   intro i b hi hn hI;unfold ul;by_cases h:i<l.length
   .have e:=lS h;obtain⟨h1,h2⟩:=hin i _ b e o5 hI;rw[h1,bJ h];exact ih (i+1) _ o5 o5 h2
   .have:i=l.length:=o5;subst this;rw[hend b hI,xm];exact⟨rfl,hI⟩
 have:=key gy 0 b o5 (by unfold gy;omega) h0;exact this
theorem nI{γ:Type}(l:List α)(G:β->α->β)(mk:β->Int->σ)(fin:β->ε)(Inv:Nat->β->Prop)(b:β){f:σ->Option (σ⊕ε)}{K:ε->Option γ}{r:Option γ}(hl:l.length<=1000000)(h0:Inv 0 b)
  (hin:∀(i:Nat) (a:α) (b:β),l[i]? =some a->i<=1000000->Inv i b->f (mk b (i:Int))=some (.inl (mk (G b a) ((i+1:Nat):Int)))/\Inv (i+1) (G b a))
  (hend:∀b,Inv l.length b->f (mk b (l.length:Int))=some (.inr (fin b))) (hk:Inv l.length (l.foldl G b)->K (fin (l.foldl G b))=r):l9 (dV f (mk b 0)) K=r:=by
 obtain⟨h1,h2⟩:=xE l G mk fin Inv hl h0 hin hend;rw[h1];exact hk h2
def gB(G:β->α->β⊕ρ):List α->β->β⊕ρ
 |[],b=> .inl b
 |a::l,b=>match G b a with| .inl b' =>gB G l b'| .inr r=> .inr r
theorem uX(l:List α)(G:β->α->β⊕ρ)(mk:β->Int->σ)(fin:β->ε)(Inv:Nat->β->Prop){f:σ->Option (Out σ ε ρ)}{b:β}(hl:l.length<=1000000)(h0:Inv 0 b)
  (hin:∀(i:Nat) (a:α) (b:β),l[i]? =some a->i<=1000000->Inv i b->f (mk b (i:Int))=some (match G b a with| .inl b' => .nx (mk b' ((i+1:Nat):Int))| .inr r=> .rt r)/\∀b',G b a= .inl b' ->Inv (i+1) b')
  (hend:∀b,Inv l.length b->f (mk b (l.length:Int))=some (.ex (fin b))):
  U2 f (mk b 0)=some (match gB G l b with| .inl b' => .inl (fin b')| .inr r=> .inr r)/\∀b',gB G l b= .inl b' ->Inv l.length b' :=by
 have key:∀(n i:Nat) (b:β),i<=l.length->l.length -i<n->Inv i b->jE f n (mk b (i:Int))=some (match gB G (l.drop i) b with| .inl b' => .inl (fin b')| .inr r=> .inr r)/\∀b',gB G (l.drop i) b= .inl b' ->Inv l.length b' :=by
  intro n;induction n with
  |zero=>intro i b _ h _;omega|succ n ih=>
   intro i b hi hn hI;unfold jE;by_cases h:i<l.length
   .have e:=lS h;obtain⟨h1,h2⟩:=hin i _ b e o5 hI;rw[h1,bJ h];unfold gB;cases hg:G b l[i]with
    |inr r=>exact⟨rfl,λb' hb=>by cases hb⟩|inl b' =>exact ih (i+1) _ o5 o5 (h2 b' hg)
   .have:i=l.length:=o5;subst this;rw[hend b hI,xm];exact⟨rfl,λb' hb=>by cases hb;exact hI⟩
 have:=key gy 0 b o5 (by unfold gy;omega) h0;exact this
theorem Qa{γ:Type}(l:List α)(G:β->α->β⊕ρ)(mk:β->Int->σ)(fin:β->ε)(Inv:Nat->β->Prop)(b:β){f:σ->Option (Out σ ε ρ)}{K:ε⊕ρ->Option γ}{r:Option γ}(hl:l.length<=1000000)(h0:Inv 0 b)
  (hin:∀(i:Nat) (a:α) (b:β),l[i]? =some a->i<=1000000->Inv i b->f (mk b (i:Int))=some (match G b a with| .inl b' => .nx (mk b' ((i+1:Nat):Int))| .inr r=> .rt r)/\∀b',G b a= .inl b' ->Inv (i+1) b')
  (hend:∀b,Inv l.length b->f (mk b (l.length:Int))=some (.ex (fin b)))
  (hk:(∀b',gB G l b= .inl b' ->Inv l.length b')->K (match gB G l b with| .inl b' => .inl (fin b')| .inr r=> .inr r)=r):l9 (U2 f (mk b 0)) K=r:=by
 obtain⟨h1,h2⟩:=uX l G mk fin Inv hl h0 hin hend;rw[h1];exact hk h2
end
def MF(c:UInt8):Bool:=decide (32<=c.toNat)&&decide (c.toNat<=126)&&decide (c.toNat≠34)
def Xo(s:List UInt8):Bool:=decide (s.length<=64)&&s.all MF
theorem ZT(c:UInt8):∀s:List UInt8,decide (0<=Lib.indexByte s c)=s.any λx=>decide (x.toNat=c.toNat)
 |[]=>by simp[Lib.indexByte]|b::l=>by
  have ih:=ZT c l;have hge:=Lib.indexByte_ge l c;rw[qx,←ih];have e:Lib.indexByte (b::l) c=if b=c then 0 else if Lib.indexByte l c=-1 then -1 else Lib.indexByte l c+1:=by rw[Lib.indexByte];simp
  rw[e];by_cases h:b=c
  .subst h;simp
  .have h2:b.toNat≠c.toNat:=λhh=>h (UInt8.toNat_inj.1 hh);rw[if_neg h,show decide (b.toNat=c.toNat)=false by simp[h2],kC];by_cases h3:Lib.indexByte l c=-1
   .rw[h3];rfl
   .rw[if_neg h3];simp;omega
theorem Xn(c:UInt8):MF c=(!H6 (c.toNat:Int) 32&&!H6 126 (c.toNat:Int)&&!C9 (c.toNat:Int) 34):=by unfold MF H6 C9;rw[ji];simp;omega
theorem Oj(s:List UInt8)(p:UInt8->Bool):(∀(i:Nat) (a:UInt8),s[i]? =some a->p a=true)↔s.all p=true:=by rw[fK];exact⟨λh x hx=>by obtain⟨i,hi,rfl⟩:=bD hx;exact h i _ (lS hi),λh i a hi=>h a (pg hi)⟩
theorem UQ{s:List UInt8}(h:s.length<=1000000):uN s=some (Xo s):=by
 unfold uN;refine O9 (xF s (λi a=>MF a) false PUnit.unit _ o5 (λi x hx=>?_) ?_) ?_
 rotate_left 2
 .have h5:P7 (o9 s) 64=decide (s.length<=64):=by simp only[P7,o9];congr 1;simp;omega
  unfold Xo;by_cases hw:s.all MF=true
  .rw[if_pos ((Oj s MF).2 hw),hw,o8,U3,h5,Bool.and_true]
  .rw[if_neg (λh=>hw ((Oj s MF).1 h))];simp only[iT]at hw;rw[hw,Bool.and_false];rfl
 .have hi:=(ax.1 hx).1;simp only[O7 hx,o7,OB,hx,bG,o8];rw[dF o5,Xn];cases H6 (x.toNat:Int) 32<;>cases H6 126 (x.toNat:Int)<;>cases C9 (x.toNat:Int) 34<;>rfl
 .rw[O6];rfl
theorem Rn{s:List UInt8}(h:s.length<=1000000):uI s=some (Xo s):=by
 unfold uI;have h5:H6 64 (o9 s)= !decide (s.length<=64):=by simp only[H6,o9];rw[←decide_not];congr 1;simp;omega
 rw[h5,show qN s [34]=some (s.any λx=>decide (x.toNat=(34:UInt8).toNat))from congrArg some (ZT 34 s)];unfold Xo;cases decide (s.length<=64)
 .rfl
 simp only[gG,o6,o8,kD];cases h34:s.any λx=>decide (x.toNat=(34:UInt8).toNat)
 case true=>
  obtain⟨x,hx,hx2⟩:=jU.1 h34;simp only[decide_eq_true_eq]at hx2;have:s.all MF=false:=by rw[List.all_eq_false];refine⟨x,hx,?_⟩;unfold MF;rw[hx2];decide
  rw[this];rfl
 simp only[o6];refine O9 (xF s (λi a=>MF a) false PUnit.unit _ o5 (λi x hx=>?_) ?_) ?_
 rotate_left 2
 .by_cases hw:s.all MF=true
  .rw[if_pos ((Oj s MF).2 hw),hw];rfl
  .rw[if_neg (λh=>hw ((Oj s MF).1 h))];simp only[iT]at hw;rw[hw];rfl
 .have hi:=(ax.1 hx).1;have hne:C9 (x.toNat:Int) 34=false:=by
   have:=(iC.1 h34) x (pg hx);simp only[decide_eq_true_eq]at this;exact N9 (by have h:(34:UInt8).toNat=34:=rfl;omega)
  simp only[O7 hx,o7,OB,hx,bG,o8];rw[dF o5,Xn,hne];cases H6 (x.toNat:Int) 32<;>cases H6 126 (x.toNat:Int)<;>rfl
 .rw[O6];rfl
def IE(e:List (Int×Int))(sg:O0)(t:Int×Int):Int:=l7 (C9 (rq e sg).2.2 0) (l7 (nP (C9 (rq e sg).1.1 t.1) (C9 (rq e sg).1.2 t.2)) 0 8) (rq e sg).2.2
theorem Jv(sg:O0)(t:Int×Int)(hI:∀n∈e,lG n.2):qP e sg t=some (IE e sg t):=by
 unfold qP IE;rw[a0V sg hI,o8];cases C9 (rq e sg).2.2 0
 .rfl
 simp only[I7,o6,o7];cases nP (C9 (rq e sg).1.1 t.1) (C9 (rq e sg).1.2 t.2)<;>rfl
theorem JA(sg:O0)(t:Int×Int)(hI:∀n∈e,lG n.2):og e sg t=some (IE e sg t):=by
 unfold og IE;rw[YG sg hI,o8];cases C9 (rq e sg).2.2 0
 .rfl
 simp only[I7,o6,o7];cases nP (C9 (rq e sg).1.1 t.1) (C9 (rq e sg).1.2 t.2)<;>rfl
def XC(r:gp):Prop:=r.1.length<=1000000/\r.2.2.2.2.2.2.2.length<=1000000/\(∀n∈r.2.2.2.2.2.1,lG n.2)/\(∀n∈r.2.2.2.2.2.2.1,lG n.2)
def NW(rs:List gp)(d:Int):Nat:=rs.countP λo=>C9 o.2.1 d
def Uw(r:gp)(sg:O0)(t:Int×Int):Int:=
 l7 (H6 0 (o9 r.2.2.2.2.2.1)) (l7 (C9 (IE r.2.2.2.2.2.1 sg (1,0)) 0) (IE r.2.2.2.2.2.2.1 sg t) (IE r.2.2.2.2.2.1 sg (1,0))) (IE r.2.2.2.2.2.2.1 sg t)
def KA(s:J3)(sg:O0)(k:Nat)(r:gp):Int:=
 l7 (zW r.1) (l7 ((s.2.2.2.2.take k).any λx=>seq x.1 r.1) 7 (match L6 s.2.2.2.1 r.2.1 with
  |none=>6|some d=>l7 (l7 (C9 r.2.2.1 (-1)) false (l7 (H6 r.2.2.1 0) true (l7 (P7 k r.2.2.1) true (match L6 s.2.2.2.2 r.2.2.1 with|some q=>G8 (C9 q.2.1 r.2.1)|none=>true)))) 9
   (l7 (H6 r.2.2.2.1 0) 3 (l7 (H6 9 r.2.2.2.1) 3 (l7 (CP r.2.2.2.2.1) (l7 (C9 r.2.2.2.2.1.1 r.2.2.2.2.1.2) 3
    (l7 (P7 8 (NW (s.2.2.2.2.take k) r.2.1)) 4 (l7 (Xo r.2.2.2.2.2.2.2) (Uw r sg d.2) 2))) 3))))) 2
theorem JH{l:List α}{i:Int}(h:P7 0 i=false\/H6 i (o9 l)=false):L6 l i=none:=by
 unfold L6
 split
 .rename_i h0;rcases h with h|h
  .rw[PU]at h;omega
  .rw[uk]at h;simp only[o9]at h;exact gI o5
 .rfl
variable {s:J3}{r:gp}{k:Nat}
theorem Un(sg:O0)(hr:s.2.2.2.2[k]? =some r)(hl:s.2.2.2.2.length<=1000)(h:XC r):xX s (k:Int) sg=some (KA s sg k r):=by
 have hk:=(ax.1 hr).1;have hcnt:NW (s.2.2.2.2.take k) r.2.1<=1000:=by have:=List.countP_le_length (l:=s.2.2.2.2.take k) (p:=λ(o:gp)=>C9 o.2.1 r.2.1);unfold NW;simp at this;omega
 unfold xX;rw[J9,hr,o8,vN o5,o8];refine O9 (xE (s.2.2.2.2.take k) (λ(c:Nat) (o:gp)=>l7 (C9 o.2.1 r.2.1) (c+1) c) (λc i=>((c:Int),i)) (λc=>(c:Int)) (λi c=>c<=i) (b:=0) E5 o5 (λi a c ha hi hc=>?_) (λc hc=>?_)).1 ?_
 rotate_left 2
 .have hf:∀(l:List gp) (c:Nat),l.foldl (λ(c:Nat) (o:gp)=>l7 (C9 o.2.1 r.2.1) (c+1) c) c=c+NW l r.2.1:=by
   intro l;induction l with
   |nil=>intro c;rfl|cons a l ih=>intro c;rw[Y0,ih];unfold NW;rw[List.countP_cons];cases C9 a.2.1 r.2.1<;>simp<;>omega
  rw[hf,bP,o8,nU h.1,o8,o8,Yj _ E5,o8];unfold KA;cases zW r.1
  .rfl
  simp only[I7,o6,o7,o8];cases (s.2.2.2.2.take k).any λx=>seq x.1 r.1
  case true=>rfl
  simp only[o6];rw[yV r.2.1 0,JC (o9 s.2.2.2.1) r.2.1];cases h0:P7 0 r.2.1
  .rw[JH (.inl h0)];rfl
  cases h1:H6 r.2.1 (o9 s.2.2.2.1)
  .rw[JH (.inr h1)];rfl
  obtain⟨d,hd,_⟩:=pO (qw.1 h0) (sV.1 h1);rw[hd];simp only[gG,o6,o8,Rn h.2.1];have hpar:(l7 (G8 (C9 r.2.2.1 (-1))) (l7 (H6 r.2.2.1 0) (some true) (l7 (P7 (k:Int) r.2.2.1) (some true) (l9 (L6 s.2.2.2.2 r.2.2.1) λ(x_6:gp)=>some (G8 (C9 x_6.2.1 r.2.1))))) (some false))=
    some (l7 (C9 r.2.2.1 (-1)) false (l7 (H6 r.2.2.1 0) true (l7 (P7 k r.2.2.1) true (match L6 s.2.2.2.2 r.2.2.1 with|some q=>G8 (C9 q.2.1 r.2.1)|none=>true)))):=by
   cases C9 r.2.2.1 (-1)
   case true=>rfl
   simp only[Z7,o7,o6];cases hp0:H6 r.2.2.1 0
   case true=>rfl
   cases hp1:P7 (k:Int) r.2.2.1
   case true=>rfl
   rw[uk]at hp0;rw[PU]at hp1;obtain⟨q,hq,_⟩:=pO (l:=s.2.2.2.2) hp0 (by simp only[o9];omega);rw[hq];rfl
  rw[hpar,o8];cases (l7 (C9 r.2.2.1 (-1)) false (l7 (H6 r.2.2.1 0) true (l7 (P7 k r.2.2.1) true (match L6 s.2.2.2.2 r.2.2.1 with|some q=>G8 (C9 q.2.1 r.2.1)|none=>true))))
  case true=>rfl
  simp only[o6];cases H6 r.2.2.2.1 0
  case true=>rfl
  simp only[o6,o8];cases H6 9 r.2.2.2.1
  case true=>rfl
  simp only[o6];have hval:∀(A B:Option (gp⊕Int)),l7 (H6 r.2.2.2.2.1.1 0) A (l7 (P7 r.2.2.2.2.1.2 r.2.2.2.2.1.1) A (l7 (H6 109573 r.2.2.2.2.1.2) A B))=l7 (CP r.2.2.2.2.1) (l7 (C9 r.2.2.2.2.1.1 r.2.2.2.2.1.2) A B) A:=by
   intro A B;unfold CP;by_cases v0:r.2.2.2.2.1.1<(0:Int)
   .rw[bn v0,aW (show r.2.2.2.2.1.1<(0:Int)from v0)];rfl
   rw[au (qL.1 v0),ai (qL.1 v0)];by_cases v1:(r.2.2.2.2.1.2:Int)<=r.2.2.2.2.1.1
   .rw[ai v1];by_cases v2:(r.2.2.2.2.1.1:Int)<=r.2.2.2.2.1.2
    .rw[ai v2,Z9 (Int.le_antisymm v2 v1)];cases P7 r.2.2.2.2.1.2 109573<;>rfl
    .rw[aW (qK.1 v2)];rfl
   .have v1' :=qK.1 v1;rw[aW v1',ai (Int.le_of_lt v1'),N9 (λhh=>by rw[hh]at v1';exact Int.lt_irrefl _ v1'),yV];cases P7 r.2.2.2.2.1.2 109573<;>rfl
  rw[hval];cases CP r.2.2.2.2.1
  .rfl
  cases C9 r.2.2.2.2.1.1 r.2.2.2.2.1.2
  case true=>rfl
  simp only[o7,o6];cases P7 8 ((NW (s.2.2.2.2.take k) r.2.1:Nat):Int)
  case true=>rfl
  cases Xo r.2.2.2.2.2.2.2
  .rfl
  simp only[I7,o6,o7,o8,U3,Uw,hd,Jv sg _ h.2.2.1,Jv sg _ h.2.2.2];cases H6 0 (o9 r.2.2.2.2.2.1)
  .rfl
  simp only[o7];cases C9 (IE r.2.2.2.2.2.1 sg (1,0)) 0<;>rfl
 .have hc' :c<=1000000:=o5;obtain⟨ha1,ha2⟩:=KI ha;simp only[O7 ha,o7,J9,ha,o8];rw[dF (show i<=9000000000000000000 by omega),dF (show c<=9000000000000000000 by omega)];cases C9 a.2.1 r.2.1
  .exact⟨rfl,by show c<=i+1;omega⟩
  .exact⟨rfl,by show c+1<=i+1;omega⟩
 .simp only[O6];rfl
theorem a2N(s:J3)(d:Int):Ak s d=some (l7 (P7 0 d) (H6 d (o9 s.2.2.2.1)) false):=by unfold Ak;cases P7 0 d<;>rfl
theorem Tc(r:gp):∀(l:List gp) (c:Nat),gB (λ(c:Nat) (o:gp)=>l7 (seq o.1 r.1) (.inr (7:Int)) (.inl (l7 (C9 o.2.1 r.2.1) (c+1) c))) l c=l7 (l.any λx=>seq x.1 r.1) (.inr 7) (.inl (c+NW l r.2.1))
 |[],c=>rfl|a::l,c=>by
  unfold gB;rw[qx];cases seq a.1 r.1
  case true=>rfl
  simp only[o6,kC];rw[Tc r l];unfold NW;rw[List.countP_cons];cases C9 a.2.1 r.2.1
  .simp only[o6,ay,if_false,aQ]
  .simp only[o7,if_true];rw[show c+1+List.countP (λo=>C9 o.2.1 r.2.1) l=c+(List.countP (λo=>C9 o.2.1 r.2.1) l+1) by omega]
variable {l:dL}
theorem Sj(hL:Jr l)(hs:l.2.2[i]? =some s)(hr:s.2.2.2.2[k]? =some r)(h:XC r):uP l (i:Int) (k:Int)=some (KA s (Su l s) k r):=by
 have hk:=(ax.1 hr).1;have hl:=(hL s (pg hs)).2.2.2;have hcnt:NW (s.2.2.2.2.take k) r.2.1<=1000:=by have:=List.countP_le_length (l:=s.2.2.2.2.take k) (p:=λ(o:gp)=>C9 o.2.1 r.2.1);unfold NW;simp at this;omega
 unfold uP KA;rw[J9,hs,o8,J9,hr,o8,kF h.1,o8];cases zW r.1
 .rfl
 simp only[I7,o6,o7];refine O9 (uX (s.2.2.2.2.take k) (λ(c:Nat) (o:gp)=>l7 (seq o.1 r.1) (.inr (7:Int)) (.inl (l7 (C9 o.2.1 r.2.1) (c+1) c))) (λc i=>((c:Int),i)) (λc=>(c:Int)) (λi c=>c<=i) (b:=0) E5 o5 (λj a c ha hi hc=>?_) (λc hc=>?_)).1 ?_
 rotate_left 2
 .rw[Tc];cases (s.2.2.2.2.take k).any λx=>seq x.1 r.1
  case true=>rfl
  simp only[o6,bP,o8,U3];rw[yV r.2.1 0,JC (o9 s.2.2.2.1) r.2.1];cases h0:P7 0 r.2.1
  .rw[JH (.inl h0)];rfl
  cases h1:H6 r.2.1 (o9 s.2.2.2.1)
  .rw[JH (.inr h1)];rfl
  obtain⟨d,hd,_⟩:=pO (qw.1 h0) (sV.1 h1);rw[hd];simp only[gG,o6,o8,U3];have hpar:(l7 (G8 (C9 r.2.2.1 (-1))) (l7 (H6 r.2.2.1 0) (some (Sum.inr (9:Int))) (l7 (P7 (k:Int) r.2.2.1) (some (.inr 9)) (l9 (L6 s.2.2.2.2 r.2.2.1) λ(x:gp)=>l7 (G8 (C9 x.2.1 r.2.1)) (some (.inr 9)) (some (.inl PUnit.unit))))) (some (.inl PUnit.unit)))=
    some (l7 (l7 (C9 r.2.2.1 (-1)) false (l7 (H6 r.2.2.1 0) true (l7 (P7 k r.2.2.1) true (match L6 s.2.2.2.2 r.2.2.1 with|some q=>G8 (C9 q.2.1 r.2.1)|none=>true)))) (.inr 9) (.inl PUnit.unit)):=by
   cases C9 r.2.2.1 (-1)
   case true=>rfl
   simp only[Z7,o7,o6];cases hp0:H6 r.2.2.1 0
   case true=>rfl
   cases hp1:P7 (k:Int) r.2.2.1
   case true=>rfl
   rw[uk]at hp0;rw[PU]at hp1;obtain⟨q,hq,_⟩:=pO (l:=s.2.2.2.2) hp0 (by simp only[o9];omega);rw[hq];simp only[o8,o6];cases C9 q.2.1 r.2.1<;>rfl
  rw[hpar,o8];cases (l7 (C9 r.2.2.1 (-1)) false (l7 (H6 r.2.2.1 0) true (l7 (P7 k r.2.2.1) true (match L6 s.2.2.2.2 r.2.2.1 with|some q=>G8 (C9 q.2.1 r.2.1)|none=>true))))
  case true=>rfl
  simp only[o6,U3];cases H6 r.2.2.2.1 0
  case true=>rfl
  cases H6 9 r.2.2.2.1
  case true=>rfl
  simp only[o6,Ee,o8];cases CP r.2.2.2.2.1
  .rfl
  cases C9 r.2.2.2.2.1.1 r.2.2.2.2.1.2
  case true=>rfl
  simp only[I7,o7,o6,o8,U3];cases P7 8 ((NW (s.2.2.2.2.take k) r.2.1:Nat):Int)
  case true=>rfl
  simp only[o6,UQ h.2.1,o8];cases Xo r.2.2.2.2.2.2.2
  .rfl
  simp only[I7,o6,o7,o8,Sl hL hs,Uw,hd,JA (Su l s) _ h.2.2.1,JA (Su l s) _ h.2.2.2];cases H6 0 (o9 r.2.2.2.2.2.1)
  .rfl
  simp only[o7];cases C9 (IE r.2.2.2.2.2.1 (Su l s) (1,0)) 0<;>rfl
 .obtain⟨ha1,ha2⟩:=KI ha;simp only[bn (show(j:Int)<(k:Int) by omega),o7,J9,ha2,o8];rw[dF (show j<=9000000000000000000 by omega),dF (show c<=9000000000000000000 by omega)];cases seq a.1 r.1
  .cases C9 a.2.1 r.2.1
   .exact⟨rfl,λb' hb=>by cases hb;show c<=j+1;omega⟩
   .exact⟨rfl,λb' hb=>by cases hb;show c+1<=j+1;omega⟩
  .exact⟨rfl,λb' hb=>by cases hb⟩
 .have e:(s.2.2.2.2.take k).length=k:=by simp;omega
  simp only[e,au (show(k:Int)<=(k:Int) by omega)];rfl
structure SmS (s:J3):Prop where
 nm:s.1.length<=1000000
 ni:s.2.2.1.length<=14
 nd:s.2.2.2.1.length<=14
 nr:s.2.2.2.2.length<=60
 fo:VD s
 ro:∀r∈s.2.2.2.2,XC r/\r.2.2.2.2.2.1.length<=50/\r.2.2.2.2.2.2.1.length<=50
theorem UT:mJ=oI:=rfl
def IU(n:Int)(b:List Int×Bool)(a:Int):List Int×Bool:=l7 b.2 (b.1++[a],true) (l7 (P7 n a) (l7 (H6 n a) (b.1++[n]++[a],true) (b.1++[a],true)) (b.1++[a],false))
theorem Yl(n:Int):∀(l p:List Int),l.foldl (IU n) (p,true)=(p++l,true)
 |[],p=>by simp|a::l,p=>by rw[Y0,show IU n (p,true) a=(p++[a],true)from rfl,Yl n l];simp
theorem a1I(n:Int):∀(l p:List Int),(l7 (l.foldl (IU n) (p,false)).2 (l.foldl (IU n) (p,false)).1 ((l.foldl (IU n) (p,false)).1++[n]))=p++ins n l
 |[],p=>rfl|a::l,p=>by
  rw[Y0];unfold ins;by_cases h1:n<=a
  .rw[if_pos h1];by_cases h2:n<a
   .rw[if_pos h2,show IU n (p,false) a=(p++[n]++[a],true) by simp[IU,ai h1,bn h2],Yl];simp
   .rw[if_neg h2,show IU n (p,false) a=(p++[a],true) by simp[IU,ai h1,au (show a<=n by omega)],Yl];simp
  .rw[if_neg h1,show IU n (p,false) a=(p++[a],false) by simp[IU,aW (show a<n by omega)],a1I n l];simp
theorem Aj{l:List Int}(n:Int)(hl:l.length<=1000000):oI l n=some (ins n l):=by
 unfold oI;refine nI l (IU n) (λb i=>(b.1,b.2,i)) (λb=>b) (λi b=>b.1.length<=i+1/\(b.2=false->b.1.length<=i)) (([],false):List Int×Bool) hl x9 (λi a b ha hi hI=>?_) (λb hI=>?_) (λh2=>?_)
 .obtain⟨o,d⟩:=b;simp only at hI;simp only[O7 ha,o7,J9,ha,o8];rw[dF o5];cases d
  .simp only[Z7,o7,IU,o6];have:=hI.2 rfl;cases P7 n a
   .rw[o6,kK a (show o.length<=1000000 by omega)];exact⟨rfl,by simp<;>omega,by simp<;>omega⟩
   .rw[o7];cases H6 n a
    .rw[o6,kK a (show o.length<=1000000 by omega)];exact⟨rfl,by simp<;>omega,x9⟩
    .rw[o7,kK n (show o.length<=1000000 by omega),o8,GV E5];exact⟨rfl,by simp<;>omega,x9⟩
  .simp only[I7,o6,IU,o7];rw[GV E5];exact⟨rfl,by simp<;>omega,x9⟩
 .simp only[O6];rfl
 .have hf:=a1I n l [];generalize l.foldl (IU n) ([],false)=b at*;obtain⟨o,d⟩:=b;cases d
  .simp only[o6,I5]at hf;simp only[Z7,o7];rw[kK _ (by simp at h2;omega),hf];rfl
  .simp only[o7,I5]at hf;simp only[I7,o6,hf]
def isM(op:Int):Bool:=l7 (P7 36 op) (P7 op 39) false
theorem a7a(op:Int):isM op=l7 (C9 op 36) true (l7 (C9 op 37) true (l7 (C9 op 38) true (C9 op 39))):=by
 unfold isM;by_cases h1:36<=op
 .rw[ai h1,o7];by_cases h2:op<=39
  .rw[ai h2];have:op=36\/op=37\/op=38\/op=39:=o5;rcases this with rfl|rfl|rfl|rfl<;>rfl
  .rw[aW o5,N9 o5,N9 o5,N9 o5,N9 o5];rfl
 .rw[aW o5,N9 o5,N9 o5,N9 o5,N9 o5];rfl
def Og(p:Int->Bool)(e:List (Int×Int)):List Int:=(e.filter λn=>p n.1).map (·.2)
def vT(e:List (Int×Int)):List Int×List Int×List Int:=(Jl (Og (λo=>C9 o 7) e),Jl (Og (λo=>C9 o 8) e),Jl (Og isM e))
def a0H(g:List Int->Int->List Int)(b:List Int×List Int×List Int)(n:Int×Int):List Int×List Int×List Int:=
 (l7 (C9 n.1 7) (g b.1 n.2) b.1,l7 (C9 n.1 8) (g b.2.1 n.2) b.2.1,l7 (isM n.1) (g b.2.2 n.2) b.2.2)
theorem LP(g:List Int->Int->List Int):∀(e:List (Int×Int)) (b:List Int×List Int×List Int),e.foldl (a0H g) b=((Og (λo=>C9 o 7) e).foldl g b.1,(Og (λo=>C9 o 8) e).foldl g b.2.1,(Og isM e).foldl g b.2.2)
 |[],b=>rfl|n::e,b=>by
  have hn:∀p:Int->Bool,Og p (n::e)=l7 (p n.1) (n.2::Og p e) (Og p e):=λp=>by unfold Og;rw[dW];cases p n.1<;>rfl
  rw[Y0,LP g e,hn,hn,hn];unfold a0H;simp only;cases C9 n.1 7<;>cases C9 n.1 8<;>cases isM n.1<;>rfl
theorem Td:∀(l b:List Int),l.foldl (λacc n=>acc++[n]) b=b++l
 |[],b=>by simp|a::l,b=>by rw[Y0,Td l];simp
theorem BX{a k:Int}(h:a=k)(m:Int)(hm:k≠m):C9 a m=false:=N9 o5
theorem Be{l:List Int}(hl:l.length<=1000000):qO l=some (Jl l):=by unfold qO;have:=a5S (l:=l) hl;rw[show(λx=>l9 (oq x) λ(x:List Int)=>some x)=λx=>oq x from funext λx=>uz _];exact this
theorem Iw(h:e.length<=1000000):qJ e=some (vT e):=by
 unfold qJ;refine nI e (a0H (λacc n=>acc++[n])) (λb i=>(b.1,b.2.1,b.2.2,i)) (λb=>b) (λi b=>b.1.length<=i/\b.2.1.length<=i/\b.2.2.length<=i) (([],[],[]):List Int×List Int×List Int) h x9 (λi a b ha hi hI=>?_) (λb hI=>?_) (λh2=>?_)
 .obtain⟨b1,b2,b3⟩:=b;simp only at hI;simp only[O7 ha,o7,J9,ha,o8,kK a.2 (show b1.length<=1000000 by omega),kK a.2 (show b2.length<=1000000 by omega),kK a.2 (show b3.length<=1000000 by omega),a0H,a7a];rw[dF o5];by_cases h7:a.1=7
  .rw[Z9 h7,BX h7 8 V5,BX h7 36 V5,BX h7 37 V5,BX h7 38 V5,BX h7 39 V5];exact⟨rfl,by simp<;>omega,by simp<;>omega,by simp<;>omega⟩
  rw[N9 h7];by_cases h8:a.1=8
  .rw[Z9 h8,BX h8 36 V5,BX h8 37 V5,BX h8 38 V5,BX h8 39 V5];exact⟨rfl,by simp<;>omega,by simp<;>omega,by simp<;>omega⟩
  rw[N9 h8];cases C9 a.1 36<;>cases C9 a.1 37<;>cases C9 a.1 38<;>cases C9 a.1 39<;>exact⟨rfl,by simp<;>omega,by simp<;>omega,by simp<;>omega⟩
 .simp only[O6];rfl
 .rw[LP]at h2 ⊢;simp only[Td,I5]at h2 ⊢;rw[Be o5,o8,Be o5,o8,Be o5];rfl
theorem FU(h:e.length<=500000):qf e=some (vT e):=by
 unfold qf;refine nI e (a0H (λacc n=>ins n acc)) (λb i=>(b.1,b.2.1,b.2.2,i)) (λb=>b) (λi b=>b.1.length<=i/\b.2.1.length<=i/\b.2.2.length<=i) (([],[],[]):List Int×List Int×List Int) o5 x9 (λi a b ha hi hI=>?_) (λb hI=>?_) (λh2=>?_)
 .obtain⟨b1,b2,b3⟩:=b;simp only at hI;have l1:=uV a.2 b1;have l2:=uV a.2 b2;have l3:=uV a.2 b3;rw[UT];simp only[O7 ha,o7,J9,ha,o8,Aj a.2 (show b1.length<=1000000 by omega),Aj a.2 (show b2.length<=1000000 by omega),Aj a.2 (show b3.length<=1000000 by omega),a0H,isM];rw[dF o5];by_cases h7:a.1=7
  .rw[Z9 h7,BX h7 8 V5,aW (show a.1<36 by omega)];exact⟨rfl,by simp<;>omega,by simp<;>omega,by simp<;>omega⟩
  rw[N9 h7];cases C9 a.1 8<;>cases P7 36 a.1<;>cases P7 a.1 39<;>exact⟨rfl,by simp<;>omega,by simp<;>omega,by simp<;>omega⟩
 .simp only[O6];rfl
 .rw[LP];rfl
theorem a2b(p:Int->Bool)(e:List (Int×Int)):(Og p e).length<=e.length:=by unfold Og;rw[U5];exact bQ _ _
theorem zB(e:List (Int×Int)):(vT e).2.1.length<=e.length:=iM (Wu _) (a2b _ e)
def inD(n d:Int):Bool:=l7 (P7 0 d) (H6 d n) false
def yP(n:Int)(r:gp):List Int:=(vT r.2.2.2.2.2.1).2.1.filter (inD n)++(vT r.2.2.2.2.2.2.1).2.1.filter (inD n)
theorem PP(p:Int->Bool):∀(l b:List Int),l.foldl (λacc x=>l7 (p x) (acc++[x]) acc) b=b++l.filter p
 |[],b=>by simp|a::l,b=>by rw[Y0,PP p l,dW];cases p a<;>simp
variable {f:List Int×Int->Option ((List Int×Int)⊕List Int)}
theorem SY(l b:List Int)(n:Int)(hl:l.length<=1000)(hb:b.length<=1000)
  (hin:∀(i:Nat) (a:Int) (acc:List Int),l[i]? =some a->i<=1000000->f (acc,(i:Int))=l7 (P7 0 a) (l7 (H6 a n) (l9 (bK acc [a]) λx=>some (.inl (x,F6 .i64 (i:Int) 1))) (some (.inl (acc,F6 .i64 (i:Int) 1)))) (some (.inl (acc,F6 .i64 (i:Int) 1))))
  (hend:∀acc,f (acc,(l.length:Int))=some (.inr acc)):dV f (b,0)=some (b++l.filter (inD n)):=by
 have key:=xE l (λ(acc:List Int) x=>l7 (inD n x) (acc++[x]) acc) (λb i=>(b,i)) (λb=>b) (λi acc=>acc.length<=1000+i) (f:=f) (b:=b) o5 o5 ?_ ?_
 .rw[key.1,PP]
 .intro i a acc ha hi hI;have:=(ax.1 ha).1;rw[hin i a acc ha hi,dF o5,kK _ o5];unfold inD;cases P7 0 a
  .exact⟨rfl,by show acc.length<=_;omega⟩
  cases H6 a n
  .exact⟨rfl,by show acc.length<=_;omega⟩
  .exact⟨rfl,by simp;omega⟩
 .intro acc hI;rw[hend]
theorem KY(n:Int)(h1:r.2.2.2.2.2.1.length<=50)(h2:r.2.2.2.2.2.2.1.length<=50):qp r n=some (yP n r):=by
 have g1:=zB r.2.2.2.2.2.1;have g2:=zB r.2.2.2.2.2.2.1;unfold qp yP;rw[Iw o5,o8,Iw o5,o8];refine O9 (SY (vT r.2.2.2.2.2.1).2.1 [] n o5 x9 (λi a acc ha hi=>?_) (λacc=>?_)) ?_
 rotate_left 2
 .rw[o8,uz,I5];have:=bQ (inD n) (vT r.2.2.2.2.2.1).2.1;refine SY (vT r.2.2.2.2.2.2.1).2.1 _ n o5 o5 (λi a acc ha hi=>?_) (λacc=>?_)
  .simp only[O7 ha,o7,J9,ha,o8];rw[show eH (vT r.2.2.2.2.2.2.1).2.1 (dB (i:Int))=some a from ha,o8]
  .simp only[O6];rfl
 .simp only[O7 ha,o7,J9,ha,o8];rw[show eH (vT r.2.2.2.2.2.1).2.1 (dB (i:Int))=some a from ha,o8]
 .simp only[O6];rfl
def nD(s:J3):Int:=o9 s.2.2.2.1
def dl(n:Int)(rs:List gp)(d:Int):List Int:=rs.flatMap λr=>l7 (C9 r.2.1 d) (yP n r) []
def bM(s:J3)(d:Int):List Int:=l7 (inD (nD s) d) (Jl (dl (nD s) s.2.2.2.2 d)) []
theorem LM(h:SmS s)(hr:r∈s.2.2.2.2)(n:Int):(yP n r).length<=100:=by obtain⟨_,h1,h2⟩:=h.ro r hr;have a1:=zB r.2.2.2.2.2.1;have a2:=zB r.2.2.2.2.2.2.1;have b1:=bQ (inD n) (vT r.2.2.2.2.2.1).2.1;have b2:=bQ (inD n) (vT r.2.2.2.2.2.2.1).2.1;unfold yP;rw[I8];omega
theorem ZL(n:Int)(rs:List gp)(r:gp)(d:Int):dl n (rs++[r]) d=dl n rs d++l7 (C9 r.2.1 d) (yP n r) []:=by unfold dl;rw[List.flatMap_append];simp
theorem ZK(n:Int)(rs:List gp)(r:gp)(d:Int):dl n (r::rs) d=l7 (C9 r.2.1 d) (yP n r) []++dl n rs d:=rfl
theorem XX{s:J3}(h:SmS s)(n d:Int):∀(rs:List gp),(∀r∈rs,r∈s.2.2.2.2)->(dl n rs d).length<=100*rs.length
 |[],_=>by simp[dl]|r::rs,hm=>by
  have ih:=XX h n d rs λr hr=>hm r (by simp[hr]);have h1:=LM h (hm r x9) n;rw[ZK,I8,G7];cases C9 r.2.1 d
  .simp only[o6,dH];omega
  .simp only[o7];omega
variable {d:Int}{x:Int}
theorem a7d{n:Int}{rs:List gp} :x∈dl n rs d↔∃r∈rs,r.2.1=d/\x∈yP n r:=by
 unfold dl;rw[List.mem_flatMap];constructor
 .rintro⟨r,hr,hx⟩;cases hq:C9 r.2.1 d<;>rw[hq]at hx
  .simp at hx
  .exact⟨r,hr,mf.1 hq,hx⟩
 .rintro⟨r,hr,hq,hx⟩;exact⟨r,hr,by rw[Z9 hq];exact hx⟩
theorem a2O{n:Int}(h:x∈yP n r):0<=x/\x<n:=by
 have key:inD n x=true:=by unfold yP at h;rcases I9.1 h with h|h<;>exact(jl.1 h).2
 unfold inD at key;cases h0:P7 0 x<;>rw[h0]at key
 .cases key
 .exact⟨qw.1 h0,sV.1 key⟩
theorem zu(s:J3)(d:Int):SI (bM s d):=by
 unfold bM;cases inD (nD s) d
 .exact List.Pairwise.nil
 .exact G_ _
theorem zt(h:x∈bM s d):0<=x/\x<nD s:=by
 unfold bM at h;cases hq:inD (nD s) d<;>rw[hq]at h
 .simp at h
 .obtain⟨r,_,_,hx⟩:=a7d.1 ((WA _ _).1 h);exact a2O hx
theorem Wn(s:J3)(l b:List Int)(hl:l.length<=1000)(hb:b.length<=100000)
  (hin:∀(i:Nat) (a:Int) (acc:List Int),l[i]? =some a->i<=1000000->f (acc,(i:Int))=l9 (Ak s a) λx=>l7 x (l9 (oI acc a) λx=>some (.inl (x,F6 .i64 (i:Int) 1))) (some (.inl (acc,F6 .i64 (i:Int) 1))))
  (hend:∀acc,f (acc,(l.length:Int))=some (.inr acc)):dV f (b,0)=some (BZ (l.filter (inD (nD s))) b):=by
 have key:=xE l (λ(acc:List Int) x=>l7 (inD (nD s) x) (ins x acc) acc) (λb i=>(b,i)) (λb=>b) (λi acc=>acc.length<=100000+i) (f:=f) (b:=b) o5 o5 ?_ ?_
 .have hf:∀(l b:List Int),l.foldl (λ(acc:List Int) x=>l7 (inD (nD s) x) (ins x acc) acc) b=BZ (l.filter (inD (nD s))) b:=by
   intro l;induction l with
   |nil=>intro b;rfl|cons a l ih=>intro b;rw[Y0,ih,dW];cases inD (nD s) a<;>rfl
  rw[key.1,hf]
 .intro i a acc ha hi hI;have hlt:=(ax.1 ha).1;have h2:=uV a acc;rw[hin i a acc ha hi,a2N,o8,dF o5,Aj _ o5];change l7 (inD (nD s) a) _ _=_/\_;cases inD (nD s) a
  .exact⟨rfl,by show acc.length<=_;omega⟩
  .exact⟨rfl,by show(ins a acc).length<=_;omega⟩
 .intro acc hI;rw[hend]
theorem Qw(h:SmS s)(d:Int):wQ s d=some (bM s d):=by
 have hnr:=h.nr;unfold wQ bM;rw[a2N,o8];change l7 (G8 (inD (nD s) d)) _ _=_;cases inD (nD s) d
 .rfl
 simp only[I7,o6,o7];refine nI s.2.2.2.2 (λ(acc:List Int) r=>l7 (C9 r.2.1 d) (BZ (yP (nD s) r) acc) acc) (λb i=>(b,i)) (λb=>b) (λi acc=>acc.length<=100*i) [] o5 x9 (λi r acc ha hi hI=>?_) (λacc hI=>?_) (λh2=>?_)
 .have hlt:=(ax.1 ha).1;obtain⟨_,h1,h2⟩:=h.ro r (pg ha);have a1:=zB r.2.2.2.2.2.1;have a2:=zB r.2.2.2.2.2.2.1;have hlen:=Bj (yP (nD s) r) acc;have hrl:=LM h (pg ha) (nD s);simp only[O7 ha,o7,J9,ha,o8];rw[dF o5];cases C9 r.2.1 d
  .exact⟨rfl,by show acc.length<=_;omega⟩
  simp only[I7,o6,o7,FU (show r.2.2.2.2.2.1.length<=500000 by omega),FU (show r.2.2.2.2.2.2.1.length<=500000 by omega),o8];refine⟨?_,by show(BZ (yP (nD s) r) acc).length<=_;omega⟩;refine O9 (Wn s (vT r.2.2.2.2.2.1).2.1 acc o5 o5 (λi a acc ha hi=>?_) (λacc=>?_)) ?_
  rotate_left 2
  .rw[o8];have hl2:=Bj ((vT r.2.2.2.2.2.1).2.1.filter (inD (nD s))) acc;have hl3:=bQ (inD (nD s)) (vT r.2.2.2.2.2.1).2.1;refine O9 (Wn s (vT r.2.2.2.2.2.2.1).2.1 _ o5 o5 (λi a acc ha hi=>?_) (λacc=>?_)) ?_
   rotate_left 2
   .rw[o8];unfold yP;rw[Nc]
   .simp only[O7 ha,o7,J9,ha,o8];rw[show eH (vT r.2.2.2.2.2.2.1).2.1 (dB (i:Int))=some a from ha];rfl
   .simp only[O6];rfl
  .simp only[O7 ha,o7,J9,ha,o8];rw[show eH (vT r.2.2.2.2.2.1).2.1 (dB (i:Int))=some a from ha];rfl
  .simp only[O6];rfl
 .simp only[O6];rfl
 .have hf:∀(l:List gp) (b:List Int),l.foldl (λ(acc:List Int) r=>l7 (C9 r.2.1 d) (BZ (yP (nD s) r) acc) acc) b=BZ (dl (nD s) l d) b:=by
   intro l;induction l with
   |nil=>intro b;rfl|cons a l ih=>intro b;rw[Y0,ih,ZK,Nc];cases C9 a.2.1 d<;>rfl
  rw[hf];rfl
theorem f_(m k:Nat)(f:Nat->α)(v:α):((List.range m).map f).set k v=(List.range m).map λd=>if d=k then v else f d:=by
 apply dG;intro i;rw[X4,fB,fB,U5,fC];by_cases hi:i<m
 .rw[oO hi];by_cases h:k=i
  .subst h;simp[hi]
  .simp[h,Ne.symm h]
 .have:(List.range m)[i]? =none:=by simp;omega
  rw[this];by_cases h:k=i
  .subst h;simp[hi]
  .simp[h]
def OO(m:Nat)(rs:List gp):List (List Int):=(List.range m).map λ(d:Nat)=>dl (m:Int) rs (d:Int)
theorem Vr{l:List Int}(hl:l.length<=1000000):zO l=some (Jl l):=Be hl
theorem UG(m:Nat)(f:Nat->α)(h:k<m):((List.range m).map f)[k]? =some (f k):=by rw[fB,oO h];rfl
theorem Uj(h:SmS s):vX s=some ((List.range s.2.2.2.1.length).map λ(d:Nat)=>bM s (d:Int)):=by
 have hnr:=h.nr;have hnd:=h.nd;unfold vX;generalize hm:s.2.2.2.1.length=m at*;have hn:nD s=(m:Int):=by unfold nD o9;rw[hm]
 rw[show o9 s.2.2.2.1=(m:Int)from hn,show FM (m:Int) ([]:List Int)=some (OO m []) by unfold FM OO dl;rw[if_pos o5];simp[List.map_const'],o8];refine nI s.2.2.2.2 (λ(b:List (List Int)) r=>l7 (inD m r.2.1) (b.set r.2.1.toNat ((b.getD r.2.1.toNat [])++yP m r)) b) (λb i=>(b,i)) (λb=>b) (λi b=>b=OO m (s.2.2.2.2.take i)) (OO m []) o5 x9 (λi r b ha hi hI=>?_) (λb hI=>?_) (λh2=>?_)
 .have hlt:=(ax.1 ha).1;obtain⟨_,h1,h2⟩:=h.ro r (pg ha);have hst:s.2.2.2.2.take (i+1)=s.2.2.2.2.take i++[r]:=by
   rw[Z8 hlt,(ax.1 ha).2]
  have hlb:o9 b=(m:Int):=by rw[hI];simp[o9,OO]
  obtain⟨rd,hrd⟩:∃rd:Int,r.2.1=rd:=⟨r.2.1,rfl⟩;simp only[O7 ha,o7,J9,ha,o8,hlb,hrd];rw[dF o5,hst];by_cases hd:0<=rd/\rd<(m:Int)
  .obtain⟨d0,d1⟩:=hd;have hk:rd.toNat<m:=o5;have hkk:((rd.toNat:Nat):Int)=rd:=o5;have hg:b[rd.toNat]? =some (dl m (s.2.2.2.2.take i) rd):=by rw[hI];unfold OO;rw[UG m _ hk,hkk]
   have hll:=XX h m rd (s.2.2.2.2.take i) λr hr=>List.mem_of_mem_take hr;have hrl:=LM h (pg ha) m;have htl:(s.2.2.2.2.take i).length<=60:=by simp;omega
   rw[ai d0,bn d1,show inb rd (m:Int)=true by unfold inb;simp;omega,show eH b (dB rd)=some (dl m (s.2.2.2.2.take i) rd)from hg,KY _ h1 h2];simp only[o7,o8];rw[GV o5,show Yr (dB rd) (dB rd)=true by simp[Yr]];simp only[o7,o8];have hin:inD m rd=true:=by unfold inD;rw[ai d0,bn d1];rfl
   rw[hin,show b.getD rd.toNat []=dl m (s.2.2.2.2.take i) rd by rw[Lm,hg];rfl];refine⟨rfl,?_⟩;show b.set rd.toNat _=_;rw[hI];unfold OO;rw[f_];apply fF;intro d hdm;rw[ZL,hrd];by_cases hq:d=rd.toNat
   .subst hq;rw[if_pos rfl,hkk,Z9 rfl];rfl
   .rw[if_neg hq,N9 o5];simp
  .have hin:inD m rd=false:=by
    unfold inD;by_cases d0:0<=rd
    .rw[ai d0,au o5];rfl
    .rw[aW o5];rfl
   rw[hin];refine⟨?_,?_⟩
   .unfold inD at hin;cases q0:P7 0 rd
    .rfl
    .rw[q0]at hin;simp only[o7]at hin ⊢;rw[hin];rfl
   .show b=_;rw[hI];unfold OO;apply fF;intro d hdm;have:=di.1 hdm;rw[ZL,hrd,N9 o5];simp
 .simp only[O6];rfl
 .rw[bZ]at h2;rw[h2];generalize hA:OO m s.2.2.2.2=A;have hAl:o9 A=(m:Int):=by rw[←hA];simp[o9,OO]
  refine nI (List.range m) (λ(b:List (List Int)) d=>b.set d (Jl (b.getD d []))) (λb i=>(b,i)) (λb=>b) (λi b=>b=(List.range m).map λ(d:Nat)=>if d<i then Jl (dl m s.2.2.2.2 (d:Int))else dl m s.2.2.2.2 (d:Int)) A E5 (by rw[←hA];unfold OO;simp) (λi d b ha hi hI=>?_) (λb hI=>?_) (λh3=>?_)
  .have hlt:=(ax.1 ha).1;simp only[fC]at hlt;have hdi:d=i:=by rw[oO hlt]at ha;exact(rQ ha).symm
   subst hdi;have hlb:o9 b=(m:Int):=by rw[hI];simp[o9]
   have hg:b[d]? =some (dl m s.2.2.2.2 (d:Int)):=by rw[hI,UG m _ hlt,if_neg o5]
   have hll:=XX h m d s.2.2.2.2 λr hr=>hr;simp only[hAl,hlb];rw[bn (show(d:Int)<(m:Int) by omega),show inb (d:Int) (m:Int)=true by unfold inb;simp;omega,show eH b (dB (d:Int))=some (dl m s.2.2.2.2 (d:Int))from hg];simp only[o7,o8];rw[Vr o5,show Yr (dB (d:Int)) (dB (d:Int))=true by simp[Yr],dF o5];simp only[o7,o8];rw[show b.getD d []=dl m s.2.2.2.2 (d:Int) by rw[Lm,hg];rfl];refine⟨rfl,?_⟩;rw[hI,f_];apply fF;intro e he;by_cases hq:e=d
   .subst hq;rw[if_pos rfl,if_pos o5]
   .rw[if_neg hq];by_cases hq2:e<d
    .rw[if_pos hq2,if_pos o5]
    .rw[if_neg hq2,if_neg o5]
  .simp only[fC,hAl,au (show(m:Int)<=(m:Int) by omega)];rfl
  .rw[h3];apply congrArg some;apply fF;intro d hd;have:=di.1 hd;simp only[fC];rw[if_pos this];unfold bM;rw[hn,show inD (m:Int) (d:Int)=true by unfold inD;rw[ai o5,bn o5];rfl];rfl
def Rch(D:Int->List Int)(d:Int)(L:List Int):Prop:=SI L/\(∀x∈D d,x∈L)/\(∀x∈L,∀y∈D x,y∈L)/\∀C:Int->Prop,(∀x∈D d,C x)->(∀x,C x->∀y∈D x,C y)->∀x∈L,C x
theorem Rch.unique{D:Int->List Int}{L M:List Int}(h:Rch D d L)(k:Rch D d M):L=M:=
 YZ h.1 k.1 λx=>⟨λhx=>h.2.2.2 (λy=>y∈M) k.2.1 k.2.2.1 x hx,λhx=>k.2.2.2 (λy=>y∈L) h.2.1 h.2.2.1 x hx⟩
theorem Vu:∀{B A:List Int},SI A->SI B->(∀x∈A,x∈B)->A=B\/A.length<B.length
 |[],A,_,_,h=>by
  cases A with
  |nil=>exact .inl rfl|cons a A=>exact absurd (h a x9) x9
 |b::B,[],_,_,_=> .inr x9|b::B,a::A,hA,hB,h=>by
  have hA' :=P8.1 hA;have hB' :=P8.1 hB;rcases D6.1 (h a x9)with hab|hab
  .subst hab;rcases Vu (B:=B) (A:=A) hA'.2 hB'.2 (λx hx=>by
    rcases D6.1 (h x (by simp[hx]))with h1|h1
    .have:=hA'.1 x hx;omega
    .exact h1)with h1|h1
   .exact .inl (by rw[h1])
   .exact .inr (by simp only[G7];omega)
  .have hab2:=hB'.1 a hab;rcases Vu (B:=B) (A:=a::A) hA hB'.2 (λx hx=>by
    rcases D6.1 (h x hx)with h1|h1
    .rcases D6.1 hx with h2|h2
     .omega
     .have:=hA'.1 x h2;omega
    .exact h1)with h1|h1
   .exact .inr (by rw[h1];simp)
   .exact .inr (by simp only[G7]at*;omega)
def Dj(D:Int->List Int)(L:List Int):List Int:=L.foldl (λacc x=>BZ (D x) acc) L
theorem Dk(D:Int->List Int)(x:Int):∀(l acc:List Int),x∈l.foldl (λacc x=>BZ (D x) acc) acc↔x∈acc\/∃y∈l,x∈D y
 |[],acc=>by simp|a::l,acc=>by
  rw[Y0,Dk D x l,JM];constructor
  .rintro((h|h)|⟨y,hy,h⟩)
   .exact .inr ⟨a,x9,h⟩
   .exact .inl h
   .exact .inr ⟨y,by simp[hy],h⟩
  .rintro(h|⟨y,hy,h⟩)
   .exact .inl (.inr h)
   .rcases D6.1 hy with rfl|hy
    .exact .inl (.inl h)
    .exact .inr ⟨y,hy,h⟩
theorem n_(D:Int->List Int):∀(l:List Int) {acc:List Int},SI acc->SI (l.foldl (λacc x=>BZ (D x) acc) acc)
 |[],_,h=>h|a::l,_,h=>by rw[Y0];exact n_ D l (OD _ h)
theorem Ql(D:Int->List Int){L:List Int}(h:SI L):SI (Dj D L):=n_ D L h
def itS(D:Int->List Int)(d:Int):Nat->List Int
 |0=>D d|k+1=>Dj D (itS D d k)
section
variable {D:Int->List Int} {n:Nat} (hsi:∀x,SI (D x)) (hin:∀x,∀y∈D x,0<=y/\y<(n:Int))
include hsi hin
theorem Tq(d:Int):∀k,SI (itS D d k)
 |0=>hsi d|k+1=>Ql D (Tq d k)
theorem ZW(d:Int):∀k,∀x∈itS D d k,0<=x/\x<(n:Int)
 |0,x,hx=>hin d x hx|k+1,x,hx=>by
  rcases(Dk D x _ _).1 hx with h|⟨y,_,h⟩
  .exact ZW d k x h
  .exact hin y x h
theorem ZV(d:Int)(k:Nat):Dj D (itS D d k)=itS D d k\/(itS D d k).length<(Dj D (itS D d k)).length:=by
 rcases Vu (Tq hsi hin d k) (Ql D (Tq hsi hin d k)) (λx hx=>(Dk D x _ _).2 (.inl hx))with h|h
 .exact .inl h.symm
 .exact .inr h
theorem Tu(d:Int):∀k,Dj D (itS D d k)=itS D d k\/k<(Dj D (itS D d k)).length
 |0=>by
  rcases ZV hsi hin d 0 with h|h
  .exact .inl h
  .exact .inr o5
 |k+1=>by
  rcases Tu d k with h|h
  .exact .inl (by show Dj D (Dj D (itS D d k))=Dj D (itS D d k);rw[h,h])
  .rcases ZV hsi hin d (k+1)with h2|h2
   .exact .inl h2
   .exact .inr (by have:(itS D d (k+1)).length=(Dj D (itS D d k)).length:=rfl;omega)
theorem a7b(d:Int):Rch D d (itS D d n):=by
 have hst:Dj D (itS D d n)=itS D d n:=by
  rcases Tu hsi hin d n with h|h
  .exact h
  .have:=Vm n (Ql D (Tq hsi hin d n)) (ZW hsi hin d (n+1));omega
 refine⟨Tq hsi hin d n,?_,?_,?_⟩
 .intro x hx;have:∀k,x∈itS D d k:=by
   intro k;induction k with
   |zero=>exact hx|succ k ih=>exact(Dk D x _ _).2 (.inl ih)
  exact this n
 .intro x hx y hy;rw[←hst];exact(Dk D y _ _).2 (.inr ⟨x,hx,hy⟩)
 .intro C h1 h2;have:∀k,∀x∈itS D d k,C x:=by
   intro k;induction k with
   |zero=>exact h1|succ k ih=>
    intro x hx;rcases(Dk D x _ _).1 hx with h|⟨y,hy,h⟩
    .exact ih x h
    .exact h2 y (ih y hy) x h
  exact this n
end
def vC(s:J3)(d:Int):List Int:=itS (bM s) d s.2.2.2.1.length
theorem MJ(s:J3)(d:Int):Rch (bM s) d (vC s d):=
 a7b (n:=s.2.2.2.1.length) (zu s) (λx y hy=>zt hy) d
theorem Xv(h:x∈vC s d):0<=x/\x<nD s:=ZW (n:=s.2.2.2.1.length) (zu s) (λx y hy=>zt hy) d _ x h
theorem XW(h:SmS s)(d:Int):(bM s d).length<=14:=
 iM (Vm s.2.2.2.1.length (zu s d) (λx hx=>zt hx)) h.nd
theorem DV(h:SmS s){l:List Int}(hs:SI l)(hi:∀x∈l,0<=x/\x<nD s):l.length<=14:=iM (Vm s.2.2.2.1.length hs hi) h.nd
theorem QA(h:SmS s)(d:Int):tC s d=some (vC s d):=by
 have hnd:=h.nd;unfold tC;rw[Qw h,o8];have hsi:=zu s;have hin:∀x,∀y∈bM s x,0<=y/\y<((s.2.2.2.1.length:Nat):Int):=λx y hy=>zt hy;refine nI s.2.2.2.1 (λ(b:List Int) (_:jw)=>Dj (bM s) b) (λb i=>(b,i)) (λb=>b) (λi b=>b=itS (bM s) d i) (bM s d) o5 rfl (λi f b ha hi hI=>?_) (λb hI=>?_) (λh2=>?_)
 .simp only[O7 ha,o7];refine⟨?_,by show Dj _ b=_;rw[hI];rfl⟩;have hb1:SI b:=by rw[hI];exact Tq hsi hin d i
  have hb2:∀x∈b,0<=x/\x<nD s:=by rw[hI];exact ZW hsi hin d i
  have hbl:=DV h hb1 hb2;rw[dF o5];refine nI b (λ(acc:List Int) x=>BZ (bM s x) acc) (λb i=>(b,i)) (λb=>b) (λi acc=>SI acc/\∀x∈acc,0<=x/\x<nD s) b o5 ⟨hb1,hb2⟩ (λj x acc hx hj hJ=>?_) (λacc hJ=>?_) (λh3=>?_)
  .have hal:=DV h hJ.1 hJ.2;have hdl:=XW h x;simp only[O7 hx,o7,J9,hx,o8,Qw h x];rw[dF o5];refine⟨?_,OD _ hJ.1,λy hy=>?_⟩
   .refine nI (bM s x) (λ(acc:List Int) y=>ins y acc) (λb i=>(b,i)) (λb=>b) (λi a=>a.length<=acc.length+i) acc o5 o5 (λk y a hy hk hK=>?_) (λa hK=>?_) (λh4=>?_)
    .have hlt:=(ax.1 hy).1;have hli:=uV y a;simp only[O7 hy,o7,J9,hy,o8];rw[show eH (bM s x) (dB (k:Int))=some y from hy,o8,Aj _ o5,o8,dF o5];exact⟨rfl,by show(ins y a).length<=_;omega⟩
    .simp only[O6];rfl
    .rfl
   .rcases(JM y _ _).1 hy with h4|h4
    .exact zt h4
    .exact hJ.2 y h4
  .simp only[O6];rfl
  .rfl
 .simp only[O6];rfl
 .rw[h2];rfl
def mk(S:List Bool)(x:Int):Bool:=if 0<=x then S.getD x.toNat false else false
def unm(S:List Bool):Nat:=S.count false
def rG(b:List Bool×List Int)(e:Int):List Bool×List Int:=l7 (mk b.1 e) b (b.1.set e.toNat true,b.2++[e])
variable {S:List Bool}
theorem a1Q(h0:0<=x)(h1:x<o9 S):S[x.toNat]? =some (mk S x):=by
 unfold mk;rw[if_pos h0,Lm];have:x.toNat<S.length:=by simp only[o9]at h1;omega
 rw[lS this];rfl
theorem a1R{e:Int}(h0:0<=e)(h1:e<o9 S)(x:Int):mk (S.set e.toNat true) x=l7 (C9 x e) true (mk S x):=by
 unfold mk;have hl:e.toNat<S.length:=by simp only[o9]at h1;omega
 by_cases hx:0<=x
 .rw[if_pos hx,if_pos hx,Lm,Lm,X4];by_cases hq:x=e
  .subst hq;rw[if_pos rfl,if_pos hl,Z9 rfl];rfl
  .rw[if_neg o5,N9 hq];rfl
 .rw[if_neg hx,if_neg hx,N9 o5];rfl
theorem a5V{e:Int}(h0:0<=e)(h1:e<o9 S)(hm:mk S e=false):unm (S.set e.toNat true)+1=unm S:=by
 have hl:e.toNat<S.length:=by simp only[o9]at h1;omega
 have hg:=a1Q h0 h1;rw[hm,lS hl]at hg;have hg' :S[e.toNat]=false:=rQ hg;unfold unm;rw[List.count_set hl,hg'];have:0<S.count false:=List.count_pos_iff.2 (by rw[←hg'];exact N8 hl);simp;omega
structure RInv (n:Nat) (S:List Bool) (Q:List Int) (l:List Int) (S' :List Bool) (Q' :List Int):Prop where
 len:S'.length=n
 seen:∀x:Int,0<=x->x<(n:Int)->(mk S' x=true↔mk S x=true\/x∈l)
 sum:Q'.length+unm S' =Q.length+unm S
 le:unm S' <=unm S
 old:∀x∈Q,x∈Q'
 new:∀x∈Q',x∈Q\/x∈l
 got:∀x,mk S' x=true->mk S x=true\/x∈Q'
theorem a2X{n:Nat} :∀(l:List Int) (S:List Bool) (Q:List Int),S.length=n->(∀x∈l,0<=x/\x<(n:Int))->RInv n S Q l (l.foldl rG (S,Q)).1 (l.foldl rG (S,Q)).2
 |[],S,Q,hl,_=>⟨hl,λx _ _=>by simp,rfl,D8 _,λx hx=>hx,λx hx=> .inl hx,λx hx=> .inl hx⟩|e::l,S,Q,hl,hi=>by
  have he:=hi e x9;have hel:e<o9 S:=by simp only[o9];omega
  rw[Y0];cases hm:mk S e with
  |true=>
   rw[show rG (S,Q) e=(S,Q) by unfold rG;rw[hm];rfl];have ih:=a2X l S Q hl λx hx=>hi x (by simp[hx]);refine⟨ih.len,λx h0 h1=>?_,ih.sum,ih.le,ih.old,λx hx=>?_,ih.got⟩
   .rw[ih.seen x h0 h1,D6];constructor
    .rintro(h|h)
     .exact .inl h
     .exact .inr (.inr h)
    .rintro(h|h|h)
     .exact .inl h
     .subst h;exact .inl hm
     .exact .inr h
   .rcases ih.new x hx with h|h
    .exact .inl h
    .exact .inr (by simp[h])
  |false=>
   rw[show rG (S,Q) e=(S.set e.toNat true,Q++[e]) by unfold rG;rw[hm];rfl];have ih:=a2X l (S.set e.toNat true) (Q++[e]) (by simp[hl]) λx hx=>hi x (by simp[hx]);have hu:=a5V he.1 hel hm;refine⟨ih.len,λx h0 h1=>?_,?_,?_,λx hx=>ih.old x (by simp[hx]),λx hx=>?_,λx hx=>?_⟩
   .rw[ih.seen x h0 h1,a1R he.1 hel,D6];cases hq:C9 x e
    .rw[IR]at hq;simp[hq]
    .rw[mf]at hq;simp[hq]
   .have:=ih.sum;simp only[I8,G7,dH]at this;omega
   .have:=ih.le;omega
   .rcases ih.new x hx with h|h
    .rcases I9.1 h with h|h
     .exact .inl h
     .exact .inr (by simp at h;simp[h])
    .exact .inr (by simp[h])
   .rcases ih.got x hx with h|h
    .rw[a1R he.1 hel]at h;cases hq:C9 x e
     .rw[hq]at h;exact .inl h
     .rw[mf]at hq;subst hq;exact .inr (ih.old _ x9)
    .exact .inr h
def Nj(S:List Bool):List Int:=((List.range S.length).filter λi=>S.getD i false).map λ(i:Nat)=>(i:Int)
theorem GY(x:Int):x∈Nj S↔mk S x=true:=by
 unfold Nj mk;rw[fQ];constructor
 .rintro⟨i,hi,rfl⟩;rw[if_pos o5];exact(jl.1 hi).2
 .intro h;split at h
  .refine⟨x.toNat,jl.2 ⟨di.2 ?_,h⟩,o5⟩;rw[Lm]at h;cases hg:S[x.toNat]? with
   |none=>rw[hg]at h;cases h|some b=>exact(ax.1 hg).1
  .cases h
theorem a1O(S:List Bool):SI (Nj S):=by unfold Nj;refine List.Pairwise.map _ (R:=(·< ·)) (λa b h=>by omega) (List.Pairwise.filter _ qY)
theorem Yq(S:List Bool)(hS:S.length<=100)
  (hin:∀(i:Nat) (a:Bool) (acc:List Int),S[i]? =some a->i<=1000000->acc.length<=i->f (acc,(i:Int))=l7 a (l9 (bK acc [(i:Int)]) λx=>some (.inl (x,F6 .i64 (i:Int) 1))) (some (.inl (acc,F6 .i64 (i:Int) 1))))
  (hend:∀acc,f (acc,(S.length:Int))=some (.inr acc)):dV f ([],0)=some (Nj S):=by
 have mk2:∀i,i<=S.length->((List.range i).filter λi=>S.getD i false).length<=i:=λi _=>by have:=bQ (λi=>S.getD i false) (List.range i);simpa using this
 obtain⟨e,h1,h2⟩:=qy (f:=f) (s:=([],0)) (λx=>∃i:Nat,x=(((List.range i).filter λi=>S.getD i false).map λ(i:Nat)=>(i:Int),(i:Int))/\i<=S.length) (λe=>e=Nj S) (λx=>S.length -x.2.toNat) ⟨0,rfl,o5⟩ E5 (by
  rintro x ⟨i,rfl,hi⟩;by_cases h:i<S.length
  .have e:=lS h;have hst:(List.range (i+1)).filter (λi=>S.getD i false)=(List.range i).filter (λi=>S.getD i false)++l7 S[i] [i] []:=by
    rw[eY,vJ];congr 1;rw[dW,Lm,e];cases S[i]<;>rfl
   have hl:=mk2 i hi;refine .inl ⟨(((List.range (i+1)).filter λi=>S.getD i false).map λ(i:Nat)=>(i:Int),((i+1:Nat):Int)),?_,⟨i+1,rfl,h⟩,by simp;omega⟩;rw[hin i _ _ e o5 (by simpa using hl),dF o5,hst,gJ,kK _ (by rw[U5];omega)];cases S[i]
   .simp
   .rfl
  .have:i=S.length:=o5;subst this;exact .inr ⟨_,hend _,rfl⟩)
 rw[h1,h2]
theorem YI{D:Int->List Int}{n:Nat}(hn:n<=14)(hsi:∀x,SI (D x))(hin:∀x,∀y∈D x,0<=y/\y<(n:Int))(h0:0<=d)(h1:d<(n:Int)):
  ∃L,yS ((List.range n).map λ(x:Nat)=>D (x:Int)) d=some L/\Rch D d L:=by
 have hA:o9 ((List.range n).map λ(x:Nat)=>D (x:Int))=(n:Int):=by simp[o9]
 have hget:∀x:Int,0<=x->x<n->L6 ((List.range n).map λ(x:Nat)=>D (x:Int)) x=some (D x):=λx a b=>by
  have:x.toNat<n:=o5;unfold L6
  rw[if_pos a,UG n _ this,bC a]
 unfold yS;generalize (List.range n).map (λ(x:Nat)=>D (x:Int))=A at*;rw[hA,show FM (n:Int) false=some (List.replicate n false) by unfold FM;rw[if_pos o5];simp,o8];have hD14:∀x,(D x).length<=14:=λx=>iM (Vm n (hsi x) (hin x)) hn;have key:=qy (f:=λ(x:List Bool×List Int)=>l7 (H6 0 (o9 x.2)) (l9 (L6 x.2 0) λ(x_1:Int)=>l9 (eH x.2 (dB 0)) λ(x_2:Int)=>l7 (jK 1 (o9 x.2) (o9 x.2)) (l9 (L6 A x_2) λ(x_3:List Int)=>
   l9 (dV (λ(x:List Bool×List Int×Int)=>l7 (H6 x.2.2 (o9 x_3)) (l9 (L6 x_3 x.2.2) λ(x_4:Int)=>l9 (L6 x.1 x_4) λ(x_5:Bool)=>l9 (eH x.1 (dB x_4)) λ(x_6:Bool)=>
     l7 (G8 x_6) (l9 (L6 x.1 x_4) λ(x_7:Bool)=>l9 (eH x.1 (dB x_4)) λ(x_8:Bool)=>l9 (bK x.2.1 [x_4]) λ(x_9:List Int)=>some (.inl (um x.1 (dB x_4) true,x_9,F6 .i64 x.2.2 1)))
      (some (.inl (x.1,x.2.1,F6 .i64 x.2.2 1)))) (some (.inr (x.1,x.2.1)))) (x.1,iP x.2 (dB 1) (dB (o9 x.2)),0)) λ(y:List Bool×List Int)=>some (.inl y)) none) (some (.inr x.1)))
  (s:=(List.replicate n false,[d]))
  (λx=>x.1.length=n/\(∀q∈x.2,0<=q/\q<(n:Int))/\x.2.length+unm x.1<=n+1/\(∀q∈x.2,q=d\/mk x.1 q=true)/\(∀v,v=d\/mk x.1 v=true->v∈x.2\/∀y∈D v,mk x.1 y=true)/\
   (∀C:Int->Prop,(∀x∈D d,C x)->(∀x,C x->∀y∈D x,C y)->∀v,mk x.1 v=true->C v)/\(∀v,mk x.1 v=true->0<=v/\v<(n:Int)))
  (λS=>S.length=n/\Rch D d (Nj S)) (λx=>2*unm x.1+x.2.length) ?_ ?_ ?_
 .obtain⟨S,k1,k2,k3⟩:=key;refine⟨Nj S,?_,k3⟩;refine(Qn k1 _).trans ?_;rw[uz];refine Yq S o5 (λi a acc ha hi hacc=>?_) (λacc=>?_)
  .simp only[O7 ha,o7,J9,ha,o8];rw[show eH S (dB (i:Int))=some a from ha,o8]
  .simp only[O6];rfl
 .have hnone:∀v,mk (List.replicate n false) v=false:=λv=>by
   unfold mk;split
   .rw[Lm,yH];split<;>rfl
   .rfl
  refine⟨x9,λq hq=>by simp at hq;omega,?_,λq hq=> .inl (by simpa using hq),λv hv=>?_,λC _ _ v hv=>(by rw[hnone]at hv;cases hv),λv hv=>(by rw[hnone]at hv;cases hv)⟩
  .simp[unm,List.count_replicate];omega
  .rcases hv with rfl|hv
   .exact .inl x9
   .rw[hnone]at hv;cases hv
 .simp[unm,List.count_replicate];omega
 .rintro⟨S,Q⟩ ⟨i1,i2,i3,i4,i5,i6,i7⟩;simp only at i1 i2 i3 i4 i5 i6 i7;cases Q with
  |nil=>
   right;refine⟨S,rfl,i1,a1O S,λx hx=>?_,λx hx y hy=>?_,λC c1 c2 x hx=>i6 C c1 c2 x ((GY x).1 hx)⟩
   .rcases i5 d (.inl rfl)with h|h
    .cases h
    .exact(GY x).2 (h x hx)
   .rcases i5 x (.inr ((GY x).1 hx))with h|h
    .cases h
    .exact(GY y).2 (h y hy)
  |cons q Q=>
   left;have hq:=i2 q x9;have hfold:=a2X (n:=n) (D q) S Q i1 (λx hx=>hin q x hx);refine⟨(D q).foldl rG (S,Q),?_,?_,?_⟩
   .simp only[bn (show(0:Int)<o9 (q::Q) by simp[o9]<;>omega),o7,show L6 (q::Q) 0=some q from rfl,show eH (q::Q) (dB 0)=some q from rfl,o8,hget q hq.1 hq.2,
     show jK 1 (o9 (q::Q)) (o9 (q::Q))=true by simp[jK,o9]<;>omega,show iP (q::Q) (dB 1) (dB (o9 (q::Q)))=Q by simp[iP,dB,o9]]
    refine nI (D q) rG (λb i=>(b.1,b.2,i)) (λb=>b) (λi b=>b.1.length=n/\b.2.length<=100+i) (S,Q) (by have:=hD14 q;omega) ⟨i1,by simp at i3;show Q.length<=100+0;omega⟩ (λi e b he hi hI=>?_) (λb hI=>?_) (λh2=>rfl)
    .obtain⟨S1,Q1⟩:=b;simp only at hI;have hee:=hin q e (pg he);have hlt:=(ax.1 he).1;have hdl:=hD14 q;have hg:=a1Q (S:=S1) hee.1 (by simp only[o9];omega);have hla:L6 S1 e=some (mk S1 e):=by unfold L6;rw[if_pos hee.1];exact hg
     have hlg:eH S1 (dB e)=some (mk S1 e):=hg;simp only[O7 he,o7,J9 (D q),he,o8,hla,hlg];rw[dF o5,kK _ o5];unfold rG;simp only;cases mk S1 e
     .exact⟨rfl,by simp[hI.1],by simp<;>omega⟩
     .exact⟨rfl,hI.1,by show Q1.length<=_;omega⟩
    .simp only[O6];rfl
   .obtain⟨j1,j2,j3,j4,j5,j6,j7⟩:=hfold;generalize (D q).foldl rG (S,Q)=b at*;obtain⟨S',Q'⟩:=b;simp only at j1 j2 j3 j4 j5 j6 j7 ⊢;have hrange:∀v,mk S' v=true->0<=v/\v<(n:Int):=λv hv=>by
     rcases j7 v hv with h|h
     .exact i7 v h
     .rcases j6 v h with h|h
      .exact i2 v (by simp[h])
      .exact hin q v h
    refine⟨j1,λx hx=>?_,?_,λx hx=>?_,λv hv=>?_,λC c1 c2 v hv=>?_,hrange⟩
    .rcases j6 x hx with h|h
     .exact i2 x (by simp[h])
     .exact hin q x h
    .simp only[G7]at i3;omega
    .rcases j6 x hx with h|h
     .rcases i4 x (by simp[h])with h2|h2
      .exact .inl h2
      .have hr:=i7 x h2;exact .inr ((j2 x hr.1 hr.2).2 (.inl h2))
     .have hr:=hin q x h;exact .inr ((j2 x hr.1 hr.2).2 (.inr h))
    .have up:∀y,mk S y=true->mk S' y=true:=λy hy=>by
      have hr:=i7 y hy;exact(j2 y hr.1 hr.2).2 (.inl hy)
     by_cases hvq:v=q
     .subst hvq;right;intro y hy;have hr:=hin v y hy;exact(j2 y hr.1 hr.2).2 (.inr hy)
     .by_cases hold:v=d\/mk S v=true
      .rcases i5 v hold with h|h
       .rcases D6.1 h with h|h
        .exact absurd h hvq
        .exact .inl (j5 v h)
       .exact .inr λy hy=>up y (h y hy)
      .rcases hv with h|h
       .exact absurd (.inl h) hold
       .rcases j7 v h with h2|h2
        .exact absurd (.inr h2) hold
        .exact .inl h2
    .by_cases hS:mk S v=true
     .exact i6 C c1 c2 v hS
     .have hr:=hrange v hv;rcases(j2 v hr.1 hr.2).1 hv with h|h
      .exact absurd h hS
      .rcases i4 q x9 with h2|h2
       .subst h2;exact c1 v h
       .exact c2 q (i6 C c1 c2 q h2) v h
   .have:=hfold.sum;have:=hfold.le;simp only[G7];omega
theorem SA(h:SmS s)(h0:0<=d)(h1:d<nD s):uC s d=some (vC s d):=by have hn:nD s=((s.2.2.2.1.length:Nat):Int):=rfl;unfold uC;change l7 (H6 d 0) _ (l7 (P7 (nD s) d) _ _)=_;rw[au h0,o6,aW h1,o6,Uj h,o8,uz];obtain⟨L,k1,k2⟩:=YI (D:=bM s) h.nd (zu s) (λx y hy=>zt hy) h0 (show d<((s.2.2.2.1.length:Nat):Int) by omega);rw[k1,Rch.unique k2 (MJ s d)]
structure SmL (l:dL):Prop where
 few:Few l
 en:Zw l
 tb:VF l
 sc:∀s∈l.2.2,SmS s
theorem SmL.scopes(h:SmL l):Jr l:=λs hs=>by have hm:=h.sc s hs;exact⟨hm.nm,by have:=hm.ni;omega,by have:=hm.nd;omega,by have:=hm.nr;omega⟩
theorem GU{ε ρ:Type}{p:Nat->Option ρ}(n:Nat)(hn:n<=1000000)(e:ε){f:Int->Option (Out Int ε ρ)}
  (h1:∀i,i<n->f (i:Int)=some (match p i with|some r=> .rt r|none=> .nx (F6 .i64 (i:Int) 1))) (h2:f (n:Int)=some (.ex e)):
  U2 f 0=some (match dR n p with|some r=> .inr r|none=> .inl e):=
 Bl n o5 e (λi hi=>by rw[h1 i hi,dF o5]<;>cases p i<;>rfl) h2
def NK(l:dL)(s:J3)(k:Nat):Option (Int×Int):=match s.2.2.2.2[k]? with|some r=>PI (KA s (Su l s) k r) (300+k:Nat)|none=>none
def VP(s:J3)(d:Nat):Option (Int×Int):=l7 ((vC s d).any λx=>C9 (d:Int) x) (some (9,((200+d:Nat):Int))) none
def IY(l:dL)(i:Nat)(m:Int):Bool:=l7 (C9 m (-1)) false (l7 (H6 m 0) true (l7 (P7 (i:Int) m) true (match L6 l.2.2 m with|some q=>G8 (C9 q.2.1 (-1))|none=>true)))
def YB(l:dL)(s:J3):Int×Int:=match DN l s with
 |some r=>r
 |none=>match dR s.2.2.2.2.length (NK l s)with
  |some r=>r
  |none=>match dR s.2.2.2.1.length (VP s)with
   |some r=>r|none=>(0,0)
def Eo(l:dL)(i:Nat)(s:J3):Int×Int:=
 l7 (zW s.1) (l7 (AB l 3 i s.1) (7,0) (l7 (IY l i s.2.1) (6,0) (l7 (H6 12 (o9 s.2.2.1)) (4,112) (l7 (H6 12 (o9 s.2.2.2.1)) (4,212) (YB l s))))) (2,0)
theorem RD(hL:SmL l)(hs:l.2.2[i]? =some s):wF l (i:Int)=some (Eo l i s):=by
 have hi:=(ax.1 hs).1;have hS:=hL.sc s (pg hs);have hf:=hL.few;have hf1:=hf.1;have hf2:=hf.2.1;have hf3:=hf.2.2;have n1:=hS.ni;have n2:=hS.nd;have n3:=hS.nr;unfold wF Eo AB;rw[J9,hs,o8,vN o5,o8,IQ _ o5,o8,MZ _ o5,o8,Wj _ E5,o8];have hb:(l7 (l.1.any λx=>seq x.1 s.1) (some (s,true)) (l7 (l.2.1.any λx=>seq x.1 s.1) (some (s,true)) (some (s,(l.2.2.take i).any λx=>seq x.1 s.1))))=
   some (s,(l.1.any λx=>seq x.1 s.1) || (l.2.1.any λx=>seq x.1 s.1) || (l.2.2.take i).any λx=>seq x.1 s.1):=by
  cases l.1.any λx=>seq x.1 s.1
  .cases l.2.1.any λx=>seq x.1 s.1<;>rfl
  .rfl
 rw[hb,o8];simp only;rw[nU hS.nm,o8];cases zW s.1
 .rfl
 simp only[I7,o6,o7];cases (l.1.any λx=>seq x.1 s.1) || (l.2.1.any λx=>seq x.1 s.1) || (l.2.2.take i).any λx=>seq x.1 s.1
 case true=>rfl
 simp only[o6];have hm:(l7 (G8 (C9 s.2.1 (-1))) (l7 (H6 s.2.1 0) (some true) (l7 (P7 (i:Int) s.2.1) (some true) (l9 (L6 (l.2.2.take i) s.2.1) λ(x:J3)=>some (G8 (C9 x.2.1 (-1)))))) (some false))=some (IY l i s.2.1):=by
  unfold IY;cases C9 s.2.1 (-1)
  case true=>rfl
  simp only[Z7,o7,o6];cases h0:H6 s.2.1 0
  case true=>rfl
  cases h1:P7 (i:Int) s.2.1
  case true=>rfl
  rw[uk]at h0;rw[PU]at h1;obtain⟨q,hq,_⟩:=pO (l:=l.2.2.take i) h0 (by simp only[o9,aT];omega);have hq2:L6 l.2.2 s.2.1=some q:=by have:=(jm hq).2.2.2;unfold L6;rw[if_pos h0];exact(KI this).2
  rw[hq,hq2];rfl
 rw[hm,o8];cases IY l i s.2.1
 case true=>rfl
 simp only[o6];cases H6 12 (o9 s.2.2.1)
 case true=>rfl
 cases H6 12 (o9 s.2.2.2.1)
 case true=>rfl
 simp only[o6,o8,U3];unfold YB DN;refine O9 (GU (p:=inP l s) s.2.2.1.length o5 PUnit.unit (λk hk=>?_) ?_) ?_
 rotate_left 2
 .cases dR s.2.2.1.length (inP l s)
  case some r=>rfl
  simp only[o8,U3];refine O9 (GU (p:=VQ l s) s.2.2.2.1.length o5 PUnit.unit (λk hk=>?_) ?_) ?_
  rotate_left 2
  .cases dR s.2.2.2.1.length (VQ l s)
   case some r=>rfl
   simp only[o8,U3];rw[AA hL.scopes hs,o8];refine O9 (GU (p:=NK l s) s.2.2.2.2.length o5 PUnit.unit (λk hk=>?_) ?_) ?_
   rotate_left 2
   .cases dR s.2.2.2.2.length (NK l s)
    case some r=>rfl
    simp only[o8,U3];refine O9 (GU (p:=VP s) s.2.2.2.1.length o5 PUnit.unit (λk hk=>?_) ?_) ?_
    rotate_left 2
    .cases dR s.2.2.2.1.length (VP s)<;>rfl
    .have e:=lS hk;simp only[O7 e,o7];rw[SA hS o5 (by show(k:Int)<o9 s.2.2.2.1;simp only[o9];omega),o8,a0e _ (by
      have:=DV hS (MJ s (k:Int)).1 (λx hx=>Xv hx);omega),o8,show(200:Int)=((200:Nat):Int)from rfl,Na o5 o5]
     unfold VP;cases (vC s (k:Int)).any λx=>C9 (k:Int) x<;>rfl
    .rw[O6];rfl
   .have e:=lS hk;have hr:=(hS.ro _ (N8 hk)).1;simp only[O7 e,o7];rw[Un _ e o5 hr,o8,show(300:Int)=((300:Nat):Int)from rfl,Na o5 o5];simp only[NK,e,PI];cases C9 (KA s (Su l s) k s.2.2.2.2[k]) 0<;>rfl
   .rw[O6];rfl
  .have e:=lS hk;have hm:=hS.fo.2 _ (N8 hk);simp only[O7 e,o7,J9,e,o8];rw[vN o5,o8,Ig hm o5 E5,o8,show(200:Int)=((200:Nat):Int)from rfl,Na o5 o5];simp only[VQ,e,PI];cases C9 (Fh l.1 s.2.2.2.1[k] s.2.2.1 (s.2.2.2.1.take k)) 0<;>rfl
  .rw[O6];rfl
 .have e:=lS hk;have hm:=hS.fo.1 _ (N8 hk);simp only[O7 e,o7,J9,e,o8];rw[vN o5,o8,Ig hm E5 x9,o8,show(100:Int)=((100:Nat):Int)from rfl,Na o5 o5];simp only[inP,e,PI];cases C9 (Fh l.1 s.2.2.1[k] (s.2.2.1.take k) []) 0<;>rfl
 .rw[O6];rfl
theorem La{c e:Int}{r:Int×Int}(h:PI c e=some r):r.1≠0:=by
 unfold PI at h;cases hc:C9 c 0<;>rw[hc]at h
 .cases h;exact IR.1 hc
 .cases h
theorem We{r:Int×Int}(h:DN l s=some r):r.1≠0:=by
 unfold DN at h;split at h
 .rename_i q hq;cases h;obtain⟨k,_,hk⟩:=oz hq;unfold inP at hk;split at hk
  .exact La hk
  .cases hk
 .obtain⟨k,_,hk⟩:=oz h;unfold VQ at hk;split at hk
  .exact La hk
  .cases hk
theorem Qy(hL:SmL l)(hs:l.2.2[i]? =some s):tK l (i:Int)=some (l7 (C9 (Eo l i s).1 0) (0,0,0,0) (NU i (Eo l i s))):=by
 have hi:=(ax.1 hs).1;have hS:=hL.sc s (pg hs);have hf:=hL.few;have hf1:=hf.1;have hf2:=hf.2.1;have hf3:=hf.2.2;have n1:=hS.ni;have n2:=hS.nd;have n3:=hS.nr;unfold tK Eo;rw[J9,hs,o8,kF hS.nm,o8];cases zW s.1
 .rfl
 simp only[I7,o6,o7];rw[a0T hf,o8];cases AB l 3 i s.1
 case true=>rfl
 simp only[o6];have hm:(l7 (G8 (C9 s.2.1 (-1))) (l7 (H6 s.2.1 0) (some (Sum.inr ((6:Int),(3:Int),(i:Int),(0:Int)))) (l7 (P7 (i:Int) s.2.1) (some (.inr (6,3,(i:Int),0))) (l9 (L6 l.2.2 s.2.1) λ(x:J3)=>l7 (G8 (C9 x.2.1 (-1))) (some (.inr (6,3,(i:Int),0))) (some (.inl (((0:Int),(0:Int),(0:Int),(0:Int)),(0:Int),(3:Int),(i:Int),(0:Int))))))) (some (.inl ((0,0,0,0),0,3,(i:Int),0))))=
   some (l7 (IY l i s.2.1) (.inr (6,3,(i:Int),0)) (.inl ((0,0,0,0),0,3,(i:Int),0))):=by
  unfold IY;cases C9 s.2.1 (-1)
  case true=>rfl
  simp only[Z7,o7,o6];cases h0:H6 s.2.1 0
  case true=>rfl
  cases h1:P7 (i:Int) s.2.1
  case true=>rfl
  rw[uk]at h0;rw[PU]at h1;obtain⟨q,hq,_⟩:=pO (l:=l.2.2) h0 (by simp only[o9];omega);rw[hq];simp only[o6,o8];cases C9 q.2.1 (-1)<;>rfl
 rw[hm,o8];cases IY l i s.2.1
 case true=>rfl
 simp only[o6,U3];cases H6 12 (o9 s.2.2.1)
 case true=>rfl
 cases H6 12 (o9 s.2.2.2.1)
 case true=>rfl
 simp only[o6];rw[Qx hs o5 o5 hS.fo,o8];unfold YB;cases hfs:DN l s with
 |some r=>have hc:=We hfs;simp only[NU];rw[N9 hc];rfl|none=>
  simp only[Z9 (rfl:(0:Int)=0),I7,o6];refine O9 (mP (p:=λk=>(NK l s k).map (NU i)) s.2.2.2.2.length o5 _ (0,0,0,0) (λk hk=>?_) ?_) ?_
  rotate_left 2
  .rw[Bh];cases hfr:dR s.2.2.2.2.length (NK l s)with
   |some r=>
    obtain⟨k,_,hk⟩:=oz hfr;have hc:r.1≠0:=by
     unfold NK at hk;split at hk
     .exact La hk
     .cases hk
    simp only[bG,o8,lW];rw[N9 hc];rfl
   |none=>
    simp only[Option.map_none,o8,U3];refine O9 (mP (p:=λk=>(VP s k).map (NU i)) s.2.2.2.1.length o5 _ (0,0,0,0) (λk hk=>?_) ?_) ?_
    rotate_left 2
    .rw[Bh];cases hfc:dR s.2.2.2.1.length (VP s)with
     |some r=>
      obtain⟨k,_,hk⟩:=oz hfc;have hc:r.1≠0:=by
       unfold VP at hk;cases hq:(vC s (k:Int)).any λx=>C9 (k:Int) x<;>rw[hq]at hk
       .cases hk
       .cases hk;show(9:Int)≠0;decide
      simp only[bG,o8,lW];rw[N9 hc];rfl
     |none=>rfl
    .have e:=lS hk;have htl:=DV hS (MJ s (k:Int)).1 (λx hx=>Xv hx);simp only[O7 e,o7];rw[QA hS,o8,show(200:Int)=((200:Nat):Int)from rfl,Na o5 o5];have hcy:U2 (λ(x_6:TEvalError×Int)=>l7 (H6 x_6.2 (o9 (vC s (k:Int)))) (l9 (L6 (vC s (k:Int)) x_6.2) λ(x:Int)=>l7 (C9 x (k:Int)) (some (Out.rt ((9:Int),(3:Int),(i:Int),((200+k:Nat):Int)))) (some (.nx (x_6.1,F6 .i64 x_6.2 1)))) (some (.ex x_6.1))) (((0:Int),(0:Int),(0:Int),(0:Int)),(0:Int))=
       some (l7 ((vC s (k:Int)).any λx=>C9 (k:Int) x) (.inr (9,3,(i:Int),((200+k:Nat):Int))) (.inl (0,0,0,0))):=by
      have h1:=uX (vC s (k:Int)) (λ(b:Int×Int×Int×Int) x=>l7 (C9 x (k:Int)) (.inr ((9:Int),(3:Int),(i:Int),((200+k:Nat):Int))) (.inl b)) (λb i=>(b,i)) (λb=>b) (λ_ _=>True) (b:=((0,0,0,0):Int×Int×Int×Int)) (f:=λ(x_6:TEvalError×Int)=>l7 (H6 x_6.2 (o9 (vC s (k:Int)))) (l9 (L6 (vC s (k:Int)) x_6.2) λ(x:Int)=>l7 (C9 x (k:Int)) (some (Out.rt ((9:Int),(3:Int),(i:Int),((200+k:Nat):Int)))) (some (.nx (x_6.1,F6 .i64 x_6.2 1)))) (some (.ex x_6.1))) o5 trivial (λj x b hx hj _=>by refine⟨?_,λ_ _=>trivial⟩;simp only[O7 hx,o7,J9,hx,o8];rw[dF o5];cases C9 x (k:Int)<;>rfl) (λb _=>by simp only[O6];rfl)
      refine h1.1.trans ?_;have hfo:∀(l:List Int) (b:Int×Int×Int×Int),gB (λ(b:Int×Int×Int×Int) x=>l7 (C9 x (k:Int)) (.inr ((9:Int),(3:Int),(i:Int),((200+k:Nat):Int))) (.inl b)) l b=l7 (l.any λx=>C9 (k:Int) x) (.inr (9,3,(i:Int),((200+k:Nat):Int))) (.inl b):=by
       intro l;induction l with
       |nil=>intro b;rfl|cons a l ih=>
        intro b;unfold gB;rw[qx,show C9 (k:Int) a=C9 a (k:Int) by unfold C9;by_cases h:a=(k:Int)<;>simp[h,eq_comm]];cases C9 a (k:Int)
        .simp only[o6,kC];exact ih b
        .rfl
      rw[hfo];cases (vC s (k:Int)).any λx=>C9 (k:Int) x<;>rfl
     refine O9 hcy ?_;unfold VP;cases (vC s (k:Int)).any λx=>C9 (k:Int) x<;>rfl
    .simp only[O6];rfl
  .have e:=lS hk;have hr:=(hS.ro _ (N8 hk)).1;simp only[O7 e,o7];rw[Sj hL.scopes hs e hr,o8,show(300:Int)=((300:Nat):Int)from rfl,Na o5 o5];simp only[NK,e,PI];cases C9 (KA s (Su l s) k s.2.2.2.2[k]) 0<;>rfl
  .simp only[O6];rfl
def En(l:dL)(i:Nat):Option (Int×Int×Int×Int):=match l.2.2[i]? with|some s=>Oa 3 i (Eo l i s)|none=>none
def KF(l:dL):Int×Int×Int×Int:=l7 (H6 4 (o9 l.2.2)) (4,3,4,0) (match dR l.2.2.length (En l)with|some r=>r|none=>(0,0,0,0))
def Cj(l:dL):Int×Int×Int×Int:=l7 (C9 (IM l).1 0) (l7 (C9 (Et l).1 0) (KF l) (Et l)) (IM l)
theorem Ph(hL:SmL l):uG l=some (KF l):=by
 have hf:=hL.few.2.2;unfold uG KF;cases H6 4 (o9 l.2.2)
 case true=>rfl
 simp only[o6];refine O9 (mP (p:=En l) l.2.2.length o5 _ (0,0,0,0) (λi hi=>?_) ?_) ?_
 rotate_left 2
 .cases dR l.2.2.length (En l)<;>rfl
 .have e:=lS hi;simp only[O7 e,o7,RD hL e,o8,En,e,Oa];cases C9 (Eo l i l.2.2[i]).1 0<;>rfl
 .rw[O6];rfl
theorem Xy(hL:SmL l):wC l=some (Cj l):=by
 unfold wC Cj;rw[Rz hL.few hL.en,o8];cases C9 (IM l).1 0
 .rfl
 simp only[I7,o6,o7];rw[Pi hL.few hL.tb,o8];cases C9 (Et l).1 0
 .rfl
 simp only[I7,o6,o7];rw[Ph hL];rfl
theorem SV{k i:Int}{c:Int×Int}{r:Int×Int×Int×Int}(h:Oa k i c=some r):r.1≠0:=by
 unfold Oa at h;cases hc:C9 c.1 0<;>rw[hc]at h
 .cases h;exact IR.1 hc
 .cases h
theorem UU(hL:SmL l):wR l=some (Cj l):=by
 have hf1:=hL.few.1;have hf2:=hL.few.2.1;have hf3:=hL.few.2.2;unfold wR Cj IM;cases H6 8 (o9 l.1)
 case true=>rfl
 simp only[o6];refine O9 (mP (p:=MS l) l.1.length o5 _ (0,0,0,0) (λi hi=>?_) ?_) ?_
 rotate_left 2
 .cases hfe:dR l.1.length (MS l)with
  |some r=>
   obtain⟨k,_,hk⟩:=oz hfe;have hc:r.1≠0:=by
    unfold MS at hk;split at hk
    .exact SV hk
    .cases hk
   simp only[o8,lW,N9 hc,o6]
  |none=>
   simp only[o8,U3,Z9 (rfl:(0:Int)=0),o7];unfold Et;cases H6 8 (o9 l.2.1)
   case true=>rfl
   simp only[o6];refine O9 (mP (p:=Gu l) l.2.1.length o5 _ (0,0,0,0) (λi hi=>?_) ?_) ?_
   rotate_left 2
   .cases hft:dR l.2.1.length (Gu l)with
    |some r=>
     obtain⟨k,_,hk⟩:=oz hft;have hc:r.1≠0:=by
      unfold Gu at hk;split at hk
      .exact SV hk
      .cases hk
     simp only[o8,lW,N9 hc,o6]
    |none=>
     simp only[o8,U3,Z9 (rfl:(0:Int)=0),o7];unfold KF;cases H6 4 (o9 l.2.2)
     case true=>rfl
     simp only[o6];refine O9 (mP (p:=En l) l.2.2.length o5 _ (0,0,0,0) (λi hi=>?_) ?_) ?_
     rotate_left 2
     .cases dR l.2.2.length (En l)<;>rfl
     .have e:=lS hi;simp only[O7 e,o7,Qy hL e,o8,En,e,Oa];cases hc:C9 (Eo l i l.2.2[i]).1 0
      .simp only[o6,NU,hc];rfl
      .simp only[o7,Z9 (rfl:(0:Int)=0)];rfl
     .simp only[O6];rfl
   .have e:=lS hi;simp only[O7 e,o7,Qz hL.few e (hL.tb _ (N8 hi)),o8,Gu,e,Oa,Hq];cases hc:C9 (QZ l i l.2.1[i]).1 0
    .simp only[o6,hc];rfl
    .simp only[o7,Z9 (rfl:(0:Int)=0)];rfl
   .simp only[O6];rfl
 .have e:=lS hi;have hm:=hL.en _ (N8 hi);simp only[O7 e,o7,Si hL.few e hm.1 hm.2,o8,MS,e,Oa,Hq];cases hc:C9 (PH l i l.1[i]).1 0
  .simp only[o6,hc];rfl
  .simp only[o7,Z9 (rfl:(0:Int)=0)];rfl
 .simp only[O6];rfl
structure SmC (c:TCase):Prop where
 ni:c.2.1.length<=1000
 nm:c.2.2.length<=1000
 nv:∀v∈c.2.2,v.length<=1000
def b6B(r:Int×Int)(t:Int):Bool:=l7 (CP r) (l7 (P7 r.1 t) (H6 t r.2) false) false
section
variable (on:Nat->Bool) (par:Nat->Int)
def a1r(i:Nat):Nat:=((List.range i).filter on).length
def b0p(i:Nat):Int:=if on i=true then(a1r on i:Int)else if h:0<=par i/\par i<(i:Int)then b0p (par i).toNat else -1
termination_by i
decreasing_by omega
def anc(i:Nat):Int:=if 0<=par i/\par i<(i:Int)then b0p on par (par i).toNat else -1
def onL(n:Nat):List Nat:=(List.range n).filter on
theorem a7j{n i:Nat}(h:i∈onL on n):i<n/\on i=true:=by unfold onL at h;obtain⟨h1,h2⟩:=jl.1 h;exact⟨di.1 h1,h2⟩
end
def castL(l:List Nat):List Int:=l.map λ(i:Nat)=>(i:Int)
def b6J(s:J3)(i:Nat):Int:=match s.2.2.2.2[i]? with|some r=>r.2.2.1|none=>-1
theorem a7k(on:Nat->Bool)(n:Nat):(onL on n).Pairwise (·< ·):=List.Pairwise.filter _ qY
end Go.GP
namespace Go.GP
open Gt
set_option maxRecDepth 100000
def b6s(par prio:List Int)(i:Nat):Option Int:=match par[i]?,prio[i]? with
 |some p,some q=>l7 (H6 p (-1)) (some 9) (l7 (P7 (i:Int) p) (some 9) (l7 (H6 q 0) (some 3) (l7 (H6 9 q) (some 3) none)))|_,_=>none
def a4y(par prio:List Int):Int:=l7 (G8 (C9 (o9 par) (o9 prio))) 2 (l7 (H6 8 (o9 par)) 4 (match dR par.length (b6s par prio)with|some r=>r|none=>0))
section
variable (par prio:List Int) (ap:List Bool)
variable (hv:a4y par prio=0)
include hv
end
end Go.GP
namespace Go.GP
open Gt
set_option maxRecDepth 100000
section
variable (par prio:List Int) (ap:List Bool) (hv:a4y par prio=0) (hap:ap.length=par.length)
include hv in
include hv in
include hv in
include hv in
include hv in
include hv hap in
end
section
variable (par prio:List Int) (ap:List Bool) (hv:a4y par prio=0) (hap:ap.length=par.length)
include hv hap in
end
end Go.GP
namespace Go.GP
open Gt
set_option maxRecDepth 100000
def Hw(O:List Int)(x:Int):Bool:=O.any λy=>C9 y x
variable {O:List Int}
theorem Fp{x:Int} :Hw O x=true↔x∈O:=by
 unfold Hw;rw[jU];constructor
 .rintro⟨y,hy,h⟩;rw[mf]at h;exact h▸hy
 .exact λh=>⟨x,h,Z9 rfl⟩
def a2P(s:J3)(d:Int)(O:List Int):Bool:=(bM s d).all λx=>Hw O x
def okN(s:J3)(O:List Int)(d:Nat):Bool:=l7 (Hw O (d:Int)) false (a2P s (d:Int) O)
def b0q(s:J3)(O:List Int)(d:Nat):Option Nat:=l7 (okN s O d) (some d) none
def b0r(s:J3)(O:List Int):Option Nat:=dR s.2.2.2.1.length (b0q s O)
def b0s(s:J3):Nat->List Int->List Int⊕(List Int×Int)
 |0,O=> .inl O|k+1,O=>if O.length<s.2.2.2.1.length then(match b0r s O with|none=> .inr ([],9)|some d=>b0s s k (O++[(d:Int)]))else .inl O
def UN(s:J3):List Int×Int:=match b0s s 100 []with| .inl O=>(O,0)| .inr x=>x
def Jm(s:J3)(e:Int)(i:Nat):List Nat:=onL (λd=>decide (e∈bM s (d:Int))) i
def TA(s:J3)(O:List Int)(d:Int):List Int:=(bM s d).filter λx=> !Hw O x
def hw(W:List Int)(d:Int):Int:=W.getD d.toNat 0
theorem Wh{l:List Int}(h:SI l){m:Int}(hm:m∉O):((l.filter λx=> !Hw (O++[m]) x).length:Int)=((l.filter λx=> !Hw O x).length:Int) -(if m∈l then 1 else 0):=by
 have hh:∀x,Hw (O++[m]) x=(Hw O x || C9 m x):=λx=>by unfold Hw;rw[oC];simp
 induction l with
 |nil=>simp|cons a l ih=>
  have h' :=P8.1 h;have ih' :=ih h'.2;rw[dW,dW,hh];by_cases hma:m=a
  .subst hma;have hno:m∉l:=λhx=>by have:=h'.1 m hx;omega
   rw[if_neg hno]at ih';have h1:Hw O m=false:=by
    cases hq:Hw O m
    .rfl
    .exact absurd (Fp.1 hq) hm
   have hA:(!(Hw O m || C9 m m))=false:=by rw[Z9 rfl];simp
   have hB:(!Hw O m)=true:=by rw[h1];rfl
   rw[hA,hB,if_pos (show m∈m::l by simp)];simp only[ay,if_false,if_true,G7];omega
  .rw[N9 hma,Bool.or_false];have:(if m∈a::l then(1:Int)else 0)=if m∈l then 1 else 0:=by simp[hma]
   rw[this];cases Hw O a
   .simp only[Bool.not_false,if_true,G7];omega
   .simp only[gG,ay,if_false];exact ih'
structure KInv (s:J3) (O W H:List Int):Prop where
 nd:O.Nodup
 rng:∀x∈O,0<=x/\x<nD s
 cl:∀u∈O,∀x∈bM s u,x∈O
 wl:W.length=s.2.2.2.1.length
 w:∀d,0<=d->d<nD s->hw W d=((TA s O d).length:Int)
 hp:a4G H H.length
 hnd:H.Nodup
 hm:∀d,d∈H↔0<=d/\d<nD s/\d∉O/\hw W d=0
variable {s:J3}
theorem a7i{d:Nat} :okN s O d=true↔(d:Int)∉O/\TA s O (d:Int)=[]:=by
 unfold okN a2P TA;cases hq:Hw O (d:Int)
 .have h1:(d:Int)∉O:=λh=>by rw[Fp.2 h]at hq;cases hq
  simp only[o6,fK,mF,iT,Bool.not_eq_false'];exact⟨λh=>⟨h1,λa ha=>by rw[h a ha]⟩,λh a ha=>h.2 a ha⟩
 .have h1:=Fp.1 hq;simp only[o7];exact⟨λh=>(by cases h),λh=>absurd h1 h.1⟩
theorem KInv.ready{O W H:List Int}(h:KInv s O W H){d:Nat}(hd:d<s.2.2.2.1.length):okN s O d=true↔(d:Int)∈H:=by
 have hn:nD s=((s.2.2.2.1.length:Nat):Int):=rfl;rw[a7i,h.hm];have:=h.w (d:Int) o5 o5;constructor
 .rintro⟨h1,h2⟩;exact⟨o5,o5,h1,by rw[this,h2];rfl⟩
 .rintro⟨_,_,h1,h2⟩;refine⟨h1,P9.1 ?_⟩;rw[this]at h2;omega
structure UInv (s:J3) (W H0:List Int) (us:List Int) (W' H' :List Int):Prop where
 wl:W'.length=s.2.2.2.1.length
 w:∀d,0<=d->d<nD s->hw W' d=hw W d -(if d∈us then 1 else 0)
 hp:a4G H' H'.length
 pm:∃P:List Int,H'.Perm (H0++P)/\P.Sublist us/\∀d,d∈P↔d∈us/\hw W d=1
theorem Jn{m:Int}{d:Int} :d∈castL (Jm s m s.2.2.2.1.length)↔0<=d/\d<nD s/\m∈bM s d:=by
 have hn:nD s=((s.2.2.2.1.length:Nat):Int):=rfl;unfold castL;rw[fQ];constructor
 .rintro⟨k,hk,rfl⟩;obtain⟨h1,h2⟩:=a7j _ hk;exact⟨o5,o5,by simpa using h2⟩
 .rintro⟨h1,h2,h3⟩;refine⟨d.toNat,?_,o5⟩;unfold Jm onL;rw[jl,di];exact⟨o5,by rw[bC h1];simpa using h3⟩
theorem a1o{l:List Nat}(h:l.Pairwise (·< ·)):SI (castL l):=List.Pairwise.map _ (λa b h=>by omega) h
theorem KInv.step{O W H:List Int}(h:KInv s O W H)(h0:0<H.length){m:Nat}(hm:hg H 0=(m:Int)){R:List Int}(hR:a4G R R.length)(hRp:(R++[(m:Int)]).Perm H){W' H' :List Int}(hU:UInv s W R (castL (Jm s (m:Int) s.2.2.2.1.length)) W' H'):KInv s (O++[(m:Int)]) W' H' :=by
 have hn:nD s=((s.2.2.2.1.length:Nat):Int):=rfl;have hmem:(m:Int)∈H:=by rw[←hm];have:=a4T h0;exact pg this
 have hmm:=(h.hm _).1 hmem;have hleft:TA s O (m:Int)=[]:=by have:=h.w (m:Int) hmm.1 hmm.2.1;rw[hmm.2.2.2]at this;exact P9.1 o5
 have hdeps:∀x∈bM s (m:Int),x∈O:=λx hx=>by have hnil:=mF.1 hleft x hx;simp only[iT,Bool.not_eq_false']at hnil;exact Fp.1 hnil
 have hndR:(R++[(m:Int)]).Nodup:=hRp.nodup_iff.2 h.hnd;have hmR:(m:Int)∉R:=λhx=>by have:=(L8.1 hndR).2.2 _ hx _ (lg.2 rfl);exact this rfl
 have hRm:∀d,d∈R↔d∈H/\d≠(m:Int):=λd=>by
  rw[←hRp.mem_iff,I9,lg];constructor
  .intro hx;exact⟨.inl hx,λhq=>hmR (hq▸hx)⟩
  .rintro⟨hx|hx,hq⟩
   .exact hx
   .exact absurd hx hq
 obtain⟨P,p1,p2,p3⟩:=hU.pm;have huO:∀u,(m:Int)∈bM s u->u∉O:=λu hu hx=>hmm.2.2.1 (h.cl u hx _ hu);refine⟨?_,?_,?_,hU.wl,λd d0 d1=>?_,hU.hp,?_,λd=>?_⟩
 .exact L8.2 ⟨h.nd,x9,λa ha b hb=>by simp at hb;subst hb;intro hq;subst hq;exact hmm.2.2.1 ha⟩
 .intro x hx;rcases I9.1 hx with hx|hx
  .exact h.rng x hx
  .simp at hx;subst hx;exact⟨hmm.1,hmm.2.1⟩
 .intro u hu x hx;rcases I9.1 hu with hu|hu
  .exact Z4 _ (h.cl u hu x hx)
  .simp at hu;subst hu;exact Z4 _ (hdeps x hx)
 .rw[hU.w d d0 d1,h.w d d0 d1];unfold TA;rw[Wh (zu s d) hmm.2.2.1];congr 1;have:(d∈castL (Jm s (m:Int) s.2.2.2.1.length))↔((m:Int)∈bM s d):=by rw[Jn];exact⟨λh=>h.2.2,λh=>⟨d0,d1,h⟩⟩
  by_cases hq:(m:Int)∈bM s d
  .rw[if_pos (this.2 hq),if_pos hq]
  .rw[if_neg (λhx=>hq (this.1 hx)),if_neg hq]
 .rw[p1.nodup_iff];refine L8.2 ⟨(L8.1 hndR).1,?_,λa ha b hb hq=>?_⟩
  .have:(castL (Jm s (m:Int) s.2.2.2.1.length)).Nodup:=(a1o (a7k _ _)).imp λ{a b} h=>by omega
   exact p2.nodup this
  .subst hq;have h1:=(h.hm a).1 ((hRm a).1 ha).1;have h2:=(p3 a).1 hb;omega
 .rw[p1.mem_iff,I9,hRm,p3,Jn,h.hm];have hw' :=λd0 d1=>hU.w d d0 d1;have hmemU:d∈castL (Jm s (m:Int) s.2.2.2.1.length)↔0<=d/\d<nD s/\(m:Int)∈bM s d:=Jn;constructor
  .rintro(⟨⟨d0,d1,dO,dw⟩,dm⟩|⟨⟨d0,d1,dd⟩,dw⟩)
   .refine⟨d0,d1,λhx=>?_,?_⟩
    .rcases I9.1 hx with hx|hx
     .exact dO hx
     .simp at hx;exact dm hx
    .have hnot:(m:Int)∉bM s d:=λhx=>by
      have h1:=h.w d d0 d1;rw[dw]at h1;have h2:TA s O d=[]:=P9.1 o5;have h3:=mF.1 h2 _ hx;simp only[iT,Bool.not_eq_false']at h3;exact hmm.2.2.1 (Fp.1 h3)
     rw[hw' d0 d1,dw,if_neg (λhx=>hnot (hmemU.1 hx).2.2)];rfl
   .refine⟨d0,d1,λhx=>?_,?_⟩
    .rcases I9.1 hx with hx|hx
     .exact huO d dd hx
     .simp at hx;rw[hx]at dd;exact hmm.2.2.1 (hdeps _ dd)
    .rw[hw' d0 d1,if_pos (hmemU.2 ⟨d0,d1,dd⟩)];omega
  .rintro⟨d0,d1,dO,dw⟩;rw[hw' d0 d1]at dw;have dO1:d∉O:=λhx=>dO (Z4 _ hx);have dm:d≠(m:Int):=λhx=>dO (by rw[hx];simp);by_cases hq:(m:Int)∈bM s d
   .rw[if_pos (hmemU.2 ⟨d0,d1,hq⟩)]at dw;exact .inr ⟨⟨d0,d1,hq⟩,o5⟩
   .rw[if_neg (λhx=>hq (hmemU.1 hx).2.2)]at dw;exact .inl ⟨⟨d0,d1,dO1,o5⟩,dm⟩
def a9W(s:J3)(i:Nat):List (List Int):=(List.range s.2.2.2.1.length).map λ(e:Nat)=>castL (Jm s (e:Int) i)
structure IInv (s:J3) (i:Nat) (U:List (List Int)) (W H:List Int):Prop where
 u:U=a9W s i
 w:W=pd ((List.range i).map λ(d:Nat)=>((bM s (d:Int)).length:Int)) (s.2.2.2.1.length -i)
 hp:a4G H H.length
 hnd:H.Nodup
 hm:∀d,d∈H↔0<=d/\d<(i:Int)/\bM s d=[]
 hl:H.length<=i
end Go.GP
namespace Gt
open Go Go.GP
def il(y:Int):Bool:=if y % 4=0 then(if y % 100≠0 then true else decide (y % 400=0))else false
def ys(y:Int):Int:=(y -1900)*365+((y -1) / 4 -(y -1) / 100+(y -1) / 400) -460
def diy(y:Int):Int:=if il y then 366 else 365
theorem Hr(y:Int):ys (y+1)=ys y+diy y:=by unfold ys diy il;by_cases h4:y % 4=0<;>by_cases h100:y % 100=0<;>by_cases h400:y % 400=0<;>simp[h4,h100,h400]<;>omega
theorem a4Y(a b:Int):a<b\/b<=a:=o5
theorem Py(y:Int):365<=diy y/\diy y<=366:=by unfold diy;split<;>omega
theorem zo{y y' :Int}(h:y<=y'):ys y<=ys y' :=by
 obtain⟨n,rfl⟩:∃n:Nat,y' =y+n:=⟨(y' -y).toNat,o5⟩;clear h;induction n with
 |zero=>simp|succ n ih=>have:=Hr (y+n);have:=Py (y+n);have e:y+((n+1:Nat):Int)=y+n+1:=o5;rw[e];omega
variable {y:Int}
theorem MO(h:1900<=y):0<=ys y:=by
 have:=zo h;have e:ys 1900=0:=by decide+kernel
 omega
theorem a0Z{y y' d:Int}(h1:ys y<=d)(h2:d<ys (y+1))(h3:ys y' <=d)(h4:d<ys (y' +1)):y=y' :=by
 rcases Int.lt_trichotomy y y' with h|h|h
 .have:=zo (y:=y+1) (y' :=y') o5;omega
 .exact h
 .have:=zo (y:=y' +1) (y' :=y) o5;omega
def dim(y m:Int):Int:=
 if m=2 then(if il y then 29 else 28)else if m=4\/m=6\/m=9\/m=11 then 30 else 31
theorem Us(y m:Int):28<=dim y m/\dim y m<=31:=by
 unfold dim;repeat' split
 all_goals omega
theorem Fb(h:0<=y):AZ y=some (il y):=by
 unfold AZ il;simp only[zU h];by_cases h4:y % 4=0
 .rw[kL (Z9 h4),if_pos h4];by_cases h100:y % 100=0
  .simp[C9,h100]
  .simp[C9,h100]
 .rw[kZ (N9 h4),if_neg h4]
theorem EI(h:0<=y):zf y=some (il y):=Fb h
theorem Hy(h:0<=y):kG y=some (diy y):=by unfold kG diy;rw[EI h,o8];cases il y<;>rfl
variable {m:Int}
theorem m12(h:1<=m/\m<=12):m=1\/m=2\/m=3\/m=4\/m=5\/m=6\/m=7\/m=8\/m=9\/m=10\/m=11\/m=12:=o5
theorem Hu(h:0<=y)(hm:1<=m/\m<=12):kw y m=some (dim y m):=by
 unfold kw;rcases m12 hm with rfl|rfl|rfl|rfl|rfl|rfl|rfl|rfl|rfl|rfl|rfl|rfl
 all_goals first|rfl|(rw[Fb h];unfold dim;cases il y<;>rfl)
theorem FW(h:0<=y)(hm:1<=m/\m<=12):jI y m=some (dim y m):=by
 unfold jI;rcases m12 hm with rfl|rfl|rfl|rfl|rfl|rfl|rfl|rfl|rfl|rfl|rfl|rfl
 all_goals first|rfl|(rw[EI h];unfold dim;cases il y<;>rfl)
theorem Bc(h:0<=y)(h2:y<=1000000):rH y=some (y / 4 -y / 100+y / 400):=by unfold rH;simp only[eU,lX h];rw[yD iG,yD iG,yD iG,fO iG,jS iG]
theorem Bd(h:1<=y)(h2:y<=1000000):ny y=some (ys y):=by unfold ny;have e1:Y1 .i64 y 1900=y -1900:=fO iG;have e2:DU .i64 (y -1900) 365=(y -1900)*365:=a1H iG;rw[fO (a:=y) (b:=1) iG,Bc o5 o5,o8,Bc o5 o5,o8,e1,e2,jS iG,fO iG];unfold ys;congr 1
def mo(y:Int):Nat->Int->Int×Int
 |0,d=>(d,13)|n+1,d=>if d<dim y (12 -n)then(d,12 -n)else mo y n (d -dim y (12 -n))
theorem l_(y:Int)(n:Nat)(d:Int):mo y (n+1) d=if d<dim y (12 -(n:Int))then(d,12 -(n:Int))else mo y n (d -dim y (12 -(n:Int))):=rfl
def rem(y:Int):Nat->Int
 |0=>0|n+1=>dim y (12 -n)+rem y n
theorem a2U(y:Int):rem y 12=diy y:=by unfold diy;cases h:il y<;>simp[rem,dim,h]
theorem a1S(y:Int):∀(n:Nat) (d:Int),n<=12->0<=d->d<rem y n->1<=(mo y n d).2/\(mo y n d).2<=12/\0<=(mo y n d).1/\(mo y n d).1<dim y (mo y n d).2
 |0,d,_,h0,h=>by simp[rem]at h;omega|n+1,d,hn,h0,h=>by
  unfold mo;by_cases hd:d<dim y (12 -n)
  .rw[if_pos hd];refine⟨?_,?_,h0,hd⟩<;>simp<;>omega
  .rw[if_neg hd];refine a1S y n _ o5 o5 ?_;simp only[rem]at h;omega
def yOf(d:Int):Int:=((((List.range 300).find? (λ(k:Nat)=>decide (d<ys (1900+(k:Int)+1)))).getD 0:Nat):Int)+1900
variable {d:Int}
theorem Rt(h0:0<=d)(h:d<=109572):1900<=yOf d/\yOf d<=2199/\ys (yOf d)<=d/\d<ys (yOf d+1):=by
 unfold yOf;cases hf:(List.range 300).find? (λ(k:Nat)=>decide (d<ys (1900+(k:Int)+1)))with
 |none=>
  have:=List.find?_eq_none.1 hf 299 x9;simp only[decide_eq_true_eq]at this;have e:ys (1900+(299:Nat)+1)=109573:=by decide+kernel
  omega
 |some k=>
  have h1:=List.find?_some hf;simp only[decide_eq_true_eq]at h1;have h2:=List.mem_of_find?_eq_some hf;simp only[di]at h2;simp only[cu];refine⟨o5,o5,?_,?_⟩
  .cases k with
   |zero=>
    have e:ys 1900=0:=by decide+kernel
    simp[e,h0]
   |succ j=>have h3:=List.find?_range_eq_some.1 hf;have h4:=h3.2.2 j o5;simp only[aI,decide_eq_false_iff_not,qL]at h4;have e:(((j+1:Nat):Int)+1900)=1900+(j:Int)+1:=o5;rw[e];exact h4
  .have e:(k:Int)+1900+1=1900+k+1:=o5;rw[e];exact h1
def ymd(d:Int):Int×Int×Int:=let y:=yOf d;let r:=mo y 12 (d -ys y);(y,r.2,r.1+1)
theorem RG(h0:0<=d)(h:d<=109572):DC d=some (ymd d):=by
 obtain⟨y1,y2,y3,y4⟩:=Rt h0 h;have y0:=MO y1;unfold DC zN;rw[kL (ai h0),o8,ai h,I7,o6];have e0:F6 .i64 1900 (eU .i64 d 366)=1900+d / 366:=by
  have e:eU .i64 d 366=d / 366:=by rw[JE (by rw[lX h0];unfold lG;omega),lX h0]
  rw[e,jS iG]
 rw[e0];obtain⟨y,hy,hq⟩:=qy (f:=λ(x:Int)=>l9 (ny (F6 IntKind.i64 x 1)) λ(x_1:Int)=>l7 (P7 x_1 d) (some (Sum.inl (F6 IntKind.i64 x 1))) (some (Sum.inr x))) (s:=1900+d / 366)
  (λy=>1900<=y/\y<=yOf d) (λy=>y=yOf d) (λy=>(2200 -y).toNat) (by
   refine⟨o5,?_⟩;have e:∀n:Nat,ys (1900+n)<=366*n:=by
    intro n;induction n with
    |zero=>decide+kernel|succ n ih=>have:=Hr (1900+n);have:=Py (1900+n);have e:(1900:Int)+((n+1:Nat):Int)=1900+n+1:=o5;rw[e];omega
   have e1:=e (d / 366).toNat
   have e2:((d / 366).toNat:Int)=d / 366:=o5;rw[e2]at e1;rcases a4Y (yOf d) (1900+d / 366)with hlt|hge
   .have:=zo (y:=yOf d+1) (y' :=1900+d / 366) o5;omega
   .exact hge) o5 (by
   intro y ⟨hy1,hy2⟩
   try simp only
   rw[jS iG,Bd o5 o5,o8];by_cases hle:ys (y+1)<=d
   .refine .inl ⟨y+1,by rw[kL (ai hle)],⟨o5,?_⟩,o5⟩;rcases a4Y (yOf d) (y+1)with hlt|hge
    .have:=zo (y:=yOf d+1) (y' :=y+1) o5;omega
    .exact hge
   .refine .inr ⟨y,by rw[kZ (aW o5)],?_⟩;rcases a4Y y (yOf d)with hlt|hge
    .have:=zo (y:=y+1) (y' :=yOf d) o5;omega
    .omega)
 rw[hy,o8,hq,Bd o5 o5,o8,fO iG];have hs:=Hr (yOf d);have hr:=a2U (yOf d);rcases xG (f:=λ(x:Int×Int)=>l7 (H6 x.2 12) (l9 (kw (yOf d) (F6 IntKind.i64 x.2 1)) λ(x_1:Int)=>l7 (H6 x.1 x_1) (some (Out.rt (yOf d,F6 IntKind.i64 x.2 1,F6 IntKind.i64 x.1 1))) (some (Out.nx (Y1 IntKind.i64 x.1 x_1,F6 IntKind.i64 x.2 1)))) (some (Out.ex PUnit.unit))) (s:=(d -ys (yOf d),0))
  (λs=>∃n:Nat,n<=12/\s.2=12 -n/\mo (yOf d) n s.1=mo (yOf d) 12 (d -ys (yOf d))/\0<=s.1/\s.1<rem (yOf d) n/\s.1<=400) (λ_=>False) (λr=>r=ymd d) (λs=>(12 -s.2).toNat)
  ⟨12,o5,x9,rfl,o5,by rw[hr];show d -ys (yOf d)<_;omega,by have:=Py (yOf d);show d -ys (yOf d)<=400;omega⟩ x9 (by
   rintro⟨r,i⟩ ⟨n,hn,hi,hm,hr0,hrn,hr4⟩;simp only at hi hm hr0 hrn hr4 ⊢;cases n with
   |zero=>simp[rem]at hrn;omega|succ n=>
    have ei:i+1=12 -n:=o5;rw[kL (bn o5),jS iG,ei,Hu o5 o5,o8];have hb:=Us (yOf d) (12 -n);rw[l_ (yOf d) n r]at hm;by_cases hlt:r<dim (yOf d) (12 -n)
    .rw[if_pos hlt]at hm;refine .inr (.inr ⟨_,by rw[kL (bn hlt)],?_⟩);rw[jS iG];unfold ymd
     try simp only
     rw[←hm]
    .rw[if_neg hlt]at hm;refine .inl ⟨_,by rw[kZ (au o5),fO iG],⟨n,o5,x9,hm,?_,?_,?_⟩,?_⟩
     .simp;omega
     .simp only[rem]at hrn ⊢;omega
     .simp;omega
     .simp;omega)with⟨_,_,hf⟩|⟨r,he,hr⟩
 .exact hf.elim
 .rw[he,o8,lW,hr]
theorem QE(h0:0<=d)(h:d<=109572):Bq d=some (ymd d):=by
 obtain⟨y1,y2,y3,y4⟩:=Rt h0 h;have y0:=MO y1;unfold Bq yx;rw[kL (ai h0),o8,ai h,I7,o6];obtain⟨⟨r,y⟩,hy,hq⟩:=qy (f:=λ(x:Int×Int)=>l9 (kG x.2) λ(x_1:Int)=>l7 (P7 x_1 x.1) (l9 (kG x.2) λ(x_2:Int)=>some (Sum.inl (Y1 IntKind.i64 x.1 x_2,F6 IntKind.i64 x.2 1))) (some (Sum.inr x))) (s:=(d,1900))
  (λs=>1900<=s.2/\s.2<=yOf d/\s.1=d -ys s.2) (λs=>s=(d -ys (yOf d),yOf d)) (λs=>(2200 -s.2).toNat)
  ⟨x9,by simpa using y1,by(have e:ys 1900=0:=by decide+kernel);simp[e]⟩ x9 (by
   rintro⟨r,y⟩ ⟨h1,h2,h3⟩;simp only at h1 h2 h3 ⊢;have hb:=Py y;have hs:=Hr y;have hm:=zo h2;have hpos:0<=ys y:=by
     have:=zo (y:=1900) (y' :=y) h1;have e:ys 1900=0:=by decide+kernel
     omega
   rw[Hy o5,o8];by_cases hle:diy y<=r
   .refine .inl ⟨(r -diy y,y+1),?_,⟨by simp;omega,?_,?_⟩,?_⟩
    .rw[kL (ai hle),o8,fO iG,jS iG]
    .simp only;rcases a4Y (yOf d) (y+1)with hlt|hge
     .have:=zo (y:=yOf d+1) (y' :=y+1) o5;omega
     .exact hge
    .simp only;omega
    .simp;omega
   .refine .inr ⟨_,by rw[kZ (aW o5)],?_⟩;have e:y=yOf d:=a0Z (d:=d) o5 o5 y3 y4;subst e;rw[h3])
 rw[hy,o8,hq]
 try simp only
 have hs:=Hr (yOf d);have hr:=a2U (yOf d);obtain⟨⟨r,m⟩,he,hq2⟩:=qy (f:=λ(x:Int×Int)=>l9 (jI (yOf d) x.2) λ(x_1:Int)=>l7 (P7 x_1 x.1) (l9 (jI (yOf d) x.2) λ(x_2:Int)=>some (Sum.inl (Y1 IntKind.i64 x.1 x_2,F6 IntKind.i64 x.2 1))) (some (Sum.inr x))) (s:=(d -ys (yOf d),1))
  (λs=>∃n:Nat,n<=12/\s.2=13 -n/\mo (yOf d) n s.1=mo (yOf d) 12 (d -ys (yOf d))/\0<=s.1/\s.1<rem (yOf d) n/\s.1<=400) (λs=>s=mo (yOf d) 12 (d -ys (yOf d))) (λs=>(13 -s.2).toNat)
  ⟨12,o5,x9,rfl,o5,by rw[hr];show d -ys (yOf d)<_;omega,by have:=Py (yOf d);show d -ys (yOf d)<=400;omega⟩ x9 (by
   rintro⟨r,i⟩ ⟨n,hn,hi,hm,hr0,hrn,hr4⟩;simp only at hi hm hr0 hrn hr4 ⊢;cases n with
   |zero=>simp[rem]at hrn;omega|succ n=>
    have ei:i=12 -n:=o5;subst ei;rw[FW o5 o5,o8];have hb:=Us (yOf d) (12 -n);rw[l_ (yOf d) n r]at hm;by_cases hlt:r<dim (yOf d) (12 -n)
    .rw[if_pos hlt]at hm;exact .inr ⟨_,by rw[kZ (aW o5)],hm⟩
    .rw[if_neg hlt]at hm;refine .inl ⟨(r -dim (yOf d) (12 -n),12 -n+1),by rw[kL (ai o5),o8,fO iG,jS iG],⟨n,o5,by simp;omega,hm,?_,?_,?_⟩,?_⟩
     .simp;omega
     .simp only[rem]at hrn ⊢;omega
     .simp;omega
     .simp;omega)
 rw[he,o8,hq2];have hb:=a1S (yOf d) 12 (d -ys (yOf d)) o5 o5 (by rw[hr];omega);have hb2:=Us (yOf d) (mo (yOf d) 12 (d -ys (yOf d))).2;rw[jS iG];rfl
theorem Zu(h0:0<=d)(h:d<=109572):1900<=(ymd d).1/\(ymd d).1<=2199/\1<=(ymd d).2.1/\(ymd d).2.1<=12/\1<=(ymd d).2.2/\(ymd d).2.2<=31:=by
 obtain⟨y1,y2,y3,y4⟩:=Rt h0 h;have y0:=MO y1;have hs:=Hr (yOf d);have hb:=a1S (yOf d) 12 (d -ys (yOf d)) o5 o5 (by rw[a2U];omega);have hb2:=Us (yOf d) (mo (yOf d) 12 (d -ys (yOf d))).2;unfold ymd
 try simp only
 omega
end Gt
namespace Go.GP
open Gt
set_option maxRecDepth 100000
def a6P(n:Int)(k:Nat):Prop:=n<2^k/\(0<n->0<k/\2^(k -1)<=n)
theorem a6P.shift{n:Int}{j k:Nat}(h:a6P (n / 2^j) k)(hn:2^j<=n):a6P n (j+k):=by
 have hp:(0:Int)<2^j:=Int.pow_pos o5;have h1:0<n / 2^j:=by have:=zX hp (show 1*2^j<=n by omega);omega
 obtain⟨a,b⟩:=h;obtain⟨b1,b2⟩:=b h1;have hdm:=Int.mul_ediv_add_emod n (2^j);have hm:=CY n hp;have hm0:=FB n (show(2:Int)^j≠0 by omega);refine⟨?_,λ_=>⟨o5,?_⟩⟩
 .have:(2:Int)^j*(n / 2^j+1)<=2^j*2^k:=Int.mul_le_mul_of_nonneg_left o5 o5;rw[Int.mul_add,Int.mul_one]at this;rw[Int.pow_add];omega
 .have:(2:Int)^j*2^(k -1)<=2^j*(n / 2^j):=Int.mul_le_mul_of_nonneg_left b2 o5;rw[show j+k -1=j+(k -1) by omega,Int.pow_add];omega
def q1(q:Int)(u:Bool):Int:=l7 u (q+1) q
def sg(q:Int)(neg:Bool):Int:=l7 neg (-q) q
def a6b(r:EL):Prop:=lG r.2.1/\lG r.2.2.1/\lG r.2.2.2
def a1g(t:kQ):Prop:=t.2.2.2.length<=200/\∀r∈t.2.2.2,a6b r
abbrev V3:Type:=Int×Int×Int
theorem Lj{α β ρ:Type}(G:β->α->β⊕ρ)(P:ρ->Prop)(hG:∀b a r,G b a= .inr r->P r):∀(l:List α) (b:β) (r:ρ),gB G l b= .inr r->P r
 |[],b,r,h=>by cases h|a::l,b,r,h=>by
  unfold gB at h;cases hg:G b a with
  |inr r' =>rw[hg]at h;simp only at h;cases h;exact hG _ _ _ hg|inl b' =>rw[hg]at h;exact Lj G P hG l b' r h
theorem a6S:∀i:Fin 40,(arF ((i.1:Nat):Int)=0->i.1∈[1,2,3,4,5,6,7,8,9,35,36,37,38,39])/\(arF ((i.1:Nat):Int)=1->i.1∈[10,25,31,32,33,34])/\(arF ((i.1:Nat):Int)=2->i.1∈[11,12,13,14,15,16,17,18,19,20,21,22,23,24,27,28,29,30])/\(arF ((i.1:Nat):Int)=3->i.1=26):=by decide+kernel
variable {k:Int}
theorem b0h(h:k<1\/39<k):arF k=-1:=by
 unfold arF gW;rw[N9 (show k≠10 by omega),N9 (show k≠25 by omega),N9 (show k≠31 by omega),N9 (show k≠32 by omega),N9 (show k≠33 by omega),N9 (show k≠34 by omega),N9 (show k≠26 by omega)];rcases h with h|h
 .rw[aW (show k<1 by omega),aW (show k<35 by omega),aW (show k<11 by omega)];rfl
 .rw[ai (show 1<=k by omega),aW (show 9<k by omega),ai (show 35<=k by omega),aW (show 39<k by omega),ai (show 11<=k by omega),aW (show 30<k by omega)];rfl
theorem b6A(h:arF k≠-1):∃i:Fin 40,k=((i.1:Nat):Int):=by
 by_cases g:1<=k/\k<=39
 .exact⟨⟨k.toNat,o5⟩,by simp;omega⟩
 .exact absurd (b0h o5) h
structure EvOk (env:TEnv):Prop where
 ms:env.2.2.2.1.length<=1000000
 tb:∀t∈env.2.2.2.2.2,a1g t
def XT.node:XT->Int×Int
 | .l0 n=>n| .l1 n _=>n| .l2 n _ _=>n| .l3 n _ _ _=>n
def rtI(t:XT)(o:Nat):Nat:=o+t.size -1
def At(e:List (Int×Int))(S:List Int)(t:XT)(o:Nat):Prop:=∃pre suf S1 S2,e=pre++t.post++suf/\S=S1++t.sts o++S2/\pre.length=o/\S1.length=o
variable {e:List (Int×Int)}{o:Nat}{S:List Int}{n:Int×Int}{a:XT}
theorem ZF(h:At e S (.l1 n a) o):At e S a o:=by obtain⟨p,s,S1,S2,h1,h2,h3,h4⟩:=h;exact⟨p,[n]++s,S1,[(o:Int)]++S2,by rw[h1];simp[XT.post],by rw[h2];simp[XT.sts],h3,h4⟩
theorem SH{a b:XT}(h:At e S (.l2 n a b) o):At e S a o/\At e S b (o+a.size):=by
 obtain⟨p,s,S1,S2,h1,h2,h3,h4⟩:=h;exact⟨⟨p,b.post++[n]++s,S1,b.sts (o+a.size)++[(o:Int)]++S2,by rw[h1];simp[XT.post],by rw[h2];simp[XT.sts],h3,h4⟩,
  ⟨p++a.post,[n]++s,S1++a.sts o,[(o:Int)]++S2,by rw[h1];simp[XT.post],by rw[h2];simp[XT.sts],by simp[XT.post_len,h3],by simp[XT.sts_len,h4]⟩⟩
theorem Jt{a b c:XT}(h:At e S (.l3 n a b c) o):At e S a o/\At e S b (o+a.size)/\At e S c (o+a.size+b.size):=by
 obtain⟨p,s,S1,S2,h1,h2,h3,h4⟩:=h;exact⟨⟨p,b.post++c.post++[n]++s,S1,b.sts (o+a.size)++c.sts (o+a.size+b.size)++[(o:Int)]++S2,by rw[h1];simp[XT.post],by rw[h2];simp[XT.sts],h3,h4⟩,
  ⟨p++a.post,c.post++[n]++s,S1++a.sts o,c.sts (o+a.size+b.size)++[(o:Int)]++S2,by rw[h1];simp[XT.post],by rw[h2];simp[XT.sts],by simp[XT.post_len,h3],by simp[XT.sts_len,h4]⟩,
  ⟨p++a.post++b.post,[n]++s,S1++a.sts o++b.sts (o+a.size),[(o:Int)]++S2,by rw[h1];simp[XT.post],by rw[h2];simp[XT.sts],by simp[XT.post_len,h3];try omega,by simp[XT.sts_len,h4];try omega⟩⟩
theorem a0C(t:XT):∃p,t.post=p++[t.node]/\p.length+1=t.size:=by
 have hl:=t.post_len;cases t with
 |l0 n=>exact⟨[],rfl,rfl⟩|l1 n a=>refine⟨a.post,rfl,?_⟩;simp only[XT.post,I8,dZ]at hl;exact hl|l2 n a b=>refine⟨a.post++b.post,rfl,?_⟩;simp only[XT.post,I8,dZ]at hl ⊢;exact hl|l3 n a b c=>refine⟨a.post++b.post++c.post,rfl,?_⟩;simp only[XT.post,I8,dZ]at hl ⊢;exact hl
theorem a4q(t:XT)(o:Nat):∃p,t.sts o=p++[(o:Int)]/\p.length+1=t.size:=by
 have hl:=t.sts_len o;cases t with
 |l0 n=>exact⟨[],rfl,rfl⟩|l1 n a=>refine⟨a.sts o,rfl,?_⟩;simp only[XT.sts,I8,dZ]at hl;exact hl|l2 n a b=>refine⟨a.sts o++b.sts (o+a.size),rfl,?_⟩;simp only[XT.sts,I8,dZ]at hl ⊢;exact hl|l3 n a b c=>refine⟨a.sts o++b.sts (o+a.size)++c.sts (o+a.size+b.size),rfl,?_⟩;simp only[XT.sts,I8,dZ]at hl ⊢;exact hl
variable {t:XT}
theorem sS(h:At e S t o):e[rtI t o]? =some t.node/\S[rtI t o]? =some (o:Int)/\rtI t o<e.length:=by
 obtain⟨p,s,S1,S2,h1,h2,h3,h4⟩:=h;obtain⟨q,e1,e2⟩:=a0C t;obtain⟨q',e1',e2'⟩:=a4q t o;have hp:=t.size_pos;have a1:e[rtI t o]? =some t.node:=by rw[h1,e1,E8,E8,←E8 p,H8 (by simp[rtI];omega)];rw[show rtI t o -(p++q).length=0 by simp[rtI];omega];rfl
 refine⟨a1,?_,(ax.1 a1).1⟩;rw[h2,e1',E8,E8,←E8 S1,H8 (by simp[rtI];omega)];rw[show rtI t o -(S1++q').length=0 by simp[rtI];omega];rfl
def a0A:XT->Nat->List Int
 | .l0 _,_=>[]| .l1 _ a,o=>[(rtI a o:Int)]| .l2 _ a b,o=>[(rtI a o:Int),(rtI b (o+a.size):Int)]| .l3 _ a b c,o=>[(rtI a o:Int),(rtI b (o+a.size):Int),(rtI c (o+a.size+b.size):Int)]
structure OStep (S:List Int) (f:List Int×Int×Int->Option ((List Int×Int×Int)⊕List Int)):Prop where
 step:∀(l:List Int) (c:Nat) (j:Nat) (x:Nat),j<l.length->l.length<=3->S[c]? =some ((x:Nat):Int)->x<=100->f (l,(c:Int),(j:Int))=some (.inl (l.set j (c:Int),(x:Int) -1,(j:Int) -1))
 stop:∀(l:List Int) (c:Int),f (l,c,-1)=some (.inr l)
theorem vM{σ ε:Type}{f:σ->Option (σ⊕ε)}{s s' :σ}{n:Nat}(h:f s=some (.inl s')):ul f (n+1) s=ul f n s' :=by rw[ul,h]
theorem zA{σ ε:Type}{f:σ->Option (σ⊕ε)}{s:σ}{e:ε}{n:Nat}(h:f s=some (.inr e)):ul f (n+1) s=some e:=by rw[ul,h]
theorem a2m{f:List Int×Int×Int->Option ((List Int×Int×Int)⊕List Int)}(hs:OStep S f)(h:At e S t o)(he:e.length<=48)(hw:t.wf):
  dV f (List.replicate (arF t.node.1).toNat 0,(rtI t o:Int) -1,arF t.node.1 -1)=some (a0A t o):=by
 obtain⟨k,hk⟩:∃k,gy=k+1+1+1+1:=⟨gy -4,by unfold gy;omega⟩;unfold dV;rw[hk];have hr:=sS h;cases t with
 |l0 n=>rw[show arF (XT.l0 n).node.1=0 from hw];exact zA (hs.stop _ _)|l1 n a=>rw[show arF (XT.l1 n a).node.1=1 from hw.1];have ha:=sS (ZF h);have p1:=a.size_pos;rw[show((rtI (.l1 n a) o:Nat):Int) -1=((rtI a o:Nat):Int) by simp only[rtI,XT.size];omega];rw[show((1:Int) -1)=((0:Nat):Int)from rfl,vM (hs.step _ _ 0 o x9 x9 ha.2.1 (by unfold rtI at hr;omega))];rw[show(((0:Nat):Int) -1)=-1 from rfl,zA (hs.stop _ _)];rfl|l2 n a b=>rw[show arF (XT.l2 n a b).node.1=2 from hw.1];have ha:=sS (SH h).1;have hb:=sS (SH h).2;have p1:=a.size_pos;have p2:=b.size_pos;rw[show((rtI (.l2 n a b) o:Nat):Int) -1=((rtI b (o+a.size):Nat):Int) by simp only[rtI,XT.size];omega];rw[show((2:Int) -1)=((1:Nat):Int)from rfl,vM (hs.step _ _ 1 (o+a.size) x9 x9 hb.2.1 (by unfold rtI at hb;omega))];rw[show((o+a.size:Nat):Int) -1=((rtI a o:Nat):Int) by unfold rtI;omega,show(((1:Nat):Int) -1)=((0:Nat):Int)from rfl];rw[vM (hs.step _ _ 0 o x9 x9 ha.2.1 (by unfold rtI at hr;omega))];rw[show(((0:Nat):Int) -1)=-1 from rfl,zA (hs.stop _ _)];rfl|l3 n a b c=>rw[show arF (XT.l3 n a b c).node.1=3 from hw.1];have ha:=sS (Jt h).1;have hb:=sS (Jt h).2.1;have hc:=sS (Jt h).2.2;have p1:=a.size_pos;have p2:=b.size_pos;have p3:=c.size_pos;rw[show((rtI (.l3 n a b c) o:Nat):Int) -1=((rtI c (o+a.size+b.size):Nat):Int) by simp only[rtI,XT.size];omega];rw[show((3:Int) -1)=((2:Nat):Int)from rfl,vM (hs.step _ _ 2 (o+a.size+b.size) x9 x9 hc.2.1 (by unfold rtI at hc;omega))];rw[show((o+a.size+b.size:Nat):Int) -1=((rtI b (o+a.size):Nat):Int) by unfold rtI;omega,show(((2:Nat):Int) -1)=((1:Nat):Int)from rfl];rw[vM (hs.step _ _ 1 (o+a.size) x9 x9 hb.2.1 (by unfold rtI at hb;omega))];rw[show((o+a.size:Nat):Int) -1=((rtI a o:Nat):Int) by unfold rtI;omega,show(((1:Nat):Int) -1)=((0:Nat):Int)from rfl];rw[vM (hs.step _ _ 0 o x9 x9 ha.2.1 (by unfold rtI at hr;omega))];rw[show(((0:Nat):Int) -1)=-1 from rfl,zA (hs.stop _ _)];rfl
theorem b6v(h:t.wf):0<=arF t.node.1/\arF t.node.1<=3:=by
 cases t with
 |l0 n=>rw[show arF (XT.l0 n).node.1=0 from h];decide|l1 n a=>rw[show arF (XT.l1 n a).node.1=1 from h.1];decide|l2 n a b=>rw[show arF (XT.l2 n a b).node.1=2 from h.1];decide|l3 n a b c=>rw[show arF (XT.l3 n a b c).node.1=3 from h.1];decide
variable {α:Type}
theorem a0j(h:0<=k)(h2:k<=1000000)(x:α):FM k x=some (List.replicate k.toNat x):=if_pos ⟨h,o5⟩
theorem yX{T t:XT}(hT:jR e= .inr T)(h:At e (T.sts 0) t o)(hw:t.wf):rW e (rtI t o:Int)=some (a0A t o):=by
 obtain⟨hp,he⟩:=sK hT;have hr:=sS h;have ha:=b6v hw;unfold rW;rw[Cf,o8];unfold rf;rw[hT];simp only[J9,hr.1,o8,YH,Z9 (rfl:(0:Int)=0),I7,o6];rw[au (show(0:Int)<=((rtI t o:Nat):Int) by omega),aW (show((rtI t o:Nat):Int)<o9 e by unfold o9;omega)];simp only[o6,o8,U3];rw[a0j ha.1 o5,o8,uz];rw[show Y1 .i64 ((rtI t o:Nat):Int) 1=(rtI t o:Int) -1 from fO iG];rw[show Y1 .i64 (arF t.node.1) 1=arF t.node.1 -1 from fO iG];refine a2m ⟨λl c j x hj hl hx hx2=>?_,λl c=>?_⟩ h he hw
 .have hjl:l[j]? =some l[j]:=lS hj;simp only[ai (show(0:Int)<=(j:Int) by omega),o7,J9,hjl,o8,hx,eH,dB,U7,um];rw[fO iG,fO iG]
 .rfl
abbrev VSt:Type:=V3×List V3×Int
structure VStep (ops:List Int) (ev:Int->Option (V3×Int)) (pad:List V3->List V3) (f:VSt->Option (Out VSt (V3×List V3) (V3×Int))):Prop where
 step:∀(l:List V3) (c:Int) (r:V3×Int),ops[l.length]? =some c->ev c=some r->f ((0,0,0),pad l,(l.length:Int))=some (l7 (C9 r.2 0) (.nx ((0,0,0),pad (l++[r.1]),((l.length+1:Nat):Int))) (.rt ((0,0,0),r.2)))
 stop:∀(l:List V3),l.length=ops.length->f ((0,0,0),pad l,(l.length:Int))=some (.ex ((0,0,0),l))
section
variable {ev:Int->Option (V3×Int)} {pad:List V3->List V3} {f:VSt->Option (Out VSt (V3×List V3) (V3×Int))}
theorem v0(h:VStep [] ev pad f):U2 f ((0,0,0),pad [],0)=some (.inl ((0,0,0),[])):=by obtain⟨k,hk⟩:∃k,gy=k+1:=⟨gy -1,by unfold gy;omega⟩;unfold U2;rw[hk,jE,show f ((0,0,0),pad [],0)=some (.ex ((0,0,0),[]))from h.stop [] rfl]
theorem v1{c:Int}{r:V3×Int}(h:VStep [c] ev pad f)(h1:ev c=some r):U2 f ((0,0,0),pad [],0)=some (l7 (C9 r.2 0) (.inl ((0,0,0),[r.1])) (.inr ((0,0,0),r.2))):=by
 obtain⟨k,hk⟩:∃k,gy=k+1+1:=⟨gy -2,by unfold gy;omega⟩;unfold U2;rw[hk,jE,show f ((0,0,0),pad [],0)=_ from h.step [] c r rfl h1];cases C9 r.2 0
 .rfl
 .simp only[o7];rw[jE,show f ((0,0,0),pad ([]++[r.1]),(([].length+1:Nat):Int))=_ from h.stop [r.1] rfl]
theorem v2{c d:Int}{r q:V3×Int}(h:VStep [c,d] ev pad f)(h1:ev c=some r)(h2:ev d=some q):U2 f ((0,0,0),pad [],0)=some (l7 (C9 r.2 0) (l7 (C9 q.2 0) (.inl ((0,0,0),[r.1,q.1])) (.inr ((0,0,0),q.2))) (.inr ((0,0,0),r.2))):=by
 obtain⟨k,hk⟩:∃k,gy=k+1+1+1:=⟨gy -3,by unfold gy;omega⟩;unfold U2;rw[hk,jE,show f ((0,0,0),pad [],0)=_ from h.step [] c r rfl h1];cases C9 r.2 0
 .rfl
 .simp only[o7];rw[jE,show f ((0,0,0),pad ([]++[r.1]),(([].length+1:Nat):Int))=_ from h.step [r.1] d q rfl h2];cases C9 q.2 0
  .rfl
  .simp only[o7];rw[jE,show f ((0,0,0),pad ([r.1]++[q.1]),(([r.1].length+1:Nat):Int))=_ from h.stop [r.1,q.1] rfl]
end
theorem a6T(h:arF k=3):k=26:=by obtain⟨i,rfl⟩:=b6A (by rw[h];decide);rw[(a6S i).2.2.2 h];rfl
theorem VK(h:jR e= .inr t):At e (t.sts 0) t 0/\e.length<=48/\e.length=t.size/\Y1 .i64 (o9 e) 1=(rtI t 0:Int):=by
 obtain⟨hp,h48⟩:=sK h;have hsz:e.length=t.size:=by rw[hp,XT.post_len]
 have hpos:=t.size_pos;refine⟨⟨[],[],[],[],by simp[←hp],x9,rfl,rfl⟩,h48,hsz,?_⟩;rw[fO (by unfold lG o9;omega)];unfold o9 rtI;omega
abbrev DB:Type:=List V3×List Int
def b0l(env:TEnv)(ds:List V3):TEnv:=(env.1,env.2.1,ds,env.2.2.2)
def o_:J3:=([],0,[],[],[])
def a6m(l:dL)(s:J3):J3:=l7 (P7 0 s.2.1) ((L6 l.2.2 s.2.1).getD o_) o_
theorem bu{n:Nat}{l:List α}(h:H6 (n:Int) (o9 l)=false):l.length<=n:=by rw[uk]at h;unfold o9 at h;omega
def Ip(r:gp):Bool:=l7 (H6 80 (o9 r.1)) true (l7 (H6 80 (o9 r.2.2.2.2.2.2.2)) true (l7 (H6 50 (o9 r.2.2.2.2.2.1)) true (H6 50 (o9 r.2.2.2.2.2.2.1))))
def smS(s:J3):Bool:=l7 (H6 80 (o9 s.1)) false (l7 (H6 14 (o9 s.2.2.1)) false (l7 (H6 14 (o9 s.2.2.2.1)) false (l7 (H6 60 (o9 s.2.2.2.2)) false
 (l7 (s.2.2.1.any λf=>H6 80 (o9 f.1)) false (l7 (s.2.2.2.1.any λf=>H6 80 (o9 f.1)) false (G8 (s.2.2.2.2.any Ip)))))))
theorem PL{fs:List jw}(h:fs.length<=1000000):U2 (λ(x:Int)=>l7 (H6 x (o9 fs)) (l9 (L6 fs x) λ(x_1:jw)=>l7 (H6 80 (o9 x_1.1)) (some (Out.rt false)) (some (Out.nx (F6 IntKind.i64 x 1)))) (some (Out.ex PUnit.unit))) 0=some (bif fs.any (λf=>H6 80 (o9 f.1))then .inr false else .inl PUnit.unit):=by
 refine yR fs (λf=>H6 80 (o9 f.1)) false PUnit.unit h (λi a ha=>?_) ?_
 .simp only[O7 ha,o7,J9,ha,o8];cases H6 80 (o9 a.1)<;>rfl
 .rw[O6];rfl
theorem Sv(s:J3):uQ s=some (smS s):=by
 unfold uQ smS;cases h1:H6 80 (o9 s.1)
 case true=>rfl
 cases h2:H6 14 (o9 s.2.2.1)
 case true=>rfl
 cases h3:H6 14 (o9 s.2.2.2.1)
 case true=>rfl
 cases h4:H6 60 (o9 s.2.2.2.2)
 case true=>rfl
 have l2:=bu (n:=14) h2;have l3:=bu (n:=14) h3;have l4:=bu (n:=60) h4;simp only[o6,o8,U3];rw[PL o5,PL o5,o8];cases s.2.2.1.any λf=>H6 80 (o9 f.1)
 case true=>rfl
 simp only[cond_false,U3,o6,o8];cases s.2.2.2.1.any λf=>H6 80 (o9 f.1)
 case true=>rfl
 simp only[cond_false,U3,o6];refine O9 (yR s.2.2.2.2 Ip false PUnit.unit o5 (λi a ha=>?_) ?_) ?_
 rotate_left 2
 .cases s.2.2.2.2.any Ip<;>rfl
 .simp only[O7 ha,o7,J9,ha,o8];unfold Ip;cases H6 80 (o9 a.1)<;>cases H6 80 (o9 a.2.2.2.2.2.2.2)<;>cases H6 50 (o9 a.2.2.2.2.2.1)<;>cases H6 50 (o9 a.2.2.2.2.2.2.1)<;>rfl
 .rw[O6];rfl
def ScI(s:J3):Prop:=∀r∈s.2.2.2.2,(∀n∈r.2.2.2.2.2.1,lG n.2)/\∀n∈r.2.2.2.2.2.2.1,lG n.2
theorem zI{a b:Bool}(h:l7 a false b=true):a=false/\b=true:=by cases a<;>cases b<;>first|exact⟨rfl,rfl⟩|cases h
theorem EU{l:List α}{p:α->Bool}(h:l.any p=false):∀a∈l,p a=false:=by
 intro a ha;rw[iC]at h;have:=h a ha;cases hp:p a
 .rfl
 .exact absurd hp this
theorem a7T{s:J3}(h:smS s=true)(hI:ScI s):SmS s:=by
 unfold smS at h;obtain⟨h1,h⟩:=zI h;obtain⟨h2,h⟩:=zI h;obtain⟨h3,h⟩:=zI h;obtain⟨h4,h⟩:=zI h;obtain⟨h5,h⟩:=zI h;obtain⟨h6,h⟩:=zI h;have h7:s.2.2.2.2.any Ip=false:=by cases hq:s.2.2.2.2.any Ip<;>rw[hq]at h<;>first|rfl|cases h
 refine⟨by have:=bu (n:=80) h1;omega,bu (n:=14) h2,bu (n:=14) h3,bu (n:=60) h4,⟨λf hf=>?_,λf hf=>?_⟩,λr hr=>?_⟩
 .have:=bu (n:=80) (EU h5 f hf);omega
 .have:=bu (n:=80) (EU h6 f hf);omega
 .have hl:=EU h7 r hr;unfold Ip at hl;cases g1:H6 80 (o9 r.1)<;>rw[g1]at hl
  case true=>cases hl
  cases g2:H6 80 (o9 r.2.2.2.2.2.2.2)<;>rw[g2]at hl
  case true=>cases hl
  cases g3:H6 50 (o9 r.2.2.2.2.2.1)<;>rw[g3]at hl
  case true=>cases hl
  have k1:=bu (n:=80) g1;have k2:=bu (n:=80) g2;exact⟨⟨o5,o5,(hI r hr).1,(hI r hr).2⟩,bu (n:=50) g3,bu (n:=50) hl⟩
def TB(e:dM):Bool:=l7 (H6 80 (o9 e.1)) true (l7 (H6 20 (o9 e.2)) true (e.2.any λm=>H6 80 (o9 m)))
def tG(b:Int)(t:kQ):Int⊕Bool:=l7 (H6 80 (o9 t.1)) (.inr false) (l7 (H6 150 (F6 .i64 b (o9 t.2.2.2))) (.inr false) (.inl (F6 .i64 b (o9 t.2.2.2))))
def sG(b:Int)(s:J3):Int⊕Bool:=l7 (H6 60 (F6 .i64 b (o9 s.2.2.2.2))) (.inr false) (l7 (smS s) (.inl (F6 .i64 b (o9 s.2.2.2.2))) (.inr false))
def smL(l:dL):Bool:=l7 (H6 9 (o9 l.1)) false (l7 (H6 9 (o9 l.2.1)) false (l7 (H6 5 (o9 l.2.2)) false (l7 (l.1.any TB) false
 (match gB tG l.2.1 0 with| .inr _=>false| .inl _=>match gB sG l.2.2 0 with| .inr _=>false| .inl _=>true))))
theorem a9V:∀(b:Int) (t:kQ) (r:Bool),tG b t= .inr r->r=false:=by intro b t r h;unfold tG at h;cases g0:H6 80 (o9 t.1)<;>cases g:H6 150 (F6 .i64 b (o9 t.2.2.2))<;>simp only[g0,g,o7,o6]at h<;>cases h<;>rfl
theorem a7R:∀(b:Int) (s:J3) (r:Bool),sG b s= .inr r->r=false:=by intro b s r h;unfold sG at h;cases g:H6 60 (F6 .i64 b (o9 s.2.2.2.2))<;>cases g2:smS s<;>simp only[g,g2,o7,o6]at h<;>cases h<;>rfl
theorem Xe(l:dL):xY l=some (smL l):=by
 unfold xY smL;cases h1:H6 9 (o9 l.1)
 case true=>rfl
 cases h2:H6 9 (o9 l.2.1)
 case true=>rfl
 cases h3:H6 5 (o9 l.2.2)
 case true=>rfl
 have l1:=bu (n:=9) h1;have l2:=bu (n:=9) h2;have l3:=bu (n:=5) h3;simp only[o6,o8,U3];refine O9 (yR l.1 TB false PUnit.unit o5 (λi a ha=>?_) ?_) ?_
 .simp only[O7 ha,o7,J9,ha,o8];unfold TB;cases H6 80 (o9 a.1)
  case true=>rfl
  cases h5:H6 20 (o9 a.2)
  case true=>rfl
  have l5:=bu (n:=20) h5;simp only[o6];refine O9 (yR a.2 (λm=>H6 80 (o9 m)) false PUnit.unit o5 (λj m hm=>?_) ?_) ?_
  .simp only[O7 hm,o7,J9,hm,o8];cases H6 80 (o9 m)<;>rfl
  .rw[O6];rfl
  .cases a.2.any λm=>H6 80 (o9 m)<;>rfl
 .rw[O6];rfl
 cases l.1.any TB
 case true=>rfl
 simp only[cond_false,U3,o6];apply Qa l.2.1 tG (λb i=>((b,i):Int×Int)) (λ_=>PUnit.unit) (λ_ _=>True) 0 o5 trivial
 .intro i t b hi hi' _;refine⟨?_,λ_ _=>trivial⟩;simp only[O7 hi,o7,J9,hi,o8];unfold tG;rw[dF o5];cases H6 80 (o9 t.1)<;>cases H6 150 (F6 .i64 b (o9 t.2.2.2))<;>rfl
 .intro b _;rw[O6];rfl
 .intro _;cases ht:gB tG l.2.1 0 with
  |inr r=>rw[Lj tG (λr=>r=false) a9V _ _ _ ht];rfl|inl b=>
   simp only[U3];apply Qa l.2.2 sG (λb i=>((b,i):Int×Int)) (λ_=>PUnit.unit) (λ_ _=>True) 0 o5 trivial
   .intro i s b hi hi' _;refine⟨?_,λ_ _=>trivial⟩;simp only[O7 hi,o7,J9,hi,o8,Sv];unfold sG;rw[dF o5];cases H6 60 (F6 .i64 b (o9 s.2.2.2.2))<;>cases smS s<;>rfl
   .intro b _;rw[O6];rfl
   .intro _;cases hs:gB sG l.2.2 0 with
    |inr r=>rw[Lj sG (λr=>r=false) a7R _ _ _ hs];rfl|inl b=>rfl
structure WfL (l:dL):Prop where
 rl:∀t∈l.2.1,t.2.2.2.length<=4611686018427387904
 ri:∀t∈l.2.1,∀r∈t.2.2.2,a6b r
 sl:∀s∈l.2.2,s.2.2.2.2.length<=4611686018427387904
 si:∀s∈l.2.2,ScI s
theorem Zo:∀(L:List kQ) (b b' :Int),0<=b->b<=150->(∀t∈L,t.2.2.2.length<=4611686018427387904)->gB tG L b= .inl b' ->∀t∈L,t.1.length<=80/\t.2.2.2.length<=150
 |[],_,_,_,_,_,_=>by simp|t::L,b,b',h0,h1,hw,h=>by
  have hwt:=hw t x9;have ha:F6 .i64 b (o9 t.2.2.2)=b+o9 t.2.2.2:=jS (by unfold lG o9;omega);unfold gB tG at h;rw[ha]at h;cases g0:H6 80 (o9 t.1)<;>rw[g0]at h
  case true=>cases h
  cases g1:H6 150 (b+o9 t.2.2.2)<;>rw[g1]at h
  case true=>cases h
  rw[uk]at g1;intro x hx;rcases D6.1 hx with rfl|hx
  .exact⟨bu (n:=80) g0,by unfold o9 at g1;omega⟩
  .exact Zo L (b+o9 t.2.2.2) b' (by unfold o9;omega) g1 (λq hq=>hw q (by simp[hq])) h x hx
theorem YY:∀(L:List J3) (b b' :Int),0<=b->b<=60->(∀s∈L,s.2.2.2.2.length<=4611686018427387904)->gB sG L b= .inl b' ->∀s∈L,smS s=true
 |[],_,_,_,_,_,_=>by simp|s::L,b,b',h0,h1,hw,h=>by
  have hwt:=hw s x9;have ha:F6 .i64 b (o9 s.2.2.2.2)=b+o9 s.2.2.2.2:=jS (by unfold lG o9;omega);unfold gB sG at h;rw[ha]at h;cases g1:H6 60 (b+o9 s.2.2.2.2)<;>rw[g1]at h
  case true=>cases h
  cases g2:smS s<;>rw[g2]at h
  case false=>cases h
  rw[uk]at g1;intro x hx;rcases D6.1 hx with rfl|hx
  .exact g2
  .exact YY L (b+o9 s.2.2.2.2) b' (by unfold o9;omega) g1 (λq hq=>hw q (by simp[hq])) h x hx
theorem a7S{l:dL}(h:smL l=true)(hW:WfL l):SmL l/\∀t∈l.2.1,a1g t:=by
 unfold smL at h;obtain⟨h1,h⟩:=zI h;obtain⟨h2,h⟩:=zI h;obtain⟨h3,h⟩:=zI h;obtain⟨h4,h⟩:=zI h;have l1:=bu (n:=9) h1;have l2:=bu (n:=9) h2;have l3:=bu (n:=5) h3;cases ht:gB tG l.2.1 0 with
 |inr r=>rw[ht]at h;cases h|inl b=>
  rw[ht]at h;simp only at h;cases hs:gB sG l.2.2 0 with
  |inr r=>rw[hs]at h;cases h|inl b' =>
   have T:=Zo l.2.1 0 b o5 o5 hW.rl ht;have S:=YY l.2.2 0 b' o5 o5 hW.sl hs;refine⟨⟨⟨o5,o5,o5⟩,λe he=>?_,λt ht=>by have:=(T t ht).1;omega,λs hs=>a7T (S s hs) (hW.si s hs)⟩,λt ht=>⟨by have:=(T t ht).2;omega,hW.ri t ht⟩⟩;have hl:=EU h4 e he;unfold TB at hl;cases g1:H6 80 (o9 e.1)<;>rw[g1]at hl
   case true=>cases hl
   cases g2:H6 20 (o9 e.2)<;>rw[g2]at hl
   case true=>cases hl
   have k1:=bu (n:=80) g1;exact⟨o5,λm hm=>by have:=bu (n:=80) (EU hl m hm);omega⟩
theorem WP:reachBytes<=4611686018427387904:=by decide
theorem b6u{l:dL}(h:wf b6Y l):WfL l:=by
 refine⟨λt ht=>?_,λt ht r hr=>?_,λs hs=>?_,λs hs r hr=>⟨λn hn=>?_,λn hn=>?_⟩⟩
 .have:=(h.2.1.2 t ht).2.2.2.1;exact iM this WP
 .have:=(h.2.1.2 t ht).2.2.2.2 r hr;exact⟨Jp this.2.1,Jp this.2.2.1,Jp this.2.2.2⟩
 .have:=(h.2.2.2 s hs).2.2.2.2.1;exact iM this WP
 .have:=(h.2.2.2 s hs).2.2.2.2.2 r hr;exact Jp (this.2.2.2.2.2.1.2 n hn).2
 .have:=(h.2.2.2 s hs).2.2.2.2.2 r hr;exact Jp (this.2.2.2.2.2.2.1.2 n hn).2
abbrev BB:Type:=List Bool×List Bool
def BOk(s m:J3)(b:BB):Prop:=b.1.length=s.2.2.2.1.length/\b.2.length=m.2.2.2.1.length
structure Sim (P Q:Int->Prop) (a b:TEnv):Prop where
 e1:a.1=b.1
 e2:a.2.1=b.2.1
 e3:a.2.2.2.2=b.2.2.2.2
 dl:a.2.2.1.length=b.2.2.1.length
 d:∀x,P x->L6 a.2.2.1 x=L6 b.2.2.1 x
 ml:a.2.2.2.1.length=b.2.2.2.1.length
 m:∀x,Q x->a.2.2.2.1.map (λv=>L6 v x)=b.2.2.2.1.map (λv=>L6 v x)
def a6Q(s:J3)(P Q:Int->Prop)(d:Int):Prop:=∀r∈s.2.2.2.2,r.2.1=d->∀e,e=r.2.2.2.2.2.1\/e=r.2.2.2.2.2.2.1->(∀x∈(vT e).2.1,P x)/\∀x∈(vT e).2.2,Q x
def a9Y(s:J3)(O:List Int):Prop:=O.Nodup/\(∀d∈O,0<=d/\d<nD s)/\∀(pre:List Int) (d:Int) (suf:List Int),O=pre++d::suf->∀x∈bM s d,x∈pre
structure SimE (Q:Int->Prop) (a b:TEnv):Prop where
 e1:a.1=b.1
 e2:a.2.1=b.2.1
 e3:a.2.2.2.2=b.2.2.2.2
 ml:a.2.2.2.1.length=b.2.2.2.1.length
 m:∀x,Q x->a.2.2.2.1.map (λv=>L6 v x)=b.2.2.2.1.map (λv=>L6 v x)
theorem SimE.at{P Q:Int->Prop}{a b:TEnv}(h:SimE Q a b){D D' :List V3}(hl:D.length=D'.length)(hd:∀x,P x->L6 D x=L6 D' x):Sim P Q (b0l a D) (b0l b D'):=⟨h.e1,h.e2,h.e3,hl,hd,h.ml,h.m⟩
abbrev ND(w:List Bool)(x:Int):Prop:=(L6 w x).getD false=true
structure DInv (n:Nat) (need:List Bool) (B B' :DB):Prop where
 l1:B.1.length=n/\B.2.length=n
 l2:B'.1.length=n/\B'.2.length=n
 eq:∀x,ND need x->L6 B.1 x=L6 B'.1 x/\L6 B.2 x=L6 B'.2 x
structure MInv (need:List Bool) (b b' :List DB):Prop where
 l:b.length=b'.length
 eq:∀x,ND need x->b.map (λv=>L6 v.1 x)=b'.map (λv=>L6 v.1 x)
def a1c(s:J3)(w:List Bool):Prop:=∀d,mk w d=true->∀x∈bM s d,mk w x=true
structure NI (l:dL) (s:J3) (B:BB):Prop where
 ok:BOk s (a6m l s) B
 c1:a1c s B.1
 c2:a1c (a6m l s) B.2
 hr:∀e,mk B.1 e=true->a6Q s (λx=>x∈bM s e) (λx=>mk B.2 x=true) e
structure Grows (B C:BB):Prop where
 g1:∀x,mk B.1 x=true->mk C.1 x=true
 g2:∀x,mk B.2 x=true->mk C.2 x=true
theorem Grows.refl(B:BB):Grows B B:=⟨λ_ h=>h,λ_ h=>h⟩
theorem Grows.trans{A B C:BB}(h:Grows A B)(k:Grows B C):Grows A C:=⟨λx hx=>k.g1 x (h.g1 x hx),λx hx=>k.g2 x (h.g2 x hx)⟩
end Go.GP
namespace Go.GP
open Gt
set_option maxRecDepth 100000
section
variable {en:List dM} {t:Int×Int}
end
end Go.GP
namespace Go.GP
open Gt
set_option maxRecDepth 100000
def PVW(en:List dM)(t:Int×Int)(v:V3):Prop:=v.1=t.1/\v.2.1=t.2/\(v.1=6->inB v.2.2 (bnd t en)=true)
structure TOk (sg:O0) (env:TEnv):Prop where
 inp:∀i t v,L6 sg.2.2.1 i=some t->L6 env.2.1 i=some v->PVW sg.1 t v
 dfs:∀i t v,L6 sg.2.2.2.1 i=some t->L6 env.2.2.1 i=some v->v.1≠0->PVW sg.1 t v
 mty:∀i t u,L6 sg.2.2.2.2.1 i=some t->L6 env.2.2.2.2.1 i=some u->u=t
 tbs:env.2.2.2.2.2=sg.2.1
 row:∀t∈sg.2.1,∀r∈t.2.2.2,inB r.2.2.2 (bnd t.2.2.1 sg.1)=true
end Go.GP
namespace Go.GP
open Gt
set_option maxRecDepth 100000
section
variable {sg:O0} {env:TEnv}
end
end Go.GP
namespace Go.GP
open Gt
set_option maxRecDepth 100000
abbrev a9Z:Int×Int:=(0,109573)
def onA(s:J3)(T:Int)(i:Nat):Bool:=match s.2.2.2.2[i]? with|some r=>b6B r.2.2.2.2.1 T|none=>false
def b0n(s:J3)(T:Int):List Nat:=onL (onA s T) s.2.2.2.2.length
def rOn(s:J3)(T:Int)(i:Nat):gp:=match s.2.2.2.2[i]? with
 |some r=>(r.1,r.2.1,anc (onA s T) (b6J s) i,r.2.2.2.1,a9Z,r.2.2.2.2.2.1,r.2.2.2.2.2.2.1,r.2.2.2.2.2.2.2)|none=>([],0,0,0,a9Z,[],[],[])
def sOn(T:Int)(s:J3):J3:=(s.1,s.2.1,s.2.2.1,s.2.2.2.1,(b0n s T).map (rOn s T))
end Go.GP
namespace Go.GP
open Gt
set_option maxRecDepth 100000
section
variable {A R R' :Nat->Bool} {par par' :Nat->Int} {n:Nat} (hRA:∀i,i<n->R i=true->A i=true) (hR:∀i,i<n->A i=true->R' (a1r A i)=R i) (hp:∀i,i<n->A i=true->par' (a1r A i)=anc A par i)
include hRA hR
omit hR in
omit hR in
include hp
end
end Go.GP
namespace Go.GP
open Gt
set_option maxRecDepth 100000
section
variable {s:J3} {T:Int} (h0:0<=T) (h1:T<=109572)
include h0 h1
omit h0 h1 in
omit h0 h1 in
end
end Go.GP
namespace Go.GP
open Gt
set_option maxRecDepth 100000
structure OnOk (s:J3) (T:Int):Prop where
 h0:0<=T
 h1:T<=109572
 t1:a9Y s (UN s).1
 f1:∀d,0<=d->d<nD s->d∈(UN s).1
 t2:a9Y (sOn T s) (UN (sOn T s)).1
 f2:∀d,0<=d->d<nD s->d∈(UN (sOn T s)).1
 r1:∀d,a6Q s (λx=>x∈bM s d) (λ_=>True) d
 r2:∀d,a6Q (sOn T s) (λx=>x∈bM (sOn T s) d) (λ_=>True) d
def a1l(s:J3)(k:Nat)(r:gp):Bool:=l7 (C9 r.2.2.1 (-1)) false (l7 (H6 r.2.2.1 0) true (l7 (P7 k r.2.2.1) true (match L6 s.2.2.2.2 r.2.2.1 with|some q=>G8 (C9 q.2.1 r.2.1)|none=>true)))
structure RuleV (s:J3) (sg:O0) (k:Nat) (r:gp):Prop where
 id:zW r.1=true
 nm:((s.2.2.2.2.take k).any λx=>seq x.1 r.1)=false
 df:∃d,L6 s.2.2.2.1 r.2.1=some d/\Uw r sg d.2=0
 pa:a1l s k r=false
 p0:H6 r.2.2.2.1 0=false
 p9:H6 9 r.2.2.2.1=false
 dv:CP r.2.2.2.2.1=true
 ne:C9 r.2.2.2.2.1.1 r.2.2.2.2.1.2=false
 ct:P7 8 (NW (s.2.2.2.2.take k) r.2.1)=false
 sr:Xo r.2.2.2.2.2.2.2=true
theorem RuleV.zero{s:J3}{sg:O0}{k:Nat}{r:gp}(h:RuleV s sg k r):KA s sg k r=0:=by obtain⟨d,h1,h2⟩:=h.df;unfold KA;rw[h.id,h.nm,h1];simp only[o7,o6];change l7 (a1l s k r) (9:Int) _=0;rw[h.pa,h.p0,h.p9,h.dv,h.ne,h.ct,h.sr,h2];rfl
end Go.GP
namespace Gt
open Go Go.GP
variable {n:Int}
theorem a4U(h:lG n):Cm n=some (Lib.itoa n):=by unfold Cm;rw[if_pos (show -9223372036854775808<=n/\n<=9223372036854775807 from h)]
theorem TV{s:List UInt8}{c:Nat}(h:c<=1000000)(hs:s.length<=1000000):qm s (c:Int)=some (Lib.repeatL s c):=by
 unfold qm
 have:s.length*c<=1000000*1000000:=Nat.mul_le_mul hs h;rw[if_pos ⟨o5,o5,by rw[U7];omega⟩,U7]
theorem b3g(x:UInt8)(c:Nat):Lib.repeatL [x] c=List.replicate c x:=by have:=Lib.repeatL_replicate x 1 c;simpa using this
theorem Xx{d:Int}(h0:0<=d)(h:d<10):a4A (wrap .u8 (F6 .u64 48 d))=UInt8.ofNat (48+d.toNat):=by
 rw[Wl (by unfold U64;omega)];have e:wrap .u8 (48+d)=((48+d.toNat:Nat):Int):=by unfold wrap IntKind.wrap;simp[IntKind.signed,IntKind.bits];omega
 rw[e];unfold a4A;rw[U7]
theorem a6f(n:Int):EM [n]=[a4A n]:=rfl
theorem VU:∀(k u:Nat),u<k->u<18446744073709551616->mX k (u:Int)=some (Lib.decDigits u)
 |0,u,h,_=>by omega|k+1,u,h,hu=>by
  show wL (mX k) (u:Int)=_;unfold wL;by_cases h10:u<10
  .try simp only[a6f]
   rw[kL (bn o5),Xx o5 o5,Lib.decDigits,dif_pos h10,U7]
  .have e1:(u:Int).tdiv 10=((u / 10:Nat):Int):=by rw[lX o5];omega
   have e2:jP (u:Int) 10=((u % 10:Nat):Int):=by rw[zU o5];omega
   try simp only[a6f]
   rw[kZ (au o5),a1J (by rw[e1];unfold U64;omega)];rw[e1,VU k (u / 10) o5 o5,o8,e2,Xx o5 o5,G5,o8,U7]
   .congr 1
    conv=>rhs;rw[Lib.decDigits,dif_neg h10]
   .have:=Lib.nDigits_le20 (u / 10) o5;rw[Lib.decDigits_length];simp;omega
theorem EH(h:U64 n):yY n=some (Lib.decDigits n.toNat):=by unfold U64 at h;have:=VU gy n.toNat (by unfold gy;omega) o5;rw[bC h.1]at this;exact this
theorem JF(h:lG n):(Lib.itoa n).length<=21:=Lib.itoa_length_le n h.1 h.2
variable {u:Nat}
theorem xR(h:u<18446744073709551616):1<=(Lib.decDigits u).length/\(Lib.decDigits u).length<=20:=by rw[Lib.decDigits_length];exact⟨Lib.nDigits_pos u,Lib.nDigits_le20 u h⟩
theorem vg(h:lG n):lK n=some (Lib.itoa n):=by
 unfold lG at h;unfold lK Lib.itoa;by_cases hn:n<0
 .rw[kL (bn hn),if_pos hn,jS iG,fO iG];rw[show wrap .u64 (0 -(n+1))=0 -(n+1)from KL (by unfold U64;omega),Wl (by unfold U64;omega),EH (by unfold U64;omega),o8];have e:(0 -(n+1)+1).toNat=n.natAbs:=o5;rw[e,G5,o8]
  .rfl
  .have:=(xR (u:=n.natAbs) o5).2;simp;omega
 .rw[kZ (au o5),if_neg hn,show wrap .u64 n=n from KL (by unfold U64;omega),EH (by unfold U64;omega),o8]
theorem kV(h:lG n):lh n=some (Lib.itoa n):=by unfold lh;rw[a4U h];rfl
def Le(u k:Nat):List UInt8:=
 let d:=List.replicate (k+1 -(Lib.decDigits u).length) 48++Lib.decDigits u
 d.take (d.length -k)++46::d.drop (d.length -k)
def PO(n:Int)(k:Nat):List UInt8:=if n<0 then 45::Le n.natAbs k else Le n.natAbs k
variable {k:Nat}
theorem Yf(hu:u<18446744073709551616)(hk:k<=9):(Le u k).length<=31:=by have:=xR hu;unfold Le;simp;omega
theorem Lh(h:lG n)(hk:k<=9):(PO n k).length<=32:=by unfold lG at h;have:=Yf (u:=n.natAbs) (k:=k) o5 hk;unfold PO;split<;>simp<;>omega
variable {d:List UInt8}
theorem a1t(h1:k<d.length)(h2:d.length<=100):
  iD d 0 (Y1 .i64 (o9 d) (k:Int))=some (d.take (d.length -k))/\iD d (Y1 .i64 (o9 d) (k:Int)) (o9 d)=some (d.drop (d.length -k)):=by
 have e:Y1 .i64 (o9 d) (k:Int)=((d.length -k:Nat):Int):=by rw[fO (by unfold lG o9;omega)];unfold o9;omega
 rw[e];exact⟨by rw[d_ o5 o5];simp,by rw[Lt o5 o5];simp⟩
theorem K_{d p:List UInt8}(h1:k<d.length)(h2:d.length<=100)(hp:p.length<=100):
  (l9 (iD d 0 (Y1 .i64 (o9 d) (k:Int))) λx=>l9 (J5 p x) λy=>l9 (J5 y [46]) λz=>l9 (iD d (Y1 .i64 (o9 d) (k:Int)) (o9 d)) λt=>l9 (J5 z t) λx=>some x)
   =some (p++(d.take (d.length -k)++46::d.drop (d.length -k))):=by
 obtain⟨c1,c2⟩:=a1t h1 h2;rw[c1,o8,G5 E5,o8,G5 E5,o8,c2,o8,G5 E5,o8];simp
theorem iE(h:lG n)(hk:1<=k/\k<=9):bi n (k:Int)=some (PO n k):=by
 have hI:=h;unfold lG at h;have ek:ww 0 (wz (k:Int) 9)=(k:Int):=by unfold ww wz;split<;>split<;>omega
 unfold bi pz;rw[o8,ek,kV hI,o8,kZ (N9 o5)];have hd:=xR (u:=n.natAbs) o5;have rest:∀(d p:List UInt8),1<=d.length->d.length<=20->p.length<=1->
   l7 (P7 (o9 d) (k:Int))
    (l9 (qm [48] (Y1 .i64 (F6 .i64 (k:Int) 1) (o9 d))) λx3=>l9 (J5 x3 d) λx4=>l9 (iD x4 0 (Y1 .i64 (o9 x4) (k:Int))) λx5=>l9 (J5 p x5) λx6=>l9 (J5 x6 [46]) λx7=>
     l9 (iD x4 (Y1 .i64 (o9 x4) (k:Int)) (o9 x4)) λx=>l9 (J5 x7 x) λx=>some x)
    (l9 (iD d 0 (Y1 .i64 (o9 d) (k:Int))) λx=>l9 (J5 p x) λy=>l9 (J5 y [46]) λz=>l9 (iD d (Y1 .i64 (o9 d) (k:Int)) (o9 d)) λt=>l9 (J5 z t) λx=>some x)
   =some (p++(let e:=List.replicate (k+1 -d.length) 48++d;e.take (e.length -k)++46::e.drop (e.length -k))):=by
  intro d p h1 h2 h3;by_cases hle:d.length<=k
  .rw[kL (ai (by unfold o9;omega))];have e:Y1 .i64 (F6 .i64 (k:Int) 1) (o9 d)=((k+1 -d.length:Nat):Int):=by
    rw[jS iG,fO (by unfold lG o9;omega)];unfold o9;omega
   rw[e,TV o5 x9,b3g,o8,G5 E5,o8];exact K_ E5 E5 o5
  .rw[kZ (aW (by unfold o9;omega)),K_ o5 o5 o5];have:k+1 -d.length=0:=o5;rw[this];simp
 unfold Lib.itoa PO Le;by_cases hn:n<0
 .rw[if_pos hn,if_pos hn,kL (bn hn)];have e:iD (45::Lib.decDigits n.natAbs) 1 (o9 (45::Lib.decDigits n.natAbs))=some (Lib.decDigits n.natAbs):=by
   rw[Lt o5 E5];simp
  rw[e,o8];exact rest (Lib.decDigits n.natAbs) [45] hd.1 hd.2 x9
 .rw[if_neg hn,if_neg hn,kZ (au o5)];have e:n.toNat=n.natAbs:=o5;rw[e];exact rest (Lib.decDigits n.natAbs) [] hd.1 hd.2 x9
theorem a4M :∀(h:d=Lib.decDigits u),∀c∈d,48<=c.toNat/\c.toNat<=57:=by intro h c hc;subst h;rw[Lib.decDigits_eq]at hc;obtain⟨t,_,rfl⟩:=fQ.1 hc;unfold Lib.dg;have:u / 10^(Lib.nDigits u -1 -t) % 10<10:=Nat.mod_lt _ o5;generalize u / 10^(Lib.nDigits u -1 -t) % 10=r at this;simp;omega
theorem Pv{c:UInt8}(hc:c∈Lib.decDigits u):48<=c.toNat/\c.toNat<=57:=a4M rfl c hc
theorem QC(h:∀c∈d,48<=c.toNat/\c.toNat<=57)(h1:1<=d.length):xK d=some (d,false):=by
 unfold xK;rw[kL (bn (by unfold o9;omega))];match d,h1 with
 |c::r,_=>have e:sat (c::r) 0=some (c.toNat:Int):=rfl;have:=h c x9;rw[e,o8,kZ (N9 o5)]
theorem QD :xK (45::d)=some (d,true):=by unfold xK;rw[kL (bn (by unfold o9;simp))];have e:sat (45::d) 0=some (45:Int):=rfl;rw[e,o8,kL (Z9 rfl),Lt o5 E5,o8];simp
theorem a5n(hk:k<=100)(hd:d.length<=100):
  dV (λ(x_3:List UInt8)=>l7 (P7 (o9 x_3) (k:Int)) (l9 (J5 [48] x_3) λ(x:List UInt8)=>some (Sum.inl x)) (some (Sum.inr x_3))) d=some (List.replicate (k+1 -d.length) 48++d):=by
 obtain⟨e,h1,h2⟩:=qy (f:=λ(x_3:List UInt8)=>l7 (P7 (o9 x_3) (k:Int)) (l9 (J5 [48] x_3) λ(x:List UInt8)=>some (Sum.inl x)) (some (Sum.inr x_3))) (s:=d)
  (λs=>s.length<=102/\List.replicate (k+1 -s.length) 48++s=List.replicate (k+1 -d.length) 48++d) (λe=>e=List.replicate (k+1 -d.length) 48++d) (λs=>k+1 -s.length) ⟨o5,rfl⟩ o5 (by
   intro s ⟨hs,he⟩;by_cases hle:s.length<=k
   .refine .inl ⟨48::s,?_,⟨by simp;omega,?_⟩,by simp;omega⟩
    .rw[kL (ai (by unfold o9;omega)),G5 E5];rfl
    .rw[←he];have e1:k+1 -s.length=(k+1 -(48::s).length)+1:=by simp;omega
     rw[e1,nR];simp
   .refine .inr ⟨s,?_,?_⟩
    .rw[kZ (aW (by unfold o9;omega))]
    .rw[←he,show k+1 -s.length=0 by omega];simp)
 rw[h1,h2]
theorem yw(h:lG n)(hk:1<=k/\k<=9):jH n (k:Int)=some (PO n k):=by
 have hI:=h;unfold lG at h;have ek:wz (ww (k:Int) 0) 9=(k:Int):=by unfold ww wz;split<;>split<;>omega
 unfold jH FV;have hd:=xR (u:=n.natAbs) o5;rw[o8,ek,kZ (N9 o5),vg hI,o8];have rest:∀(d:List UInt8) (b:Bool),1<=d.length->d.length<=20->
   (l9 (dV (λ(x_3:List UInt8)=>l7 (P7 (o9 x_3) (k:Int)) (l9 (J5 [48] x_3) λ(x:List UInt8)=>some (Sum.inl x)) (some (Sum.inr x_3))) (d,b).1) λ(y:List UInt8)=>
    l9 (iD y 0 (Y1 .i64 (o9 y) (k:Int))) λ(x_3:List UInt8)=>l9 (J5 x_3 [46]) λ(x_4:List UInt8)=>l9 (iD y (Y1 .i64 (o9 y) (k:Int)) (o9 y)) λ(x:List UInt8)=>
     l9 (J5 x_4 x) λ(x:List UInt8)=>l7 (d,b).2 (l9 (J5 [45] x) λ(x:List UInt8)=>some x) (some x))
   =some ((if b then[45]else[])++(let e:=List.replicate (k+1 -d.length) 48++d;e.take (e.length -k)++46::e.drop (e.length -k))):=by
  intro d b h1 h2;rw[a5n (d:=d) o5 o5,o8];generalize he:List.replicate (k+1 -d.length) 48++d=e;have hl:k<e.length/\e.length<=40:=by subst he;simp;omega
  obtain⟨c1,c2⟩:=a1t hl.1 o5;rw[c1,o8,G5 E5,o8,c2,o8,G5 E5,o8];cases b
  .simp
  .show l9 (J5 [45] _) _=_;rw[G5 E5,o8];simp
 unfold Lib.itoa PO Le;by_cases hn:n<0
 .rw[if_pos hn,if_pos hn,QD,o8];exact rest (Lib.decDigits n.natAbs) true hd.1 hd.2
 .rw[if_neg hn,if_neg hn];have e:n.toNat=n.natAbs:=o5;rw[e,QC (λc hc=>Pv hc) hd.1,o8];exact rest (Lib.decDigits n.natAbs) false hd.1 hd.2
def YA(n:Int)(w:Nat):List UInt8:=List.replicate (w -(Lib.itoa n).length) 48++Lib.itoa n
variable {w:Nat}
theorem wK(h:lG n)(hw:w<=4):(YA n w).length<=25:=by have:=JF h;unfold YA;simp;omega
theorem Fe(h:lG n)(hw:w<=4):zM n (w:Int)=some (YA n w):=by
 have hl:=JF h;unfold zM;rw[kV h,o8];have e:ww 0 (Y1 .i64 (w:Int) (o9 (Lib.itoa n)))=((w -(Lib.itoa n).length:Nat):Int):=by rw[fO (by unfold lG o9;omega)];unfold ww o9;split<;>omega
 rw[e,TV o5 x9,b3g,o8,G5 E5,o8];rfl
theorem Ef(h:lG n)(hw:w<=4):xM n (w:Int)=some (YA n w):=by
 have hl:=JF h;unfold xM;rw[vg h,o8];show _=some (List.replicate (w -(Lib.itoa n).length) 48++Lib.itoa n);generalize Lib.itoa n=d at hl ⊢;obtain⟨e,h1,h2⟩:=qy (f:=λ(x:List UInt8)=>l7 (H6 (o9 x) (w:Int)) (l9 (J5 [48] x) λ(x:List UInt8)=>some (Sum.inl x)) (some (Sum.inr x))) (s:=d)
  (λs=>s.length<=30/\List.replicate (w -s.length) 48++s=List.replicate (w -d.length) 48++d) (λe=>e=List.replicate (w -d.length) 48++d) (λs=>w -s.length) ⟨o5,rfl⟩ o5 (by
   intro s ⟨hs,he⟩;by_cases hle:s.length<w
   .refine .inl ⟨48::s,?_,⟨by simp;omega,?_⟩,by simp;omega⟩
    .rw[kL (bn (by unfold o9;omega)),G5 E5];rfl
    .rw[←he];have e1:w -s.length=(w -(48::s).length)+1:=by simp;omega
     rw[e1,nR];simp
   .refine .inr ⟨s,?_,?_⟩
    .rw[kZ (au (by unfold o9;omega))]
    .rw[←he,show w -s.length=0 by omega];simp)
 rw[h1,o8,h2]
def CO(d:Int):List UInt8:=if 0<=d/\d<=109572 then YA (ymd d).1 4++45::YA (ymd d).2.1 2++45::YA (ymd d).2.2 2 else[]
theorem a6k{a b c:List UInt8}(ha:a.length<=100)(hb:b.length<=100)(hc:c.length<=100){A C B:Option (List UInt8)}(eb:B=some b)(ec:C=some c):
  (l9 (J5 a [45]) λx2=>l9 B λx3=>l9 (J5 x2 x3) λx4=>l9 (J5 x4 [45]) λx5=>l9 C λx=>l9 (J5 x5 x) λx=>some x)=some (a++45::b++45::c):=by
 rw[G5 E5,o8,eb,o8,G5 E5,o8,G5 E5,o8,ec,o8,G5 E5,o8];simp
theorem sU(h1:-1000000<=n)(h2:n<=1000000):lG n:=by unfold lG;omega
theorem zK(d:Int):AY d=some (CO d):=by
 unfold AY zN CO;by_cases h0:0<=d
 .rw[kL (ai h0),o8];by_cases h:d<=109572
  .rw[ai h,I7,o6,RG h0 h,o8,if_pos ⟨h0,h⟩];have hb:=Zu h0 h;have p1:=sU (n:=(ymd d).1) o5 o5;have p2:=sU (n:=(ymd d).2.1) o5 o5;have p3:=sU (n:=(ymd d).2.2) o5 o5;rw[show zM (ymd d).1 4=_ from Fe (w:=4) p1 o5,o8];have l1:=wK (w:=4) p1 o5;have l2:=wK (w:=2) p2 o5;have l3:=wK (w:=2) p3 o5;exact a6k (A:=none) o5 o5 o5 (Fe (w:=2) p2 o5) (Fe (w:=2) p3 o5)
  .rw[aW o5,Z7,o7,if_neg o5]
 .rw[kZ (aW o5),o8,Z7,o7,if_neg o5]
theorem Oh(d:Int):yZ d=some (CO d):=by
 unfold yZ yx CO;by_cases h0:0<=d
 .rw[kL (ai h0),o8];by_cases h:d<=109572
  .rw[ai h,I7,o6,QE h0 h,o8,if_pos ⟨h0,h⟩];have hb:=Zu h0 h;have p1:=sU (n:=(ymd d).1) o5 o5;have p2:=sU (n:=(ymd d).2.1) o5 o5;have p3:=sU (n:=(ymd d).2.2) o5 o5;rw[show xM (ymd d).1 4=_ from Ef (w:=4) p1 o5,o8];have l1:=wK (w:=4) p1 o5;have l2:=wK (w:=2) p2 o5;have l3:=wK (w:=2) p3 o5;exact a6k (A:=none) o5 o5 o5 (Ef (w:=2) p2 o5) (Ef (w:=2) p3 o5)
  .rw[aW o5,Z7,o7,if_neg o5]
 .rw[kZ (aW o5),o8,Z7,o7,if_neg o5]
theorem Ur(d:Int):(CO d).length<=100:=by
 unfold CO;split
 .rename_i h;have hb:=Zu h.1 h.2;have l1:=wK (w:=4) (sU (n:=(ymd d).1) o5 o5) o5;have l2:=wK (w:=2) (sU (n:=(ymd d).2.1) o5 o5) o5;have l3:=wK (w:=2) (sU (n:=(ymd d).2.2) o5 o5) o5;simp;omega
 .simp
theorem qF(t:Int×Int)(en:List dM):aH t en=V9 t en:=by
 unfold aH V9;by_cases h1:t.1=1
 .simp[C9,h1,P7]
 by_cases h2:t.1=2
 .simp[C9,h2,P7]
 by_cases h3:t.1=3
 .simp[C9,h3,P7]
 by_cases h4:t.1=4
 .simp[C9,h4,P7]
 by_cases h5:t.1=5
 .simp[C9,h5,P7]
 by_cases h6:t.1=6
 .simp[C9,h6,P7]
 .simp only[C9,h1,h2,h3,h4,h5,h6,decide_false,o6,o8];by_cases h7:1<=t.1
  .rw[kL (ai h7),kZ (aW o5)]
  .rw[kZ (aW o5)]
theorem GK(t:Int×Int)(en:List dM):jM t en=dJ t en:=by unfold jM dJ;rw[qF]
theorem a0Y(n:Int)(t:Int×Int)(en:List dM):oL n t en=wM n t en:=by unfold oL wM;rw[GK]
theorem yL{v:ES}(en:List dM)(h:lG v.2.2):mO v en=sW v en:=by
 unfold mO sW xN;rw[o8,qF];cases hv:V9 (v.1,v.2.1) en with
 |none=>rfl|some b=>
  rw[o8,o8];cases b with
  |false=>rfl|true=>
   rw[I7,o6,o6];have e:Bz v en=oL v.2.2 (v.1,v.2.1) en:=by unfold Bz xN;rw[o8,hv,o8,o7,o8,uz,a0Y]
   rw[e,kV h,vg h,show bi v.2.2 2=_ from iE (k:=2) h o5,show jH v.2.2 2=_ from yw (k:=2) h o5,
    show bi v.2.2 4=_ from iE (k:=4) h o5,show jH v.2.2 4=_ from yw (k:=4) h o5,zK,Oh]
theorem yM{B:Nat}(hB:100<=B)(hB2:B<=200000000000000){v:Int×Int×Int}{en:List dM}(h:lG v.2.2)(hm:∀e∈en,e.2.length<=B/\∀m∈e.2,m.length<=B):∃t,mO v en=some t/\t.1.length<=B:=by
 unfold mO
 cases hv:aH (v.1,v.2.1) en with
 |none=>
  exfalso;rw[qF]at hv;unfold V9 at hv;simp only[mZ]at hv
  repeat' split at hv
  all_goals cases hv
 |some b=>
  rw[o8];cases b with
  |false=>exact⟨_,rfl,x9⟩|true=>
   rw[I7,o6];unfold oL jM;rw[hv];simp only[o8,I7,o6];have f1:=JF h;have f2:=Lh (k:=2) h o5;have f4:=Lh (k:=4) h o5;have f5:=Ur v.2.2;rw[kV h,show bi v.2.2 2=_ from iE (k:=2) h o5,show bi v.2.2 4=_ from iE (k:=4) h o5,zK];simp only[o8];rw[G5 (a:=PO v.2.2 4) E5];simp only[o8];by_cases h1:v.1=1
   .simp only[Z9 h1,o7,o8];simp only[bb,o8];simp only[mZ];repeat' split
    all_goals exact⟨_,rfl,by first|omega|(simp<;>omega)⟩
   by_cases h2:v.1=2
   .simp only[N9 h1,Z9 h2,o7,o6,o8];simp only[bb,o8];simp only[mZ];repeat' split
    all_goals exact⟨_,rfl,by first|omega|(simp<;>omega)⟩
   by_cases h3:v.1=3
   .simp only[N9 h1,N9 h2,Z9 h3,o7,o6,o8];simp only[bb,o8];simp only[mZ];repeat' split
    all_goals exact⟨_,rfl,by first|omega|(simp<;>omega)⟩
   by_cases h4:v.1=4
   .simp only[N9 h1,N9 h2,N9 h3,Z9 h4,o7,o6,o8];simp only[bb,o8];simp only[mZ];repeat' split
    all_goals exact⟨_,rfl,by first|omega|(simp<;>omega)⟩
   by_cases h5:v.1=5
   .simp only[N9 h1,N9 h2,N9 h3,N9 h4,Z9 h5,o7,o6,o8];simp only[bb,o8];simp only[mZ];repeat' split
    all_goals exact⟨_,rfl,by first|omega|(simp<;>omega)⟩
   .simp only[N9 h1,N9 h2,N9 h3,N9 h4,N9 h5,o6];have hk:v.1=6/\0<=v.2.1/\v.2.1<o9 en:=by
     unfold aH at hv;simp only[N9 h1,N9 h2,N9 h3,N9 h4,N9 h5,o6,o8]at hv;simp only[mZ,mf,qw]at hv;split at hv
     .split at hv
      .simp only[D7,sV]at hv;exact⟨by assumption,by assumption,hv⟩
      .cases hv
     .cases hv
    obtain⟨e,he,hmem⟩:=pO hk.2.1 hk.2.2;rw[he];simp only[o8];have hle:=(hm e hmem).1;have hll:o9 e.2=(e.2.length:Int):=rfl;rw[fO iG];by_cases hw0:0<=v.2.2
    .by_cases hw1:v.2.2<=o9 e.2 -1
     .rw[ai hw0,o7,ai hw1,o8,I7,o6];obtain⟨m,hm1,hm2⟩:=pO (l:=e.2) hw0 o5;rw[hm1];exact⟨_,rfl,(hm e hmem).2 m hm2⟩
     .rw[ai hw0,o7,aW (qK.1 hw1),o8,Z7,o7];exact⟨_,rfl,x9⟩
    .rw[aW (qK.1 hw0),o6];exact⟨_,rfl,x9⟩
end Gt
namespace Go.GP
open Gt
theorem XG:yl=some true:=by decide+kernel
theorem RH(l:List jw):pR l=jo l:=by unfold pR jo;rfl
theorem XP{α:Type}{l:List α}(h:l.length<=1000000):zq l=some l:=by unfold zq;rw[GV E5,I5]
theorem QY{l:dL}(hc:rV l.1=some l.1)(k:Int):nX l k=jJ l k:=by unfold nX jJ;simp only[hc,RH];rfl
end Go.GP
namespace Go.GP
open Gt
set_option maxRecDepth 100000
def gtN(l:List (List UInt8))(i:Int):List UInt8:=(L6 l i).getD []
def ru(k:Int):List UInt8:=(vz k).getD []
def ug(k:Int):List UInt8:=(dD k).getD []
def xk(k:Int):List UInt8×Int:=(dK k).getD ([],0)
def EP(k:Int):Bool:=l7 (C9 k 2) true (l7 (C9 k 3) true (C9 k 4))
variable {b:Bool}
theorem a6V{x y:Option (List UInt8)}(hx:∃s,x=some s/\s.length<=10)(hy:∃s,y=some s/\s.length<=10):∃s,l7 b x y=some s/\s.length<=10:=by cases b<;>assumption
theorem M_(k:Int):∃s,vz k=some s/\s.length<=10:=by
 unfold vz
 repeat (refine a6V ⟨_,rfl,V5⟩ ?_)
 exact⟨_,rfl,V5⟩
theorem a4E(k:Int):vz k=some (ru k):=by obtain⟨s,h,-⟩:=M_ k;unfold ru;rw[h];rfl
theorem rE(k:Int):fM k=some (ru k):=(show fM k=vz k from rfl).trans (a4E k)
theorem Nk(k:Int):dD k=some (ug k):=by
 unfold ug;have:∃s,dD k=some s:=by
  unfold dD;simp only[mZ];repeat' split
  all_goals exact⟨_,rfl⟩
 obtain⟨s,h⟩:=this;rw[h];rfl
theorem a4s(k:Int):dK k=some (xk k):=by
 unfold xk;have:∃s,dK k=some s:=by
  unfold dK;simp only[mZ];repeat' split
  all_goals exact⟨_,rfl⟩
 obtain⟨s,h⟩:=this;rw[h];rfl
theorem a5O(k:Int):fJ k=some (xk k):=(show fJ k=dK k from rfl).trans (a4s k)
theorem qM(k:Int):(ru k).length<=10:=by obtain⟨s,h,h2⟩:=M_ k;unfold ru;rw[h];exact h2
theorem yu(k:Int):(ug k).length<=10:=by
 unfold ug dD;simp only[mZ];repeat' split
 all_goals simp
theorem Vw(k:Int):(xk k).1.length<=10:=by
 unfold xk dK;simp only[mZ];repeat' split
 all_goals simp
structure NmOk (N:D9):Prop where
 e:∀e∈N.1,e.1.length<=1000/\∀m∈e.2,m.length<=1000
 t:∀s∈N.2.1,s.length<=1000
 i:∀s∈N.2.2.1,s.length<=1000
 d:∀s∈N.2.2.2.1,s.length<=1000
 m:∀s∈N.2.2.2.2,s.length<=1000
abbrev Tx:Type:=List UInt8×Int
def wiS(p:Tx)(c:Int):List UInt8:=l7 (H6 p.2 c) ([40]++p.1++[41]) p.1
def lV(n:Int×Int)(N:D9):Tx:=
 l7 (P7 n.1 5) (((sW (n.1,0,n.2) []).getD ([],0)).1,l7 (H6 n.2 0) 6 7)
 (l7 (C9 n.1 6) (((L6 N.1 (eU .i64 n.2 16)).getD ([],[])).1++[58]++gtN ((L6 N.1 (eU .i64 n.2 16)).getD ([],[])).2 (jP n.2 16),7)
 (l7 (C9 n.1 7) (gtN N.2.2.1 n.2,7)
 (l7 (C9 n.1 8) (gtN N.2.2.2.1 n.2,7)
 (l7 (C9 n.1 9) ([116,111,100,97,121],7)
 (l7 (C9 n.1 35) ([99,111,117,110,116,40,41],7) (ru n.1++[40]++gtN N.2.2.2.2 n.2++[41],7))))))
def Ce(n:Int×Int)(N:D9)(num:Bool)(a:Tx):Tx:=
 l7 (C9 n.1 33) (ru n.1++[40]++gtN N.2.1 n.2++[44,32]++a.1++[41],7)
 (l7 (C9 n.1 34) (ru n.1++[40]++gtN N.2.1 (eU .i64 n.2 8)++[44,32]++a.1++[44,32]++ug (jP n.2 8)++[41],7)
 (l7 (C9 n.1 25) ([110,111,116,32]++wiS a 6,6)
 (l7 (C9 n.1 10) ([45]++l7 num ([40]++a.1++[41]) (wiS a 6),6) (ru n.1++[40]++a.1++[41],7))))
def XN(k:Int):Bool:=l7 (C9 k 17) true (l7 (C9 k 18) true (l7 (C9 k 27) true (l7 (C9 k 28) true (l7 (C9 k 29) true (C9 k 30)))))
def Hz(k:Int):Bool:=l7 (C9 k 14) true (l7 (C9 k 15) true (C9 k 16))
def Gv(n:Int×Int)(a b:Tx):Tx:=
 l7 (XN n.1) (ru n.1++[40]++a.1++[44,32]++b.1++[41],7)
 (l7 (Hz n.1) (ru n.1++[40]++a.1++[44,32]++b.1++[44,32]++ug n.2++[41],7)
 (wiS a (l7 (C9 (xk n.1).2 3) 4 (xk n.1).2)++[32]++(xk n.1).1++[32]++wiS b ((xk n.1).2+1),(xk n.1).2))
def ifX(a b c:Tx):Tx:=([105,102,32]++a.1++[32,116,104,101,110,32]++b.1++[32,101,108,115,101,32]++c.1,0)
def kY(N:D9):XT->Tx
 | .l0 n=>lV n N| .l1 n a=>Ce n N (EP a.node.1) (kY N a)| .l2 n a b=>Gv n (kY N a) (kY N b)| .l3 n a b c=>ifX (kY N a) (kY N b) (kY N c)
def pcT(N:D9)(t:XT):H5:=((kY N t).1,(kY N t).2,EP t.node.1)
def AL(n:Int×Int)(args:List H5)(N:D9)(p:Tx):Prop:=
 ∃c,V4 n N=some c/\U8 n args N=some (l7 (C9 c 0) ((p.1,p.2,EP n.1),0) (([],0,false),c))
variable {α:Type}
theorem lx0(a:α)(l:List α):L6 (a::l) 0=some a:=rfl
theorem lx1(a b:α)(l:List α):L6 (a::b::l) 1=some b:=rfl
theorem lx2(a b c:α)(l:List α):L6 (a::b::c::l) 2=some c:=rfl
theorem Dv(p:H5)(c:Int)(h:p.1.length<=1000000000):dC p c=some (wiS (p.1,p.2.1) c):=by unfold dC wiS;rw[G5 E5,o8,G5 E5,o8];cases H6 p.2.1 c<;>rfl
theorem AC(p:Tx)(c:Int):(wiS p c).length<=p.1.length+2:=by unfold wiS;cases H6 p.2 c<;>simp
theorem arN(k:Int):1<=k/\k<=39\/arF k=-1:=by
 by_cases h:1<=k/\k<=39
 .exact .inl h
 .refine .inr ?_;unfold arF;rw[UV h];rfl
variable {k:Int}
theorem ar0(h:arF k=0):k=1\/k=2\/k=3\/k=4\/k=5\/k=6\/k=7\/k=8\/k=9\/k=35\/k=36\/k=37\/k=38\/k=39:=by
 rcases arN k with h1|h1
 .obtain⟨j,rfl⟩:=Qp h1;revert h;revert j;decide
 .omega
theorem ar1(h:arF k=1):k=10\/k=25\/k=31\/k=32\/k=33\/k=34:=by
 rcases arN k with h1|h1
 .obtain⟨j,rfl⟩:=Qp h1;revert h;revert j;decide
 .omega
theorem ar2(h:arF k=2):k=11\/k=12\/k=13\/k=14\/k=15\/k=16\/k=17\/k=18\/k=19\/k=20\/k=21\/k=22\/k=23\/k=24\/k=27\/k=28\/k=29\/k=30:=by
 rcases arN k with h1|h1
 .obtain⟨j,rfl⟩:=Qp h1;revert h;revert j;decide
 .omega
theorem ar3(h:arF k=3):k=26:=a6T h
variable {N:D9}{n:Int×Int}
theorem D_{args:List H5}{p:Tx}(c:Int)(h1:V4 n N=some c)(h2:U8 n args N=some (l7 (C9 c 0) ((p.1,p.2,EP n.1),0) (([],0,false),c))):AL n args N p:=⟨c,h1,h2⟩
variable {m:Int}
theorem a4X(hk:k=1\/k=2\/k=3\/k=4\/k=5)(hm:lG m)(N:D9):∃c s,V4 (k,m) N=some c/\mO (k,0,m) []=some (s,c):=by
 have b1:∀lo hi:Int,dJ (k,0) []=some (lo,hi)->V9 (k,0) []=some true->∃c s,V4 (k,m) N=some c/\mO (k,0,m) []=some (s,c):=by
  intro lo hi hb hv;have hf:V4 (k,m) N=some (l7 (H6 m lo) 3 (l7 (H6 hi m) 3 0)):=by
   unfold V4 bH;simp only[ai (show 1<=k by omega),ai (show k<=5 by omega),o7,o8,hb];cases H6 m lo
   .cases H6 hi m<;>rfl
   .rfl
  have hw:oL m (k,0) []=some (l7 (P7 lo m) (P7 m hi) false):=by unfold oL;rw[GK,hb,o8];cases P7 lo m<;>rfl
  rw[hf];obtain⟨t,ht,-⟩:=yM (B:=100) o5 o5 (v:=(k,0,m)) (en:=[]) hm (λe h=>by cases h);unfold mO at ht ⊢;simp only[qF,hv,hw,o8,I7,o6]at ht ⊢;by_cases h1:lo<=m
  .by_cases h2:m<=hi
   .rw[ai h1,ai h2,o7,I7,o6]at ht ⊢;rw[au h1,au h2,o6,o6];refine⟨0,t.1,rfl,?_⟩;rw[ht];have e:t.2=0:=by
     rcases hk with rfl|rfl|rfl|rfl|rfl
     .simp (disch:=decide) only[Z9,o7]at ht;revert ht;cases C9 m 1<;>cases C9 m 0<;>intro ht<;>cases ht<;>rfl
     .simp (disch:=decide) only[Z9,N9,o7,o6,kV hm,o8,D7]at ht;rw[←ht]
     .simp (disch:=decide) only[Z9,N9,o7,o6]at ht;rw[show bi m 2=_ from iE (k:=2) hm o5]at ht;simp only[o8,D7]at ht;rw[←ht]
     .simp (disch:=decide) only[Z9,N9,o7,o6]at ht;have f4:=Lh (k:=4) hm o5;rw[show bi m 4=_ from iE (k:=4) hm o5,o8,G5 E5]at ht;simp only[o8,D7]at ht;rw[←ht]
     .simp (disch:=decide) only[Z9,N9,o7,o6,zK,o8,D7]at ht;rw[←ht]
    rw[←e]
   .rw[ai h1,aW o5,o7,Z7,o7,au h1,bn o5,o6,o7];exact⟨3,[],rfl,rfl⟩
  .rw[aW o5,o6,Z7,o7,bn o5,o7];exact⟨3,[],rfl,rfl⟩
 rcases hk with rfl|rfl|rfl|rfl|rfl
 .exact b1 0 1 rfl rfl
 .exact b1 _ _ rfl rfl
 .exact b1 _ _ rfl rfl
 .exact b1 _ _ rfl rfl
 .exact b1 _ _ rfl rfl
theorem Aq(hk:k=1\/k=2\/k=3\/k=4\/k=5)(hm:lG m)(N:D9):AL (k,m) [] N (lV (k,m) N):=by
 obtain⟨c,s,h1,h2⟩:=a4X hk hm N;refine D_ c h1 ?_;have e:lV (k,m) N=(s,l7 (H6 m 0) 6 7):=by unfold lV;rw[ai (show k<=5 by omega),o7,←yL [] hm,h2];rfl
 have hc:c=0\/c=3:=by
  unfold V4 bH at h1;have h:=h1;simp only[ai (show 1<=k by omega),ai (show k<=5 by omega),o7,o8]at h;cases hb:dJ (k,0) []with
  |none=>rw[hb]at h;cases h|some b=>rw[hb,o8]at h;cases hx:H6 m b.1<;>cases hy:H6 b.2 m<;>simp only[hx,hy,o7,o6,D7]at h<;>omega
 have hr:lZ (k,m)=some (l7 (C9 c 0) ((s,l7 (l7 (EP k) (H6 m 0) false) 6 7,EP k),0) (([],0,false),c)):=by
  unfold lZ EP;simp only[h2,o8];rcases hc with rfl|rfl
  .simp only[Z9 (rfl:(0:Int)=0),I7,o6,o7,Y9,o8];cases H6 m 0<;>cases C9 k 2<;>cases C9 k 3<;>cases C9 k 4<;>rfl
  .rfl
 rw[e];unfold U8;rw[hr];have hneg:c=0->l7 (l7 (EP k) (H6 m 0) false) (6:Int) 7=l7 (H6 m 0) 6 7:=by
  intro h0;subst h0;cases hg:H6 m 0
  .cases EP k<;>rfl
  rcases hk with rfl|rfl|rfl|rfl|rfl
  .exfalso;unfold V4 bH at h1;simp only[show dJ (1,0) []=some (0,1)from rfl,ai (show(1:Int)<=1 by omega),ai (show(1:Int)<=5 by omega),o7,o8,hg,D7]at h1;omega
  .rfl
  .rfl
  .rfl
  .exfalso;unfold V4 bH at h1;simp only[show dJ (5,0) []=some (0,109572)from rfl,ai (show(1:Int)<=5 by omega),ai (show(5:Int)<=5 by omega),o7,o8,hg,D7]at h1;omega
 rcases hc with rfl|rfl
 .rw[hneg rfl];rcases hk with rfl|rfl|rfl|rfl|rfl<;>rfl
 .rcases hk with rfl|rfl|rfl|rfl|rfl<;>rfl
variable {l:List (List UInt8)}{i:Int}
theorem IV(h0:0<=i)(h:i<o9 l):L6 l i=some (gtN l i)/\gtN l i∈l:=by obtain⟨x,h1,h2⟩:=pO h0 h;unfold gtN;rw[h1];exact⟨rfl,h2⟩
theorem xw{B:Nat}(h:∀s∈l,s.length<=B)(i:Int):(gtN l i).length<=B:=by
 unfold gtN;cases hl:L6 l i with
 |none=>simp|some x=>exact h x (jm hl).2.2.1
theorem NJ(k m:Int)(args:List H5)(N:D9)(hk:k=6\/k=7\/k=8\/k=36\/k=37\/k=38\/k=39):U8 (k,m) args N=dh (k,m) N:=by unfold U8;generalize hq:dh (k,m) N=q;rcases hk with rfl|rfl|rfl|rfl|rfl|rfl|rfl<;>simp (disch:=decide) only[Z9,N9,o7,o6,o8,hq]<;>cases q<;>rfl
theorem vW(hk:k=7\/k=8\/k=36\/k=37\/k=38\/k=39)(hN:NmOk N):AL (k,m) [] N (lV (k,m) N):=by
 have key:∀(l:List (List UInt8)) (before after:List UInt8),(∀s∈l,s.length<=1000)->before.length<=100->after.length<=100->
   V4 (k,m) N=l7 (H6 m 0) (some 6) (l7 (P7 (o9 l) m) (some 6) (some 0))->
   dh (k,m) N=l7 (H6 m 0) (some (([],0,false),6))
    (l7 (P7 (o9 l) m) (some (([],0,false),6))
     (l9 (L6 l m) λ(x_1:List UInt8)=>
      l9 (J5 before x_1) λ(x_2:List UInt8)=>
       l9 (J5 x_2 after) λ(x:List UInt8)=>some ((x,7,false),0)))->
   lV (k,m) N=(before++gtN l m++after,7)->AL (k,m) [] N (lV (k,m) N):=by
  intro l before after hl hb ha hf0 hr he;have hf:V4 (k,m) N=some (l7 (H6 m 0) 6 (l7 (P7 (o9 l) m) 6 0)):=by rw[hf0];cases H6 m 0<;>cases P7 (o9 l) m<;>rfl
  refine D_ _ hf ?_;have hnum:EP k=false:=by rcases hk with rfl|rfl|rfl|rfl|rfl|rfl<;>rfl
  rw[NJ _ _ _ _ o5,hr,he,hnum];by_cases h0:m<0
  .rw[bn h0];rfl
  by_cases h1:o9 l<=m
  .simp only[au (show 0<=m by omega),ai h1];rfl
  .have:=IV (l:=l) (i:=m) o5 o5;have h2:=hl _ this.2;simp only[au (show 0<=m by omega),aW (show m<o9 l by omega),o6,this.1,o8];rw[G5 o5,o8,G5 E5,o8];rfl
 have mem:∀k:Int,(k=36\/k=37\/k=38\/k=39)->dh (k,m) N=l7 (H6 m 0) (some (([],0,false),6))
    (l7 (P7 (o9 N.2.2.2.2) m) (some (([],0,false),6))
     (l9 (L6 N.2.2.2.2 m) λ(x_1:List UInt8)=>
      l9 (J5 (ru k++[40]) x_1) λ(x_2:List UInt8)=>
       l9 (J5 x_2 [41]) λ(x:List UInt8)=>some ((x,7,false),0))):=by
  intro k hk;have hw:=qM k;unfold dh Y9;simp only[N9 (show k≠6 by omega),N9 (show k≠7 by omega),N9 (show k≠8 by omega),o6,rE,o8,G5 (a:=ru k) (b:=[40]) E5,U3]
 have lf:∀k:Int,(k=36\/k=37\/k=38\/k=39)->lV (k,m) N=(ru k++[40]++gtN N.2.2.2.2 m++[41],7):=by intro k hk;unfold lV;simp only[aW (show 5<k by omega),N9 (show k≠6 by omega),N9 (show k≠7 by omega),N9 (show k≠8 by omega),N9 (show k≠9 by omega),N9 (show k≠35 by omega),o6]
 have wl:=λk=>qM k;rcases hk with rfl|rfl|rfl|rfl|rfl|rfl
 .refine key N.2.2.1 [] [] hN.i x9 x9 rfl ?_ ?_
  .unfold dh Y9;simp (disch:=decide) only[Z9,N9,o7,o6,o8,U3]
  .unfold lV;simp (disch:=decide) only[Z9,N9,aW,o7,o6];simp
 .refine key N.2.2.2.1 [] [] hN.d x9 x9 rfl ?_ ?_
  .unfold dh Y9;simp (disch:=decide) only[Z9,N9,o7,o6,o8,U3]
  .unfold lV;simp (disch:=decide) only[Z9,N9,aW,o7,o6];simp
 .exact key N.2.2.2.2 (ru 36++[40]) [41] hN.m V5 V5 rfl (mem _ o5) (lf _ o5)
 .exact key N.2.2.2.2 (ru 37++[40]) [41] hN.m V5 V5 rfl (mem _ o5) (lf _ o5)
 .exact key N.2.2.2.2 (ru 38++[40]) [41] hN.m V5 V5 rfl (mem _ o5) (lf _ o5)
 .exact key N.2.2.2.2 (ru 39++[40]) [41] hN.m V5 V5 rfl (mem _ o5) (lf _ o5)
theorem Ou(h:lG m)(d:Int)(hd:d=8\/d=16):eU .i64 m d=m.tdiv d:=by
 refine JE ?_;unfold lG at h ⊢;rcases hd with rfl|rfl
 all_goals
  rcases Int.lt_or_le m 0 with h0|h0
  .have e:=Int.neg_tdiv (a:=-m) (b:=8);have e' :=Int.neg_tdiv (a:=-m) (b:=16);rw[Int.neg_neg]at e e';have q1:=lX (a:=-m) (b:=8) o5;have q2:=lX (a:=-m) (b:=16) o5;omega
  .have q1:=lX (a:=m) (b:=8) o5;have q2:=lX (a:=m) (b:=16) o5;omega
theorem WV(hm:lG m)(hN:NmOk N):AL (6,m) [] N (lV (6,m) N):=by
 have hf:V4 (6,m) N=(l7 (H6 m 0) (some 6)
    (l7 (P7 (o9 N.1) (eU .i64 m 16)) (some 6)
     (l9 (L6 N.1 (eU .i64 m 16)) λ(x:dM)=>
      l7 (P7 (o9 x.2) (jP m 16)) (some 6) (some 0)))):=rfl
 have hr:dh (6,m) N=l9 (l7 (H6 m 0) (some (Sum.inr (([],0,false),6)))
   (l7 (P7 (o9 N.1) (eU IntKind.i64 m 16)) (some (Sum.inr (([],0,false),6)))
    (l9 (L6 N.1 (eU IntKind.i64 m 16)) λ(x:dM)=>
     l9 (J5 x.1 [58]) λ(x_1:List UInt8)=>some (Sum.inl (([],0,false),x.2,jP m 16,x_1,[]))))) λ(o:H5×List (List UInt8)×Int×List UInt8×List UInt8⊕H5×Int)=>
 X9 o
  (λ(x:H5×List (List UInt8)×Int×List UInt8×List UInt8)=>
   l7 (H6 x.2.2.1 0) (some (([],0,false),6))
    (l7 (P7 (o9 x.2.1) x.2.2.1) (some (([],0,false),6))
     (l9 (L6 x.2.1 x.2.2.1) λ(x_1:List UInt8)=>
      l9 (J5 x.2.2.2.1 x_1) λ(x_2:List UInt8)=>
       l9 (J5 x_2 x.2.2.2.2) λ(x:List UInt8)=>
        l9 (Y9 x) λ(x:H5)=>some (x,0))))
  λ(r:H5×Int)=>some r:=rfl
 have hl:lV (6,m) N=(((L6 N.1 (eU .i64 m 16)).getD ([],[])).1++[58]++gtN ((L6 N.1 (eU .i64 m 16)).getD ([],[])).2 (jP m 16),7):=rfl;unfold AL;rw[hf,NJ _ _ _ _ o5,hr,hl];by_cases h0:m<0
 .rw[bn h0];exact⟨6,rfl,rfl⟩
 rw[au o5,o6,o6];by_cases h1:o9 N.1<=eU .i64 m 16
 .rw[ai h1];exact⟨6,rfl,rfl⟩
 rw[aW o5,o6,o6];have hq:0<=eU .i64 m 16:=by rw[Ou hm 16 (.inr rfl),lX o5];omega
 obtain⟨e,he,hmem⟩:=pO (l:=N.1) hq o5;have hb:=hN.e e hmem;have hr0:jP m 16=m % 16:=zU o5;simp only[he,o8,cu,G5 (a:=e.1) (b:=[58]) E5,U3];rw[au (show 0<=jP m 16 by omega),o6];by_cases h2:o9 e.2<=jP m 16
 .rw[ai h2];exact⟨6,rfl,rfl⟩
 rw[aW o5,o6,o6];have hg:=IV (l:=e.2) (i:=jP m 16) o5 o5;have h3:=hb.2 _ hg.2;refine⟨0,rfl,?_⟩;rw[hg.1,o8,G5 E5,o8,G5 E5,o8];simp only[Y9,o8,F7];rfl
theorem a2V :AL (9,0) [] N (lV (9,0) N):=⟨0,rfl,rfl⟩
theorem a0J :AL (35,0) [] N (lV (35,0) N):=⟨0,rfl,rfl⟩
theorem z_(hN:NmOk N)(hm:lG m)(ha:arF k=0)(hu:m=0\/aJ k=some true):AL (k,m) [] N (lV (k,m) N):=by
 have hz:(k=9\/k=35)->m=0:=by
  intro h;rcases hu with h1|h1
  .exact h1
  .exfalso;rcases h with rfl|rfl<;>exact absurd h1 V5
 rcases ar0 ha with rfl|rfl|rfl|rfl|rfl|rfl|rfl|rfl|rfl|rfl|rfl|rfl|rfl|rfl
 .exact Aq o5 hm N
 .exact Aq o5 hm N
 .exact Aq o5 hm N
 .exact Aq o5 hm N
 .exact Aq o5 hm N
 .exact WV hm hN
 .exact vW o5 hN
 .exact vW o5 hN
 .rw[hz o5];exact a2V
 .rw[hz o5];exact a0J
 .exact vW o5 hN
 .exact vW o5 hN
 .exact vW o5 hN
 .exact vW o5 hN
theorem YM(hm:lG m)(hN:NmOk N)(a:H5)(h1:a.1.length<=1000000000):AL (33,m) [a] N (Ce (33,m) N b (a.1,a.2.1)):=by
 have hf:V4 (33,m) N=l7 (H6 m 0) (some 6) (l7 (P7 (o9 N.2.1) m) (some 6) (some 0)):=rfl;have hr:U8 (33,m) [a] N=eQ (33,m) a N:=by unfold U8;generalize hq:eQ (33,m) a N=q;simp (disch:=decide) only[Z9,N9,o7,o6,o8,lx0,hq];cases q<;>rfl
 have hx:Ce (33,m) N b (a.1,a.2.1)=(ru 33++[40]++gtN N.2.1 m++[44,32]++a.1++[41],7):=rfl;unfold AL;rw[hf,hr,hx];unfold eQ Y9;simp (disch:=decide) only[Z9,N9,o7,o6,o8,rE];by_cases h0:m<0
 .rw[bn h0];exact⟨6,rfl,rfl⟩
 rw[au o5,o6,o6];by_cases h2:o9 N.2.1<=m
 .rw[ai h2];exact⟨6,rfl,rfl⟩
 rw[aW o5,o6,o6];have hg:=IV (l:=N.2.1) (i:=m) o5 o5;have h3:=hN.t _ hg.2;have hw:=qM 33;refine⟨0,rfl,?_⟩;rw[o8,U3,G5 E5,o8,hg.1,o8,G5 E5,o8,G5 E5,o8,G5 E5,o8,G5 E5,o8];rfl
theorem WB(h:0<=m):seq (ug m) []=H6 5 m:=by
 by_cases h5:m<=5
 .rw[au h5];obtain⟨k,rfl⟩:∃k:Fin 6,m=(k.val:Int):=⟨⟨m.toNat,o5⟩,by simp;omega⟩;revert k;decide
 .rw[bn o5];unfold ug dD;simp only[N9 (show m≠0 by omega),N9 (show m≠1 by omega),N9 (show m≠2 by omega),N9 (show m≠3 by omega),N9 (show m≠4 by omega),N9 (show m≠5 by omega),o6];rfl
theorem a1T(h:m<0):seq (ug m) []=true:=by unfold ug dD;simp only[N9 (show m≠0 by omega),N9 (show m≠1 by omega),N9 (show m≠2 by omega),N9 (show m≠3 by omega),N9 (show m≠4 by omega),N9 (show m≠5 by omega),o6];rfl
theorem WU(hm:lG m)(hN:NmOk N)(a:H5)(h1:a.1.length<=1000000000):AL (34,m) [a] N (Ce (34,m) N b (a.1,a.2.1)):=by
 have hf:V4 (34,m) N=l7 (H6 m 0) (some 6) (l7 (P7 (o9 N.2.1) (eU .i64 m 8)) (some 6) (l7 (H6 5 (jP m 8)) (some 3) (some 0))):=rfl;have hr:U8 (34,m) [a] N=eQ (34,m) a N:=by unfold U8;generalize hq:eQ (34,m) a N=q;simp (disch:=decide) only[Z9,N9,o7,o6,o8,lx0,hq];cases q<;>rfl
 have hx:Ce (34,m) N b (a.1,a.2.1)=(ru 34++[40]++gtN N.2.1 (eU .i64 m 8)++[44,32]++a.1++[44,32]++ug (jP m 8)++[41],7):=rfl;unfold AL;rw[hf,hr,hx];unfold eQ Y9;simp (disch:=decide) only[Z9,N9,o7,o6,o8,rE,Nk];by_cases h0:m<0
 .rw[bn h0,au (show m<=0 by omega)];simp only[o7,o6,o8,bn h0,lW];exact⟨6,rfl,rfl⟩
 have hq:eU .i64 m 8=m / 8:=by rw[Ou hm 8 (.inl rfl),lX o5]
 have hi:(l7 (H6 0 m) (some (eU .i64 m 8)) (some m):Option Int)=some (eU .i64 m 8):=by
  by_cases h:0<m
  .rw[bn h];rfl
  .rw[au o5,o6,show eU .i64 m 8=m by omega]
 rw[hi,o8,au (show 0<=m by omega),o6,au (show 0<=eU .i64 m 8 by omega),o6];by_cases h2:o9 N.2.1<=eU .i64 m 8
 .rw[ai h2];exact⟨6,rfl,rfl⟩
 rw[aW o5,o6,o6];have hg:=IV (l:=N.2.1) (i:=eU .i64 m 8) o5 o5;have h3:=hN.t _ hg.2;have hw:=qM 34;have hm:=yu (jP m 8);have hr0:jP m 8=m % 8:=zU o5;rw[o8,U3,G5 E5,o8,hg.1,o8,G5 E5,o8,G5 E5,o8,G5 E5,o8,WB (show 0<=jP m 8 by omega)];cases H6 5 (jP m 8)
 .refine⟨0,rfl,?_⟩;rw[o6,G5 E5,o8,G5 E5,o8,G5 E5,o8];simp[l7];rfl
 .exact⟨3,rfl,rfl⟩
theorem A_(hN:NmOk N)(hm:lG m)(ha:arF k=1)(hu:m=0\/aJ k=some true)(a:H5)(h1:a.1.length<=1000000000):AL (k,m) [a] N (Ce (k,m) N a.2.2 (a.1,a.2.1)):=by
 have hz:(k=10\/k=25\/k=31\/k=32)->m=0:=by
  intro h;rcases hu with h1|h1
  .exact h1
  .exfalso;rcases h with rfl|rfl|rfl|rfl<;>exact absurd h1 V5
 have hw:=AC (a.1,a.2.1) 6;simp only at hw;rcases ar1 ha with rfl|rfl|rfl|rfl|rfl|rfl
 .rw[hz o5];refine⟨0,rfl,?_⟩;unfold U8 Ce;simp (disch:=decide) only[Z9,N9,o7,o6,o8,lx0,Dv a 6 h1];cases h:a.2.2
  .simp only[o6,o7];rw[G5 E5,o8,o8,lW];rfl
  .simp only[o7];rw[G5 E5,o8,G5 E5,o8,G5 E5,o8,o8,lW];rfl
 .rw[hz o5];refine⟨0,rfl,?_⟩;unfold U8 Ce;simp (disch:=decide) only[Z9,N9,o7,o6,o8,lx0,Dv a 6 h1];rw[G5 E5,o8,o8,lW];rfl
 .rw[hz o5];refine⟨0,rfl,?_⟩;have hl:=qM 31;unfold U8 Ce Y9;simp (disch:=decide) only[Z9,N9,o7,o6,o8,lx0,rE];rw[G5 E5,o8,G5 E5,o8,G5 E5,o8,o8,lW];rfl
 .rw[hz o5];refine⟨0,rfl,?_⟩;have hl:=qM 32;unfold U8 Ce Y9;simp (disch:=decide) only[Z9,N9,o7,o6,o8,lx0,rE];rw[G5 E5,o8,G5 E5,o8,G5 E5,o8,o8,lW];rfl
 .exact YM hm hN a h1
 .exact WU hm hN a h1
theorem YK(hk:k=17\/k=18\/k=27\/k=28\/k=29\/k=30)(a b:H5)(h1:a.1.length<=1000000000)(h2:b.1.length<=1000000000):AL (k,0) [a,b] N (Gv (k,0) (a.1,a.2.1) (b.1,b.2.1)):=by
 have hl:=qM k;rcases hk with rfl|rfl|rfl|rfl|rfl|rfl
 all_goals
  refine⟨0,rfl,?_⟩;unfold U8 Gv Y9 XN;simp (disch:=decide) only[Z9,N9,o7,o6,o8,lx0,lx1,rE];rw[G5 E5,o8,G5 E5,o8,G5 E5,o8,G5 E5,o8,G5 E5,o8,o8,lW];rfl
theorem YL(hk:k=14\/k=15\/k=16)(a b:H5)(h1:a.1.length<=1000000000)(h2:b.1.length<=1000000000):AL (k,m) [a,b] N (Gv (k,m) (a.1,a.2.1) (b.1,b.2.1)):=by
 have hl:=qM k;have hm:=yu m;have hf:V4 (k,m) N=some (l7 (seq (ug m) []) 3 0):=by
  have:V4 (k,m) N=l7 (H6 m 0) (some 3) (l7 (H6 5 m) (some 3) (some 0)):=by rcases hk with rfl|rfl|rfl<;>rfl
  rw[this];by_cases h0:m<0
  .rw[bn h0,a1T h0];rfl
  .rw[au o5,WB o5];cases H6 5 m<;>rfl
 refine D_ _ hf ?_;rcases hk with rfl|rfl|rfl
 all_goals
  unfold U8 Gv Y9 XN Hz;simp (disch:=decide) only[Z9,N9,o7,o6,o8,lx0,lx1,rE,Nk];cases seq (ug m) []
  .rw[o6,G5 E5,o8,G5 E5,o8,G5 E5,o8,G5 E5,o8,G5 E5,o8,G5 E5,o8,G5 E5,o8,o8,lW];rfl
  .rfl
theorem YJ(hk:k=11\/k=12\/k=13\/k=19\/k=20\/k=21\/k=22\/k=23\/k=24)(a b:H5)(h1:a.1.length<=1000000)(h2:b.1.length<=1000000):AL (k,0) [a,b] N (Gv (k,0) (a.1,a.2.1) (b.1,b.2.1)):=by
 have hl:=Vw k;have hc:1<=(xk k).2/\(xk k).2<=5:=by rcases hk with rfl|rfl|rfl|rfl|rfl|rfl|rfl|rfl|rfl<;>decide
 have w1:=AC (a.1,a.2.1) 4;have w2:=AC (a.1,a.2.1) (xk k).2;have w3:=AC (b.1,b.2.1) ((xk k).2+1);simp only at w1 w2 w3;have hx:U8 (k,0) [a,b] N=l9 (fJ k) λ(x:List UInt8×Int)=>
    l7 (C9 x.2 3)
     (l9 (dC a 4) λ(x_2:List UInt8)=>
       l9 (J5 x_2 [32]) λ(x_3:List UInt8)=>
        l9 (J5 x_3 x.1) λ(x_4:List UInt8)=>
         l9 (J5 x_4 [32]) λ(x_5:List UInt8)=>
           l9 (dC b (F6 IntKind.i64 x.2 1)) λ(x_7:List UInt8)=>
            l9 (J5 x_5 x_7) λ(x_8:List UInt8)=>some ((x_8,x.2,false),0))
     (l9 (dC a x.2) λ(x_2:List UInt8)=>
       l9 (J5 x_2 [32]) λ(x_3:List UInt8)=>
        l9 (J5 x_3 x.1) λ(x_4:List UInt8)=>
         l9 (J5 x_4 [32]) λ(x_5:List UInt8)=>
           l9 (dC b (F6 IntKind.i64 x.2 1)) λ(x_7:List UInt8)=>
            l9 (J5 x_5 x_7) λ(x_8:List UInt8)=>some ((x_8,x.2,false),0)):=by
  rcases hk with rfl|rfl|rfl|rfl|rfl|rfl|rfl|rfl|rfl<;>rfl
 have hf:V4 (k,0) N=some 0:=by rcases hk with rfl|rfl|rfl|rfl|rfl|rfl|rfl|rfl|rfl<;>rfl
 have hn:EP k=false:=by rcases hk with rfl|rfl|rfl|rfl|rfl|rfl|rfl|rfl|rfl<;>rfl
 have hb:XN k=false/\Hz k=false:=by rcases hk with rfl|rfl|rfl|rfl|rfl|rfl|rfl|rfl|rfl<;>exact⟨rfl,rfl⟩
 refine D_ _ hf ?_;rw[hx,a5O,o8];unfold Gv;simp only[hb.1,hb.2,hn,o6,jS (show lG ((xk k).2+1) by unfold lG;omega)];rw[Dv a 4 o5,Dv a _ o5,Dv b _ o5];simp only[o8];cases C9 (xk k).2 3
 .simp only[o6];rw[G5 E5,o8,G5 E5,o8,G5 E5,o8,G5 E5,o8];rfl
 .simp only[o7];rw[G5 E5,o8,G5 E5,o8,G5 E5,o8,G5 E5,o8];rfl
theorem B_(ha:arF k=2)(hu:m=0\/aJ k=some true)(a b:H5)(h1:a.1.length<=1000000)(h2:b.1.length<=1000000):AL (k,m) [a,b] N (Gv (k,m) (a.1,a.2.1) (b.1,b.2.1)):=by
 have hz:¬(k=14\/k=15\/k=16)->m=0:=by
  intro h;rcases hu with h1|h1
  .exact h1
  .exfalso;rcases ar2 ha with rfl|rfl|rfl|rfl|rfl|rfl|rfl|rfl|rfl|rfl|rfl|rfl|rfl|rfl|rfl|rfl|rfl|rfl<;>first|omega|exact absurd h1 V5
 by_cases h:k=14\/k=15\/k=16
 .exact YL h a b o5 o5
 rw[hz h];by_cases h' :k=17\/k=18\/k=27\/k=28\/k=29\/k=30
 .exact YK h' a b o5 o5
 .exact YJ (by have:=ar2 ha;omega) a b h1 h2
theorem C_(hu:m=0\/aJ 26=some true)(a b c:H5)(h1:a.1.length<=1000000)(h2:b.1.length<=1000000)(h3:c.1.length<=1000000):AL (26,m) [a,b,c] N (ifX (a.1,a.2.1) (b.1,b.2.1) (c.1,c.2.1)):=by
 have hz:m=0:=by
  rcases hu with h1|h1
  .exact h1
  .exact absurd h1 V5
 rw[hz];refine⟨0,rfl,?_⟩;unfold U8 ifX;simp (disch:=decide) only[Z9,N9,o7,o6,o8,lx0,lx1,lx2];rw[G5 E5,o8,G5 E5,o8,G5 E5,o8,G5 E5,o8,G5 E5,o8,o8,lW];rfl
def flS(n:Int×Int)(N:D9):Int:=(V4 n N).getD 0
theorem Ux{c:Int}(h:V4 n N=some c):flS n N=c:=by unfold flS;rw[h];rfl
theorem L_(h:0<=arF k):aJ k=some true\/aJ k=some false:=by
 rcases arN k with h1|h1
 .obtain⟨j,rfl⟩:=Qp h1;revert h;revert j;decide
 .omega
theorem a6n(ha:0<=arF k)(hm:m≠0)(hu:aJ k=some false):V4 (k,m) N=some 2:=by
 have h3:arF k=0\/arF k=1\/arF k=2\/arF k=3:=by have:=(CG k).2.2;omega
 have key:V4 (k,m) N=l7 (G8 (C9 m 0)) (some 2) (some 0)->V4 (k,m) N=some 2:=by intro h;rw[h,N9 hm];rfl
 rcases h3 with h|h|h|h
 .rcases ar0 h with rfl|rfl|rfl|rfl|rfl|rfl|rfl|rfl|rfl|rfl|rfl|rfl|rfl|rfl<;>first|exact absurd hu V5|exact key rfl
 .rcases ar1 h with rfl|rfl|rfl|rfl|rfl|rfl<;>first|exact absurd hu V5|exact key rfl
 .rcases ar2 h with rfl|rfl|rfl|rfl|rfl|rfl|rfl|rfl|rfl|rfl|rfl|rfl|rfl|rfl|rfl|rfl|rfl|rfl<;>first|exact absurd hu V5|exact key rfl
 .have:=ar3 h;subst this;exact key rfl
def fmF(a0:List (Int×Int))(a1:D9)(x:List H5×Int):Option (Out (List H5×Int) (List H5) (List UInt8×Int)):=
     l7 (H6 x.2 (o9 a0))
      (l9 (L6 a0 x.2) λ(x_1:Int×Int)=>
       l7 (G8 (C9 x_1.2 0))
        (l9 (aJ x_1.1) λ(x_2:Bool)=>
         l7 (G8 x_2) (some (Out.rt ([],2)))
          (l9 (jB x_1.1) λ(x_3:Int)=>
           l7 (jK (Y1 IntKind.i64 (o9 x.1) x_3) (o9 x.1) (o9 x.1))
            (l9
             (U8 x_1 (iP x.1 (dB (Y1 IntKind.i64 (o9 x.1) x_3)) (dB (o9 x.1))) a1)
             λ(x_4:H5×Int)=>
             l7 (G8 (C9 x_4.2 0)) (some (Out.rt ([],x_4.2)))
              (l7 (jK 0 (Y1 IntKind.i64 (o9 x.1) x_3) (o9 x.1))
               (l9 (bK (iP x.1 (dB 0) (dB (Y1 IntKind.i64 (o9 x.1) x_3))) [x_4.1])
                λ(x_5:List H5)=>some (Out.nx (x_5,F6 IntKind.i64 x.2 1)))
               none))
            none))
        (l9 (jB x_1.1) λ(x_2:Int)=>
         l7 (jK (Y1 IntKind.i64 (o9 x.1) x_2) (o9 x.1) (o9 x.1))
          (l9 (U8 x_1 (iP x.1 (dB (Y1 IntKind.i64 (o9 x.1) x_2)) (dB (o9 x.1))) a1)
           λ(x_3:H5×Int)=>
           l7 (G8 (C9 x_3.2 0)) (some (Out.rt ([],x_3.2)))
            (l7 (jK 0 (Y1 IntKind.i64 (o9 x.1) x_2) (o9 x.1))
             (l9 (bK (iP x.1 (dB 0) (dB (Y1 IntKind.i64 (o9 x.1) x_2))) [x_3.1])
              λ(x_4:List H5)=>some (Out.nx (x_4,F6 IntKind.i64 x.2 1)))
             none))
          none))
      (some (Out.ex x.1))
def fmG(N:D9)(n:Int×Int)(p:List H5)(x:Tx)(i:Nat):Option (Out (List H5×Int) (List H5) (List UInt8×Int)):=
 some (l7 (C9 (flS n N) 0) (.nx (p++[(x.1,x.2,EP n.1)],((i+1:Nat):Int))) (.rt ([],flS n N)))
variable {e:List (Int×Int)}{x:Tx}
theorem a4Q{i:Nat}{p args:List H5}(hn:e[i]? =some n)(hi:i<=1000)(hp:p.length<=1000)(hl:args.length<=3)(ha:arF n.1=(args.length:Int))
  (hr:(n.2=0\/aJ n.1=some true)->AL n args N x):fmF e N (p++args,(i:Int))=fmG N n p x i:=by
 have hx:Y1 .i64 (o9 (p++args)) (arF n.1)=(p.length:Int):=by rw[fO (by unfold lG o9;simp;omega),ha];unfold o9;simp
 have r1:jK (p.length:Int) (o9 (p++args)) (o9 (p++args))=true:=by unfold jK o9;simp<;>omega
 have r2:jK 0 (p.length:Int) (o9 (p++args))=true:=by unfold jK o9;simp<;>omega
 have v1:iP (p++args) (dB (p.length:Int)) (dB (o9 (p++args)))=args:=by unfold iP dB o9;rw[U7,U7,O8 (D8 _),List.drop_left]
 have v2:iP (p++args) (dB 0) (dB (p.length:Int))=p:=by unfold iP dB;rw[U7,List.take_left];rfl
 have main:(n.2=0\/aJ n.1=some true)->(l9 (jB n.1) λ(x_2:Int)=>
         l7 (jK (Y1 IntKind.i64 (o9 (p++args)) x_2) (o9 (p++args)) (o9 (p++args)))
          (l9 (U8 n (iP (p++args) (dB (Y1 IntKind.i64 (o9 (p++args)) x_2)) (dB (o9 (p++args)))) N)
           λ(x_3:H5×Int)=>
           l7 (G8 (C9 x_3.2 0)) (some (Out.rt ([],x_3.2)))
            (l7 (jK 0 (Y1 IntKind.i64 (o9 (p++args)) x_2) (o9 (p++args)))
             (l9 (bK (iP (p++args) (dB 0) (dB (Y1 IntKind.i64 (o9 (p++args)) x_2))) [x_3.1])
              λ(x_4:List H5)=>some (Out.nx (x_4,F6 IntKind.i64 (i:Int) 1)))
             none))
          none)=fmG N n p x i:=by
  intro hu;obtain⟨c,h1,h2⟩:=hr hu;rw[a1k,o8,hx,r1,o7,v1,h2,o8,r2,v2];unfold fmG;rw[Ux h1];cases hc:C9 c 0
  .rw[o6];simp only[hc,Z7,o7];rfl
  .rw[o7];simp only[Z9 (rfl:(0:Int)=0),I7,o6,o7];rw[kK _ o5,o8,dF o5]
 unfold fmF;simp only[O7 hn,o7,J9,hn,o8];by_cases h0:n.2=0
 .rw[Z9 h0,I7,o6];exact main (.inl h0)
 .rw[N9 h0,Z7,o7];rcases L_ (k:=n.1) o5 with hu|hu
  .rw[hu,o8,I7,o6];exact main (.inr hu)
  .rw[hu,o8,Z7,o7];unfold fmG;rw[Ux (a6n (k:=n.1) (m:=n.2) o5 h0 hu)];rfl
def ffS(N:D9):List (Int×Int)->Int
 |[]=>0|n::l=>l7 (C9 (flS n N) 0) (ffS N l) (flS n N)
theorem IP(N:D9):∀a b,ffS N (a++b)=l7 (C9 (ffS N a) 0) (ffS N b) (ffS N a)
 |[],b=>by rw[show ffS N []=0 from rfl,Z9 rfl];rfl|n::a,b=>by
  show l7 (C9 (flS n N) 0) (ffS N (a++b)) (flS n N)=l7 (C9 (l7 (C9 (flS n N) 0) (ffS N a) (flS n N)) 0) (ffS N b) (l7 (C9 (flS n N) 0) (ffS N a) (flS n N));rw[IP N a b];cases h:C9 (flS n N) 0
  .simp only[o6,h]
  .simp only[o7]
theorem a1M(hN:NmOk N)(hI:lG n.2):(lV n N).1.length<=3000:=by
 unfold lV;have hw:=qM n.1;have g1:=xw hN.i n.2;have g2:=xw hN.d n.2;have g3:=xw hN.m n.2;have hv:((sW (n.1,0,n.2) []).getD ([],0)).1.length<=100:=by obtain⟨t,ht,hl⟩:=yM (B:=100) o5 o5 (v:=(n.1,0,n.2)) (en:=[]) hI (λe h=>by cases h);rw[←yL [] hI,ht];exact hl
 have he:((L6 N.1 (eU .i64 n.2 16)).getD ([],[])).1.length<=1000/\(gtN ((L6 N.1 (eU .i64 n.2 16)).getD ([],[])).2 (jP n.2 16)).length<=1000:=by
  cases hx:L6 N.1 (eU .i64 n.2 16)with
  |none=>exact⟨x9,xw (B:=1000) (λs h=>by cases h) _⟩|some e=>have:=hN.e e (jm hx).2.2.1;exact⟨this.1,xw this.2 _⟩
 cases P7 n.1 5
 case true=>simp only[o7];omega
 cases C9 n.1 6
 case true=>simp only[o7,o6];simp;omega
 cases C9 n.1 7
 case true=>simp only[o7,o6];omega
 cases C9 n.1 8
 case true=>simp only[o7,o6];omega
 cases C9 n.1 9
 case true=>simp[l7]
 cases C9 n.1 35
 case true=>simp[l7]
 .simp only[o6];simp;omega
theorem a5g(hN:NmOk N)(b:Bool)(a:Tx):(Ce n N b a).1.length<=a.1.length+3000:=by
 unfold Ce;have hw:=qM n.1;have hm:=yu (jP n.2 8);have g1:=xw hN.t n.2;have g2:=xw hN.t (eU .i64 n.2 8);have w:=AC a 6;cases C9 n.1 33
 case true=>simp only[o7];simp;omega
 cases C9 n.1 34
 case true=>simp only[o7,o6];simp;omega
 cases C9 n.1 25
 case true=>simp only[o7,o6];simp;omega
 cases C9 n.1 10
 case true=>simp only[o7,o6];cases b<;>simp<;>omega
 .simp only[o6];simp;omega
theorem a5U(a b:Tx):(Gv n a b).1.length<=a.1.length+b.1.length+3000:=by
 unfold Gv;have hw:=qM n.1;have hm:=yu n.2;have hs:=Vw n.1;have w1:=AC a (l7 (C9 (xk n.1).2 3) 4 (xk n.1).2);have w2:=AC b ((xk n.1).2+1);cases XN n.1
 case true=>simp only[o7];simp;omega
 cases Hz n.1
 case true=>simp only[o7,o6];simp;omega
 .simp only[o6];simp;omega
theorem wY{N:D9}(hN:NmOk N):∀(t:XT),(∀n∈t.post,lG n.2)->(kY N t).1.length<=3000*t.size
 | .l0 n,h=>a1M hN (h n (by simp[XT.post]))| .l1 n a,h=>by have h1:=wY hN a (λm hm=>h m (by simp[XT.post,hm]));have h2:=a5g (n:=n) hN (EP a.node.1) (kY N a);simp only[kY,XT.size];omega| .l2 n a b,h=>by have h1:=wY hN a (λm hm=>h m (by simp[XT.post,hm]));have h2:=wY hN b (λm hm=>h m (by simp[XT.post,hm]));have h3:=a5U (n:=n) (kY N a) (kY N b);simp only[kY,XT.size];omega| .l3 n a b c,h=>by have h1:=wY hN a (λm hm=>h m (by simp[XT.post,hm]));have h2:=wY hN b (λm hm=>h m (by simp[XT.post,hm]));have h3:=wY hN c (λm hm=>h m (by simp[XT.post,hm]));simp only[kY,XT.size,ifX];simp;omega
theorem Ea{σ ε ρ:Type}(f:σ->Option (Out σ ε ρ))(n:Nat)(s:σ):jE f (n+1) s=match f s with|some (.nx s')=>jE f n s'|some (.ex e)=>some (.inl e)|some (.rt r)=>some (.inr r)|none=>none:=by rw[jE]<;>rfl
theorem a4R(he:e.length<=48)(hN:NmOk N)(hI:∀n∈e,lG n.2):∀(t:XT) (pre suf:List (Int×Int)) (p:List H5) (m:Nat),e=pre++t.post++suf->t.wf->p.length+t.size<=60->
  jE (fmF e N) (m+t.size) (p,(pre.length:Int))=l7 (C9 (ffS N t.post) 0) (jE (fmF e N) m (p++[pcT N t],((pre.length+t.size:Nat):Int))) (some (.inr ([],ffS N t.post))):=by
 have stepN:∀(n:Int×Int) (pre suf:List (Int×Int)) (p args:List H5) (x:Tx) (m:Nat),e=pre++[n]++suf->p.length<=60->args.length<=3->arF n.1=(args.length:Int)->((n.2=0\/aJ n.1=some true)->AL n args N x)->
   jE (fmF e N) (m+1) (p++args,(pre.length:Int))=l7 (C9 (flS n N) 0) (jE (fmF e N) m (p++[(x.1,x.2,EP n.1)],((pre.length+1:Nat):Int))) (some (.inr ([],flS n N))):=by
  intro n pre suf p args x m h1 h2 h3 h4 h5;have hn:e[pre.length]? =some n:=by rw[h1,E8,H8 (D8 _),fU];rfl
  have hlt:=(ax.1 hn).1;rw[Ea,a4Q hn o5 o5 h3 h4 h5];unfold fmG;cases C9 (flS n N) 0<;>rfl
 intro t;induction t with
 |l0 n=>
  intro pre suf p m h hw hs;have hI1:=hI n (by rw[h];simp[XT.post]);have:=stepN n pre suf p [] (lV n N) m h o5 x9 hw (λhu=>z_ hN hI1 hw hu);rw[F7]at this;rw[show(XT.l0 n).size=1 from rfl,this];unfold XT.post ffS ffS;cases hf:C9 (flS n N) 0
  .simp only[o6,hf]
  .simp only[o7,Z9 (rfl:(0:Int)=0)];rfl
 |l1 n a iha=>
  intro pre suf p m h hw hs;simp only[XT.post,XT.size]at h hs ⊢;have hI1:=hI n (by rw[h];simp);have hIa:∀n∈a.post,lG n.2:=λq hq=>hI q (by rw[h];simp[hq]);have hl:=wY hN a hIa;rw[show m+(a.size+1)=(m+1)+a.size by omega,iha pre ([n]++suf) p (m+1) (by rw[h];simp) hw.2 o5,IP];cases hf:C9 (ffS N a.post) 0
  .simp only[o6,hf]
  have:=stepN n (pre++a.post) suf p [pcT N a] (Ce n N (EP a.node.1) (kY N a)) m (by rw[h];simp) o5 x9 hw.1 (λhu=>A_ hN hI1 hw.1 hu (pcT N a) (by simp only[pcT];omega));rw[show(pre++a.post).length=pre.length+a.size by simp[XT.post_len]]at this;simp only[o7];rw[this];unfold ffS ffS;cases hg:C9 (flS n N) 0
  .simp only[o6,hg]
  .simp only[o7,Z9 (rfl:(0:Int)=0)];rfl
 |l2 n a b iha ihb=>
  intro pre suf p m h hw hs;simp only[XT.post,XT.size]at h hs ⊢;have hI1:=hI n (by rw[h];simp);have hIa:∀n∈a.post,lG n.2:=λq hq=>hI q (by rw[h];simp[hq]);have hIb:∀n∈b.post,lG n.2:=λq hq=>hI q (by rw[h];simp[hq]);have hla:=wY hN a hIa;have hlb:=wY hN b hIb;have s1:=a.size_pos;have s2:=b.size_pos;rw[show m+(a.size+b.size+1)=(m+1+b.size)+a.size by omega,iha pre (b.post++[n]++suf) p (m+1+b.size) (by rw[h];simp) hw.2.1 o5,IP,IP];cases hf:C9 (ffS N a.post) 0
  .simp only[o6,hf]
  have i2:=ihb (pre++a.post) ([n]++suf) (p++[pcT N a]) (m+1) (by rw[h];simp) hw.2.2 E5;rw[show(pre++a.post).length=pre.length+a.size by simp[XT.post_len]]at i2;simp only[o7];rw[i2];cases hf2:C9 (ffS N b.post) 0
  .simp only[o6,hf2]
  have:=stepN n (pre++a.post++b.post) suf p [pcT N a,pcT N b] (Gv n (kY N a) (kY N b)) m (by rw[h];simp) o5 x9 hw.1 (λhu=>B_ hw.1 hu (pcT N a) (pcT N b) (by simp only[pcT];omega) (by simp only[pcT];omega));rw[show(pre++a.post++b.post).length=pre.length+a.size+b.size by simp[XT.post_len];omega,show pre.length+a.size+b.size+1=pre.length+(a.size+b.size+1) by omega]at this;simp only[o7];rw[show p++[pcT N a]++[pcT N b]=p++[pcT N a,pcT N b] by simp,this];unfold ffS ffS;cases hg:C9 (flS n N) 0
  .simp only[o6,hg]
  .simp only[o7,Z9 (rfl:(0:Int)=0)];rfl
 |l3 n a b c iha ihb ihc=>
  intro pre suf p m h hw hs;simp only[XT.post,XT.size]at h hs ⊢;have hI1:=hI n (by rw[h];simp);have hIa:∀n∈a.post,lG n.2:=λq hq=>hI q (by rw[h];simp[hq]);have hIb:∀n∈b.post,lG n.2:=λq hq=>hI q (by rw[h];simp[hq]);have hIc:∀n∈c.post,lG n.2:=λq hq=>hI q (by rw[h];simp[hq]);have hla:=wY hN a hIa;have hlb:=wY hN b hIb;have hlc:=wY hN c hIc;have s1:=a.size_pos;have s2:=b.size_pos;have s3:=c.size_pos;have h26:=ar3 hw.1;rw[show m+(a.size+b.size+c.size+1)=(m+1+c.size+b.size)+a.size by omega,iha pre (b.post++c.post++[n]++suf) p (m+1+c.size+b.size) (by rw[h];simp) hw.2.1 o5,IP,IP,IP];cases hf:C9 (ffS N a.post) 0
  .simp only[o6,hf]
  have i2:=ihb (pre++a.post) (c.post++[n]++suf) (p++[pcT N a]) (m+1+c.size) (by rw[h];simp) hw.2.2.1 E5;rw[show(pre++a.post).length=pre.length+a.size by simp[XT.post_len]]at i2;simp only[o7];rw[i2];cases hf2:C9 (ffS N b.post) 0
  .simp only[o6,hf2]
  have i3:=ihc (pre++a.post++b.post) ([n]++suf) (p++[pcT N a]++[pcT N b]) (m+1) (by rw[h];simp) hw.2.2.2 E5;rw[show(pre++a.post++b.post).length=pre.length+a.size+b.size by simp[XT.post_len];omega]at i3;simp only[o7];rw[i3];cases hf3:C9 (ffS N c.post) 0
  .simp only[o6,hf3]
  have:=stepN n (pre++a.post++b.post++c.post) suf p [pcT N a,pcT N b,pcT N c] (ifX (kY N a) (kY N b) (kY N c)) m (by rw[h];simp) o5 x9 hw.1 (λhu=>by obtain⟨k,v⟩:=n;simp only at h26 hu;subst h26;exact C_ hu (pcT N a) (pcT N b) (pcT N c) (by simp only[pcT];omega) (by simp only[pcT];omega) (by simp only[pcT];omega))
  rw[show(pre++a.post++b.post++c.post).length=pre.length+a.size+b.size+c.size by simp[XT.post_len];omega,show pre.length+a.size+b.size+c.size+1=pre.length+(a.size+b.size+c.size+1) by omega]at this;simp only[o7];rw[show p++[pcT N a]++[pcT N b]++[pcT N c]=p++[pcT N a,pcT N b,pcT N c] by simp,this];unfold ffS ffS;cases hg:C9 (flS n N) 0
  .simp only[o6,hg]
  .simp only[o7,Z9 (rfl:(0:Int)=0)];rfl
def RI(e:List (Int×Int))(N:D9):List UInt8×Int:=match jR e with
 | .inl x=>([],x.2)| .inr t=>l7 (C9 (ffS N e) 0) ((kY N t).1,0) ([],ffS N e)
theorem a6Y(hN:NmOk N)(hI:∀n∈e,lG n.2):lJ e N=some (RI e N):=by
 unfold lJ Bf RI;rw[KH];unfold rf;cases h:jR e with
 |inl x=>simp only[o8,N9 (BJ h)];rfl|inr t=>
  obtain⟨h1,h2,h3,h4⟩:=VK h;obtain⟨hp,-⟩:=sK h;simp only[o8,Z9 (rfl:(0:Int)=0),I7,o6];have hl:U2 (fmF e N) ([],0)=some (l7 (C9 (ffS N e) 0) (.inl [pcT N t]) (.inr ([],ffS N e))):=by
   unfold U2;rw[show gy=(gy -t.size)+t.size by unfold gy;omega];have:=a4R h2 hN hI t [] [] [] (gy -t.size) (by simp[←hp]) (MH h) E5;rw[show(([]:List (Int×Int)).length:Int)=0 from rfl]at this;rw[this,←hp];cases C9 (ffS N e) 0
   .rfl
   .simp only[o7];rw[show gy -t.size=(gy -t.size -1)+1 by unfold gy;omega];rw[Ea];unfold fmF;simp only[dH,bP];rw[←h3,show H6 ((e.length:Nat):Int) (o9 e)=false from O6 e];rfl
  refine O9 hl ?_;rw[o8];cases C9 (ffS N e) 0<;>rfl
abbrev a4H:Type:=List (Int×Int)×D9
theorem Iu(n:Nat)(p:a4H)(i:Int):(A7 (n+1)).1 p i=X8 (A7 n).1 (A7 n).2.1 (A7 n).2.2 p i:=rfl
theorem b3e(n:Nat)(p:a4H)(x:Int×Int)(l:List Int):(A7 (n+1)).2.1 p x l=lL (A7 n).1 (A7 n).2.1 (A7 n).2.2 p x l:=rfl
theorem b3f(n:Nat)(p:a4H)(i c:Int):(A7 (n+1)).2.2 p i c=nT (A7 n).1 (A7 n).2.1 (A7 n).2.2 p i c:=rfl
theorem qE{n:Nat}{p:a4H}(c:Int)(h:(A7 n).1 p i=some (x.1,x.2,p))(hl:x.1.length<=1000000):(A7 (n+1)).2.2 p i c=some (wiS x c,p):=by rw[b3f];unfold nT wiS;rw[h,o8,G5 E5,o8,G5 E5,o8];cases H6 x.2 c<;>rfl
theorem a5T(k:Int):0<=(xk k).2:=by
 unfold xk dK;simp only[mZ];repeat' split
 all_goals simp
theorem a1L(n:Int×Int)(N:D9):0<=(lV n N).2:=by
 unfold lV;simp only[mZ];repeat' split
 all_goals simp
theorem a5f(n:Int×Int)(N:D9)(b:Bool)(a:Tx):0<=(Ce n N b a).2:=by
 unfold Ce;simp only[mZ];repeat' split
 all_goals simp
theorem MK(N:D9)(t:XT):0<=(kY N t).2:=by
 cases t with
 |l0 n=>exact a1L n N|l1 n a=>exact a5f _ _ _ _|l2 n a b=>have:=a5T n.1;unfold kY Gv;cases XN n.1<;>cases Hz n.1<;>simp[l7]<;>exact this|l3 n a b c=>simp[kY,ifX]
theorem wi0(h:0<=x.2):wiS x 0=x.1:=by unfold wiS;rw[au h];rfl
theorem WY(h:0<=m/\m<=5):qC m=some (ug m):=by obtain⟨k,rfl⟩:∃k:Fin 6,m=(k.val:Int):=⟨⟨m.toNat,o5⟩,by simp;omega⟩;revert k;decide
def Tz(b:List UInt8×Nat)(a:List UInt8):List UInt8×Nat:=(l7 (H6 0 (b.2:Int)) (b.1++[44,32]++a) (b.1++a),b.2+1)
def Fz(l:List (List UInt8)):List UInt8:=(l.foldl Tz ([],0)).1
theorem a4W(hl:l.length<=10)(hb:∀s∈l,s.length<=1000000){f:List UInt8×Int->Option ((List UInt8×Int)⊕List UInt8)}
  (hf:∀(t:List UInt8) (i:Nat) (a:List UInt8),l[i]? =some a->f (t,(i:Int))=l7 (H6 0 (i:Int)) (l9 (J5 t [44,32]) λx=>l9 (J5 x a) λx=>some (.inl (x,((i+1:Nat):Int)))) (l9 (J5 t a) λx=>some (.inl (x,((i+1:Nat):Int)))))
  (he:∀t,f (t,(l.length:Int))=some (.inr t)):dV f ([],0)=some (Fz l):=by
 have:=(xE l Tz (λb i=>(b.1,i)) (λb=>b.1) (λi b=>b.2=i/\b.1.length<=i*1000010) (f:=f) (b:=([],0)) o5 ⟨rfl,x9⟩ (λi a b hx hi hI=>?_) (λb hI=>he b.1)).1
 .exact this
 .have ha:=hb a (pg hx);have hlt:=(ax.1 hx).1;obtain⟨h1,h2⟩:=hI;rw[hf b.1 i a hx];unfold Tz;rw[h1];cases H6 0 (i:Int)
  .rw[o6,o6,G5 o5,o8];exact⟨rfl,rfl,by simp;omega⟩
  .rw[o7,o7,G5 E5,o8,G5 E5,o8];exact⟨rfl,rfl,by simp;omega⟩
def NV(n:Int×Int)(N:D9)(l:List (List UInt8)):List (List UInt8):=
 let a:=l7 (C9 n.1 34) [gtN N.2.1 (eU .i64 n.2 8)] [];let b:=l7 (C9 n.1 33) (a++[gtN N.2.1 n.2]) (l7 (P7 36 n.1) (a++[gtN N.2.2.2.2 n.2]) a);let c:=b++l;let d:=l7 (Hz n.1) (c++[ug n.2]) c
 l7 (C9 n.1 34) (d++[ug (jP n.2 8)]) d
structure Ref11 (n:Int×Int) (N:D9):Prop where
 b:n.1=34->L6 N.2.1 (eU .i64 n.2 8)=some (gtN N.2.1 (eU .i64 n.2 8))/\0<=jP n.2 8/\jP n.2 8<=5
 t:n.1=33->L6 N.2.1 n.2=some (gtN N.2.1 n.2)
 m:36<=n.1->L6 N.2.2.2.2 n.2=some (gtN N.2.2.2.2 n.2)
 r:Hz n.1=true->0<=n.2/\n.2<=5
theorem U_{k:Nat}{ops:List Int}{ts:List (List UInt8)}(hr:Ref11 n N)(hN:NmOk N)(hlen:ops.length=ts.length)(h3:ts.length<=3)(hts:∀s∈ts,s.length<=1000000)
  (hc:∀(i:Nat) (o:Int) (s:List UInt8),ops[i]? =some o->ts[i]? =some s->(A7 k).2.2 (e,N) o 0=some (s,(e,N))):(A7 (k+1)).2.1 (e,N) n ops=some (Fz (NV n N ts),(e,N)):=by
 rw[b3e];unfold lL NV;have s1:(l7 (C9 n.1 34) (l9 (L6 N.2.1 (eU IntKind.i64 n.2 8)) λ(x:List UInt8)=>l9 (bK [] [x]) λ(x:List (List UInt8))=>some x) (some []))=some (l7 (C9 n.1 34) [gtN N.2.1 (eU .i64 n.2 8)] []):=by
  cases h:C9 n.1 34
  .rfl
  .rw[(hr.b (mf.1 h)).1];rfl
 refine O9 s1 ?_;rw[o8];generalize hA:l7 (C9 n.1 34) [gtN N.2.1 (eU .i64 n.2 8)] []=A;have lA:A.length<=1:=by rw[←hA];cases C9 n.1 34<;>simp
 have mA:∀s∈A,s.length<=1000:=by
  rw[←hA];cases C9 n.1 34
  .intro s hs;cases hs
  .intro s hs;simp at hs;rw[hs];exact xw hN.t _
 have s2:(l7 (C9 n.1 33)
    (l9 (mW n N) λ(x_1:List (List UInt8))=>
     l9 (L6 x_1 n.2) λ(x_2:List UInt8)=>l9 (bK A [x_2]) λ(x:List (List UInt8))=>some x)
    (l7 (P7 36 n.1)
     (l9 (mW n N) λ(x_1:List (List UInt8))=>
      l9 (L6 x_1 n.2) λ(x_2:List UInt8)=>l9 (bK A [x_2]) λ(x:List (List UInt8))=>some x)
     (some A)))=some (l7 (C9 n.1 33) (A++[gtN N.2.1 n.2]) (l7 (P7 36 n.1) (A++[gtN N.2.2.2.2 n.2]) A)):=by
  unfold mW;by_cases h:n.1=33
  .rw[Z9 h,o7,o7];simp only[N9 (show n.1≠7 by omega),N9 (show n.1≠8 by omega),Z9 h,o7,o6,o8,hr.t h];rw[kK _ o5];rfl
  .rw[N9 h,o6,o6];by_cases h2:36<=n.1
   .rw[ai h2,o7,o7];simp only[N9 (show n.1≠7 by omega),N9 (show n.1≠8 by omega),N9 h,o6,o8,hr.m h2];rw[kK _ o5];rfl
   .rw[aW o5];rfl
 refine O9 s2 ?_;rw[o8];generalize hB:l7 (C9 n.1 33) (A++[gtN N.2.1 n.2]) (l7 (P7 36 n.1) (A++[gtN N.2.2.2.2 n.2]) A)=B;have lB:B.length<=2:=by rw[←hB];cases C9 n.1 33<;>cases P7 36 n.1<;>simp[l7]<;>omega
 have mB:∀s∈B,s.length<=1000:=by
  rw[←hB];intro s hs;cases h:C9 n.1 33
  .rw[h]at hs;cases h2:P7 36 n.1
   .rw[h2]at hs;exact mA s hs
   .rw[h2]at hs;simp[l7]at hs;rcases hs with hs|hs
    .exact mA s hs
    .rw[hs];exact xw hN.m _
  .rw[h]at hs;simp[l7]at hs;rcases hs with hs|hs
   .exact mA s hs
   .rw[hs];exact xw hN.t _
 have s3:dV (λ(x:G6×List (List UInt8)×Int)=>
     l7 (H6 x.2.2 (o9 ops))
      (l9 (L6 ops x.2.2) λ(x_1:Int)=>
       l9 ((A7 k).2.2 x.1 x_1 0) λ(x_2:List UInt8×G6)=>
        l9 (bK x.2.1 [x_2.1]) λ(x_3:List (List UInt8))=>
         some (Sum.inl (x_2.2,x_3,F6 IntKind.i64 x.2.2 1)))
      (some (Sum.inr (x.1,x.2.1))))
    ((e,N),B,0)=some ((e,N),B++ts):=by
  have:=(xE ts (λ(b:List (List UInt8)) a=>b++[a]) (λb i=>((((e,N):G6),b,i):G6×List (List UInt8)×Int)) (λb=>(((e,N):G6),b)) (λi b=>b.length<=2+i) (b:=B) (f:=λ(x:G6×List (List UInt8)×Int)=>
     l7 (H6 x.2.2 (o9 ops))
      (l9 (L6 ops x.2.2) λ(x_1:Int)=>
       l9 ((A7 k).2.2 x.1 x_1 0) λ(x_2:List UInt8×G6)=>
        l9 (bK x.2.1 [x_2.1]) λ(x_3:List (List UInt8))=>
         some (Sum.inl (x_2.2,x_3,F6 IntKind.i64 x.2.2 1)))
      (some (Sum.inr (x.1,x.2.1)))) o5 o5 (λi a b hx hi hI=>?_) (λb hI=>?_)).1
  .rw[this];congr 2;have:∀(l B:List (List UInt8)),l.foldl (λ(b:List (List UInt8)) a=>b++[a]) B=B++l:=by
    intro l;induction l with
    |nil=>intro B;simp|cons a l ih=>intro B;rw[Y0,ih];simp
   rw[this]
  .have hlt:=(ax.1 hx).1;have ho:ops[i]? =some ops[i]:=lS o5;simp only[O7 ho,o7,J9,ho,o8,hc i _ _ ho hx];rw[kK _ o5,o8,dF o5];exact⟨rfl,by simp;omega⟩
  .simp only;rw[show H6 ((ts.length:Nat):Int) (o9 ops)=false by rw[←hlen];exact O6 ops];rfl
 refine O9 s3 ?_;rw[o8];have s4:∀(y:G6×List (List UInt8)),y.2.length<=10->(l7 (C9 n.1 14)
     (l9 (qC n.2) λ(x:List UInt8)=>l9 (bK y.2 [x]) λ(x:List (List UInt8))=>some x)
     (l7 (C9 n.1 15)
      (l9 (qC n.2) λ(x:List UInt8)=>l9 (bK y.2 [x]) λ(x:List (List UInt8))=>some x)
      (l7 (C9 n.1 16)
       (l9 (qC n.2) λ(x:List UInt8)=>
        l9 (bK y.2 [x]) λ(x:List (List UInt8))=>some x)
       (some y.2))))=some (l7 (Hz n.1) (y.2++[ug n.2]) y.2):=by
  intro y hy;cases h:Hz n.1
  .unfold Hz at h;cases h1:C9 n.1 14<;>cases h2:C9 n.1 15<;>cases h3:C9 n.1 16<;>simp only[h1,h2,h3,o7,o6]at h<;>first|exact absurd h V5|rfl
  .rw[WY (hr.r h)];simp only[o8];rw[kK _ o5,o8];unfold Hz at h;cases h1:C9 n.1 14<;>cases h2:C9 n.1 15<;>cases h3:C9 n.1 16<;>simp only[h1,h2,h3,o7,o6]at h<;>first|exact absurd h V5|rfl
 refine O9 (s4 ((e,N),B++ts) E5) ?_;rw[o8];simp only;generalize hD:l7 (Hz n.1) (B++ts++[ug n.2]) (B++ts)=D;have lD:D.length<=6:=by rw[←hD];cases Hz n.1<;>simp[l7]<;>omega
 have mD:∀s∈D,s.length<=1000000:=by
  rw[←hD];intro s hs;have hm:=yu n.2;cases h:Hz n.1
  .rw[h]at hs;simp[l7]at hs;rcases hs with hs|hs
   .have:=mB s hs;omega
   .exact hts s hs
  .rw[h]at hs;simp[l7]at hs;rcases hs with hs|hs|hs
   .have:=mB s hs;omega
   .exact hts s hs
   .rw[hs];omega
 have jn:∀(l:List (List UInt8)),l.length<=10->(∀s∈l,s.length<=1000000)->dV (λ(x_2:List UInt8×Int)=>
          l7 (H6 x_2.2 (o9 l))
           (l7 (H6 0 x_2.2)
            (l9 (J5 x_2.1 [44,32]) λ(x_3:List UInt8)=>
             l9 (L6 l x_2.2) λ(x_4:List UInt8)=>
              l9 (eH l (dB x_2.2)) λ(x:List UInt8)=>
               l9 (J5 x_3 x) λ(x:List UInt8)=>some (Sum.inl (x,F6 IntKind.i64 x_2.2 1)))
            (l9 (L6 l x_2.2) λ(x_3:List UInt8)=>
             l9 (eH l (dB x_2.2)) λ(x:List UInt8)=>
              l9 (J5 x_2.1 x) λ(x:List UInt8)=>some (Sum.inl (x,F6 IntKind.i64 x_2.2 1))))
           (some (Sum.inr x_2.1)))
         ([],0)=some (Fz l):=by
  intro l hl hb;refine a4W hl hb (λt i a hx=>?_) (λt=>?_)
  .have hlt:=(ax.1 hx).1;simp only[O7 hx,o7,J9,eH,dB,U7,hx,o8];rw[dF o5]
  .simp only[O6 l,o6]
 cases h34:C9 n.1 34
 .simp only[o6];refine O9 (jn D o5 mD) ?_;rw[o8,hB,hD]
 .simp only[o7];rw[WY (hr.b (mf.1 h34)).2,o8,kK _ o5,o8];have hm:=yu (jP n.2 8);refine O9 (jn (D++[ug (jP n.2 8)]) E5 (λs hs=>?_)) ?_
  .simp at hs;rcases hs with hs|hs
   .exact mD s hs
   .rw[hs];omega
  .rw[o8,hB,hD]
theorem Om(hf:V4 n N=l7 (H6 n.2 0) (some 6) (l7 (P7 (o9 l) n.2) (some 6) (some 0)))(h:flS n N=0):L6 l n.2=some (gtN l n.2):=by
 unfold flS at h;rw[hf]at h;by_cases h0:n.2<0
 .rw[bn h0]at h;cases h
 by_cases h1:o9 l<=n.2
 .rw[au o5,ai h1]at h;cases h
 exact(IV o5 o5).1
theorem a4P(hm:lG m)(h:flS (34,m) N=0):L6 N.2.1 (eU .i64 m 8)=some (gtN N.2.1 (eU .i64 m 8))/\0<=jP m 8/\jP m 8<=5:=by
 have hf:V4 (34,m) N=l7 (H6 m 0) (some 6) (l7 (P7 (o9 N.2.1) (eU .i64 m 8)) (some 6) (l7 (H6 5 (jP m 8)) (some 3) (some 0))):=rfl;unfold flS at h;rw[hf]at h;by_cases h0:m<0
 .rw[bn h0]at h;cases h
 by_cases h1:o9 N.2.1<=eU .i64 m 8
 .rw[au o5,ai h1]at h;cases h
 by_cases h2:5<jP m 8
 .rw[au o5,aW o5,bn h2]at h;cases h
 have hq:eU .i64 m 8=m / 8:=by rw[Ou hm 8 (.inl rfl),lX o5]
 have hr0:jP m 8=m % 8:=zU o5;exact⟨(IV o5 o5).1,o5,o5⟩
theorem a6W(hk:k=14\/k=15\/k=16)(h:flS (k,m) N=0):0<=m/\m<=5:=by
 have hf:V4 (k,m) N=l7 (H6 m 0) (some 3) (l7 (H6 5 m) (some 3) (some 0)):=by rcases hk with rfl|rfl|rfl<;>rfl
 unfold flS at h;rw[hf]at h;by_cases h0:m<0
 .rw[bn h0]at h;cases h
 by_cases h2:5<m
 .rw[au o5,bn h2]at h;cases h
 omega
theorem a2Q(hm:lG n.2)(h:flS n N=0)(ha:0<=arF n.1):Ref11 n N:=by
 obtain⟨k,m⟩:=n;refine⟨λh1=>?_,λh1=>?_,λh1=>?_,λh1=>?_⟩
 .simp only at h1;subst h1;exact a4P hm h
 .simp only at h1;subst h1;exact Om rfl h
 .rcases arN k with h2|h2
  .have:k=36\/k=37\/k=38\/k=39:=by simp only at h1;omega
   rcases this with rfl|rfl|rfl|rfl<;>exact Om rfl h
  .simp only at ha;omega
 .refine a6W (k:=k) ?_ h;unfold Hz at h1;by_cases g1:k=14
  .exact .inl g1
  by_cases g2:k=15
  .exact .inr (.inl g2)
  rw[N9 g1,N9 g2,o6,o6]at h1;exact .inr (.inr (mf.1 h1))
theorem vO{j:Nat}{ops:List Int}{ts:List (List UInt8)}(hx:L6 e i=some (k,m))(ho:rW e i=some ops)(hm:lG m)(hfl:flS (k,m) N=0)(ha:0<=arF k)(hN:NmOk N)
  (hk:bH (k,m)=some ((0,0,0),false)/\dK k=some ([],0)/\k≠6/\k≠7/\k≠8/\k≠9/\k≠10/\k≠25/\k≠26)
  (hlen:ops.length=ts.length) (h3:ts.length<=3) (hts:∀s∈ts,s.length<=1000000) (hj:(Fz (NV (k,m) N ts)).length<=100000000)
  (hc:∀(a:Nat) (o:Int) (s:List UInt8),ops[a]? =some o->ts[a]? =some s->(A7 j).2.2 (e,N) o 0=some (s,(e,N))):
  (A7 (j+2)).1 (e,N) i=some (ru k++[40]++Fz (NV (k,m) N ts)++[41],7,(e,N)):=by
 obtain⟨h1,h2,g6,g7,g8,g9,g10,g25,g26⟩:=hk;have hw:=qM k;rw[Iu];unfold X8;simp only[hx,ho,h1,h2,o8,o6,show seq ([]:List UInt8) []=true from rfl,I7,N9 g6,N9 g7,N9 g8,N9 g9,N9 g10,N9 g25,N9 g26,a4E];rw[G5 E5,o8,U_ (a2Q hm hfl ha) hN hlen h3 hts hc,o8,G5 E5,o8,G5 E5,o8]
theorem Tv(a:List UInt8):Fz [a]=a:=by simp[Fz,Tz,H6,l7]
theorem ZX(a b:List UInt8):Fz [a,b]=a++[44,32]++b:=by simp[Fz,Tz,H6,l7]
theorem ZY(a b c:List UInt8):Fz [a,b,c]=a++[44,32]++b++[44,32]++c:=by simp[Fz,Tz,H6,l7]
end Go.GP
