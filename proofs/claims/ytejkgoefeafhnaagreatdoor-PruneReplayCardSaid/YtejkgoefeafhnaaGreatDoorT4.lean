import Derived.Test.YtejkgoefeafhnaaGreatDoorT1
import Derived.Test.YtejkgoefeafhnaaGreatDoorT2
set_option linter.all false
namespace Go.GP
variable {a:Int}{b:Int}{n:Int}
section
variable {α β σ ε ρ:Type}
@[simp] theorem o8 (x:α) (f:α->Option β):o5 (some x) f=f x:=rfl
@[simp] theorem c0M (f:α->Option β):o5 none f=none:=rfl
theorem lV{o:Option α}{x:α}(h:o=some x)(f:α->Option β):o5 o f=f x:=by rw[h];rfl
theorem X9{o o' :Option α}(h:o=o'){K:α->Option β}{r:Option β}(h2:o5 o' K=r):o5 o K=r:=by rw[h];exact h2
theorem bb(a b:Bool):l9 a (some b) (some false)=some (a&&b):=by cases a<;>rfl
theorem ig(o:Option α):o5 o (λx=>some x)=o:=by cases o<;>rfl
@[simp] theorem o7 (x y:α):l9 true x y=x:=rfl
@[simp] theorem o6 (x y:α):l9 false x y=y:=rfl
theorem Ic{b:Bool}(h:b=true)(x y:α):l9 b x y=x:=by rw[h];rfl
theorem NH{b:Bool}(h:b=false)(x y:α):l9 b x y=y:=by rw[h];rfl
@[simp] theorem U1 (s:σ) (f:σ->α) (g:ε->α):aj (.inl s) f g=f s:=rfl
@[simp] theorem uo (s:ε) (f:σ->α) (g:ε->α):aj (.inr s) f g=g s:=rfl
@[simp] theorem E5:F8 true=false:=rfl
@[simp] theorem aW:F8 false=true:=rfl
theorem U8(h:a<b):E8 a b=true:=by simp[E8,h]
theorem N7(h:b<=a):E8 a b=false:=by simp[E8];omega
theorem Y3(h:a<=b):L8 a b=true:=by simp[L8,h]
theorem Y9(h:b<a):L8 a b=false:=by simp[L8];omega
theorem N9(h:a=b):x8 a b=true:=by simp[x8,h]
theorem O9(h:a≠b):x8 a b=false:=by simp[x8,h]
theorem jF :E8 a b=true↔a<b:=by simp[E8]
theorem iQ :L8 a b=true↔a<=b:=by simp[L8]
theorem O5 :x8 a b=true↔a=b:=by simp[x8]
theorem iE :E8 a b=false↔b<=a:=by simp[E8]
theorem Bl :L8 a b=false↔b<a:=by simp[L8]
theorem yO :x8 a b=false↔a≠b:=by simp[x8]
theorem a4i{a b:d1C} :seq a b=true↔a=b:=by simp[seq]
theorem kL(h:0<=a):a.tdiv b=a / b:=Int.tdiv_eq_ediv_of_nonneg h
theorem zD(h:0<=a):fC a b=a % b:=fU h
def kP(n:Int):Prop:=-9223372036854775808<=n/\n<=9223372036854775807
theorem U7{p:Int}(h:kP p:=by unfold kP;omega):kP p:=h
def U64(n:Int):Prop:=0<=n/\n<=18446744073709551615
theorem nK(h:kP n):IntKind.wrap .i64 n=n:=by unfold kP at h;unfold IntKind.wrap;simp[IntKind.signed,IntKind.bits];omega
theorem b7R(h:U64 n):IntKind.wrap .u64 n=n:=by unfold U64 at h;unfold IntKind.wrap;simp[IntKind.signed,IntKind.bits];omega
theorem ai(h:kP (a+b)):D5 .i64 a b=a+b:=nK h
theorem X4(h:kP (a -b)):L6 .i64 a b=a -b:=nK h
theorem og(h:kP (a*b)):az .i64 a b=a*b:=nK h
theorem zC(h:kP (a.tdiv b)):dM .i64 a b=a.tdiv b:=nK h
theorem a0W(h:(Lit.int .i64 n).wf=true):kP n:=by simp[Lit.wf,IntKind.min,IntKind.max,IntKind.signed,IntKind.bits]at h;unfold kP;omega
theorem XR(l:List α):0<=o9 l:=by simp[o9]
theorem F7(l:List α)(i:Nat):F9 l (i:Int)=l[i]?:=by simp[F9]
theorem bg{l:List α}{i:Int}{x:α}(h:F9 l i=some x):0<=i/\i<o9 l/\x∈l/\l[i.toNat]? =some x:=by
 unfold F9 at h;split at h
 .rename_i h0;obtain⟨h1,h2⟩:=X6.1 h;refine⟨h0,by simp[o9];omega,?_,h⟩;rw[←h2];exact G8 h1
 .cases h
theorem mO{l:List α}{i:Int}(h0:0<=i)(h:i<o9 l):∃x,F9 l i=some x/\x∈l:=by
 unfold o9 at h;refine⟨l[i.toNat]'l7,?_,G8 _⟩;unfold F9
 rw[if_pos h0,bn]
theorem YZ(l:d1C)(i:Nat):sat l (i:Int)=(l[i]?).map λc=>(c.toNat:Int):=by simp[sat]
theorem uy{a b:List α}(h:a.length+b.length<=1073741824):cu a b=some (a++b):=by simp[cu,h]
theorem b8n{l:List α}{lo hi:Int}(h0:0<=lo)(h1:lo<=hi)(h2:hi<=l.length):Qc l lo hi=some ((l.take hi.toNat).drop lo.toNat):=by simp[Qc,h0,h1,h2]
theorem b8o{l:List α}{hi:Int}(h1:0<=hi)(h2:hi<=l.length):Qc l 0 hi=some (l.take hi.toNat):=by rw[b8n l7 h1 h2];simp
end
section
variable {σ ε ρ:Type}
theorem XV{f:σ->Option (σ⊕ε)}(Inv:σ->Prop)(Q:ε->Prop)(meas:σ->Nat)
  (h:∀s,Inv s->(∃s',f s=some (.inl s')/\Inv s' /\meas s' <meas s)\/(∃e,f s=some (.inr e)/\Q e)):
  ∀n s,Inv s->meas s<n->∃e,lU f n s=some e/\Q e
 |0,_,_,h=>by omega|n+1,s,hi,hm=>by
  unfold lU;rcases h s hi with⟨s',e,hi',hm'⟩|⟨x,e,hx⟩
  .rw[e];exact XV Inv Q meas h n s' hi' l7
  .rw[e];exact⟨x,rfl,hx⟩
theorem iJ{f:σ->Option (σ⊕ε)}{s:σ}(Inv:σ->Prop)(Q:ε->Prop)(meas:σ->Nat)(hi:Inv s)(hm:meas s<18446744073709551616)
  (h:∀s,Inv s->(∃s',f s=some (.inl s')/\Inv s' /\meas s' <meas s)\/(∃e,f s=some (.inr e)/\Q e)):∃e,aB f s=some e/\Q e:=
 XV Inv Q meas h _ s hi hm
theorem C_{f:σ->Option (Out σ ε ρ)}(Inv:σ->Prop)(Q:ε->Prop)(Qr:ρ->Prop)(meas:σ->Nat)
  (h:∀s,Inv s->(∃s',f s=some (.nx s')/\Inv s' /\meas s' <meas s)\/(∃e,f s=some (.ex e)/\Q e)\/(∃r,f s=some (.rt r)/\Qr r)):
  ∀n s,Inv s->meas s<n->(∃e,rH f n s=some (.inl e)/\Q e)\/(∃r,rH f n s=some (.inr r)/\Qr r)
 |0,_,_,h=>by omega|n+1,s,hi,hm=>by
  unfold rH;rcases h s hi with⟨s',e,hi',hm'⟩|⟨x,e,hx⟩|⟨x,e,hx⟩
  .rw[e];exact C_ Inv Q Qr meas h n s' hi' l7
  .rw[e];exact .inl ⟨x,rfl,hx⟩
  .rw[e];exact .inr ⟨x,rfl,hx⟩
theorem xP{f:σ->Option (Out σ ε ρ)}{s:σ}(Inv:σ->Prop)(Q:ε->Prop)(Qr:ρ->Prop)(meas:σ->Nat)(hi:Inv s)(hm:meas s<18446744073709551616)
  (h:∀s,Inv s->(∃s',f s=some (.nx s')/\Inv s' /\meas s' <meas s)\/(∃e,f s=some (.ex e)/\Q e)\/(∃r,f s=some (.rt r)/\Qr r)):
  (∃e,ah f s=some (.inl e)/\Q e)\/(∃r,ah f s=some (.inr r)/\Qr r):=
 C_ Inv Q Qr meas h _ s hi hm
end
section
variable {α β ε ρ:Type}
open Classical in
theorem Gf(l:List α)(p:Nat->α->Bool)(r:ρ)(e:ε)(f:Int->Option (Out Int ε ρ))(hl:l.length<18446744073709551616)
  (hin:∀(i:Nat) (a:α),l[i]? =some a->f (i:Int)=if p i a=true then some (.nx ((i+1:Nat):Int))else some (.rt r))
  (hend:f (l.length:Int)=some (.ex e)):
  ah f 0=if(∀i a,l[i]? =some a->p i a=true)then some (.inl e)else some (.inr r):=by
 have key:∀(n i:Nat),i<=l.length->l.length -i<n->(∀j a,j<i->l[j]? =some a->p j a=true)->rH f n (i:Int)=if(∀i a,l[i]? =some a->p i a=true)then some (.inl e)else some (.inr r):=by
  intro n;induction n with
  |zero=>intro i _ h;omega|succ n ih=>
   intro i hi hn hp;unfold rH;by_cases h:i<l.length
   .have e' :=bn h;rw[hin i _ e'];by_cases hpi:p i l[i]=true
    .rw[if_pos hpi];exact ih (i+1) l7 l7 λj a hj ha=>by
      by_cases hji:j=i
      .subst hji;rw[e']at ha;cases ha;exact hpi
      .exact hp j a l7 ha
    .rw[if_neg hpi,if_neg];intro hall;exact hpi (hall i _ e')
   .have:i=l.length:=l7;subst this;rw[hend,if_pos];intro j a ha;exact hp j a (X6.1 ha).1 ha
 exact key _ 0 (pI _) hl λj a hj=>by omega
end
end Go.GP
namespace Go.GP
section
variable {α β α' β' σ τ ε ε' ρ ρ' :Type}
def Ag(R:α->β->Prop)(o:Option α)(p:Option β):Prop:=∃a b,o=some a/\p=some b/\R a b
theorem Ag.mk{R:α->β->Prop}{a:α}{b:β}(h:R a b):Ag R (some a) (some b):=⟨a,b,rfl,rfl,h⟩
theorem Ag.mono{R S:α->β->Prop}{o:Option α}{p:Option β}(h:Ag R o p)(hs:∀a b,o=some a->p=some b->R a b->S a b):Ag S o p:=by obtain⟨a,b,h1,h2,h3⟩:=h;exact⟨a,b,h1,h2,hs a b h1 h2 h3⟩
theorem Ag.bind{R:α->β->Prop}{S:α' ->β' ->Prop}{o:Option α}{p:Option β}{f:α->Option α'}{g:β->Option β'}(h:Ag R o p)
  (hk:∀a b,o=some a->p=some b->R a b->Ag S (f a) (g b)):Ag S (o5 o f) (o5 p g):=by
 obtain⟨a,b,h1,h2,h3⟩:=h;have:=hk a b h1 h2 h3;rw[h1,h2];exact this
theorem Ag.left{S:α' ->β->Prop}{o:Option α}{a:α}{f:α->Option α'}{p:Option β}(h:o=some a)(hk:Ag S (f a) p):Ag S (o5 o f) p:=by rw[h];exact hk
theorem Ag.right{S:α->β' ->Prop}{p:Option β}{b:β}{g:β->Option β'}{o:Option α}(h:p=some b)(hk:Ag S o (g b)):Ag S o (o5 p g):=by rw[h];exact hk
theorem Ag.cond{S:α->β->Prop}{b c:Bool}{x y:Option α}{u v:Option β}(h:b=c)(h1:b=true->Ag S x u)(h2:b=false->Ag S y v):Ag S (l9 b x y) (l9 c u v):=by
 subst h;cases b
 .exact h2 rfl
 .exact h1 rfl
theorem Ag.eq{o p:Option α}(h:Ag Eq o p):∃a,o=some a/\p=some a:=by obtain⟨a,b,h1,h2,rfl⟩:=h;exact⟨a,h1,h2⟩
def c8Q(E:ε->ε' ->Prop)(Q:ρ->ρ' ->Prop):ε⊕ρ->ε' ⊕ρ' ->Prop
 | .inl a,.inl b=>E a b| .inr a,.inr b=>Q a b|_,_=>False
theorem Ag.sum{E:ε->ε' ->Prop}{Q:ρ->ρ' ->Prop}{S:α->β->Prop}{o:ε⊕ρ}{p:ε' ⊕ρ'}{f:ε->Option α}{g:ρ->Option α}{f' :ε' ->Option β}{g' :ρ' ->Option β}(h:c8Q E Q o p)
  (h1:∀a b,E a b->Ag S (f a) (f' b)) (h2:∀a b,Q a b->Ag S (g a) (g' b)):Ag S (aj o f g) (aj p f' g'):=by
 cases o<;>cases p<;>first|exact h1 _ _ h|exact h2 _ _ h|exact h.elim
theorem KW{p:Nat->Option ρ}(n:Nat)(hn:n<18446744073709551616)(e:ε){f:Int->Option (Out Int ε ρ)}
  (h1:∀i,i<n->f (i:Int)=some (match p i with|some r=> .rt r|none=> .nx ((i+1:Nat):Int))) (h2:f (n:Int)=some (.ex e)):
  ah f 0=some (match(List.range n).findSome? p with|some r=> .inr r|none=> .inl e):=by
 have key:∀m i,i+m=n->∀k,m<k->rH f k (i:Int)=some (match(List.range' i m).findSome? p with|some r=> .inr r|none=> .inl e):=by
  intro m;induction m with
  |zero=>intro i hi k hk;obtain⟨k,rfl⟩:∃k',k=k' +1:=⟨k -1,l7⟩;have:i=n:=l7;subst this;unfold rH;rw[h2];rfl
  |succ m ih=>
   intro i hi k hk;obtain⟨k,rfl⟩:∃k',k=k' +1:=⟨k -1,l7⟩;unfold rH;rw[h1 i l7,oV,List.findSome?_cons];cases hp:p i with
   |some r=>rfl|none=>exact ih (i+1) l7 k l7
 have:=key n 0 l7 jb hn;rw[List.range_eq_range'];exact this
end
end Go.GP
namespace Go.GP
open Gt
set_option maxRecDepth 100000
section
variable {i:Nat}
theorem Y4(h:i<=9000000000000000000):D5 .i64 (i:Int) 1=((i+1:Nat):Int):=by rw[ai U7];omega
def WN(c:UInt8):Bool:=decide (97<=c.toNat)&&decide (c.toNat<=122)
def Fz(c:UInt8):Bool:=WN c || (decide (48<=c.toNat)&&decide (c.toNat<=57)) || decide (c.toNat=95)
def Px:List d1C:=xy.getD []
theorem b8L:xy=some Px:=by kernel_rfl
def DY(s:d1C):Bool:=match s with|[]=>false|c::r=>decide (s.length<=16)&&WN c&&s.all Fz&&!(Px.any λw=>seq s w)
theorem a2h(c:UInt8)(r:d1C):DY (c::r)=(decide ((c::r).length<=16)&&WN c&&(c::r).all Fz&&!(Px.any λw=>seq (c::r) w)):=rfl
theorem D_(c:UInt8):yH (c.toNat:Int)=some (WN c):=by
 unfold yH WN;cases h:decide (97<=c.toNat)<;>simp only[decide_eq_true_eq,decide_eq_false_iff_not]at h
 .rw[Y9 l7];rfl
 .rw[Y3 l7];simp only[o7,fK,L8];congr 1;by_cases h2:c.toNat<=122<;>simp[h2]<;>omega
theorem a2I(c:UInt8):Ld (c.toNat:Int)=some (WN c):=D_ c
def a4T(c:UInt8):Bool:=decide (48<=c.toNat)&&decide (c.toNat<=57)
theorem a4U(c:UInt8):BG (c.toNat:Int)=some (a4T c):=by
 unfold BG a4T;cases h:decide (48<=c.toNat)<;>simp only[decide_eq_true_eq,decide_eq_false_iff_not]at h
 .rw[Y9 l7];rfl
 .rw[Y3 l7];simp only[o7,fK,L8];congr 1;by_cases h2:c.toNat<=57<;>simp[h2]<;>omega
theorem b2h(c:UInt8):Qu (c.toNat:Int)=some (a4T c):=a4U c
theorem b9C(c:UInt8):x8 (c.toNat:Int) 95=decide (c.toNat=95):=by unfold x8;by_cases h:c.toNat=95<;>simp[h]<;>omega
theorem b9r(c:UInt8):Oz (c.toNat:Int)=some (Fz c):=by unfold Oz;rw[a2I,o8,b2h,b9C];unfold Fz;change _=some (WN c || a4T c || decide (c.toNat=95));cases WN c<;>cases a4T c<;>rfl
variable {s:d1C}
theorem a1m(h:s.length<=1000000):∃k,Ap s=some k/\(k=o9 s↔s.all Fz=true):=by
 unfold Ap;have:=iJ (f:=λ(x:Int)=>l9 (E8 x (o9 s)) (o5 (sat s x) λx_1=>o5 (yH x_1) λx_2=>l9 x_2 (some (Sum.inl (D5 IntKind.i64 x 1)))
   (o5 (sat s x) λx_3=>o5 (BG x_3) λx_4=>l9 x_4 (some (Sum.inl (D5 IntKind.i64 x 1))) (o5 (sat s x) λx_5=>l9 (x8 x_5 95) (some (Sum.inl (D5 IntKind.i64 x 1))) (some (Sum.inr x))))) (some (Sum.inr x)))
  (s:=0) (λx=>∃i:Nat,x=i/\i<=s.length/\(s.take i).all Fz=true) (λk=>k=o9 s↔s.all Fz=true) (λx=>s.length -x.toNat) ⟨0,rfl,l7,rfl⟩ Z5 ?_
 .obtain⟨k,h1,h2⟩:=this;refine⟨k,?_,h2⟩;rw[ig];exact h1
 .rintro x ⟨i,rfl,hi,hall⟩;by_cases hl:i<s.length
  .have e:=bn hl;simp only[U8 (show(i:Int)<o9 s by simp[o9];omega),o7,YZ,e,eY,o8,D_,a4U,b9C];have hst:(s.take (i+1)).all Fz=((s.take i).all Fz&&Fz s[i]):=by rw[U3 hl,List.all_append];simp
   have hw:Fz s[i]=(WN s[i] || a4T s[i] || decide (s[i].toNat=95)):=rfl;cases hwb:Fz s[i]with
   |true=>left;refine⟨((i+1:Nat):Int),?_,⟨i+1,rfl,hl,by rw[hst,hall,hwb];rfl⟩,by simp;omega⟩;rw[Y4 l7];rw[hw]at hwb;cases h1:WN s[i]<;>cases h2:a4T s[i]<;>cases h3:decide (s[i].toNat=95)<;>rw[h1,h2,h3]at hwb<;>first|rfl|cases hwb
   |false=>
    right;refine⟨(i:Int),?_,?_⟩
    .rw[hw]at hwb;cases h1:WN s[i]<;>cases h2:a4T s[i]<;>cases h3:decide (s[i].toNat=95)<;>rw[h1,h2,h3]at hwb<;>first|rfl|cases hwb
    .constructor
     .intro h;simp[o9]at h;omega
     .intro h;have:=lJ.1 h s[i] (G8 hl);rw[hwb]at this;cases this
  .right;have:i=s.length:=l7;subst this;rw[aQ]at hall;exact⟨_,by rw[N7 (by simp[o9])];rfl,by simp[o9,hall]⟩
theorem b2o{a:d1C}{w:d1C}{r:d1F}{x:Bool}(h:r=some x):l9 (seq a w) (some (seq a w)) r=some (seq a w || x):=by rw[h];cases seq a w<;>rfl
theorem a6o(s:d1C):Eu s=some (Px.any λw=>seq s w):=by
 unfold Eu;refine X9 (o' :=some (Px.any λw=>seq s w)) ?_ (by cases Px.any λw=>seq s w<;>rfl);have hr:Px=(xy).getD []:=rfl;rw[show(Px.any λw=>seq s w)=List.foldr (λw b=>seq s w || b) false Px from by induction Px with|nil=>rfl|cons w l ih=>simp[kE,ih]];unfold Px xy;simp only[dP,List.foldr]
 repeat (refine b2o ?_)
 simp
theorem uH(h:s.length<=1000000):jy s=some (DY s):=by
 unfold jy;cases s with
 |nil=>rfl|cons c r=>
  have h1:seq (c::r) []=false:=by simp[seq]
  obtain⟨k,h2,h3⟩:=a1m h;rw[h1];simp only[aW,o7];rw[show sat (c::r) 0=some (c.toNat:Int)from rfl,o8,D_,o8,h2,o8,a6o,o8];have h4:x8 k (o9 (c::r))=(c::r).all Fz:=by rw[fV,O5];exact h3
  have h5:L8 (o9 (c::r)) 16=decide ((c::r).length<=16):=by simp only[L8,o9];congr 1;simp;omega
  rw[h4,h5,a2h];cases WN c<;>cases (c::r).all Fz<;>cases decide ((c::r).length<=16)<;>rfl
theorem pM(h:s.length<=1000000):gJ s=some (DY s):=by
 unfold gJ;cases s with
 |nil=>rfl|cons c r=>
  have h0:x8 (o9 (c::r)) 0=false:=O9 (by simp[o9];omega);have h5:E8 16 (o9 (c::r))= !decide ((c::r).length<=16):=by simp only[E8,o9];rw[←decide_not];congr 1;simp;omega
  rw[h0,h5,show sat (c::r) 0=some (c.toNat:Int)from rfl,o8,a2I,o8,a2h];generalize hs:c::r=s at*;cases hl:decide (s.length<=16)
  .rfl
  cases hc:WN c
  .rfl
  simp only[jr,o6,E5,o8,U1,fK];refine X9 (Gf s (λi a=>Fz a) false PUnit.unit _ l7 (λi x hx=>?_) ?_) ?_
  rotate_left 2
  .have ha:(∀(i:Nat) (a:UInt8),s[i]? =some a->Fz a=true)↔s.all Fz=true:=by
    rw[lJ];constructor
    .intro h x hx;obtain⟨i,hi,rfl⟩:=X7 hx;exact h i _ (bn hi)
    .intro h i a hi;exact h a (kw hi)
   by_cases hw:s.all Fz=true
   .rw[if_pos (ha.2 hw),o8,U1,b8L,o8,hw];refine X9 (Gf Px (λi a=> !seq a s) false PUnit.unit _ (by decide+kernel) (λi x hx=>?_) ?_) ?_
    rotate_left 2
    .have hb:(∀(i:Nat) (a:d1C),Px[i]? =some a->(!seq a s)=true)↔(Px.any λw=>seq s w)=false:=by
      rw[eP];constructor
      .intro h x hx;obtain⟨i,hi,rfl⟩:=X7 hx;have:=h i _ (bn hi);intro hq;rw[a4i.1 hq]at this;simp[seq]at this
      .intro h i a hi;have:=h a (kw hi);cases hq:seq a s
       .rfl
       .exact absurd (by rw[a4i.1 hq];simp[seq]) this
     by_cases hv:(Px.any λw=>seq s w)=false
     .rw[if_pos (hb.2 hv),hv];rfl
     .rw[if_neg (λh=>hv (hb.1 h))];simp only[rY]at hv;rw[hv];rfl
    .have hi:=(X6.1 hx).1;simp only[U8 (show(i:Int)<o9 Px by simp[o9];omega),o7,F7,hx,o8];rw[show V6 Px (V9 (i:Int))=some x from by simp[V6,V9,hx],o8,Y4 (by
       have:Px.length<=100:=by decide+kernel
       omega)]
     cases seq x s<;>rfl
    .rw[N7 (by simp[o9])];rfl
   .rw[if_neg (λh=>hw (ha.1 h))];simp only[lI]at hw;rw[hw];rfl
  .have hi:=(X6.1 hx).1;simp only[U8 (show(i:Int)<o9 s by simp[o9];omega),o7,YZ,hx,eY,o8,b9r];rw[Y4 l7];cases Fz x<;>rfl
  .rw[N7 (by simp[o9])];rfl
theorem VV(t:Int×Int)(en:List jA):jE t en=eF t en:=by
 unfold jE eF;by_cases h1:t.1=1
 .simp[x8,h1,L8]
 by_cases h2:t.1=2
 .simp[x8,h2,L8]
 by_cases h3:t.1=3
 .simp[x8,h3,L8]
 by_cases h4:t.1=4
 .simp[x8,h4,L8]
 by_cases h5:t.1=5
 .simp[x8,h5,L8]
 by_cases h6:t.1=6
 .simp[x8,h6,L8]
 .simp only[x8,h1,h2,h3,h4,h5,h6,decide_false,o6,o8];by_cases h7:1<=t.1
  .rw[Ic (Y3 h7),NH (Y9 l7)]
  .rw[NH (Y9 l7)]
theorem b0U(t:Int×Int)(en:List jA):vX t en=qg t en:=by unfold vX qg;rw[VV]
def vty(t:Int×Int)(en:List jA):Bool:=l9 (x8 t.1 6) (l9 (L8 0 t.2) (E8 t.2 (o9 en)) false) (l9 (L8 1 t.1) (l9 (L8 t.1 5) (x8 t.2 0) false) false)
theorem jJ(t:Int×Int)(en:List jA):eF t en=some (vty t en):=by unfold eF vty;cases x8 t.1 6<;>cases L8 0 t.2<;>cases L8 1 t.1<;>cases L8 t.1 5<;>rfl
theorem AZ(t:Int×Int)(en:List jA):jE t en=some (vty t en):=(VV t en).trans (jJ t en)
theorem a3V(t:Int×Int)(en:List jA):∃b:Int×Int,qg t en=some b:=by
 unfold qg;rw[jJ,o8];cases hv:vty t en
 .exact⟨_,rfl⟩
 simp only[E5,o6];cases h1:x8 t.1 1<;>simp only[o7,o6]
 .cases h2:x8 t.1 2<;>simp only[o7,o6]
  .cases h3:x8 t.1 3<;>simp only[o7,o6]
   .cases h4:x8 t.1 4<;>simp only[o7,o6]
    .cases h5:x8 t.1 5<;>simp only[o7,o6]
     .have h6:x8 t.1 6=true/\L8 0 t.2=true/\E8 t.2 (o9 en)=true:=by
       unfold vty at hv;rw[yO]at h1 h2 h3 h4 h5;cases h6:x8 t.1 6<;>rw[h6]at hv
       .rw[yO]at h6;cases h7:L8 1 t.1<;>rw[h7]at hv
        .cases hv
        cases h8:L8 t.1 5<;>rw[h8]at hv
        .cases hv
        rw[iQ]at h7 h8;omega
       .cases h7:L8 0 t.2<;>rw[h7]at hv
        .cases hv
        .exact⟨rfl,rfl,hv⟩
      obtain⟨x,hx,_⟩:=mO (iQ.1 h6.2.1) (jF.1 h6.2.2);rw[hx];exact⟨_,rfl⟩
     .exact⟨_,rfl⟩
    .exact⟨_,rfl⟩
   .exact⟨_,rfl⟩
  .exact⟨_,rfl⟩
 .exact⟨_,rfl⟩
def bnd(t:Int×Int)(en:List jA):Int×Int:=(qg t en).getD (0,0)
theorem Ua(t:Int×Int)(en:List jA):qg t en=some (bnd t en):=by obtain⟨b,h⟩:=a3V t en;unfold bnd;rw[h];rfl
theorem Wq(t:Int×Int)(en:List jA):vX t en=some (bnd t en):=(b0U t en).trans (Ua t en)
def inB(n:Int)(b:Int×Int):Bool:=l9 (L8 b.1 n) (L8 n b.2) false
theorem a3Q(n:Int)(t:Int×Int)(en:List jA):JK n t en=some (inB n (bnd t en)):=by unfold JK inB;rw[Ua,o8];cases L8 (bnd t en).1 n<;>rfl
def Jn(r:Int×Int):Bool:=l9 (L8 0 r.1) (l9 (L8 r.1 r.2) (L8 r.2 109573) false) false
theorem MK(r:Int×Int):uI r=some (Jn r):=by unfold uI Jn;cases L8 0 r.1<;>cases L8 r.1 r.2<;>rfl
theorem Oq(r:Int×Int):zO r=some (Jn r):=MK r
def ZX(a b:Int×Int):(Int×Int)×Bool:=l9 (Jn a) (l9 (Jn b) (l9 (L8 (ru a.2 b.2) (pW a.1 b.1)) ((0,0),false) ((pW a.1 b.1,ru a.2 b.2),true)) ((0,0),false)) ((0,0),false)
theorem b5V(a b:Int×Int):CJ a b=some (ZX a b):=by unfold CJ ZX;rw[Oq,o8,Oq,o8];cases Jn a<;>cases Jn b<;>cases L8 (ru a.2 b.2) (pW a.1 b.1)<;>rfl
theorem b9g(a b:Int×Int):wL a b=some (ZX a b):=by
 unfold wL yU ZX;rw[MK,o8,MK,o8];cases Jn a
 .rfl
 simp only[o7];cases h1:E8 a.1 a.2
 .rw[iE]at h1;rw[Y3 (show ru a.2 b.2<=pW a.1 b.1 by unfold ru pW;omega)];cases Jn b<;>rfl
 simp only[o8,E5,o6];cases Jn b
 .rfl
 simp only[o7];cases h2:E8 b.1 b.2
 .rw[iE]at h2;rw[Y3 (show ru a.2 b.2<=pW a.1 b.1 by unfold ru pW;omega)];rfl
 .cases L8 (ru a.2 b.2) (pW a.1 b.1)<;>rfl
def BC(a b:FB):Bool:=l9 (ZX a.1 b.1).2 (E8 (pW a.2.1 b.2.1) (ru a.2.2.1 b.2.2.1)) false
theorem a4P(a b:FB):Fh a b=some (BC a b):=by unfold Fh BC;rw[b9g,o8];cases (ZX a.1 b.1).2<;>rfl
theorem a3W(a b:FB):EL a b=some (BC a b):=by unfold EL BC;rw[b5V,o8];cases (ZX a.1 b.1).2<;>rfl
theorem b3J{l:List FB}(r:FB)(h:l.length<=1000000):∃k:Int,wU l r=some (k,l.any λy=>BC y r):=by
 unfold wU;have key:=xP (f:=λ(x:Int)=>l9 (E8 x (o9 l)) (o5 (F9 l x) λx_1=>o5 (xF x_1 r) λx_2=>l9 x_2 (some (Out.rt (x,true))) (some (Out.nx (D5 IntKind.i64 x 1)))) (some (Out.ex PUnit.unit)))
   (s:=0) (λx=>∃i:Nat,x=i/\i<=l.length/\(l.take i).any (λy=>BC y r)=false) (λ_=>(l.any λy=>BC y r)=false) (λk=>k.2=true/\(l.any λy=>BC y r)=true) (λx=>l.length -x.toNat) ⟨0,rfl,l7,rfl⟩ Z5 ?_
 .rcases key with⟨e,h1,h2⟩|⟨k,h1,h2,h3⟩
  .exact⟨0,by rw[h1,h2];rfl⟩
  .refine⟨k.1,?_⟩;rw[h1,h3,←h2];rfl
 .rintro x ⟨i,rfl,hi,hall⟩;by_cases hl:i<l.length
  .have e:=bn hl;have hst:(l.take (i+1)).any (λy=>BC y r)=((l.take i).any (λy=>BC y r) || BC l[i] r):=by rw[U3 hl,vI];simp
   have hv:xF l[i] r=some (BC l[i] r):=by unfold xF;rw[a4P];rfl
   simp only[U8 (show(i:Int)<o9 l by simp[o9];omega),o7,F7,e,o8,hv];cases hc:BC l[i] r with
   |true=>exact .inr (.inr ⟨_,rfl,rfl,Y6.2 ⟨l[i],G8 hl,hc⟩⟩)|false=>exact .inl ⟨((i+1:Nat):Int),by rw[Y4 l7];rfl,⟨i+1,rfl,hl,by rw[hst,hall,hc];rfl⟩,by simp;omega⟩
  .have:i=l.length:=l7;subst this;rw[aQ]at hall;exact .inr (.inl ⟨_,by rw[N7 (by simp[o9])];rfl,hall⟩)
def XF(x:FB)(bl br:Int×Int):Bool:=
 l9 (Jn x.1) (l9 (x8 x.1.1 x.1.2) true (l9 (L8 x.2.2.1 x.2.1) true (l9 (inB x.2.1 bl) (l9 (inB (L6 .i64 x.2.2.1 1) bl) (F8 (inB x.2.2.2 br)) true) true))) true
theorem b2u(x:FB)(t:gz)(en:List jA):Le x t en=some (XF x (bnd t.2.1 en) (bnd t.2.2.1 en)):=by
 unfold Le XF;rw[Oq,o8,a3Q,a3Q,a3Q];cases Jn x.1
 .rfl
 cases x8 x.1.1 x.1.2
 case true=>rfl
 cases L8 x.2.2.1 x.2.1
 case true=>rfl
 simp only[E5,o6,o8,U1,o7];cases inB x.2.1 (bnd t.2.1 en)
 .rfl
 cases inB (L6 .i64 x.2.2.1 1) (bnd t.2.1 en)
 .rfl
 rfl
def a1y(t:gz)(en:List jA)(i:Nat):Option (Int×Int):=match t.2.2.2[i]? with
 |some x=>l9 (XF x (bnd t.2.1 en) (bnd t.2.2.1 en)) (some ((i:Int),3)) (l9 ((t.2.2.2.take i).any λy=>BC y x) (some ((i:Int),11)) none)|none=>none
def SA(t:gz)(en:List jA):Int×Int:=
 l9 (E8 64 (o9 t.2.2.2)) (64,4) (l9 (vty t.2.1 en) (l9 (vty t.2.2.1 en) (match(List.range t.2.2.2.length).findSome? (a1y t en)with|some r=>r|none=>(0,0)) (-1,8)) (-1,8))
theorem rX(a b:Int):E8 a b= !L8 b a:=by simp only[E8,L8];rw[←decide_not];congr 1;simp
theorem b2t(t:gz)(en:List jA):EK t en=some (SA t en):=by
 unfold EK SA;rw[jJ,o8,jJ,o8];cases h64:E8 64 (o9 t.2.2.2)
 case true=>rfl
 simp only[o6];cases vty t.2.1 en
 .rfl
 cases vty t.2.2.1 en
 .rfl
 simp only[E5,o6,o8,U1,o7];have hlen:t.2.2.2.length<=64:=by rw[iE]at h64;simp only[o9]at h64;omega
 refine X9 (KW (p:=a1y t en) t.2.2.2.length l7 PUnit.unit (λi hi=>?_) ?_) ?_
 rotate_left 2
 .cases (List.range t.2.2.2.length).findSome? (a1y t en)<;>rfl
 .have e:=bn hi;simp only[U8 (show(i:Int)<o9 t.2.2.2 by simp only[o9];omega),o7,F7,e,o8,b2u,a1y];cases XF t.2.2.2[i] (bnd t.2.1 en) (bnd t.2.2.1 en)
  case true=>rfl
  simp only[o6];refine X9 (Gf (t.2.2.2.take i) (λj a=> !BC a t.2.2.2[i]) ((i:Int),(11:Int)) PUnit.unit _ Z5 (λj x hx=>?_) ?_) ?_
  rotate_left 2
  .have hb:(∀(j:Nat) (a:FB),(t.2.2.2.take i)[j]? =some a->(!BC a t.2.2.2[i])=true)↔((t.2.2.2.take i).any λy=>BC y t.2.2.2[i])=false:=by
    rw[eP];constructor
    .intro h x hx;obtain⟨j,hj,rfl⟩:=X7 hx;have:=h j _ (bn hj);simpa using this
    .intro h j a hj;have:=h a (kw hj);simpa using this
   by_cases hv:((t.2.2.2.take i).any λy=>BC y t.2.2.2[i])=false
   .rw[if_pos (hb.2 hv),hv,Y4 l7];rfl
   .rw[if_neg (λh=>hv (hb.1 h))];simp only[rY]at hv;rw[hv];rfl
  .have hj:=(X6.1 hx).1;simp only[bM]at hj;have hx' :t.2.2.2[j]? =some x:=by rw[ae]at hx;split at hx<;>first|exact hx|cases hx
   simp only[U8 (show(j:Int)<(i:Int) by omega),o7,F7,hx',o8,e,a3W];rw[Y4 l7];cases BC x t.2.2.2[i]<;>rfl
  .have hl:(t.2.2.2.take i).length=i:=by simp;omega
   rw[hl,N7 l7];rfl
 .rw[N7 (by simp[o9])];rfl
variable {α:Type}
theorem DF{l:List α}(h:i<=l.length):Qc l 0 (i:Int)=some (l.take i):=by rw[b8o l7 l7];simp
theorem b7C(t:gz)(en:List jA):Fg t en=some (SA t en):=by
 unfold Fg SA;rw[AZ,o8,AZ,o8];cases h64:E8 64 (o9 t.2.2.2)
 case true=>rfl
 simp only[o6];cases vty t.2.1 en
 .rfl
 cases vty t.2.2.1 en
 .rfl
 simp only[E5,o6,o8,U1,o7,Wq];have hlen:t.2.2.2.length<=64:=by rw[iE]at h64;simp only[o9]at h64;omega
 refine X9 (KW (p:=a1y t en) t.2.2.2.length l7 PUnit.unit (λi hi=>?_) ?_) ?_
 rotate_left 2
 .cases (List.range t.2.2.2.length).findSome? (a1y t en)<;>rfl
 .have e:=bn hi;simp only[U8 (show(i:Int)<o9 t.2.2.2 by simp only[o9];omega),o7,F7,e,o8,a1y,MK,DF (show i<=t.2.2.2.length by omega)];obtain⟨k,hk⟩:=b3J (l:=t.2.2.2.take i) t.2.2.2[i] Z5;rw[hk,Y4 l7];unfold XF inB;simp only[rX];generalize bnd t.2.1 en=bl;generalize bnd t.2.2.1 en=br;cases Jn t.2.2.2[i].1
  .rfl
  cases x8 t.2.2.2[i].1.1 t.2.2.2[i].1.2
  case true=>rfl
  cases L8 t.2.2.2[i].2.2.1 t.2.2.2[i].2.1
  case true=>rfl
  cases L8 bl.1 t.2.2.2[i].2.1
  .rfl
  cases L8 t.2.2.2[i].2.1 bl.2
  .rfl
  cases L8 bl.1 (L6 IntKind.i64 t.2.2.2[i].2.2.1 1)
  .rfl
  cases L8 (L6 IntKind.i64 t.2.2.2[i].2.2.1 1) bl.2
  .rfl
  cases L8 br.1 t.2.2.2[i].2.2.2
  .rfl
  cases L8 t.2.2.2[i].2.2.2 br.2
  .rfl
  cases (t.2.2.2.take i).any λy=>BC y t.2.2.2[i]<;>rfl
 .rw[N7 (by simp[o9])];rfl
section
variable {α ε ρ:Type}
theorem xH(l:List α)(p:α->Bool)(r:ρ)(e:ε){f:Int->Option (Out Int ε ρ)}(hl:l.length<=1000000)
  (hin:∀(i:Nat) (a:α),l[i]? =some a->f (i:Int)=some (bif p a then .rt r else .nx (D5 .i64 (i:Int) 1))) (hend:f (l.length:Int)=some (.ex e)):
  ah f 0=some (bif l.any p then .inr r else .inl e):=by
 rw[Gf l (λi a=> !p a) r e f l7 (λi a ha=>?_) hend]
 .have hb:(∀(j:Nat) (a:α),l[j]? =some a->(!p a)=true)↔l.any p=false:=by
   rw[eP];constructor
   .intro h x hx;obtain⟨j,hj,rfl⟩:=X7 hx;have:=h j _ (bn hj);simpa using this
   .intro h j a hj;have:=h a (kw hj);simpa using this
  by_cases hv:l.any p=false
  .rw[if_pos (hb.2 hv),hv];rfl
  .rw[if_neg (λh=>hv (hb.1 h))];simp only[rY]at hv;rw[hv];rfl
 .have hi:=(X6.1 ha).1;rw[hin i a ha,Y4 l7];cases p a<;>rfl
theorem Am(l:List α)(p:α->Bool){f:Int->Option (Out Int PUnit Int)}(hl:l.length<=1000000)
  (hin:∀(i:Nat) (a:α),l[i]? =some a->f (i:Int)=some (bif p a then .rt (i:Int)else .nx (D5 .i64 (i:Int) 1))) (hend:f (l.length:Int)=some (.ex PUnit.unit)):
  o5 (o5 (ah f 0) λo=>aj o (λ_=>some (-1)) λr=>some r) (λx=>some (L8 0 x))=some (l.any p):=by
 have key:=xP (f:=f) (s:=0) (λx=>∃i:Nat,x=i/\i<=l.length/\(l.take i).any p=false) (λ_=>l.any p=false) (λk=>0<=k/\l.any p=true) (λx=>l.length -x.toNat) ⟨0,rfl,l7,rfl⟩ Z5 ?_
 .rcases key with⟨e,h1,h2⟩|⟨k,h1,h2,h3⟩
  .rw[h1,h2];rfl
  .rw[h1,h3,o8,uo,o8,Y3 h2]
 .rintro x ⟨i,rfl,hi,hall⟩;by_cases h:i<l.length
  .have e:=bn h;have hst:(l.take (i+1)).any p=((l.take i).any p || p l[i]):=by rw[U3 h,vI];simp
   rw[hin i _ e];cases hc:p l[i]with
   |true=>exact .inr (.inr ⟨_,rfl,l7,Y6.2 ⟨l[i],G8 h,hc⟩⟩)|false=>exact .inl ⟨((i+1:Nat):Int),by rw[Y4 l7];rfl,⟨i+1,rfl,h,by rw[hst,hall,hc];rfl⟩,by simp;omega⟩
  .have:i=l.length:=l7;subst this;rw[aQ]at hall;exact .inr (.inl ⟨_,hend,hall⟩)
theorem J7{l:List α}{a:α}(h:l[i]? =some a):E8 (i:Int) (o9 l)=true:=U8 (by have:=(X6.1 h).1;simp only[o9];omega)
theorem J6(l:List α):E8 (l.length:Int) (o9 l)=false:=N7 (by simp[o9])
end
theorem TJ{l:List jA}(n:d1C)(h:l.length<=1000000):Dz l n=some (l.any λx=>seq x.1 n):=by unfold Dz kW mQ;rw[ig];refine Am l (λx=>seq x.1 n) h (λi a ha=>?_) (by rw[J6];rfl);rw[J7 ha,o7,F7,ha,o8];unfold LU;rw[o8];cases seq a.1 n<;>rfl
theorem XO{l:List gz}(n:d1C)(h:l.length<=1000000):Et l n=some (l.any λx=>seq x.1 n):=by unfold Et jP lu;rw[ig];refine Am l (λx=>seq x.1 n) h (λi a ha=>?_) (by rw[J6];rfl);rw[J7 ha,o7,F7,ha,o8];unfold Jv;rw[o8];cases seq a.1 n<;>rfl
theorem a5l{l:List A7}(s:A7)(h:l.length<=1000000):ik l s=some (l.any λx=>seq x.1 s.1):=by unfold ik lq;refine Am l (λx=>seq x.1 s.1) h (λi a ha=>?_) (by rw[J6];rfl);rw[J7 ha,o7,F7,ha,o8];unfold FX;rw[o8];cases seq a.1 s.1<;>rfl
theorem a7H{l:List Z7}(s:Z7)(h:l.length<=1000000):iM l s=some (l.any λx=>seq x.1 s.1):=by unfold iM mV;refine Am l (λx=>seq x.1 s.1) h (λi a ha=>?_) (by rw[J6];rfl);rw[J7 ha,o7,F7,ha,o8];unfold Hr;rw[o8];cases seq a.1 s.1<;>rfl
theorem XN{l:List jB}(s:jB)(h:l.length<=1000000):ed l s=some (l.any λx=>seq x.1 s.1):=by unfold ed lh;refine Am l (λx=>seq x.1 s.1) h (λi a ha=>?_) (by rw[J6];rfl);rw[J7 ha,o7,F7,ha,o8];unfold FW;rw[o8];cases seq a.1 s.1<;>rfl
theorem b1o{l:List d1C}(s:d1C)(h:l.length<=1000000):lG l s=some (l.any λx=>seq s x):=by unfold lG um;refine Am l (λx=>seq s x) h (λi a ha=>?_) (by rw[J6];rfl);rw[J7 ha,o7,F7,ha,o8];cases seq s a<;>rfl
variable {l:d1A}
theorem b1n(s:Int)(h:l.length<=1000000):qM l s=some (l.any λx=>x8 s x):=by unfold qM zY;refine Am l (λx=>x8 s x) h (λi a ha=>?_) (by rw[J6];rfl);rw[J7 ha,o7,F7,ha,o8];cases x8 s a<;>rfl
section
variable {α ε ρ:Type}
theorem Me(l:List α)(k:Nat)(p:α->Bool)(r:ρ)(e:ε){f:Int->Option (Out Int ε ρ)}(hl:l.length<=1000000)
  (hin:∀(i:Nat) (a:α),l[i]? =some a->f (i:Int)=some (bif (decide (i<k)&&p a)then .rt r else .nx (D5 .i64 (i:Int) 1))) (hend:f (l.length:Int)=some (.ex e)):
  ah f 0=some (bif (l.take k).any p then .inr r else .inl e):=by
 rw[Gf l (λi a=> !(decide (i<k)&&p a)) r e f l7 (λi a ha=>?_) hend]
 .have hb:(∀(j:Nat) (a:α),l[j]? =some a->(!(decide (j<k)&&p a))=true)↔(l.take k).any p=false:=by
   rw[eP];constructor
   .intro h x hx;obtain⟨j,hj,rfl⟩:=X7 hx;simp only[bM]at hj;have:=h j _ (bn l7);rw[rZ];simp only[show j<k by omega,decide_true,fK]at this;simpa using this
   .intro h j a hj;by_cases hk:j<k
    .have hm:a∈l.take k:=kw (i:=j) (by rw[jh hk];exact hj);have:=h a hm;simpa[hk]using this
    .simp[hk]
  by_cases hv:(l.take k).any p=false
  .rw[if_pos (hb.2 hv),hv];rfl
  .rw[if_neg (λh=>hv (hb.1 h))];simp only[rY]at hv;rw[hv];rfl
 .have hi:=(X6.1 ha).1;rw[hin i a ha,Y4 l7];cases decide (i<k)&&p a<;>rfl
end
theorem UN(i k:Nat):E8 (i:Int) (k:Int)=decide (i<k):=by unfold E8;by_cases h:i<k<;>simp[h]<;>omega
def Bh(l:U6)(kind:Nat)(k:Nat)(n:d1C):Bool:=
 match kind with
 |1=>(l.1.take k).any λx=>seq x.1 n|2=>(l.1.any λx=>seq x.1 n) || ((l.2.1.take k).any λx=>seq x.1 n)|_=>(l.1.any λx=>seq x.1 n) || (l.2.1.any λx=>seq x.1 n) || ((l.2.2.take k).any λx=>seq x.1 n)
def Few(l:U6):Prop:=l.1.length<=1000/\l.2.1.length<=1000/\l.2.2.length<=1000
theorem b2B{l:U6}(h:Few l)(k:Nat)(n:d1C):kQ l 1 (k:Int) n=some (Bh l 1 k n):=by
 unfold kQ Bh;refine X9 (Me l.1 k (λx=>seq x.1 n) true PUnit.unit (by have:=h.1;omega) (λi a ha=>?_) ?_) ?_
 rotate_left 2
 .cases (l.1.take k).any λx=>seq x.1 n
  case true=>rfl
  simp only[cond_false,U1];refine X9 (Me l.2.1 0 (λx=>seq x.1 n) true PUnit.unit (by have:=h.2.1;omega) (λi a ha=>?_) ?_) ?_
  rotate_left 2
  .simp only[List.take_zero,List.any_nil,cond_false,U1];refine X9 (Me l.2.2 0 (λx=>seq x.1 n) true PUnit.unit (by have:=h.2.2;omega) (λi a ha=>?_) ?_) ?_
   rotate_left 2
   .rfl
   .rw[J7 ha];simp;rfl
   .rw[J6];rfl
  .rw[J7 ha];simp;rfl
  .rw[J6];rfl
 .rw[J7 ha,F7,ha,o8,UN,o7];cases decide (i<k)<;>cases seq a.1 n<;>rfl
 .rw[J6];rfl
theorem b2C{l:U6}(h:Few l)(k:Nat)(n:d1C):kQ l 2 (k:Int) n=some (Bh l 2 k n):=by
 unfold kQ Bh;refine X9 (xH l.1 (λx=>seq x.1 n) true PUnit.unit (by have:=h.1;omega) (λi a ha=>?_) ?_) ?_
 rotate_left 2
 .cases l.1.any λx=>seq x.1 n
  case true=>rfl
  simp only[cond_false,U1,kz];refine X9 (Me l.2.1 k (λx=>seq x.1 n) true PUnit.unit (by have:=h.2.1;omega) (λi a ha=>?_) ?_) ?_
  rotate_left 2
  .cases (l.2.1.take k).any λx=>seq x.1 n
   case true=>rfl
   simp only[cond_false,U1];refine X9 (Me l.2.2 0 (λx=>seq x.1 n) true PUnit.unit (by have:=h.2.2;omega) (λi a ha=>?_) ?_) ?_
   rotate_left 2
   .rfl
   .rw[J7 ha];simp;rfl
   .rw[J6];rfl
  .rw[J7 ha,F7,ha,o8,UN,o7];cases decide (i<k)<;>cases seq a.1 n<;>rfl
  .rw[J6];rfl
 .rw[J7 ha,F7,ha,o8,o7];cases seq a.1 n<;>rfl
 .rw[J6];rfl
theorem b2D{l:U6}(h:Few l)(k:Nat)(n:d1C):kQ l 3 (k:Int) n=some (Bh l 3 k n):=by
 unfold kQ Bh;refine X9 (xH l.1 (λx=>seq x.1 n) true PUnit.unit (by have:=h.1;omega) (λi a ha=>?_) ?_) ?_
 rotate_left 2
 .cases l.1.any λx=>seq x.1 n
  case true=>rfl
  simp only[cond_false,U1,kz];refine X9 (xH l.2.1 (λx=>seq x.1 n) true PUnit.unit (by have:=h.2.1;omega) (λi a ha=>?_) ?_) ?_
  rotate_left 2
  .cases l.2.1.any λx=>seq x.1 n
   case true=>rfl
   simp only[cond_false,U1,kz];refine X9 (Me l.2.2 k (λx=>seq x.1 n) true PUnit.unit (by have:=h.2.2;omega) (λi a ha=>?_) ?_) ?_
   rotate_left 2
   .cases (l.2.2.take k).any λx=>seq x.1 n<;>rfl
   .rw[J7 ha,F7,ha,o8,UN,o7];cases decide (i<k)<;>cases seq a.1 n<;>rfl
   .rw[J6];rfl
  .rw[J7 ha,F7,ha,o8,o7];cases seq a.1 n<;>rfl
  .rw[J6];rfl
 .rw[J7 ha,F7,ha,o8,o7];cases seq a.1 n<;>rfl
 .rw[J6];rfl
def a1k(ms:List d1C)(i:Nat):Option (Int×Int):=match ms[i]? with
 |some m=>l9 (DY m) (l9 ((ms.take i).any λx=>seq m x) (some (7,((100+i:Nat):Int))) none) (some (2,((100+i:Nat):Int)))|none=>none
def SN(l:U6)(i:Nat)(e:jA):Int×Int:=
 l9 (DY e.1) (l9 (Bh l 1 i e.1) (7,0) (l9 (x8 (o9 e.2) 0) (5,0) (l9 (E8 16 (o9 e.2)) (4,116) (match(List.range e.2.length).findSome? (a1k e.2)with|some r=>r|none=>(0,0))))) (2,0)
theorem a9P(h:i<=1000000):D5 .i64 100 (i:Int)=((100+i:Nat):Int):=by rw[ai U7];omega
theorem a3a{l:U6}(h:Few l)(hi:i<=l.1.length)(e:jA)(h1:e.1.length<=1000000)(h2:∀m∈e.2,m.length<=1000000):
  Gw l (i:Int) e=some (SN l i e):=by
 unfold Gw SN Bh;rw[uH h1,o8,DF hi,o8,TJ _ (by have:=h.1;simp;omega),o8];cases DY e.1
 .rfl
 simp only[E5,o6,o7];cases (l.1.take i).any λx=>seq x.1 e.1
 case true=>rfl
 cases x8 (o9 e.2) 0
 case true=>rfl
 cases h16:E8 16 (o9 e.2)
 case true=>rfl
 simp only[o6];have hlen:e.2.length<=16:=by rw[iE]at h16;simp only[o9]at h16;omega
 refine X9 (KW (p:=a1k e.2) e.2.length l7 PUnit.unit (λj hj=>?_) ?_) ?_
 rotate_left 2
 .cases (List.range e.2.length).findSome? (a1k e.2)<;>rfl
 .have e' :=bn hj;rw[J7 e',o7,F7,e',o8,uH (h2 _ (G8 hj)),o8,DF l7,o8,b1o _ Z5,o8,a9P l7,Y4 l7];simp only[a1k,e'];cases DY e.2[j]
  .rfl
  cases (e.2.take j).any λx=>seq e.2[j] x<;>rfl
 .rw[J6];rfl
theorem b6C(a b:d1C):seq a b=seq b a:=by unfold seq;by_cases h:a=b<;>simp[h,eq_comm]
variable {ρ:Type}{ε:Type}{σ:Type}
theorem b0P(l:List α)(p:α->Bool)(n:Nat)(hn:n<=l.length)(hl:l.length<=1000000)(a b:σ)(r:ρ)(e:ε){f:σ×σ×Int->Option (Out (σ×σ×Int) ε ρ)}
  (hin:∀(i:Nat) (x:α),i<n->l[i]? =some x->f (a,b,(i:Int))=some (bif p x then .rt r else .nx (a,b,D5 .i64 (i:Int) 1))) (hend:f (a,b,(n:Int))=some (.ex e)):
  ah f (a,b,0)=some (bif (l.take n).any p then .inr r else .inl e):=by
 have key:=xP (f:=f) (s:=(a,b,0)) (λx=>∃i:Nat,x=(a,b,(i:Int))/\i<=n/\(l.take i).any p=false) (λx=>x=e/\(l.take n).any p=false) (λk=>k=r/\(l.take n).any p=true) (λx=>n -x.2.2.toNat) ⟨0,rfl,l7,rfl⟩ Z5 ?_
 .rcases key with⟨x,h1,rfl,h2⟩|⟨k,h1,rfl,h2⟩
  .rw[h1,h2];rfl
  .rw[h1,h2];rfl
 .rintro x ⟨i,rfl,hi,hall⟩;by_cases h:i<n
  .have e' :=bn (show i<l.length by omega);have hst:(l.take (i+1)).any p=((l.take i).any p || p l[i]):=by rw[U3 l7,vI];simp
   rw[hin i _ h e'];cases hc:p l[i]with
   |true=>refine .inr (.inr ⟨_,rfl,rfl,Y6.2 ⟨l[i],?_,hc⟩⟩);exact kw (i:=i) (by rw[jh h];exact e')|false=>exact .inl ⟨(a,b,((i+1:Nat):Int)),by rw[Y4 l7];rfl,⟨i+1,rfl,h,by rw[hst,hall,hc];rfl⟩,by simp;omega⟩
  .have:i=n:=l7;subst this;exact .inr (.inl ⟨_,hend,rfl,hall⟩)
variable {n:Nat}{j:Nat}{β:Type}
theorem UJ{p:Nat->Option β}{c:β}(h0:(List.range j).findSome? p=none)(h1:p j=some c)(hj:j<n):(List.range n).findSome? p=some c:=by
 induction n with
 |zero=>omega|succ n ih=>
  rw[X3,oq];by_cases h:j<n
  .rw[ih h];rfl
  .have:j=n:=l7;subst this;rw[h0];simp[h1]
theorem a9O{p:Nat->Option β}(h0:(List.range j).findSome? p=none)(h1:p j=none):(List.range (j+1)).findSome? p=none:=by rw[X3,oq,h0];simp[h1]
def Sl(kind i:Int)(r:Int×Int):Int×Int×Int×Int:=l9 (x8 r.1 0) (0,0,0,0) (r.1,kind,i,r.2)
theorem a1s{l:U6}(h:Few l){e:jA}(he:l.1[i]? =some e)(h1:e.1.length<=1000000)(h2:∀m∈e.2,m.length<=1000000):
  CQ l (i:Int)=some (Sl 1 i (SN l i e)):=by
 unfold CQ SN;rw[F7,he,o8,pM h1,o8,b2B h,o8];cases DY e.1
 .rfl
 simp only[E5,o6,o7];cases Bh l 1 i e.1
 case true=>rfl
 cases x8 (o9 e.2) 0
 case true=>rfl
 cases h16:E8 16 (o9 e.2)
 case true=>rfl
 simp only[o6];have hlen:e.2.length<=16:=by rw[iE]at h16;simp only[o9]at h16;omega
 have key:=xP (f:=λ(x_3:I4×I4×Int)=>
   l9 (E8 x_3.2.2 (o9 e.2)) (o5 (F9 e.2 x_3.2.2) λ(x_4:d1C)=>o5 (gJ x_4) λ(x_5:Bool)=>
    l9 (F8 x_5) (some (Out.rt (2,x_3.2.1.2.1,x_3.2.1.2.2.1,D5 IntKind.i64 100 x_3.2.2)))
     (o5 (ah (λ(x_6:I4×I4×Int)=>l9 (E8 x_6.2.2 x_3.2.2) (o5 (F9 e.2 x_6.2.2) λ(x_7:d1C)=>o5 (F9 e.2 x_3.2.2) λ(x:d1C)=>
       l9 (seq x_7 x) (some (Out.rt (7,x_6.2.1.2))) (some (Out.nx (x_6.1,x_6.2.1,D5 IntKind.i64 x_6.2.2 1)))) (some (Out.ex (x_6.1,x_6.2.1))))
      (x_3.1,(x_3.2.1.1,x_3.2.1.2.1,x_3.2.1.2.2.1,D5 IntKind.i64 100 x_3.2.2),0)) λ(o:I4×I4⊕I4)=>
       aj o (λ(y:I4×I4)=>some (Out.nx (y.1,y.2,D5 IntKind.i64 x_3.2.2 1))) λ(r:I4)=>some (Out.rt r))) (some (Out.ex x_3.1)))
  (s:=((0,0,0,0),(0,1,(i:Int),0),0))
  (λx=>∃(B:Int×Int×Int×Int) (j:Nat),x=((0,0,0,0),B,(j:Int))/\B.2.1=1/\B.2.2.1=i/\j<=e.2.length/\(List.range j).findSome? (a1k e.2)=none)
  (λ_=>(List.range e.2.length).findSome? (a1k e.2)=none) (λr=>∃c,(List.range e.2.length).findSome? (a1k e.2)=some c/\r=(c.1,1,(i:Int),c.2)/\c.1≠0)
  (λx=>e.2.length -x.2.2.toNat) ⟨_,0,rfl,rfl,rfl,l7,rfl⟩ Z5 ?_
 .rcases key with⟨x,k1,k2⟩|⟨r,k1,c,k2,k3,k4⟩
  .refine(lV k1 _).trans ?_;rw[k2];rfl
  .refine(lV k1 _).trans ?_;rw[k2,k3];simp only[uo,Sl];rw[O9 k4];rfl
 .rintro x ⟨B,j,rfl,b1,b2,hj,hn⟩;by_cases hl:j<e.2.length
  .have e' :=bn hl;simp only[J7 e',o7,F7,e',o8,pM (h2 _ (G8 hl)),a9P (show j<=1000000 by omega)];cases hid:DY e.2[j]
   .refine .inr (.inr ⟨_,rfl,(2,((100+j:Nat):Int)),UJ hn (by simp only[a1k,e',hid];rfl) hl,?_,(by show(2:Int)≠0;decide)⟩);rw[b1,b2]
   .simp only[E5,o6];rw[b0P e.2 (λx=>seq e.2[j] x) j l7 l7 (0,0,0,0) (B.1,B.2.1,B.2.2.1,((100+j:Nat):Int)) (7,B.2.1,B.2.2.1,((100+j:Nat):Int)) ((0,0,0,0),(B.1,B.2.1,B.2.2.1,((100+j:Nat):Int)))
     (λk x hk hx=>by simp only[U8 (show(k:Int)<(j:Int) by omega),o7,F7,hx,o8,e'];rw[b6C];cases seq e.2[j] x<;>rfl)
     (by simp only[N7 (show(j:Int)<=(j:Int) by omega)];rfl)]
    cases hd:(e.2.take j).any λx=>seq e.2[j] x
    .refine .inl ⟨((0,0,0,0),(B.1,B.2.1,B.2.2.1,((100+j:Nat):Int)),((j+1:Nat):Int)),by rw[Y4 l7];rfl,⟨_,j+1,rfl,b1,b2,hl,a9O hn (by simp only[a1k,e',hid,hd];rfl)⟩,by simp;omega⟩
    .refine .inr (.inr ⟨_,rfl,(7,((100+j:Nat):Int)),UJ hn (by simp only[a1k,e',hid,hd];rfl) hl,?_,(by show(7:Int)≠0;decide)⟩);rw[b1,b2]
  .have:j=e.2.length:=l7;subst this;exact .inr (.inl ⟨_,by simp only[J6];rfl,hn⟩)
def ay(n:Nat)(p:Nat->Option ρ):Option ρ:=(List.range n).findSome? p
theorem sO{p:Nat->Option ρ}(n:Nat)(hn:n<=1000000)(a:σ)(e:ε){f:σ×Int->Option (Out (σ×Int) ε ρ)}
  (h1:∀i,i<n->f (a,(i:Int))=some (match p i with|some r=> .rt r|none=> .nx (a,D5 .i64 (i:Int) 1))) (h2:f (a,(n:Int))=some (.ex e)):
  ah f (a,0)=some (match ay n p with|some r=> .inr r|none=> .inl e):=by
 have key:=xP (f:=f) (s:=(a,0)) (λx=>∃i:Nat,x=(a,(i:Int))/\i<=n/\ay i p=none) (λx=>x=e/\ay n p=none) (λr=>ay n p=some r) (λx=>n -x.2.toNat) ⟨0,rfl,l7,rfl⟩ Z5 ?_
 .rcases key with⟨x,k1,rfl,k2⟩|⟨r,k1,k2⟩
  .rw[k1,k2]
  .rw[k1,k2]
 .rintro x ⟨i,rfl,hi,hnone⟩;by_cases h:i<n
  .rw[h1 i h];cases hp:p i with
   |some r=>exact .inr (.inr ⟨_,rfl,UJ hnone hp h⟩)|none=>exact .inl ⟨(a,((i+1:Nat):Int)),by rw[Y4 l7],⟨i+1,rfl,h,a9O hnone hp⟩,by simp;omega⟩
  .have:i=n:=l7;subst this;exact .inr (.inl ⟨_,h2,rfl,hnone⟩)
def Su(kind i:Int)(r:Int×Int):Option (Int×Int×Int×Int):=l9 (x8 r.1 0) none (some (r.1,kind,i,r.2))
def GU(l:U6)(i:Nat):Option (Int×Int×Int×Int):=match l.1[i]? with|some e=>Su 1 i (SN l i e)|none=>none
def zy(l:U6):Int×Int×Int×Int:=l9 (E8 8 (o9 l.1)) (4,1,8,0) (match ay l.1.length (GU l)with|some r=>r|none=>(0,0,0,0))
def a2R(l:U6):Prop:=∀e∈l.1,e.1.length<=1000000/\∀m∈e.2,m.length<=1000000
theorem a1b{l:U6}(h:Few l)(hE:a2R l):Eo l=some (zy l):=by
 unfold Eo zy;cases E8 8 (o9 l.1)
 case true=>rfl
 simp only[o6];refine X9 (sO (p:=GU l) l.1.length (by have:=h.1;omega) _ (0,0,0,0) (λi hi=>?_) ?_) ?_
 rotate_left 2
 .cases ay l.1.length (GU l)<;>rfl
 .have e:=bn hi;have hm:=hE _ (G8 hi);simp only[J7 e,o7,F7,e,o8,a3a h (show i<=l.1.length by omega) _ hm.1 hm.2,GU,Su];cases x8 (SN l i l.1[i]).1 0<;>rfl
 .rw[J6];rfl
theorem iP{p:Nat->Option ρ}{r:ρ}(h:ay n p=some r):∃i,i<n/\p i=some r:=by unfold ay at h;obtain⟨i,hi,hp⟩:=List.exists_of_findSome?_eq_some h;exact⟨i,P8.1 hi,hp⟩
theorem b7B(t:gz)(en:List jA):(SA t en).1=-1\/0<=(SA t en).1:=by
 unfold SA;cases E8 64 (o9 t.2.2.2)
 case true=>right;simp only[o7];decide
 cases vty t.2.1 en
 .left;rfl
 cases vty t.2.2.1 en
 .left;rfl
 right;simp only[o7,o6];cases hf:(List.range t.2.2.2.length).findSome? (a1y t en)with
 |none=>exact aX _|some r=>
  obtain⟨i,hi,hp⟩:=iP (p:=a1y t en) hf;unfold a1y at hp;split at hp
  .rename_i x hx;cases hw:XF x (bnd t.2.1 en) (bnd t.2.2.1 en)<;>rw[hw]at hp
   .cases ha:(t.2.2.2.take i).any λy=>BC y x<;>rw[ha]at hp
    .cases hp
    .cases hp;show(0:Int)<=(i:Int);omega
   .cases hp;show(0:Int)<=(i:Int);omega
  .cases hp
def Xy(l:U6)(i:Nat)(t:gz):Int×Int:=
 l9 (DY t.1) (l9 (Bh l 2 i t.1) (7,0) (l9 (x8 (SA t l.1).2 0) (0,0) ((SA t l.1).2,l9 (L8 0 (SA t l.1).1) (D5 .i64 100 (SA t l.1).1) 0))) (2,0)
def JZ(l:U6)(i:Nat):Option (Int×Int×Int×Int):=match l.2.1[i]? with|some t=>Su 2 i (Xy l i t)|none=>none
def Fp(l:U6):Int×Int×Int×Int:=l9 (E8 8 (o9 l.2.1)) (4,2,8,0) (match ay l.2.1.length (JZ l)with|some r=>r|none=>(0,0,0,0))
def Zk(l:U6):Prop:=∀t∈l.2.1,t.1.length<=1000000
theorem a0i{l:U6}(h:Few l){t:gz}(he:l.2.1[i]? =some t)(h1:t.1.length<=1000000):AP l (i:Int)=some (Sl 2 i (Xy l i t)):=by
 unfold AP Xy;rw[F7,he,o8,pM h1,o8,b2C h,o8,b2t,o8];cases DY t.1
 .rfl
 cases Bh l 2 i t.1
 case true=>rfl
 simp only[E5,o6,o7];cases hz:x8 (SA t l.1).2 0
 case true=>rfl
 simp only[o6,Sl,hz];cases L8 0 (SA t l.1).1<;>rfl
theorem ZI{l:U6}(h:Few l)(hT:Zk l):Cf l=some (Fp l):=by
 unfold Cf Fp;cases E8 8 (o9 l.2.1)
 case true=>rfl
 simp only[o6];refine X9 (sO (p:=JZ l) l.2.1.length (by have:=h.2.1;omega) _ (0,0,0,0) (λi hi=>?_) ?_) ?_
 rotate_left 2
 .cases ay l.2.1.length (JZ l)<;>rfl
 .have e:=bn hi;have hm:=hT _ (G8 hi);simp only[J7 e,o7,F7,e,o8,b7C,uH hm,TJ _ (show l.1.length<=1000000 by have:=h.1;omega),DF (show i<=l.2.1.length by omega),
   XO _ (show(l.2.1.take i).length<=1000000 by have:=h.2.1;simp;omega),JZ,Xy,Bh]
  cases DY l.2.1[i].1
  .rfl
  cases l.1.any λx=>seq x.1 l.2.1[i].1
  case true=>rfl
  cases (l.2.1.take i).any λx=>seq x.1 l.2.1[i].1
  case true=>rfl
  simp only[E5,o6,o7,o8,tH];cases hz:x8 (SA l.2.1[i] l.1).2 0
  case true=>rfl
  simp only[aW,o7,o6,Su,hz];rcases b7B l.2.1[i] l.1 with hr|hr
  .rw[N9 hr,Y9 (show(SA l.2.1[i] l.1).1<0 by omega)];simp only[E5,o6,o8,hz,aW,o7]
  .rw[O9 (show(SA l.2.1[i] l.1).1≠-1 by omega),Y3 hr];simp only[aW,o7,o8,hz]
 .rw[J6];rfl
theorem b3K(l:List α)(g:α->β)(hl:l.length<=1000000){f:List β×Int->Option ((List β×Int)⊕ε)}{F:List β->ε}
  (hin:∀(i:Nat) (a:α) (acc:List β),l[i]? =some a->acc.length=i->f (acc,(i:Int))=some (.inl (acc++[g a],D5 .i64 (i:Int) 1))) (hend:∀acc,f (acc,(l.length:Int))=some (.inr (F acc))):
  aB f ([],0)=some (F (l.map g)):=by
 obtain⟨e,h1,h2⟩:=iJ (f:=f) (s:=([],0)) (λx=>∃i:Nat,x=((l.take i).map g,(i:Int))/\i<=l.length) (λe=>e=F (l.map g)) (λx=>l.length -x.2.toNat) ⟨0,rfl,l7⟩ Z5 (by
  rintro x ⟨i,rfl,hi⟩;by_cases h:i<l.length
  .have e:=bn h;refine .inl ⟨((l.take (i+1)).map g,((i+1:Nat):Int)),?_,⟨i+1,rfl,h⟩,by simp;omega⟩;rw[hin i _ _ e Z5,Y4 l7,U3 h,bY];rfl
  .have:i=l.length:=l7;subst this;refine .inr ⟨_,hend _,?_⟩;rw[aQ])
 rw[h1,h2]
theorem LK{l:List jB}(h:l.length<=1000000):xn l=some (l.map (·.2)):=by
 unfold xn;rw[ig];refine b3K (F:=id) l (λx=>x.2) h (λi a acc ha hacc=>?_) (λacc=>?_)
 .have hi:=(X6.1 ha).1;simp only[J7 ha,o7,F7,ha,o8];rw[uy (by simp[hacc];omega)];rfl
 .simp only[J6];rfl
def Uo(l:U6):Prop:=∀s∈l.2.2,s.1.length<=1000000/\s.2.2.1.length<=1000/\s.2.2.2.1.length<=1000/\s.2.2.2.2.length<=1000
def BO(l:U6)(s:A7):List jA×List gz×List (Int×Int)×List (Int×Int)×List (Int×Int)×Bool:=
 match(if 0<=s.2.1 then l.2.2[s.2.1.toNat]? else none)with
 |some k=>(l.1,l.2.1,s.2.2.1.map (·.2),s.2.2.2.1.map (·.2),k.2.2.2.1.map (·.2),true)|none=>(l.1,l.2.1,s.2.2.1.map (·.2),s.2.2.2.1.map (·.2),[],false)
theorem JY{l:U6}(h:Uo l){s:A7}(hs:l.2.2[i]? =some s):rF l (i:Int)=some (BO l s):=by
 have hm:=h s (kw hs);unfold rF BO;rw[F7,hs,o8,LK l7,o8,LK l7,o8];by_cases h0:0<=s.2.1
 .rw[Y3 h0,if_pos h0,o7];by_cases h1:s.2.1<o9 l.2.2
  .obtain⟨k,hk,hkm⟩:=mO h0 h1;have hk' :l.2.2[s.2.1.toNat]? =some k:=(bg hk).2.2.2;rw[U8 h1,o7,hk,o8,LK (by have:=h k hkm;omega),o8,hk']
  .have h1' :o9 l.2.2<=s.2.1:=iT.1 h1;rw[N7 h1',o6,bQ (by simp only[o9]at h1';exact Int.le_toNat h0 |>.2 h1')]
 .have h0' :s.2.1<(0:Int):=lY.1 h0;rw[Y9 h0',if_neg h0];rfl
theorem a1x{l:U6}(h:Uo l){s:A7}(hs:l.2.2[i]? =some s):CP l (i:Int)=some (BO l s):=by have hi:=(X6.1 hs).1;rw[←JY h hs];unfold CP rF;rw[N7 l7,Y9 (by simp only[o9];omega)];rfl
abbrev SI(l:d1A):Prop:=l.Pairwise (·< ·)
theorem a8G:∀{a b:d1A},SI a->SI b->(∀x,x∈a↔x∈b)->a=b
 |[],[],_,_,_=>rfl|[],y::b,_,_,h=>absurd ((h y).2 x9) x9|x::a,[],_,_,h=>absurd ((h x).1 x9) x9|x::a,y::b,ha,hb,h=>by
  have ha' :=af.1 ha;have hb' :=af.1 hb;have hxy:x=y:=by
   rcases D6.1 ((h x).1 x9)with h1|h1
   .exact h1
   .rcases D6.1 ((h y).2 x9)with h2|h2
    .exact h2.symm
    .have:=hb'.1 _ h1;have:=ha'.1 _ h2;omega
  subst hxy;congr 1;refine a8G ha'.2 hb'.2 λz=>⟨λhz=>?_,λhz=>?_⟩
  .rcases D6.1 ((h z).1 (by simp[hz]))with h1|h1
   .have:=ha'.1 _ hz;omega
   .exact h1
  .rcases D6.1 ((h z).2 (by simp[hz]))with h1|h1
   .have:=hb'.1 _ hz;omega
   .exact h1
def ins(n:Int):d1A->d1A
 |[]=>[n]|a::l=>if n<=a then(if n<a then n::a::l else a::l)else a::ins n l
theorem Ob(n x:Int):∀l,x∈ins n l↔x=n\/x∈l
 |[]=>by simp[ins]|a::l=>by
  unfold ins;by_cases h:n<=a
  .rw[if_pos h];by_cases h2:n<a
   .rw[if_pos h2];simp
   .rw[if_neg h2];have:n=a:=l7;subst this;simp
  .rw[if_neg h,D6,Ob n x l,D6];constructor
   .rintro(h|h|h)<;>simp[h]
   .rintro(h|h|h)<;>simp[h]
theorem b6F(n:Int):∀{l},SI l->SI (ins n l)
 |[],_=>List.pairwise_singleton _ _|a::l,h=>by
  have h' :=af.1 h;unfold ins;by_cases h1:n<=a
  .rw[if_pos h1];by_cases h2:n<a
   .rw[if_pos h2];refine af.2 ⟨λx hx=>?_,h⟩;rcases D6.1 hx with rfl|hx
    .exact h2
    .have:=h'.1 x hx;omega
   .rw[if_neg h2];exact h
  .rw[if_neg h1];refine af.2 ⟨λx hx=>?_,b6F n h'.2⟩;rcases(Ob n x l).1 hx with rfl|hx
   .omega
   .exact h'.1 x hx
def Em(ns:d1A)(l:d1A):d1A:=ns.foldl (λacc n=>ins n acc) l
theorem Vd(x:Int):∀ns l,x∈Em ns l↔x∈ns\/x∈l
 |[],l=>by simp[Em]|n::ns,l=>by
  show x∈Em ns (ins n l)↔_;rw[Vd x ns,Ob,D6];constructor
  .rintro(h|h|h)<;>simp[h]
  .rintro((h|h)|h)<;>simp[h]
theorem Zc:∀ns {l},SI l->SI (Em ns l)
 |[],_,h=>h|n::ns,_,h=>Zc ns (b6F n h)
theorem KQ(a b l:d1A):Em (a++b) l=Em b (Em a l):=Y1 ..
def ja(l:d1A):d1A:=Em l []
theorem jk(x:Int)(l:d1A):x∈ja l↔x∈l:=by unfold ja;rw[Vd];simp
theorem VM(l:d1A):SI (ja l):=Zc l List.Pairwise.nil
theorem tZ(n:Int):∀l,(ins n l).length<=l.length+1
 |[]=>by simp[ins]|a::l=>by
  unfold ins;by_cases h1:n<=a
  .rw[if_pos h1];by_cases h2:n<a
   .rw[if_pos h2];simp
   .rw[if_neg h2];simp
  .rw[if_neg h1];have:=tZ n l;simp only[H9];omega
theorem DC:∀ns l,(Em ns l).length<=l.length+ns.length
 |[],l=>by simp[Em]|n::ns,l=>by have h1:=DC ns (ins n l);have h2:=tZ n l;show(Em ns (ins n l)).length<=_;simp only[H9];omega
theorem KU(l:d1A):(ja l).length<=l.length:=by have:=DC l [];unfold ja;simpa using this
theorem Uk(n:Nat)(h:SI l)(h2:∀x∈l,0<=x/\x<n):l.length<=n:=by
 have key:∀(l:d1A) (lo:Int),SI l->(∀x∈l,lo<=x/\x<n)->lo<=n->(l.length:Int)<=n -lo:=by
  intro l;induction l with
  |nil=>intro lo _ _ hlo;simp;omega|cons a l ih=>intro lo hs hb hlo;have h' :=af.1 hs;have ha:=hb a x9;have:=ih (a+1) h'.2 (λx hx=>⟨by have:=h'.1 x hx;omega,(hb x (by simp[hx])).2⟩) l7;simp only[H9];omega
 have:=key l 0 h (λx hx=>h2 x hx) l7;omega
theorem ZO(x:Int):∀(l:d1A) (p:Int),(p::l).Pairwise (·<=·)->SI (p::ddp p l)/\(x∈p::ddp p l↔x∈p::l)
 |[],p,_=>⟨List.pairwise_singleton _ _,Iff.rfl⟩|a::l,p,h=>by
  have h1:=af.1 h;obtain⟨i1,i2⟩:=ZO x l a h1.2;have h2:=af.1 h1.2;have hpa:=h1.1 a x9;unfold ddp;cases hq:x8 a p
  .rw[yO]at hq;simp only[cond_false];refine⟨af.2 ⟨λy hy=>?_,i1⟩,?_⟩
   .rcases D6.1 hy with rfl|hy
    .omega
    .have:=(af.1 i1).1 y hy;omega
   .rw[D6,i2,D6 (a:=x) (b:=p)]
  .rw[O5]at hq;subst hq;simp only[cond_true];refine⟨i1,?_⟩;rw[i2];simp
theorem b3x(l:d1A):dd (MX l)=ja l:=by
 have hs:=Il l;have hp:=Js l;refine a8G ?_ (VM l) λx=>?_
 .cases he:MX l with
  |nil=>exact List.Pairwise.nil|cons a r=>rw[he]at hs;exact(ZO a r a hs).1
 .rw[jk,←hp.mem_iff];cases he:MX l with
  |nil=>exact Iff.rfl|cons a r=>rw[he]at hs;exact(ZO x r a hs).2
theorem b1t(l:d1A):(MX l).length=l.length:=(Js l).length_eq
theorem b0F(h:l.length<=1000000):o5 (zi l) (λx=>oH x)=some (ja l):=by unfold zi oH;rw[show Nat.blt l.length 4611686018427387904=true from by simp[Nat.blt];omega];simp only[cond_true,o8];rw[show Nat.blt (MX l).length 4611686018427387904=true from by rw[b1t];simp[Nat.blt];omega];rw[cond_true,b3x]
def hg(l:d1A)(i:Nat):Int:=l.getD i 0
def swp(l:d1A)(i j:Nat):d1A:=(l.set i (hg l j)).set j (hg l i)
theorem Aj(h:i<l.length):l[i]? =some (hg l i):=by unfold hg;rw[qY,bn h];rfl
theorem OO(l:d1A)(i j:Nat):(swp l i j).length=l.length:=by simp[swp]
theorem a3k(hi:i<l.length)(hj:j<l.length)(k:Nat):hg (swp l i j) k=if k=j then hg l i else if k=i then hg l j else hg l k:=by
 unfold hg swp;simp only[qY,Z9,ji];by_cases h1:k=j
 .subst h1;simp[hj,hg,qY]
 .rw[if_neg (λh=>h1 h.symm),if_neg h1];by_cases h2:k=i
  .subst h2;simp[hi,hg,qY]
  .rw[if_neg (λh=>h2 h.symm),if_neg h2]
theorem QJ(hi:i<l.length)(hj:j<l.length):(swp l i j).Perm l:=by
 have e1:hg l i=l[i]:=by have:=Aj hi;rw[bn hi]at this;exact(I9 this).symm
 have e2:hg l j=l[j]:=by have:=Aj hj;rw[bn hj]at this;exact(I9 this).symm
 unfold swp;rw[e1,e2];exact List.set_set_perm hi hj
def Pz(l:d1A)(n:Nat):Prop:=∀k,0<k->k<n->hg l ((k -1) / 2)<=hg l k
def We(l:d1A)(j:Nat):Prop:=(∀k,0<k->k<l.length->k≠j->hg l ((k -1) / 2)<=hg l k)/\(0<j->∀k,0<k->k<l.length->(k -1) / 2=j->hg l ((j -1) / 2)<=hg l k)
def Md(l:d1A)(n i:Nat):Prop:=(∀k,0<k->k<n->(k -1) / 2≠i->hg l ((k -1) / 2)<=hg l k)/\(0<i->∀k,0<k->k<n->(k -1) / 2=i->hg l ((i -1) / 2)<=hg l k)
theorem a5m(h:We l j)(h0:0<j)(hj:j<l.length)(hlt:hg l j<hg l ((j -1) / 2)):We (swp l ((j -1) / 2) j) ((j -1) / 2):=by
 have hi:(j -1) / 2<l.length:=l7;have hij:(j -1) / 2<j:=l7;generalize hp:(j -1) / 2=i at*;have G:=a3k hi hj;refine⟨λk k0 k1 k2=>?_,λi0 k k0 k1 k2=>?_⟩
 .rw[OO]at k1;rw[G k,G];by_cases a:k=j
  .subst a;rw[if_pos rfl,hp,if_neg l7,if_pos rfl];omega
  rw[if_neg a,if_neg k2];by_cases b:(k -1) / 2=j
  .rw[if_pos b];have:=h.2 h0 k k0 k1 b;rw[hp]at this;exact this
  rw[if_neg b];by_cases c:(k -1) / 2=i
  .rw[if_pos c];have:=h.1 k k0 k1 a;rw[c]at this;omega
  rw[if_neg c];exact h.1 k k0 k1 a
 .rw[OO]at k1;rw[G,G,if_neg l7,if_neg l7];have e1:=h.1 i i0 hi l7;by_cases a:k=j
  .rw[if_pos a];exact e1
  .rw[if_neg a,if_neg l7];have:=h.1 k k0 k1 a;rw[k2]at this;omega
theorem o_(h:We l j)(he:j=0\/hg l ((j -1) / 2)<=hg l j):Pz l l.length:=λk k0 k1=>by
 by_cases a:k=j
 .subst a;rcases he with he|he
  .omega
  .exact he
 .exact h.1 k k0 k1 a
theorem LP(h:Md l n i)(hn:n<=l.length)(hj:(j -1) / 2=i)(hj0:0<j)(hjn:j<n)(hmin:∀k,0<k->k<n->(k -1) / 2=i->hg l j<=hg l k)(hlt:hg l j<hg l i):Md (swp l i j) n j:=by
 have G:=a3k (l:=l) (i:=i) (j:=j) l7 l7;refine⟨λk k0 k1 k2=>?_,λj0 k k0 k1 k2=>?_⟩
 .rw[G k,G,if_neg k2];by_cases a:k=j
  .rw[if_pos a,if_pos l7];omega
  rw[if_neg a];by_cases b:k=i
  .rw[if_pos b,if_neg l7];rw[b];exact h.2 l7 j hj0 hjn hj
  rw[if_neg b];by_cases c:(k -1) / 2=i
  .rw[if_pos c];exact hmin k k0 k1 c
  .rw[if_neg c];exact h.1 k k0 k1 c
 .rw[G,G,if_neg l7,if_pos hj,if_neg l7,if_neg l7];have:=h.1 k k0 k1 l7;rw[k2]at this;exact this
theorem Ij(h:Md l n i)(he:∀k,0<k->k<n->(k -1) / 2=i->hg l i<=hg l k):Pz l n:=λk k0 k1=>by
 by_cases a:(k -1) / 2=i
 .rw[a];exact he k k0 k1 a
 .exact h.1 k k0 k1 a
theorem b3O(h:Pz l n):∀k,k<n->hg l 0<=hg l k:=by
 intro k;induction k using Nat.strongRecOn with
 |ind k ih=>
  intro hk;by_cases h0:k=0
  .subst h0;exact aX _
  .have h1:=h k l7 hk;have h2:=ih ((k -1) / 2) l7 l7;omega
theorem a7J(h:Pz l l.length)(hn:n+1=l.length):Md (swp l 0 n) n 0:=by have G:=a3k (l:=l) (i:=0) (j:=n) l7 l7;refine⟨λk k0 k1 k2=>?_,λh0=>by omega⟩;rw[G k,G,if_neg l7,if_neg k2,if_neg l7,if_neg l7];exact h k k0 l7
theorem VQ{l:List α}{a:α}(h:(l.take n)[i]? =some a):i<n/\l[i]? =some a:=by
 rw[ae]at h;split at h
 .exact⟨by assumption,h⟩
 .cases h
theorem Oo{l:List jB}(hl:l.length<=1000000)(n:Nat)(nm:d1C):xB l (n:Int) nm=some ((l.take n).any λx=>seq x.1 nm):=by
 unfold xB;refine X9 (xH (l.take n) (λx=>seq x.1 nm) true PUnit.unit Z5 (λi a ha=>?_) ?_) ?_
 rotate_left 2
 .cases (l.take n).any λx=>seq x.1 nm<;>rfl
 .obtain⟨h1,h2⟩:=VQ ha;rw[U8 (show(i:Int)<n by omega),J7 h2,F7,h2];simp only[o7,o8];cases seq a.1 nm<;>rfl
 .by_cases h:n<l.length
  .have e:(l.take n).length=n:=by simp;omega
   rw[e,N7 l7];rfl
  .have e:(l.take n).length=l.length:=by simp;omega
   rw[e,J6];cases E8 (l.length:Int) (n:Int)<;>rfl
def LJ(en:List jA)(f:jB)(a b:List jB):Int:=
 l9 (DY f.1) (l9 (a.any λx=>seq x.1 f.1) 7 (l9 (b.any λx=>seq x.1 f.1) 7 (l9 (vty f.2 en) 0 8))) 2
theorem SH{l:U6}{f:jB}{a b:List jB}(h:f.1.length<=1000000)(ha:a.length<=1000000)(hb:b.length<=1000000):zF l f a b=some (LJ l.1 f a b):=by
 unfold zF LJ;rw[uH h,o8,XN _ ha,o8,XN _ hb,o8,AZ,o8];cases DY f.1
 .rfl
 cases a.any λx=>seq x.1 f.1
 case true=>rfl
 cases b.any λx=>seq x.1 f.1
 case true=>rfl
 cases vty f.2 l.1<;>rfl
def WC(c e:Int):Option (Int×Int):=l9 (x8 c 0) none (some (c,e))
def inP(l:U6)(s:A7)(i:Nat):Option (Int×Int):=match s.2.2.1[i]? with|some f=>WC (LJ l.1 f (s.2.2.1.take i) []) (100+i:Nat)|none=>none
def YD(l:U6)(s:A7)(i:Nat):Option (Int×Int):=match s.2.2.2.1[i]? with|some f=>WC (LJ l.1 f s.2.2.1 (s.2.2.2.1.take i)) (200+i:Nat)|none=>none
def a4x(s:A7):Prop:=(∀f∈s.2.2.1,f.1.length<=1000000)/\(∀f∈s.2.2.2.1,f.1.length<=1000000)
theorem XP{c i:Nat}(hc:c<=1000)(h:i<=1000000):D5 .i64 (c:Int) (i:Int)=((c+i:Nat):Int):=by rw[ai U7];omega
def YA(i:Int)(r:Int×Int):Int×Int×Int×Int:=(r.1,3,i,r.2)
theorem KP{ρ ρ' :Type}(g:ρ->ρ')(n:Nat)(p:Nat->Option ρ):ay n (λi=>(p i).map g)=(ay n p).map g:=by
 unfold ay;induction n with
 |zero=>rfl|succ n ih=>rw[X3,oq,oq,ih];cases (List.range n).findSome? p<;>simp
def wP(l:U6)(s:A7):Option (Int×Int):=match ay s.2.2.1.length (inP l s)with|some r=>some r|none=>ay s.2.2.2.1.length (YD l s)
theorem a0e{l:U6}{s:A7}(hs:l.2.2[i]? =some s)(h1:s.2.2.1.length<=1000)(h2:s.2.2.2.1.length<=1000)(hf:a4x s):
  AC l (i:Int)=some (match wP l s with|some r=>YA i r|none=>(0,0,0,0)):=by
 unfold AC wP;rw[F7,hs,o8];refine X9 (sO (p:=λk=>(inP l s k).map (YA i)) s.2.2.1.length l7 _ (0,0,0,0) (λk hk=>?_) ?_) ?_
 rotate_left 2
 .rw[KP];cases ay s.2.2.1.length (inP l s)
  case some r=>rfl
  simp only[Option.map_none,U1];refine X9 (sO (p:=λk=>(YD l s k).map (YA i)) s.2.2.2.1.length l7 _ (0,0,0,0) (λk hk=>?_) ?_) ?_
  rotate_left 2
  .rw[KP];cases ay s.2.2.2.1.length (YD l s)<;>rfl
  .have e:=bn hk;have hm:=hf.2 _ (G8 hk);simp only[J7 e,o7,F7,e,o8,pM hm,show o9 s.2.2.1=((s.2.2.1.length:Nat):Int)from rfl,Oo (show s.2.2.1.length<=1000000 by omega),Oo (show s.2.2.2.1.length<=1000000 by omega),jJ,YD,LJ,WC,aQ];rw[show(200:Int)=((200:Nat):Int)from rfl,XP l7 l7];cases DY s.2.2.2.1[k].1
   .rfl
   cases s.2.2.1.any λx=>seq x.1 s.2.2.2.1[k].1
   case true=>rfl
   cases (s.2.2.2.1.take k).any λx=>seq x.1 s.2.2.2.1[k].1
   case true=>rfl
   cases vty s.2.2.2.1[k].2 l.1<;>rfl
  .simp only[J6];rfl
 .have e:=bn hk;have hm:=hf.1 _ (G8 hk);simp only[J7 e,o7,F7,e,o8,pM hm,Oo (show s.2.2.1.length<=1000000 by omega),jJ,inP,LJ,WC];rw[show(100:Int)=((100:Nat):Int)from rfl,XP l7 l7];cases DY s.2.2.1[k].1
  .rfl
  cases (s.2.2.1.take k).any λx=>seq x.1 s.2.2.1[k].1
  case true=>rfl
  cases vty s.2.2.1[k].2 l.1<;>rfl
 .simp only[J6];rfl
def arF(op:Int):Int:=(jL op).getD 0
variable {op:Int}
theorem c0R(h:1<=op/\op<=39):∃k:Fin 40,op=(k.val:Int):=⟨⟨op.toNat,l7⟩,by simp;omega⟩
theorem c3A:∀k:Fin 40,1<=k.val->(qU (k.val:Int)=jL (k.val:Int))/\(jL (k.val:Int)=some 0\/jL (k.val:Int)=some 1\/jL (k.val:Int)=some 2\/jL (k.val:Int)=some 3):=by decide+kernel
theorem a3m(h:¬(1<=op/\op<=39))(k:Int)(h1:1<=k)(h2:k<=39):x8 op k=false:=O9 l7
theorem b0r(h:¬(1<=op/\op<=39)):jL op=some (-1):=by
 unfold jL;by_cases h1:1<=op
 .rw[Y3 h1,o7,Y9 (show(9:Int)<op by omega),o6,Y9 (show(39:Int)<op by omega),Y9 (show(30:Int)<op by omega)];simp[a3m h];cases L8 35 op<;>cases L8 11 op<;>rfl
 .rw[Y9 (show op<1 by omega),o6,Y9 (show op<35 by omega),Y9 (show op<11 by omega)];simp[a3m h]
theorem c0z(h:¬(1<=op/\op<=39)):qU op=some (-1):=by unfold qU;simp[a3m h]
theorem MB(op:Int):qU op=some (arF op)/\jL op=some (arF op)/\(arF op=-1\/arF op=0\/arF op=1\/arF op=2\/arF op=3):=by
 unfold arF;by_cases h:1<=op/\op<=39
 .obtain⟨k,rfl⟩:=c0R h;obtain⟨h1,h2⟩:=c3A k l7;rcases h2 with h2|h2|h2|h2<;>rw[h1,h2]<;>simp
 .rw[c0z h,b0r h];simp
theorem Zt(op:Int):qU op=some (arF op):=(MB op).1
theorem a0j(op:Int):jL op=some (arF op):=(MB op).2.1
inductive XT where
 |l0 (n:Int×Int)|l1 (n:Int×Int) (a:XT)|l2 (n:Int×Int) (a b:XT)|l3 (n:Int×Int) (a b c:XT)
def XT.size:XT->Nat
 | .l0 _=>1| .l1 _ a=>a.size+1| .l2 _ a b=>a.size+b.size+1| .l3 _ a b c=>a.size+b.size+c.size+1
def XT.post:XT->List (Int×Int)
 | .l0 n=>[n]| .l1 n a=>a.post++[n]| .l2 n a b=>a.post++b.post++[n]| .l3 n a b c=>a.post++b.post++c.post++[n]
def XT.sts(o:Nat):XT->d1A
 | .l0 _=>[(o:Int)]| .l1 _ a=>a.sts o++[(o:Int)]| .l2 _ a b=>a.sts o++b.sts (o+a.size)++[(o:Int)]| .l3 _ a b c=>a.sts o++b.sts (o+a.size)++c.sts (o+a.size+b.size)++[(o:Int)]
theorem XT.size_pos(t:XT):0<t.size:=by cases t<;>simp[XT.size]
theorem XT.post_len(t:XT):t.post.length=t.size:=by
 induction t with
 |l0 n=>rfl|l1 n a ha=>simp[XT.post,XT.size,ha]|l2 n a b ha hb=>simp[XT.post,XT.size,ha,hb];try omega
 |l3 n a b c ha hb hc=>simp[XT.post,XT.size,ha,hb,hc];try omega
theorem XT.sts_len(t:XT):∀o,(t.sts o).length=t.size:=by
 induction t with
 |l0 n=>intro o;rfl|l1 n a ha=>intro o;simp[XT.sts,XT.size,ha]|l2 n a b ha hb=>intro o;simp[XT.sts,XT.size,ha,hb];try omega
 |l3 n a b c ha hb hc=>intro o;simp[XT.sts,XT.size,ha,hb,hc];try omega
def jT:List XT->Nat
 |[]=>0|t::r=>jT r+t.size
def Pi:List XT->List (Int×Int)
 |[]=>[]|t::r=>Pi r++t.post
def stR:List XT->d1A
 |[]=>[]|t::r=>stR r++t.sts (jT r)
def qE:List XT->d1A
 |[]=>[]|t::r=>qE r++[(jT r:Int)]
theorem qx:∀ts,(qE ts).length=ts.length
 |[]=>rfl|t::r=>by simp[qE,qx r]
theorem IQ:∀ts,(stR ts).length=jT ts
 |[]=>rfl|t::r=>by simp[stR,jT,IQ r,XT.sts_len]
theorem RF:∀ts,(Pi ts).length=jT ts
 |[]=>rfl|t::r=>by simp[Pi,jT,RF r,XT.post_len]
def push(n:Int×Int)(ts:List XT):Int⊕List XT:=
 if arF n.1=0 then .inr (.l0 n::ts)
 else if arF n.1=1 then(match ts with|a::r=> .inr (.l1 n a::r)|_=> .inl 5)
 else if arF n.1=2 then(match ts with|b::a::r=> .inr (.l2 n a b::r)|_=> .inl 5)
 else if arF n.1=3 then(match ts with|c::b::a::r=> .inr (.l3 n a b c::r)|_=> .inl 5)
 else .inl 2
def yR:Nat->List (Int×Int)->List XT->(Int×Int)⊕List XT
 |_,[],ts=> .inr ts
 |i,n::es,ts=>match push n ts with
  | .inl c=> .inl ((i:Int),c)| .inr ts' =>if 12<ts'.length then .inl ((i:Int),16)else yR (i+1) es ts'
def mF(e:List (Int×Int)):(Int×Int)⊕XT:=
 if 48<e.length then .inl (0,4)else if e.length=0 then .inl (0,5)else
  match yR 0 e []with
  | .inl x=> .inl x| .inr [t]=> .inr t| .inr _=> .inl ((e.length:Int),4)
theorem a2C{n:Int×Int}{ts ts' :List XT}(h:push n ts= .inr ts'):Pi ts' =Pi ts++[n]/\ts' ≠[]:=by
 unfold push at h;split at h
 .cases h;exact⟨rfl,x9⟩
 split at h
 .split at h
  .cases h;exact⟨by simp[Pi,XT.post],x9⟩
  .cases h
 split at h
 .split at h
  .cases h;exact⟨by simp[Pi,XT.post],x9⟩
  .cases h
 split at h
 .split at h
  .cases h;exact⟨by simp[Pi,XT.post],x9⟩
  .cases h
 .cases h
theorem RH{n:Int×Int}{ts ts' :List XT}(h:push n ts= .inr ts'):jT ts' =jT ts+1:=by rw[←RF,←RF,(a2C h).1];simp
theorem Oj:∀(es:List (Int×Int)) (i:Nat) (ts ts' :List XT),yR i es ts= .inr ts' ->Pi ts' =Pi ts++es/\(ts≠[]\/es≠[]->ts' ≠[])
 |[],i,ts,ts',h=>by cases h;exact⟨x9,x9⟩|n::es,i,ts,ts',h=>by
  unfold yR at h;cases hp:push n ts with
  |inl c=>rw[hp]at h;cases h|inr t2=>
   rw[hp]at h;simp only at h;split at h
   .cases h
   .obtain⟨h1,h2⟩:=Oj es (i+1) t2 ts' h;obtain⟨h3,h4⟩:=a2C hp;exact⟨by rw[h1,h3];simp,λ_=>h2 (.inl h4)⟩
theorem DW{e:List (Int×Int)}{t:XT}(h:mF e= .inr t):e=t.post/\e.length<=48:=by
 unfold mF at h;split at h
 .cases h
 split at h
 .cases h
 split at h
 .cases h
 .rename_i t' hp;cases h;have:=(Oj e 0 [] [t] hp).1;exact⟨by simpa[Pi]using this.symm,l7⟩
 .cases h
theorem Yw(e:List (Int×Int))(he:e.length<=48)(g:List XT->σ)(fin:List XT->ε)(rt:Int×Int->ρ){f:σ->Option (Out σ ε ρ)}
  (hs:∀(i:Nat) (n:Int×Int) (ts:List XT),e[i]? =some n->i=jT ts->ts.length<=12->f (g ts)=some (match push n ts with
   | .inl c=> .rt (rt ((i:Int),c))
   | .inr ts' =>if 12<ts'.length then .rt (rt ((i:Int),16))else .nx (g ts')))
  (hend:∀ts,jT ts=e.length->f (g ts)=some (.ex (fin ts))):
  ah f (g [])=some (match yR 0 e []with| .inl x=> .inr (rt x)| .inr ts=> .inl (fin ts)):=by
 have key:∀(es:List (Int×Int)) (i:Nat) (ts:List XT) (k:Nat),e.drop i=es->i=jT ts->ts.length<=12->i<=e.length->es.length<k->
   rH f k (g ts)=some (match yR i es ts with| .inl x=> .inr (rt x)| .inr ts=> .inl (fin ts)):=by
  intro es;induction es with
  |nil=>
   intro i ts k hd hi hl hle hk;obtain⟨k,rfl⟩:∃k',k=k' +1:=⟨k -1,l7⟩;have:i=e.length:=by have:=congrArg List.length hd;simp at this;omega
   unfold rH;rw[hend ts l7];rfl
  |cons n es ih=>
   intro i ts k hd hi hl hle hk;obtain⟨k,rfl⟩:∃k',k=k' +1:=⟨k -1,l7⟩;have hn:e[i]? =some n:=by
    have:(e.drop i)[0]? =some n:=by rw[hd];rfl
    simpa using this
   have hlt:=(X6.1 hn).1;unfold rH;rw[hs i n ts hn hi hl];unfold yR;cases hp:push n ts with
   |inl c=>rfl|inr ts' =>
    simp only;by_cases h12:12<ts'.length
    .rw[if_pos h12,if_pos h12]
    .rw[if_neg h12,if_neg h12];exact ih (i+1) ts' k (by rw[←aO,hd];rfl) (by rw[RH hp,hi]) l7 l7 (by simp at hk;omega)
 exact key e 0 [] jb rfl rfl x9 l7 (by unfold jb;omega)
theorem a5P:∀(p r:List XT),∃X,qE (p++r)=qE r++X/\X.length=p.length/\(p≠[]->X.head?=some (jT r:Int))
 |[],r=>⟨[],x9,rfl,λh=>absurd rfl h⟩|a::p,r=>by
  obtain⟨X,h1,h2,h3⟩:=a5P p r;refine⟨X++[(jT (p++r):Int)],?_,by simp[h2],λ_=>?_⟩
  .show qE (p++r)++[(jT (p++r):Int)]=_;rw[h1,G5]
  .cases p with
   |nil=>simp at h2;subst h2;rfl|cons b p=>rw[List.head?_append,h3 x9];rfl
theorem Xc(p r:List XT)(k:Int)(hk:k=(p.length:Int))(h:p.length+r.length<=100)(hp:p≠[]):
  L6 .i64 (o9 (qE (p++r))) k=(r.length:Int)/\F9 (qE (p++r)) (r.length:Int)=some (jT r:Int)/\V6 (qE (p++r)) (V9 (r.length:Int))=some (jT r:Int)
  /\ui 0 (r.length:Int) (o9 (qE (p++r)))=true/\qo (qE (p++r)) (V9 0) (V9 (r.length:Int))=qE r:=by
 obtain⟨X,h1,h2,h3⟩:=a5P p r;have hl:(qE (p++r)).length=r.length+p.length:=by rw[qx];simp;omega
 have hg:(qE (p++r))[r.length]? =some (jT r:Int):=by rw[h1,J4 (by rw[qx];omega),qx,dX,←List.head?_eq_getElem?];exact h3 hp
 refine⟨?_,?_,?_,?_,?_⟩
 .simp only[o9,hl];rw[X4 U7];omega
 .rw[F7];exact hg
 .exact hg
 .simp only[ui,o9,hl,decide_eq_true_eq];omega
 .show((qE (p++r)).take r.length).drop 0=_;rw[h1,List.drop_zero,aH (by rw[qx];omega),Y8 (by rw[qx];omega)]
theorem XQ(ts:List XT):E8 12 (o9 (qE ts))=decide (12<ts.length):=by rw[show o9 (qE ts)=((ts.length:Nat):Int) by simp[o9,qx]];exact UN 12 ts.length
theorem fQ{l:List α}(x:α)(h:l.length<=1000000):cu l [x]=some (l++[x]):=uy Z5
theorem MV(ts:List XT)(k:Nat):E8 (o9 (qE ts)) (k:Int)=decide (ts.length<k):=by rw[show o9 (qE ts)=((ts.length:Nat):Int) by simp[o9,qx]];exact UN _ _
def zg(e:List (Int×Int)):d1A×Int×Int:=match mF e with| .inl x=>([],x)| .inr t=>(t.sts 0,0,0)
theorem a2z{e:List (Int×Int)}(h0:e.length≠0){K:d1A×Int×Int->d1A×Int×Int}(h48:¬48<e.length)
  {r:d1A×Int×Int} (h:∀ts,yR 0 e []= .inr ts->r=l9 (E8 1 (o9 (qE ts))) ([],o9 e,4) (stR ts,0,0)) (hi:∀x,yR 0 e []= .inl x->r=([],x)):r=zg e:=by
 unfold zg mF;rw[if_neg h48,if_neg h0];cases hp:yR 0 e []with
 |inl x=>exact hi x hp|inr ts=>
  rw[h ts hp];have:=(Oj e 0 [] ts hp).2 (.inr (by intro he;subst he;exact h0 rfl));match ts,this with
  |[t],_=>simp[qE,o9,E8,stR,jT]|a::b::ts,_=>rw[U8 (by simp[o9,qx];omega)];rfl
theorem LW(e:List (Int×Int)):uV e=some (zg e):=by
 unfold uV;by_cases h48:48<e.length
 .rw[U8 (by simp[o9];omega),o7];unfold zg mF;rw[if_pos h48]
 by_cases h0:e.length=0
 .rw[N7 (by simp[o9];omega),o6,N9 (by simp[o9,h0]),o7];unfold zg mF;rw[if_neg h48,if_pos h0]
 rw[N7 (by simp[o9];omega),o6,O9 (by simp[o9];intro h;exact h0 (by simp[h])),o6];refine X9 (Yw e l7 (λts=>(stR ts,qE ts,(jT ts:Int))) (λts=>(stR ts,qE ts)) (λx=>(([]:d1A),x)) (λi n ts hn hi hl=>?_) (λts hsz=>?_)) ?_
 rotate_left 2
 .rw[←a2z h0 h48 (K:=id) (r:=match yR 0 e []with| .inl x=>([],x)| .inr ts=>l9 (E8 1 (o9 (qE ts))) ([],o9 e,4) (stR ts,0,0)) (λts h=>by rw[h]) (λx h=>by rw[h])];cases yR 0 e []with
  |inl x=>rfl|inr ts=>simp only[o8,U1];cases E8 1 (o9 (qE ts))<;>rfl
 .subst hi;have hlt:=(X6.1 hn).1;have hst:=IQ ts;have hof:=qx ts;simp only[J7 hn,o7,F7,hn,o8,a0j];rcases(MB n.1).2.2 with h|h|h|h|h
  .rw[show push n ts= .inl 2 by simp[push,h],h];rfl
  .rw[show push n ts= .inr (.l0 n::ts) by simp[push,h],h,N7 l7,o6,N7 (XR _),o6,o6,fQ _ l7,o8,fQ _ l7,o8,Y4 l7];rw[show qE ts++[(jT ts:Int)]=qE (.l0 n::ts)from rfl,XQ];by_cases hc:12<(XT.l0 n::ts).length
   .simp only[hc,decide_true,if_true,o7]
   .simp only[hc,decide_false,if_false,o6];rfl
  .match ts with
   |[]=>rw[show push n []= .inl 5 by simp[push,h],h];rfl|a::r=>
    obtain⟨p1,p2,p3,p4,p5⟩:=Xc [a] r 1 rfl (by simp at hl ⊢;omega) x9;simp only[aG,G6]at p1 p2 p3 p4 p5;have:=IQ (a::r);have:=qx r;simp only[H9]at hl;rw[show push n (a::r)= .inr (.l1 n a::r) by simp[push,h],h,N7 l7,o6,show(1:Int)=((1:Nat):Int)from rfl,MV,show decide ((a::r).length<1)=false by simp];simp only[Int.natCast_one]at p1 ⊢;rw[o6,U8 l7,o7,p1,p2,o8,p3,o8,p4,o7,p5,fQ _ l7,o8,fQ _ l7,o8,Y4 l7];rw[show qE r++[(jT r:Int)]=qE (.l1 n a::r)from rfl,XQ];by_cases hc:12<(XT.l1 n a::r).length
    .simp only[hc,decide_true,if_true,o7]
    .simp only[hc,decide_false,if_false,o6,stR,XT.sts,G5,jT,XT.size,jw]
  .match ts with
   |[]=>rw[show push n []= .inl 5 by simp[push,h],h];rfl|[a]=>rw[show push n [a]= .inl 5 by simp[push,h],h];rfl|b::a::r=>
    obtain⟨p1,p2,p3,p4,p5⟩:=Xc [b,a] r 2 rfl (by simp at hl ⊢;omega) x9;simp only[aG,G6]at p1 p2 p3 p4 p5;have:=IQ (b::a::r);have:=qx r;simp only[H9]at hl;rw[show push n (b::a::r)= .inr (.l2 n a b::r) by simp[push,h],h,N7 l7,o6,show(2:Int)=((2:Nat):Int)from rfl,MV,show decide ((b::a::r).length<2)=false by simp];rw[o6,U8 l7,o7,show((2:Nat):Int)=2 from rfl,p1,p2,o8,p3,o8,p4,o7,p5,fQ _ l7,o8,fQ _ l7,o8,Y4 l7];rw[show qE r++[(jT r:Int)]=qE (.l2 n a b::r)from rfl,XQ];by_cases hc:12<(XT.l2 n a b::r).length
    .simp only[hc,decide_true,if_true,o7]
    .simp only[hc,decide_false,if_false,o6,stR,XT.sts,G5,jT,XT.size,jw]
  .match ts with
   |[]=>rw[show push n []= .inl 5 by simp[push,h],h];rfl|[a]=>rw[show push n [a]= .inl 5 by simp[push,h],h];rfl|[b,a]=>rw[show push n [b,a]= .inl 5 by simp[push,h],h];rfl|c::b::a::r=>
    obtain⟨p1,p2,p3,p4,p5⟩:=Xc [c,b,a] r 3 rfl (by simp at hl ⊢;omega) x9;simp only[aG,G6]at p1 p2 p3 p4 p5;have:=IQ (c::b::a::r);have:=qx r;simp only[H9]at hl;rw[show push n (c::b::a::r)= .inr (.l3 n a b c::r) by simp[push,h],h,N7 l7,o6,show(3:Int)=((3:Nat):Int)from rfl,MV,show decide ((c::b::a::r).length<3)=false by simp];rw[o6,U8 l7,o7,show((3:Nat):Int)=3 from rfl,p1,p2,o8,p3,o8,p4,o7,p5,fQ _ l7,o8,fQ _ l7,o8,Y4 l7];rw[show qE r++[(jT r:Int)]=qE (.l3 n a b c::r)from rfl,XQ];by_cases hc:12<(XT.l3 n a b c::r).length
    .simp only[hc,decide_true,if_true,o7]
    .simp only[hc,decide_false,if_false,o6,stR,XT.sts,G5,jT,XT.size,jw]
 .simp only[hsz,J6];rfl
def pd(l:d1A)(k:Nat):d1A:=l++List.replicate k 0
theorem a3G(l:d1A)(m:Nat):F9 (pd l (m+1)) (l.length:Int)=some 0:=by rw[F7];unfold pd;rw[J4 l7,dX];rfl
theorem a3H(l:d1A)(m:Nat):V6 (pd l (m+1)) (V9 (l.length:Int))=some 0:=by have:=a3G l m;rw[F7]at this;exact this
theorem a8f(l:d1A)(m:Nat)(v:Int):aU (pd l (m+1)) (V9 (l.length:Int)) v=pd (l++[v]) m:=by show(l++List.replicate (m+1) 0).set l.length v=_;rw[kF _ _ l7,dX,lT];simp[pd]
theorem Vr(l:d1A)(m:Nat)(v w:Int):aU (pd (l++[v]) m) (V9 (l.length:Int)) w=pd (l++[w]) m:=by show(l++[v]++List.replicate m 0).set l.length w=_;rw[G5,kF _ _ l7,dX];simp[pd]
theorem Rz(l:d1A)(m:Nat)(v:Int):F9 (pd (l++[v]) m) (l.length:Int)=some v:=by rw[F7];unfold pd;rw[G5,J4 l7,dX];rfl
theorem Qo(l:d1A)(m:Nat)(v:Int):V6 (pd (l++[v]) m) (V9 (l.length:Int))=some v:=by have:=Rz l m v;rw[F7]at this;exact this
theorem VO(e:List (Int×Int)):zA e=some (zg e):=by
 unfold zA;by_cases h48:48<e.length
 .rw[U8 (by simp[o9];omega),o7];unfold zg mF;rw[if_pos h48]
 by_cases h0:e.length=0
 .rw[N7 (by simp[o9];omega),o6,N9 (by simp[o9,h0]),o7];unfold zg mF;rw[if_neg h48,if_pos h0]
 rw[N7 (by simp[o9];omega),o6,O9 (by simp[o9];intro h;exact h0 (by simp[h])),o6];rw[show pX (o9 e) (0:Int)=some (pd (stR []) (e.length -jT [])) by simp[pX,o9,pd,stR,jT];omega,o8];refine X9 (Yw e l7 (λts=>(pd (stR ts) (e.length -jT ts),qE ts,(jT ts:Int))) (λts=>(pd (stR ts) (e.length -jT ts),qE ts)) (λx=>(([]:d1A),x)) (λi n ts hn hi hl=>?_) (λts hsz=>?_)) ?_
 rotate_left 2
 .rw[←a2z h0 h48 (K:=id) (r:=match yR 0 e []with| .inl x=>([],x)| .inr ts=>l9 (E8 1 (o9 (qE ts))) ([],o9 e,4) (stR ts,0,0)) (λts h=>by rw[h]) (λx h=>by rw[h])];cases hp:yR 0 e []with
  |inl x=>rfl|inr ts=>
   have:=(Oj e 0 [] ts hp).1;have hz:e.length -jT ts=0:=by have:=congrArg List.length this;rw[RF]at this;simp[Pi]at this;omega
   simp only[o8,U1,hz,pd,List.replicate_zero,H6];cases E8 1 (o9 (qE ts))<;>rfl
 .subst hi;have hlt:=(X6.1 hn).1;have hst:=IQ ts;have hof:=qx ts;obtain⟨m,hm⟩:∃m,e.length -jT ts=m+1:=⟨e.length -jT ts -1,l7⟩;simp only[J7 hn,o7,F7 e,hn,o8,Zt,hm];rw[←hst];simp only[a3G,a3H,o8,a8f,Rz,Qo,Vr];rw[hst];rcases(MB n.1).2.2 with h|h|h|h|h
  .rw[show push n ts= .inl 2 by simp[push,h],h];rfl
  .have e0:L6 .i64 (o9 (qE ts)) 0=((qE ts).length:Int):=by rw[X4 (by unfold kP o9;omega)];simp[o9]
   rw[show push n ts= .inr (.l0 n::ts) by simp[push,h],h,N7 l7,o6,N7 (XR _),o6,o6,e0,show ui 0 ((qE ts).length:Int) (o9 (qE ts))=true by simp[ui,o9],o7,
    show qo (qE ts) (V9 0) (V9 ((qE ts).length:Int))=qE ts by simp[qo,V9],fQ _ l7,o8,Y4 l7]
   rw[show qE ts++[(jT ts:Int)]=qE (.l0 n::ts)from rfl,XQ];by_cases hc:12<(XT.l0 n::ts).length
   .simp only[hc,decide_true,if_true,o7]
   .simp only[hc,decide_false,if_false,o6,jT,XT.size,stR,XT.sts,show e.length -(jT ts+1)=m by omega]
  .match ts with
   |[]=>rw[show push n []= .inl 5 by simp[push,h],h];rfl|a::r=>
    obtain⟨p1,p2,p3,p4,p5⟩:=Xc [a] r 1 rfl (by simp at hl ⊢;omega) x9;simp only[aG,G6]at p1 p2 p3 p4 p5;have:=IQ (a::r);have:=qx r;simp only[H9]at hl;rw[show push n (a::r)= .inr (.l1 n a::r) by simp[push,h],h,N7 l7,o6,show(1:Int)=((1:Nat):Int)from rfl,MV,show decide ((a::r).length<1)=false by simp];simp only[Int.natCast_one]at p1 ⊢;rw[o6,U8 l7,o7,p1,p2,o8,p3,o8,p4,o7,p5];rw[←hst]
    try simp only[Vr,Rz,Qo,o8]
    rw[hst,fQ _ l7,o8,Y4 l7];rw[show qE r++[(jT r:Int)]=qE (.l1 n a::r)from rfl,XQ];have hz:=RH (show push n (a::r)= .inr (.l1 n a::r) by simp[push,h]);by_cases hc:12<(XT.l1 n a::r).length
    .simp only[hc,decide_true,if_true,o7]
    .simp only[hc,decide_false,if_false,o6,hz,show e.length -(jT (a::r)+1)=m by omega,stR,XT.sts,G5]
  .match ts with
   |[]=>rw[show push n []= .inl 5 by simp[push,h],h];rfl|[a]=>rw[show push n [a]= .inl 5 by simp[push,h],h];rfl|b::a::r=>
    obtain⟨p1,p2,p3,p4,p5⟩:=Xc [b,a] r 2 rfl (by simp at hl ⊢;omega) x9;simp only[aG,G6]at p1 p2 p3 p4 p5;have:=IQ (b::a::r);have:=qx r;simp only[H9]at hl;rw[show push n (b::a::r)= .inr (.l2 n a b::r) by simp[push,h],h,N7 l7,o6,show(2:Int)=((2:Nat):Int)from rfl,MV,show decide ((b::a::r).length<2)=false by simp];rw[o6,U8 l7,o7,show((2:Nat):Int)=2 from rfl,p1,p2,o8,p3,o8,p4,o7,p5];rw[←hst]
    try simp only[Vr,Rz,Qo,o8]
    rw[hst,fQ _ l7,o8,Y4 l7];rw[show qE r++[(jT r:Int)]=qE (.l2 n a b::r)from rfl,XQ];have hz:=RH (show push n (b::a::r)= .inr (.l2 n a b::r) by simp[push,h]);by_cases hc:12<(XT.l2 n a b::r).length
    .simp only[hc,decide_true,if_true,o7]
    .rw[hz,show e.length -(jT (b::a::r)+1)=m by omega,show stR (.l2 n a b::r)=stR (b::a::r)++[(jT r:Int)] by simp only[stR,XT.sts,G5,jT]];simp only[hc,decide_false,if_false,o6]
  .match ts with
   |[]=>rw[show push n []= .inl 5 by simp[push,h],h];rfl|[a]=>rw[show push n [a]= .inl 5 by simp[push,h],h];rfl|[b,a]=>rw[show push n [b,a]= .inl 5 by simp[push,h],h];rfl|c::b::a::r=>
    obtain⟨p1,p2,p3,p4,p5⟩:=Xc [c,b,a] r 3 rfl (by simp at hl ⊢;omega) x9;simp only[aG,G6]at p1 p2 p3 p4 p5;have:=IQ (c::b::a::r);have:=qx r;simp only[H9]at hl;rw[show push n (c::b::a::r)= .inr (.l3 n a b c::r) by simp[push,h],h,N7 l7,o6,show(3:Int)=((3:Nat):Int)from rfl,MV,show decide ((c::b::a::r).length<3)=false by simp];rw[o6,U8 l7,o7,show((3:Nat):Int)=3 from rfl,p1,p2,o8,p3,o8,p4,o7,p5];rw[←hst]
    try simp only[Vr,Rz,Qo,o8]
    rw[hst,fQ _ l7,o8,Y4 l7];rw[show qE r++[(jT r:Int)]=qE (.l3 n a b c::r)from rfl,XQ];have hz:=RH (show push n (c::b::a::r)= .inr (.l3 n a b c::r) by simp[push,h]);by_cases hc:12<(XT.l3 n a b c::r).length
    .simp only[hc,decide_true,if_true,o7]
    .rw[hz,show e.length -(jT (c::b::a::r)+1)=m by omega,show stR (.l3 n a b c::r)=stR (c::b::a::r)++[(jT r:Int)] by simp only[stR,XT.sts,G5,jT]];simp only[hc,decide_false,if_false,o6]
 .simp only[hsz,J6];rfl
end
section
def VT(t:Int×Int):Prop:=t=(1,0)\/t=(2,0)\/t=(3,0)\/t=(4,0)\/t=(5,0)\/∃e,t=(6,e)
theorem QN{t:Int×Int}{en:List jA}(h:vty t en=true):VT t:=by
 obtain⟨k,e⟩:=t;unfold vty at h;simp only at h;cases h6:x8 k 6
 .rw[h6,o6]at h;cases h1:L8 1 k<;>rw[h1]at h
  .cases h
  cases h5:L8 k 5<;>rw[h5]at h
  .cases h
  simp only[o7,O5]at h;rw[iQ]at h1 h5;subst h;have:k=1\/k=2\/k=3\/k=4\/k=5:=l7;rcases this with rfl|rfl|rfl|rfl|rfl<;>simp[VT]
 .rw[O5]at h6;subst h6;exact .inr (.inr (.inr (.inr (.inr ⟨e,rfl⟩))))
def EN(n:Int×Int)(ops:List (Int×Int))(sg:N8):Option ((Int×Int)×Int):=
 l9 (F8 (x8 n.2 0)) (o5 (mJ n.1) λu=>l9 (F8 u) (some ((0,0),2)) (dK n ops sg)) (dK n ops sg)
def xG(n:Int×Int)(ops:List (Int×Int))(sg:N8):Prop:=∃r:(Int×Int)×Int,xW n ops sg=some r/\EN n ops sg=some r/\(r.2=0->VT r.1)
variable {k:Int}
theorem VT.lit(h:1<=k/\k<=5):VT (k,0):=by have:k=1\/k=2\/k=3\/k=4\/k=5:=l7;rcases this with rfl|rfl|rfl|rfl|rfl<;>simp[VT]
theorem Gv(a b:Int):L8 a b= !E8 b a:=by simp only[E8,L8];rw[←decide_not];congr 1;simp
theorem Lp{α β:Type}(o:Option β)(f:α->Option β):o5 (o5 o λx=>some (Sum.inr x)) (λq=>aj q f λr=>some r)=o:=by cases o<;>rfl
theorem VT.enum(e:Int):VT (6,e):=.inr (.inr (.inr (.inr (.inr ⟨e,rfl⟩))))
theorem vN{R E:Option ((Int×Int)×Int)}{c:Int}(hc:c≠0)(h1:R=some ((0,0),c))(h2:E=some ((0,0),c)):∃r:(Int×Int)×Int,R=some r/\E=some r/\(r.2=0->VT r.1):=⟨_,h1,h2,λh=>absurd h hc⟩
theorem nok{R E:Option ((Int×Int)×Int)}{t:Int×Int}(hv:VT t)(h1:R=some (t,0))(h2:E=some (t,0)):∃r:(Int×Int)×Int,R=some r/\E=some r/\(r.2=0->VT r.1):=⟨_,h1,h2,λ_=>hv⟩
def RR(a0:Int×Int)(a1:List (Int×Int))(a2:N8):Option ((Int×Int)×Int):=
 o5 (mg a0 a2) λ(x:Bool)=>l9 (F8 x) (some ((0,0),3)) (o5 (qy a0 a2) λ(x:Bool)=>l9 (F8 x) (some ((0,0),6))
  (l9 (x8 (o9 a1) 0) (o5 (mP a0 a2) λ(x:F6×Bool)=>l9 (F8 x.2) (some ((0,0),8)) (some (x.1,0)))
  (l9 (x8 (o9 a1) 1) (o5 (F9 a1 0) λ(x:F6)=>o5 (xX a0 x a2) λ(x:F6×Bool)=>l9 (F8 x.2) (some ((0,0),8)) (some (x.1,0)))
  (l9 (x8 (o9 a1) 2) (o5 (F9 a1 0) λ(x:F6)=>o5 (F9 a1 1) λ(x_1:F6)=>o5 (Aw a0.1 x x_1) λ(x:F6×Bool)=>l9 (F8 x.2) (some ((0,0),8)) (some (x.1,0)))
  (o5 (F9 a1 1) λ(x:F6)=>o5 (F9 a1 0) λ(x_1:F6)=>l9 (x8 x_1.1 1) (o5 (F9 a1 1) λ(x_2:F6)=>o5 (F9 a1 2) λ(x_3:F6)=>
   l9 (F8 (iV (x8 x_2.1 x_3.1) (x8 x_2.2 x_3.2))) (some ((0,0),8)) (some (x,0))) (l9 (F8 false) (some ((0,0),8)) (some (x,0))))))))
theorem b2U(n:Int×Int)(ops:List (Int×Int))(sg:N8):xW n ops sg=l9 (F8 (x8 n.2 0)) (o5 (fZ n.1) λx=>l9 x (RR n ops sg) (some ((0,0),2))) (RR n ops sg):=by
 unfold xW;cases x8 n.2 0
 .simp only[aW,o7];cases fZ n.1 with
  |none=>rfl|some b=>cases b<;>rfl
 .rfl
theorem Ql{op N:Int}{ops:List (Int×Int)}{sg:N8}(h1:mJ op=some true)(h2:fZ op=some true)
  (h:∃r:(Int×Int)×Int,RR (op,N) ops sg=some r/\dK (op,N) ops sg=some r/\(r.2=0->VT r.1)):xG (op,N) ops sg:=by
 unfold xG;rw[b2U];unfold EN;dsimp only;rw[h1,h2];cases x8 N 0<;>exact h
theorem WX{op N:Int}{ops:List (Int×Int)}{sg:N8}(h1:mJ op=some false)(h2:fZ op=some false)
  (h:∃r:(Int×Int)×Int,RR (op,0) ops sg=some r/\dK (op,0) ops sg=some r/\(r.2=0->VT r.1)):xG (op,N) ops sg:=by
 unfold xG;rw[b2U];unfold EN;dsimp only;rw[h1,h2];cases hz:x8 N 0
 .exact vN (c:=2) G7 rfl rfl
 .rw[O5]at hz;subst hz;exact h
section
variable (N:Int) (sg:N8)
theorem b4u(hk:k=1\/k=2\/k=3\/k=4\/k=5):xG (k,N) [] sg:=by
 have hv:vty (k,0) sg.1=true:=by rcases hk with rfl|rfl|rfl|rfl|rfl<;>rfl
 have hm:mJ k=some true/\fZ k=some true:=by rcases hk with rfl|rfl|rfl|rfl|rfl<;>exact⟨rfl,rfl⟩
 refine Ql hm.1 hm.2 ?_;have key:dK (k,N) [] sg=mY N k sg:=by rcases hk with rfl|rfl|rfl|rfl|rfl<;>exact Lp _ _
 have key2:RR (k,N) [] sg=o5 (o5 (qg (k,0) sg.1) λ(x:F6)=>l9 (L8 x.1 N) (some (L8 N x.2)) (some false)) λ(x:Bool)=>l9 (F8 x) (some ((0,0),3)) (some ((k,0),0)):=by rcases hk with rfl|rfl|rfl|rfl|rfl<;>rfl
 rw[key,key2];unfold mY;rw[Wq,Ua,o8,o8,rX,rX];cases L8 (bnd (k,0) sg.1).1 N
 .exact vN (c:=3) G7 rfl rfl
 cases L8 N (bnd (k,0) sg.1).2
 .exact vN (c:=3) G7 rfl rfl
 .exact nok (QN hv) rfl rfl
theorem b1I(hN:kP N):xG (6,N) [] sg:=by
 have hq:0<=N->dM .i64 N 16=N / 16:=λh=>by rw[zC (by rw[kL h];unfold kP at*;omega),kL h]
 refine Ql rfl rfl ?_;have hf:qy (6,N) sg=l9 (E8 (dM .i64 N 16) (o9 sg.1)) (o5 (F9 sg.1 (dM .i64 N 16)) λ(x:jA)=>some (E8 (fC N 16) (o9 x.2))) (some false):=rfl;have hl:mP (6,N) sg=some ((6,dM .i64 N 16),vty (6,dM .i64 N 16) sg.1):=by unfold mP;simp only[jJ];rfl
 rw[show dK (6,N) [] sg=Gu N sg from Lp _ _];unfold RR Gu;rw[hf,show mg (6,N) sg=some (L8 0 N)from rfl,hl];by_cases h0:0<=N
 .rw[N7 h0,Y3 h0,hq h0];by_cases h1:N / 16<o9 sg.1
  .obtain⟨x,hx,_⟩:=mO (show 0<=N / 16 by omega) h1;rw[U8 h1,Y9 h1,hx,show vty (6,N / 16) sg.1=true by unfold vty;simp only[Y3 (show 0<=N / 16 by omega),U8 h1];rfl];simp only[o8,rX];cases L8 (o9 x.2) (fC N 16)
   .exact nok (VT.enum (N / 16)) rfl rfl
   .exact vN (c:=6) G7 rfl rfl
  .have h1' :o9 sg.1<=N / 16:=l7;rw[N7 h1',Y3 h1'];exact vN (c:=6) G7 rfl rfl
 .rw[U8 (show N<0 by omega),Y9 (show N<0 by omega)];exact vN (c:=3) G7 rfl rfl
theorem Ew(ts:List (Int×Int))(en:N8):(∃x,F9 ts N=some x/\L8 0 N=true/\E8 N (o9 ts)=true/\lW N ts en=some (l9 (vty x en.1) (x,0) ((0,0),8)))\/((L8 0 N=false\/L8 0 N=true/\E8 N (o9 ts)=false)/\lW N ts en=some ((0,0),6)):=by
 unfold lW;rw[rX N 0,Gv (o9 ts) N];cases h0:L8 0 N
 .exact .inr ⟨.inl x9,rfl⟩
 cases h1:E8 N (o9 ts)
 .exact .inr ⟨.inr x9,rfl⟩
 rw[iQ]at h0;rw[jF]at h1;obtain⟨x,hx,_⟩:=mO h0 h1;rw[hx];simp only[jr,Bool.not_false,o6,o7,o8,AZ];exact .inl ⟨x,rfl,x9,x9,by cases vty x en.1<;>rfl⟩
theorem b8s:xG (7,N) [] sg:=by
 refine Ql rfl rfl ?_;rw[show dK (7,N) [] sg=lW N sg.2.2.1 sg from Lp _ _];have hf:qy (7,N) sg=l9 (L8 0 N) (some (E8 N (o9 sg.2.2.1))) (some false):=rfl;unfold RR;rw[hf,show mg (7,N) sg=some true from rfl];rcases Ew N sg.2.2.1 sg with⟨x,h1,h2,h3,h4⟩|⟨h1|⟨h1,h2⟩,h4⟩
 .have hl:mP (7,N) sg=some (x,vty x sg.1):=by
   unfold mP;dsimp only;rw[h1];simp only[jJ];rfl
  rw[h2,h3,h4,hl];cases hv:vty x sg.1
  .exact vN (c:=8) G7 rfl rfl
  .exact nok (QN hv) rfl rfl
 .rw[h1,h4];exact vN (c:=6) G7 rfl rfl
 .rw[h1,h2,h4];exact vN (c:=6) G7 rfl rfl
theorem b4s:xG (8,N) [] sg:=by
 refine Ql rfl rfl ?_;rw[show dK (8,N) [] sg=lW N sg.2.2.2.1 sg from Lp _ _];have hf:qy (8,N) sg=l9 (L8 0 N) (some (E8 N (o9 sg.2.2.2.1))) (some false):=rfl;unfold RR;rw[hf,show mg (8,N) sg=some true from rfl];rcases Ew N sg.2.2.2.1 sg with⟨x,h1,h2,h3,h4⟩|⟨h1|⟨h1,h2⟩,h4⟩
 .have hl:mP (8,N) sg=some (x,vty x sg.1):=by
   unfold mP;dsimp only;rw[h1];simp only[jJ];rfl
  rw[h2,h3,h4,hl];cases hv:vty x sg.1
  .exact vN (c:=8) G7 rfl rfl
  .exact nok (QN hv) rfl rfl
 .rw[h1,h4];exact vN (c:=6) G7 rfl rfl
 .rw[h1,h2,h4];exact vN (c:=6) G7 rfl rfl
theorem b1H:xG (9,N) [] sg:=WX rfl rfl (nok (VT.lit (k:=5) l7) rfl rfl)
theorem a7X:xG (35,N) [] sg:=by
 refine WX rfl rfl ?_;rw[show dK (35,0) [] sg=uN (35,0) sg from Lp _ _];unfold RR uN;simp only[mg,qy,mP,jJ,o8];cases sg.2.2.2.2.2
 .exact vN (c:=6) G7 rfl rfl
 .exact nok (VT.lit (k:=2) l7) rfl rfl
theorem b4v(hk:k=36\/k=37\/k=38\/k=39):xG (k,N) [] sg:=by
 have hm:mJ k=some true/\fZ k=some true/\x8 k 35=false:=by rcases hk with rfl|rfl|rfl|rfl<;>exact⟨rfl,rfl,rfl⟩
 refine Ql hm.1 hm.2.1 ?_;rw[show dK (k,N) [] sg=uN (k,N) sg by rcases hk with rfl|rfl|rfl|rfl<;>exact Lp _ _];have hr:RR (k,N) [] sg=o5 (l9 sg.2.2.2.2.2 (l9 (L8 0 N) (some (E8 N (o9 sg.2.2.2.2.1))) (some false)) (some false)) λ(x:Bool)=>l9 (F8 x) (some ((0,0),6))
   (o5 (mP (k,N) sg) λ(x:F6×Bool)=>l9 (F8 x.2) (some ((0,0),8)) (some (x.1,0))):=by rcases hk with rfl|rfl|rfl|rfl<;>rfl
 rw[hr];unfold uN;rw[hm.2.2,o6];cases sg.2.2.2.2.2
 .exact vN (c:=6) G7 rfl rfl
 simp only[o7,E5,o6];rcases Ew N sg.2.2.2.2.1 sg with⟨x,h1,h2,h3,h4⟩|⟨h1|⟨h1,h2⟩,h4⟩
 .rw[h2,h3,h4];have hl:mP (k,N) sg=o5 (some (l9 (x8 k 36) (l9 (vty x sg.1) (l9 (x8 x.1 2) true (x8 x.1 3)) false) (l9 (x8 k 39) (l9 (vty x sg.1) (l9 (x8 x.1 2) true (l9 (x8 x.1 3) true (l9 (x8 x.1 4) true (x8 x.1 5)))) false) (l9 (vty x sg.1) (x8 x.1 1) false)))) λb=>some (x,b):=by
   unfold mP;simp only[jJ,wF,Az];rcases hk with rfl|rfl|rfl|rfl<;>(rw[h1];simp only[x8,Int.reduceEq,decide_true,decide_false,o7,o6,o8];cases vty x sg.1<;>cases decide (x.1=2)<;>cases decide (x.1=3)<;>cases decide (x.1=4)<;>rfl)
  rw[hl];simp only[o8,pV];cases hv:vty x sg.1
  .rcases hk with rfl|rfl|rfl|rfl<;>exact vN (c:=8) G7 rfl rfl
  .have hx:=QN hv;rcases hk with rfl|rfl|rfl|rfl<;>rcases hx with rfl|rfl|rfl|rfl|rfl|⟨e,rfl⟩ <;>
    first
    |exact nok (QN hv) rfl rfl
    |exact vN (c:=8) G7 rfl rfl
 .rw[h1,h4];exact vN (c:=6) G7 rfl rfl
 .rw[h1,h2,h4];exact vN (c:=6) G7 rfl rfl
end
end
section
variable {a:Int×Int}{k:Int}{b:Int×Int}
section
variable (N:Int) (sg:N8)
theorem b8t(hk:k=10\/k=25\/k=31\/k=32)(ha:VT a):xG (k,N) [a] sg:=by
 have hm:mJ k=some false/\fZ k=some false:=by rcases hk with rfl|rfl|rfl|rfl<;>exact⟨rfl,rfl⟩
 refine WX hm.1 hm.2 ?_;rcases hk with rfl|rfl|rfl|rfl<;>rcases ha with rfl|rfl|rfl|rfl|rfl|⟨e,rfl⟩ <;>
  first
  |exact nok (VT.lit (k:=1) l7) rfl rfl
  |exact nok (VT.lit (k:=2) l7) rfl rfl
  |exact nok (VT.lit (k:=3) l7) rfl rfl
  |exact nok (VT.lit (k:=4) l7) rfl rfl
  |exact vN (c:=8) G7 rfl rfl
theorem b4r(hk:k=13\/k=23\/k=24\/k=27\/k=28\/k=29\/k=30)(ha:VT a)(hb:VT b):xG (k,N) [a,b] sg:=by
 have hm:mJ k=some false/\fZ k=some false:=by rcases hk with rfl|rfl|rfl|rfl|rfl|rfl|rfl<;>exact⟨rfl,rfl⟩
 refine WX hm.1 hm.2 ?_;rcases hk with rfl|rfl|rfl|rfl|rfl|rfl|rfl<;>rcases ha with rfl|rfl|rfl|rfl|rfl|⟨e,rfl⟩<;>rcases hb with rfl|rfl|rfl|rfl|rfl|⟨f,rfl⟩ <;>
  first
  |exact vN (c:=8) G7 rfl rfl
  |exact nok (VT.lit (k:=1) l7) rfl rfl
  |exact nok (VT.lit (k:=2) l7) rfl rfl
  |exact nok (VT.lit (k:=3) l7) rfl rfl
  |exact nok (VT.lit (k:=4) l7) rfl rfl
  |exact nok (VT.lit (k:=5) l7) rfl rfl
theorem b1J(hk:k=14\/k=15\/k=16)(ha:VT a)(hb:VT b):xG (k,N) [a,b] sg:=by
 have hm:mJ k=some true/\fZ k=some true:=by rcases hk with rfl|rfl|rfl<;>exact⟨rfl,rfl⟩
 refine Ql hm.1 hm.2 ?_;have hr:RR (k,N) [a,b] sg=o5 (l9 (L8 0 N) (some (L8 N 5)) (some false)) λx=>l9 (F8 x) (some ((0,0),3)) (o5 (Aw k a b) λx=>l9 (F8 x.2) (some ((0,0),8)) (some (x.1,0))):=by rcases hk with rfl|rfl|rfl<;>rfl
 have he:dK (k,N) [a,b] sg=o5 (l9 (L8 0 N) (some (L8 N 5)) (some false)) λx=>l9 (F8 x) (some ((0,0),3)) (o5 (qW k [a,b]) λx=>l9 (F8 x.2) (some ((0,0),8)) (some (x.1,0))):=by
  rcases hk with rfl|rfl|rfl <;>
   (show o5 (o5 (ql N) λx=>l9 (F8 x) (some (Sum.inr (((0:Int),(0:Int)),(3:Int)))) (some (.inl ((0:Int),(0:Int))))) _=_
    unfold ql;cases L8 0 N<;>cases L8 N 5<;>rfl)
 rw[hr,he];cases L8 0 N
 .exact vN (c:=3) G7 rfl rfl
 cases L8 N 5
 .exact vN (c:=3) G7 rfl rfl
 rcases hk with rfl|rfl|rfl<;>rcases ha with rfl|rfl|rfl|rfl|rfl|⟨e,rfl⟩<;>rcases hb with rfl|rfl|rfl|rfl|rfl|⟨f,rfl⟩ <;>
  first
  |exact vN (c:=8) G7 rfl rfl
  |exact nok (VT.lit (k:=2) l7) rfl rfl
  |exact nok (VT.lit (k:=3) l7) rfl rfl
  |exact nok (VT.lit (k:=4) l7) rfl rfl
theorem b1K(hk:k=11\/k=12\/k=17\/k=18\/k=19\/k=20\/k=21\/k=22)(ha:VT a):xG (k,N) [a,b] sg:=by
 have hm:mJ k=some false/\fZ k=some false:=by rcases hk with rfl|rfl|rfl|rfl|rfl|rfl|rfl|rfl<;>exact⟨rfl,rfl⟩
 refine WX hm.1 hm.2 ?_;have hr:RR (k,0) [a,b] sg=o5 (Aw k a b) λx=>l9 (F8 x.2) (some ((0,0),8)) (some (x.1,0)):=by rcases hk with rfl|rfl|rfl|rfl|rfl|rfl|rfl|rfl<;>rfl
 have he:dK (k,0) [a,b] sg=o5 (qW k [a,b]) λx=>l9 (F8 x.2) (some ((0,0),8)) (some (x.1,0)):=by rcases hk with rfl|rfl|rfl|rfl|rfl|rfl|rfl|rfl<;>rfl
 rw[hr,he];unfold Aw qW;simp only[show F9 [a,b] 0=some a from rfl,show F9 [a,b] 1=some b from rfl,o8,Az,wF,kJ,pV];cases h1:x8 a.1 b.1
 .rcases hk with rfl|rfl|rfl|rfl|rfl|rfl|rfl|rfl<;>exact vN (c:=8) G7 rfl rfl
 cases h2:x8 a.2 b.2
 .rcases hk with rfl|rfl|rfl|rfl|rfl|rfl|rfl|rfl<;>exact vN (c:=8) G7 rfl rfl
 have ha' :=ha;rcases hk with rfl|rfl|rfl|rfl|rfl|rfl|rfl|rfl<;>rcases ha with rfl|rfl|rfl|rfl|rfl|⟨e,rfl⟩ <;>
  first
  |exact nok ha' rfl rfl
  |exact nok (VT.lit (k:=1) l7) rfl rfl
  |exact vN (c:=8) G7 rfl rfl
theorem b8r{a b c:Int×Int}(ha:VT a)(hb:VT b):xG (26,N) [a,b,c] sg:=by
 refine WX rfl rfl ?_;have hr:RR (26,0) [a,b,c] sg=l9 (x8 a.1 1) (l9 (F8 (iV (x8 b.1 c.1) (x8 b.2 c.2))) (some ((0,0),8)) (some (b,0))) (some ((0,0),8)):=rfl;have he:dK (26,0) [a,b,c] sg=o5 (qW 26 [a,b,c]) λx=>l9 (F8 x.2) (some ((0,0),8)) (some (x.1,0)):=rfl;have he2:qW 26 [a,b,c]=o5 (l9 (x8 a.1 1) (some (Sum.inr (b,iV (x8 b.1 c.1) (x8 b.2 c.2)))) (some (Sum.inr (b,false)))) λ(o:F6⊕F6×Bool)=>aj o (λ(x:F6)=>some ((0,0),false)) λ(r:F6×Bool)=>some r:=rfl;rw[hr,he,he2];cases x8 a.1 1
 .exact vN (c:=8) G7 rfl rfl
 cases x8 b.1 c.1
 .exact vN (c:=8) G7 rfl rfl
 cases x8 b.2 c.2
 .exact vN (c:=8) G7 rfl rfl
 .exact nok hb rfl rfl
theorem a5N(ha:VT a):xG (33,N) [a] sg:=by
 refine Ql rfl rfl ?_;have he:dK (33,N) [a] sg=xf (33,N) a sg:=Lp _ _;have hr:RR (33,N) [a] sg=o5 (l9 (L8 0 N) (some (E8 N (o9 sg.2.1))) (some false)) λx=>l9 (F8 x) (some ((0,0),6)) (o5 (xX (33,N) a sg) λx=>l9 (F8 x.2) (some ((0,0),8)) (some (x.1,0))):=rfl;have hs:xX (33,N) a sg=o5 (F9 sg.2.1 N) λ(x:gz)=>o5 (eF x.2.1 sg.1) λ(x_1:Bool)=>l9 x_1 (o5 (eF x.2.2.1 sg.1) λ(x_2:Bool)=>l9 x_2 (some (x.2.2.1,iV (x8 a.1 x.2.1.1) (x8 a.2 x.2.1.2))) (some (x.2.2.1,false))) (some (x.2.2.1,false)):=rfl;rw[he,hr,hs];unfold xf;simp only[x8,Int.reduceEq,decide_false,o6,o8,U1,rX N 0,Gv (o9 sg.2.1) N];cases h0:L8 0 N
 .exact vN (c:=6) G7 rfl rfl
 cases h1:E8 N (o9 sg.2.1)
 .exact vN (c:=6) G7 rfl rfl
 rw[iQ]at h0;rw[jF]at h1;obtain⟨x,hx,_⟩:=mO h0 h1;simp only[o8,U1,jr,o6,hx,AZ,jJ,aW,o7];cases vty x.2.1 sg.1
 .exact vN (c:=8) G7 rfl rfl
 cases hv:vty x.2.2.1 sg.1
 .exact vN (c:=8) G7 rfl rfl
 simp only[E5,o6,o7,o8];cases iV (decide (a.1=x.2.1.1)) (decide (a.2=x.2.1.2))
 .exact vN (c:=8) G7 rfl rfl
 .exact nok (QN hv) rfl rfl
theorem a1o(hN:kP N)(ha:VT a):xG (34,N) [a] sg:=by
 refine Ql rfl rfl ?_;have he:dK (34,N) [a] sg=xf (34,N) a sg:=Lp _ _;have hr:RR (34,N) [a] sg=o5 (l9 (L8 0 N) (some (L8 (fC N 8) 5)) (some false)) λx=>l9 (F8 x) (some ((0,0),3)) (l9 (F8 (E8 (dM .i64 N 8) (o9 sg.2.1))) (some ((0,0),6)) (o5 (xX (34,N) a sg) λx=>l9 (F8 x.2) (some ((0,0),8)) (some (x.1,0)))):=rfl;have hs:xX (34,N) a sg=o5 (F9 sg.2.1 (dM .i64 N 8)) λ(x:gz)=>l9 (x8 a.1 3) (l9 (iV (x8 x.2.1.1 3) (x8 x.2.1.2 0)) (some (a,iV (x8 x.2.2.1.1 4) (x8 x.2.2.1.2 0))) (some (a,false))) (some (a,false)):=rfl;rw[he,hr,hs];unfold xf ql;by_cases h0:0<=N
 case neg=>rw[Y9 (show N<0 by omega),U8 (show N<0 by omega)];exact vN (c:=3) G7 rfl rfl
 have hq:dM .i64 N 8=N / 8:=by rw[zC (by rw[kL h0];unfold kP at*;omega),kL h0]
 rw[Y3 h0,N7 h0,hq,zD h0];simp only[x8,Int.reduceEq,decide_true,o7,o6,Y3 (show 0<=N % 8 by omega),o8];cases L8 (N % 8) 5
 .exact vN (c:=3) G7 rfl rfl
 simp only[E5,o6,o8,U1,N7 (show 0<=N / 8 by omega),Gv];cases h1:E8 (N / 8) (o9 sg.2.1)
 .exact vN (c:=6) G7 rfl rfl
 rw[jF]at h1;obtain⟨x,hx,_⟩:=mO (show 0<=N / 8 by omega) h1;simp only[hx,jr,o6,o8,U1,AZ,E5];obtain⟨nm,⟨k1,k2⟩,⟨v1,v2⟩,rows⟩:=x;dsimp only;by_cases hK:k1=3/\k2=0
 .obtain⟨rfl,rfl⟩:=hK;by_cases hV:v1=4/\v2=0
  .obtain⟨rfl,rfl⟩:=hV;rcases ha with rfl|rfl|rfl|rfl|rfl|⟨e,rfl⟩ <;>
    first
    |exact nok (VT.lit (k:=3) l7) rfl rfl
    |exact vN (c:=8) G7 rfl rfl
  .have hE:vty (v1,v2) sg.1=true->v1≠4:=λhv h=>by
    subst h;rcases QN hv with h|h|h|h|h|⟨e,h⟩<;>cases h;exact hV ⟨rfl,rfl⟩
   have hR:iV (decide (v1=4)) (decide (v2=0))=false:=by
    by_cases h1:v1=4
    .have:v2≠0:=λh2=>hV ⟨h1,h2⟩;simp[iV,h1,this]
    .simp[iV,h1]
   rw[hR];cases hv:vty (v1,v2) sg.1
   .rcases ha with rfl|rfl|rfl|rfl|rfl|⟨e,rfl⟩<;>exact vN (c:=8) G7 rfl rfl
   .have h4:=hE hv;rw[show decide (v1=4)=false by simp[h4]];rcases ha with rfl|rfl|rfl|rfl|rfl|⟨e,rfl⟩<;>exact vN (c:=8) G7 rfl rfl
 .have hR:iV (decide (k1=3)) (decide (k2=0))=false:=by
   by_cases h1:k1=3
   .have:k2≠0:=λh2=>hK ⟨h1,h2⟩;simp[iV,h1,this]
   .simp[iV,h1]
  rw[hR];cases hv:vty (k1,k2) sg.1
  .rcases ha with rfl|rfl|rfl|rfl|rfl|⟨e,rfl⟩<;>exact vN (c:=8) G7 rfl rfl
  cases hw:vty (v1,v2) sg.1
  .rcases ha with rfl|rfl|rfl|rfl|rfl|⟨e,rfl⟩<;>exact vN (c:=8) G7 rfl rfl
  have h3:k1≠3:=λh=>by subst h;rcases QN hv with h|h|h|h|h|⟨e,h⟩<;>cases h;exact hK ⟨rfl,rfl⟩
  simp only[show decide (k1=3)=false by simp[h3],E5,o6,o7,o8];cases iV (decide (a.1=k1)) (decide (a.2=k2))
  .cases decide (a.1=3)<;>exact vN (c:=8) G7 rfl rfl
  .cases decide (a.1=3)<;>exact vN (c:=8) G7 rfl rfl
theorem a3A(n:Int×Int)(hN:kP n.2)(ops:List (Int×Int))(hv:∀t∈ops,VT t)(hl:o9 ops=arF n.1):xG n ops sg:=by
 obtain⟨op,N⟩:=n;dsimp only at hN hl;have hr:1<=op/\op<=39:=by
  by_cases h:1<=op/\op<=39
  .exact h
  .have:arF op=-1:=by unfold arF;rw[b0r h];rfl
   rw[this]at hl;simp[o9]at hl
 have hc:op=1\/op=2\/op=3\/op=4\/op=5\/op=6\/op=7\/op=8\/op=9\/op=10\/op=11\/op=12\/op=13\/op=14\/op=15\/op=16\/op=17\/op=18\/op=19\/op=20\/op=21\/op=22\/op=23\/op=24\/op=25\/op=26\/op=27\/op=28\/op=29\/op=30\/op=31\/op=32\/op=33\/op=34\/op=35\/op=36\/op=37\/op=38\/op=39:=l7;have L0:arF op=0->ops=[]:=λh=>by rw[h]at hl;simp only[o9]at hl;exact U2.1 l7
 have L1:arF op=1->∃a,ops=[a]/\VT a:=λh=>by
  rw[h]at hl;simp only[o9]at hl;match ops,hl,hv with
  |[a],_,hv=>exact⟨a,rfl,hv a x9⟩|[],hl,_=>simp at hl|a::b::r,hl,_=>simp at hl;omega
 have L2:arF op=2->∃a b,ops=[a,b]/\VT a/\VT b:=λh=>by
  rw[h]at hl;simp only[o9]at hl;match ops,hl,hv with
  |[a,b],_,hv=>exact⟨a,b,rfl,hv a x9,hv b x9⟩|[],hl,_=>simp at hl|[a],hl,_=>simp at hl|a::b::c::r,hl,_=>simp at hl;omega
 have L3:arF op=3->∃a b c,ops=[a,b,c]/\VT a/\VT b:=λh=>by
  rw[h]at hl;simp only[o9]at hl;match ops,hl,hv with
  |[a,b,c],_,hv=>exact⟨a,b,c,rfl,hv a x9,hv b x9⟩|[],hl,_=>simp at hl|[a],hl,_=>simp at hl|[a,b],hl,_=>simp at hl|a::b::c::d::r,hl,_=>simp at hl;omega
 rcases hc with rfl|rfl|rfl|rfl|rfl|rfl|rfl|rfl|rfl|rfl|rfl|rfl|rfl|rfl|rfl|rfl|rfl|rfl|rfl|rfl|rfl|rfl|rfl|rfl|rfl|rfl|rfl|rfl|rfl|rfl|rfl|rfl|rfl|rfl|rfl|rfl|rfl|rfl|rfl <;>
  first
  |(rw[L0 rfl];first|exact b4u N sg l7|exact b1I N sg hN|exact b8s N sg|exact b4s N sg|exact b1H N sg|exact a7X N sg|exact b4v N sg l7)
  |(obtain⟨a,rfl,ha⟩:=L1 rfl;first|exact b8t N sg l7 ha|exact a5N N sg ha|exact a1o N sg hN ha)
  |(obtain⟨a,b,rfl,ha,hb⟩:=L2 rfl;first|exact b4r N sg l7 ha hb|exact b1J N sg l7 ha hb|exact b1K N sg l7 ha)
  |(obtain⟨a,b,c,rfl,ha,hb⟩:=L3 rfl;exact b8r N sg ha hb)
end
end
section
def XT.wf:XT->Prop
 | .l0 n=>arF n.1=0| .l1 n a=>arF n.1=1/\a.wf| .l2 n a b=>arF n.1=2/\a.wf/\b.wf| .l3 n a b c=>arF n.1=3/\a.wf/\b.wf/\c.wf
theorem b8B{n:Int×Int}{ts ts' :List XT}(h:push n ts= .inr ts')(hw:∀t∈ts,t.wf):∀t∈ts',t.wf:=by
 unfold push at h;split at h
 .cases h;intro t ht;rcases D6.1 ht with rfl|ht
  .assumption
  .exact hw t ht
 split at h
 .split at h
  .cases h;intro t ht;rcases D6.1 ht with rfl|ht
   .exact⟨by assumption,hw _ x9⟩
   .exact hw t (by simp[ht])
  .cases h
 split at h
 .split at h
  .cases h;intro t ht;rcases D6.1 ht with rfl|ht
   .exact⟨by assumption,hw _ x9,hw _ x9⟩
   .exact hw t (by simp[ht])
  .cases h
 split at h
 .split at h
  .cases h;intro t ht;rcases D6.1 ht with rfl|ht
   .exact⟨by assumption,hw _ x9,hw _ x9,hw _ x9⟩
   .exact hw t (by simp[ht])
  .cases h
 .cases h
theorem a5W:∀(es:List (Int×Int)) (i:Nat) (ts ts' :List XT),yR i es ts= .inr ts' ->(∀t∈ts,t.wf)->∀t∈ts',t.wf
 |[],i,ts,ts',h,hw=>by cases h;exact hw|n::es,i,ts,ts',h,hw=>by
  unfold yR at h;cases hp:push n ts with
  |inl c=>rw[hp]at h;cases h|inr t2=>
   rw[hp]at h;simp only at h;split at h
   .cases h
   .exact a5W es (i+1) t2 ts' h (b8B hp hw)
variable {e:List (Int×Int)}
theorem RZ{t:XT}(h:mF e= .inr t):t.wf:=by
 unfold mF at h;split at h
 .cases h
 split at h
 .cases h
 split at h
 .cases h
 .rename_i t' hp;cases h;exact a5W e 0 [] [t] hp x9 t x9
 .cases h
def IL(n:Int×Int)(ops:List (Int×Int))(sg:N8):(Int×Int)×Int:=(xW n ops sg).getD ((0,0),0)
def EC(sg:N8)(n:Int×Int)(ops:List (Int×Int))(i:Nat):(Int×Int)⊕(Int×Int):=if(IL n ops sg).2=0 then .inr (IL n ops sg).1 else .inl ((i:Int),(IL n ops sg).2)
def jo(sg:N8):XT->Nat->(Int×Int)⊕(Int×Int)
 | .l0 n,o=>EC sg n [] o
 | .l1 n a,o=>match jo sg a o with
  | .inl x=> .inl x| .inr ta=>EC sg n [ta] (o+a.size)
 | .l2 n a b,o=>match jo sg a o with
  | .inl x=> .inl x
  | .inr ta=>match jo sg b (o+a.size)with
   | .inl x=> .inl x| .inr tb=>EC sg n [ta,tb] (o+a.size+b.size)
 | .l3 n a b c,o=>match jo sg a o with
  | .inl x=> .inl x
  | .inr ta=>match jo sg b (o+a.size)with
   | .inl x=> .inl x
   | .inr tb=>match jo sg c (o+a.size+b.size)with
    | .inl x=> .inl x| .inr tc=>EC sg n [ta,tb,tc] (o+a.size+b.size+c.size)
variable {i:Nat}
theorem Vg{sg:N8}{n:Int×Int}{ops:List (Int×Int)}{t:Int×Int}(hN:kP n.2)(hv:∀t∈ops,VT t)(hl:o9 ops=arF n.1)(h:EC sg n ops i= .inr t):VT t:=by
 obtain⟨r,h1,h2,h3⟩:=a3A sg n hN ops hv hl;unfold EC at h;split at h
 .rename_i h0;cases h;have e:IL n ops sg=r:=by unfold IL;rw[h1];rfl
  rw[e]at h0 ⊢;exact h3 h0
 .cases h
section
variable (e:List (Int×Int)) (sg:N8) (z:Int×Int)
def b9x(f:(Int×Int)×List (Int×Int)×Int->Option (Out ((Int×Int)×List (Int×Int)×Int) ((Int×Int)×List (Int×Int)) ((Int×Int)×Int×Int))):Prop:=
 ∀(i:Nat) (n:Int×Int) (s ops:List (Int×Int)),e[i]? =some n->i<=100->o9 ops=arF n.1->(∀t∈ops,VT t)->s.length+ops.length<=100->
  f (z,s++ops,(i:Int))=some (match EC sg n ops i with| .inl x=> .rt ((0,0),x)| .inr t=> .nx (z,s++[t],((i+1:Nat):Int)))
theorem b2J{f:(Int×Int)×List (Int×Int)×Int->Option (Out ((Int×Int)×List (Int×Int)×Int) ((Int×Int)×List (Int×Int)) ((Int×Int)×Int×Int))}
  (he:e.length<=48) (hI:∀n∈e,kP n.2) (hs:b9x e sg z f):∀(t:XT),t.wf->∀(pre suf s:List (Int×Int)) (k:Nat),e=pre++t.post++suf->s.length<=pre.length->
  rH f (k+t.size) (z,s,(pre.length:Int))=(match jo sg t pre.length with| .inl x=>some (.inr ((0,0),x))| .inr r=>rH f k (z,s++[r],((pre.length+t.size:Nat):Int)))/\∀r,jo sg t pre.length= .inr r->VT r:=by
 intro t;have step:∀(i k:Nat) (n:Int×Int) (s ops:List (Int×Int)),e[i]? =some n->o9 ops=arF n.1->(∀t∈ops,VT t)->s.length+ops.length<=100->
   rH f (k+1) (z,s++ops,(i:Int))=(match EC sg n ops i with| .inl x=>some (.inr ((0,0),x))| .inr r=>rH f k (z,s++[r],((i+1:Nat):Int))):=by
  intro i k n s ops h1 h2 h3 h4;rw[rH,hs i n s ops h1 (by have:=(X6.1 h1).1;omega) h2 h3 h4];cases EC sg n ops i<;>rfl
 have getn:∀(pre suf:List (Int×Int)) (n:Int×Int),e=pre++[n]++suf->e[pre.length]? =some n:=by intro pre suf n h;rw[h,G5,J4 l7,dX];rfl
 have mem:∀(i:Nat) (n:Int×Int),e[i]? =some n->kP n.2:=λi n h=>hI n (kw h);induction t with
 |l0 n=>
  intro hw pre suf s k hd hl;have hn:=getn pre suf n hd;have hlen:pre.length<e.length:=(X6.1 hn).1;have hz:o9 ([]:List (Int×Int))=arF n.1:=by rw[show arF n.1=0 from hw];rfl
  have h:=step pre.length k n s [] hn hz x9 Z5;rw[H6]at h;exact⟨h,λr hr=>Vg (mem _ n hn) x9 hz hr⟩
 |l1 n a iha=>
  intro hw pre suf s k hd hl;simp only[XT.post,G5]at hd;have hpa:(pre++a.post).length=pre.length+a.size:=by simp[XT.post_len]
  have hn:=getn (pre++a.post) suf n (by simpa using hd);rw[hpa]at hn;have hlen:=(X6.1 hn).1;obtain⟨i1,i2⟩:=iha hw.2 pre ([n]++suf) s (k+1) (by simpa using hd) hl;simp only[XT.size,jo];rw[show k+(a.size+1)=(k+1)+a.size by omega,i1];cases ht:jo sg a pre.length with
  |inl x=>exact⟨rfl,λr hr=>by cases hr⟩|inr ta=>
   have hz:o9 [ta]=arF n.1:=by rw[show arF n.1=1 from hw.1];rfl
   have hv:∀t∈[ta],VT t:=by simpa using i2 ta ht
   exact⟨step _ k n s [ta] hn hz hv Z5,λr hr=>Vg (mem _ n hn) hv hz hr⟩
 |l2 n a b iha ihb=>
  intro hw pre suf s k hd hl;simp only[XT.post,G5]at hd;have hpa:(pre++a.post).length=pre.length+a.size:=by simp[XT.post_len]
  have hpb:(pre++a.post++b.post).length=pre.length+a.size+b.size:=by simp[XT.post_len];omega
  have hn:=getn (pre++a.post++b.post) suf n (by simpa using hd);rw[hpb]at hn;have hlen:=(X6.1 hn).1;obtain⟨i1,i2⟩:=iha hw.2.1 pre (b.post++[n]++suf) s (k+1+b.size) (by simpa using hd) hl;simp only[XT.size,jo];rw[show k+(a.size+b.size+1)=(k+1+b.size)+a.size by omega,i1];cases ht:jo sg a pre.length with
  |inl x=>exact⟨rfl,λr hr=>by cases hr⟩|inr ta=>
   have hsa:=a.size_pos;obtain⟨j1,j2⟩:=ihb hw.2.2 (pre++a.post) ([n]++suf) (s++[ta]) (k+1) (by simpa using hd) (by simp[XT.post_len];omega);rw[hpa]at j1 j2;simp only;rw[j1];cases hu:jo sg b (pre.length+a.size)with
   |inl x=>exact⟨rfl,λr hr=>by cases hr⟩|inr tb=>
    have hz:o9 [ta,tb]=arF n.1:=by rw[show arF n.1=2 from hw.1];rfl
    have hv:∀t∈[ta,tb],VT t:=by simpa using ⟨i2 ta ht,j2 tb hu⟩
    have:=step _ k n s [ta,tb] hn hz hv Z5;simp only[G5,aG,G6];rw[show pre.length+(a.size+b.size+1)=pre.length+a.size+b.size+1 by omega];exact⟨this,λr hr=>Vg (mem _ n hn) hv hz hr⟩
 |l3 n a b c iha ihb ihc=>
  intro hw pre suf s k hd hl;simp only[XT.post,G5]at hd;have hpa:(pre++a.post).length=pre.length+a.size:=by simp[XT.post_len]
  have hpb:(pre++a.post++b.post).length=pre.length+a.size+b.size:=by simp[XT.post_len];omega
  have hpc:(pre++a.post++b.post++c.post).length=pre.length+a.size+b.size+c.size:=by simp[XT.post_len];omega
  have hn:=getn (pre++a.post++b.post++c.post) suf n (by simpa using hd);rw[hpc]at hn;have hlen:=(X6.1 hn).1;obtain⟨i1,i2⟩:=iha hw.2.1 pre (b.post++(c.post++([n]++suf))) s (k+1+c.size+b.size) (by simpa using hd) hl;simp only[XT.size,jo];rw[show k+(a.size+b.size+c.size+1)=(k+1+c.size+b.size)+a.size by omega,i1];have hsa:=a.size_pos;have hsb:=b.size_pos;cases ht:jo sg a pre.length with
  |inl x=>exact⟨rfl,λr hr=>by cases hr⟩|inr ta=>
   obtain⟨j1,j2⟩:=ihb hw.2.2.1 (pre++a.post) (c.post++([n]++suf)) (s++[ta]) (k+1+c.size) (by simpa using hd) (by simp[XT.post_len];omega);rw[hpa]at j1 j2;simp only;rw[j1];cases hu:jo sg b (pre.length+a.size)with
   |inl x=>exact⟨rfl,λr hr=>by cases hr⟩|inr tb=>
    obtain⟨q1,q2⟩:=ihc hw.2.2.2 (pre++a.post++b.post) ([n]++suf) (s++[ta]++[tb]) (k+1) (by simpa using hd) (by simp[XT.post_len];omega);rw[hpb]at q1 q2;simp only;rw[q1];cases hc:jo sg c (pre.length+a.size+b.size)with
    |inl x=>exact⟨rfl,λr hr=>by cases hr⟩|inr tc=>
     have hz:o9 [ta,tb,tc]=arF n.1:=by rw[show arF n.1=3 from hw.1];rfl
     have hv:∀t∈[ta,tb,tc],VT t:=by simpa using ⟨i2 ta ht,j2 tb hu,q2 tc hc⟩
     have:=step _ k n s [ta,tb,tc] hn hz hv Z5;simp only[G5,aG,G6];rw[show pre.length+(a.size+b.size+c.size+1)=pre.length+a.size+b.size+c.size+1 by omega];exact⟨this,λr hr=>Vg (mem _ n hn) hv hz hr⟩
end
def kY(e:List (Int×Int))(sg:N8):(Int×Int)×Int×Int:=match mF e with
 | .inl x=>((0,0),x)
 | .inr t=>match jo sg t 0 with
  | .inl x=>((0,0),x)| .inr r=>(r,0,0)
variable {α:Type}
theorem a0S(s ops:List α)(k:Int)(hk:o9 ops=k)(h:s.length+ops.length<=100):
  L6 .i64 (o9 (s++ops)) k=(s.length:Int)/\ui (s.length:Int) (o9 (s++ops)) (o9 (s++ops))=true/\qo (s++ops) (V9 (s.length:Int)) (V9 (o9 (s++ops)))=ops
  /\ui 0 (s.length:Int) (o9 (s++ops))=true/\qo (s++ops) (V9 0) (V9 (s.length:Int))=s:=by
 subst hk;refine⟨?_,?_,?_,?_,?_⟩
 .rw[X4 (by unfold kP;simp[o9];omega)];simp[o9]
 .simp[ui,o9];omega
 .show((s++ops).take (((s++ops).length:Nat):Int).toNat).drop s.length=ops;rw[D8,aQ,List.drop_left]
 .simp[ui,o9];omega
 .simp[qo,V9]
theorem a0Q{sg:N8}{f:(Int×Int)×List (Int×Int)×Int->Option (Out ((Int×Int)×List (Int×Int)×Int) ((Int×Int)×List (Int×Int)) ((Int×Int)×Int×Int))}
  (hI:∀n∈e,kP n.2) (hs:b9x e sg (0,0) f) (hend:∀s,f ((0,0),s,(e.length:Int))=some (.ex ((0,0),s))) (hcode:∀x,mF e= .inl x->x.2≠0):
  l9 (F8 (x8 (zg e).2.2 0)) (some ((((0:Int),(0:Int)),(zg e).2):(Int×Int)×Int×Int)) (o5 (ah f (((0:Int),(0:Int)),([]:List (Int×Int)),(0:Int))) λ(o:(Int×Int)×List (Int×Int)⊕(Int×Int)×Int×Int)=>
   aj o (λ(y:(Int×Int)×List (Int×Int))=>o5 (F9 y.2 0) λ(x:Int×Int)=>o5 (V6 y.2 (V9 0)) λ(x:Int×Int)=>some (x,0,0)) λ(r:(Int×Int)×Int×Int)=>some r)=some (kY e sg):=by
 unfold zg kY;cases h:mF e with
 |inl x=>simp only[O9 (hcode x h),aW,o7]|inr t=>
  obtain⟨hp,h48⟩:=DW h;have hw:=RZ h;obtain⟨l1,_⟩:=b2J e sg (0,0) h48 hI hs t hw [] [] [] (jb -t.size) (by simpa using hp) x9;have hsz:e.length=t.size:=by rw[hp,XT.post_len]
  have hlo:ah f (((0:Int),(0:Int)),([]:List (Int×Int)),(0:Int))=rH f (jb -t.size+t.size) ((0,0),[],(([]:List (Int×Int)).length:Int)):=by unfold ah;rw[Nat.sub_add_cancel (by unfold jb;omega)];rfl
  simp only[N9 (rfl:(0:Int)=0),E5,o6];rw[hlo,l1];simp only[dG,iH];cases jo sg t 0 with
  |inl x=>rfl|inr r=>obtain⟨k,hk⟩:∃k,jb -t.size=k+1:=⟨jb -t.size -1,by unfold jb;omega⟩;simp only[G6];rw[hk,rH,←hsz,hend];rfl
theorem DV{x:Int×Int}(h:mF e= .inl x):x.2≠0:=by
 have key:∀(es:List (Int×Int)) (i:Nat) (ts:List XT) (x:Int×Int),yR i es ts= .inl x->x.2≠0:=by
  intro es;induction es with
  |nil=>intro i ts x h;cases h|cons n es ih=>
   intro i ts x h;unfold yR at h;cases hp:push n ts with
   |inl c=>
    rw[hp]at h;cases h;show c≠0;unfold push at hp
    (repeat' split at hp)<;>first|(cases hp;done)|(cases hp;decide)
   |inr t2=>
    rw[hp]at h;simp only at h;split at h
    .cases h;show(16:Int)≠0;decide
    .exact ih _ _ _ h
 unfold mF at h;split at h
 .cases h;show(4:Int)≠0;decide
 split at h
 .cases h;show(5:Int)≠0;decide
 split at h
 .rename_i y hp;cases h;exact key _ _ _ _ hp
 .cases h
 .cases h;show(4:Int)≠0;decide
theorem a8q(sg:N8)(hI:∀n∈e,kP n.2):Iy e sg=some (kY e sg):=by
 unfold Iy;rw[LW,o8];refine a0Q hI (λi n s ops hn hi2 hl hv hlen=>?_) (λs=>?_) (λx h=>DV h)
 .obtain⟨r,h1,h2,h3⟩:=a3A sg n (hI n (kw hn)) ops hv hl;obtain⟨v1,v2,v3,v4,v5⟩:=a0S s ops _ hl hlen;have e' :IL n ops sg=r:=by unfold IL;rw[h1];rfl
  have hi:=(X6.1 hn).1;simp only[J7 hn,o7,F7,hn,o8,a0j,v1,v2,v3,v4,v5,h1];unfold EC;rw[e'];by_cases h0:r.2=0
  .rw[if_pos h0,N9 h0];simp only[E5,o6];rw[fQ _ l7,o8,Y4 l7]
  .rw[if_neg h0,O9 h0];rfl
 .rw[J6];rfl
theorem b2I(sg:N8)(hI:∀n∈e,kP n.2):KO e sg=some (kY e sg):=by
 unfold KO;rw[VO,o8];refine a0Q hI (λi n s ops hn hi2 hl hv hlen=>?_) (λs=>?_) (λx h=>DV h)
 .obtain⟨r,h1,h2,h3⟩:=a3A sg n (hI n (kw hn)) ops hv hl;obtain⟨v1,v2,v3,v4,v5⟩:=a0S s ops _ hl hlen;have e' :IL n ops sg=r:=by unfold IL;rw[h1];rfl
  have hi:=(X6.1 hn).1;simp only[J7 hn,o7,F7,hn,o8,Zt,v1,v2,v3,v4,v5];unfold EC;rw[e'];unfold EN at h2;have fin:dK n ops sg=some r->(o5 (dK n ops sg) λ(x_3:F6×Int)=>l9 (F8 (x8 x_3.2 0)) (some (Out.rt ((((0:Int),(0:Int)),((i:Int),x_3.2)):(Int×Int)×Int×Int)))
    (o5 (cu s [x_3.1]) λ(x_4:List F6)=>some (Out.nx (((0:Int),(0:Int)),x_4,D5 .i64 (i:Int) 1))))=
    some (match if r.2=0 then(.inr r.1:(Int×Int)⊕(Int×Int))else .inl ((i:Int),r.2)with| .inl x=>Out.rt ((0,0),x)| .inr t=>(Out.nx ((0,0),s++[t],((i+1:Nat):Int)):Out ((Int×Int)×List (Int×Int)×Int) ((Int×Int)×List (Int×Int)) ((Int×Int)×Int×Int))):=by
   intro hr;rw[hr,o8];by_cases h0:r.2=0
   .rw[if_pos h0,N9 h0];simp only[E5,o6];rw[fQ _ l7,o8,Y4 l7]
   .rw[if_neg h0,O9 h0];rfl
  cases hz:x8 n.2 0
  .rw[hz]at h2;simp only[aW,o7]at h2 ⊢;cases hu:mJ n.1 with
   |none=>rw[hu]at h2;cases h2|some u=>
    rw[hu]at h2;simp only[o8]at h2 ⊢;cases u
    .simp only[aW,o7]at h2 ⊢;cases h2;rfl
    .exact fin h2
  .rw[hz]at h2;exact fin h2
 .rw[J6];rfl
section
variable {α β σ ε ρ:Type}
theorem ou(l:List α)(G:β->α->β)(mk:β->Int->σ)(fin:β->ε)(Inv:Nat->β->Prop){f:σ->Option (σ⊕ε)}{b:β}(hl:l.length<=1000000)(h0:Inv 0 b)
  (hin:∀(i:Nat) (a:α) (b:β),l[i]? =some a->i<=1000000->Inv i b->f (mk b (i:Int))=some (.inl (mk (G b a) ((i+1:Nat):Int)))/\Inv (i+1) (G b a))
  (hend:∀b,Inv l.length b->f (mk b (l.length:Int))=some (.inr (fin b))):
  aB f (mk b 0)=some (fin (l.foldl G b))/\Inv l.length (l.foldl G b):=by
 have key:∀(n i:Nat) (b:β),i<=l.length->l.length -i<n->Inv i b->lU f n (mk b (i:Int))=some (fin ((l.drop i).foldl G b))/\Inv l.length ((l.drop i).foldl G b):=by
  intro n;induction n with
  |zero=>intro i b _ h _;omega|succ n ih=>
   intro i b hi hn hI;unfold lU;by_cases h:i<l.length
   .have e:=bn h;obtain⟨h1,h2⟩:=hin i _ b e l7 hI;rw[h1,gp h];exact ih (i+1) _ l7 l7 h2
   .have:i=l.length:=l7;subst this;rw[hend b hI,FH];exact⟨rfl,hI⟩
 have:=key jb 0 b l7 (by unfold jb;omega) h0;exact this
theorem dI{γ:Type}(l:List α)(G:β->α->β)(mk:β->Int->σ)(fin:β->ε)(Inv:Nat->β->Prop)(b:β){f:σ->Option (σ⊕ε)}{K:ε->Option γ}{r:Option γ}(hl:l.length<=1000000)(h0:Inv 0 b)
  (hin:∀(i:Nat) (a:α) (b:β),l[i]? =some a->i<=1000000->Inv i b->f (mk b (i:Int))=some (.inl (mk (G b a) ((i+1:Nat):Int)))/\Inv (i+1) (G b a))
  (hend:∀b,Inv l.length b->f (mk b (l.length:Int))=some (.inr (fin b))) (hk:Inv l.length (l.foldl G b)->K (fin (l.foldl G b))=r):o5 (aB f (mk b 0)) K=r:=by
 obtain⟨h1,h2⟩:=ou l G mk fin Inv hl h0 hin hend;rw[h1];exact hk h2
def bD(G:β->α->β⊕ρ):List α->β->β⊕ρ
 |[],b=> .inl b
 |a::l,b=>match G b a with| .inl b' =>bD G l b'| .inr r=> .inr r
theorem TN(l:List α)(G:β->α->β⊕ρ)(mk:β->Int->σ)(fin:β->ε)(Inv:Nat->β->Prop){f:σ->Option (Out σ ε ρ)}{b:β}(hl:l.length<=1000000)(h0:Inv 0 b)
  (hin:∀(i:Nat) (a:α) (b:β),l[i]? =some a->i<=1000000->Inv i b->f (mk b (i:Int))=some (match G b a with| .inl b' => .nx (mk b' ((i+1:Nat):Int))| .inr r=> .rt r)/\∀b',G b a= .inl b' ->Inv (i+1) b')
  (hend:∀b,Inv l.length b->f (mk b (l.length:Int))=some (.ex (fin b))):
  ah f (mk b 0)=some (match bD G l b with| .inl b' => .inl (fin b')| .inr r=> .inr r)/\∀b',bD G l b= .inl b' ->Inv l.length b' :=by
 have key:∀(n i:Nat) (b:β),i<=l.length->l.length -i<n->Inv i b->rH f n (mk b (i:Int))=some (match bD G (l.drop i) b with| .inl b' => .inl (fin b')| .inr r=> .inr r)/\∀b',bD G (l.drop i) b= .inl b' ->Inv l.length b' :=by
  intro n;induction n with
  |zero=>intro i b _ h _;omega|succ n ih=>
   intro i b hi hn hI;unfold rH;by_cases h:i<l.length
   .have e:=bn h;obtain⟨h1,h2⟩:=hin i _ b e l7 hI;rw[h1,gp h];unfold bD;cases hg:G b l[i]with
    |inr r=>exact⟨rfl,λb' hb=>by cases hb⟩|inl b' =>exact ih (i+1) _ l7 l7 (h2 b' hg)
   .have:i=l.length:=l7;subst this;rw[hend b hI,FH];exact⟨rfl,λb' hb=>by cases hb;exact hI⟩
 have:=key jb 0 b l7 (by unfold jb;omega) h0;exact this
theorem pJ{γ:Type}(l:List α)(G:β->α->β⊕ρ)(mk:β->Int->σ)(fin:β->ε)(Inv:Nat->β->Prop)(b:β){f:σ->Option (Out σ ε ρ)}{K:ε⊕ρ->Option γ}{r:Option γ}(hl:l.length<=1000000)(h0:Inv 0 b)
  (hin:∀(i:Nat) (a:α) (b:β),l[i]? =some a->i<=1000000->Inv i b->f (mk b (i:Int))=some (match G b a with| .inl b' => .nx (mk b' ((i+1:Nat):Int))| .inr r=> .rt r)/\∀b',G b a= .inl b' ->Inv (i+1) b')
  (hend:∀b,Inv l.length b->f (mk b (l.length:Int))=some (.ex (fin b)))
  (hk:(∀b',bD G l b= .inl b' ->Inv l.length b')->K (match bD G l b with| .inl b' => .inl (fin b')| .inr r=> .inr r)=r):o5 (ah f (mk b 0)) K=r:=by
 obtain⟨h1,h2⟩:=TN l G mk fin Inv hl h0 hin hend;rw[h1];exact hk h2
end
def Xx(c:UInt8):Bool:=decide (32<=c.toNat)&&decide (c.toNat<=126)&&decide (c.toNat≠34)
def a1A(s:d1C):Bool:=decide (s.length<=64)&&s.all Xx
theorem a9R(c:UInt8):∀s:d1C,decide (0<=Lib.indexByte s c)=s.any λx=>decide (x.toNat=c.toNat)
 |[]=>by simp[Lib.indexByte]|b::l=>by
  have ih:=a9R c l;have hge:=Lib.indexByte_ge l c;rw[kE,←ih];have e:Lib.indexByte (b::l) c=if b=c then 0 else if Lib.indexByte l c=-1 then -1 else Lib.indexByte l c+1:=by rw[Lib.indexByte];simp
  rw[e];by_cases h:b=c
  .subst h;simp
  .have h2:b.toNat≠c.toNat:=λhh=>h (UInt8.toNat_inj.1 hh);rw[if_neg h,show decide (b.toNat=c.toNat)=false by simp[h2],kz];by_cases h3:Lib.indexByte l c=-1
   .rw[h3];rfl
   .rw[if_neg h3];simp;omega
theorem a6O(c:UInt8):Xx c=(!E8 (c.toNat:Int) 32&&!E8 126 (c.toNat:Int)&&!x8 (c.toNat:Int) 34):=by unfold Xx E8 x8;rw[fV];simp;omega
theorem YM(s:d1C)(p:UInt8->Bool):(∀(i:Nat) (a:UInt8),s[i]? =some a->p a=true)↔s.all p=true:=by rw[lJ];exact⟨λh x hx=>by obtain⟨i,hi,rfl⟩:=X7 hx;exact h i _ (bn hi),λh i a hi=>h a (kw hi)⟩
theorem a3I{s:d1C}(h:s.length<=1000000):CS s=some (a1A s):=by
 unfold CS;refine X9 (Gf s (λi a=>Xx a) false PUnit.unit _ l7 (λi x hx=>?_) ?_) ?_
 rotate_left 2
 .have h5:L8 (o9 s) 64=decide (s.length<=64):=by simp only[L8,o9];congr 1;simp;omega
  unfold a1A;by_cases hw:s.all Xx=true
  .rw[if_pos ((YM s Xx).2 hw),hw,o8,U1,h5,Bool.and_true]
  .rw[if_neg (λh=>hw ((YM s Xx).1 h))];simp only[lI]at hw;rw[hw,Bool.and_false];rfl
 .have hi:=(X6.1 hx).1;simp only[J7 hx,o7,YZ,hx,eY,o8];rw[Y4 l7,a6O];cases E8 (x.toNat:Int) 32<;>cases E8 126 (x.toNat:Int)<;>cases x8 (x.toNat:Int) 34<;>rfl
 .rw[J6];rfl
theorem a0T{s:d1C}(h:s.length<=1000000):Cj s=some (a1A s):=by
 unfold Cj;have h5:E8 64 (o9 s)= !decide (s.length<=64):=by simp only[E8,o9];rw[←decide_not];congr 1;simp;omega
 rw[h5,show Bz s [34]=some (s.any λx=>decide (x.toNat=(34:UInt8).toNat))from congrArg some (a9R 34 s)];unfold a1A;cases decide (s.length<=64)
 .rfl
 simp only[jr,o6,o8,fK];cases h34:s.any λx=>decide (x.toNat=(34:UInt8).toNat)
 case true=>
  obtain⟨x,hx,hx2⟩:=Y6.1 h34;simp only[decide_eq_true_eq]at hx2;have:s.all Xx=false:=by rw[List.all_eq_false];refine⟨x,hx,?_⟩;unfold Xx;rw[hx2];decide
  rw[this];rfl
 simp only[o6];refine X9 (Gf s (λi a=>Xx a) false PUnit.unit _ l7 (λi x hx=>?_) ?_) ?_
 rotate_left 2
 .by_cases hw:s.all Xx=true
  .rw[if_pos ((YM s Xx).2 hw),hw];rfl
  .rw[if_neg (λh=>hw ((YM s Xx).1 h))];simp only[lI]at hw;rw[hw];rfl
 .have hi:=(X6.1 hx).1;have hne:x8 (x.toNat:Int) 34=false:=by
   have:=(eP.1 h34) x (kw hx);simp only[decide_eq_true_eq]at this;exact O9 (by have h:(34:UInt8).toNat=34:=rfl;omega)
  simp only[J7 hx,o7,YZ,hx,eY,o8];rw[Y4 l7,a6O,hne];cases E8 (x.toNat:Int) 32<;>cases E8 126 (x.toNat:Int)<;>rfl
 .rw[J6];rfl
def Fv(e:List (Int×Int))(sg:N8)(t:Int×Int):Int:=l9 (x8 (kY e sg).2.2 0) (l9 (iV (x8 (kY e sg).1.1 t.1) (x8 (kY e sg).1.2 t.2)) 0 8) (kY e sg).2.2
theorem UD(sg:N8)(t:Int×Int)(hI:∀n∈e,kP n.2):yG e sg t=some (Fv e sg t):=by
 unfold yG Fv;rw[b2I sg hI,o8];cases x8 (kY e sg).2.2 0
 .rfl
 simp only[E5,o6,o7];cases iV (x8 (kY e sg).1.1 t.1) (x8 (kY e sg).1.2 t.2)<;>rfl
theorem UI(sg:N8)(t:Int×Int)(hI:∀n∈e,kP n.2):uX e sg t=some (Fv e sg t):=by
 unfold uX Fv;rw[a8q sg hI,o8];cases x8 (kY e sg).2.2 0
 .rfl
 simp only[E5,o6,o7];cases iV (x8 (kY e sg).1.1 t.1) (x8 (kY e sg).1.2 t.2)<;>rfl
def Zi(r:Z7):Prop:=r.1.length<=1000000/\r.2.2.2.2.2.2.2.length<=1000000/\(∀n∈r.2.2.2.2.2.1,kP n.2)/\(∀n∈r.2.2.2.2.2.2.1,kP n.2)
def Ig(rs:List Z7)(d:Int):Nat:=rs.countP λo=>x8 o.2.1 d
def PW(r:Z7)(sg:N8)(t:Int×Int):Int:=
 l9 (E8 0 (o9 r.2.2.2.2.2.1)) (l9 (x8 (Fv r.2.2.2.2.2.1 sg (1,0)) 0) (Fv r.2.2.2.2.2.2.1 sg t) (Fv r.2.2.2.2.2.1 sg (1,0))) (Fv r.2.2.2.2.2.2.1 sg t)
def JV(s:A7)(sg:N8)(k:Nat)(r:Z7):Int:=
 l9 (DY r.1) (l9 ((s.2.2.2.2.take k).any λx=>seq x.1 r.1) 7 (match F9 s.2.2.2.1 r.2.1 with
  |none=>6|some d=>l9 (l9 (x8 r.2.2.1 (-1)) false (l9 (E8 r.2.2.1 0) true (l9 (L8 k r.2.2.1) true (match F9 s.2.2.2.2 r.2.2.1 with|some q=>F8 (x8 q.2.1 r.2.1)|none=>true)))) 9
   (l9 (E8 r.2.2.2.1 0) 3 (l9 (E8 9 r.2.2.2.1) 3 (l9 (Jn r.2.2.2.2.1) (l9 (x8 r.2.2.2.2.1.1 r.2.2.2.2.1.2) 3
    (l9 (L8 8 (Ig (s.2.2.2.2.take k) r.2.1)) 4 (l9 (a1A r.2.2.2.2.2.2.2) (PW r sg d.2) 2))) 3))))) 2
theorem tY{l:List α}{i:Int}(h:L8 0 i=false\/E8 i (o9 l)=false):F9 l i=none:=by
 unfold F9
 split
 .rename_i h0;rcases h with h|h
  .rw[Bl]at h;omega
  .rw[iE]at h;simp only[o9]at h;exact bQ l7
 .rfl
variable {s:A7}{r:Z7}{k:Nat}
theorem a3b(sg:N8)(hr:s.2.2.2.2[k]? =some r)(hl:s.2.2.2.2.length<=1000)(h:Zi r):Gx s (k:Int) sg=some (JV s sg k r):=by
 have hk:=(X6.1 hr).1;have hcnt:Ig (s.2.2.2.2.take k) r.2.1<=1000:=by have:=tK (l:=s.2.2.2.2.take k) (p:=λ(o:Z7)=>x8 o.2.1 r.2.1);unfold Ig;simp at this;omega
 unfold Gx;rw[F7,hr,o8,DF l7,o8];refine X9 (ou (s.2.2.2.2.take k) (λ(c:Nat) (o:Z7)=>l9 (x8 o.2.1 r.2.1) (c+1) c) (λc i=>((c:Int),i)) (λc=>(c:Int)) (λi c=>c<=i) (b:=0) Z5 l7 (λi a c ha hi hc=>?_) (λc hc=>?_)).1 ?_
 rotate_left 2
 .have hf:∀(l:List Z7) (c:Nat),l.foldl (λ(c:Nat) (o:Z7)=>l9 (x8 o.2.1 r.2.1) (c+1) c) c=c+Ig l r.2.1:=by
   intro l;induction l with
   |nil=>intro c;rfl|cons a l ih=>intro c;rw[P6,ih];unfold Ig;rw[yP];cases x8 a.2.1 r.2.1<;>simp<;>omega
  rw[hf,iH,o8,uH h.1,o8,o8,a7H _ Z5,o8];unfold JV;cases DY r.1
  .rfl
  simp only[E5,o6,o7,o8];cases (s.2.2.2.2.take k).any λx=>seq x.1 r.1
  case true=>rfl
  simp only[o6];rw[rX r.2.1 0,Gv (o9 s.2.2.2.1) r.2.1];cases h0:L8 0 r.2.1
  .rw[tY (.inl h0)];rfl
  cases h1:E8 r.2.1 (o9 s.2.2.2.1)
  .rw[tY (.inr h1)];rfl
  obtain⟨d,hd,_⟩:=mO (iQ.1 h0) (jF.1 h1);rw[hd];simp only[jr,o6,o8,a0T h.2.1];have hpar:(l9 (F8 (x8 r.2.2.1 (-1))) (l9 (E8 r.2.2.1 0) (some true) (l9 (L8 (k:Int) r.2.2.1) (some true) (o5 (F9 s.2.2.2.2 r.2.2.1) λ(x_6:Z7)=>some (F8 (x8 x_6.2.1 r.2.1))))) (some false))=
    some (l9 (x8 r.2.2.1 (-1)) false (l9 (E8 r.2.2.1 0) true (l9 (L8 k r.2.2.1) true (match F9 s.2.2.2.2 r.2.2.1 with|some q=>F8 (x8 q.2.1 r.2.1)|none=>true)))):=by
   cases x8 r.2.2.1 (-1)
   case true=>rfl
   simp only[aW,o7,o6];cases hp0:E8 r.2.2.1 0
   case true=>rfl
   cases hp1:L8 (k:Int) r.2.2.1
   case true=>rfl
   rw[iE]at hp0;rw[Bl]at hp1;obtain⟨q,hq,_⟩:=mO (l:=s.2.2.2.2) hp0 (by simp only[o9];omega);rw[hq];rfl
  rw[hpar,o8];cases (l9 (x8 r.2.2.1 (-1)) false (l9 (E8 r.2.2.1 0) true (l9 (L8 k r.2.2.1) true (match F9 s.2.2.2.2 r.2.2.1 with|some q=>F8 (x8 q.2.1 r.2.1)|none=>true))))
  case true=>rfl
  simp only[o6];cases E8 r.2.2.2.1 0
  case true=>rfl
  simp only[o6,o8];cases E8 9 r.2.2.2.1
  case true=>rfl
  simp only[o6];have hval:∀(A B:Option (Z7⊕Int)),l9 (E8 r.2.2.2.2.1.1 0) A (l9 (L8 r.2.2.2.2.1.2 r.2.2.2.2.1.1) A (l9 (E8 109573 r.2.2.2.2.1.2) A B))=l9 (Jn r.2.2.2.2.1) (l9 (x8 r.2.2.2.2.1.1 r.2.2.2.2.1.2) A B) A:=by
   intro A B;unfold Jn;by_cases v0:r.2.2.2.2.1.1<(0:Int)
   .rw[U8 v0,Y9 (show r.2.2.2.2.1.1<(0:Int)from v0)];rfl
   rw[N7 (iT.1 v0),Y3 (iT.1 v0)];by_cases v1:(r.2.2.2.2.1.2:Int)<=r.2.2.2.2.1.1
   .rw[Y3 v1];by_cases v2:(r.2.2.2.2.1.1:Int)<=r.2.2.2.2.1.2
    .rw[Y3 v2,N9 (Int.le_antisymm v2 v1)];cases L8 r.2.2.2.2.1.2 109573<;>rfl
    .rw[Y9 (lY.1 v2)];rfl
   .have v1' :=lY.1 v1;rw[Y9 v1',Y3 (Int.le_of_lt v1'),O9 (λhh=>by rw[hh]at v1';exact Int.lt_irrefl _ v1'),rX];cases L8 r.2.2.2.2.1.2 109573<;>rfl
  rw[hval];cases Jn r.2.2.2.2.1
  .rfl
  cases x8 r.2.2.2.2.1.1 r.2.2.2.2.1.2
  case true=>rfl
  simp only[o7,o6];cases L8 8 ((Ig (s.2.2.2.2.take k) r.2.1:Nat):Int)
  case true=>rfl
  cases a1A r.2.2.2.2.2.2.2
  .rfl
  simp only[E5,o6,o7,o8,U1,PW,hd,UD sg _ h.2.2.1,UD sg _ h.2.2.2];cases E8 0 (o9 r.2.2.2.2.2.1)
  .rfl
  simp only[o7];cases x8 (Fv r.2.2.2.2.2.1 sg (1,0)) 0<;>rfl
 .have hc' :c<=1000000:=l7;obtain⟨ha1,ha2⟩:=VQ ha;simp only[J7 ha,o7,F7,ha,o8];rw[Y4 (show i<=9000000000000000000 by omega),Y4 (show c<=9000000000000000000 by omega)];cases x8 a.2.1 r.2.1
  .exact⟨rfl,by show c<=i+1;omega⟩
  .exact⟨rfl,by show c+1<=i+1;omega⟩
 .simp only[J6];rfl
theorem a8k(s:A7)(d:Int):Hg s d=some (l9 (L8 0 d) (E8 d (o9 s.2.2.2.1)) false):=by unfold Hg;cases L8 0 d<;>rfl
theorem a1Z(r:Z7):∀(l:List Z7) (c:Nat),bD (λ(c:Nat) (o:Z7)=>l9 (seq o.1 r.1) (.inr (7:Int)) (.inl (l9 (x8 o.2.1 r.2.1) (c+1) c))) l c=l9 (l.any λx=>seq x.1 r.1) (.inr 7) (.inl (c+Ig l r.2.1))
 |[],c=>rfl|a::l,c=>by
  unfold bD;rw[kE];cases seq a.1 r.1
  case true=>rfl
  simp only[o6,kz];rw[a1Z r l];unfold Ig;rw[yP];cases x8 a.2.1 r.2.1
  .simp only[o6,dL,if_false,dW]
  .simp only[o7,if_true];rw[show c+1+List.countP (λo=>x8 o.2.1 r.2.1) l=c+(List.countP (λo=>x8 o.2.1 r.2.1) l+1) by omega]
variable {l:U6}
theorem a1v(hL:Uo l)(hs:l.2.2[i]? =some s)(hr:s.2.2.2.2[k]? =some r)(h:Zi r):CU l (i:Int) (k:Int)=some (JV s (BO l s) k r):=by
 have hk:=(X6.1 hr).1;have hl:=(hL s (kw hs)).2.2.2;have hcnt:Ig (s.2.2.2.2.take k) r.2.1<=1000:=by have:=tK (l:=s.2.2.2.2.take k) (p:=λ(o:Z7)=>x8 o.2.1 r.2.1);unfold Ig;simp at this;omega
 unfold CU JV;rw[F7,hs,o8,F7,hr,o8,pM h.1,o8];cases DY r.1
 .rfl
 simp only[E5,o6,o7];refine X9 (TN (s.2.2.2.2.take k) (λ(c:Nat) (o:Z7)=>l9 (seq o.1 r.1) (.inr (7:Int)) (.inl (l9 (x8 o.2.1 r.2.1) (c+1) c))) (λc i=>((c:Int),i)) (λc=>(c:Int)) (λi c=>c<=i) (b:=0) Z5 l7 (λj a c ha hi hc=>?_) (λc hc=>?_)).1 ?_
 rotate_left 2
 .rw[a1Z];cases (s.2.2.2.2.take k).any λx=>seq x.1 r.1
  case true=>rfl
  simp only[o6,iH,o8,U1];rw[rX r.2.1 0,Gv (o9 s.2.2.2.1) r.2.1];cases h0:L8 0 r.2.1
  .rw[tY (.inl h0)];rfl
  cases h1:E8 r.2.1 (o9 s.2.2.2.1)
  .rw[tY (.inr h1)];rfl
  obtain⟨d,hd,_⟩:=mO (iQ.1 h0) (jF.1 h1);rw[hd];simp only[jr,o6,o8,U1];have hpar:(l9 (F8 (x8 r.2.2.1 (-1))) (l9 (E8 r.2.2.1 0) (some (Sum.inr (9:Int))) (l9 (L8 (k:Int) r.2.2.1) (some (.inr 9)) (o5 (F9 s.2.2.2.2 r.2.2.1) λ(x:Z7)=>l9 (F8 (x8 x.2.1 r.2.1)) (some (.inr 9)) (some (.inl PUnit.unit))))) (some (.inl PUnit.unit)))=
    some (l9 (l9 (x8 r.2.2.1 (-1)) false (l9 (E8 r.2.2.1 0) true (l9 (L8 k r.2.2.1) true (match F9 s.2.2.2.2 r.2.2.1 with|some q=>F8 (x8 q.2.1 r.2.1)|none=>true)))) (.inr 9) (.inl PUnit.unit)):=by
   cases x8 r.2.2.1 (-1)
   case true=>rfl
   simp only[aW,o7,o6];cases hp0:E8 r.2.2.1 0
   case true=>rfl
   cases hp1:L8 (k:Int) r.2.2.1
   case true=>rfl
   rw[iE]at hp0;rw[Bl]at hp1;obtain⟨q,hq,_⟩:=mO (l:=s.2.2.2.2) hp0 (by simp only[o9];omega);rw[hq];simp only[o8,o6];cases x8 q.2.1 r.2.1<;>rfl
  rw[hpar,o8];cases (l9 (x8 r.2.2.1 (-1)) false (l9 (E8 r.2.2.1 0) true (l9 (L8 k r.2.2.1) true (match F9 s.2.2.2.2 r.2.2.1 with|some q=>F8 (x8 q.2.1 r.2.1)|none=>true))))
  case true=>rfl
  simp only[o6,U1];cases E8 r.2.2.2.1 0
  case true=>rfl
  cases E8 9 r.2.2.2.1
  case true=>rfl
  simp only[o6,Oq,o8];cases Jn r.2.2.2.2.1
  .rfl
  cases x8 r.2.2.2.2.1.1 r.2.2.2.2.1.2
  case true=>rfl
  simp only[E5,o7,o6,o8,U1];cases L8 8 ((Ig (s.2.2.2.2.take k) r.2.1:Nat):Int)
  case true=>rfl
  simp only[o6,a3I h.2.1,o8];cases a1A r.2.2.2.2.2.2.2
  .rfl
  simp only[E5,o6,o7,o8,a1x hL hs,PW,hd,UI (BO l s) _ h.2.2.1,UI (BO l s) _ h.2.2.2];cases E8 0 (o9 r.2.2.2.2.2.1)
  .rfl
  simp only[o7];cases x8 (Fv r.2.2.2.2.2.1 (BO l s) (1,0)) 0<;>rfl
 .obtain⟨ha1,ha2⟩:=VQ ha;simp only[U8 (show(j:Int)<(k:Int) by omega),o7,F7,ha2,o8];rw[Y4 (show j<=9000000000000000000 by omega),Y4 (show c<=9000000000000000000 by omega)];cases seq a.1 r.1
  .cases x8 a.2.1 r.2.1
   .exact⟨rfl,λb' hb=>by cases hb;show c<=j+1;omega⟩
   .exact⟨rfl,λb' hb=>by cases hb;show c+1<=j+1;omega⟩
  .exact⟨rfl,λb' hb=>by cases hb⟩
 .have e:(s.2.2.2.2.take k).length=k:=by simp;omega
  simp only[e,N7 (show(k:Int)<=(k:Int) by omega)];rfl
structure SmS (s:A7):Prop where
 nm:s.1.length<=1000000
 ni:s.2.2.1.length<=14
 nd:s.2.2.2.1.length<=14
 nr:s.2.2.2.2.length<=60
 fo:a4x s
 ro:∀r∈s.2.2.2.2,Zi r/\r.2.2.2.2.2.1.length<=50/\r.2.2.2.2.2.2.1.length<=50
theorem a3R:sD=mi:=rfl
def NY(n:Int)(b:d1A×Bool)(a:Int):d1A×Bool:=l9 b.2 (b.1++[a],true) (l9 (L8 n a) (l9 (E8 n a) (b.1++[n]++[a],true) (b.1++[a],true)) (b.1++[a],false))
theorem a7M(n:Int):∀(l p:d1A),l.foldl (NY n) (p,true)=(p++l,true)
 |[],p=>by simp|a::l,p=>by rw[P6,show NY n (p,true) a=(p++[a],true)from rfl,a7M n l];simp
theorem a7L(n:Int):∀(l p:d1A),(l9 (l.foldl (NY n) (p,false)).2 (l.foldl (NY n) (p,false)).1 ((l.foldl (NY n) (p,false)).1++[n]))=p++ins n l
 |[],p=>rfl|a::l,p=>by
  rw[P6];unfold ins;by_cases h1:n<=a
  .rw[if_pos h1];by_cases h2:n<a
   .rw[if_pos h2,show NY n (p,false) a=(p++[n]++[a],true) by simp[NY,Y3 h1,U8 h2],a7M];simp
   .rw[if_neg h2,show NY n (p,false) a=(p++[a],true) by simp[NY,Y3 h1,N7 (show a<=n by omega)],a7M];simp
  .rw[if_neg h1,show NY n (p,false) a=(p++[a],false) by simp[NY,Y9 (show a<n by omega)],a7L n l];simp
theorem Dn{l:d1A}(n:Int)(hl:l.length<=1000000):mi l n=some (ins n l):=by
 unfold mi;refine dI l (NY n) (λb i=>(b.1,b.2,i)) (λb=>b) (λi b=>b.1.length<=i+1/\(b.2=false->b.1.length<=i)) (([],false):d1A×Bool) hl x9 (λi a b ha hi hI=>?_) (λb hI=>?_) (λh2=>?_)
 .obtain⟨o,d⟩:=b;simp only at hI;simp only[J7 ha,o7,F7,ha,o8];rw[Y4 l7];cases d
  .simp only[aW,o7,NY,o6];have:=hI.2 rfl;cases L8 n a
   .rw[o6,fQ a (show o.length<=1000000 by omega)];exact⟨rfl,by simp<;>omega,by simp<;>omega⟩
   .rw[o7];cases E8 n a
    .rw[o6,fQ a (show o.length<=1000000 by omega)];exact⟨rfl,by simp<;>omega,x9⟩
    .rw[o7,fQ n (show o.length<=1000000 by omega),o8,uy Z5];exact⟨rfl,by simp<;>omega,x9⟩
  .simp only[E5,o6,NY,o7];rw[uy Z5];exact⟨rfl,by simp<;>omega,x9⟩
 .simp only[J6];rfl
 .have hf:=a7L n l [];generalize l.foldl (NY n) ([],false)=b at*;obtain⟨o,d⟩:=b;cases d
  .simp only[o6,G6]at hf;simp only[aW,o7];rw[fQ _ (by simp at h2;omega),hf];rfl
  .simp only[o7,G6]at hf;simp only[E5,o6,hf]
def isM(op:Int):Bool:=l9 (L8 36 op) (L8 op 39) false
theorem a7N(op:Int):isM op=l9 (x8 op 36) true (l9 (x8 op 37) true (l9 (x8 op 38) true (x8 op 39))):=by
 unfold isM;by_cases h1:36<=op
 .rw[Y3 h1,o7];by_cases h2:op<=39
  .rw[Y3 h2];have:op=36\/op=37\/op=38\/op=39:=l7;rcases this with rfl|rfl|rfl|rfl<;>rfl
  .rw[Y9 l7,O9 l7,O9 l7,O9 l7,O9 l7];rfl
 .rw[Y9 l7,O9 l7,O9 l7,O9 l7,O9 l7];rfl
def Nk(p:Int->Bool)(e:List (Int×Int)):d1A:=(e.filter λn=>p n.1).map (·.2)
def jD(e:List (Int×Int)):d1A×d1A×d1A:=(ja (Nk (λo=>x8 o 7) e),ja (Nk (λo=>x8 o 8) e),ja (Nk isM e))
def b2i(g:d1A->Int->d1A)(b:d1A×d1A×d1A)(n:Int×Int):d1A×d1A×d1A:=
 (l9 (x8 n.1 7) (g b.1 n.2) b.1,l9 (x8 n.1 8) (g b.2.1 n.2) b.2.1,l9 (isM n.1) (g b.2.2 n.2) b.2.2)
theorem Xi(g:d1A->Int->d1A):∀(e:List (Int×Int)) (b:d1A×d1A×d1A),e.foldl (b2i g) b=((Nk (λo=>x8 o 7) e).foldl g b.1,(Nk (λo=>x8 o 8) e).foldl g b.2.1,(Nk isM e).foldl g b.2.2)
 |[],b=>rfl|n::e,b=>by
  have hn:∀p:Int->Bool,Nk p (n::e)=l9 (p n.1) (n.2::Nk p e) (Nk p e):=λp=>by unfold Nk;rw[bK];cases p n.1<;>rfl
  rw[P6,Xi g e,hn,hn,hn];unfold b2i;simp only;cases x8 n.1 7<;>cases x8 n.1 8<;>cases isM n.1<;>rfl
theorem a2a:∀(l b:d1A),l.foldl (λacc n=>acc++[n]) b=b++l
 |[],b=>by simp|a::l,b=>by rw[P6,a2a l];simp
theorem LQ{a k:Int}(h:a=k)(m:Int)(hm:k≠m):x8 a m=false:=O9 l7
theorem KJ{l:d1A}(hl:l.length<=1000000):yE l=some (ja l):=by unfold yE;have:=b0F (l:=l) hl;rw[show(λx=>o5 (oH x) λ(x:d1A)=>some x)=λx=>oH x from funext λx=>ig _];exact this
theorem GL(h:e.length<=1000000):qV e=some (jD e):=by
 unfold qV;refine dI e (b2i (λacc n=>acc++[n])) (λb i=>(b.1,b.2.1,b.2.2,i)) (λb=>b) (λi b=>b.1.length<=i/\b.2.1.length<=i/\b.2.2.length<=i) (([],[],[]):d1A×d1A×d1A) h x9 (λi a b ha hi hI=>?_) (λb hI=>?_) (λh2=>?_)
 .obtain⟨b1,b2,b3⟩:=b;simp only at hI;simp only[J7 ha,o7,F7,ha,o8,fQ a.2 (show b1.length<=1000000 by omega),fQ a.2 (show b2.length<=1000000 by omega),fQ a.2 (show b3.length<=1000000 by omega),b2i,a7N];rw[Y4 l7];by_cases h7:a.1=7
  .rw[N9 h7,LQ h7 8 G7,LQ h7 36 G7,LQ h7 37 G7,LQ h7 38 G7,LQ h7 39 G7];exact⟨rfl,by simp<;>omega,by simp<;>omega,by simp<;>omega⟩
  rw[O9 h7];by_cases h8:a.1=8
  .rw[N9 h8,LQ h8 36 G7,LQ h8 37 G7,LQ h8 38 G7,LQ h8 39 G7];exact⟨rfl,by simp<;>omega,by simp<;>omega,by simp<;>omega⟩
  rw[O9 h8];cases x8 a.1 36<;>cases x8 a.1 37<;>cases x8 a.1 38<;>cases x8 a.1 39<;>exact⟨rfl,by simp<;>omega,by simp<;>omega,by simp<;>omega⟩
 .simp only[J6];rfl
 .rw[Xi]at h2 ⊢;simp only[a2a,G6]at h2 ⊢;rw[KJ l7,o8,KJ l7,o8,KJ l7];rfl
theorem EG(h:e.length<=500000):pO e=some (jD e):=by
 unfold pO;refine dI e (b2i (λacc n=>ins n acc)) (λb i=>(b.1,b.2.1,b.2.2,i)) (λb=>b) (λi b=>b.1.length<=i/\b.2.1.length<=i/\b.2.2.length<=i) (([],[],[]):d1A×d1A×d1A) l7 x9 (λi a b ha hi hI=>?_) (λb hI=>?_) (λh2=>?_)
 .obtain⟨b1,b2,b3⟩:=b;simp only at hI;have l1:=tZ a.2 b1;have l2:=tZ a.2 b2;have l3:=tZ a.2 b3;rw[a3R];simp only[J7 ha,o7,F7,ha,o8,Dn a.2 (show b1.length<=1000000 by omega),Dn a.2 (show b2.length<=1000000 by omega),Dn a.2 (show b3.length<=1000000 by omega),b2i,isM];rw[Y4 l7];by_cases h7:a.1=7
  .rw[N9 h7,LQ h7 8 G7,Y9 (show a.1<36 by omega)];exact⟨rfl,by simp<;>omega,by simp<;>omega,by simp<;>omega⟩
  rw[O9 h7];cases x8 a.1 8<;>cases L8 36 a.1<;>cases L8 a.1 39<;>exact⟨rfl,by simp<;>omega,by simp<;>omega,by simp<;>omega⟩
 .simp only[J6];rfl
 .rw[Xi];rfl
theorem a5O(p:Int->Bool)(e:List (Int×Int)):(Nk p e).length<=e.length:=by unfold Nk;rw[H7];exact aJ _ _
theorem Jc(e:List (Int×Int)):(jD e).2.1.length<=e.length:=bJ (KU _) (a5O _ e)
theorem Jd(e:List (Int×Int)):(jD e).2.2.length<=e.length:=bJ (KU _) (a5O _ e)
def inD(n d:Int):Bool:=l9 (L8 0 d) (E8 d n) false
def zM(n:Int)(r:Z7):d1A:=(jD r.2.2.2.2.2.1).2.1.filter (inD n)++(jD r.2.2.2.2.2.2.1).2.1.filter (inD n)
theorem l_(p:Int->Bool):∀(l b:d1A),l.foldl (λacc x=>l9 (p x) (acc++[x]) acc) b=b++l.filter p
 |[],b=>by simp|a::l,b=>by rw[P6,l_ p l,bK];cases p a<;>simp
variable {f:d1A×Int->Option ((d1A×Int)⊕d1A)}
theorem a1W(l b:d1A)(n:Int)(hl:l.length<=1000)(hb:b.length<=1000)
  (hin:∀(i:Nat) (a:Int) (acc:d1A),l[i]? =some a->i<=1000000->f (acc,(i:Int))=l9 (L8 0 a) (l9 (E8 a n) (o5 (cu acc [a]) λx=>some (.inl (x,D5 .i64 (i:Int) 1))) (some (.inl (acc,D5 .i64 (i:Int) 1)))) (some (.inl (acc,D5 .i64 (i:Int) 1))))
  (hend:∀acc,f (acc,(l.length:Int))=some (.inr acc)):aB f (b,0)=some (b++l.filter (inD n)):=by
 have key:=ou l (λ(acc:d1A) x=>l9 (inD n x) (acc++[x]) acc) (λb i=>(b,i)) (λb=>b) (λi acc=>acc.length<=1000+i) (f:=f) (b:=b) l7 l7 ?_ ?_
 .rw[key.1,l_]
 .intro i a acc ha hi hI;have:=(X6.1 ha).1;rw[hin i a acc ha hi,Y4 l7,fQ _ l7];unfold inD;cases L8 0 a
  .exact⟨rfl,by show acc.length<=_;omega⟩
  cases E8 a n
  .exact⟨rfl,by show acc.length<=_;omega⟩
  .exact⟨rfl,by simp;omega⟩
 .intro acc hI;rw[hend]
theorem Wy(n:Int)(h1:r.2.2.2.2.2.1.length<=50)(h2:r.2.2.2.2.2.2.1.length<=50):xJ r n=some (zM n r):=by
 have g1:=Jc r.2.2.2.2.2.1;have g2:=Jc r.2.2.2.2.2.2.1;unfold xJ zM;rw[GL l7,o8,GL l7,o8];refine X9 (a1W (jD r.2.2.2.2.2.1).2.1 [] n l7 x9 (λi a acc ha hi=>?_) (λacc=>?_)) ?_
 rotate_left 2
 .rw[o8,ig,G6];have:=aJ (inD n) (jD r.2.2.2.2.2.1).2.1;refine a1W (jD r.2.2.2.2.2.2.1).2.1 _ n l7 l7 (λi a acc ha hi=>?_) (λacc=>?_)
  .simp only[J7 ha,o7,F7,ha,o8];rw[show V6 (jD r.2.2.2.2.2.2.1).2.1 (V9 (i:Int))=some a from ha,o8]
  .simp only[J6];rfl
 .simp only[J7 ha,o7,F7,ha,o8];rw[show V6 (jD r.2.2.2.2.2.1).2.1 (V9 (i:Int))=some a from ha,o8]
 .simp only[J6];rfl
def nD(s:A7):Int:=o9 s.2.2.2.1
def dl(n:Int)(rs:List Z7)(d:Int):d1A:=rs.flatMap λr=>l9 (x8 r.2.1 d) (zM n r) []
def O6(s:A7)(d:Int):d1A:=l9 (inD (nD s) d) (ja (dl (nD s) s.2.2.2.2 d)) []
theorem Xf(h:SmS s)(hr:r∈s.2.2.2.2)(n:Int):(zM n r).length<=100:=by obtain⟨_,h1,h2⟩:=h.ro r hr;have a1:=Jc r.2.2.2.2.2.1;have a2:=Jc r.2.2.2.2.2.2.1;have b1:=aJ (inD n) (jD r.2.2.2.2.2.1).2.1;have b2:=aJ (inD n) (jD r.2.2.2.2.2.2.1).2.1;unfold zM;rw[F5];omega
theorem a9L(n:Int)(rs:List Z7)(r:Z7)(d:Int):dl n (rs++[r]) d=dl n rs d++l9 (x8 r.2.1 d) (zM n r) []:=by unfold dl;rw[List.flatMap_append];simp
theorem a9K(n:Int)(rs:List Z7)(r:Z7)(d:Int):dl n (r::rs) d=l9 (x8 r.2.1 d) (zM n r) []++dl n rs d:=rfl
theorem a7t{s:A7}(h:SmS s)(n d:Int):∀(rs:List Z7),(∀r∈rs,r∈s.2.2.2.2)->(dl n rs d).length<=100*rs.length
 |[],_=>by simp[dl]|r::rs,hm=>by
  have ih:=a7t h n d rs λr hr=>hm r (by simp[hr]);have h1:=Xf h (hm r x9) n;rw[a9K,F5,H9];cases x8 r.2.1 d
  .simp only[o6,dG];omega
  .simp only[o7];omega
variable {d:Int}{x:Int}
theorem WU{n:Int}{rs:List Z7} :x∈dl n rs d↔∃r∈rs,r.2.1=d/\x∈zM n r:=by
 unfold dl;rw[List.mem_flatMap];constructor
 .rintro⟨r,hr,hx⟩;cases hq:x8 r.2.1 d<;>rw[hq]at hx
  .simp at hx
  .exact⟨r,hr,O5.1 hq,hx⟩
 .rintro⟨r,hr,hq,hx⟩;exact⟨r,hr,by rw[N9 hq];exact hx⟩
theorem b5E{n:Int}(h:x∈zM n r):0<=x/\x<n:=by
 have key:inD n x=true:=by unfold zM at h;rcases C9.1 h with h|h<;>exact(I7.1 h).2
 unfold inD at key;cases h0:L8 0 x<;>rw[h0]at key
 .cases key
 .exact⟨iQ.1 h0,jF.1 key⟩
theorem Dv(s:A7)(d:Int):SI (O6 s d):=by
 unfold O6;cases inD (nD s) d
 .exact List.Pairwise.nil
 .exact VM _
theorem uK(h:x∈O6 s d):0<=x/\x<nD s:=by
 unfold O6 at h;cases hq:inD (nD s) d<;>rw[hq]at h
 .simp at h
 .obtain⟨r,_,_,hx⟩:=WU.1 ((jk _ _).1 h);exact b5E hx
theorem a5q(s:A7)(l b:d1A)(hl:l.length<=1000)(hb:b.length<=100000)
  (hin:∀(i:Nat) (a:Int) (acc:d1A),l[i]? =some a->i<=1000000->f (acc,(i:Int))=o5 (Hg s a) λx=>l9 x (o5 (mi acc a) λx=>some (.inl (x,D5 .i64 (i:Int) 1))) (some (.inl (acc,D5 .i64 (i:Int) 1))))
  (hend:∀acc,f (acc,(l.length:Int))=some (.inr acc)):aB f (b,0)=some (Em (l.filter (inD (nD s))) b):=by
 have key:=ou l (λ(acc:d1A) x=>l9 (inD (nD s) x) (ins x acc) acc) (λb i=>(b,i)) (λb=>b) (λi acc=>acc.length<=100000+i) (f:=f) (b:=b) l7 l7 ?_ ?_
 .have hf:∀(l b:d1A),l.foldl (λ(acc:d1A) x=>l9 (inD (nD s) x) (ins x acc) acc) b=Em (l.filter (inD (nD s))) b:=by
   intro l;induction l with
   |nil=>intro b;rfl|cons a l ih=>intro b;rw[P6,ih,bK];cases inD (nD s) a<;>rfl
  rw[key.1,hf]
 .intro i a acc ha hi hI;have hlt:=(X6.1 ha).1;have h2:=tZ a acc;rw[hin i a acc ha hi,a8k,o8,Y4 l7,Dn _ l7];change l9 (inD (nD s) a) _ _=_/\_;cases inD (nD s) a
  .exact⟨rfl,by show acc.length<=_;omega⟩
  .exact⟨rfl,by show(ins a acc).length<=_;omega⟩
 .intro acc hI;rw[hend]
theorem TZ(h:SmS s)(d:Int):AA s d=some (O6 s d):=by
 have hnr:=h.nr;unfold AA O6;rw[a8k,o8];change l9 (F8 (inD (nD s) d)) _ _=_;cases inD (nD s) d
 .rfl
 simp only[E5,o6,o7];refine dI s.2.2.2.2 (λ(acc:d1A) r=>l9 (x8 r.2.1 d) (Em (zM (nD s) r) acc) acc) (λb i=>(b,i)) (λb=>b) (λi acc=>acc.length<=100*i) [] l7 x9 (λi r acc ha hi hI=>?_) (λacc hI=>?_) (λh2=>?_)
 .have hlt:=(X6.1 ha).1;obtain⟨_,h1,h2⟩:=h.ro r (kw ha);have a1:=Jc r.2.2.2.2.2.1;have a2:=Jc r.2.2.2.2.2.2.1;have hlen:=DC (zM (nD s) r) acc;have hrl:=Xf h (kw ha) (nD s);simp only[J7 ha,o7,F7,ha,o8];rw[Y4 l7];cases x8 r.2.1 d
  .exact⟨rfl,by show acc.length<=_;omega⟩
  simp only[E5,o6,o7,EG (show r.2.2.2.2.2.1.length<=500000 by omega),EG (show r.2.2.2.2.2.2.1.length<=500000 by omega),o8];refine⟨?_,by show(Em (zM (nD s) r) acc).length<=_;omega⟩;refine X9 (a5q s (jD r.2.2.2.2.2.1).2.1 acc l7 l7 (λi a acc ha hi=>?_) (λacc=>?_)) ?_
  rotate_left 2
  .rw[o8];have hl2:=DC ((jD r.2.2.2.2.2.1).2.1.filter (inD (nD s))) acc;have hl3:=aJ (inD (nD s)) (jD r.2.2.2.2.2.1).2.1;refine X9 (a5q s (jD r.2.2.2.2.2.2.1).2.1 _ l7 l7 (λi a acc ha hi=>?_) (λacc=>?_)) ?_
   rotate_left 2
   .rw[o8];unfold zM;rw[KQ]
   .simp only[J7 ha,o7,F7,ha,o8];rw[show V6 (jD r.2.2.2.2.2.2.1).2.1 (V9 (i:Int))=some a from ha];rfl
   .simp only[J6];rfl
  .simp only[J7 ha,o7,F7,ha,o8];rw[show V6 (jD r.2.2.2.2.2.1).2.1 (V9 (i:Int))=some a from ha];rfl
  .simp only[J6];rfl
 .simp only[J6];rfl
 .have hf:∀(l:List Z7) (b:d1A),l.foldl (λ(acc:d1A) r=>l9 (x8 r.2.1 d) (Em (zM (nD s) r) acc) acc) b=Em (dl (nD s) l d) b:=by
   intro l;induction l with
   |nil=>intro b;rfl|cons a l ih=>intro b;rw[P6,ih,a9K,KQ];cases x8 a.2.1 d<;>rfl
  rw[hf];rfl
theorem YS(m k:Nat)(f:Nat->α)(v:α):((List.range m).map f).set k v=(List.range m).map λd=>if d=k then v else f d:=by
 apply bu;intro i;rw[Z9,I8,I8,H7,bz];by_cases hi:i<m
 .rw[di hi];by_cases h:k=i
  .subst h;simp[hi]
  .simp[h,Ne.symm h]
 .have:(List.range m)[i]? =none:=by simp;omega
  rw[this];by_cases h:k=i
  .subst h;simp[hi]
  .simp[h]
def Zv(m:Nat)(rs:List Z7):List d1A:=(List.range m).map λ(d:Nat)=>dl (m:Int) rs (d:Int)
theorem VN{l:d1A}(hl:l.length<=1000000):Ef l=some (ja l):=KJ hl
theorem Ip(m:Nat)(f:Nat->α)(h:k<m):((List.range m).map f)[k]? =some (f k):=by rw[I8,di h];rfl
theorem Nz(h:SmS s):wY s=some ((List.range s.2.2.2.1.length).map λ(d:Nat)=>O6 s (d:Int)):=by
 have hnr:=h.nr;have hnd:=h.nd;unfold wY;generalize hm:s.2.2.2.1.length=m at*;have hn:nD s=(m:Int):=by unfold nD o9;rw[hm]
 rw[show o9 s.2.2.2.1=(m:Int)from hn,show pX (m:Int) ([]:d1A)=some (Zv m []) by unfold pX Zv dl;rw[if_pos l7];simp[List.map_const'],o8];refine dI s.2.2.2.2 (λ(b:List d1A) r=>l9 (inD m r.2.1) (b.set r.2.1.toNat ((b.getD r.2.1.toNat [])++zM m r)) b) (λb i=>(b,i)) (λb=>b) (λi b=>b=Zv m (s.2.2.2.2.take i)) (Zv m []) l7 x9 (λi r b ha hi hI=>?_) (λb hI=>?_) (λh2=>?_)
 .have hlt:=(X6.1 ha).1;obtain⟨_,h1,h2⟩:=h.ro r (kw ha);have hst:s.2.2.2.2.take (i+1)=s.2.2.2.2.take i++[r]:=by
   rw[U3 hlt,(X6.1 ha).2]
  have hlb:o9 b=(m:Int):=by rw[hI];simp[o9,Zv]
  obtain⟨rd,hrd⟩:∃rd:Int,r.2.1=rd:=⟨r.2.1,rfl⟩;simp only[J7 ha,o7,F7,ha,o8,hlb,hrd];rw[Y4 l7,hst];by_cases hd:0<=rd/\rd<(m:Int)
  .obtain⟨d0,d1⟩:=hd;have hk:rd.toNat<m:=l7;have hkk:((rd.toNat:Nat):Int)=rd:=l7;have hg:b[rd.toNat]? =some (dl m (s.2.2.2.2.take i) rd):=by rw[hI];unfold Zv;rw[Ip m _ hk,hkk]
   have hll:=a7t h m rd (s.2.2.2.2.take i) λr hr=>List.mem_of_mem_take hr;have hrl:=Xf h (kw ha) m;have htl:(s.2.2.2.2.take i).length<=60:=by simp;omega
   rw[Y3 d0,U8 d1,show inb rd (m:Int)=true by unfold inb;simp;omega,show V6 b (V9 rd)=some (dl m (s.2.2.2.2.take i) rd)from hg,Wy _ h1 h2];simp only[o7,o8];rw[uy l7,show Qk (V9 rd) (V9 rd)=true by simp[Qk]];simp only[o7,o8];have hin:inD m rd=true:=by unfold inD;rw[Y3 d0,U8 d1];rfl
   rw[hin,show b.getD rd.toNat []=dl m (s.2.2.2.2.take i) rd by rw[qY,hg];rfl];refine⟨rfl,?_⟩;show b.set rd.toNat _=_;rw[hI];unfold Zv;rw[YS];apply dn;intro d hdm;rw[a9L,hrd];by_cases hq:d=rd.toNat
   .subst hq;rw[if_pos rfl,hkk,N9 rfl];rfl
   .rw[if_neg hq,O9 l7];simp
  .have hin:inD m rd=false:=by
    unfold inD;by_cases d0:0<=rd
    .rw[Y3 d0,N7 l7];rfl
    .rw[Y9 l7];rfl
   rw[hin];refine⟨?_,?_⟩
   .unfold inD at hin;cases q0:L8 0 rd
    .rfl
    .rw[q0]at hin;simp only[o7]at hin ⊢;rw[hin];rfl
   .show b=_;rw[hI];unfold Zv;apply dn;intro d hdm;have:=P8.1 hdm;rw[a9L,hrd,O9 l7];simp
 .simp only[J6];rfl
 .rw[aQ]at h2;rw[h2];generalize hA:Zv m s.2.2.2.2=A;have hAl:o9 A=(m:Int):=by rw[←hA];simp[o9,Zv]
  refine dI (List.range m) (λ(b:List d1A) d=>b.set d (ja (b.getD d []))) (λb i=>(b,i)) (λb=>b) (λi b=>b=(List.range m).map λ(d:Nat)=>if d<i then ja (dl m s.2.2.2.2 (d:Int))else dl m s.2.2.2.2 (d:Int)) A Z5 (by rw[←hA];unfold Zv;simp) (λi d b ha hi hI=>?_) (λb hI=>?_) (λh3=>?_)
  .have hlt:=(X6.1 ha).1;simp only[bz]at hlt;have hdi:d=i:=by rw[di hlt]at ha;exact(I9 ha).symm
   subst hdi;have hlb:o9 b=(m:Int):=by rw[hI];simp[o9]
   have hg:b[d]? =some (dl m s.2.2.2.2 (d:Int)):=by rw[hI,Ip m _ hlt,if_neg l7]
   have hll:=a7t h m d s.2.2.2.2 λr hr=>hr;simp only[hAl,hlb];rw[U8 (show(d:Int)<(m:Int) by omega),show inb (d:Int) (m:Int)=true by unfold inb;simp;omega,show V6 b (V9 (d:Int))=some (dl m s.2.2.2.2 (d:Int))from hg];simp only[o7,o8];rw[VN l7,show Qk (V9 (d:Int)) (V9 (d:Int))=true by simp[Qk],Y4 l7];simp only[o7,o8];rw[show b.getD d []=dl m s.2.2.2.2 (d:Int) by rw[qY,hg];rfl];refine⟨rfl,?_⟩;rw[hI,YS];apply dn;intro e he;by_cases hq:e=d
   .subst hq;rw[if_pos rfl,if_pos l7]
   .rw[if_neg hq];by_cases hq2:e<d
    .rw[if_pos hq2,if_pos l7]
    .rw[if_neg hq2,if_neg l7]
  .simp only[bz,hAl,N7 (show(m:Int)<=(m:Int) by omega)];rfl
  .rw[h3];apply congrArg some;apply dn;intro d hd;have:=P8.1 hd;simp only[bz];rw[if_pos this];unfold O6;rw[hn,show inD (m:Int) (d:Int)=true by unfold inD;rw[Y3 l7,U8 l7];rfl];rfl
def Rch(D:Int->d1A)(d:Int)(L:d1A):Prop:=SI L/\(∀x∈D d,x∈L)/\(∀x∈L,∀y∈D x,y∈L)/\∀C:Int->Prop,(∀x∈D d,C x)->(∀x,C x->∀y∈D x,C y)->∀x∈L,C x
theorem Rch.unique{D:Int->d1A}{L M:d1A}(h:Rch D d L)(k:Rch D d M):L=M:=
 a8G h.1 k.1 λx=>⟨λhx=>h.2.2.2 (λy=>y∈M) k.2.1 k.2.2.1 x hx,λhx=>k.2.2.2 (λy=>y∈L) h.2.1 h.2.2.1 x hx⟩
theorem VP:∀{B A:d1A},SI A->SI B->(∀x∈A,x∈B)->A=B\/A.length<B.length
 |[],A,_,_,h=>by
  cases A with
  |nil=>exact .inl rfl|cons a A=>exact absurd (h a x9) x9
 |b::B,[],_,_,_=> .inr x9|b::B,a::A,hA,hB,h=>by
  have hA' :=af.1 hA;have hB' :=af.1 hB;rcases D6.1 (h a x9)with hab|hab
  .subst hab;rcases VP (B:=B) (A:=A) hA'.2 hB'.2 (λx hx=>by
    rcases D6.1 (h x (by simp[hx]))with h1|h1
    .have:=hA'.1 x hx;omega
    .exact h1)with h1|h1
   .exact .inl (by rw[h1])
   .exact .inr (by simp only[H9];omega)
  .have hab2:=hB'.1 a hab;rcases VP (B:=B) (A:=a::A) hA hB'.2 (λx hx=>by
    rcases D6.1 (h x hx)with h1|h1
    .rcases D6.1 hx with h2|h2
     .omega
     .have:=hA'.1 x h2;omega
    .exact h1)with h1|h1
   .exact .inr (by rw[h1];simp)
   .exact .inr (by simp only[H9]at*;omega)
def Nh(D:Int->d1A)(L:d1A):d1A:=L.foldl (λacc x=>Em (D x) acc) L
theorem Nj(D:Int->d1A)(x:Int):∀(l acc:d1A),x∈l.foldl (λacc x=>Em (D x) acc) acc↔x∈acc\/∃y∈l,x∈D y
 |[],acc=>by simp|a::l,acc=>by
  rw[P6,Nj D x l,Vd];constructor
  .rintro((h|h)|⟨y,hy,h⟩)
   .exact .inr ⟨a,x9,h⟩
   .exact .inl h
   .exact .inr ⟨y,by simp[hy],h⟩
  .rintro(h|⟨y,hy,h⟩)
   .exact .inl (.inr h)
   .rcases D6.1 hy with rfl|hy
    .exact .inl (.inl h)
    .exact .inr ⟨y,hy,h⟩
theorem b0i(D:Int->d1A):∀(l:d1A) {acc:d1A},SI acc->SI (l.foldl (λacc x=>Em (D x) acc) acc)
 |[],_,h=>h|a::l,_,h=>by rw[P6];exact b0i D l (Zc _ h)
theorem S_(D:Int->d1A){L:d1A}(h:SI L):SI (Nh D L):=b0i D L h
def itS(D:Int->d1A)(d:Int):Nat->d1A
 |0=>D d|k+1=>Nh D (itS D d k)
section
variable {D:Int->d1A} {n:Nat} (hsi:∀x,SI (D x)) (hin:∀x,∀y∈D x,0<=y/\y<(n:Int))
include hsi hin
theorem a2i(d:Int):∀k,SI (itS D d k)
 |0=>hsi d|k+1=>S_ D (a2i d k)
theorem a9U(d:Int):∀k,∀x∈itS D d k,0<=x/\x<(n:Int)
 |0,x,hx=>hin d x hx|k+1,x,hx=>by
  rcases(Nj D x _ _).1 hx with h|⟨y,_,h⟩
  .exact a9U d k x h
  .exact hin y x h
theorem a9T(d:Int)(k:Nat):Nh D (itS D d k)=itS D d k\/(itS D d k).length<(Nh D (itS D d k)).length:=by
 rcases VP (a2i hsi hin d k) (S_ D (a2i hsi hin d k)) (λx hx=>(Nj D x _ _).2 (.inl hx))with h|h
 .exact .inl h.symm
 .exact .inr h
theorem a2j(d:Int):∀k,Nh D (itS D d k)=itS D d k\/k<(Nh D (itS D d k)).length
 |0=>by
  rcases a9T hsi hin d 0 with h|h
  .exact .inl h
  .exact .inr l7
 |k+1=>by
  rcases a2j d k with h|h
  .exact .inl (by show Nh D (Nh D (itS D d k))=Nh D (itS D d k);rw[h,h])
  .rcases a9T hsi hin d (k+1)with h2|h2
   .exact .inl h2
   .exact .inr (by have:(itS D d (k+1)).length=(Nh D (itS D d k)).length:=rfl;omega)
theorem c0H(d:Int):Rch D d (itS D d n):=by
 have hst:Nh D (itS D d n)=itS D d n:=by
  rcases a2j hsi hin d n with h|h
  .exact h
  .have:=Uk n (S_ D (a2i hsi hin d n)) (a9U hsi hin d (n+1));omega
 refine⟨a2i hsi hin d n,?_,?_,?_⟩
 .intro x hx;have:∀k,x∈itS D d k:=by
   intro k;induction k with
   |zero=>exact hx|succ k ih=>exact(Nj D x _ _).2 (.inl ih)
  exact this n
 .intro x hx y hy;rw[←hst];exact(Nj D y _ _).2 (.inr ⟨x,hx,hy⟩)
 .intro C h1 h2;have:∀k,∀x∈itS D d k,C x:=by
   intro k;induction k with
   |zero=>exact h1|succ k ih=>
    intro x hx;rcases(Nj D x _ _).1 hx with h|⟨y,hy,h⟩
    .exact ih x h
    .exact h2 y (ih y hy) x h
  exact this n
end
def bC(s:A7)(d:Int):d1A:=itS (O6 s) d s.2.2.2.1.length
theorem pR(s:A7)(d:Int):Rch (O6 s) d (bC s d):=
 c0H (n:=s.2.2.2.1.length) (Dv s) (λx y hy=>uK hy) d
theorem zZ(h:x∈bC s d):0<=x/\x<nD s:=a9U (n:=s.2.2.2.1.length) (Dv s) (λx y hy=>uK hy) d _ x h
theorem NL(h:SmS s)(d:Int):(O6 s d).length<=14:=
 bJ (Uk s.2.2.2.1.length (Dv s d) (λx hx=>uK hx)) h.nd
theorem FV(h:SmS s){l:d1A}(hs:SI l)(hi:∀x∈l,0<=x/\x<nD s):l.length<=14:=bJ (Uk s.2.2.2.1.length hs hi) h.nd
theorem JH(h:SmS s)(d:Int):sS s d=some (bC s d):=by
 have hnd:=h.nd;unfold sS;rw[TZ h,o8];have hsi:=Dv s;have hin:∀x,∀y∈O6 s x,0<=y/\y<((s.2.2.2.1.length:Nat):Int):=λx y hy=>uK hy;refine dI s.2.2.2.1 (λ(b:d1A) (_:jB)=>Nh (O6 s) b) (λb i=>(b,i)) (λb=>b) (λi b=>b=itS (O6 s) d i) (O6 s d) l7 rfl (λi f b ha hi hI=>?_) (λb hI=>?_) (λh2=>?_)
 .simp only[J7 ha,o7];refine⟨?_,by show Nh _ b=_;rw[hI];rfl⟩;have hb1:SI b:=by rw[hI];exact a2i hsi hin d i
  have hb2:∀x∈b,0<=x/\x<nD s:=by rw[hI];exact a9U hsi hin d i
  have hbl:=FV h hb1 hb2;rw[Y4 l7];refine dI b (λ(acc:d1A) x=>Em (O6 s x) acc) (λb i=>(b,i)) (λb=>b) (λi acc=>SI acc/\∀x∈acc,0<=x/\x<nD s) b l7 ⟨hb1,hb2⟩ (λj x acc hx hj hJ=>?_) (λacc hJ=>?_) (λh3=>?_)
  .have hal:=FV h hJ.1 hJ.2;have hdl:=NL h x;simp only[J7 hx,o7,F7,hx,o8,TZ h x];rw[Y4 l7];refine⟨?_,Zc _ hJ.1,λy hy=>?_⟩
   .refine dI (O6 s x) (λ(acc:d1A) y=>ins y acc) (λb i=>(b,i)) (λb=>b) (λi a=>a.length<=acc.length+i) acc l7 l7 (λk y a hy hk hK=>?_) (λa hK=>?_) (λh4=>?_)
    .have hlt:=(X6.1 hy).1;have hli:=tZ y a;simp only[J7 hy,o7,F7,hy,o8];rw[show V6 (O6 s x) (V9 (k:Int))=some y from hy,o8,Dn _ l7,o8,Y4 l7];exact⟨rfl,by show(ins y a).length<=_;omega⟩
    .simp only[J6];rfl
    .rfl
   .rcases(Vd y _ _).1 hy with h4|h4
    .exact uK h4
    .exact hJ.2 y h4
  .simp only[J6];rfl
  .rfl
 .simp only[J6];rfl
 .rw[h2];rfl
def mk(S:d1E)(x:Int):Bool:=if 0<=x then S.getD x.toNat false else false
def unm(S:d1E):Nat:=S.count false
def rG(b:d1E×d1A)(e:Int):d1E×d1A:=l9 (mk b.1 e) b (b.1.set e.toNat true,b.2++[e])
variable {S:d1E}
theorem a7U(h0:0<=x)(h1:x<o9 S):S[x.toNat]? =some (mk S x):=by
 unfold mk;rw[if_pos h0,qY];have:x.toNat<S.length:=by simp only[o9]at h1;omega
 rw[bn this];rfl
theorem M_{e:Int}(h0:0<=e)(h1:e<o9 S)(x:Int):mk (S.set e.toNat true) x=l9 (x8 x e) true (mk S x):=by
 unfold mk;have hl:e.toNat<S.length:=by simp only[o9]at h1;omega
 by_cases hx:0<=x
 .rw[if_pos hx,if_pos hx,qY,qY,Z9];by_cases hq:x=e
  .subst hq;rw[if_pos rfl,if_pos hl,N9 rfl];rfl
  .rw[if_neg l7,O9 hq];rfl
 .rw[if_neg hx,if_neg hx,O9 l7];rfl
theorem b9n{e:Int}(h0:0<=e)(h1:e<o9 S)(hm:mk S e=false):unm (S.set e.toNat true)+1=unm S:=by
 have hl:e.toNat<S.length:=by simp only[o9]at h1;omega
 have hg:=a7U h0 h1;rw[hm,bn hl]at hg;have hg' :S[e.toNat]=false:=I9 hg;unfold unm;rw[List.count_set hl,hg'];have:0<S.count false:=List.count_pos_iff.2 (by rw[←hg'];exact G8 hl);simp;omega
structure RInv (n:Nat) (S:d1E) (Q:d1A) (l:d1A) (S' :d1E) (Q' :d1A):Prop where
 len:S'.length=n
 seen:∀x:Int,0<=x->x<(n:Int)->(mk S' x=true↔mk S x=true\/x∈l)
 sum:Q'.length+unm S' =Q.length+unm S
 le:unm S' <=unm S
 old:∀x∈Q,x∈Q'
 new:∀x∈Q',x∈Q\/x∈l
 got:∀x,mk S' x=true->mk S x=true\/x∈Q'
theorem b5O{n:Nat} :∀(l:d1A) (S:d1E) (Q:d1A),S.length=n->(∀x∈l,0<=x/\x<(n:Int))->RInv n S Q l (l.foldl rG (S,Q)).1 (l.foldl rG (S,Q)).2
 |[],S,Q,hl,_=>⟨hl,λx _ _=>by simp,rfl,E9 _,λx hx=>hx,λx hx=> .inl hx,λx hx=> .inl hx⟩|e::l,S,Q,hl,hi=>by
  have he:=hi e x9;have hel:e<o9 S:=by simp only[o9];omega
  rw[P6];cases hm:mk S e with
  |true=>
   rw[show rG (S,Q) e=(S,Q) by unfold rG;rw[hm];rfl];have ih:=b5O l S Q hl λx hx=>hi x (by simp[hx]);refine⟨ih.len,λx h0 h1=>?_,ih.sum,ih.le,ih.old,λx hx=>?_,ih.got⟩
   .rw[ih.seen x h0 h1,D6];constructor
    .rintro(h|h)
     .exact .inl h
     .exact .inr (.inr h)
    .rintro(h|h|h)
     .exact .inl h
     .subst h;exact .inl hm
     .exact .inr h
   .rcases ih.new x hx with h|h
    .exact .inl h
    .exact .inr (by simp[h])
  |false=>
   rw[show rG (S,Q) e=(S.set e.toNat true,Q++[e]) by unfold rG;rw[hm];rfl];have ih:=b5O l (S.set e.toNat true) (Q++[e]) (by simp[hl]) λx hx=>hi x (by simp[hx]);have hu:=b9n he.1 hel hm;refine⟨ih.len,λx h0 h1=>?_,?_,?_,λx hx=>ih.old x (by simp[hx]),λx hx=>?_,λx hx=>?_⟩
   .rw[ih.seen x h0 h1,M_ he.1 hel,D6];cases hq:x8 x e
    .rw[yO]at hq;simp[hq]
    .rw[O5]at hq;simp[hq]
   .have:=ih.sum;simp only[F5,H9,dG]at this;omega
   .have:=ih.le;omega
   .rcases ih.new x hx with h|h
    .rcases C9.1 h with h|h
     .exact .inl h
     .exact .inr (by simp at h;simp[h])
    .exact .inr (by simp[h])
   .rcases ih.got x hx with h|h
    .rw[M_ he.1 hel]at h;cases hq:x8 x e
     .rw[hq]at h;exact .inl h
     .rw[O5]at hq;subst hq;exact .inr (ih.old _ x9)
    .exact .inr h
def XW(S:d1E):d1A:=((List.range S.length).filter λi=>S.getD i false).map λ(i:Nat)=>(i:Int)
theorem Rt(x:Int):x∈XW S↔mk S x=true:=by
 unfold XW mk;rw[U0];constructor
 .rintro⟨i,hi,rfl⟩;rw[if_pos l7];exact(I7.1 hi).2
 .intro h;split at h
  .refine⟨x.toNat,I7.2 ⟨P8.2 ?_,h⟩,l7⟩;rw[qY]at h;cases hg:S[x.toNat]? with
   |none=>rw[hg]at h;cases h|some b=>exact(X6.1 hg).1
  .cases h
theorem b4g(S:d1E):SI (XW S):=by unfold XW;refine List.Pairwise.map _ (R:=(·< ·)) (λa b h=>by omega) (List.Pairwise.filter _ su)
theorem a7S(S:d1E)(hS:S.length<=100)
  (hin:∀(i:Nat) (a:Bool) (acc:d1A),S[i]? =some a->i<=1000000->acc.length<=i->f (acc,(i:Int))=l9 a (o5 (cu acc [(i:Int)]) λx=>some (.inl (x,D5 .i64 (i:Int) 1))) (some (.inl (acc,D5 .i64 (i:Int) 1))))
  (hend:∀acc,f (acc,(S.length:Int))=some (.inr acc)):aB f ([],0)=some (XW S):=by
 have mk2:∀i,i<=S.length->((List.range i).filter λi=>S.getD i false).length<=i:=λi _=>by have:=aJ (λi=>S.getD i false) (List.range i);simpa using this
 obtain⟨e,h1,h2⟩:=iJ (f:=f) (s:=([],0)) (λx=>∃i:Nat,x=(((List.range i).filter λi=>S.getD i false).map λ(i:Nat)=>(i:Int),(i:Int))/\i<=S.length) (λe=>e=XW S) (λx=>S.length -x.2.toNat) ⟨0,rfl,l7⟩ Z5 (by
  rintro x ⟨i,rfl,hi⟩;by_cases h:i<S.length
  .have e:=bn h;have hst:(List.range (i+1)).filter (λi=>S.getD i false)=(List.range i).filter (λi=>S.getD i false)++l9 S[i] [i] []:=by
    rw[X3,ny];congr 1;rw[bK,qY,e];cases S[i]<;>rfl
   have hl:=mk2 i hi;refine .inl ⟨(((List.range (i+1)).filter λi=>S.getD i false).map λ(i:Nat)=>(i:Int),((i+1:Nat):Int)),?_,⟨i+1,rfl,h⟩,by simp;omega⟩;rw[hin i _ _ e l7 (by simpa using hl),Y4 l7,hst,bY,fQ _ (by rw[H7];omega)];cases S[i]
   .simp
   .rfl
  .have:i=S.length:=l7;subst this;exact .inr ⟨_,hend _,rfl⟩)
 rw[h1,h2]
variable {n:Nat}
theorem a0l{D:Int->d1A}(hn:n<=14)(hsi:∀x,SI (D x))(hin:∀x,∀y∈D x,0<=y/\y<(n:Int))(h0:0<=d)(h1:d<(n:Int)):
  ∃L,Ae ((List.range n).map λ(x:Nat)=>D (x:Int)) d=some L/\Rch D d L:=by
 have hA:o9 ((List.range n).map λ(x:Nat)=>D (x:Int))=(n:Int):=by simp[o9]
 have hget:∀x:Int,0<=x->x<n->F9 ((List.range n).map λ(x:Nat)=>D (x:Int)) x=some (D x):=λx a b=>by
  have:x.toNat<n:=l7;unfold F9
  rw[if_pos a,Ip n _ this,aA a]
 unfold Ae;generalize (List.range n).map (λ(x:Nat)=>D (x:Int))=A at*;rw[hA,show pX (n:Int) false=some (List.replicate n false) by unfold pX;rw[if_pos l7];simp,o8];have hD14:∀x,(D x).length<=14:=λx=>bJ (Uk n (hsi x) (hin x)) hn;have key:=iJ (f:=λ(x:d1E×d1A)=>l9 (E8 0 (o9 x.2)) (o5 (F9 x.2 0) λ(x_1:Int)=>o5 (V6 x.2 (V9 0)) λ(x_2:Int)=>l9 (ui 1 (o9 x.2) (o9 x.2)) (o5 (F9 A x_2) λ(x_3:d1A)=>
   o5 (aB (λ(x:d1E×d1A×Int)=>l9 (E8 x.2.2 (o9 x_3)) (o5 (F9 x_3 x.2.2) λ(x_4:Int)=>o5 (F9 x.1 x_4) λ(x_5:Bool)=>o5 (V6 x.1 (V9 x_4)) λ(x_6:Bool)=>
     l9 (F8 x_6) (o5 (F9 x.1 x_4) λ(x_7:Bool)=>o5 (V6 x.1 (V9 x_4)) λ(x_8:Bool)=>o5 (cu x.2.1 [x_4]) λ(x_9:d1A)=>some (.inl (aU x.1 (V9 x_4) true,x_9,D5 .i64 x.2.2 1)))
      (some (.inl (x.1,x.2.1,D5 .i64 x.2.2 1)))) (some (.inr (x.1,x.2.1)))) (x.1,qo x.2 (V9 1) (V9 (o9 x.2)),0)) λ(y:d1E×d1A)=>some (.inl y)) none) (some (.inr x.1)))
  (s:=(List.replicate n false,[d]))
  (λx=>x.1.length=n/\(∀q∈x.2,0<=q/\q<(n:Int))/\x.2.length+unm x.1<=n+1/\(∀q∈x.2,q=d\/mk x.1 q=true)/\(∀v,v=d\/mk x.1 v=true->v∈x.2\/∀y∈D v,mk x.1 y=true)/\
   (∀C:Int->Prop,(∀x∈D d,C x)->(∀x,C x->∀y∈D x,C y)->∀v,mk x.1 v=true->C v)/\(∀v,mk x.1 v=true->0<=v/\v<(n:Int)))
  (λS=>S.length=n/\Rch D d (XW S)) (λx=>2*unm x.1+x.2.length) ?_ ?_ ?_
 .obtain⟨S,k1,k2,k3⟩:=key;refine⟨XW S,?_,k3⟩;refine(lV k1 _).trans ?_;rw[ig];refine a7S S l7 (λi a acc ha hi hacc=>?_) (λacc=>?_)
  .simp only[J7 ha,o7,F7,ha,o8];rw[show V6 S (V9 (i:Int))=some a from ha,o8]
  .simp only[J6];rfl
 .have hnone:∀v,mk (List.replicate n false) v=false:=λv=>by
   unfold mk;split
   .rw[qY,jC];split<;>rfl
   .rfl
  refine⟨x9,λq hq=>by simp at hq;omega,?_,λq hq=> .inl (by simpa using hq),λv hv=>?_,λC _ _ v hv=>(by rw[hnone]at hv;cases hv),λv hv=>(by rw[hnone]at hv;cases hv)⟩
  .simp[unm,List.count_replicate];omega
  .rcases hv with rfl|hv
   .exact .inl x9
   .rw[hnone]at hv;cases hv
 .simp[unm,List.count_replicate];omega
 .rintro⟨S,Q⟩ ⟨i1,i2,i3,i4,i5,i6,i7⟩;simp only at i1 i2 i3 i4 i5 i6 i7;cases Q with
  |nil=>
   right;refine⟨S,rfl,i1,b4g S,λx hx=>?_,λx hx y hy=>?_,λC c1 c2 x hx=>i6 C c1 c2 x ((Rt x).1 hx)⟩
   .rcases i5 d (.inl rfl)with h|h
    .cases h
    .exact(Rt x).2 (h x hx)
   .rcases i5 x (.inr ((Rt x).1 hx))with h|h
    .cases h
    .exact(Rt y).2 (h y hy)
  |cons q Q=>
   left;have hq:=i2 q x9;have hfold:=b5O (n:=n) (D q) S Q i1 (λx hx=>hin q x hx);refine⟨(D q).foldl rG (S,Q),?_,?_,?_⟩
   .simp only[U8 (show(0:Int)<o9 (q::Q) by simp[o9]<;>omega),o7,show F9 (q::Q) 0=some q from rfl,show V6 (q::Q) (V9 0)=some q from rfl,o8,hget q hq.1 hq.2,
     show ui 1 (o9 (q::Q)) (o9 (q::Q))=true by simp[ui,o9]<;>omega,show qo (q::Q) (V9 1) (V9 (o9 (q::Q)))=Q by simp[qo,V9,o9]]
    refine dI (D q) rG (λb i=>(b.1,b.2,i)) (λb=>b) (λi b=>b.1.length=n/\b.2.length<=100+i) (S,Q) (by have:=hD14 q;omega) ⟨i1,by simp at i3;show Q.length<=100+0;omega⟩ (λi e b he hi hI=>?_) (λb hI=>?_) (λh2=>rfl)
    .obtain⟨S1,Q1⟩:=b;simp only at hI;have hee:=hin q e (kw he);have hlt:=(X6.1 he).1;have hdl:=hD14 q;have hg:=a7U (S:=S1) hee.1 (by simp only[o9];omega);have hla:F9 S1 e=some (mk S1 e):=by unfold F9;rw[if_pos hee.1];exact hg
     have hlg:V6 S1 (V9 e)=some (mk S1 e):=hg;simp only[J7 he,o7,F7 (D q),he,o8,hla,hlg];rw[Y4 l7,fQ _ l7];unfold rG;simp only;cases mk S1 e
     .exact⟨rfl,by simp[hI.1],by simp<;>omega⟩
     .exact⟨rfl,hI.1,by show Q1.length<=_;omega⟩
    .simp only[J6];rfl
   .obtain⟨j1,j2,j3,j4,j5,j6,j7⟩:=hfold;generalize (D q).foldl rG (S,Q)=b at*;obtain⟨S',Q'⟩:=b;simp only at j1 j2 j3 j4 j5 j6 j7 ⊢;have hrange:∀v,mk S' v=true->0<=v/\v<(n:Int):=λv hv=>by
     rcases j7 v hv with h|h
     .exact i7 v h
     .rcases j6 v h with h|h
      .exact i2 v (by simp[h])
      .exact hin q v h
    refine⟨j1,λx hx=>?_,?_,λx hx=>?_,λv hv=>?_,λC c1 c2 v hv=>?_,hrange⟩
    .rcases j6 x hx with h|h
     .exact i2 x (by simp[h])
     .exact hin q x h
    .simp only[H9]at i3;omega
    .rcases j6 x hx with h|h
     .rcases i4 x (by simp[h])with h2|h2
      .exact .inl h2
      .have hr:=i7 x h2;exact .inr ((j2 x hr.1 hr.2).2 (.inl h2))
     .have hr:=hin q x h;exact .inr ((j2 x hr.1 hr.2).2 (.inr h))
    .have up:∀y,mk S y=true->mk S' y=true:=λy hy=>by
      have hr:=i7 y hy;exact(j2 y hr.1 hr.2).2 (.inl hy)
     by_cases hvq:v=q
     .subst hvq;right;intro y hy;have hr:=hin v y hy;exact(j2 y hr.1 hr.2).2 (.inr hy)
     .by_cases hold:v=d\/mk S v=true
      .rcases i5 v hold with h|h
       .rcases D6.1 h with h|h
        .exact absurd h hvq
        .exact .inl (j5 v h)
       .exact .inr λy hy=>up y (h y hy)
      .rcases hv with h|h
       .exact absurd (.inl h) hold
       .rcases j7 v h with h2|h2
        .exact absurd (.inr h2) hold
        .exact .inl h2
    .by_cases hS:mk S v=true
     .exact i6 C c1 c2 v hS
     .have hr:=hrange v hv;rcases(j2 v hr.1 hr.2).1 hv with h|h
      .exact absurd h hS
      .rcases i4 q x9 with h2|h2
       .subst h2;exact c1 v h
       .exact c2 q (i6 C c1 c2 q h2) v h
   .have:=hfold.sum;have:=hfold.le;simp only[H9];omega
theorem Mc(h:SmS s)(h0:0<=d)(h1:d<nD s):uJ s d=some (bC s d):=by have hn:nD s=((s.2.2.2.1.length:Nat):Int):=rfl;unfold uJ;change l9 (E8 d 0) _ (l9 (L8 (nD s) d) _ _)=_;rw[N7 h0,o6,Y9 h1,o6,Nz h,o8,ig];obtain⟨L,k1,k2⟩:=a0l (D:=O6 s) h.nd (Dv s) (λx y hy=>uK hy) h0 (show d<((s.2.2.2.1.length:Nat):Int) by omega);rw[k1,Rch.unique k2 (pR s d)]
structure SmL (l:U6):Prop where
 few:Few l
 en:a2R l
 tb:Zk l
 sc:∀s∈l.2.2,SmS s
theorem SmL.scopes(h:SmL l):Uo l:=λs hs=>by have hm:=h.sc s hs;exact⟨hm.nm,by have:=hm.ni;omega,by have:=hm.nd;omega,by have:=hm.nr;omega⟩
theorem uP{ε ρ:Type}{p:Nat->Option ρ}(n:Nat)(hn:n<=1000000)(e:ε){f:Int->Option (Out Int ε ρ)}
  (h1:∀i,i<n->f (i:Int)=some (match p i with|some r=> .rt r|none=> .nx (D5 .i64 (i:Int) 1))) (h2:f (n:Int)=some (.ex e)):
  ah f 0=some (match ay n p with|some r=> .inr r|none=> .inl e):=
 KW n l7 e (λi hi=>by rw[h1 i hi,Y4 l7]<;>cases p i<;>rfl) h2
def FI(l:U6)(s:A7)(k:Nat):Option (Int×Int):=match s.2.2.2.2[k]? with|some r=>WC (JV s (BO l s) k r) (300+k:Nat)|none=>none
def UE(s:A7)(d:Nat):Option (Int×Int):=l9 ((bC s d).any λx=>x8 (d:Int) x) (some (9,((200+d:Nat):Int))) none
def xQ(l:U6)(i:Nat)(m:Int):Bool:=l9 (x8 m (-1)) false (l9 (E8 m 0) true (l9 (L8 (i:Int) m) true (match F9 l.2.2 m with|some q=>F8 (x8 q.2.1 (-1))|none=>true)))
def Ht(l:U6)(s:A7):Int×Int:=match wP l s with
 |some r=>r
 |none=>match ay s.2.2.2.2.length (FI l s)with
  |some r=>r
  |none=>match ay s.2.2.2.1.length (UE s)with
   |some r=>r|none=>(0,0)
def Fb(l:U6)(i:Nat)(s:A7):Int×Int:=
 l9 (DY s.1) (l9 (Bh l 3 i s.1) (7,0) (l9 (xQ l i s.2.1) (6,0) (l9 (E8 12 (o9 s.2.2.1)) (4,112) (l9 (E8 12 (o9 s.2.2.2.1)) (4,212) (Ht l s))))) (2,0)
theorem a1c(hL:SmL l)(hs:l.2.2[i]? =some s):Ep l (i:Int)=some (Fb l i s):=by
 have hi:=(X6.1 hs).1;have hS:=hL.sc s (kw hs);have hf:=hL.few;have hf1:=hf.1;have hf2:=hf.2.1;have hf3:=hf.2.2;have n1:=hS.ni;have n2:=hS.nd;have n3:=hS.nr;unfold Ep Fb Bh;rw[F7,hs,o8,DF l7,o8,TJ _ l7,o8,XO _ l7,o8,a5l _ Z5,o8];have hb:(l9 (l.1.any λx=>seq x.1 s.1) (some (s,true)) (l9 (l.2.1.any λx=>seq x.1 s.1) (some (s,true)) (some (s,(l.2.2.take i).any λx=>seq x.1 s.1))))=
   some (s,(l.1.any λx=>seq x.1 s.1) || (l.2.1.any λx=>seq x.1 s.1) || (l.2.2.take i).any λx=>seq x.1 s.1):=by
  cases l.1.any λx=>seq x.1 s.1
  .cases l.2.1.any λx=>seq x.1 s.1<;>rfl
  .rfl
 rw[hb,o8];simp only;rw[uH hS.nm,o8];cases DY s.1
 .rfl
 simp only[E5,o6,o7];cases (l.1.any λx=>seq x.1 s.1) || (l.2.1.any λx=>seq x.1 s.1) || (l.2.2.take i).any λx=>seq x.1 s.1
 case true=>rfl
 simp only[o6];have hm:(l9 (F8 (x8 s.2.1 (-1))) (l9 (E8 s.2.1 0) (some true) (l9 (L8 (i:Int) s.2.1) (some true) (o5 (F9 (l.2.2.take i) s.2.1) λ(x:A7)=>some (F8 (x8 x.2.1 (-1)))))) (some false))=some (xQ l i s.2.1):=by
  unfold xQ;cases x8 s.2.1 (-1)
  case true=>rfl
  simp only[aW,o7,o6];cases h0:E8 s.2.1 0
  case true=>rfl
  cases h1:L8 (i:Int) s.2.1
  case true=>rfl
  rw[iE]at h0;rw[Bl]at h1;obtain⟨q,hq,_⟩:=mO (l:=l.2.2.take i) h0 (by simp only[o9,bM];omega);have hq2:F9 l.2.2 s.2.1=some q:=by have:=(bg hq).2.2.2;unfold F9;rw[if_pos h0];exact(VQ this).2
  rw[hq,hq2];rfl
 rw[hm,o8];cases xQ l i s.2.1
 case true=>rfl
 simp only[o6];cases E8 12 (o9 s.2.2.1)
 case true=>rfl
 cases E8 12 (o9 s.2.2.2.1)
 case true=>rfl
 simp only[o6,o8,U1];unfold Ht wP;refine X9 (uP (p:=inP l s) s.2.2.1.length l7 PUnit.unit (λk hk=>?_) ?_) ?_
 rotate_left 2
 .cases ay s.2.2.1.length (inP l s)
  case some r=>rfl
  simp only[o8,U1];refine X9 (uP (p:=YD l s) s.2.2.2.1.length l7 PUnit.unit (λk hk=>?_) ?_) ?_
  rotate_left 2
  .cases ay s.2.2.2.1.length (YD l s)
   case some r=>rfl
   simp only[o8,U1];rw[JY hL.scopes hs,o8];refine X9 (uP (p:=FI l s) s.2.2.2.2.length l7 PUnit.unit (λk hk=>?_) ?_) ?_
   rotate_left 2
   .cases ay s.2.2.2.2.length (FI l s)
    case some r=>rfl
    simp only[o8,U1];refine X9 (uP (p:=UE s) s.2.2.2.1.length l7 PUnit.unit (λk hk=>?_) ?_) ?_
    rotate_left 2
    .cases ay s.2.2.2.1.length (UE s)<;>rfl
    .have e:=bn hk;simp only[J7 e,o7];rw[Mc hS l7 (by show(k:Int)<o9 s.2.2.2.1;simp only[o9];omega),o8,b1n _ (by
      have:=FV hS (pR s (k:Int)).1 (λx hx=>zZ hx);omega),o8,show(200:Int)=((200:Nat):Int)from rfl,XP l7 l7]
     unfold UE;cases (bC s (k:Int)).any λx=>x8 (k:Int) x<;>rfl
    .rw[J6];rfl
   .have e:=bn hk;have hr:=(hS.ro _ (G8 hk)).1;simp only[J7 e,o7];rw[a3b _ e l7 hr,o8,show(300:Int)=((300:Nat):Int)from rfl,XP l7 l7];simp only[FI,e,WC];cases x8 (JV s (BO l s) k s.2.2.2.2[k]) 0<;>rfl
   .rw[J6];rfl
  .have e:=bn hk;have hm:=hS.fo.2 _ (G8 hk);simp only[J7 e,o7,F7,e,o8];rw[DF l7,o8,SH hm l7 Z5,o8,show(200:Int)=((200:Nat):Int)from rfl,XP l7 l7];simp only[YD,e,WC];cases x8 (LJ l.1 s.2.2.2.1[k] s.2.2.1 (s.2.2.2.1.take k)) 0<;>rfl
  .rw[J6];rfl
 .have e:=bn hk;have hm:=hS.fo.1 _ (G8 hk);simp only[J7 e,o7,F7,e,o8];rw[DF l7,o8,SH hm Z5 x9,o8,show(100:Int)=((100:Nat):Int)from rfl,XP l7 l7];simp only[inP,e,WC];cases x8 (LJ l.1 s.2.2.1[k] (s.2.2.1.take k) []) 0<;>rfl
 .rw[J6];rfl
theorem MM{c e:Int}{r:Int×Int}(h:WC c e=some r):r.1≠0:=by
 unfold WC at h;cases hc:x8 c 0<;>rw[hc]at h
 .cases h;exact yO.1 hc
 .cases h
theorem GV{r:Int×Int}(h:wP l s=some r):r.1≠0:=by
 unfold wP at h;split at h
 .rename_i q hq;cases h;obtain⟨k,_,hk⟩:=iP hq;unfold inP at hk;split at hk
  .exact MM hk
  .cases hk
 .obtain⟨k,_,hk⟩:=iP h;unfold YD at hk;split at hk
  .exact MM hk
  .cases hk
theorem a0h(hL:SmL l)(hs:l.2.2[i]? =some s):AO l (i:Int)=some (l9 (x8 (Fb l i s).1 0) (0,0,0,0) (YA i (Fb l i s))):=by
 have hi:=(X6.1 hs).1;have hS:=hL.sc s (kw hs);have hf:=hL.few;have hf1:=hf.1;have hf2:=hf.2.1;have hf3:=hf.2.2;have n1:=hS.ni;have n2:=hS.nd;have n3:=hS.nr;unfold AO Fb;rw[F7,hs,o8,pM hS.nm,o8];cases DY s.1
 .rfl
 simp only[E5,o6,o7];rw[b2D hf,o8];cases Bh l 3 i s.1
 case true=>rfl
 simp only[o6];have hm:(l9 (F8 (x8 s.2.1 (-1))) (l9 (E8 s.2.1 0) (some (Sum.inr ((6:Int),(3:Int),(i:Int),(0:Int)))) (l9 (L8 (i:Int) s.2.1) (some (.inr (6,3,(i:Int),0))) (o5 (F9 l.2.2 s.2.1) λ(x:A7)=>l9 (F8 (x8 x.2.1 (-1))) (some (.inr (6,3,(i:Int),0))) (some (.inl (((0:Int),(0:Int),(0:Int),(0:Int)),(0:Int),(3:Int),(i:Int),(0:Int))))))) (some (.inl ((0,0,0,0),0,3,(i:Int),0))))=
   some (l9 (xQ l i s.2.1) (.inr (6,3,(i:Int),0)) (.inl ((0,0,0,0),0,3,(i:Int),0))):=by
  unfold xQ;cases x8 s.2.1 (-1)
  case true=>rfl
  simp only[aW,o7,o6];cases h0:E8 s.2.1 0
  case true=>rfl
  cases h1:L8 (i:Int) s.2.1
  case true=>rfl
  rw[iE]at h0;rw[Bl]at h1;obtain⟨q,hq,_⟩:=mO (l:=l.2.2) h0 (by simp only[o9];omega);rw[hq];simp only[o6,o8];cases x8 q.2.1 (-1)<;>rfl
 rw[hm,o8];cases xQ l i s.2.1
 case true=>rfl
 simp only[o6,U1];cases E8 12 (o9 s.2.2.1)
 case true=>rfl
 cases E8 12 (o9 s.2.2.2.1)
 case true=>rfl
 simp only[o6];rw[a0e hs l7 l7 hS.fo,o8];unfold Ht;cases hfs:wP l s with
 |some r=>have hc:=GV hfs;simp only[YA];rw[O9 hc];rfl|none=>
  simp only[N9 (rfl:(0:Int)=0),E5,o6];refine X9 (sO (p:=λk=>(FI l s k).map (YA i)) s.2.2.2.2.length l7 _ (0,0,0,0) (λk hk=>?_) ?_) ?_
  rotate_left 2
  .rw[KP];cases hfr:ay s.2.2.2.2.length (FI l s)with
   |some r=>
    obtain⟨k,_,hk⟩:=iP hfr;have hc:r.1≠0:=by
     unfold FI at hk;split at hk
     .exact MM hk
     .cases hk
    simp only[eY,o8,uo];rw[O9 hc];rfl
   |none=>
    simp only[Option.map_none,o8,U1];refine X9 (sO (p:=λk=>(UE s k).map (YA i)) s.2.2.2.1.length l7 _ (0,0,0,0) (λk hk=>?_) ?_) ?_
    rotate_left 2
    .rw[KP];cases hfc:ay s.2.2.2.1.length (UE s)with
     |some r=>
      obtain⟨k,_,hk⟩:=iP hfc;have hc:r.1≠0:=by
       unfold UE at hk;cases hq:(bC s (k:Int)).any λx=>x8 (k:Int) x<;>rw[hq]at hk
       .cases hk
       .cases hk;show(9:Int)≠0;decide
      simp only[eY,o8,uo];rw[O9 hc];rfl
     |none=>rfl
    .have e:=bn hk;have htl:=FV hS (pR s (k:Int)).1 (λx hx=>zZ hx);simp only[J7 e,o7];rw[JH hS,o8,show(200:Int)=((200:Nat):Int)from rfl,XP l7 l7];have hcy:ah (λ(x_6:I4×Int)=>l9 (E8 x_6.2 (o9 (bC s (k:Int)))) (o5 (F9 (bC s (k:Int)) x_6.2) λ(x:Int)=>l9 (x8 x (k:Int)) (some (Out.rt ((9:Int),(3:Int),(i:Int),((200+k:Nat):Int)))) (some (.nx (x_6.1,D5 .i64 x_6.2 1)))) (some (.ex x_6.1))) (((0:Int),(0:Int),(0:Int),(0:Int)),(0:Int))=
       some (l9 ((bC s (k:Int)).any λx=>x8 (k:Int) x) (.inr (9,3,(i:Int),((200+k:Nat):Int))) (.inl (0,0,0,0))):=by
      have h1:=TN (bC s (k:Int)) (λ(b:Int×Int×Int×Int) x=>l9 (x8 x (k:Int)) (.inr ((9:Int),(3:Int),(i:Int),((200+k:Nat):Int))) (.inl b)) (λb i=>(b,i)) (λb=>b) (λ_ _=>True) (b:=((0,0,0,0):Int×Int×Int×Int)) (f:=λ(x_6:I4×Int)=>l9 (E8 x_6.2 (o9 (bC s (k:Int)))) (o5 (F9 (bC s (k:Int)) x_6.2) λ(x:Int)=>l9 (x8 x (k:Int)) (some (Out.rt ((9:Int),(3:Int),(i:Int),((200+k:Nat):Int)))) (some (.nx (x_6.1,D5 .i64 x_6.2 1)))) (some (.ex x_6.1))) l7 trivial (λj x b hx hj _=>by refine⟨?_,λ_ _=>trivial⟩;simp only[J7 hx,o7,F7,hx,o8];rw[Y4 l7];cases x8 x (k:Int)<;>rfl) (λb _=>by simp only[J6];rfl)
      refine h1.1.trans ?_;have hfo:∀(l:d1A) (b:Int×Int×Int×Int),bD (λ(b:Int×Int×Int×Int) x=>l9 (x8 x (k:Int)) (.inr ((9:Int),(3:Int),(i:Int),((200+k:Nat):Int))) (.inl b)) l b=l9 (l.any λx=>x8 (k:Int) x) (.inr (9,3,(i:Int),((200+k:Nat):Int))) (.inl b):=by
       intro l;induction l with
       |nil=>intro b;rfl|cons a l ih=>
        intro b;unfold bD;rw[kE,show x8 (k:Int) a=x8 a (k:Int) by unfold x8;by_cases h:a=(k:Int)<;>simp[h,eq_comm]];cases x8 a (k:Int)
        .simp only[o6,kz];exact ih b
        .rfl
      rw[hfo];cases (bC s (k:Int)).any λx=>x8 (k:Int) x<;>rfl
     refine X9 hcy ?_;unfold UE;cases (bC s (k:Int)).any λx=>x8 (k:Int) x<;>rfl
    .simp only[J6];rfl
  .have e:=bn hk;have hr:=(hS.ro _ (G8 hk)).1;simp only[J7 e,o7];rw[a1v hL.scopes hs e hr,o8,show(300:Int)=((300:Nat):Int)from rfl,XP l7 l7];simp only[FI,e,WC];cases x8 (JV s (BO l s) k s.2.2.2.2[k]) 0<;>rfl
  .simp only[J6];rfl
def Hy(l:U6)(i:Nat):Option (Int×Int×Int×Int):=match l.2.2[i]? with|some s=>Su 3 i (Fb l i s)|none=>none
def OJ(l:U6):Int×Int×Int×Int:=l9 (E8 4 (o9 l.2.2)) (4,3,4,0) (match ay l.2.2.length (Hy l)with|some r=>r|none=>(0,0,0,0))
def fB(l:U6):Int×Int×Int×Int:=l9 (x8 (zy l).1 0) (l9 (x8 (Fp l).1 0) (OJ l) (Fp l)) (zy l)
theorem ZH(hL:SmL l):Ce l=some (OJ l):=by
 have hf:=hL.few.2.2;unfold Ce OJ;cases E8 4 (o9 l.2.2)
 case true=>rfl
 simp only[o6];refine X9 (sO (p:=Hy l) l.2.2.length l7 _ (0,0,0,0) (λi hi=>?_) ?_) ?_
 rotate_left 2
 .cases ay l.2.2.length (Hy l)<;>rfl
 .have e:=bn hi;simp only[J7 e,o7,a1c hL e,o8,Hy,e,Su];cases x8 (Fb l i l.2.2[i]).1 0<;>rfl
 .rw[J6];rfl
theorem a6Z(hL:SmL l):Io l=some (fB l):=by
 unfold Io fB;rw[a1b hL.few hL.en,o8];cases x8 (zy l).1 0
 .rfl
 simp only[E5,o6,o7];rw[ZI hL.few hL.tb,o8];cases x8 (Fp l).1 0
 .rfl
 simp only[E5,o6,o7];rw[ZH hL];rfl
theorem Rh{k i:Int}{c:Int×Int}{r:Int×Int×Int×Int}(h:Su k i c=some r):r.1≠0:=by
 unfold Su at h;cases hc:x8 c.1 0<;>rw[hc]at h
 .cases h;exact yO.1 hc
 .cases h
theorem a3U(hL:SmL l):ES l=some (fB l):=by
 have hf1:=hL.few.1;have hf2:=hL.few.2.1;have hf3:=hL.few.2.2;unfold ES fB zy;cases E8 8 (o9 l.1)
 case true=>rfl
 simp only[o6];refine X9 (sO (p:=GU l) l.1.length l7 _ (0,0,0,0) (λi hi=>?_) ?_) ?_
 rotate_left 2
 .cases hfe:ay l.1.length (GU l)with
  |some r=>
   obtain⟨k,_,hk⟩:=iP hfe;have hc:r.1≠0:=by
    unfold GU at hk;split at hk
    .exact Rh hk
    .cases hk
   simp only[o8,uo,O9 hc,o6]
  |none=>
   simp only[o8,U1,N9 (rfl:(0:Int)=0),o7];unfold Fp;cases E8 8 (o9 l.2.1)
   case true=>rfl
   simp only[o6];refine X9 (sO (p:=JZ l) l.2.1.length l7 _ (0,0,0,0) (λi hi=>?_) ?_) ?_
   rotate_left 2
   .cases hft:ay l.2.1.length (JZ l)with
    |some r=>
     obtain⟨k,_,hk⟩:=iP hft;have hc:r.1≠0:=by
      unfold JZ at hk;split at hk
      .exact Rh hk
      .cases hk
     simp only[o8,uo,O9 hc,o6]
    |none=>
     simp only[o8,U1,N9 (rfl:(0:Int)=0),o7];unfold OJ;cases E8 4 (o9 l.2.2)
     case true=>rfl
     simp only[o6];refine X9 (sO (p:=Hy l) l.2.2.length l7 _ (0,0,0,0) (λi hi=>?_) ?_) ?_
     rotate_left 2
     .cases ay l.2.2.length (Hy l)<;>rfl
     .have e:=bn hi;simp only[J7 e,o7,a0h hL e,o8,Hy,e,Su];cases hc:x8 (Fb l i l.2.2[i]).1 0
      .simp only[o6,YA,hc];rfl
      .simp only[o7,N9 (rfl:(0:Int)=0)];rfl
     .simp only[J6];rfl
   .have e:=bn hi;simp only[J7 e,o7,a0i hL.few e (hL.tb _ (G8 hi)),o8,JZ,e,Su,Sl];cases hc:x8 (Xy l i l.2.1[i]).1 0
    .simp only[o6,hc];rfl
    .simp only[o7,N9 (rfl:(0:Int)=0)];rfl
   .simp only[J6];rfl
 .have e:=bn hi;have hm:=hL.en _ (G8 hi);simp only[J7 e,o7,a1s hL.few e hm.1 hm.2,o8,GU,e,Su,Sl];cases hc:x8 (SN l i l.1[i]).1 0
  .simp only[o6,hc];rfl
  .simp only[o7,N9 (rfl:(0:Int)=0)];rfl
 .simp only[J6];rfl
structure SmC (c:aF):Prop where
 ni:c.2.1.length<=1000
 nm:c.2.2.length<=1000
 nv:∀v∈c.2.2,v.length<=1000
def a9h(en:List jA)(fs:List jB)(vs:List V8)(i:Nat):Option (Int×Int):=match vs[i]?,fs[i]? with
 |some v,some f=>l9 (x8 v.1 f.2.1) (l9 (x8 v.2.1 f.2.2) (l9 (inB v.2.2 (bnd f.2 en)) none (some ((i:Int),3))) (some ((i:Int),8))) (some ((i:Int),8))|_,_=>none
def BP(en:List jA)(fs:List jB)(vs:List V8):Int×Int:=
 l9 (E8 (o9 vs) (o9 fs)) (o9 vs,5) (l9 (E8 (o9 fs) (o9 vs)) (o9 fs,4) (match ay vs.length (a9h en fs vs)with|some r=>r|none=>(0,0)))
theorem PN(l:U6){vs:List V8}{fs:List jB}(hv:vs.length<=1000000):qi l vs fs=some (BP l.1 fs vs):=by
 unfold qi BP;cases h1:E8 (o9 vs) (o9 fs)
 case true=>rfl
 cases h2:E8 (o9 fs) (o9 vs)
 case true=>rfl
 simp only[o6];have hl:vs.length=fs.length:=by rw[iE]at h1 h2;simp only[o9]at h1 h2;omega
 refine X9 (uP (p:=a9h l.1 fs vs) vs.length hv PUnit.unit (λk hk=>?_) ?_) ?_
 rotate_left 2
 .cases ay vs.length (a9h l.1 fs vs)<;>rfl
 .have e:=bn hk;have e2:=bn (show k<fs.length by omega);simp only[J7 e,o7,F7,e,e2,o8,Wq,a9h,inB,rX];cases x8 vs[k].1 fs[k].2.1
  .rfl
  cases x8 vs[k].2.1 fs[k].2.2
  .rfl
  cases L8 (bnd fs[k].2 l.1).1 vs[k].2.2
  .rfl
  cases L8 vs[k].2.2 (bnd fs[k].2 l.1).2<;>rfl
 .rw[J6];rfl
theorem a0f(l:U6){vs:List V8}{fs:List jB}(hv:vs.length<=1000000):AQ l fs vs=some (BP l.1 fs vs):=by
 unfold AQ BP;cases h1:E8 (o9 vs) (o9 fs)
 case true=>rfl
 cases h2:E8 (o9 fs) (o9 vs)
 case true=>rfl
 simp only[o6];have hl:vs.length=fs.length:=by rw[iE]at h1 h2;simp only[o9]at h1 h2;omega
 refine X9 (uP (p:=a9h l.1 fs vs) vs.length hv PUnit.unit (λk hk=>?_) ?_) ?_
 rotate_left 2
 .cases ay vs.length (a9h l.1 fs vs)<;>rfl
 .have e:=bn hk;have e2:=bn (show k<fs.length by omega);simp only[J7 e,o7,F7,e,e2,o8,a3Q,a9h,Ud];cases x8 vs[k].1 fs[k].2.1
  .rfl
  cases x8 vs[k].2.1 fs[k].2.2
  .rfl
  cases inB vs[k].2.2 (bnd fs[k].2 l.1)<;>rfl
 .rw[J6];rfl
def nV(l:U6)(s:A7):List jB×Int:=match F9 l.2.2 s.2.1 with|some q=>(q.2.2.1,8)|none=>([],0)
def WR(en:List jA)(fs:List jB)(ms:List (List V8))(i:Nat):Option (Int×Int×Int):=match ms[i]? with
 |some vs=>l9 (x8 (BP en fs vs).2 0) none (some ((i:Int),BP en fs vs))|none=>none
def Ba(l:U6)(k:Int)(c:aF):Int×Int×Int:=match F9 l.2.2 k with
 |none=>(-1,-1,6)
 |some s=>l9 (E8 c.1 0) (-1,-1,3) (l9 (E8 109572 c.1) (-1,-1,3) (l9 (x8 (BP l.1 s.2.2.1 c.2.1).2 0)
   (l9 (E8 (nV l s).2 (o9 c.2.2)) ((nV l s).2,-1,4) (match ay c.2.2.length (WR l.1 (nV l s).1 c.2.2)with|some r=>r|none=>(0,0,0))) (-1,BP l.1 s.2.2.1 c.2.1)))
theorem a6y{k:Int}{A B:Option (PUnit⊕(Int×Int×Int))} :(∃s,F9 l.2.2 k=some s/\l9 (E8 k 0) A (l9 (L8 (o9 l.2.2) k) A B)=B/\s∈l.2.2)\/(F9 l.2.2 k=none/\l9 (E8 k 0) A (l9 (L8 (o9 l.2.2) k) A B)=A):=by
 rw[rX k 0,Gv (o9 l.2.2) k];cases h0:L8 0 k
 .exact .inr ⟨tY (.inl h0),rfl⟩
 cases h1:E8 k (o9 l.2.2)
 .exact .inr ⟨tY (.inr h1),rfl⟩
 obtain⟨s,hs,hm⟩:=mO (iQ.1 h0) (jF.1 h1);exact .inl ⟨s,hs,rfl,hm⟩
theorem b8b(l:U6)(k:Int){c:aF}(hc:SmC c):yS l k c=some (Ba l k c):=by
 unfold yS Ba;rcases a6y (l:=l) (k:=k) (A:=some (.inr ((-1:Int),(-1:Int),(6:Int)))) (B:=some (.inl PUnit.unit))with⟨s,hs,hb,_⟩|⟨hs,hb⟩
 .rw[hb,hs];simp only[o8,U1];cases E8 c.1 0
  case true=>rfl
  cases E8 109572 c.1
  case true=>rfl
  simp only[o6,o8,U1];rw[PN l (by have:=hc.ni;omega),o8];cases x8 (BP l.1 s.2.2.1 c.2.1).2 0
  .rfl
  simp only[E5,o6,o7];have hm:uq l k=some (nV l s):=by
   unfold uq nV;rw[hs,o8,rX s.2.1 0,Gv (o9 l.2.2) s.2.1];cases h0:L8 0 s.2.1
   .rw[tY (.inl h0)];rfl
   cases h1:E8 s.2.1 (o9 l.2.2)
   .rw[tY (.inr h1)];rfl
   obtain⟨q,hq,_⟩:=mO (iQ.1 h0) (jF.1 h1);rw[hq];rfl
  rw[hm,o8];cases E8 (nV l s).2 (o9 c.2.2)
  case true=>rfl
  simp only[o6];refine X9 (uP (p:=WR l.1 (nV l s).1 c.2.2) c.2.2.length (by have:=hc.nm;omega) PUnit.unit (λj hj=>?_) ?_) ?_
  rotate_left 2
  .cases ay c.2.2.length (WR l.1 (nV l s).1 c.2.2)<;>rfl
  .have e:=bn hj;simp only[J7 e,o7,F7,e,o8];rw[PN l (by have:=hc.nv _ (G8 hj);omega),o8];simp only[WR,e];cases x8 (BP l.1 (nV l s).1 c.2.2[j]).2 0<;>rfl
  .rw[J6];rfl
 .rw[hb,hs];rfl
theorem b5y(l:U6)(k:Int){c:aF}(hc:SmC c):ET l k c=some (Ba l k c):=by
 unfold ET Ba;rcases a6y (l:=l) (k:=k) (A:=some (.inr ((-1:Int),(-1:Int),(6:Int)))) (B:=some (.inl PUnit.unit))with⟨s,hs,hb,_⟩|⟨hs,hb⟩
 .rw[hb,hs];simp only[o8,U1];cases E8 c.1 0
  case true=>rfl
  cases E8 109572 c.1
  case true=>rfl
  simp only[o6,o8,U1];rw[a0f l (by have:=hc.ni;omega),o8];cases x8 (BP l.1 s.2.2.1 c.2.1).2 0
  .rfl
  simp only[E5,o6,o7];have hm:GH l k=some (l9 (L8 0 s.2.1) (l9 (E8 s.2.1 (o9 l.2.2)) (s.2.1,8) (-1,0)) (-1,0)):=by
   unfold GH;rw[hs,o8,rX s.2.1 0,Gv (o9 l.2.2) s.2.1];cases L8 0 s.2.1
   .rfl
   cases E8 s.2.1 (o9 l.2.2)<;>rfl
  rw[hm,o8];unfold nV;have hz:∀(m:Int) (fs:List jB),l9 (E8 (0:Int) (o9 c.2.2)) (some (((0:Int),(-1:Int),(4:Int)):Int×Int×Int)) (o5 (ah (λ(x_1:Int)=>l9 (E8 x_1 (o9 c.2.2)) (o5 (F9 l.2.2 m) λ(x:A7)=>o5 (F9 c.2.2 x_1) λ(x_2:List V8)=>o5 (AQ l x.2.2.1 x_2) λ(x:F6)=>l9 (F8 (x8 x.2 0)) (some (Out.rt ((x_1,x):Int×Int×Int))) (some (.nx (D5 .i64 x_1 1)))) (some (.ex PUnit.unit))) 0) λ(o:PUnit⊕V8)=>aj o (λ(y:PUnit)=>some (0,0,0)) λ(r:V8)=>some r)=
    some (l9 (E8 0 (o9 c.2.2)) (0,-1,4) (match ay c.2.2.length (WR l.1 fs c.2.2)with|some r=>r|none=>(0,0,0))):=by
   intro m fs;cases h0:E8 0 (o9 c.2.2)
   case true=>rfl
   have:c.2.2.length=0:=by rw[iE]at h0;simp only[o9]at h0;omega
   have hnil:c.2.2=[]:=U2.1 this;rw[hnil];rfl
  cases h0:L8 0 s.2.1
  .rw[tY (.inl h0)];exact hz _ _
  cases h1:E8 s.2.1 (o9 l.2.2)
  .rw[tY (.inr h1)];exact hz _ _
  obtain⟨q,hq,_⟩:=mO (iQ.1 h0) (jF.1 h1);rw[hq];simp only[o7];cases E8 8 (o9 c.2.2)
  case true=>rfl
  simp only[o6];refine X9 (uP (p:=WR l.1 q.2.2.1 c.2.2) c.2.2.length (by have:=hc.nm;omega) PUnit.unit (λj hj=>?_) ?_) ?_
  rotate_left 2
  .cases ay c.2.2.length (WR l.1 q.2.2.1 c.2.2)<;>rfl
  .have e:=bn hj;simp only[J7 e,o7,F7,e,o8,hq];rw[a0f l (by have:=hc.nv _ (G8 hj);omega),o8];simp only[WR,e];cases x8 (BP l.1 q.2.2.1 c.2.2[j]).2 0<;>rfl
  .rw[J6];rfl
 .rw[hb,hs];rfl
def TC(r:Int×Int)(t:Int):Bool:=l9 (Jn r) (l9 (L8 r.1 t) (E8 t r.2) false) false
theorem KG(r:Int×Int)(t:Int):pz r t=some (TC r t):=by
 unfold pz TC;rw[MK,o8];cases Jn r
 .rfl
 cases L8 r.1 t<;>rfl
theorem Om(r:Int×Int)(t:Int):xx r t=some (TC r t):=KG r t
section
variable (on:Nat->Bool) (par:Nat->Int)
def dE(i:Nat):Nat:=((List.range i).filter on).length
def Iu(i:Nat):Int:=if on i=true then(dE on i:Int)else if h:0<=par i/\par i<(i:Int)then Iu (par i).toNat else -1
termination_by i
decreasing_by omega
def anc(i:Nat):Int:=if 0<=par i/\par i<(i:Int)then Iu on par (par i).toNat else -1
theorem Oc(i:Nat):Iu on par i=if on i=true then(dE on i:Int)else anc on par i:=by
 rw[Iu];unfold anc;by_cases h:on i=true
 .rw[if_pos h,if_pos h]
 .rw[if_neg h,if_neg h];by_cases h2:0<=par i/\par i<(i:Int)
  .rw[dif_pos h2,if_pos h2]
  .rw[dif_neg h2,if_neg h2]
def onL(n:Nat):d1B:=(List.range n).filter on
theorem EE(i:Nat):onL on (i+1)=onL on i++(bif on i then[i]else[]):=by unfold onL;rw[X3,ny];rw[show List.filter on [i]=bif on i then[i]else[] by rw[bK];cases on i<;>rfl]
theorem ED(i:Nat):(onL on i).length<=i:=by have:=aJ on (List.range i);unfold onL;simpa using this
theorem CE{n p:Nat}(hp:p<n)(h:on p=true):(onL on n)[dE on p]? =some p:=by
 induction n with
 |zero=>omega|succ n ih=>
  rw[EE];by_cases hq:p=n
  .subst hq;rw[h,J4 (by unfold dE onL;omega)];unfold dE onL;simp
  .have:=ih l7;rw[U5 (X6.1 this).1];exact this
theorem LV(h:i∈onL on n):i<n/\on i=true:=by unfold onL at h;obtain⟨h1,h2⟩:=I7.1 h;exact⟨P8.1 h1,h2⟩
end
def castL(l:d1B):d1A:=l.map λ(i:Nat)=>(i:Int)
theorem MH{l:d1B}{i a:Nat}(h:l[i]? =some a):(castL l)[i]? =some (a:Int):=by unfold castL;rw[I8,h];rfl
theorem b2l{rs:List Z7}{on:Nat->Bool}{f:d1A×d1A×d1A×Int->Option ((d1A×d1A×d1A×Int)⊕(d1A×d1A))}(hl:rs.length<=1000)
  (hin:∀(i:Nat) (r:Z7) (A B C:d1A),rs[i]? =some r->f (A,B,C,(i:Int))=o5 (l9 (L8 0 r.2.2.1) (l9 (E8 r.2.2.1 (i:Int)) (o5 (F9 C r.2.2.1) λ(x_2:Int)=>o5 (V6 C (V9 r.2.2.1)) λ(x:Int)=>some x) (some (-1))) (some (-1))) λ(x_2:Int)=>
   o5 (F9 C (i:Int)) λ(x_3:Int)=>o5 (V6 C (V9 (i:Int))) λ(x_4:Int)=>l9 (on i) (o5 (F9 (aU C (V9 (i:Int)) x_2) (i:Int)) λ(x_6:Int)=>o5 (V6 (aU C (V9 (i:Int)) x_2) (V9 (i:Int))) λ(x_7:Int)=>o5 (cu A [(i:Int)]) λ(x_8:d1A)=>o5 (cu B [x_2]) λ(x_9:d1A)=>
     some (.inl (x_8,x_9,aU (aU C (V9 (i:Int)) x_2) (V9 (i:Int)) (o9 A),D5 .i64 (i:Int) 1))) (some (.inl (A,B,aU C (V9 (i:Int)) x_2,D5 .i64 (i:Int) 1))))
  (hend:∀(A B C:d1A),f (A,B,C,(rs.length:Int))=some (.inr (A,B))):
  aB f ([],[],List.replicate rs.length 0,0)=some (castL (onL on rs.length),(onL on rs.length).map (anc on λi=>match rs[i]? with|some r=>r.2.2.1|none=>-1)):=by
 obtain⟨par,hpar⟩:∃par:Nat->Int,par=λi=>match rs[i]? with|some r=>r.2.2.1|none=>-1:=⟨_,rfl⟩
 rw[←hpar];obtain⟨e,h1,h2⟩:=iJ (f:=f) (s:=([],[],List.replicate rs.length 0,0)) (λx=>∃i:Nat,x=(castL (onL on i),(onL on i).map (anc on par),pd ((List.range i).map (Iu on par)) (rs.length -i),(i:Int))/\i<=rs.length)
  (λe=>e=(castL (onL on rs.length),(onL on rs.length).map (anc on par))) (λx=>rs.length -x.2.2.2.toNat) ⟨0,by simp[onL,castL,pd],l7⟩ Z5 (by
  rintro x ⟨i,rfl,hi⟩;by_cases h:i<rs.length
  .left;have e:=bn h;have hp:par i=rs[i].2.2.1:=by rw[hpar];simp only[e]
   obtain⟨p,hpp⟩:∃p:Int,p=par i:=⟨_,rfl⟩;have hp' :rs[i].2.2.1=p:=by rw[hpp,hp]
   have hlen:((List.range i).map (Iu on par)).length=i:=x9;have hol:=ED on i;obtain⟨m,hm⟩:∃m,rs.length -i=m+1:=⟨rs.length -i -1,l7⟩;have hanc:o5 (l9 (L8 0 p) (l9 (E8 p (i:Int)) (o5 (F9 (pd ((List.range i).map (Iu on par)) (m+1)) p) λ(x_2:Int)=>o5 (V6 (pd ((List.range i).map (Iu on par)) (m+1)) (V9 p)) λ(x:Int)=>some x) (some (-1))) (some (-1))) (λx=>some x)=some (anc on par i):=by
    unfold anc;rw[←hpp];by_cases h0:0<=p
    .rw[Y3 h0];by_cases h1:p<(i:Int)
     .have hk:p.toNat<i:=l7;have hg:(pd ((List.range i).map (Iu on par)) (m+1))[p.toNat]? =some (Iu on par p.toNat):=by
       unfold pd;rw[U5 Z5,Ip _ _ hk]
      rw[U8 h1,if_pos ⟨h0,h1⟩];simp only[o7];rw[show F9 (pd ((List.range i).map (Iu on par)) (m+1)) p=some (Iu on par p.toNat) by unfold F9;rw[if_pos h0];exact hg,o8,show V6 (pd ((List.range i).map (Iu on par)) (m+1)) (V9 p)=some (Iu on par p.toNat)from hg];rfl
     .rw[N7 l7,if_neg l7];rfl
    .rw[Y9 l7,if_neg l7];rfl
   rw[ig]at hanc;refine⟨(castL (onL on (i+1)),(onL on (i+1)).map (anc on par),pd ((List.range (i+1)).map (Iu on par)) (rs.length -(i+1)),((i+1:Nat):Int)),?_,⟨i+1,rfl,h⟩,by simp;omega⟩;rw[hin i _ _ _ _ e,hm,hp',hanc,o8,Y4 l7,show rs.length -(i+1)=m by omega,EE,X3,bY];have q1:=a3G ((List.range i).map (Iu on par)) m;have q2:=a3H ((List.range i).map (Iu on par)) m;have q3:=a8f ((List.range i).map (Iu on par)) m (anc on par i);have q4:=Rz ((List.range i).map (Iu on par)) m (anc on par i);have q5:=Qo ((List.range i).map (Iu on par)) m (anc on par i);have q6:=Vr ((List.range i).map (Iu on par)) m (anc on par i) (o9 (castL (onL on i)));rw[hlen]at q1 q2 q3 q4 q5 q6;rw[q1,o8,q2,o8,q3];have hna:(List.map (Iu on par) (List.range i++[i]))=(List.range i).map (Iu on par)++[if on i=true then(dE on i:Int)else anc on par i]:=by rw[bY,List.map_singleton,Oc]
   rw[hna];cases hon:on i
   .simp[castL]
   .simp only[o7,cond_true];rw[q4,o8,q5,o8,fQ _ (by simp[castL];omega),o8,fQ _ Z5,o8,q6];simp[castL,o9,dE,onL]
  .right;have:i=rs.length:=l7;subst this;exact⟨_,hend _ _ _,rfl⟩)
 rw[h1,h2]
def onR(s:A7)(d t:Int)(i:Nat):Bool:=match s.2.2.2.2[i]? with|some r=>l9 (x8 r.2.1 d) (TC r.2.2.2.2.1 t) false|none=>false
def dA(s:A7)(i:Nat):Int:=match s.2.2.2.2[i]? with|some r=>r.2.2.1|none=>-1
def V5(s:A7)(d t:Int):d1B:=onL (onR s d t) s.2.2.2.2.length
def Bg(s:A7)(i:Nat):Int:=match s.2.2.2.2[i]? with|some r=>r.2.2.2.1|none=>0
def aV(s:A7)(d t:Int):d1A×d1A×d1A:=(castL (V5 s d t),(V5 s d t).map (anc (onR s d t) (dA s)),(V5 s d t).map (Bg s))
theorem c0O(h:s.2.2.2.2[i]? =some r)(d t:Int):xM r d t=some (onR s d t i):=by unfold xM onR;rw[h,KG];simp only;cases x8 r.2.1 d<;>rfl
theorem a4c(h:s.2.2.2.2.length<=1000)(d t:Int):wO s.2.2.2.2 (d,t)=some (castL (V5 s d t),(V5 s d t).map (anc (onR s d t) (dA s))):=by
 unfold wO;rw[show pX (o9 s.2.2.2.2) (0:Int)=some (List.replicate s.2.2.2.2.length 0) by unfold pX;rw[if_pos (by simp[o9];omega)];simp[o9],o8,ig];refine b2l h (λi r A B C hr=>?_) (λA B C=>?_)
 .simp only[J7 hr,o7,F7,hr,o8];rw[c0O hr];rfl
 .simp only[J6];rfl
theorem jH{d t:Int}(h:i∈V5 s d t):i<s.2.2.2.2.length/\onR s d t i=true:=LV _ h
theorem b2H(h:s.2.2.2.2.length<=1000)(d t:Int):Af s d t=some (aV s d t):=by
 have hl:=ED (onR s d t) s.2.2.2.2.length;unfold Af;rw[a4c h,o8];refine X9 (b3K (castL (V5 s d t)) (λ(k:Int)=>Bg s k.toNat) (F:=id) (by unfold castL V5;simp;omega) (λi a acc ha hacc=>?_) (λacc=>?_)) ?_
 rotate_left 2
 .rw[o8];unfold aV castL;rw[qL];rfl
 .simp only[J7 ha,o7,F7 (castL (V5 s d t)),ha,o8];rw[show V6 (castL (V5 s d t)) (V9 (i:Int))=some a from ha,o8];obtain⟨k,hk,rfl⟩:∃k,k∈V5 s d t/\(k:Int)=a:=by
   have:=kw ha;unfold castL at this;exact U0.1 this
  have hlt:=jH hk;have e:=bn hlt.1;have hil:=(X6.1 ha).1;simp only[castL,H7]at hil;rw[F7,e,o8,fQ _ (by unfold V5 at hil;omega),o8];simp only[Bg,D8,e]
 .simp only[J6];rfl
theorem a6f(h:s.2.2.2.2.length<=1000)(d t:Int):GG s d t=some (castL (V5 s d t)):=by
 unfold GG;rw[ig];obtain⟨e,h1,h2⟩:=iJ (f:=λ(x:d1A×Int)=>l9 (E8 x.2 (o9 s.2.2.2.2)) (o5 (F9 s.2.2.2.2 x.2) λ(x_1:Z7)=>l9 (x8 x_1.2.1 d) (o5 (F9 s.2.2.2.2 x.2) λ(x_2:Z7)=>o5 (xx x_2.2.2.2.2.1 t) λ(x_3:Bool)=>
   l9 x_3 (o5 (cu x.1 [x.2]) λ(x_4:d1A)=>some (.inl (x_4,D5 .i64 x.2 1))) (some (.inl (x.1,D5 .i64 x.2 1)))) (some (.inl (x.1,D5 .i64 x.2 1)))) (some (.inr x.1)))
  (s:=([],0)) (λx=>∃i:Nat,x=(castL (onL (onR s d t) i),(i:Int))/\i<=s.2.2.2.2.length) (λe=>e=castL (V5 s d t)) (λx=>s.2.2.2.2.length -x.2.toNat) ⟨0,rfl,l7⟩ Z5 (by
  rintro x ⟨i,rfl,hi⟩;by_cases hlt:i<s.2.2.2.2.length
  .left;have e:=bn hlt;have hol:=ED (onR s d t) i;refine⟨(castL (onL (onR s d t) (i+1)),((i+1:Nat):Int)),?_,⟨i+1,rfl,hlt⟩,by simp;omega⟩;simp only[J7 e,o7,F7,e,o8,Om];rw[Y4 l7,fQ _ (by simp[castL];omega),EE];have hon:onR s d t i=l9 (x8 s.2.2.2.2[i].2.1 d) (TC s.2.2.2.2[i].2.2.2.2.1 t) false:=by unfold onR;rw[e]
   rw[hon];cases x8 s.2.2.2.2[i].2.1 d
   .simp[castL]
   simp only[o7];cases TC s.2.2.2.2[i].2.2.2.2.1 t<;>simp[castL]
  .right;have:i=s.2.2.2.2.length:=l7;subst this;exact⟨_,by rw[J6];rfl,rfl⟩)
 rw[h1,h2]
theorem IZ{l:d1B}(hl:l.Pairwise (·< ·)){i j a:Nat}(hi:l[i]? =some a)(hj:l[j]? =some a):i=j:=by
 obtain⟨h1,h2⟩:=X6.1 hi;obtain⟨h3,h4⟩:=X6.1 hj;rcases Nat.lt_trichotomy i j with h|h|h
 .have:=iZ.1 hl i j h1 h3 h;omega
 .exact h
 .have:=iZ.1 hl j i h3 h1 h;omega
theorem Qn(on:Nat->Bool)(n:Nat):(onL on n).Pairwise (·< ·):=List.Pairwise.filter _ su
theorem b2a(on:Nat->Bool){n p:Nat}(hn:n<=1000)(hp:p<n):Hf (castL (onL on n)) (p:Int)=some (if on p=true then(dE on p:Int)else -1):=by
 have hl:=ED on n;unfold Hf;have key:=xP (f:=λ(x:Int)=>l9 (E8 x (o9 (castL (onL on n)))) (o5 (F9 (castL (onL on n)) x) λ(x_1:Int)=>l9 (x8 x_1 (p:Int)) (some (.rt x)) (some (.nx (D5 .i64 x 1)))) (some (.ex PUnit.unit)))
  (s:=0) (λx=>∃i:Nat,x=i/\i<=(onL on n).length/\∀j,j<i->(onL on n)[j]?≠some p) (λ_=>∀j,j<(onL on n).length->(onL on n)[j]?≠some p) (λr=>∃i:Nat,r=(i:Int)/\(onL on n)[i]? =some p) (λx=>(onL on n).length -x.toNat) ⟨0,rfl,l7,λj hj=>by omega⟩ Z5 (by
  rintro x ⟨i,rfl,hi,hno⟩;by_cases hlt:i<(onL on n).length
  .have e:=bn hlt;have e2:=MH e;have e3:E8 (i:Int) (o9 (castL (onL on n)))=true:=J7 e2;rw[e3,o7,F7,e2,o8];by_cases hq:(onL on n)[i]=p
   .right;right;exact⟨_,by rw[N9 l7];rfl,i,rfl,by rw[e,hq]⟩
   .left;refine⟨((i+1:Nat):Int),by rw[O9 l7,Y4 l7];rfl,⟨i+1,rfl,hlt,λj hj=>?_⟩,by simp;omega⟩;by_cases hji:j=i
    .subst hji;rw[e];intro h;exact hq (I9 h)
    .exact hno j l7
  .right;left;have hil:i=(onL on n).length:=l7;subst hil;have e3:E8 ((onL on n).length:Int) (o9 (castL (onL on n)))=false:=by
    have:=J6 (castL (onL on n));rw[show(castL (onL on n)).length=(onL on n).length by simp[castL]]at this;exact this
   exact⟨_,by rw[e3];rfl,hno⟩)
 rcases key with⟨e,k1,k2⟩|⟨r,k1,i,k2,k3⟩
 .refine(lV k1 _).trans ?_;by_cases ho:on p=true
  .have:=CE on hp ho;exact absurd this (k2 _ (X6.1 this).1)
  .rw[if_neg ho];rfl
 .refine(lV k1 _).trans ?_;have hm:=LV on (kw k3);have:=CE on hp hm.2;rw[if_pos hm.2,k2,IZ (Qn on n) k3 this];rfl
theorem c0h(on:Nat->Bool)(par:Nat->Int):∀i:Nat,anc on par i=if h:0<=par i/\par i<(i:Int)then(if on (par i).toNat=true then(dE on (par i).toNat:Int)else anc on par (par i).toNat)else -1:=by
 intro i;by_cases h:0<=par i/\par i<(i:Int)
 .rw[dif_pos h];rw[show anc on par i=Iu on par (par i).toNat by unfold anc;rw[if_pos h],Oc]
 .rw[dif_neg h];unfold anc;rw[if_neg h]
theorem a8n(h:s.2.2.2.2.length<=1000)(on:Nat->Bool)(hi:i<s.2.2.2.2.length):IE s (castL (onL on s.2.2.2.2.length)) (i:Int)=some (anc on (dA s) i):=by
 unfold IE;have hp:∀k:Nat,(hk:k<s.2.2.2.2.length)->∃r,s.2.2.2.2[k]? =some r/\(dA s k=r.2.2.1):=λk hk=>⟨_,bn hk,by unfold dA;rw[bn hk]⟩;obtain⟨r,hr,hpr⟩:=hp i hi;rw[F7,hr,o8];have key:=xP (f:=λ(x:Int×Int)=>l9 (L8 0 x.2) (l9 (E8 x.2 x.1) (o5 (Hf (castL (onL on s.2.2.2.2.length)) x.2) λ(x_1:Int)=>l9 (L8 0 x_1) (some (.rt x_1)) (o5 (F9 s.2.2.2.2 x.2) λ(x_2:Z7)=>some (.nx (x.2,x_2.2.2.1)))) (some (.ex PUnit.unit))) (some (.ex PUnit.unit)))
  (s:=((i:Int),r.2.2.1)) (λx=>∃k:Nat,x=((k:Int),dA s k)/\k<s.2.2.2.2.length/\anc on (dA s) k=anc on (dA s) i) (λ_=>anc on (dA s) i=-1) (λq=>q=anc on (dA s) i) (λx=>x.1.toNat) ⟨i,by rw[hpr],hi,rfl⟩ Z5 (by
  rintro x ⟨k,rfl,hk,ha⟩;simp only;rw[←ha,c0h on (dA s) k];by_cases hc:0<=dA s k/\dA s k<(k:Int)
  .rw[Y3 hc.1,U8 hc.2,dif_pos hc];simp only[o7];obtain⟨p,hpp⟩:∃p:Nat,dA s k=(p:Int):=⟨(dA s k).toNat,l7⟩;rw[hpp,b2a on h (show p<s.2.2.2.2.length by omega),o8,D8];by_cases ho:on p=true
   .rw[if_pos ho,if_pos ho];exact .inr (.inr ⟨_,by rw[Y3 l7];rfl,rfl⟩)
   .rw[if_neg ho,if_neg ho];left;obtain⟨q,hq1,hq2⟩:=hp p l7;refine⟨((p:Int),dA s p),by rw[Y9 l7,o6,F7,hq1,o8,hq2],⟨p,rfl,l7,?_⟩,by simp;omega⟩;rfl
  .rw[dif_neg hc];right;left;refine⟨PUnit.unit,?_,rfl⟩;by_cases h0:0<=dA s k
   .rw[Y3 h0,N7 l7];rfl
   .rw[Y9 l7];rfl)
 rcases key with⟨e,k1,k2⟩|⟨q,k1,k2⟩
 .refine(lV k1 _).trans ?_;rw[k2];rfl
 .refine(lV k1 _).trans ?_;rw[k2];rfl
theorem a8p(h:s.2.2.2.2.length<=1000)(d t:Int):IC s d t=some (aV s d t):=by
 have hl:=ED (onR s d t) s.2.2.2.2.length;unfold IC;rw[a6f h,o8];refine dI (castL (V5 s d t)) (λ(b:d1A×d1A) (k:Int)=>(b.1++[anc (onR s d t) (dA s) k.toNat],b.2++[Bg s k.toNat])) (λb i=>(b.1,b.2,i)) (λb=>b) (λi b=>b.1.length=i/\b.2.length=i) (([],[]):d1A×d1A) (by unfold castL V5;simp;omega) x9 (λi a b ha hi hI=>?_) (λb hI=>?_) (λh2=>?_)
 .obtain⟨b1,b2⟩:=b;simp only at hI;simp only[J7 ha,o7,F7 (castL (V5 s d t)),ha,o8];rw[show V6 (castL (V5 s d t)) (V9 (i:Int))=some a from ha,o8];obtain⟨k,hk,rfl⟩:∃k,k∈V5 s d t/\(k:Int)=a:=by
   have:=kw ha;unfold castL at this;exact U0.1 this
  have hlt:=jH hk;have e:=bn hlt.1;have hil:=(X6.1 ha).1;simp only[castL,H7]at hil;unfold V5 at hil;rw[show castL (V5 s d t)=castL (onL (onR s d t) s.2.2.2.2.length)from rfl,a8n h _ hlt.1,o8,fQ _ l7,o8,o8,F7,e,o8,fQ _ l7,o8,Y4 l7];refine⟨?_,by simp[hI.1],by simp[hI.2]⟩;simp only[Bg,D8,e]
 .simp only[J6];rfl
 .have hf:∀(l:d1B) (b:d1A×d1A),(castL l).foldl (λ(b:d1A×d1A) (k:Int)=>(b.1++[anc (onR s d t) (dA s) k.toNat],b.2++[Bg s k.toNat])) b=(b.1++l.map (anc (onR s d t) (dA s)),b.2++l.map (Bg s)):=by
   intro l;induction l with
   |nil=>intro b;simp[castL]|cons a l ih=>intro b;rw[show castL (a::l)=(a:Int)::castL l from rfl,P6,ih];simp
  rw[hf];rfl
end
section
def Pn(par prio:d1A)(i:Nat):d1G:=match par[i]?,prio[i]? with
 |some p,some q=>l9 (E8 p (-1)) (some 9) (l9 (L8 (i:Int) p) (some 9) (l9 (E8 q 0) (some 3) (l9 (E8 9 q) (some 3) none)))|_,_=>none
def Aa(par prio:d1A):Int:=l9 (F8 (x8 (o9 par) (o9 prio))) 2 (l9 (E8 8 (o9 par)) 4 (match ay par.length (Pn par prio)with|some r=>r|none=>0))
theorem b7H(par prio:d1A):yY par prio=some (Aa par prio):=by
 unfold yY Aa;cases h1:x8 (o9 par) (o9 prio)
 .rfl
 simp only[E5,o6];cases h2:E8 8 (o9 par)
 case true=>rfl
 simp only[o6];have hl:par.length=prio.length:=by rw[O5]at h1;simp only[o9]at h1;omega
 refine X9 (uP (p:=Pn par prio) par.length (by rw[iE]at h2;simp only[o9]at h2;omega) PUnit.unit (λk hk=>?_) ?_) ?_
 rotate_left 2
 .cases ay par.length (Pn par prio)<;>rfl
 .have e:=bn hk;have e2:=bn (show k<prio.length by omega);simp only[J7 e,o7,F7,e,e2,o8,Pn];cases E8 par[k] (-1)
  case true=>rfl
  cases L8 (k:Int) par[k]
  case true=>rfl
  cases E8 prio[k] 0
  case true=>rfl
  cases E8 9 prio[k]<;>rfl
 .rw[J6];rfl
theorem b2d(par prio:d1A):ER par prio=some (Aa par prio):=by
 unfold ER Aa;cases h1:x8 (o9 par) (o9 prio)
 .rfl
 simp only[E5,o6];cases h2:E8 8 (o9 par)
 case true=>rfl
 simp only[o6];have hl:par.length=prio.length:=by rw[O5]at h1;simp only[o9]at h1;omega
 refine X9 (uP (p:=Pn par prio) par.length (by rw[iE]at h2;simp only[o9]at h2;omega) PUnit.unit (λk hk=>?_) ?_) ?_
 rotate_left 2
 .cases ay par.length (Pn par prio)<;>rfl
 .have e:=bn hk;have e2:=bn (show k<prio.length by omega);simp only[J7 e,o7,F7,e,e2,o8,Pn];cases E8 par[k] (-1)
  case true=>rfl
  cases L8 (k:Int) par[k]
  case true=>rfl
  cases E8 prio[k] 0
  case true=>rfl
  cases E8 9 prio[k]<;>rfl
 .rw[J6];rfl
theorem vF{ρ:Type}{n:Nat}{p:Nat->Option ρ}(h:ay n p=none):∀i,i<n->p i=none:=by unfold ay at h;intro i hi;exact dH.1 h i (P8.2 hi)
theorem Gp{par prio:d1A}(h:Aa par prio=0):par.length=prio.length/\par.length<=8/\∀(i:Nat) (p:Int),par[i]? =some p->-1<=p/\p<(i:Int):=by
 unfold Aa at h;cases h1:x8 (o9 par) (o9 prio)<;>rw[h1]at h
 .cases h
 simp only[E5,o6]at h;cases h2:E8 8 (o9 par)<;>rw[h2]at h
 case true=>cases h
 simp only[o6]at h;have hl:par.length=prio.length:=by rw[O5]at h1;simp only[o9]at h1;omega
 refine⟨hl,by rw[iE]at h2;simp only[o9]at h2;omega,λi p hp=>?_⟩;have hi:=(X6.1 hp).1;cases hf:ay par.length (Pn par prio)with
 |some r=>
  rw[hf]at h;simp only at h;obtain⟨k,hk,hr⟩:=iP hf;unfold Pn at hr;split at hr
  .subst h;rename_i a b _ _;cases c1:E8 a (-1)<;>rw[c1]at hr<;>try (cases hr;done)
   cases c2:L8 (k:Int) a<;>rw[c2]at hr<;>try (cases hr;done)
   cases c3:E8 b 0<;>rw[c3]at hr<;>try (cases hr;done)
   cases c4:E8 9 b<;>rw[c4]at hr<;>cases hr
  .cases hr
 |none=>
  have:=vF hf i hi;unfold Pn at this;rw[hp,bn (show i<prio.length by omega)]at this;simp only at this;cases c1:E8 p (-1)<;>rw[c1]at this
  case true=>cases this
  cases c2:L8 (i:Int) p<;>rw[c2]at this
  case true=>cases this
  rw[iE]at c1;rw[Bl]at c2;exact⟨c1,c2⟩
def a3p(par:d1A)(at' :Int)(i:Nat):Bool:=match par[i]? with|some p=>x8 p at'|none=>false
def kids(par:d1A)(at' :Int):d1B:=onL (a3p par at') par.length
variable {par:d1A}
theorem XH(h:par.length<=1000)(at' :Int):vW par at' =some (castL (kids par at')):=by
 unfold vW;rw[ig];obtain⟨e,h1,h2⟩:=iJ (f:=λ(x:d1A×Int)=>l9 (E8 x.2 (o9 par)) (o5 (F9 par x.2) λ(x_1:Int)=>l9 (x8 x_1 at') (o5 (cu x.1 [x.2]) λ(x_2:d1A)=>some (.inl (x_2,D5 .i64 x.2 1))) (some (.inl (x.1,D5 .i64 x.2 1)))) (some (.inr x.1)))
  (s:=([],0)) (λx=>∃i:Nat,x=(castL (onL (a3p par at') i),(i:Int))/\i<=par.length) (λe=>e=castL (kids par at')) (λx=>par.length -x.2.toNat) ⟨0,rfl,l7⟩ Z5 (by
  rintro x ⟨i,rfl,hi⟩;by_cases hlt:i<par.length
  .left;have e:=bn hlt;have hol:=ED (a3p par at') i;refine⟨(castL (onL (a3p par at') (i+1)),((i+1:Nat):Int)),?_,⟨i+1,rfl,hlt⟩,by simp;omega⟩;simp only[J7 e,o7,F7,e,o8];rw[Y4 l7,fQ _ (by simp[castL];omega),EE];have hon:a3p par at' i=x8 par[i] at' :=by unfold a3p;rw[e]
   rw[hon];cases x8 par[i] at'<;>simp[castL]
  .right;have:i=par.length:=l7;subst this;exact⟨_,by rw[J6];rfl,rfl⟩)
 rw[h1,h2]
theorem a3M:Qw=vW:=rfl
theorem YR{at' :Int}{i:Nat}(h:i∈kids par at'):i<par.length/\par[i]? =some at' :=by obtain⟨h1,h2⟩:=LV _ h;refine⟨h1,?_⟩;unfold a3p at h2;rw[bn h1]at h2 ⊢;simp only[O5]at h2;rw[h2]
def bG(oc pr:Int->Int)(acc:d1A)(a:Int):d1A:=l9 (x8 (oc a) (-1)) acc (match acc with
 |[]=>[a]
 |b::r=>l9 (E8 (pr b) (pr a)) [a] (l9 (x8 (pr a) (pr b)) (b::r++[a]) (b::r)))
theorem b3j(oc pr:Int->Int){acc:d1A}{a x:Int}(h:x∈bG oc pr acc a):x∈acc\/x=a:=by
 unfold bG at h;cases h1:x8 (oc a) (-1)<;>rw[h1]at h
 case true=>exact .inl h
 simp only[o6]at h;cases acc with
 |nil=>exact .inr (by simpa using h)|cons b r=>
  simp only at h;cases h2:E8 (pr b) (pr a)<;>rw[h2]at h
  .simp only[o6]at h;cases h3:x8 (pr a) (pr b)<;>rw[h3]at h
   .exact .inl h
   .simp only[o7]at h;rcases C9.1 h with h|h
    .exact .inl h
    .exact .inr (by simpa using h)
  .exact .inr (by simpa using h)
theorem c0B(oc pr:Int->Int)(acc:d1A)(a:Int):(bG oc pr acc a).length<=acc.length+1:=by
 unfold bG;cases x8 (oc a) (-1)
 case true=>simp
 simp only[o6];cases acc with
 |nil=>simp|cons b r=>
  simp only;cases E8 (pr b) (pr a)
  .cases x8 (pr a) (pr b)<;>simp
  .simp
def rq(oc pr:Int->Int)(l:d1A):d1A:=l.foldl (bG oc pr) []
theorem a4J(oc pr:Int->Int):∀(l acc:d1A) (x:Int),x∈l.foldl (bG oc pr) acc->x∈acc\/x∈l
 |[],acc,x,h=> .inl h|a::l,acc,x,h=>by
  rcases a4J oc pr l _ x h with h|h
  .rcases b3j oc pr h with h|h
   .exact .inl h
   .exact .inr (by simp[h])
  .exact .inr (by simp[h])
variable {x:Int}
theorem MC{oc pr:Int->Int}{l:d1A}(h:x∈rq oc pr l):x∈l:=by
 rcases a4J oc pr l [] x h with h|h
 .cases h
 .exact h
theorem Zw{oc oc' pr:Int->Int} :∀(l acc:d1A),(∀x∈l,oc x=oc' x)->l.foldl (bG oc pr) acc=l.foldl (bG oc' pr) acc
 |[],acc,_=>rfl|a::l,acc,h=>by rw[P6,P6,Zw l _ λx hx=>h x (by simp[hx])];congr 1;unfold bG;rw[h a x9]
def chF(oc pr:Int->Int)(l:d1A):Int:=match rq oc pr l with|[]=>-1|[b]=>oc b|_=>-2
theorem a1N{oc oc' pr:Int->Int}{l:d1A}(h:∀x∈l,oc x=oc' x):chF oc pr l=chF oc' pr l:=by
 have e:rq oc pr l=rq oc' pr l:=Zw l [] h;unfold chF;rw[e];cases hb:rq oc' pr l with
 |nil=>rfl|cons b r=>
  cases r with
  |nil=>exact h b (MC (oc:=oc') (pr:=pr) (by rw[hb];simp))|cons c r=>rfl
section
variable (par prio:d1A) (ap:d1E)
def prF(i:Int):Int:=prio.getD i.toNat 0
def apF(i:Int):Bool:=ap.getD i.toNat false
def ocF:Nat->Int->Int
 |0,_=>-1|k+1,i=>l9 (x8 (chF (ocF k) (prF prio) (castL (kids par i))) (-1)) (l9 (apF ap i) i (-1)) (chF (ocF k) (prF prio) (castL (kids par i)))
variable (hv:Aa par prio=0)
include hv
theorem Jt{i x:Int}(h:x∈castL (kids par i)):i<x/\x<(par.length:Int)/\0<=x:=by unfold castL at h;obtain⟨k,hk,rfl⟩:=U0.1 h;obtain⟨h1,h2⟩:=YR hk;have:=(Gp hv).2.2 k i h2;omega
theorem a2t:∀(k k' :Nat) (i:Int),(par.length:Int) -i<=k->(par.length:Int) -i<=k' ->i<par.length->ocF par prio ap k i=ocF par prio ap k' i
 |0,_,i,h,_,h2=>by omega|_+1,0,i,_,h,h2=>by omega|k+1,k' +1,i,h,h',h2=>by
  unfold ocF;have:chF (ocF par prio ap k) (prF prio) (castL (kids par i))=chF (ocF par prio ap k') (prF prio) (castL (kids par i)):=
   a1N λx hx=>by have:=Jt par prio hv hx;exact a2t k k' x l7 l7 l7
  rw[this]
end
end
section
theorem Ol{prio:d1A}{i:Int}(h0:0<=i)(h:i<o9 prio):F9 prio i=some (prF prio i):=by obtain⟨x,hx,_⟩:=mO h0 h;rw[hx];have:=(bg hx).2.2.2;unfold prF;rw[qY,this];rfl
theorem a1K{f:d1A×Int->Option ((d1A×Int)⊕d1A)}(oc:Int->Int)(prio:d1A)(l:d1A)(hl:l.length<=1000)(hr:∀x∈l,0<=x/\x<o9 prio)
  (hin:∀(i:Nat) (a:Int) (acc:d1A),l[i]? =some a->acc.length<=1000->(∀x∈acc,0<=x/\x<o9 prio)->0<=a->a<o9 prio->f (acc,(i:Int))=some (.inl (bG oc (prF prio) acc a,D5 .i64 (i:Int) 1)))
  (hend:∀acc,f (acc,(l.length:Int))=some (.inr acc)):aB f ([],0)=some (rq oc (prF prio) l):=by
 refine(ou l (bG oc (prF prio)) (λb i=>(b,i)) (λb=>b) (λi acc=>acc.length<=i/\∀x∈acc,0<=x/\x<o9 prio) (b:=[]) l7 ⟨x9,x9⟩ (λi a acc ha hi hI=>?_) (λacc hI=>hend acc)).1;have hlt:=(X6.1 ha).1;have ham:=hr a (kw ha);rw[hin i a acc ha l7 hI.2 ham.1 ham.2,Y4 l7];refine⟨rfl,by have:=c0B oc (prF prio) acc a;omega,λx hx=>?_⟩;rcases b3j _ _ hx with h|h
 .exact hI.2 x h
 .rw[h];exact ham
section
variable (par prio:d1A) (ap:d1E) (hv:Aa par prio=0) (hap:ap.length=par.length)
def OC(i:Int):Int:=ocF par prio ap (par.length+1) i
def chS(at' :Int):Int:=chF (OC par prio ap) (prF prio) (castL (kids par at'))
include hv in
theorem Zh{i:Int}(h0:-1<=i)(h:i<par.length):OC par prio ap i=l9 (x8 (chS par prio ap i) (-1)) (l9 (apF ap i) i (-1)) (chS par prio ap i):=by
 unfold OC chS;rw[ocF];have:chF (ocF par prio ap par.length) (prF prio) (castL (kids par i))=chF (OC par prio ap) (prF prio) (castL (kids par i)):=
  a1N λx hx=>by have:=Jt par prio hv hx;exact a2t par prio ap hv _ _ x l7 l7 l7
 rw[this]
include hv in
theorem a5v(i:Int):(castL (kids par i)).length<=8:=by have h1:=ED (a3p par i) par.length;have h2:=(Gp hv).2.1;unfold castL kids;rw[H7];omega
include hv in
theorem a2k{i x:Int}(h:x∈castL (kids par i)):0<=x/\x<o9 prio:=by have:=Jt par prio hv h;have h2:=(Gp hv).1;simp only[o9];omega
include hv in
theorem b7D(arr:d1A)(i:Int)(hA:∀x∈castL (kids par i),F9 arr x=some (OC par prio ap x)):yl (par,prio,arr) i=some (rq (OC par prio ap) (prF prio) (castL (kids par i))):=by
 unfold yl;rw[XH (by have:=(Gp hv).2.1;simp only;omega),o8,ig];refine a1K (OC par prio ap) prio _ (by have:=a5v par prio hv i;omega) (λx hx=>a2k par prio hv hx) (λk a acc ha hl hacc h0 h1=>?_) (λacc=>?_)
 .simp only[J7 ha,o7,F7 (castL (kids par i)),ha,o8];rw[show V6 (castL (kids par i)) (V9 (k:Int))=some a from ha,o8,hA a (kw ha),o8];unfold bG;cases x8 (OC par prio ap a) (-1)
  case true=>rfl
  simp only[o6,Ol h0 h1,o8];cases acc with
  |nil=>simp only[N7 (show o9 ([]:d1A)<=0 by simp[o9]),o6,o8,N9 (show o9 ([]:d1A)=0 from rfl),o7,fQ a (show([]:d1A).length<=1000000 by simp)];rfl|cons b r=>
   have hb:=hacc b x9;simp only[U8 (show(0:Int)<o9 (b::r) by simp[o9]<;>omega),o7,show F9 (b::r) 0=some b from rfl,show V6 (b::r) (V9 0)=some b from rfl,o8,Ol hb.1 hb.2];cases E8 (prF prio b) (prF prio a)
   .simp only[o6,o8,O9 (show o9 (b::r)≠0 by simp[o9]<;>omega),show F9 (b::r) 0=some b from rfl,show V6 (b::r) (V9 0)=some b from rfl,Ol hb.1 hb.2];cases x8 (prF prio a) (prF prio b)
    .rfl
    .rw[o7,o7,fQ _ l7];rfl
   .simp only[o7,show ui 0 0 (o9 (b::r))=true by simp[ui,o9]<;>omega,show qo (b::r) (V9 0) (V9 0)=[]from rfl,o8,N9 (show o9 ([]:d1A)=0 from rfl),fQ a (show([]:d1A).length<=1000000 by simp)];rfl
 .simp only[J6];rfl
include hv in
theorem b0k(arr:d1A)(i:Int)(hA:∀x∈castL (kids par i),F9 arr x=some (OC par prio ap x)):jI (par,prio,arr) i=some (chS par prio ap i):=by
 unfold jI chS chF;rw[b7D par prio ap hv arr i hA,o8];have hsub:∀x∈rq (OC par prio ap) (prF prio) (castL (kids par i)),F9 arr x=some (OC par prio ap x):=λx hx=>hA x (MC hx);generalize rq (OC par prio ap) (prF prio) (castL (kids par i))=b at*;match b,hsub with
 |[],_=>rfl|[x],hsub=>simp only[O9 (show o9 [x]≠0 by simp[o9]),N9 (show o9 [x]=1 from rfl),o6,o7,show F9 [x] 0=some x from rfl,show V6 [x] (V9 0)=some x from rfl,o8,hsub x x9]|x::y::r,_=>rw[O9 (by simp[o9];omega),O9 (by simp[o9];omega)];rfl
include hv hap in
theorem a5V:∃arr,yZ par prio ap=some arr/\∀x,0<=x->x<(par.length:Int)->F9 arr x=some (OC par prio ap x):=by
 have h8:=(Gp hv).2.1;unfold yZ;rw[show pX (o9 par) (0:Int)=some (List.replicate par.length 0) by unfold pX;rw[if_pos (by simp[o9];omega)];simp[o9],o8];have key:=iJ (f:=λ(x:lM×Int)=>l9 (L8 0 x.2) (o5 (jI x.1 x.2) λ(x_1:Int)=>o5 (F9 x.1.2.2 x.2) λ(x_2:Int)=>o5 (V6 x.1.2.2 (V9 x.2)) λ(x_3:Int)=>
   o5 (F9 (aU x.1.2.2 (V9 x.2) x_1) x.2) λ(x_4:Int)=>o5 (V6 (aU x.1.2.2 (V9 x.2) x_1) (V9 x.2)) λ(x_5:Int)=>l9 (x8 x_5 (-1)) (o5 (F9 ap x.2) λ(x_6:Bool)=>l9 x_6 (o5 (F9 (aU x.1.2.2 (V9 x.2) x_1) x.2) λ(x_7:Int)=>
    o5 (V6 (aU x.1.2.2 (V9 x.2) x_1) (V9 x.2)) λ(x_8:Int)=>some (.inl ((x.1.1,x.1.2.1,aU (aU x.1.2.2 (V9 x.2) x_1) (V9 x.2) x.2),L6 .i64 x.2 1))) (some (.inl ((x.1.1,x.1.2.1,aU x.1.2.2 (V9 x.2) x_1),L6 .i64 x.2 1))))
     (some (.inl ((x.1.1,x.1.2.1,aU x.1.2.2 (V9 x.2) x_1),L6 .i64 x.2 1)))) (some (.inr x.1)))
  (s:=((par,prio,List.replicate par.length 0),L6 .i64 (o9 par) 1)) (λx=>∃(arr:d1A) (i:Int),x=((par,prio,arr),i)/\-1<=i/\i<par.length/\arr.length=par.length/\∀x,i<x->x<(par.length:Int)->F9 arr x=some (OC par prio ap x))
  (λy=>∃arr:d1A,y=(par,prio,arr)/\∀x,0<=x->x<(par.length:Int)->F9 arr x=some (OC par prio ap x)) (λx=>(x.2+1).toNat) ?_ ?_ ?_
 .obtain⟨y,k1,arr,rfl,k3⟩:=key;refine⟨arr,(lV k1 _).trans rfl,k3⟩
 .exact⟨_,_,rfl,by rw[X4 (by unfold kP o9;omega)];simp[o9];omega,by rw[X4 (by unfold kP o9;omega)];simp only[o9];omega,x9,λx h1 h2=>by rw[X4 (by unfold kP o9;omega)]at h1;simp only[o9]at h1;omega⟩
 .rw[X4 (by unfold kP o9;omega)];simp[o9];omega
 .rintro x ⟨arr,i,rfl,h1,h2,hlen,hA⟩;by_cases h0:0<=i
  .left;obtain⟨k,rfl⟩:∃k:Nat,i=(k:Int):=⟨i.toNat,l7⟩;have hk:k<arr.length:=l7;have hka:k<ap.length:=l7;have e:=bn hk;have ea:=bn hka;have hch:=b0k par prio ap hv arr (k:Int) (λx hx=>by
    have:=Jt par prio hv hx;exact hA x this.1 this.2.1)
   have hs:∀v:Int,F9 (aU arr (V9 (k:Int)) v) (k:Int)=some v:=λv=>by rw[F7];show(arr.set k v)[k]? =some v;rw[cZ hk]
   have hs2:∀v:Int,V6 (aU arr (V9 (k:Int)) v) (V9 (k:Int))=some v:=λv=>by have:=hs v;rw[F7]at this;exact this
   have hsub:L6 .i64 (k:Int) 1=(k:Int) -1:=X4 U7;have hoc:=Zh par prio ap hv (i:=(k:Int)) l7 l7;have hapk:apF ap (k:Int)=ap[k]:=by unfold apF;rw[D8,qY,ea];rfl
   rw[hapk]at hoc;refine⟨((par,prio,arr.set k (OC par prio ap (k:Int))),(k:Int) -1),?_,⟨_,_,rfl,l7,l7,by simp[hlen],λx hx1 hx2=>?_⟩,by simp<;>omega⟩
   .simp only[Y3 h0,o7,hch,o8,F7 arr,e,show V6 arr (V9 (k:Int))=some arr[k]from e,hs,hs2,F7 ap,ea,hsub];rw[hoc];cases hq:x8 (chS par prio ap (k:Int)) (-1)
    .simp only[o6];rfl
    .simp only[o7];cases ap[k]
     .rw[O5.1 hq];rfl
     .simp only[o7];show some (Sum.inl ((par,prio,(arr.set k _).set k _),_))=_;rw[List.set_set]
   .unfold F9
    rw[if_pos l7];by_cases hxk:x=(k:Int)
    .rw[hxk,D8,cZ hk]
    .have:=hA x l7 hx2;unfold F9 at this;rw[if_pos l7]at this;rw[Z9,if_neg l7];exact this
  .right;exact⟨(par,prio,arr),by rw[Y9 l7];rfl,arr,rfl,λx hx1 hx2=>hA x l7 hx2⟩
end
def AX(par prio:d1A)(ap:d1E):Int:=l9 (x8 (Aa par prio) 0) (l9 (x8 (o9 ap) (o9 par)) (chS par prio ap (-1)) (-1)) (-1)
theorem b2y(par prio:d1A)(ap:d1E):CY par prio ap=some (AX par prio ap):=by
 unfold CY AX;rw[b7H,o8];cases hv:x8 (Aa par prio) 0
 .rfl
 simp only[E5,o6,o7];cases hl:x8 (o9 ap) (o9 par)
 .rfl
 simp only[E5,o6,o7];have hv' :=O5.1 hv;have hl' :ap.length=par.length:=by rw[O5]at hl;simp only[o9]at hl;omega
 obtain⟨arr,h1,h2⟩:=a5V par prio ap hv' hl';rw[h1,o8,ig];exact b0k par prio ap hv' arr (-1) λx hx=>by have:=Jt par prio hv' hx;exact h2 x this.2.2 this.2.1
section
variable (par prio:d1A) (ap:d1E) (hv:Aa par prio=0) (hap:ap.length=par.length)
include hv hap in
theorem a3T:∀(f:Nat) (i:Int),-1<=i->i<par.length->
  (3*((par.length:Int) -i) -1<=f->(X8 f).1 par prio ap i=some (chS par prio ap i))/\
  (3*((par.length:Int) -i) -2<=f->(X8 f).2.1 par prio ap i=some (rq (OC par prio ap) (prF prio) (castL (kids par i))))/\
  (0<=i->3*((par.length:Int) -i)<=f->(X8 f).2.2 par prio ap i=some (OC par prio ap i))
 |0,i,h1,h2=>⟨λh=>by omega,λh=>by omega,λ_ h=>by omega⟩|f+1,i,h1,h2=>by
  obtain⟨ih1,ih2,ih3⟩:=a3T f i h1 h2;have hkid:∀x∈castL (kids par i),3*((par.length:Int) -i) -3<=f->(X8 f).2.2 par prio ap x=some (OC par prio ap x):=λx hx hf=>by have hk:=Jt par prio hv hx;exact(a3T f x l7 l7).2.2 hk.2.2 l7
  refine⟨λh=>?_,λh=>?_,λh0 h=>?_⟩
  .show Bq (X8 f).1 (X8 f).2.1 (X8 f).2.2 par prio ap i=_;unfold Bq;rw[ih2 l7,o8];unfold chS chF;have hsub:∀x∈rq (OC par prio ap) (prF prio) (castL (kids par i)),(X8 f).2.2 par prio ap x=some (OC par prio ap x):=λx hx=>hkid x (MC hx) l7;generalize rq (OC par prio ap) (prF prio) (castL (kids par i))=b at*;match b,hsub with
   |[],_=>rfl|[x],hsub=>simp only[O9 (show o9 [x]≠0 by simp[o9]),N7 (show o9 [x]<=1 by simp[o9]),o6,show F9 [x] 0=some x from rfl,o8,hsub x x9]|x::y::r,_=>rw[O9 (by simp[o9];omega),U8 (by simp[o9];omega)];rfl
  .show Hu (X8 f).1 (X8 f).2.1 (X8 f).2.2 par prio ap i=_;unfold Hu;rw[a3M,XH (by have:=(Gp hv).2.1;omega),o8,ig];refine a1K (OC par prio ap) prio _ (by have:=a5v par prio hv i;omega) (λx hx=>a2k par prio hv hx) (λk a acc ha hl hacc g0 g1=>?_) (λacc=>?_)
   .simp only[J7 ha,o7,F7 (castL (kids par i)),ha,o8];rw[show V6 (castL (kids par i)) (V9 (k:Int))=some a from ha,o8,hkid a (kw ha) l7,o8];unfold bG;cases x8 (OC par prio ap a) (-1)
    case true=>rfl
    simp only[o6,o8,Ol g0 g1];cases acc with
    |nil=>simp only[N7 (show o9 ([]:d1A)<=0 by simp[o9]),o6,o8,N9 (show o9 ([]:d1A)=0 from rfl),o7,fQ a (show([]:d1A).length<=1000000 by simp)];rfl|cons b r=>
     have hb:=hacc b x9;simp only[U8 (show(0:Int)<o9 (b::r) by simp[o9]<;>omega),o7,show F9 (b::r) 0=some b from rfl,show V6 (b::r) (V9 0)=some b from rfl,o8,Ol hb.1 hb.2];cases E8 (prF prio b) (prF prio a)
     .simp only[o6,o8,O9 (show o9 (b::r)≠0 by simp[o9]<;>omega),show F9 (b::r) 0=some b from rfl,show V6 (b::r) (V9 0)=some b from rfl,Ol hb.1 hb.2];cases x8 (prF prio a) (prF prio b)
      .rfl
      .rw[o7,o7,fQ _ l7];rfl
     .simp only[o7,o8,N9 (show o9 ([]:d1A)=0 from rfl),fQ a (show([]:d1A).length<=1000000 by simp)];rfl
   .simp only[J6];rfl
  .show Dq (X8 f).1 (X8 f).2.1 (X8 f).2.2 par prio ap i=_;unfold Dq;rw[ih1 l7,o8,Zh par prio ap hv h1 h2];obtain⟨k,rfl⟩:∃k:Nat,i=(k:Int):=⟨i.toNat,l7⟩;have ea:=bn (show k<ap.length by omega);have hapk:apF ap (k:Int)=ap[k]:=by unfold apF;rw[D8,qY,ea];rfl
   rw[hapk,F7,ea,o8];cases hq:x8 (chS par prio ap (k:Int)) (-1)
   .rfl
   .simp only[o7];rw[O5.1 hq];cases ap[k]<;>rfl
end
theorem a8o(par prio:d1A)(ap:d1E):IB par prio ap=some (AX par prio ap):=by
 unfold IB AX;rw[b2d,o8];cases hv:x8 (Aa par prio) 0
 .rfl
 simp only[E5,o6,o7];cases hl:x8 (o9 ap) (o9 par)
 .rfl
 simp only[E5,o6,o7];have hv' :=O5.1 hv;have hl' :ap.length=par.length:=by rw[O5]at hl;simp only[o9]at hl;omega
 have h8:=(Gp hv').2.1;have:=(a3T par prio ap hv' hl' jb (-1) l7 l7).1 (by unfold jb;omega);rw[show JO par prio ap (-1)=(X8 jb).1 par prio ap (-1)from rfl,this];rfl
variable {l:d1A}{i:Nat}
theorem b1p(h:i<l.length):F9 l (i:Int)=some (hg l i):=by rw[F7];exact Aj h
variable {j:Nat}
theorem a5n(hi:i<l.length)(hj:j<l.length):fD l (i:Int) (j:Int)=some (E8 (hg l i) (hg l j)):=by unfold fD;rw[b1p hi,o8,b1p hj,o8]
theorem a5o(hi:i<l.length)(hj:j<l.length):gu l (i:Int) (j:Int)=some (swp l i j):=by
 unfold gu;have e1:V6 l (V9 (i:Int))=some (hg l i):=Aj hi;have e2:V6 l (V9 (j:Int))=some (hg l j):=Aj hj;have hj2:j<(aU l (V9 (i:Int)) (hg l j)).length:=by show j<(l.set i (hg l j)).length;simp[hj]
 have e3:V6 (aU l (V9 (i:Int)) (hg l j)) (V9 (j:Int))=some (hg (aU l (V9 (i:Int)) (hg l j)) j):=Aj hj2;rw[b1p hj,o8,e2,o8,b1p hi,o8,e1,o8,o8,o8,b1p hj2,o8,e3,o8];rfl
theorem a0a{l m:d1A}(h:l.Perm m):l.length=m.length:=h.length_eq
theorem c8L(hl:l.length<=100000)(hj:j<l.length)(h:We l j):∃l',yT l (j:Int)=some l' /\Pz l' l'.length/\l'.Perm l:=by
 unfold yT;have key:=iJ (f:=λ(x:d1A×Int)=>l9 (x8 (dM .i64 (L6 .i64 x.2 1) 2) x.2) (some (.inr x.1)) (o5 (fD x.1 x.2 (dM .i64 (L6 .i64 x.2 1) 2)) λ(x_1:Bool)=>l9 (F8 x_1) (some (.inr x.1))
   (o5 (gu x.1 (dM .i64 (L6 .i64 x.2 1) 2) x.2) λ(x_2:d1A)=>some (.inl (x_2,dM .i64 (L6 .i64 x.2 1) 2)))))
  (s:=(l,(j:Int))) (λx=>∃(m:d1A) (k:Nat),x=(m,(k:Int))/\k<m.length/\We m k/\m.Perm l) (λm=>Pz m m.length/\m.Perm l) (λx=>x.2.toNat) ⟨l,j,rfl,hj,h,List.Perm.refl _⟩ Z5 (by
  rintro x ⟨m,k,rfl,hk,hu,hp⟩;have hm:=a0a hp;by_cases h0:k=0
  .subst h0;exact .inr ⟨m,rfl,o_ hu (.inl rfl),hp⟩
  have hpar:dM .i64 (L6 .i64 (k:Int) 1) 2=(((k -1) / 2:Nat):Int):=by rw[X4 U7,zC (by rw[kL l7];unfold kP;omega),kL l7];omega
  simp only[hpar];rw[O9 l7,o6,a5n hk l7,o8];cases hc:E8 (hg m k) (hg m ((k -1) / 2))
  .exact .inr ⟨m,rfl,o_ hu (.inr (by rw[iE]at hc;exact hc)),hp⟩
  .rw[E5,o6,a5o l7 hk];exact .inl ⟨(swp m ((k -1) / 2) k,(((k -1) / 2:Nat):Int)),rfl,⟨_,_,rfl,by rw[OO];omega,a5m hu l7 hk (jF.1 hc),(QJ l7 hk).trans hp⟩,by simp;omega⟩)
 obtain⟨m,k1,k2,k3⟩:=key;exact⟨m,(lV k1 _).trans rfl,k2,k3⟩
theorem a2d(hl:l.length<=1000)(h:Pz l l.length)(x:Int):∃l',iO l x=some l' /\Pz l' l'.length/\l'.Perm (l++[x]):=by
 unfold iO Ee mW;rw[fQ _ l7,o8,o8,o8];have hlen:(l++[x]).length=l.length+1:=x9;have hu:We (l++[x]) l.length:=by
  refine⟨λk k0 k1 k2=>?_,λh0 k k0 k1 k2=>by omega⟩;have hk:k<l.length:=l7;have hga:∀i,i<l.length->hg (l++[x]) i=hg l i:=λi hi=>by unfold hg;rw[qY,qY,U5 hi]
  rw[hga k hk,hga _ l7];exact h k k0 hk
 obtain⟨m,k1,k2,k3⟩:=c8L (l:=l++[x]) (j:=l.length) l7 l7 hu;refine⟨m,?_,k2,k3⟩;rw[show L6 .i64 (o9 (l++[x])) 1=((l.length:Nat):Int) by rw[X4 (by unfold kP o9;omega)];simp[o9],k1];rfl
theorem b8f{n i:Nat}(hl:l.length<=100000)(hn:n<=l.length)(hi:i<l.length)(h:Md l n i):∃b l',wJ l (i:Int) (n:Int)=some (b,l')/\Pz l' n/\l'.Perm l/\l'.drop n=l.drop n:=by
 unfold wJ;have key:=iJ (f:=λ(x:d1A×Int)=>l9 (L8 (n:Int) (D5 .i64 (az .i64 2 x.2) 1)) (some (.inr x)) (l9 (E8 (D5 .i64 (az .i64 2 x.2) 1) 0) (some (.inr x)) (l9 (E8 (D5 .i64 (D5 .i64 (az .i64 2 x.2) 1) 1) (n:Int))
   (o5 (fD x.1 (D5 .i64 (D5 .i64 (az .i64 2 x.2) 1) 1) (D5 .i64 (az .i64 2 x.2) 1)) λ(x_1:Bool)=>l9 x_1 (o5 (fD x.1 (D5 .i64 (D5 .i64 (az .i64 2 x.2) 1) 1) x.2) λ(x_2:Bool)=>l9 (F8 x_2) (some (.inr x))
     (o5 (gu x.1 x.2 (D5 .i64 (D5 .i64 (az .i64 2 x.2) 1) 1)) λ(x_3:d1A)=>some (.inl (x_3,D5 .i64 (D5 .i64 (az .i64 2 x.2) 1) 1)))) (o5 (fD x.1 (D5 .i64 (az .i64 2 x.2) 1) x.2) λ(x_2:Bool)=>l9 (F8 x_2) (some (.inr x))
     (o5 (gu x.1 x.2 (D5 .i64 (az .i64 2 x.2) 1)) λ(x_3:d1A)=>some (.inl (x_3,D5 .i64 (az .i64 2 x.2) 1)))))
   (o5 (fD x.1 (D5 .i64 (az .i64 2 x.2) 1) x.2) λ(x_1:Bool)=>l9 (F8 x_1) (some (.inr x)) (o5 (gu x.1 x.2 (D5 .i64 (az .i64 2 x.2) 1)) λ(x_2:d1A)=>some (.inl (x_2,D5 .i64 (az .i64 2 x.2) 1)))))))
  (s:=(l,(i:Int))) (λx=>∃(m:d1A) (k:Nat),x=(m,(k:Int))/\k<m.length/\Md m n k/\m.Perm l/\m.drop n=l.drop n) (λy=>Pz y.1 n/\y.1.Perm l/\y.1.drop n=l.drop n) (λx=>l.length -x.2.toNat) ⟨l,i,rfl,hi,h,List.Perm.refl _,rfl⟩ Z5 (by
  rintro x ⟨m,k,rfl,hk,hd,hp,hdr⟩;have hm:=a0a hp;have hc1:D5 .i64 (az .i64 2 (k:Int)) 1=((2*k+1:Nat):Int):=by rw[og U7,ai U7];omega
  have hc2:D5 .i64 (((2*k+1:Nat):Int)) 1=((2*k+2:Nat):Int):=by rw[ai U7];omega
  have dswp:∀a b,a<n->b<n->(swp m a b).drop n=l.drop n:=λa b ha hb=>by unfold swp;rw[List.drop_set_of_lt hb,List.drop_set_of_lt ha,hdr]
  simp only[hc1,hc2];by_cases h1:n<=2*k+1
  .rw[Y3 l7,o7];exact .inr ⟨_,rfl,Ij hd (λj j0 j1 j2=>by omega),hp,hdr⟩
  rw[Y9 l7,o6,N7 l7,o6];by_cases h2:2*k+2<n
  .rw[U8 l7,o7,a5n l7 l7,o8];cases hc:E8 (hg m (2*k+2)) (hg m (2*k+1))
   .rw[iE]at hc;rw[o6,a5n l7 hk,o8];cases hq:E8 (hg m (2*k+1)) (hg m k)
    .rw[iE]at hq;exact .inr ⟨_,rfl,Ij hd (λj j0 j1 j2=>by have:j=2*k+1\/j=2*k+2:=l7;rcases this with rfl|rfl<;>(dsimp only;omega)),hp,hdr⟩
    .rw[E5,o6,a5o hk l7];exact .inl ⟨(swp m k (2*k+1),((2*k+1:Nat):Int)),rfl,⟨_,_,rfl,by rw[OO];omega,LP hd l7 l7 l7 l7 (λj j0 j1 j2=>by
      have:j=2*k+1\/j=2*k+2:=l7;rcases this with rfl|rfl
      .exact aX _
      .exact hc) (jF.1 hq),(QJ hk l7).trans hp,dswp _ _ l7 l7⟩,by simp;omega⟩
   .rw[jF]at hc;rw[o7,a5n l7 hk,o8];cases hq:E8 (hg m (2*k+2)) (hg m k)
    .rw[iE]at hq;exact .inr ⟨_,rfl,Ij hd (λj j0 j1 j2=>by have:j=2*k+1\/j=2*k+2:=l7;rcases this with rfl|rfl<;>(dsimp only;omega)),hp,hdr⟩
    .rw[E5,o6,a5o hk l7];exact .inl ⟨(swp m k (2*k+2),((2*k+2:Nat):Int)),rfl,⟨_,_,rfl,by rw[OO];omega,LP hd l7 l7 l7 l7 (λj j0 j1 j2=>by
      have:j=2*k+1\/j=2*k+2:=l7;rcases this with rfl|rfl
      .omega
      .exact aX _) (jF.1 hq),(QJ hk l7).trans hp,dswp _ _ l7 l7⟩,by simp;omega⟩
  .rw[N7 l7,o6,a5n l7 hk,o8];cases hq:E8 (hg m (2*k+1)) (hg m k)
   .rw[iE]at hq;exact .inr ⟨_,rfl,Ij hd (λj j0 j1 j2=>by have:j=2*k+1:=l7;subst this;omega),hp,hdr⟩
   .rw[E5,o6,a5o hk l7];exact .inl ⟨(swp m k (2*k+1),((2*k+1:Nat):Int)),rfl,⟨_,_,rfl,by rw[OO];omega,LP hd l7 l7 l7 l7 (λj j0 j1 j2=>by have:j=2*k+1:=l7;subst this;exact aX _) (jF.1 hq),(QJ hk l7).trans hp,dswp _ _ l7 l7⟩,by simp;omega⟩)
 obtain⟨y,k1,k2,k3,k4⟩:=key;exact⟨E8 (i:Int) y.2,y.1,(lV k1 _).trans rfl,k2,k3,k4⟩
theorem b3P(hl:l.length<=1000)(h:Pz l l.length)(h0:0<l.length):∃l',sW l=some (hg l 0,l')/\Pz l' l'.length/\(l' ++[hg l 0]).Perm l:=by
 obtain⟨n,hn⟩:∃n,l.length=n+1:=⟨l.length -1,l7⟩;have hsub:L6 .i64 ((l.length:Nat):Int) 1=((n:Nat):Int):=by rw[X4 U7];omega
 unfold sW mW;rw[o8,show o9 l=((l.length:Nat):Int)from rfl,hsub,show(0:Int)=((0:Nat):Int)from rfl,a5o l7 l7,o8];have hlen:(swp l 0 n).length=n+1:=by rw[OO,hn]
 obtain⟨b,m,k1,k2,k3,k4⟩:=b8f (l:=swp l 0 n) (n:=n) (i:=0) l7 l7 l7 (a7J h l7);rw[k1,o8];have hml:=a0a k3;have hmn:m.length=n+1:=l7;have hlast:hg m n=hg l 0:=by
  have e1:(m.drop n)[0]? =((swp l 0 n).drop n)[0]?:=by rw[k4]
  rw[Y7,Y7,dW,Aj l7,Aj l7]at e1;rw[I9 e1,a3k l7 l7,if_pos rfl]
 unfold FN;dsimp only;have hs2:L6 .i64 (o9 m) 1=((n:Nat):Int):=by rw[show o9 m=((m.length:Nat):Int)from rfl,hmn,X4 U7];omega
 rw[hs2,b1p l7,o8,show V6 m (V9 (n:Int))=some (hg m n)from Aj (i:=n) l7,o8,show ui 0 (n:Int) (o9 m)=true by simp[ui,o9];omega,o7,show qo m (V9 0) (V9 (n:Int))=m.take n by simp[qo,V9],hlast];refine⟨m.take n,rfl,?_,?_⟩
 .have:(m.take n).length=n:=by simp;omega
  rw[this];intro k k0 k1';have hga:∀i,i<n->hg (m.take n) i=hg m i:=λi hi=>by unfold hg;rw[qY,qY,jh hi]
  rw[hga k k1',hga _ l7];exact k2 k k0 k1'
 .have hcat:m.take n++[hg l 0]=m:=by
   rw[←hlast];have e:m.drop n=[hg m n]:=by
    apply bu;intro i;rw[Y7];cases i with
    |zero=>rw[dW,Aj l7];rfl|succ i=>rw[bQ l7];rfl
   rw[←e,gI]
  rw[hcat];exact k3.trans (QJ l7 l7)
def qX(O:d1A)(x:Int):Bool:=O.any λy=>x8 y x
variable {O:d1A}
theorem yA{x:Int} :qX O x=true↔x∈O:=by
 unfold qX;rw[Y6];constructor
 .rintro⟨y,hy,h⟩;rw[O5]at h;exact h▸hy
 .exact λh=>⟨x,h,N9 rfl⟩
theorem a3P(h:O.length<=1000000)(x:Int):DN O x=some (qX O x):=by
 unfold DN;refine X9 (xH O (λy=>x8 y x) true PUnit.unit h (λi a ha=>?_) ?_) ?_
 rotate_left 2
 .unfold qX;cases O.any λy=>x8 y x<;>rfl
 .simp only[J7 ha,o7,F7,ha,o8];cases x8 a x<;>rfl
 .rw[J6];rfl
def Xg(s:A7)(d:Int)(O:d1A):Bool:=(O6 s d).all λx=>qX O x
variable {s:A7}
theorem b2c(h:SmS s)(hO:O.length<=1000000)(d:Int):DR s d O=some (Xg s d O):=by
 unfold DR;rw[TZ h,o8];have hdl:=NL h d;refine X9 (xH (O6 s d) (λy=> !qX O y) false PUnit.unit l7 (λi a ha=>?_) ?_) ?_
 rotate_left 2
 .unfold Xg;have:((O6 s d).any λy=> !qX O y)= !(O6 s d).all λx=>qX O x:=by rw[List.not_all_eq_any_not]
  rw[this];cases (O6 s d).all λx=>qX O x<;>rfl
 .simp only[J7 ha,o7,F7,ha,o8];rw[show V6 (O6 s d) (V9 (i:Int))=some a from ha,o8,a3P hO,o8];cases qX O a<;>rfl
 .rw[J6];rfl
def okN(s:A7)(O:d1A)(d:Nat):Bool:=l9 (qX O (d:Int)) false (Xg s (d:Int) O)
def XY(s:A7)(O:d1A)(d:Nat):Option Nat:=l9 (okN s O d) (some d) none
def Ph(s:A7)(O:d1A):Option Nat:=ay s.2.2.2.1.length (XY s O)
theorem b4p{d r:Nat}(h:XY s O d=some r):r=d/\okN s O d=true:=by
 unfold XY at h;cases hq:okN s O d<;>rw[hq]at h
 .cases h
 .cases h;exact⟨rfl,rfl⟩
variable {d:Nat}
theorem R_(h:Ph s O=some d):d<s.2.2.2.1.length/\okN s O d=true:=by obtain⟨i,hi,hp⟩:=iP h;obtain⟨rfl,ho⟩:=b4p hp;exact⟨hi,ho⟩
theorem XZ(hd:d<s.2.2.2.1.length)(ho:okN s O d=true)(hn:∀j,j<d->okN s O j=false):Ph s O=some d:=by unfold Ph;exact UJ (p:=XY s O) (dH.2 λj hj=>by unfold XY;rw[hn j (P8.1 hj)];rfl) (by unfold XY;rw[ho];rfl) hd
theorem Q_(hn:∀j,j<s.2.2.2.1.length->okN s O j=false):Ph s O=none:=by unfold Ph ay;exact dH.2 λj hj=>by unfold XY;rw[hn j (P8.1 hj)];rfl
def Vq(s:A7):Nat->d1A->d1A⊕(d1A×Int)
 |0,O=> .inl O|k+1,O=>if O.length<s.2.2.2.1.length then(match Ph s O with|none=> .inr ([],9)|some d=>Vq s k (O++[(d:Int)]))else .inl O
def je(s:A7):d1A×Int:=match Vq s 100 []with| .inl O=>(O,0)| .inr x=>x
theorem b2b(h:SmS s):uz s=some (je s):=by
 have hnd:=h.nd;unfold uz;have hn:o9 s.2.2.2.1=((s.2.2.2.1.length:Nat):Int):=rfl;generalize hfd:(λ(x:d1A)=>l9 (E8 (o9 x) (o9 s.2.2.2.1)) (o5 (aB (λ(x_1:Int)=>l9 (E8 x_1 (o9 s.2.2.2.1)) (o5 (DN x x_1) λ(x_2:Bool)=>l9 x_2 (some (.inl (D5 .i64 x_1 1))) (o5 (DR s x_1 x) λ(x:Bool)=>l9 (F8 x) (some (.inl (D5 .i64 x_1 1))) (some (.inr x_1)))) (some (.inr x_1))) 0) λ(y:Int)=>
   l9 (x8 y (o9 s.2.2.2.1)) (some (Out.rt ((([],9):d1A×Int)))) (o5 (cu x [y]) λ(x:d1A)=>some (.nx x))) (some (.ex x)))=f
 have step:∀O:d1A,O.length<=100->f O=some (if O.length<s.2.2.2.1.length then(match Ph s O with|none=> .rt ([],9)|some d=> .nx (O++[(d:Int)]))else .ex O):=by
  intro O hO;rw[←hfd];simp only;by_cases hlt:O.length<s.2.2.2.1.length
  .rw[U8 (by simp only[o9];omega),if_pos hlt,o7];have key:=iJ (f:=λ(x_1:Int)=>l9 (E8 x_1 (o9 s.2.2.2.1)) (o5 (DN O x_1) λ(x_2:Bool)=>l9 x_2 (some (.inl (D5 .i64 x_1 1))) (o5 (DR s x_1 O) λ(x:Bool)=>l9 (F8 x) (some (.inl (D5 .i64 x_1 1))) (some (.inr x_1)))) (some (.inr x_1)))
    (s:=0) (λx=>∃i:Nat,x=i/\i<=s.2.2.2.1.length/\∀j,j<i->okN s O j=false) (λy=>∃i:Nat,y=i/\i<=s.2.2.2.1.length/\(∀j,j<i->okN s O j=false)/\(i<s.2.2.2.1.length->okN s O i=true)) (λx=>s.2.2.2.1.length -x.toNat) ⟨0,rfl,l7,λj hj=>by omega⟩ Z5 (by
    rintro x ⟨i,rfl,hi,hno⟩;by_cases hl:i<s.2.2.2.1.length
    .rw[U8 (by rw[hn];omega),o7,a3P l7,o8,b2c h l7,o8,Y4 l7];have hok:okN s O i=l9 (qX O (i:Int)) false (Xg s (i:Int) O):=rfl;cases h1:qX O (i:Int)
     .cases h2:Xg s (i:Int) O
      .exact .inl ⟨_,rfl,⟨i+1,rfl,hl,λj hj=>by
        by_cases hji:j=i
        .subst hji;rw[hok,h1,h2];rfl
        .exact hno j l7⟩,by simp;omega⟩
      .exact .inr ⟨_,rfl,i,rfl,hi,hno,λ_=>by rw[hok,h1,h2];rfl⟩
     .exact .inl ⟨_,rfl,⟨i+1,rfl,hl,λj hj=>by
       by_cases hji:j=i
       .subst hji;rw[hok,h1];rfl
       .exact hno j l7⟩,by simp;omega⟩
    .have:i=s.2.2.2.1.length:=l7;subst this;exact .inr ⟨_,by rw[N7 (by rw[hn];omega)];rfl,_,rfl,E9 _,hno,λhh=>by omega⟩)
   obtain⟨y,k1,i,rfl,hi,hno,hyes⟩:=key;rw[k1,o8];by_cases hl:i<s.2.2.2.1.length
   .rw[O9 (by rw[hn];omega),o6,fQ _ l7,o8,XZ hl (hyes hl) hno]
   .rw[N9 (by rw[hn];omega),o7,Q_ λj hj=>hno j l7]
  .rw[N7 (by simp only[o9];omega),if_neg hlt];rfl
 have key:∀(k j:Nat) (O:d1A),s.2.2.2.1.length -O.length<k->k<=j->O.length<=s.2.2.2.1.length->rH f j O=some (match Vq s k O with| .inl O=> .inl O| .inr x=> .inr x):=by
  intro k;induction k with
  |zero=>intro j O hk;omega|succ k ih=>
   intro j O hk hj hO;obtain⟨j,rfl⟩:∃j',j=j' +1:=⟨j -1,l7⟩;rw[rH,step O l7];unfold Vq;by_cases hlt:O.length<s.2.2.2.1.length
   .rw[if_pos hlt,if_pos hlt];cases Ph s O with
    |none=>rfl|some d=>exact ih j (O++[(d:Int)]) Z5 l7 Z5
   .rw[if_neg hlt,if_neg hlt]
 have:=key 100 jb [] Z5 (by unfold jb;omega) x9;refine(lV this _).trans ?_;unfold je;cases Vq s 100 []<;>rfl
def qC(s:A7)(e:Int)(i:Nat):d1B:=onL (λd=>decide (e∈O6 s (d:Int))) i
def UW(s:A7)(O:d1A)(d:Int):d1A:=(O6 s d).filter λx=> !qX O x
def hw(W:d1A)(d:Int):Int:=W.getD d.toNat 0
variable {W:d1A}
theorem b3Q{d:Int}(h0:0<=d)(h:d<o9 W):F9 W d=some (hw W d)/\V6 W (V9 d)=some (hw W d):=by have:=Ol h0 h;refine⟨this,?_⟩;unfold F9 at this;rw[if_pos h0]at this;exact this
theorem b3R{d:Int}(h0:0<=d)(h:d<o9 W)(v x:Int)(hx:0<=x):hw (aU W (V9 d) v) x=if x=d then v else hw W x:=by
 unfold hw;have hl:d.toNat<W.length:=by simp only[o9]at h;omega
 show(W.set d.toNat v).getD x.toNat 0=_;rw[qY,qY,Z9];by_cases hq:x=d
 .subst hq;rw[if_pos rfl,if_pos hl,if_pos rfl];rfl
 .rw[if_neg l7,if_neg hq]
theorem E_(W:d1A)(i:Nat)(v:Int):(aU W i v).length=W.length:=by show(W.set i v).length=_;simp
theorem Rx{n:Nat}(hd:l.Nodup)(hr:∀x∈l,0<=x/\x<(n:Int)):l.length<=n:=by
 have hp:=Js l;have hs:=Il l;have hnd:(MX l).Nodup:=hp.nodup_iff.2 hd;have hsi:SI (MX l):=by have:=List.Pairwise.and hs hnd;exact this.imp λ{a b} ⟨h1,h2⟩=>by omega
 have:=Uk n hsi λx hx=>hr x (hp.mem_iff.1 hx);rw[hp.length_eq]at this;exact this
theorem a5g(h:SI l){m:Int}(hm:m∉O):((l.filter λx=> !qX (O++[m]) x).length:Int)=((l.filter λx=> !qX O x).length:Int) -(if m∈l then 1 else 0):=by
 have hh:∀x,qX (O++[m]) x=(qX O x || x8 m x):=λx=>by unfold qX;rw[vI];simp
 induction l with
 |nil=>simp|cons a l ih=>
  have h' :=af.1 h;have ih' :=ih h'.2;rw[bK,bK,hh];by_cases hma:m=a
  .subst hma;have hno:m∉l:=λhx=>by have:=h'.1 m hx;omega
   rw[if_neg hno]at ih';have h1:qX O m=false:=by
    cases hq:qX O m
    .rfl
    .exact absurd (yA.1 hq) hm
   have hA:(!(qX O m || x8 m m))=false:=by rw[N9 rfl];simp
   have hB:(!qX O m)=true:=by rw[h1];rfl
   rw[hA,hB,if_pos (show m∈m::l by simp)];simp only[dL,if_false,if_true,H9];omega
  .rw[O9 hma,tH];have:(if m∈a::l then(1:Int)else 0)=if m∈l then 1 else 0:=by simp[hma]
   rw[this];cases qX O a
   .simp only[Bool.not_false,if_true,H9];omega
   .simp only[jr,dL,if_false];exact ih'
structure KInv (s:A7) (O W H:d1A):Prop where
 nd:O.Nodup
 rng:∀x∈O,0<=x/\x<nD s
 cl:∀u∈O,∀x∈O6 s u,x∈O
 wl:W.length=s.2.2.2.1.length
 w:∀d,0<=d->d<nD s->hw W d=((UW s O d).length:Int)
 hp:Pz H H.length
 hnd:H.Nodup
 hm:∀d,d∈H↔0<=d/\d<nD s/\d∉O/\hw W d=0
theorem a7Z :okN s O d=true↔(d:Int)∉O/\UW s O (d:Int)=[]:=by
 unfold okN Xg UW;cases hq:qX O (d:Int)
 .have h1:(d:Int)∉O:=λh=>by rw[yA.2 h]at hq;cases hq
  simp only[o6,lJ,nP,lI,Bool.not_eq_false'];exact⟨λh=>⟨h1,λa ha=>by rw[h a ha]⟩,λh a ha=>h.2 a ha⟩
 .have h1:=yA.1 hq;simp only[o7];exact⟨λh=>(by cases h),λh=>absurd h1 h.1⟩
variable {H:d1A}
theorem KInv.ready(h:KInv s O W H)(hd:d<s.2.2.2.1.length):okN s O d=true↔(d:Int)∈H:=by
 have hn:nD s=((s.2.2.2.1.length:Nat):Int):=rfl;rw[a7Z,h.hm];have:=h.w (d:Int) l7 l7;constructor
 .rintro⟨h1,h2⟩;exact⟨l7,l7,h1,by rw[this,h2];rfl⟩
 .rintro⟨_,_,h1,h2⟩;refine⟨h1,U2.1 ?_⟩;rw[this]at h2;omega
theorem KInv.next_none(h:KInv s O W []):Ph s O=none:=
 Q_ λj hj=>by
  cases hq:okN s O j
  .rfl
  .have:=(h.ready hj).1 hq;cases this
theorem KInv.next_some(h:KInv s O W H)(h0:0<H.length):∃m:Nat,hg H 0=(m:Int)/\Ph s O=some m/\m<s.2.2.2.1.length/\O.length<s.2.2.2.1.length:=by
 have hn:nD s=((s.2.2.2.1.length:Nat):Int):=rfl;have hmem:hg H 0∈H:=by have:=Aj h0;exact kw this
 have hmm:=(h.hm _).1 hmem;obtain⟨m,hm⟩:∃m:Nat,hg H 0=(m:Int):=⟨(hg H 0).toNat,l7⟩;rw[hm]at hmem hmm;have hlt:m<s.2.2.2.1.length:=l7;refine⟨m,hm,XZ hlt ((h.ready hlt).2 hmem) λj hj=>?_,hlt,?_⟩
 .cases hq:okN s O j
  .rfl
  .have hjH:=(h.ready l7).1 hq;obtain⟨i,hi,he⟩:=X7 hjH;have:=b3O h.hp i hi;have e:=Aj hi;rw[bn hi,he]at e;have:=I9 e;omega
 .have hnd:(O++[(m:Int)]).Nodup:=O7.2 ⟨h.nd,x9,λa ha b hb=>by simp at hb;subst hb;intro hq;subst hq;exact hmm.2.2.1 ha⟩;have:=Rx (n:=s.2.2.2.1.length) hnd λx hx=>by
   rcases C9.1 hx with hx|hx
   .exact h.rng x hx
   .simp at hx;subst hx;omega
  simp at this;omega
structure UInv (s:A7) (W H0:d1A) (us:d1A) (W' H' :d1A):Prop where
 wl:W'.length=s.2.2.2.1.length
 w:∀d,0<=d->d<nD s->hw W' d=hw W d -(if d∈us then 1 else 0)
 hp:Pz H' H'.length
 pm:∃P:d1A,H'.Perm (H0++P)/\P.Sublist us/\∀d,d∈P↔d∈us/\hw W d=1
theorem a9e(hs:SmS s){W H0 us:d1A}(hW:W.length=s.2.2.2.1.length)(hW2:∀d,0<=d->d<nD s->-1000<=hw W d/\hw W d<=1000)(hH:Pz H0 H0.length)(hHl:H0.length<=100)(hus:SI us)(hur:∀u∈us,0<=u/\u<nD s)
  {f:d1A×d1A×Int->Option ((d1A×d1A×Int)⊕(d1A×d1A))}
  (hin:∀(i:Nat) (u:Int) (A B:d1A),us[i]? =some u->f (A,B,(i:Int))=o5 (F9 A u) λ(x_8:Int)=>o5 (V6 A (V9 u)) λ(x_9:Int)=>o5 (F9 A u) λ(x_10:Int)=>o5 (V6 A (V9 u)) λ(x_11:Int)=>
   o5 (F9 (aU A (V9 u) (L6 .i64 x_9 1)) u) λ(x_12:Int)=>o5 (V6 (aU A (V9 u) (L6 .i64 x_9 1)) (V9 u)) λ(x_13:Int)=>l9 (x8 x_13 0) (o5 (iO B u) λ(x_14:d1A)=>some (.inl (aU A (V9 u) (L6 .i64 x_9 1),x_14,D5 .i64 (i:Int) 1)))
    (some (.inl (aU A (V9 u) (L6 .i64 x_9 1),B,D5 .i64 (i:Int) 1))))
  (hend:∀(A B:d1A),f (A,B,(us.length:Int))=some (.inr (A,B))):∃W' H',aB f (W,H0,0)=some (W',H')/\UInv s W H0 us W' H' :=by
 have hn:nD s=((s.2.2.2.1.length:Nat):Int):=rfl;have hul:us.length<=14:=FV hs hus hur;obtain⟨e,h1,h2⟩:=iJ (f:=f) (s:=(W,H0,0)) (λx=>∃(i:Nat) (A B:d1A),x=(A,B,(i:Int))/\i<=us.length/\UInv s W H0 (us.take i) A B/\B.length<=H0.length+i) (λe=>UInv s W H0 us e.1 e.2) (λx=>us.length -x.2.2.toNat)
  ⟨0,W,H0,rfl,l7,⟨hW,λd _ _=>by simp,hH,[],x9,x9,λd=>by simp⟩,l7⟩ Z5 (by
  rintro x ⟨i,A,B,rfl,hi,hU,hBl⟩;by_cases hlt:i<us.length
  .left;have e:=bn hlt;generalize us[i]=u at e;have hu:=hur u (kw e);have hst:us.take (i+1)=us.take i++[u]:=by rw[U3 hlt,(X6.1 e).2]
   have hnot:u∉us.take i:=λhx=>by obtain⟨j,hj,hq⟩:=X7 hx;simp only[bM]at hj;have h3:=iZ.1 hus j i l7 hlt l7;rw[rZ]at hq;have h4:=(X6.1 e).2;omega
   have hAl:=hU.wl;have hAu:=hU.w u hu.1 hu.2;rw[if_neg hnot]at hAu;have hbd:=hW2 u hu.1 hu.2;obtain⟨q1,q2⟩:=b3Q (W:=A) hu.1 (by simp only[o9];omega);have hsub:L6 .i64 (hw A u) 1=hw A u -1:=X4 U7;have hA2:∀d,0<=d->d<nD s->hw (aU A (V9 u) (hw A u -1)) d=hw W d -(if d∈us.take (i+1)then 1 else 0):=λd d0 d1=>by
    rw[b3R hu.1 (by simp only[o9];omega) _ _ d0,hst];have:=hU.w d d0 d1;by_cases hq:d=u
    .subst hq;rw[if_pos rfl,if_pos x9];omega
    .rw[if_neg hq,this];simp[hq]
   obtain⟨q3,q4⟩:=b3Q (W:=aU A (V9 u) (hw A u -1)) (d:=u) hu.1 (by simp only[o9,E_];omega);have hv:hw (aU A (V9 u) (hw A u -1)) u=hw A u -1:=by rw[b3R hu.1 (by simp only[o9];omega) _ _ hu.1,if_pos rfl]
   rw[hv]at q3 q4;obtain⟨P,p1,p2,p3⟩:=hU.pm;rw[hin i u A B e,q1,o8,q2,o8,o8,o8,hsub,q3,o8,q4,o8,Y4 l7];by_cases hz:hw A u -1=0
   .obtain⟨B',b1,b2,b3⟩:=a2d (l:=B) l7 hU.hp u;rw[N9 hz,o7,b1,o8];have hB'l:B'.length=B.length+1:=by rw[b3.length_eq];simp
    refine⟨_,rfl,⟨i+1,_,_,rfl,hlt,⟨by rw[E_];exact hAl,hA2,b2,P++[u],?_,?_,λd=>?_⟩,l7⟩,by simp;omega⟩
    .rw[←G5];exact b3.trans (p1.append_right [u])
    .rw[hst];exact p2.append (List.Sublist.refl _)
    .rw[C9,p3,hst,C9];constructor
     .rintro(⟨h,h'⟩|h)
      .exact⟨.inl h,h'⟩
      .simp at h;subst h;exact⟨.inr x9,l7⟩
     .rintro⟨h|h,h'⟩
      .exact .inl ⟨h,h'⟩
      .exact .inr h
   .rw[O9 hz,o6];refine⟨_,rfl,⟨i+1,_,_,rfl,hlt,⟨by rw[E_];exact hAl,hA2,hU.hp,P,p1,?_,λd=>?_⟩,l7⟩,by simp;omega⟩
    .rw[hst];exact p2.trans (List.sublist_append_left _ _)
    .rw[p3,hst,C9];constructor
     .rintro⟨h,h'⟩;exact⟨.inl h,h'⟩
     .rintro⟨h|h,h'⟩
      .exact⟨h,h'⟩
      .simp at h;subst h;omega
  .right;have:i=us.length:=l7;subst this;rw[aQ]at hU;exact⟨_,hend _ _,hU⟩)
 exact⟨e.1,e.2,h1,h2⟩
theorem OU{m:Int}{d:Int} :d∈castL (qC s m s.2.2.2.1.length)↔0<=d/\d<nD s/\m∈O6 s d:=by
 have hn:nD s=((s.2.2.2.1.length:Nat):Int):=rfl;unfold castL;rw[U0];constructor
 .rintro⟨k,hk,rfl⟩;obtain⟨h1,h2⟩:=LV _ hk;exact⟨l7,l7,by simpa using h2⟩
 .rintro⟨h1,h2,h3⟩;refine⟨d.toNat,?_,l7⟩;unfold qC onL;rw[I7,P8];exact⟨l7,by rw[aA h1];simpa using h3⟩
theorem ZB{l:d1B}(h:l.Pairwise (·< ·)):SI (castL l):=List.Pairwise.map _ (λa b h=>by omega) h
theorem KInv.step(h:KInv s O W H)(h0:0<H.length){m:Nat}(hm:hg H 0=(m:Int)){R:d1A}(hR:Pz R R.length)(hRp:(R++[(m:Int)]).Perm H){W' H' :d1A}(hU:UInv s W R (castL (qC s (m:Int) s.2.2.2.1.length)) W' H'):KInv s (O++[(m:Int)]) W' H' :=by
 have hn:nD s=((s.2.2.2.1.length:Nat):Int):=rfl;have hmem:(m:Int)∈H:=by rw[←hm];have:=Aj h0;exact kw this
 have hmm:=(h.hm _).1 hmem;have hleft:UW s O (m:Int)=[]:=by have:=h.w (m:Int) hmm.1 hmm.2.1;rw[hmm.2.2.2]at this;exact U2.1 l7
 have hdeps:∀x∈O6 s (m:Int),x∈O:=λx hx=>by have hnil:=nP.1 hleft x hx;simp only[lI,Bool.not_eq_false']at hnil;exact yA.1 hnil
 have hndR:(R++[(m:Int)]).Nodup:=hRp.nodup_iff.2 h.hnd;have hmR:(m:Int)∉R:=λhx=>by have:=(O7.1 hndR).2.2 _ hx _ (D9.2 rfl);exact this rfl
 have hRm:∀d,d∈R↔d∈H/\d≠(m:Int):=λd=>by
  rw[←hRp.mem_iff,C9,D9];constructor
  .intro hx;exact⟨.inl hx,λhq=>hmR (hq▸hx)⟩
  .rintro⟨hx|hx,hq⟩
   .exact hx
   .exact absurd hx hq
 obtain⟨P,p1,p2,p3⟩:=hU.pm;have huO:∀u,(m:Int)∈O6 s u->u∉O:=λu hu hx=>hmm.2.2.1 (h.cl u hx _ hu);refine⟨?_,?_,?_,hU.wl,λd d0 d1=>?_,hU.hp,?_,λd=>?_⟩
 .exact O7.2 ⟨h.nd,x9,λa ha b hb=>by simp at hb;subst hb;intro hq;subst hq;exact hmm.2.2.1 ha⟩
 .intro x hx;rcases C9.1 hx with hx|hx
  .exact h.rng x hx
  .simp at hx;subst hx;exact⟨hmm.1,hmm.2.1⟩
 .intro u hu x hx;rcases C9.1 hu with hu|hu
  .exact I5 _ (h.cl u hu x hx)
  .simp at hu;subst hu;exact I5 _ (hdeps x hx)
 .rw[hU.w d d0 d1,h.w d d0 d1];unfold UW;rw[a5g (Dv s d) hmm.2.2.1];congr 1;have:(d∈castL (qC s (m:Int) s.2.2.2.1.length))↔((m:Int)∈O6 s d):=by rw[OU];exact⟨λh=>h.2.2,λh=>⟨d0,d1,h⟩⟩
  by_cases hq:(m:Int)∈O6 s d
  .rw[if_pos (this.2 hq),if_pos hq]
  .rw[if_neg (λhx=>hq (this.1 hx)),if_neg hq]
 .rw[p1.nodup_iff];refine O7.2 ⟨(O7.1 hndR).1,?_,λa ha b hb hq=>?_⟩
  .have:(castL (qC s (m:Int) s.2.2.2.1.length)).Nodup:=(ZB (Qn _ _)).imp λ{a b} h=>by omega
   exact p2.nodup this
  .subst hq;have h1:=(h.hm a).1 ((hRm a).1 ha).1;have h2:=(p3 a).1 hb;omega
 .rw[p1.mem_iff,C9,hRm,p3,OU,h.hm];have hw' :=λd0 d1=>hU.w d d0 d1;have hmemU:d∈castL (qC s (m:Int) s.2.2.2.1.length)↔0<=d/\d<nD s/\(m:Int)∈O6 s d:=OU;constructor
  .rintro(⟨⟨d0,d1,dO,dw⟩,dm⟩|⟨⟨d0,d1,dd⟩,dw⟩)
   .refine⟨d0,d1,λhx=>?_,?_⟩
    .rcases C9.1 hx with hx|hx
     .exact dO hx
     .simp at hx;exact dm hx
    .have hnot:(m:Int)∉O6 s d:=λhx=>by
      have h1:=h.w d d0 d1;rw[dw]at h1;have h2:UW s O d=[]:=U2.1 l7;have h3:=nP.1 h2 _ hx;simp only[lI,Bool.not_eq_false']at h3;exact hmm.2.2.1 (yA.1 h3)
     rw[hw' d0 d1,dw,if_neg (λhx=>hnot (hmemU.1 hx).2.2)];rfl
   .refine⟨d0,d1,λhx=>?_,?_⟩
    .rcases C9.1 hx with hx|hx
     .exact huO d dd hx
     .simp at hx;rw[hx]at dd;exact hmm.2.2.1 (hdeps _ dd)
    .rw[hw' d0 d1,if_pos (hmemU.2 ⟨d0,d1,dd⟩)];omega
  .rintro⟨d0,d1,dO,dw⟩;rw[hw' d0 d1]at dw;have dO1:d∉O:=λhx=>dO (I5 _ hx);have dm:d≠(m:Int):=λhx=>dO (by rw[hx];simp);by_cases hq:(m:Int)∈O6 s d
   .rw[if_pos (hmemU.2 ⟨d0,d1,hq⟩)]at dw;exact .inr ⟨⟨d0,d1,hq⟩,l7⟩
   .rw[if_neg (λhx=>hq (hmemU.1 hx).2.2)]at dw;exact .inl ⟨⟨d0,d1,dO1,l7⟩,dm⟩
def Gq(s:A7)(i:Nat):List d1A:=(List.range s.2.2.2.1.length).map λ(e:Nat)=>castL (qC s (e:Int) i)
theorem MI(l:d1B):(castL l).length=l.length:=by unfold castL;rw[H7]
theorem a9f(s:A7)(e:Int)(i:Nat):castL (qC s e (i+1))=castL (qC s e i)++(if e∈O6 s (i:Int)then[(i:Int)]else[]):=by unfold qC;rw[EE];by_cases h:e∈O6 s (i:Int)<;>simp[castL,h]
theorem a9d(hs:SmS s)(i:Nat)(hi:i<s.2.2.2.1.length){f:List d1A×Int->Option ((List d1A×Int)⊕List d1A)}
  (hin:∀(k:Nat) (e:Int) (A:List d1A),(O6 s (i:Int))[k]? =some e->f (A,(k:Int))=l9 (inb e (o9 A)) (o5 (V6 A (V9 e)) λ(x_7:d1A)=>o5 (cu x_7 [(i:Int)]) λ(x_8:d1A)=>l9 (inb e (o9 A)) (l9 (Qk (V9 e) (V9 e)) (o5 (V6 A (V9 e)) λ(x_9:d1A)=>some (.inl (aU A (V9 e) x_8,D5 .i64 (k:Int) 1))) none) none) none)
  (hend:∀A,f (A,((O6 s (i:Int)).length:Int))=some (.inr A)):aB f (Gq s i,0)=some (Gq s (i+1)):=by
 have hn:nD s=((s.2.2.2.1.length:Nat):Int):=rfl;have hdl:=NL hs (i:Int);have hnd:=hs.nd;have hsi:=Dv s (i:Int);refine(ou (O6 s (i:Int)) (λ(A:List d1A) e=>A.set e.toNat (A.getD e.toNat []++[(i:Int)])) (λb k=>(b,k)) (λb=>b) (λk A=>A=(List.range s.2.2.2.1.length).map λ(e:Nat)=>castL (qC s (e:Int) i)++(if(e:Int)∈(O6 s (i:Int)).take k then[(i:Int)]else[])) (b:=Gq s i) l7 (by simp[Gq]) (λk e A he hk hA=>?_) (λA hA=>hend A)).1.trans ?_
 .have hlt:=(X6.1 he).1;have her:=uK (kw he);have hst:(O6 s (i:Int)).take (k+1)=(O6 s (i:Int)).take k++[e]:=by rw[U3 hlt,(X6.1 he).2]
  have hnot:e∉(O6 s (i:Int)).take k:=λhx=>by obtain⟨j,hj,hq⟩:=X7 hx;simp only[bM]at hj;have h3:=iZ.1 hsi j k l7 hlt l7;rw[rZ]at hq;have h4:=(X6.1 he).2;omega
  have hlA:A.length=s.2.2.2.1.length:=by rw[hA];simp
  have hg:A[e.toNat]? =some (castL (qC s e i)):=by rw[hA,Ip _ _ (show e.toNat<s.2.2.2.1.length by omega),aA her.1,if_neg hnot,H6]
  have hul:(castL (qC s e i)).length<=i:=by rw[MI];exact ED _ _
  rw[hin k e A he,show inb e (o9 A)=true from decide_eq_true ⟨her.1,by simp only[o9];omega⟩,o7,show V6 A (V9 e)=some (castL (qC s e i))from hg,o8,fQ _ l7,o8,o7,show Qk (V9 e) (V9 e)=true by simp[Qk],o7,o8,Y4 l7];rw[show A.getD e.toNat []=castL (qC s e i) by rw[qY,hg];rfl];refine⟨rfl,?_⟩;rw[hA,YS];apply dn;intro d hd;rw[hst];by_cases hq:d=e.toNat
  .subst hq;rw[if_pos rfl,aA her.1,if_pos x9]
  .rw[if_neg hq];have:(if(d:Int)∈(O6 s (i:Int)).take k++[e]then[(i:Int)]else[])=if(d:Int)∈(O6 s (i:Int)).take k then[(i:Int)]else[]:=by
    have:(d:Int)≠e:=l7;simp[this]
   rw[this]
 .have h2:=(ou (O6 s (i:Int)) (λ(A:List d1A) e=>A.set e.toNat (A.getD e.toNat []++[(i:Int)])) (λb k=>(b,k)) (λb=>b) (λk A=>A=(List.range s.2.2.2.1.length).map λ(e:Nat)=>castL (qC s (e:Int) i)++(if(e:Int)∈(O6 s (i:Int)).take k then[(i:Int)]else[])) (f:=f) (b:=Gq s i) l7 (by simp[Gq]) (λk e A he hk hA=>by
   have hlt:=(X6.1 he).1;have her:=uK (kw he);have hst:(O6 s (i:Int)).take (k+1)=(O6 s (i:Int)).take k++[e]:=by rw[U3 hlt,(X6.1 he).2]
   have hnot:e∉(O6 s (i:Int)).take k:=λhx=>by obtain⟨j,hj,hq⟩:=X7 hx;simp only[bM]at hj;have h3:=iZ.1 hsi j k l7 hlt l7;rw[rZ]at hq;have h4:=(X6.1 he).2;omega
   have hlA:A.length=s.2.2.2.1.length:=by rw[hA];simp
   have hg:A[e.toNat]? =some (castL (qC s e i)):=by rw[hA,Ip _ _ (show e.toNat<s.2.2.2.1.length by omega),aA her.1,if_neg hnot,H6]
   have hul:(castL (qC s e i)).length<=i:=by rw[MI];exact ED _ _
   rw[hin k e A he,show inb e (o9 A)=true from decide_eq_true ⟨her.1,by simp only[o9];omega⟩,o7,show V6 A (V9 e)=some (castL (qC s e i))from hg,o8,fQ _ l7,o8,o7,show Qk (V9 e) (V9 e)=true by simp[Qk],o7,o8,Y4 l7];rw[show A.getD e.toNat []=castL (qC s e i) by rw[qY,hg];rfl];refine⟨rfl,?_⟩;rw[hA,YS];apply dn;intro d hd;rw[hst];by_cases hq:d=e.toNat
   .subst hq;rw[if_pos rfl,aA her.1,if_pos x9]
   .rw[if_neg hq];have:(if(d:Int)∈(O6 s (i:Int)).take k++[e]then[(i:Int)]else[])=if(d:Int)∈(O6 s (i:Int)).take k then[(i:Int)]else[]:=by
     have:(d:Int)≠e:=l7;simp[this]
    rw[this]) (λA hA=>hend A)).2
  rw[h2];unfold Gq;apply congrArg some;apply dn;intro d hd;rw[a9f,aQ]
theorem b3I{α β σ:Type}{o:Option α}{x:α}{K:α->Option (σ⊕β)}{Q:σ->Prop}(h:o=some x)(hk:∃s',K x=some (.inl s')/\Q s'):∃s',o5 o K=some (.inl s')/\Q s' :=by rw[h];exact hk
structure IInv (s:A7) (i:Nat) (U:List d1A) (W H:d1A):Prop where
 u:U=Gq s i
 w:W=pd ((List.range i).map λ(d:Nat)=>((O6 s (d:Int)).length:Int)) (s.2.2.2.1.length -i)
 hp:Pz H H.length
 hnd:H.Nodup
 hm:∀d,d∈H↔0<=d/\d<(i:Int)/\O6 s d=[]
 hl:H.length<=i
theorem b4L(hs:SmS s):vg s=some (je s):=by
 have hn:nD s=((s.2.2.2.1.length:Nat):Int):=rfl;have hnd:=hs.nd;unfold vg;rw[Nz hs,o8];have hAl:o9 ((List.range s.2.2.2.1.length).map λ(d:Nat)=>O6 s (d:Int))=((s.2.2.2.1.length:Nat):Int):=by simp[o9]
 have hAg:∀i,i<s.2.2.2.1.length->((List.range s.2.2.2.1.length).map λ(d:Nat)=>O6 s (d:Int))[i]? =some (O6 s (i:Int)):=λi hi=>Ip _ _ hi;generalize (List.range s.2.2.2.1.length).map (λ(d:Nat)=>O6 s (d:Int))=A at*;rw[hAl,show pX ((s.2.2.2.1.length:Nat):Int) ([]:d1A)=some (Gq s 0) by
  unfold pX Gq qC onL castL;rw[if_pos l7];simp[List.map_const'],o8,show pX ((s.2.2.2.1.length:Nat):Int) (0:Int)=some (pd ((List.range 0).map λ(d:Nat)=>((O6 s (d:Int)).length:Int)) (s.2.2.2.1.length -0)) by
  unfold pX pd;rw[if_pos l7];simp,o8]
 obtain⟨e,k1,k2⟩:=iJ (f:=λ(x_3:List d1A×d1A×d1A×Int)=>l9 (E8 x_3.2.2.2 ((s.2.2.2.1.length:Nat):Int)) (o5 (F9 A x_3.2.2.2) λ(x:d1A)=>o5 (F9 x_3.2.1 x_3.2.2.2) λ(x_4:Int)=>o5 (V6 x_3.2.1 (V9 x_3.2.2.2)) λ(x_5:Int)=>
   o5 (aB (λ(x_6:List d1A×Int)=>l9 (E8 x_6.2 (o9 x)) (o5 (F9 x x_6.2) λ(x:Int)=>l9 (inb x (o9 x_6.1)) (o5 (V6 x_6.1 (V9 x)) λ(x_7:d1A)=>o5 (cu x_7 [x_3.2.2.2]) λ(x_8:d1A)=>l9 (inb x (o9 x_6.1)) (l9 (Qk (V9 x) (V9 x)) (o5 (V6 x_6.1 (V9 x)) λ(x_9:d1A)=>some (.inl (aU x_6.1 (V9 x) x_8,D5 .i64 x_6.2 1))) none) none) none) (some (.inr x_6.1))) (x_3.1,0)) λ(y:List d1A)=>
   l9 (x8 (o9 x) 0) (o5 (iO x_3.2.2.1 x_3.2.2.2) λ(x_6:d1A)=>some (.inl (y,aU x_3.2.1 (V9 x_3.2.2.2) (o9 x),x_6,D5 .i64 x_3.2.2.2 1))) (some (.inl (y,aU x_3.2.1 (V9 x_3.2.2.2) (o9 x),x_3.2.2.1,D5 .i64 x_3.2.2.2 1)))) (some (.inr (x_3.1,x_3.2.1,x_3.2.2.1))))
  (s:=(Gq s 0,pd ((List.range 0).map λ(d:Nat)=>((O6 s (d:Int)).length:Int)) (s.2.2.2.1.length -0),[],0)) (λx=>∃(i:Nat) (U:List d1A) (W H:d1A),x=(U,W,H,(i:Int))/\i<=s.2.2.2.1.length/\IInv s i U W H) (λy=>IInv s s.2.2.2.1.length y.1 y.2.1 y.2.2) (λx=>s.2.2.2.1.length -x.2.2.2.toNat)
  ⟨0,_,_,_,rfl,l7,rfl,rfl,λk k0 k1=>by simp at k1,x9,λd=>by simp;omega,x9⟩ Z5 (by
  rintro x ⟨i,U,W,H,rfl,hi,hI⟩;by_cases hlt:i<s.2.2.2.1.length
  .left;obtain⟨m,hm⟩:∃m,s.2.2.2.1.length -i=m+1:=⟨s.2.2.2.1.length -i -1,l7⟩;have hlen:((List.range i).map λ(d:Nat)=>((O6 s (d:Int)).length:Int)).length=i:=x9;have q1:=a3G ((List.range i).map λ(d:Nat)=>((O6 s (d:Int)).length:Int)) m;have q2:=a3H ((List.range i).map λ(d:Nat)=>((O6 s (d:Int)).length:Int)) m;have q3:=a8f ((List.range i).map λ(d:Nat)=>((O6 s (d:Int)).length:Int)) m (o9 (O6 s (i:Int)));rw[hlen]at q1 q2 q3;have hW:=hI.w;rw[hm]at hW;have hl14:=hI.hl;have hus:=a9d hs i hlt (f:=λ(x_6:List d1A×Int)=>l9 (E8 x_6.2 (o9 (O6 s (i:Int)))) (o5 (F9 (O6 s (i:Int)) x_6.2) λ(x:Int)=>l9 (inb x (o9 x_6.1)) (o5 (V6 x_6.1 (V9 x)) λ(x_7:d1A)=>o5 (cu x_7 [(i:Int)]) λ(x_8:d1A)=>l9 (inb x (o9 x_6.1)) (l9 (Qk (V9 x) (V9 x)) (o5 (V6 x_6.1 (V9 x)) λ(x_9:d1A)=>some (.inl (aU x_6.1 (V9 x) x_8,D5 .i64 x_6.2 1))) none) none) none) (some (.inr x_6.1)))
    (λk e A he=>by simp only[J7 he,o7,F7,he,o8]) (λA=>by simp only[J6];rfl)
   simp only;rw[U8 l7,o7,F7,hAg i hlt,o8,hW,q1,o8,q2,o8,hI.u];refine b3I hus ?_;rw[q3,Y4 l7];have hwn:pd ((List.range i).map (λ(d:Nat)=>((O6 s (d:Int)).length:Int))++[o9 (O6 s (i:Int))]) m=pd ((List.range (i+1)).map λ(d:Nat)=>((O6 s (d:Int)).length:Int)) (s.2.2.2.1.length -(i+1)):=by rw[X3,bY,show s.2.2.2.1.length -(i+1)=m by omega];rfl
   rw[hwn];by_cases hz:(O6 s (i:Int)).length=0
   .obtain⟨H',b1,b2,b3⟩:=a2d (l:=H) l7 hI.hp (i:Int);have hnil:=U2.1 hz;rw[N9 (by simp[o9,hz]),o7,b1,o8];have hni:(i:Int)∉H:=λhx=>by have:=(hI.hm _).1 hx;omega
    refine⟨_,rfl,⟨i+1,_,_,_,rfl,hlt,rfl,rfl,b2,?_,λd=>?_,by rw[b3.length_eq];simp;omega⟩,by simp;omega⟩
    .rw[b3.nodup_iff];exact O7.2 ⟨hI.hnd,x9,λa ha b hb=>by simp at hb;subst hb;intro hq;subst hq;exact hni ha⟩
    .rw[b3.mem_iff,C9,hI.hm,D9];constructor
     .rintro(⟨h1,h2,h3⟩|h)
      .exact⟨h1,l7,h3⟩
      .subst h;exact⟨l7,l7,hnil⟩
     .rintro⟨h1,h2,h3⟩;by_cases hq:d=(i:Int)
      .exact .inr hq
      .exact .inl ⟨h1,l7,h3⟩
   .rw[O9 (by simp only[o9];omega),o6];refine⟨_,rfl,⟨i+1,_,_,_,rfl,hlt,rfl,rfl,hI.hp,hI.hnd,λd=>?_,l7⟩,by simp;omega⟩;rw[hI.hm];constructor
    .rintro⟨h1,h2,h3⟩;exact⟨h1,l7,h3⟩
    .rintro⟨h1,h2,h3⟩;refine⟨h1,?_,h3⟩;by_cases hq:d=(i:Int)
     .subst hq;rw[h3]at hz;exact absurd rfl hz
     .omega
  .right;have:i=s.2.2.2.1.length:=l7;subst this;exact⟨(U,W,H),by simp only[N7 (show((s.2.2.2.1.length:Nat):Int)<=((s.2.2.2.1.length:Nat):Int) by omega)];rfl,hI⟩)
 refine(lV k1 _).trans ?_;obtain⟨U,W,H⟩:=e;simp only at k2 ⊢;have hwd:∀d,0<=d->d<nD s->hw W d=((O6 s d).length:Int):=λd d0 d1=>by have hd:d.toNat<s.2.2.2.1.length:=l7;rw[k2.w,dX];unfold hw pd;rw[qY,List.replicate_zero,H6,Ip _ _ hd,aA d0];rfl
 have hK:KInv s [] W H:=by
  refine⟨x9,x9,x9,by rw[k2.w];simp[pd],λd d0 d1=>?_,k2.hp,k2.hnd,λd=>?_⟩
  .rw[hwd d d0 d1];have:UW s [] d=O6 s d:=List.filter_eq_self.2 λa _=>rfl;rw[this]
  .rw[k2.hm];constructor
   .rintro⟨h1,h2,h3⟩;exact⟨h1,l7,x9,by rw[hwd d h1 l7,h3];rfl⟩
   .rintro⟨h1,h2,_,h4⟩;rw[hwd d h1 h2]at h4;exact⟨h1,l7,U2.1 l7⟩
 have hU:=k2.u;subst hU;have hlatU:∀m:Nat,m<s.2.2.2.1.length->F9 (Gq s s.2.2.2.1.length) (m:Int)=some (castL (qC s (m:Int) s.2.2.2.1.length)):=λm hm=>by rw[F7];exact Ip _ _ hm
 have key:∀(k j:Nat) (O W H:d1A),KInv s O W H->s.2.2.2.1.length -O.length<k->k<=j->∃y,lU (λ(x:List d1A×lM)=>o5 (mW x.2.2.1) λ(x_3:Int)=>l9 (E8 0 x_3) (o5 (sW x.2.2.1) λ(x_4:Int×d1A)=>o5 (cu x.2.2.2 [x_4.1]) λ(x_5:d1A)=>o5 (F9 x.1 x_4.1) λ(x_6:d1A)=>
   o5 (aB (λ(x:d1A×d1A×Int)=>l9 (E8 x.2.2 (o9 x_6)) (o5 (F9 x_6 x.2.2) λ(x_7:Int)=>o5 (F9 x.1 x_7) λ(x_8:Int)=>o5 (V6 x.1 (V9 x_7)) λ(x_9:Int)=>o5 (F9 x.1 x_7) λ(x_10:Int)=>o5 (V6 x.1 (V9 x_7)) λ(x_11:Int)=>o5 (F9 (aU x.1 (V9 x_7) (L6 .i64 x_9 1)) x_7) λ(x_12:Int)=>o5 (V6 (aU x.1 (V9 x_7) (L6 .i64 x_9 1)) (V9 x_7)) λ(x_13:Int)=>
     l9 (x8 x_13 0) (o5 (iO x.2.1 x_7) λ(x_14:d1A)=>some (.inl (aU x.1 (V9 x_7) (L6 .i64 x_9 1),x_14,D5 .i64 x.2.2 1))) (some (.inl (aU x.1 (V9 x_7) (L6 .i64 x_9 1),x.2.1,D5 .i64 x.2.2 1)))) (some (.inr (x.1,x.2.1)))) (x.2.1,x_4.2,0)) λ(y:d1A×d1A)=>some (.inl (x.1,y.1,y.2,x_5))) (some (.inr x.2.2.2))) j (Gq s s.2.2.2.1.length,W,H,O)=some y/\Vq s k O=(if y.length<s.2.2.2.1.length then .inr ([],9)else .inl y):=by
  intro k;induction k with
  |zero=>intro j O W H hK hk;omega|succ k ih=>
   intro j O W H hK hk hj;obtain⟨j,rfl⟩:∃j',j=j' +1:=⟨j -1,l7⟩;rw[lU];simp only[mW,o8];cases H with
   |nil=>refine⟨O,rfl,?_⟩;unfold Vq;rw[hK.next_none]|cons h0 H=>
    generalize hHH:h0::H=HH at*;have hpos:0<HH.length:=by rw[←hHH];simp
    obtain⟨m,hm1,hm2,hm3,hm4⟩:=hK.next_some hpos;have hHl:HH.length<=14:=bJ (Rx (n:=s.2.2.2.1.length) hK.hnd λx hx=>by have:=(hK.hm x).1 hx;omega) hnd;obtain⟨R,r1,r2,r3⟩:=b3P (l:=HH) l7 hK.hp hpos;rw[hm1]at r1 r3;have hRl:R.length<=14:=by have:=r3.length_eq;simp at this;omega
    have hOl:O.length<=14:=l7;obtain⟨W',H',u1,u2⟩:=a9e hs (W:=W) (H0:=R) (us:=castL (qC s (m:Int) s.2.2.2.1.length)) hK.wl (λd d0 d1=>by
      have h1:=hK.w d d0 d1;have h2:=aJ (λx=> !qX O x) (O6 s d);have h3:=NL hs d;unfold UW at h1;omega) r2 l7 (ZB (Qn _ _)) (λu hu=>by have:=OU.1 hu;omega)
     (f:=λ(x:d1A×d1A×Int)=>l9 (E8 x.2.2 (o9 (castL (qC s (m:Int) s.2.2.2.1.length)))) (o5 (F9 (castL (qC s (m:Int) s.2.2.2.1.length)) x.2.2) λ(x_7:Int)=>o5 (F9 x.1 x_7) λ(x_8:Int)=>o5 (V6 x.1 (V9 x_7)) λ(x_9:Int)=>o5 (F9 x.1 x_7) λ(x_10:Int)=>o5 (V6 x.1 (V9 x_7)) λ(x_11:Int)=>o5 (F9 (aU x.1 (V9 x_7) (L6 .i64 x_9 1)) x_7) λ(x_12:Int)=>o5 (V6 (aU x.1 (V9 x_7) (L6 .i64 x_9 1)) (V9 x_7)) λ(x_13:Int)=>
     l9 (x8 x_13 0) (o5 (iO x.2.1 x_7) λ(x_14:d1A)=>some (.inl (aU x.1 (V9 x_7) (L6 .i64 x_9 1),x_14,D5 .i64 x.2.2 1))) (some (.inl (aU x.1 (V9 x_7) (L6 .i64 x_9 1),x.2.1,D5 .i64 x.2.2 1)))) (some (.inr (x.1,x.2.1))))
     (λi u A B hu=>by simp only[J7 hu,o7,F7 (castL (qC s (m:Int) s.2.2.2.1.length)),hu,o8]) (λA B=>by simp only[J6];rfl)
    have hK2:=hK.step hpos hm1 r2 r3 u2;obtain⟨y,y1,y2⟩:=ih j (O++[(m:Int)]) W' H' hK2 Z5 l7;refine⟨y,?_,?_⟩
    .rw[U8 (show(0:Int)<o9 HH by simp only[o9];omega),o7,r1,o8,fQ _ l7,o8,hlatU m hm3,o8,u1,o8];exact y1
    .unfold Vq;rw[if_pos hm4,hm2];exact y2
 obtain⟨y,y1,y2⟩:=key 100 jb [] W H hK Z5 (by unfold jb;omega);refine(lV y1 _).trans ?_;unfold je;rw[y2];by_cases hl:y.length<s.2.2.2.1.length
 .rw[if_pos hl,U8 (by simp only[o9];omega)];rfl
 .rw[if_neg hl,N7 (by simp only[o9];omega)];rfl
end
end Go.GP
namespace Gt
open Go Go.GP
def il(y:Int):Bool:=if y % 4=0 then(if y % 100≠0 then true else decide (y % 400=0))else false
def ys(y:Int):Int:=(y -1900)*365+((y -1) / 4 -(y -1) / 100+(y -1) / 400) -460
def diy(y:Int):Int:=if il y then 366 else 365
theorem LD(y:Int):ys (y+1)=ys y+diy y:=by unfold ys diy il;by_cases h4:y % 4=0<;>by_cases h100:y % 100=0<;>by_cases h400:y % 400=0<;>simp[h4,h100,h400]<;>omega
theorem Sz(a b:Int):a<b\/b<=a:=l7
theorem WA(y:Int):365<=diy y/\diy y<=366:=by unfold diy;split<;>omega
theorem vY{y y' :Int}(h:y<=y'):ys y<=ys y' :=by
 obtain⟨n,rfl⟩:∃n:Nat,y' =y+n:=⟨(y' -y).toNat,l7⟩;clear h;induction n with
 |zero=>simp|succ n ih=>have:=LD (y+n);have:=WA (y+n);have e:y+((n+1:Nat):Int)=y+n+1:=l7;rw[e];omega
variable {y:Int}
theorem Sr(h:1900<=y):0<=ys y:=by
 have:=vY h;have e:ys 1900=0:=by decide+kernel
 omega
theorem b2N{y y' d:Int}(h1:ys y<=d)(h2:d<ys (y+1))(h3:ys y' <=d)(h4:d<ys (y' +1)):y=y' :=by
 rcases Int.lt_trichotomy y y' with h|h|h
 .have:=vY (y:=y+1) (y' :=y') l7;omega
 .exact h
 .have:=vY (y:=y' +1) (y' :=y) l7;omega
def dim(y m:Int):Int:=
 if m=2 then(if il y then 29 else 28)else if m=4\/m=6\/m=9\/m=11 then 30 else 31
theorem FO(y m:Int):28<=dim y m/\dim y m<=31:=by
 unfold dim;repeat' split
 all_goals omega
theorem PO(h:0<=y):KH y=some (il y):=by
 unfold KH il;simp only[zD h];by_cases h4:y % 4=0
 .rw[Ic (N9 h4),if_pos h4];by_cases h100:y % 100=0
  .simp[x8,h100]
  .simp[x8,h100]
 .rw[NH (O9 h4),if_neg h4]
theorem Pj(h:0<=y):Ov y=some (il y):=PO h
theorem Ib(h:0<=y):nI y=some (diy y):=by unfold nI diy;rw[Pj h,o8];cases il y<;>rfl
variable {m:Int}
theorem m12(h:1<=m/\m<=12):m=1\/m=2\/m=3\/m=4\/m=5\/m=6\/m=7\/m=8\/m=9\/m=10\/m=11\/m=12:=l7
theorem wK(h:0<=y)(hm:1<=m/\m<=12):kT y m=some (dim y m):=by
 unfold kT;rcases m12 hm with rfl|rfl|rfl|rfl|rfl|rfl|rfl|rfl|rfl|rfl|rfl|rfl
 all_goals first|rfl|(rw[PO h];unfold dim;cases il y<;>rfl)
theorem vS(h:0<=y)(hm:1<=m/\m<=12):jd y m=some (dim y m):=by
 unfold jd;rcases m12 hm with rfl|rfl|rfl|rfl|rfl|rfl|rfl|rfl|rfl|rfl|rfl|rfl
 all_goals first|rfl|(rw[Pj h];unfold dim;cases il y<;>rfl)
theorem KI(h:0<=y)(h2:y<=1000000):zt y=some (y / 4 -y / 100+y / 400):=by unfold zt;simp only[dM,kL h];rw[nK U7,nK U7,nK U7,X4 U7,ai U7]
theorem Ed(h:1<=y)(h2:y<=1000000):sZ y=some (ys y):=by unfold sZ;have e1:L6 .i64 y 1900=y -1900:=X4 U7;have e2:az .i64 (y -1900) 365=(y -1900)*365:=og U7;rw[X4 (a:=y) (b:=1) U7,KI l7 l7,o8,KI l7 l7,o8,e1,e2,ai U7,X4 U7];unfold ys;congr 1
def mo(y:Int):Nat->Int->Int×Int
 |0,d=>(d,13)|n+1,d=>if d<dim y (12 -n)then(d,12 -n)else mo y n (d -dim y (12 -n))
theorem b0g(y:Int)(n:Nat)(d:Int):mo y (n+1) d=if d<dim y (12 -(n:Int))then(d,12 -(n:Int))else mo y n (d -dim y (12 -(n:Int))):=rfl
def rem(y:Int):Nat->Int
 |0=>0|n+1=>dim y (12 -n)+rem y n
theorem b5K(y:Int):rem y 12=diy y:=by unfold diy;cases h:il y<;>simp[rem,dim,h]
theorem b4n(y:Int):∀(n:Nat) (d:Int),n<=12->0<=d->d<rem y n->1<=(mo y n d).2/\(mo y n d).2<=12/\0<=(mo y n d).1/\(mo y n d).1<dim y (mo y n d).2
 |0,d,_,h0,h=>by simp[rem]at h;omega|n+1,d,hn,h0,h=>by
  unfold mo;by_cases hd:d<dim y (12 -n)
  .rw[if_pos hd];refine⟨?_,?_,h0,hd⟩<;>simp<;>omega
  .rw[if_neg hd];refine b4n y n _ l7 l7 ?_;simp only[rem]at h;omega
def yOf(d:Int):Int:=((((List.range 300).find? (λ(k:Nat)=>decide (d<ys (1900+(k:Int)+1)))).getD 0:Nat):Int)+1900
variable {d:Int}
theorem VW(h0:0<=d)(h:d<=109572):1900<=yOf d/\yOf d<=2199/\ys (yOf d)<=d/\d<ys (yOf d+1):=by
 unfold yOf;cases hf:(List.range 300).find? (λ(k:Nat)=>decide (d<ys (1900+(k:Int)+1)))with
 |none=>
  have:=List.find?_eq_none.1 hf 299 x9;simp only[decide_eq_true_eq]at this;have e:ys (1900+(299:Nat)+1)=109573:=by decide+kernel
  omega
 |some k=>
  have h1:=List.find?_some hf;simp only[decide_eq_true_eq]at h1;have h2:=List.mem_of_find?_eq_some hf;simp only[P8]at h2;simp only[dP];refine⟨l7,l7,?_,?_⟩
  .cases k with
   |zero=>
    have e:ys 1900=0:=by decide+kernel
    simp[e,h0]
   |succ j=>have h3:=List.find?_range_eq_some.1 hf;have h4:=h3.2.2 j l7;simp only[eH,decide_eq_false_iff_not,iT]at h4;have e:(((j+1:Nat):Int)+1900)=1900+(j:Int)+1:=l7;rw[e];exact h4
  .have e:(k:Int)+1900+1=1900+k+1:=l7;rw[e];exact h1
def qG(d:Int):Int×Int×Int:=let y:=yOf d;let r:=mo y 12 (d -ys y);(y,r.2,r.1+1)
theorem Gs(h0:0<=d)(h:d<=109572):zq d=some (qG d):=by
 obtain⟨y1,y2,y3,y4⟩:=VW h0 h;have y0:=Sr y1;unfold zq zu;rw[Ic (Y3 h0),o8,Y3 h,E5,o6];have e0:D5 .i64 1900 (dM .i64 d 366)=1900+d / 366:=by
  have e:dM .i64 d 366=d / 366:=by rw[zC (by rw[kL h0];unfold kP;omega),kL h0]
  rw[e,ai U7]
 rw[e0];obtain⟨y,hy,hq⟩:=iJ (f:=λ(x:Int)=>o5 (sZ (D5 IntKind.i64 x 1)) λ(x_1:Int)=>l9 (L8 x_1 d) (some (Sum.inl (D5 IntKind.i64 x 1))) (some (Sum.inr x))) (s:=1900+d / 366)
  (λy=>1900<=y/\y<=yOf d) (λy=>y=yOf d) (λy=>(2200 -y).toNat) (by
   refine⟨l7,?_⟩;have e:∀n:Nat,ys (1900+n)<=366*n:=by
    intro n;induction n with
    |zero=>decide+kernel|succ n ih=>have:=LD (1900+n);have:=WA (1900+n);have e:(1900:Int)+((n+1:Nat):Int)=1900+n+1:=l7;rw[e];omega
   have e1:=e (d / 366).toNat
   have e2:((d / 366).toNat:Int)=d / 366:=l7;rw[e2]at e1;rcases Sz (yOf d) (1900+d / 366)with hlt|hge
   .have:=vY (y:=yOf d+1) (y' :=1900+d / 366) l7;omega
   .exact hge) l7 (by
   intro y ⟨hy1,hy2⟩
   try simp only
   rw[ai U7,Ed l7 l7,o8];by_cases hle:ys (y+1)<=d
   .refine .inl ⟨y+1,by rw[Ic (Y3 hle)],⟨l7,?_⟩,l7⟩;rcases Sz (yOf d) (y+1)with hlt|hge
    .have:=vY (y:=yOf d+1) (y' :=y+1) l7;omega
    .exact hge
   .refine .inr ⟨y,by rw[NH (Y9 l7)],?_⟩;rcases Sz y (yOf d)with hlt|hge
    .have:=vY (y:=y+1) (y' :=yOf d) l7;omega
    .omega)
 rw[hy,o8,hq,Ed l7 l7,o8,X4 U7];have hs:=LD (yOf d);have hr:=b5K (yOf d);rcases xP (f:=λ(x:Int×Int)=>l9 (E8 x.2 12) (o5 (kT (yOf d) (D5 IntKind.i64 x.2 1)) λ(x_1:Int)=>l9 (E8 x.1 x_1) (some (Out.rt (yOf d,D5 IntKind.i64 x.2 1,D5 IntKind.i64 x.1 1))) (some (Out.nx (L6 IntKind.i64 x.1 x_1,D5 IntKind.i64 x.2 1)))) (some (Out.ex PUnit.unit))) (s:=(d -ys (yOf d),0))
  (λs=>∃n:Nat,n<=12/\s.2=12 -n/\mo (yOf d) n s.1=mo (yOf d) 12 (d -ys (yOf d))/\0<=s.1/\s.1<rem (yOf d) n/\s.1<=400) (λ_=>False) (λr=>r=qG d) (λs=>(12 -s.2).toNat)
  ⟨12,l7,x9,rfl,l7,by rw[hr];show d -ys (yOf d)<_;omega,by have:=WA (yOf d);show d -ys (yOf d)<=400;omega⟩ x9 (by
   rintro⟨r,i⟩ ⟨n,hn,hi,hm,hr0,hrn,hr4⟩;simp only at hi hm hr0 hrn hr4 ⊢;cases n with
   |zero=>simp[rem]at hrn;omega|succ n=>
    have ei:i+1=12 -n:=l7;rw[Ic (U8 l7),ai U7,ei,wK l7 l7,o8];have hb:=FO (yOf d) (12 -n);rw[b0g (yOf d) n r]at hm;by_cases hlt:r<dim (yOf d) (12 -n)
    .rw[if_pos hlt]at hm;refine .inr (.inr ⟨_,by rw[Ic (U8 hlt)],?_⟩);rw[ai U7];unfold qG
     try simp only
     rw[←hm]
    .rw[if_neg hlt]at hm;refine .inl ⟨_,by rw[NH (N7 l7),X4 U7],⟨n,l7,x9,hm,?_,?_,?_⟩,?_⟩
     .simp;omega
     .simp only[rem]at hrn ⊢;omega
     .simp;omega
     .simp;omega)with⟨_,_,hf⟩|⟨r,he,hr⟩
 .exact hf.elim
 .rw[he,o8,uo,hr]
theorem Qs(h0:0<=d)(h:d<=109572):Ha d=some (qG d):=by
 obtain⟨y1,y2,y3,y4⟩:=VW h0 h;have y0:=Sr y1;unfold Ha zN;rw[Ic (Y3 h0),o8,Y3 h,E5,o6];obtain⟨⟨r,y⟩,hy,hq⟩:=iJ (f:=λ(x:Int×Int)=>o5 (nI x.2) λ(x_1:Int)=>l9 (L8 x_1 x.1) (o5 (nI x.2) λ(x_2:Int)=>some (Sum.inl (L6 IntKind.i64 x.1 x_2,D5 IntKind.i64 x.2 1))) (some (Sum.inr x))) (s:=(d,1900))
  (λs=>1900<=s.2/\s.2<=yOf d/\s.1=d -ys s.2) (λs=>s=(d -ys (yOf d),yOf d)) (λs=>(2200 -s.2).toNat)
  ⟨x9,by simpa using y1,by(have e:ys 1900=0:=by decide+kernel);simp[e]⟩ x9 (by
   rintro⟨r,y⟩ ⟨h1,h2,h3⟩;simp only at h1 h2 h3 ⊢;have hb:=WA y;have hs:=LD y;have hm:=vY h2;have hpos:0<=ys y:=by
     have:=vY (y:=1900) (y' :=y) h1;have e:ys 1900=0:=by decide+kernel
     omega
   rw[Ib l7,o8];by_cases hle:diy y<=r
   .refine .inl ⟨(r -diy y,y+1),?_,⟨by simp;omega,?_,?_⟩,?_⟩
    .rw[Ic (Y3 hle),o8,X4 U7,ai U7]
    .simp only;rcases Sz (yOf d) (y+1)with hlt|hge
     .have:=vY (y:=yOf d+1) (y' :=y+1) l7;omega
     .exact hge
    .simp only;omega
    .simp;omega
   .refine .inr ⟨_,by rw[NH (Y9 l7)],?_⟩;have e:y=yOf d:=b2N (d:=d) l7 l7 y3 y4;subst e;rw[h3])
 rw[hy,o8,hq]
 try simp only
 have hs:=LD (yOf d);have hr:=b5K (yOf d);obtain⟨⟨r,m⟩,he,hq2⟩:=iJ (f:=λ(x:Int×Int)=>o5 (jd (yOf d) x.2) λ(x_1:Int)=>l9 (L8 x_1 x.1) (o5 (jd (yOf d) x.2) λ(x_2:Int)=>some (Sum.inl (L6 IntKind.i64 x.1 x_2,D5 IntKind.i64 x.2 1))) (some (Sum.inr x))) (s:=(d -ys (yOf d),1))
  (λs=>∃n:Nat,n<=12/\s.2=13 -n/\mo (yOf d) n s.1=mo (yOf d) 12 (d -ys (yOf d))/\0<=s.1/\s.1<rem (yOf d) n/\s.1<=400) (λs=>s=mo (yOf d) 12 (d -ys (yOf d))) (λs=>(13 -s.2).toNat)
  ⟨12,l7,x9,rfl,l7,by rw[hr];show d -ys (yOf d)<_;omega,by have:=WA (yOf d);show d -ys (yOf d)<=400;omega⟩ x9 (by
   rintro⟨r,i⟩ ⟨n,hn,hi,hm,hr0,hrn,hr4⟩;simp only at hi hm hr0 hrn hr4 ⊢;cases n with
   |zero=>simp[rem]at hrn;omega|succ n=>
    have ei:i=12 -n:=l7;subst ei;rw[vS l7 l7,o8];have hb:=FO (yOf d) (12 -n);rw[b0g (yOf d) n r]at hm;by_cases hlt:r<dim (yOf d) (12 -n)
    .rw[if_pos hlt]at hm;exact .inr ⟨_,by rw[NH (Y9 l7)],hm⟩
    .rw[if_neg hlt]at hm;refine .inl ⟨(r -dim (yOf d) (12 -n),12 -n+1),by rw[Ic (Y3 l7),o8,X4 U7,ai U7],⟨n,l7,by simp;omega,hm,?_,?_,?_⟩,?_⟩
     .simp;omega
     .simp only[rem]at hrn ⊢;omega
     .simp;omega
     .simp;omega)
 rw[he,o8,hq2];have hb:=b4n (yOf d) 12 (d -ys (yOf d)) l7 l7 (by rw[hr];omega);have hb2:=FO (yOf d) (mo (yOf d) 12 (d -ys (yOf d))).2;rw[ai U7];rfl
theorem QQ(h0:0<=d)(h:d<=109572):1900<=(qG d).1/\(qG d).1<=2199/\1<=(qG d).2.1/\(qG d).2.1<=12/\1<=(qG d).2.2/\(qG d).2.2<=31:=by
 obtain⟨y1,y2,y3,y4⟩:=VW h0 h;have y0:=Sr y1;have hs:=LD (yOf d);have hb:=b4n (yOf d) 12 (d -ys (yOf d)) l7 l7 (by rw[b5K];omega);have hb2:=FO (yOf d) (mo (yOf d) 12 (d -ys (yOf d))).2;unfold qG
 try simp only
 omega
end Gt
namespace Go.GP
open Gt
set_option maxRecDepth 100000
def xR(y:Int):Nat->Int
 |0=>0|k+1=>xR y k+dim y ((k:Int)+1)
def a4W(y m d:Int):Int:=ys y+xR y (m -1).toNat+d -1
theorem Ve(y:Int):∀k:Nat,k<=12->28*k<=xR y k/\xR y k<=31*k
 |0,_=>by simp[xR]|k+1,h=>by have:=Ve y k l7;have:=FO y ((k:Int)+1);unfold xR;omega
theorem b1D(y:Int):xR y 12=diy y:=by unfold xR xR xR xR xR xR xR xR xR xR xR xR xR dim diy;simp;cases il y<;>simp
theorem b0h(y:Int):∀j k:Nat,j<=k->xR y j<=xR y k
 |j,0,h=>by have:j=0:=l7;subst this;omega|j,k+1,h=>by
  by_cases hq:j=k+1
  .subst hq;omega
  .have:=b0h y j k l7;have:=FO y ((k:Int)+1);show xR y j<=xR y k+dim y ((k:Int)+1);omega
variable {y:Int}{d:Int}{m:Int}
theorem b8e(hm:1<=m/\m<=12)(h1:1<=d)(h2:d<=dim y m):ys y<=a4W y m d/\a4W y m d<ys (y+1):=by
 have h3:=b0h y ((m -1).toNat+1) 12 l7;rw[b1D]at h3;have h4:xR y ((m -1).toNat+1)=xR y (m -1).toNat+dim y m:=by show xR y (m -1).toNat+dim y (((m -1).toNat:Int)+1)=_;rw[aA l7];congr 2;omega
 have h5:=Ve y (m -1).toNat l7;have h6:=LD y;unfold a4W;omega
theorem b7T(h:1900<=y)(h2:y<=2200):0<=ys y/\ys y<=109573:=by
 have h1:=Sr h;have h3:=vY h2;have:ys 2200=109573:=by decide
 omega
theorem a7F(hy:1900<=y/\y<=2199)(hm:1<=m/\m<=12)(h1:1<=d)(h2:d<=dim y m):Ih y m d=some (a4W y m d,0):=by
 have hyb:=b7T hy.1 l7;have hdb:=FO y m;unfold Ih;rw[N7 hy.1,o6,N7 hy.2,o6,N7 hm.1,o6,N7 hm.2,o6,N7 h1,o6,wK l7 hm,o8,N7 h2,o6,o8,U1,Ed l7 l7,o8];have hs:L6 .i64 m 1=m -1:=X4 U7;obtain⟨e,k1,k2⟩:=iJ (f:=λ(x:Int×Int)=>l9 (E8 x.2 (L6 .i64 m 1)) (o5 (kT y (D5 .i64 x.2 1)) λ(x_1:Int)=>some (.inl (D5 .i64 x.1 x_1,D5 .i64 x.2 1))) (some (.inr x.1)))
  (s:=(ys y,0)) (λx=>∃i:Nat,x=(ys y+xR y i,(i:Int))/\(i:Int)<=m -1) (λe=>e=ys y+xR y (m -1).toNat) (λx=>(m -1 -x.2).toNat) ⟨0,by simp[xR],l7⟩ Z5 (by
  rintro x ⟨i,rfl,hi⟩;simp only[hs];by_cases hlt:(i:Int)<m -1
  .have hb:=Ve y i l7;have hd:=FO y ((i:Int)+1);left;refine⟨(ys y+xR y (i+1),((i+1:Nat):Int)),?_,⟨i+1,rfl,l7⟩,by simp;omega⟩;rw[U8 hlt,o7,Y4 l7,show(((i+1:Nat):Int))=(i:Int)+1 by omega,wK l7 l7,o8,ai U7];simp only[xR];rw[Int.add_assoc]
  .right;have:i=(m -1).toNat:=l7;subst this;exact⟨_,by rw[N7 l7];rfl,rfl⟩)
 refine(lV k1 _).trans ?_;have hb:=Ve y (m -1).toNat l7;rw[k2,ai U7,X4 U7];rfl
theorem a6c(hy:1900<=y/\y<=2199)(hm:1<=m/\m<=12)(h1:1<=d)(h2:d<=dim y m):BJ y m d=some (a4W y m d,0):=by
 have hyb:=b7T hy.1 l7;have hdb:=FO y m;unfold BJ;rw[N7 hy.1,o6,N7 hy.2,o6,N7 h1,o6,vS l7 hm,o8,N7 h2,o6,o8,U1,X4 U7];obtain⟨e,k1,k2⟩:=iJ (f:=λ(x:Int×Int)=>l9 (E8 x.2 y) (o5 (nI x.2) λ(x_1:Int)=>some (.inl (D5 .i64 x.1 x_1,D5 .i64 x.2 1))) (some (.inr x.1)))
  (s:=(d -1,1900)) (λx=>∃i:Int,x=(d -1+ys i,i)/\1900<=i/\i<=y) (λe=>e=d -1+ys y) (λx=>(y -x.2).toNat) ⟨1900,by simp[show ys 1900=0 by decide],l7,l7⟩ Z5 (by
  rintro x ⟨i,rfl,hi,hi2⟩;by_cases hlt:i<y
  .left;have hb:=b7T hi l7;have hd:=WA i;refine⟨(d -1+ys (i+1),i+1),?_,⟨i+1,rfl,l7,l7⟩,by simp;omega⟩;simp only;rw[U8 hlt,o7,Ib l7,o8,ai U7,ai U7,LD,Int.add_assoc]
  .right;have:i=y:=l7;subst this;exact⟨_,by simp only[N7 (show i<=i by omega)];rfl,rfl⟩)
 refine(lV k1 _).trans ?_;subst k2;obtain⟨e,k1,k2⟩:=iJ (f:=λ(x:Int×Int)=>l9 (E8 x.2 m) (o5 (jd y x.2) λ(x_1:Int)=>some (.inl (D5 .i64 x.1 x_1,D5 .i64 x.2 1))) (some (.inr x.1)))
  (s:=(d -1+ys y,1)) (λx=>∃i:Nat,x=(d -1+ys y+xR y i,(i:Int)+1)/\(i:Int)<=m -1) (λe=>e=d -1+ys y+xR y (m -1).toNat) (λx=>(m -x.2).toNat) ⟨0,by simp[xR],l7⟩ Z5 (by
  rintro x ⟨i,rfl,hi⟩;by_cases hlt:(i:Int)+1<m
  .have hb:=Ve y i l7;have hd:=FO y ((i:Int)+1);left;refine⟨(d -1+ys y+xR y (i+1),((i+1:Nat):Int)+1),?_,⟨i+1,rfl,l7⟩,by simp;omega⟩;simp only;rw[U8 hlt,o7,vS l7 l7,o8,ai U7,ai U7];simp only[xR];rw[Int.add_assoc (d -1+ys y)];simp
  .right;have:i=(m -1).toNat:=l7;subst this;exact⟨_,by simp only[N7 (show m<=((m -1).toNat:Int)+1 by omega)];rfl,rfl⟩)
 refine(lV k1 _).trans ?_;rw[k2];unfold a4W;rw[show d -1+ys y+xR y (m -1).toNat=ys y+xR y (m -1).toNat+d -1 by omega]
def b0O(d n:Int):Int×Int:=
 if ¬(0<=d/\d<=109572)\/n< -3600\/3600<n then(0,3)else
  if((qG d).1 -1900)*12+(qG d).2.1 -1+n<0\/3599<((qG d).1 -1900)*12+(qG d).2.1 -1+n then(0,3)else
   (a4W (1900+(((qG d).1 -1900)*12+(qG d).2.1 -1+n) / 12) ((((qG d).1 -1900)*12+(qG d).2.1 -1+n) % 12+1) (ru (qG d).2.2 (dim (1900+(((qG d).1 -1900)*12+(qG d).2.1 -1+n) / 12) ((((qG d).1 -1900)*12+(qG d).2.1 -1+n) % 12+1))),0)
theorem Ri(a b:Int):ru a b=if b<a then b else a:=rfl
theorem Ut(d n:Int):wX d n=some (b0O d n):=by
 unfold wX zu b0O;by_cases h0:0<=d/\d<=109572
 case neg=>
  rw[if_pos (.inl h0)];by_cases h1:0<=d
  .rw[Y3 h1,Y9 l7];rfl
  .rw[Y9 l7];rfl
 rw[Y3 h0.1,Y3 h0.2,o7,o8,E5,o6];by_cases h1:n< -3600
 .rw[U8 h1,if_pos (.inr (.inl h1))];rfl
 by_cases h2:3600<n
 .rw[N7 l7,U8 h2,if_pos (.inr (.inr h2))];rfl
 rw[N7 l7,N7 l7,if_neg l7,o6,o6,o8,U1,Gs h0.1 h0.2,o8];obtain⟨b1,b2,b3,b4,b5,b6⟩:=QQ h0.1 h0.2;generalize qG d=q at*;obtain⟨y,m,dd⟩:=q;simp only at b1 b2 b3 b4 b5 b6 ⊢;have e1:L6 .i64 y 1900=y -1900:=X4 U7;have e2:az .i64 (y -1900) 12=(y -1900)*12:=og U7;have e3:D5 .i64 ((y -1900)*12) m=(y -1900)*12+m:=ai U7;have e4:L6 .i64 ((y -1900)*12+m) 1=(y -1900)*12+m -1:=X4 U7;have e5:D5 .i64 ((y -1900)*12+m -1) n=(y -1900)*12+m -1+n:=ai U7;rw[e1,e2,e3,e4,e5];generalize ht:(y -1900)*12+m -1+n=t;by_cases t0:t<0
 .rw[U8 t0,if_pos (.inl t0)];rfl
 by_cases t1:3599<t
 .rw[N7 l7,U8 t1,if_pos (.inr t1)];rfl
 rw[N7 l7,N7 l7,if_neg l7,o6,o6];have e6:dM .i64 t 12=t / 12:=by rw[zC (by rw[kL l7];unfold kP;omega),kL l7]
 have e7:fC t 12=t % 12:=zD l7;have e8:D5 .i64 1900 (t / 12)=1900+t / 12:=ai U7;have e9:D5 .i64 (t % 12) 1=t % 12+1:=ai U7;rw[e6,e7,e8,e9,wK l7 l7,o8];have hd:=FO (1900+t / 12) (t % 12+1);rw[a7F l7 l7 (by rw[Ri];split<;>omega) (by rw[Ri];split<;>omega)];rfl
theorem Td(d n:Int):qZ d n=some (b0O d n):=by
 unfold qZ zN b0O;by_cases h0:0<=d/\d<=109572
 case neg=>
  rw[if_pos (.inl h0)];by_cases h1:0<=d
  .rw[Y3 h1,Y9 l7];rfl
  .rw[Y9 l7];rfl
 rw[Y3 h0.1,Y3 h0.2,o7,o8,E5,o6];by_cases h1:n< -3600
 .rw[U8 h1,if_pos (.inr (.inl h1))];rfl
 by_cases h2:3600<n
 .rw[N7 l7,U8 h2,if_pos (.inr (.inr h2))];rfl
 rw[N7 l7,N7 l7,if_neg l7,o6,o6,o8,U1,Qs h0.1 h0.2,o8];obtain⟨b1,b2,b3,b4,b5,b6⟩:=QQ h0.1 h0.2;generalize qG d=q at*;obtain⟨y,m,dd⟩:=q;simp only at b1 b2 b3 b4 b5 b6 ⊢;have e2:az .i64 12 y=12*y:=og U7;have e3:D5 .i64 (12*y) m=12*y+m:=ai U7;have e4:L6 .i64 (12*y+m) 1=12*y+m -1:=X4 U7;have e5:D5 .i64 (12*y+m -1) n=12*y+m -1+n:=ai U7;rw[e2,e3,e4,e5];generalize ht:(y -1900)*12+m -1+n=t;have hk:12*y+m -1+n=t+22800:=l7;rw[hk];have e6:dM .i64 (t+22800) 12=1900+t / 12:=by rw[zC (by rw[kL l7];unfold kP;omega),kL l7];omega
 have e7:fC (t+22800) 12=t % 12:=by rw[zD l7];omega
 have e9:D5 .i64 (t % 12) 1=t % 12+1:=ai U7;rw[e6,e7,e9,vS l7 l7,o8];have hd:=FO (1900+t / 12) (t % 12+1);by_cases t0:t<0
 .rw[if_pos (.inl t0)];unfold BJ;rw[U8 (show 1900+t / 12<1900 by omega)];rfl
 by_cases t1:3599<t
 .rw[if_pos (.inr t1)];unfold BJ;rw[N7 (show 1900<=1900+t / 12 by omega),U8 (show 2199<1900+t / 12 by omega)];rfl
 rw[if_neg l7,a6c l7 l7 (by rw[Ri];split<;>omega) (by rw[Ri];split<;>omega)];rfl
def yrl(a k:Int):Int:=a4W ((qG a).1+k) (qG a).2.1 (ru (qG a).2.2 (dim ((qG a).1+k) (qG a).2.1))
variable {a:Int}
theorem a1F(h0:0<=a/\a<=109572){k:Int}(hk:0<=k)(hk2:k<=300):b0O a (12*k)=if(qG a).1+k<=2199 then(yrl a k,0)else(0,3):=by
 obtain⟨b1,b2,b3,b4,b5,b6⟩:=QQ h0.1 h0.2;unfold b0O yrl;rw[if_neg l7];generalize qG a=q at*;obtain⟨y,m,dd⟩:=q;simp only at b1 b2 b3 b4 b5 b6 ⊢;have e1:1900+((y -1900)*12+m -1+12*k) / 12=y+k:=l7;have e2:((y -1900)*12+m -1+12*k) % 12+1=m:=l7;by_cases h:y+k<=2199
 .rw[if_neg l7,if_pos h,e1,e2]
 .rw[if_pos l7,if_neg h]
theorem b7S(h0:0<=a/\a<=109572)(k:Int):ys ((qG a).1+k)<=yrl a k/\yrl a k<ys ((qG a).1+k+1):=by obtain⟨b1,b2,b3,b4,b5,b6⟩:=QQ h0.1 h0.2;have hd:=FO ((qG a).1+k) (qG a).2.1;unfold yrl;exact b8e ⟨b3,b4⟩ (by rw[Ri];split<;>omega) (by rw[Ri];split<;>omega)
theorem VX(h0:0<=a/\a<=109572):ys (qG a).1<=a/\a<ys ((qG a).1+1):=by have:=VW h0.1 h0.2;exact⟨this.2.2.1,this.2.2.2⟩
def a4t(a b:Int):Int:=if 0<=a/\a<=109572/\0<=b/\b<=109572/\a<=b then
  (if(qG b).1 -(qG a).1<=0 then 0 else if yrl a ((qG b).1 -(qG a).1)<=b then(qG b).1 -(qG a).1 else(qG b).1 -(qG a).1 -1)else 0
theorem YL(a b:Int):qJ a b=some (a4t a b):=by
 unfold qJ zu a4t;by_cases ha0:0<=a
 case neg=>rw[Y9 l7,if_neg l7];rfl
 by_cases ha1:a<=109572
 case neg=>rw[Y3 ha0,Y9 l7,if_neg l7];rfl
 rw[Y3 ha0,Y3 ha1,o7,o8,E5,o6];by_cases hb0:0<=b
 case neg=>rw[Y9 l7,if_neg l7];rfl
 by_cases hb1:b<=109572
 case neg=>rw[Y3 hb0,Y9 l7,if_neg l7];rfl
 rw[Y3 hb0,Y3 hb1,o7,o8,E5,o6];by_cases hab:a<=b
 case neg=>rw[U8 l7,if_neg l7];rfl
 rw[N7 hab,o6,if_pos ⟨ha0,ha1,hb0,hb1,hab⟩,Gs ha0 ha1,o8,Gs hb0 hb1,o8];obtain⟨p1,p2,_,_,_,_⟩:=QQ ha0 ha1;obtain⟨q1,q2,_,_,_,_⟩:=QQ hb0 hb1;have ya:=VX ⟨ha0,ha1⟩;have yb:=VX ⟨hb0,hb1⟩;have hK:0<=(qG b).1 -(qG a).1:=by
  rcases Sz (qG b).1 (qG a).1 with h|h
  .have:=vY (show(qG b).1+1<=(qG a).1 by omega);omega
  .omega
 rw[X4 (show kP ((qG b).1 -(qG a).1) by unfold kP;omega)];have hle:(qG a).1+((qG b).1 -(qG a).1)<=2199:=l7;generalize (qG b).1 -(qG a).1=K at*;rw[og (show kP (12*K) by unfold kP;omega),Ut,o8,a1F ⟨ha0,ha1⟩ hK l7,if_pos hle];simp only[N9 (rfl:(0:Int)=0),E5,o6];rw[X4 (show kP (K -1) by unfold kP;omega)];have im:∀x:Int,pW x 0=if x<0 then 0 else x:=λx=>rfl;by_cases hz:K<=0
 .have:K=0:=l7;subst this;rw[if_pos l7];cases E8 b (yrl a 0)<;>rfl
 .rw[if_neg hz];by_cases hq:yrl a K<=b
  .rw[if_pos hq,N7 hq,o6,im,if_neg l7]
  .rw[if_neg hq,U8 l7,o7,im,if_neg l7]
theorem Xe(a b:Int):xU a b=some (a4t a b):=by
 unfold xU zN a4t;by_cases ha0:0<=a
 case neg=>rw[Y9 l7,if_neg l7];rfl
 by_cases ha1:a<=109572
 case neg=>rw[Y3 ha0,Y9 l7,if_neg l7];rfl
 rw[Y3 ha0,Y3 ha1,o7,o8,E5,o6];by_cases hb0:0<=b
 case neg=>rw[Y9 l7,if_neg l7];rfl
 by_cases hb1:b<=109572
 case neg=>rw[Y3 hb0,Y9 l7,if_neg l7];rfl
 rw[Y3 hb0,Y3 hb1,o7,o8,E5,o6];obtain⟨p1,p2,_,_,_,_⟩:=QQ ha0 ha1;obtain⟨q1,q2,_,_,_,_⟩:=QQ hb0 hb1;have ya:=VX ⟨ha0,ha1⟩;have yb:=VX ⟨hb0,hb1⟩;have key:=xP (f:=λ(x:Int)=>o5 (qZ a (az .i64 12 (D5 .i64 x 1))) λ(x_1:Int×Int)=>l9 (F8 (x8 x_1.2 0)) (some (.rt x)) (l9 (E8 b x_1.1) (some (.rt x)) (some (.nx (D5 .i64 x 1)))))
  (s:=0) (λx=>0<=x/\(x=0\/(x<=(qG b).1 -(qG a).1/\yrl a x<=b))) (λ(_:PUnit)=>False) (λr=>r=(if a<=b then(if(qG b).1 -(qG a).1<=0 then 0 else if yrl a ((qG b).1 -(qG a).1)<=b then(qG b).1 -(qG a).1 else(qG b).1 -(qG a).1 -1)else 0)) (λx=>(300 -x).toNat) ⟨l7,.inl rfl⟩ x9 (by
  rintro x ⟨hx0,hx⟩;have hx300:x<=299:=l7;rw[ai (show kP (x+1) by unfold kP;omega),og (show kP (12*(x+1)) by unfold kP;omega),Td,o8,a1F ⟨ha0,ha1⟩ l7 l7];have hyb:=b7S ⟨ha0,ha1⟩ (x+1);have hyx:=b7S ⟨ha0,ha1⟩ x;have hmono:ys ((qG a).1+x+1)<=ys ((qG a).1+(x+1)):=vY l7;have hax:a<yrl a (x+1):=by have:=vY (show(qG a).1+1<=(qG a).1+(x+1) by omega);omega
  by_cases hq:(qG a).1+(x+1)<=2199/\yrl a (x+1)<=b
  .left;obtain⟨hq1,hq2⟩:=hq;have hK:x+1<=(qG b).1 -(qG a).1:=by
    rcases Sz (qG b).1 ((qG a).1+(x+1))with h|h
    .have:=vY (show(qG b).1+1<=(qG a).1+(x+1) by omega);omega
    .omega
   refine⟨x+1,?_,⟨l7,.inr ⟨hK,hq2⟩⟩,l7⟩;rw[if_pos hq1];simp only[N9 (rfl:(0:Int)=0),E5,o6,N7 hq2]
  .right;right;refine⟨x,?_,?_⟩
   .by_cases hq1:(qG a).1+(x+1)<=2199
    .rw[if_pos hq1];simp only[N9 (rfl:(0:Int)=0),E5,o6,U8 (show b<yrl a (x+1) by omega),o7]
    .rw[if_neg hq1];rfl
   .by_cases hab:a<=b
    case neg=>
     rw[if_neg hab];by_cases hx1:x=0
     .exact hx1
     .exfalso;have:=vY (show(qG a).1+1<=(qG a).1+x by omega);omega
    rw[if_pos hab];have hK:0<=(qG b).1 -(qG a).1:=by
     rcases Sz (qG b).1 (qG a).1 with h|h
     .have:=vY (show(qG b).1+1<=(qG a).1 by omega);omega
     .omega
    have hxK:x<=(qG b).1 -(qG a).1:=l7;by_cases hxe:x=(qG b).1 -(qG a).1
    .by_cases hz:(qG b).1 -(qG a).1<=0
     .rw[if_pos hz];omega
     .rw[if_neg hz];rcases hx with hx|hx
      .omega
      .rw[←hxe,if_pos hx.2]
    .have hlt:x+1<=(qG b).1 -(qG a).1:=l7;rw[if_neg l7];have hyr:(qG a).1+(x+1)<=2199:=l7;have hgt:b<yrl a (x+1):=by
      have:=λh=>hq ⟨hyr,h⟩;omega
     have heq:x+1=(qG b).1 -(qG a).1:=by
      rcases Sz (x+1) ((qG b).1 -(qG a).1)with h|h
      .have:=vY (show(qG a).1+(x+1)+1<=(qG b).1 by omega);omega
      .omega
     rw[←heq,if_neg l7];omega)
 rcases key with⟨e,_,h⟩|⟨r,k1,k2⟩
 .exact h.elim
 .refine(lV k1 _).trans ?_;rw[k2];by_cases hab:a<=b
  .rw[if_pos hab,if_pos (show 0<=a/\a<=109572/\0<=b/\b<=109572/\a<=b from⟨ha0,ha1,hb0,hb1,hab⟩)];rfl
  .rw[if_neg hab,if_neg l7];rfl
def a9X:d1C:=(List.range 256).map λn=>UInt8.ofNat (if n=0 then 0 else Nat.log2 n+1)
theorem b4b:∀n:Fin 256,∃k:Fin 9,a9X[n.val]? =some (UInt8.ofNat k.val)/\n.val<2^k.val/\(0<n.val->0<k.val/\2^(k.val -1)<=n.val):=by decide+kernel
def b0L(n:Int)(k:Nat):Prop:=n<2^k/\(0<n->0<k/\2^(k -1)<=n)
variable {n:Int}
theorem b9t(h0:0<=n)(h:n<256):wrap .u8 n=n:=by unfold wrap IntKind.wrap;simp[IntKind.signed,IntKind.bits];omega
theorem b8m(h0:0<=n)(h:n<256):∃k:Nat,k<=8/\sat a9X (wrap .u8 n)=some (k:Int)/\b0L n k:=by
 rw[b9t h0 h];obtain⟨k,k1,k2,k3⟩:=b4b ⟨n.toNat,l7⟩;refine⟨k.val,l7,?_,?_,λhp=>?_⟩
 .unfold sat
  rw[if_pos h0];simp only at k1;rw[k1];simp;have:=k.isLt;omega
 .simp only at k2;have:((n.toNat:Nat):Int)<((2^k.val:Nat):Int):=l7;rw[aA h0,vH]at this;exact this
 .simp only at k3;obtain⟨a,b⟩:=k3 l7;refine⟨a,?_⟩;have:((2^(k.val -1):Nat):Int)<=((n.toNat:Nat):Int):=l7;rw[aA h0,vH]at this;exact this
theorem UR{k:Nat}(hk:k<=64):wB .u64 n (k:Int)=n / 2^k:=by unfold wB;rw[D8,show IntKind.bits .u64=64 from rfl,show min k 64=k by omega];exact Int.fdiv_eq_ediv_of_nonneg _ (Int.pow_nonneg l7)
theorem b0L.shift{j k:Nat}(h:b0L (n / 2^j) k)(hn:2^j<=n):b0L n (j+k):=by
 have hp:(0:Int)<2^j:=Int.pow_pos l7;have h1:0<n / 2^j:=by have:=tJ hp (show 1*2^j<=n by omega);omega
 obtain⟨a,b⟩:=h;obtain⟨b1,b2⟩:=b h1;have hdm:=Int.mul_ediv_add_emod n (2^j);have hm:=U4 n hp;have hm0:=W9 n (show(2:Int)^j≠0 by omega);refine⟨?_,λ_=>⟨l7,?_⟩⟩
 .have:(2:Int)^j*(n / 2^j+1)<=2^j*2^k:=Int.mul_le_mul_of_nonneg_left l7 l7;rw[Int.mul_add,Int.mul_one]at this;rw[Int.pow_add];omega
 .have:(2:Int)^j*2^(k -1)<=2^j*(n / 2^j):=Int.mul_le_mul_of_nonneg_left b2 l7;rw[show j+k -1=j+(k -1) by omega,Int.pow_add];omega
theorem b4a:(d1y:d1C)=a9X:=by decide+kernel
theorem qm(h0:0<=n)(h:n<=1000):wrap .i64 n=n:=nK U7
variable {b:Int}
theorem Pg(h0:0<=a)(h1:a<=1000)(h2:0<=b)(h3:b<=1000):D5 .i64 a b=a+b:=ai U7
theorem b3Z(h0:0<=n)(h:n<18446744073709551616):∃k:Nat,k<=64/\Cm n=some (k:Int)/\b0L n k:=by
 have s32:∀m:Int,wB .u64 m 32=m / 2^32:=λm=>UR (k:=32) l7;have s16:∀m:Int,wB .u64 m 16=m / 2^16:=λm=>UR (k:=16) l7;have s8:∀m:Int,wB .u64 m 8=m / 2^8:=λm=>UR (k:=8) l7;unfold Cm;rw[b4a,s32,s16,s16,s8,s8,s8,s8];have ow:∀(m:Int) (a:Int) (K:Nat),0<=m->m<256->a=(K:Int)->K<=56->∀(g:Int->Int),(∀x,0<=x->x<=8->g x=a+x)->∃k:Nat,k<=8/\(o5 (sat a9X (wrap .u8 m)) λ(x:Int)=>some (g x))=some (((K+k:Nat):Int))/\b0L m k:=by intro m a K m0 m1 ha hK g hg;obtain⟨k,k1,k2,k3⟩:=b8m m0 m1;refine⟨k,k1,?_,k3⟩;rw[k2,o8,hg _ l7 l7,ha];simp
 by_cases c32:4294967296<=n
 .rw[Y3 c32,o7];by_cases c16:65536<=n / 2^32
  .rw[Y3 c16,o7];by_cases c8:256<=n / 2^32 / 2^16
   .rw[Y3 c8,o7];obtain⟨k,k1,k2,k3⟩:=ow (n / 2^32 / 2^16 / 2^8) 56 56 l7 l7 rfl l7 (λx=>D5 .i64 (D5 .i64 (D5 .i64 32 16) 8) (wrap .i64 x)) (λx x0 x1=>by
     rw[qm x0 l7,show D5 .i64 (D5 .i64 32 16) 8=56 by decide,Pg l7 l7 l7 l7])
    exact⟨56+k,l7,k2,by have:=((k3.shift (j:=8) l7).shift (j:=16) l7).shift (j:=32) l7;rw[show 32+(16+(8+k))=56+k by omega]at this;exact this⟩
   .rw[Y9 l7,o6];obtain⟨k,k1,k2,k3⟩:=ow (n / 2^32 / 2^16) 48 48 l7 l7 rfl l7 (λx=>D5 .i64 (D5 .i64 32 16) (wrap .i64 x)) (λx x0 x1=>by
     rw[qm x0 l7,Pg (a:=32) l7 l7 l7 l7,Pg l7 l7 l7 l7];rfl)
    exact⟨48+k,l7,k2,by have:=(k3.shift (j:=16) l7).shift (j:=32) l7;rw[show 32+(16+k)=48+k by omega]at this;exact this⟩
  .rw[Y9 l7,o6];by_cases c8:256<=n / 2^32
   .rw[Y3 c8,o7];obtain⟨k,k1,k2,k3⟩:=ow (n / 2^32 / 2^8) 40 40 l7 l7 rfl l7 (λx=>D5 .i64 (D5 .i64 32 8) (wrap .i64 x)) (λx x0 x1=>by
     rw[qm x0 l7,Pg (a:=32) l7 l7 l7 l7,Pg l7 l7 l7 l7];rfl)
    exact⟨40+k,l7,k2,by have:=(k3.shift (j:=8) l7).shift (j:=32) l7;rw[show 32+(8+k)=40+k by omega]at this;exact this⟩
   .rw[Y9 l7,o6];obtain⟨k,k1,k2,k3⟩:=ow (n / 2^32) 32 32 l7 l7 rfl l7 (λx=>D5 .i64 32 (wrap .i64 x)) (λx x0 x1=>by
     rw[qm x0 l7,Pg l7 l7 l7 l7])
    exact⟨32+k,l7,k2,k3.shift (j:=32) l7⟩
 .rw[Y9 l7,o6];by_cases c16:65536<=n
  .rw[Y3 c16,o7];by_cases c8:256<=n / 2^16
   .rw[Y3 c8,o7];obtain⟨k,k1,k2,k3⟩:=ow (n / 2^16 / 2^8) 24 24 l7 l7 rfl l7 (λx=>D5 .i64 (D5 .i64 (D5 .i64 0 16) 8) (wrap .i64 x)) (λx x0 x1=>by
     rw[qm x0 l7,show D5 .i64 (D5 .i64 0 16) 8=24 by decide,Pg l7 l7 l7 l7])
    exact⟨24+k,l7,k2,by have:=(k3.shift (j:=8) l7).shift (j:=16) l7;rw[show 16+(8+k)=24+k by omega]at this;exact this⟩
   .rw[Y9 l7,o6];obtain⟨k,k1,k2,k3⟩:=ow (n / 2^16) 16 16 l7 l7 rfl l7 (λx=>D5 .i64 (D5 .i64 0 16) (wrap .i64 x)) (λx x0 x1=>by
     rw[qm x0 l7,Pg (a:=0) l7 l7 l7 l7,Pg l7 l7 l7 l7];rfl)
    exact⟨16+k,l7,k2,k3.shift (j:=16) l7⟩
  .rw[Y9 l7,o6];by_cases c8:256<=n
   .rw[Y3 c8,o7];obtain⟨k,k1,k2,k3⟩:=ow (n / 2^8) 8 8 l7 l7 rfl l7 (λx=>D5 .i64 (D5 .i64 0 8) (wrap .i64 x)) (λx x0 x1=>by
     rw[qm x0 l7,Pg (a:=0) l7 l7 l7 l7,Pg l7 l7 l7 l7];rfl)
    exact⟨8+k,l7,k2,k3.shift (j:=8) l7⟩
   .rw[Y9 l7,o6];obtain⟨k,k1,k2,k3⟩:=ow n 0 0 l7 l7 rfl l7 (λx=>D5 .i64 0 (wrap .i64 x)) (λx x0 x1=>by
     rw[qm x0 l7,Pg l7 l7 l7 l7])
    exact⟨0+k,l7,k2,by rw[iH];exact k3⟩
theorem HY(h0:0<=n)(h:n<18446744073709551616):IntKind.wrap .u64 n=n:=b7R (by unfold U64;omega)
theorem BQ(n:Int):IntKind.wrap .u64 n=n % 18446744073709551616:=by unfold IntKind.wrap;simp[IntKind.signed,IntKind.bits]
def a8a{σ ε:Type}(f:σ->Option (σ⊕ε))(m:Nat)(o:Option (σ⊕ε)):Option ε:=match o with
 |some (.inl s')=>lU f m s'|some (.inr e)=>some e|none=>none
theorem b1w{σ ε:Type}(f:σ->Option (σ⊕ε))(m:Nat)(s:σ):lU f (m+1) s=a8a f m (f s):=by
 rw[lU];unfold a8a;cases f s with
 |none=>rfl|some o=>cases o<;>rfl
variable {σ:Type}
theorem ZP(mkp:Int->Int->σ){f:σ->Option (σ⊕Int)}{y1 y0 U d:Int}(hy1:2147483648<=y1)(hy1' :y1<4294967296)(hy0:0<=y0)(hy0' :y0<4294967296)(hU:0<=U)(hUY:U<y1*4294967296+y0)(hd:0<=d)(hd' :d<4294967296)
  (hf:∀q r,0<=q->q<=4294967297->0<=r->r<4294967296->f (mkp q r)=l9 (L8 4294967296 q) (l9 (L8 4294967296 (D5 .u64 r y1)) (some (.inr (L6 .u64 q 1))) (some (.inl (mkp (L6 .u64 q 1) (D5 .u64 r y1)))))
   (l9 (E8 (D5 .u64 (az .u64 4294967296 r) d) (az .u64 q y0)) (l9 (L8 4294967296 (D5 .u64 r y1)) (some (.inr (L6 .u64 q 1))) (some (.inl (mkp (L6 .u64 q 1) (D5 .u64 r y1))))) (some (.inr q)))):
  ∃Q,aB f (mkp (U / y1) (U -U / y1*y1))=some Q/\0<=Q/\Q<4294967296/\Q*(y1*4294967296+y0)<=U*4294967296+d/\U*4294967296+d<(Q+1)*(y1*4294967296+y0):=by
 obtain⟨Y,hY⟩:∃Y,Y=y1*4294967296+y0:=⟨_,rfl⟩;have hYe:∀q:Int,q*Y=q*y1*4294967296+q*y0:=λq=>by rw[hY,Int.mul_add,←Int.mul_assoc]
 have hq0:0<=U / y1:=Z8 hU l7;have hdm:=Y5 U y1;have hm0:=W9 U (show y1≠0 by omega);have hm1:=U4 U (show 0<y1 by omega);have hqB:U / y1<=4294967297:=by
  rcases Sz 4294967297 (U / y1)with h|h
  .have:=U9 (show 4294967298<=U / y1 by omega) (show 0<=y1 by omega);omega
  .exact h
 obtain⟨n,hn⟩:∃n,n=(U / y1).toNat+1:=⟨_,rfl⟩;have key:∀(n:Nat) (q r:Int),0<=q->q<=4294967297->0<=r->r<4294967296->U=q*y1+r->U*4294967296+d<(q+1)*Y->q.toNat<n->∀m,n<=m->∃Q,lU f m (mkp q r)=some Q/\0<=Q/\Q<4294967296/\Q*Y<=U*4294967296+d/\U*4294967296+d<(Q+1)*Y:=by
  intro n;induction n with
  |zero=>intro q r _ _ _ _ _ _ h;omega|succ n ih=>
   intro q r q0 qB r0 rB hUq hlt hqn m hm;obtain⟨m,rfl⟩:∃m',m=m' +1:=⟨m -1,l7⟩;rw[b1w,hf q r q0 qB r0 rB];have e1:=hYe q;have e2:(q+1)*Y=q*Y+Y:=by rw[iY,gm]
   have hry:D5 .u64 r y1=r+y1:=HY l7 l7;have g0:0<=q*y0:=X5 q0 hy0;have less:U*4294967296+d<q*Y->1<=q/\L6 .u64 q 1=q -1/\U=(q -1)*y1+(r+y1)/\(q -1+1)*Y=q*Y/\(q -1)*Y=q*Y -Y/\(q -1)*y0=q*y0 -y0:=by
    intro hgt;have hq1:1<=q:=by
     rcases Sz q 1 with h|h
     .have:q=0:=l7;subst this;simp at hgt;omega
     .exact h
    refine⟨hq1,HY l7 l7,?_,?_,?_,?_⟩
    .rw[ng,gm];omega
    .rw[show q -1+1=q by omega]
    .rw[ng,gm]
    .rw[ng,gm]
   have dec:U*4294967296+d<q*Y->∃Q,a8a f m (l9 (L8 4294967296 (r+y1)) (some (Sum.inr (L6 .u64 q 1))) (some (Sum.inl (mkp (L6 .u64 q 1) (r+y1)))))=some Q/\0<=Q/\Q<4294967296/\Q*Y<=U*4294967296+d/\U*4294967296+d<(Q+1)*Y:=by
    intro hgt;obtain⟨l1,l2,l3,l4,l5,l6⟩:=less hgt;rw[l2];by_cases hr:4294967296<=r+y1
    .rw[Y3 hr];have h6:(q -1)*y0<=4294967296*y0:=U9 l7 hy0;have h7:=hYe (q -1);have hle:(q -1)*Y<=U*4294967296+d:=by rw[h7,l3];omega
     refine⟨q -1,rfl,l7,?_,hle,by rw[l4];exact hgt⟩;rcases Sz (q -1) 4294967296 with h|h
     .exact h
     .have:=U9 h (show 0<=Y by omega);omega
    .rw[Y9 l7];exact ih (q -1) (r+y1) l7 l7 l7 l7 l3 (by rw[l4];exact hgt) l7 m l7
   by_cases hqb:4294967296<=q
   .rw[Y3 hqb,o7,hry];have:=U9 hqb (show 0<=Y by omega);exact dec l7
   .rw[Y9 l7,o6,hry];have g1:q*y0<=4294967295*y0:=U9 l7 hy0;have m1:az .u64 4294967296 r=4294967296*r:=HY l7 l7;have m2:D5 .u64 (4294967296*r) d=4294967296*r+d:=HY l7 l7;have m3:az .u64 q y0=q*y0:=HY g0 l7;rw[m1,m2,m3];by_cases hc:4294967296*r+d<q*y0
    .rw[U8 hc,o7];exact dec (by rw[e1];omega)
    .rw[N7 l7,o6];exact⟨q,rfl,q0,l7,by rw[e1];omega,hlt⟩
 rw[←hY];refine key n (U / y1) (U -U / y1*y1) hq0 hqB l7 l7 l7 ?_ l7 jb (by unfold jb;omega);have e1:=hYe (U / y1);rw[iY,gm,e1];have:=X5 hq0 hy0;omega
theorem UA(h0:0<=n)(h:n<18446744073709551616):(BitVec.ofInt 64 n).toNat=n.toNat:=by rw[BitVec.toNat_ofInt];have e:((2^64:Nat):Int)=18446744073709551616:=rfl;rw[e,Int.emod_eq_of_lt h0 h]
theorem a2f(h0:0<=n)(h:n<18446744073709551616):a5p .u64 n 4294967295=n % 4294967296:=by unfold a5p;rw[show IntKind.bits .u64=64 from rfl,BitVec.toNat_and,UA h0 h,UA G7 G7];rw[show(4294967295:Int).toNat=2^32 -1 from rfl,Nat.and_two_pow_sub_one_eq_mod];rw[HY l7 l7];omega
theorem b8i{a c:Int}{s:Nat}(ha0:0<=a)(hc0:0<=c)(hc:c<2^s)(h:a*2^s+c<18446744073709551616):ior .u64 (a*2^s) c=a*2^s+c:=by
 have hp:(0:Int)<2^s:=Int.pow_pos l7;have hap:0<=a*2^s:=X5 ha0 l7;unfold ior;rw[show IntKind.bits .u64=64 from rfl,BitVec.toNat_or,UA hap l7,UA hc0 l7];obtain⟨m,rfl⟩:∃m:Nat,a=(m:Int):=⟨a.toNat,l7⟩;obtain⟨k,rfl⟩:∃k:Nat,c=(k:Int):=⟨c.toNat,l7⟩;have hk:k<2^s:=by exact_mod_cast hc
 have e1:((m:Int)*2^s).toNat=m<<<s:=by
  rw[Nat.shiftLeft_eq];have:((m:Int)*2^s)=((m*2^s:Nat):Int):=by rw[vG,vH];rfl
  rw[this];rfl
 rw[e1,D8,←Nat.shiftLeft_add_eq_or_of_lt hk,Nat.shiftLeft_eq];have e2:((m*2^s+k:Nat):Int)=(m:Int)*2^s+(k:Int):=by rw[Int.natCast_add,vG,vH];rfl
 rw[e2];exact HY l7 h
theorem a4V(a b c d:Int):L6 .u64 (D5 .u64 (az .u64 a 4294967296) b) (az .u64 c d)=(a*4294967296+b -c*d) % 18446744073709551616:=by unfold L6 D5 az;rw[BQ,BQ,BQ,BQ];generalize c*d=z;omega
theorem c3G(h0:0<y)(h:y<18446744073709551616):∃s:Nat,s<=63/\pY y=some (s:Int)/\9223372036854775808<=y*2^s/\y*2^s<18446744073709551616:=by
 obtain⟨k,k1,k2,k3,k4⟩:=b3Z (n:=y) l7 h;obtain⟨k5,k6⟩:=k4 h0;refine⟨64 -k,l7,?_,?_,?_⟩
 .unfold pY;rw[k2,o8,X4 U7];congr 1;omega
 .have:=U9 k6 (show(0:Int)<=2^(64 -k)from Int.pow_nonneg l7);rw[←Int.pow_add,show k -1+(64 -k)=63 by omega]at this;exact this
 .have:=Int.mul_lt_mul_of_pos_right k3 (show(0:Int)<2^(64 -k)from Int.pow_pos l7);rw[←Int.pow_add,show k+(64 -k)=64 by omega]at this;exact this
theorem Rj(ha:0<=a)(ha' :a<18446744073709551616)(hb:0<b):rC .u64 a b=some (a / b):=by unfold rC;rw[if_neg l7,kL ha];have h1:=Z8 ha (show 0<=b by omega);have h2:=fF b ha;rw[HY h1 l7]
theorem Dy(ha:0<=a)(hb:0<b):Bc a b=some (a % b):=by unfold Bc;rw[if_neg l7];congr 1;exact zD ha
theorem ZQ{hi lo y:Int}(h0:0<=hi)(h1:hi<y)(hy:y<18446744073709551616)(l0:0<=lo)(l1:lo<18446744073709551616):
  oJ hi lo y=some ((hi*18446744073709551616+lo) / y,(hi*18446744073709551616+lo) % y):=by
 unfold oJ;rw[O9 (show y≠0 by omega),o6,o8,Y9 h1,o6,o8];by_cases hz:hi=0
 .subst hz;rw[N9 rfl,o7,Rj l0 l1 l7,o8,Dy l0 l7,o8];simp
 rw[O9 hz,o6];obtain⟨s,s1,s2,s3,s4⟩:=c3G (y:=y) l7 hy;rw[s2,o8,show wrap .u64 ((s:Nat):Int)=(s:Int)from HY l7 l7,show L6 .u64 64 (s:Int)=((64 -s:Nat):Int) by unfold L6;rw[HY l7 l7];omega];have hshl:∀v:Int,u_ .u64 v (s:Int)=some ((v*2^s) % 18446744073709551616):=λv=>by unfold u_ b3S;rw[if_neg l7,D8,show IntKind.bits .u64=64 from rfl,show min s 64=s by omega,BQ]
 have hshr:∀(v:Int) (k:Nat),k<=64->v_ .u64 v (k:Int)=some (v / 2^k):=λv k hk=>by unfold v_;rw[if_neg l7,UR hk]
 rw[hshl,o8,hshl,o8,hshr _ _ l7,o8,hshl,o8];have hpp:(2:Int)^s*2^(64 -s)=18446744073709551616:=by rw[←Int.pow_add,show s+(64 -s)=64 by omega];rfl
 have hp:(0:Int)<2^s:=Int.pow_pos l7;have hp' :(0:Int)<2^(64 -s):=Int.pow_pos l7;have hcb:lo / 2^(64 -s)<2^s:=oh hp' (by rw[hpp];exact l1);have hc0:0<=lo / 2^(64 -s):=Z8 l0 l7;have hcd:=Y5 lo (2^(64 -s));have he0:=W9 lo (show(2:Int)^(64 -s)≠0 by omega);have he1:=U4 lo hp';have hioP:∀a c:Int,0<=a->0<=c->c<2^s->a*2^s+c<18446744073709551616->ior .u64 (a*2^s) c=a*2^s+c:=λa c a0 c0 c1 h=>b8i a0 c0 c1 h;have hshrs:∀v:Int,v_ .u64 v (s:Int)=some (v / 2^s):=λv=>hshr v s l7;generalize (2:Int)^s=p at*;generalize (2:Int)^(64 -s)=p' at*;generalize lo / p' =c at*;generalize lo % p' =e at*;have hlop:lo*p=c*18446744073709551616+e*p:=by rw[←hcd,iY,Int.mul_assoc,Int.mul_comm p' p,hpp]
 have hep0:0<=e*p:=X5 he0 l7;have hep1:e*p<18446744073709551616:=by have:=Int.mul_lt_mul_of_pos_right he1 hp;rw[Int.mul_comm p' p,hpp]at this;exact this
 rw[show(lo*p) % 18446744073709551616=e*p by omega];have hhp0:0<=hi*p:=X5 h0 l7;have hhp1:hi*p<=y*p -p:=by have:=U9 (show hi<=y -1 by omega) (show 0<=p by omega);rw[ng,gm]at this;exact this
 rw[show(y*p) % 18446744073709551616=y*p by omega,show(hi*p) % 18446744073709551616=hi*p by omega,hioP hi c h0 hc0 hcb l7];have hN:(hi*18446744073709551616+lo)*p=(hi*p+c)*18446744073709551616+e*p:=by rw[iY,hlop,jR];omega
 have hsh32:∀v:Int,wB .u64 v 32=v / 4294967296:=λv=>UR (k:=32) l7;rw[hsh32,hsh32,a2f l7 s4,a2f hep0 hep1];obtain⟨Y,hY⟩:∃Y,Y=y*p:=⟨_,rfl⟩;obtain⟨N,hNN⟩:∃N,N=hi*18446744073709551616+lo:=⟨_,rfl⟩;rw[←hNN]at hN ⊢;rw[←hY]at s3 s4 hhp1 ⊢;generalize hU:hi*p+c=U at*;generalize e*p=E at*;have hUY:U<Y:=l7;have hU0:0<=U:=l7;obtain⟨Q1,q1,q2,q3,q4,q5⟩:=ZP (σ:=Int×Int) (λq r=>(q,r)) (y1:=Y / 4294967296) (y0:=Y % 4294967296) (U:=U) (d:=E / 4294967296) l7 l7 l7 l7 hU0 l7 l7 l7
  (f:=λ(x:Int×Int)=>l9 (L8 4294967296 x.1) (l9 (L8 4294967296 (D5 .u64 x.2 (Y / 4294967296))) (some (.inr (L6 .u64 x.1 1))) (some (.inl (L6 .u64 x.1 1,D5 .u64 x.2 (Y / 4294967296))))) (l9 (E8 (D5 .u64 (az .u64 4294967296 x.2) (E / 4294967296)) (az .u64 x.1 (Y % 4294967296))) (l9 (L8 4294967296 (D5 .u64 x.2 (Y / 4294967296))) (some (.inr (L6 .u64 x.1 1))) (some (.inl (L6 .u64 x.1 1,D5 .u64 x.2 (Y / 4294967296))))) (some (.inr x.1))))
  (λq r _ _ _ _=>rfl)
 have hYe:Y / 4294967296*4294967296+Y % 4294967296=Y:=l7;rw[hYe]at q4 q5;have hst:∀V:Int,0<=V->V<Y->L6 .u64 V (az .u64 (V / (Y / 4294967296)) (Y / 4294967296))=V -V / (Y / 4294967296)*(Y / 4294967296):=λV v0 v1=>by have a1:=Y5 V (Y / 4294967296);have a2:=W9 V (show Y / 4294967296≠0 by omega);have a3:=U4 V (show 0<Y / 4294967296 by omega);have a4:=X5 (Z8 v0 (show 0<=Y / 4294967296 by omega)) (show 0<=Y / 4294967296 by omega);rw[show az .u64 (V / (Y / 4294967296)) (Y / 4294967296)=V / (Y / 4294967296)*(Y / 4294967296)from HY a4 l7];exact HY l7 l7
 rw[Rj hU0 l7 l7,o8,hst U hU0 hUY];refine(lV q1 _).trans ?_;rw[a4V];have hA1:(Q1+1)*Y=Q1*Y+Y:=by rw[iY,gm]
 rw[hA1]at q5;obtain⟨A1,hAA⟩:∃A1,A1=Q1*Y:=⟨_,rfl⟩;rw[←hAA]at q4 q5 ⊢;rw[show(U*4294967296+E / 4294967296 -A1) % 18446744073709551616=U*4294967296+E / 4294967296 -A1 by omega];generalize hV:U*4294967296+E / 4294967296 -A1=V at*;have hV0:0<=V:=l7;have hVY:V<Y:=l7;obtain⟨Q0,r1,r2,r3,r4,r5⟩:=ZP (σ:=Int×Int) (λq r=>(r,q)) (y1:=Y / 4294967296) (y0:=Y % 4294967296) (U:=V) (d:=E % 4294967296) l7 l7 l7 l7 hV0 l7 l7 l7
  (f:=λ(x:Int×Int)=>l9 (L8 4294967296 x.2) (l9 (L8 4294967296 (D5 .u64 x.1 (Y / 4294967296))) (some (.inr (L6 .u64 x.2 1))) (some (.inl (D5 .u64 x.1 (Y / 4294967296),L6 .u64 x.2 1)))) (l9 (E8 (D5 .u64 (az .u64 4294967296 x.1) (E % 4294967296)) (az .u64 x.2 (Y % 4294967296))) (l9 (L8 4294967296 (D5 .u64 x.1 (Y / 4294967296))) (some (.inr (L6 .u64 x.2 1))) (some (.inl (D5 .u64 x.1 (Y / 4294967296),L6 .u64 x.2 1)))) (some (.inr x.2))))
  (λq r _ _ _ _=>rfl)
 rw[hYe]at r4 r5;rw[Rj hV0 l7 l7,o8,hst V hV0 hVY];refine(lV r1 _).trans ?_;rw[a4V];have hA0:(Q0+1)*Y=Q0*Y+Y:=by rw[iY,gm]
 rw[hA0]at r5;have hQY:(Q1*4294967296+Q0)*Y=A1*4294967296+Q0*Y:=by rw[iY,jR,←hAA]
 generalize Q0*Y=A0 at*;rw[show(V*4294967296+E % 4294967296 -A0) % 18446744073709551616=V*4294967296+E % 4294967296 -A0 by omega,hshrs,o8];rw[show az .u64 Q1 4294967296=Q1*4294967296 from HY l7 l7,show D5 .u64 (Q1*4294967296) Q0=Q1*4294967296+Q0 from HY l7 l7];generalize hQ:Q1*4294967296+Q0=Q at*;have hR:V*4294967296+E % 4294967296 -A0=(N -Q*y)*p:=by rw[ng,Int.mul_assoc,←hY,hQY,hN];omega
 rw[hR];have hge:0<=N -Q*y:=by
  rcases Sz (N -Q*y) 0 with h|h
  .have:=U9 (show N -Q*y<=-1 by omega) (show 0<=p by omega);omega
  .exact h
 have hlt:N -Q*y<y:=by
  rcases Sz (N -Q*y) y with h|h
  .exact h
  .have:=U9 h (show 0<=p by omega);omega
 have hq:N / y=Q:=by have e1:N=(N -Q*y)+Q*y:=l7;rw[e1,bH _ _ l7,nO hge hlt];omega
 have hr:N % y=N -Q*y:=by have:=Y5 N y;rw[hq]at this;omega
 rw[hq,hr,Int.mul_ediv_cancel _ l7]
end Go.GP
