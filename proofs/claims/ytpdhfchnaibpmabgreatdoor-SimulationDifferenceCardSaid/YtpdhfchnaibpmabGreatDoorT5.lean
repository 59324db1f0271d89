import Derived.Test.YtpdhfchnaibpmabGreatDoorT4
import Derived.Test.YtpdhfchnaibpmabGreatDoorT1
import Derived.Test.YtpdhfchnaibpmabGreatDoorT2
set_option linter.all false
namespace Go.GP
variable {a:Int}{b:Int}{n:Int}
section
variable {α β σ ε ρ:Type}
@[simp] theorem o8 (x:α) (f:α->Option β):o5 (some x) f=f x:=rfl
@[simp] theorem c1u (f:α->Option β):o5 none f=none:=rfl
theorem lJ{o:Option α}{x:α}(h:o=some x)(f:α->Option β):o5 o f=f x:=by rw[h];rfl
theorem X8{o o' :Option α}(h:o=o'){K:α->Option β}{r:Option β}(h2:o5 o' K=r):o5 o K=r:=by rw[h];exact h2
theorem bV(o:Option α):o5 o (λx=>some x)=o:=by cases o<;>rfl
@[simp] theorem o7 (x y:α):l7 true x y=x:=rfl
@[simp] theorem o6 (x y:α):l7 false x y=y:=rfl
theorem Hw{b:Bool}(h:b=true)(x y:α):l7 b x y=x:=by rw[h];rfl
theorem MV{b:Bool}(h:b=false)(x y:α):l7 b x y=y:=by rw[h];rfl
@[simp] theorem L6 (s:σ) (f:σ->α) (g:ε->α):X9 (.inl s) f g=f s:=rfl
@[simp] theorem uh (s:ε) (f:σ->α) (g:ε->α):X9 (.inr s) f g=g s:=rfl
@[simp] theorem E5:D9 true=false:=rfl
@[simp] theorem aV:D9 false=true:=rfl
theorem V5(h:a<b):E9 a b=true:=by simp[E9,h]
theorem N9(h:b<=a):E9 a b=false:=by simp[E9];omega
theorem Z9(h:a<=b):N7 a b=true:=by simp[N7,h]
theorem ax(h:b<a):N7 a b=false:=by simp[N7];omega
theorem J7(h:a=b):x8 a b=true:=by simp[x8,h]
theorem J6(h:a≠b):x8 a b=false:=by simp[x8,h]
theorem iW :E9 a b=true↔a<b:=by simp[E9]
theorem jJ :N7 a b=true↔a<=b:=by simp[N7]
theorem O9 :x8 a b=true↔a=b:=by simp[x8]
theorem iU :E9 a b=false↔b<=a:=by simp[E9]
theorem BZ :N7 a b=false↔b<a:=by simp[N7]
theorem yD :x8 a b=false↔a≠b:=by simp[x8]
theorem ig{a b:c9i} :seq a b=true↔a=b:=by simp[seq]
theorem Ot{a b:c9i} :seq a b=false↔a≠b:=by simp[seq]
theorem kQ(h:0<=a):a.tdiv b=a / b:=Int.tdiv_eq_ediv_of_nonneg h
theorem Ba(h:0<=a):eF a b=a % b:=fQ h
def jl(n:Int):Prop:=-9223372036854775808<=n/\n<=9223372036854775807
theorem U0{p:Int}(h:jl p:=by unfold jl;omega):jl p:=h
def U64(n:Int):Prop:=0<=n/\n<=18446744073709551615
theorem nY(h:jl n):IntKind.wrap .i64 n=n:=by unfold jl at h;unfold IntKind.wrap;simp[IntKind.signed,IntKind.bits];omega
theorem b8m(h:U64 n):IntKind.wrap .u64 n=n:=by unfold U64 at h;unfold IntKind.wrap;simp[IntKind.signed,IntKind.bits];omega
theorem X7(h:jl (a+b)):A7 .i64 a b=a+b:=nY h
theorem U2(h:jl (a -b)):J3 .i64 a b=a -b:=nY h
theorem nH(h:jl (a*b)):aA .i64 a b=a*b:=nY h
theorem DF(h:jl (a.tdiv b)):dV .i64 a b=a.tdiv b:=nY h
theorem a1q(h:(Lit.int .i64 n).wf=true):jl n:=by simp[Lit.wf,IntKind.min,IntKind.max,IntKind.signed,IntKind.bits]at h;unfold jl;omega
theorem Yf(l:List α):0<=o9 l:=by simp[o9]
theorem F5(l:List α)(i:Nat):F9 l (i:Int)=l[i]?:=by simp[F9]
theorem cO{l:List α}{i:Int}{x:α}(h:F9 l i=some x):0<=i/\i<o9 l/\x∈l/\l[i.toNat]? =some x:=by
 unfold F9 at h;split at h
 .rename_i h0;obtain⟨h1,h2⟩:=V6.1 h;refine⟨h0,by simp[o9];omega,?_,h⟩;rw[←h2];exact N8 h1
 .cases h
theorem ng{l:List α}{i:Int}(h0:0<=i)(h:i<o9 l):∃x,F9 l i=some x/\x∈l:=by
 unfold o9 at h;refine⟨l[i.toNat]'l9,?_,N8 _⟩;unfold F9
 rw[if_pos h0,dh]
theorem Zo(l:c9i)(i:Nat):sat l (i:Int)=(l[i]?).map λc=>(c.toNat:Int):=by simp[sat]
theorem Ny{a b:List α}(h:a.length+b.length<=1073741824):di a b=some (a++b):=by simp[di,h]
theorem b8N{l:List α}{lo hi:Int}(h0:0<=lo)(h1:lo<=hi)(h2:hi<=l.length):Gl l lo hi=some ((l.take hi.toNat).drop lo.toNat):=by simp[Gl,h0,h1,h2]
theorem b8O{l:List α}{hi:Int}(h1:0<=hi)(h2:hi<=l.length):Gl l 0 hi=some (l.take hi.toNat):=by rw[b8N l9 h1 h2];simp
end
section
variable {σ ε ρ:Type}
theorem Yh{f:σ->Option (σ⊕ε)}(Inv:σ->Prop)(Q:ε->Prop)(meas:σ->Nat)
  (h:∀s,Inv s->(∃s',f s=some (.inl s')/\Inv s' /\meas s' <meas s)\/(∃e,f s=some (.inr e)/\Q e)):
  ∀n s,Inv s->meas s<n->∃e,vN f n s=some e/\Q e
 |0,_,_,h=>by omega|n+1,s,hi,hm=>by
  unfold vN;rcases h s hi with⟨s',e,hi',hm'⟩|⟨x,e,hx⟩
  .rw[e];exact Yh Inv Q meas h n s' hi' l9
  .rw[e];exact⟨x,rfl,hx⟩
theorem iM{f:σ->Option (σ⊕ε)}{s:σ}(Inv:σ->Prop)(Q:ε->Prop)(meas:σ->Nat)(hi:Inv s)(hm:meas s<18446744073709551616)
  (h:∀s,Inv s->(∃s',f s=some (.inl s')/\Inv s' /\meas s' <meas s)\/(∃e,f s=some (.inr e)/\Q e)):∃e,ay f s=some e/\Q e:=
 Yh Inv Q meas h _ s hi hm
theorem N_{f:σ->Option (Out σ ε ρ)}(Inv:σ->Prop)(Q:ε->Prop)(Qr:ρ->Prop)(meas:σ->Nat)
  (h:∀s,Inv s->(∃s',f s=some (.nx s')/\Inv s' /\meas s' <meas s)\/(∃e,f s=some (.ex e)/\Q e)\/(∃r,f s=some (.rt r)/\Qr r)):
  ∀n s,Inv s->meas s<n->(∃e,rC f n s=some (.inl e)/\Q e)\/(∃r,rC f n s=some (.inr r)/\Qr r)
 |0,_,_,h=>by omega|n+1,s,hi,hm=>by
  unfold rC;rcases h s hi with⟨s',e,hi',hm'⟩|⟨x,e,hx⟩|⟨x,e,hx⟩
  .rw[e];exact N_ Inv Q Qr meas h n s' hi' l9
  .rw[e];exact .inl ⟨x,rfl,hx⟩
  .rw[e];exact .inr ⟨x,rfl,hx⟩
theorem xH{f:σ->Option (Out σ ε ρ)}{s:σ}(Inv:σ->Prop)(Q:ε->Prop)(Qr:ρ->Prop)(meas:σ->Nat)(hi:Inv s)(hm:meas s<18446744073709551616)
  (h:∀s,Inv s->(∃s',f s=some (.nx s')/\Inv s' /\meas s' <meas s)\/(∃e,f s=some (.ex e)/\Q e)\/(∃r,f s=some (.rt r)/\Qr r)):
  (∃e,V7 f s=some (.inl e)/\Q e)\/(∃r,V7 f s=some (.inr r)/\Qr r):=
 N_ Inv Q Qr meas h _ s hi hm
end
section
variable {α β ε ρ:Type}
open Classical in
theorem EX(l:List α)(p:Nat->α->Bool)(r:ρ)(e:ε)(f:Int->Option (Out Int ε ρ))(hl:l.length<18446744073709551616)
  (hin:∀(i:Nat) (a:α),l[i]? =some a->f (i:Int)=if p i a=true then some (.nx ((i+1:Nat):Int))else some (.rt r))
  (hend:f (l.length:Int)=some (.ex e)):
  V7 f 0=if(∀i a,l[i]? =some a->p i a=true)then some (.inl e)else some (.inr r):=by
 have key:∀(n i:Nat),i<=l.length->l.length -i<n->(∀j a,j<i->l[j]? =some a->p j a=true)->rC f n (i:Int)=if(∀i a,l[i]? =some a->p i a=true)then some (.inl e)else some (.inr r):=by
  intro n;induction n with
  |zero=>intro i _ h;omega|succ n ih=>
   intro i hi hn hp;unfold rC;by_cases h:i<l.length
   .have e' :=dh h;rw[hin i _ e'];by_cases hpi:p i l[i]=true
    .rw[if_pos hpi];exact ih (i+1) l9 l9 λj a hj ha=>by
      by_cases hji:j=i
      .subst hji;rw[e']at ha;cases ha;exact hpi
      .exact hp j a l9 ha
    .rw[if_neg hpi,if_neg];intro hall;exact hpi (hall i _ e')
   .have:i=l.length:=l9;subst this;rw[hend,if_pos];intro j a ha;exact hp j a (V6.1 ha).1 ha
 exact key _ 0 (eH _) hl λj a hj=>by omega
end
end Go.GP
namespace Go.GP
section
variable {α β α' β' σ τ ε ε' ρ ρ' :Type}
theorem JW{p:Nat->Option ρ}(n:Nat)(hn:n<18446744073709551616)(e:ε){f:Int->Option (Out Int ε ρ)}
  (h1:∀i,i<n->f (i:Int)=some (match p i with|some r=> .rt r|none=> .nx ((i+1:Nat):Int))) (h2:f (n:Int)=some (.ex e)):
  V7 f 0=some (match(List.range n).findSome? p with|some r=> .inr r|none=> .inl e):=by
 have key:∀m i,i+m=n->∀k,m<k->rC f k (i:Int)=some (match(List.range' i m).findSome? p with|some r=> .inr r|none=> .inl e):=by
  intro m;induction m with
  |zero=>intro i hi k hk;obtain⟨k,rfl⟩:∃k',k=k' +1:=⟨k -1,l9⟩;have:i=n:=l9;subst this;unfold rC;rw[h2];rfl
  |succ m ih=>
   intro i hi k hk;obtain⟨k,rfl⟩:∃k',k=k' +1:=⟨k -1,l9⟩;unfold rC;rw[h1 i l9,oI,List.findSome?_cons];cases hp:p i with
   |some r=>rfl|none=>exact ih (i+1) l9 k l9
 have:=key n 0 l9 lG hn;rw[List.range_eq_range'];exact this
end
end Go.GP
namespace Go.GP
open Gt
set_option maxRecDepth 100000
section
variable {i:Nat}
theorem Z5(h:i<=9000000000000000000):A7 .i64 (i:Int) 1=((i+1:Nat):Int):=by rw[X7 U0];omega
def WM(c:UInt8):Bool:=decide (97<=c.toNat)&&decide (c.toNat<=122)
def Ew(c:UInt8):Bool:=WM c || (decide (48<=c.toNat)&&decide (c.toNat<=57)) || decide (c.toNat=95)
def Pj:List c9i:=zD.getD []
theorem b9l:zD=some Pj:=by kernel_rfl
def Ez(s:c9i):Bool:=match s with|[]=>false|c::r=>decide (s.length<=16)&&WM c&&s.all Ew&&!(Pj.any λw=>seq s w)
theorem a2A(c:UInt8)(r:c9i):Ez (c::r)=(decide ((c::r).length<=16)&&WM c&&(c::r).all Ew&&!(Pj.any λw=>seq (c::r) w)):=rfl
theorem O_(c:UInt8):yz (c.toNat:Int)=some (WM c):=by
 unfold yz WM;cases h:decide (97<=c.toNat)<;>simp only[decide_eq_true_eq,decide_eq_false_iff_not]at h
 .rw[ax l9];rfl
 .rw[Z9 l9];simp only[o7,eG,N7];congr 1;by_cases h2:c.toNat<=122<;>simp[h2]<;>omega
theorem a3a(c:UInt8):Qm (c.toNat:Int)=some (WM c):=O_ c
def a5z(c:UInt8):Bool:=decide (48<=c.toNat)&&decide (c.toNat<=57)
theorem a5A(c:UInt8):Bc (c.toNat:Int)=some (a5z c):=by
 unfold Bc a5z;cases h:decide (48<=c.toNat)<;>simp only[decide_eq_true_eq,decide_eq_false_iff_not]at h
 .rw[ax l9];rfl
 .rw[Z9 l9];simp only[o7,eG,N7];congr 1;by_cases h2:c.toNat<=57<;>simp[h2]<;>omega
theorem b2O(c:UInt8):Yy (c.toNat:Int)=some (a5z c):=a5A c
theorem b9Z(c:UInt8):x8 (c.toNat:Int) 95=decide (c.toNat=95):=by unfold x8;by_cases h:c.toNat=95<;>simp[h]<;>omega
theorem b9P(c:UInt8):Ub (c.toNat:Int)=some (Ew c):=by unfold Ub;rw[a3a,o8,b2O,b9Z];unfold Ew;change _=some (WM c || a5z c || decide (c.toNat=95));cases WM c<;>cases a5z c<;>rfl
variable {s:c9i}
theorem a1D(h:s.length<=1000000):∃k,Am s=some k/\(k=o9 s↔s.all Ew=true):=by
 unfold Am;have:=iM (f:=λ(x:Int)=>l7 (E9 x (o9 s)) (o5 (sat s x) λx_1=>o5 (yz x_1) λx_2=>l7 x_2 (some (Sum.inl (A7 IntKind.i64 x 1)))
   (o5 (sat s x) λx_3=>o5 (Bc x_3) λx_4=>l7 x_4 (some (Sum.inl (A7 IntKind.i64 x 1))) (o5 (sat s x) λx_5=>l7 (x8 x_5 95) (some (Sum.inl (A7 IntKind.i64 x 1))) (some (Sum.inr x))))) (some (Sum.inr x)))
  (s:=0) (λx=>∃i:Nat,x=i/\i<=s.length/\(s.take i).all Ew=true) (λk=>k=o9 s↔s.all Ew=true) (λx=>s.length -x.toNat) ⟨0,rfl,l9,rfl⟩ Y2 ?_
 .obtain⟨k,h1,h2⟩:=this;refine⟨k,?_,h2⟩;rw[bV];exact h1
 .rintro x ⟨i,rfl,hi,hall⟩;by_cases hl:i<s.length
  .have e:=dh hl;simp only[V5 (show(i:Int)<o9 s by simp[o9];omega),o7,Zo,e,aJ,o8,O_,a5A,b9Z];have hst:(s.take (i+1)).all Ew=((s.take i).all Ew&&Ew s[i]):=by rw[U9 hl,List.all_append];simp
   have hw:Ew s[i]=(WM s[i] || a5z s[i] || decide (s[i].toNat=95)):=rfl;cases hwb:Ew s[i]with
   |true=>left;refine⟨((i+1:Nat):Int),?_,⟨i+1,rfl,hl,by rw[hst,hall,hwb];rfl⟩,by simp;omega⟩;rw[Z5 l9];rw[hw]at hwb;cases h1:WM s[i]<;>cases h2:a5z s[i]<;>cases h3:decide (s[i].toNat=95)<;>rw[h1,h2,h3]at hwb<;>first|rfl|cases hwb
   |false=>
    right;refine⟨(i:Int),?_,?_⟩
    .rw[hw]at hwb;cases h1:WM s[i]<;>cases h2:a5z s[i]<;>cases h3:decide (s[i].toNat=95)<;>rw[h1,h2,h3]at hwb<;>first|rfl|cases hwb
    .constructor
     .intro h;simp[o9]at h;omega
     .intro h;have:=lq.1 h s[i] (N8 hl);rw[hwb]at this;cases this
  .right;have:i=s.length:=l9;subst this;rw[bz]at hall;exact⟨_,by rw[N9 (by simp[o9])];rfl,by simp[o9,hall]⟩
theorem b2T{a:c9i}{w:c9i}{r:c9n}{x:Bool}(h:r=some x):l7 (seq a w) (some (seq a w)) r=some (seq a w || x):=by rw[h];cases seq a w<;>rfl
theorem a6V(s:c9i):DN s=some (Pj.any λw=>seq s w):=by
 unfold DN;refine X8 (o' :=some (Pj.any λw=>seq s w)) ?_ (by cases Pj.any λw=>seq s w<;>rfl);have hr:Pj=(zD).getD []:=rfl;rw[show(Pj.any λw=>seq s w)=List.foldr (λw b=>seq s w || b) false Pj from by induction Pj with|nil=>rfl|cons w l ih=>simp[lZ,ih]];unfold Pj zD;simp only[aN,List.foldr]
 repeat (refine b2T ?_)
 simp
theorem ut(h:s.length<=1000000):jy s=some (Ez s):=by
 unfold jy;cases s with
 |nil=>rfl|cons c r=>
  have h1:seq (c::r) []=false:=by simp[seq]
  obtain⟨k,h2,h3⟩:=a1D h;rw[h1];simp only[aV,o7];rw[show sat (c::r) 0=some (c.toNat:Int)from rfl,o8,O_,o8,h2,o8,a6V,o8];have h4:x8 k (o9 (c::r))=(c::r).all Ew:=by rw[gu,O9];exact h3
  have h5:N7 (o9 (c::r)) 16=decide ((c::r).length<=16):=by simp only[N7,o9];congr 1;simp;omega
  rw[h4,h5,a2A];cases WM c<;>cases (c::r).all Ew<;>cases decide ((c::r).length<=16)<;>rfl
theorem oU(h:s.length<=1000000):iO s=some (Ez s):=by
 unfold iO;cases s with
 |nil=>rfl|cons c r=>
  have h0:x8 (o9 (c::r)) 0=false:=J6 (by simp[o9];omega);have h5:E9 16 (o9 (c::r))= !decide ((c::r).length<=16):=by simp only[E9,o9];rw[←decide_not];congr 1;simp;omega
  rw[h0,h5,show sat (c::r) 0=some (c.toNat:Int)from rfl,o8,a3a,o8,a2A];generalize hs:c::r=s at*;cases hl:decide (s.length<=16)
  .rfl
  cases hc:WM c
  .rfl
  simp only[jY,o6,E5,o8,L6,eG];refine X8 (EX s (λi a=>Ew a) false PUnit.unit _ l9 (λi x hx=>?_) ?_) ?_
  rotate_left 2
  .have ha:(∀(i:Nat) (a:UInt8),s[i]? =some a->Ew a=true)↔s.all Ew=true:=by
    rw[lq];constructor
    .intro h x hx;obtain⟨i,hi,rfl⟩:=X3 hx;exact h i _ (dh hi)
    .intro h i a hi;exact h a (iL hi)
   by_cases hw:s.all Ew=true
   .rw[if_pos (ha.2 hw),o8,L6,b9l,o8,hw];refine X8 (EX Pj (λi a=> !seq a s) false PUnit.unit _ (by decide+kernel) (λi x hx=>?_) ?_) ?_
    rotate_left 2
    .have hb:(∀(i:Nat) (a:c9i),Pj[i]? =some a->(!seq a s)=true)↔(Pj.any λw=>seq s w)=false:=by
      rw[fZ];constructor
      .intro h x hx;obtain⟨i,hi,rfl⟩:=X3 hx;have:=h i _ (dh hi);intro hq;rw[ig.1 hq]at this;simp[seq]at this
      .intro h i a hi;have:=h a (iL hi);cases hq:seq a s
       .rfl
       .exact absurd (by rw[ig.1 hq];simp[seq]) this
     by_cases hv:(Pj.any λw=>seq s w)=false
     .rw[if_pos (hb.2 hv),hv];rfl
     .rw[if_neg (λh=>hv (hb.1 h))];simp only[rJ]at hv;rw[hv];rfl
    .have hi:=(V6.1 hx).1;simp only[V5 (show(i:Int)<o9 Pj by simp[o9];omega),o7,F5,hx,o8];rw[show O8 Pj (U6 (i:Int))=some x from by simp[O8,U6,hx],o8,Z5 (by
       have:Pj.length<=100:=by decide+kernel
       omega)]
     cases seq x s<;>rfl
    .rw[N9 (by simp[o9])];rfl
   .rw[if_neg (λh=>hw (ha.1 h))];simp only[lm]at hw;rw[hw];rfl
  .have hi:=(V6.1 hx).1;simp only[V5 (show(i:Int)<o9 s by simp[o9];omega),o7,Zo,hx,aJ,o8,b9P];rw[Z5 l9];cases Ew x<;>rfl
  .rw[N9 (by simp[o9])];rfl
theorem VV(t:Int×Int)(en:List dB):jd t en=eU t en:=by
 unfold jd eU;by_cases h1:t.1=1
 .simp[x8,h1,N7]
 by_cases h2:t.1=2
 .simp[x8,h2,N7]
 by_cases h3:t.1=3
 .simp[x8,h3,N7]
 by_cases h4:t.1=4
 .simp[x8,h4,N7]
 by_cases h5:t.1=5
 .simp[x8,h5,N7]
 by_cases h6:t.1=6
 .simp[x8,h6,N7]
 .simp only[x8,h1,h2,h3,h4,h5,h6,decide_false,o6,o8];by_cases h7:1<=t.1
  .rw[Hw (Z9 h7),MV (ax l9)]
  .rw[MV (ax l9)]
theorem b1G(t:Int×Int)(en:List dB):rY t en=pM t en:=by unfold rY pM;rw[VV]
def vty(t:Int×Int)(en:List dB):Bool:=l7 (x8 t.1 6) (l7 (N7 0 t.2) (E9 t.2 (o9 en)) false) (l7 (N7 1 t.1) (l7 (N7 t.1 5) (x8 t.2 0) false) false)
theorem dA(t:Int×Int)(en:List dB):eU t en=some (vty t en):=by unfold eU vty;cases x8 t.1 6<;>cases N7 0 t.2<;>cases N7 1 t.1<;>cases N7 t.1 5<;>rfl
theorem AB(t:Int×Int)(en:List dB):jd t en=some (vty t en):=(VV t en).trans (dA t en)
theorem a4t(t:Int×Int)(en:List dB):∃b:Int×Int,pM t en=some b:=by
 unfold pM;rw[dA,o8];cases hv:vty t en
 .exact⟨_,rfl⟩
 simp only[E5,o6];cases h1:x8 t.1 1<;>simp only[o7,o6]
 .cases h2:x8 t.1 2<;>simp only[o7,o6]
  .cases h3:x8 t.1 3<;>simp only[o7,o6]
   .cases h4:x8 t.1 4<;>simp only[o7,o6]
    .cases h5:x8 t.1 5<;>simp only[o7,o6]
     .have h6:x8 t.1 6=true/\N7 0 t.2=true/\E9 t.2 (o9 en)=true:=by
       unfold vty at hv;rw[yD]at h1 h2 h3 h4 h5;cases h6:x8 t.1 6<;>rw[h6]at hv
       .rw[yD]at h6;cases h7:N7 1 t.1<;>rw[h7]at hv
        .cases hv
        cases h8:N7 t.1 5<;>rw[h8]at hv
        .cases hv
        rw[jJ]at h7 h8;omega
       .cases h7:N7 0 t.2<;>rw[h7]at hv
        .cases hv
        .exact⟨rfl,rfl,hv⟩
      obtain⟨x,hx,_⟩:=ng (jJ.1 h6.2.1) (iW.1 h6.2.2);rw[hx];exact⟨_,rfl⟩
     .exact⟨_,rfl⟩
    .exact⟨_,rfl⟩
   .exact⟨_,rfl⟩
  .exact⟨_,rfl⟩
 .exact⟨_,rfl⟩
def bnd(t:Int×Int)(en:List dB):Int×Int:=(pM t en).getD (0,0)
theorem TZ(t:Int×Int)(en:List dB):pM t en=some (bnd t en):=by obtain⟨b,h⟩:=a4t t en;unfold bnd;rw[h];rfl
theorem Wq(t:Int×Int)(en:List dB):rY t en=some (bnd t en):=(b1G t en).trans (TZ t en)
def inB(n:Int)(b:Int×Int):Bool:=l7 (N7 b.1 n) (N7 n b.2) false
theorem a4p(n:Int)(t:Int×Int)(en:List dB):MH n t en=some (inB n (bnd t en)):=by unfold MH inB;rw[TZ,o8];cases N7 (bnd t en).1 n<;>rfl
def HY(r:Int×Int):Bool:=l7 (N7 0 r.1) (l7 (N7 r.1 r.2) (N7 r.2 109573) false) false
theorem Lu(r:Int×Int):uu r=some (HY r):=by unfold uu HY;cases N7 0 r.1<;>cases N7 r.1 r.2<;>rfl
theorem NR(r:Int×Int):CZ r=some (HY r):=Lu r
def n_(a b:Int×Int):(Int×Int)×Bool:=l7 (HY a) (l7 (HY b) (l7 (N7 (qR a.2 b.2) (oD a.1 b.1)) ((0,0),false) ((oD a.1 b.1,qR a.2 b.2),true)) ((0,0),false)) ((0,0),false)
theorem b6w(a b:Int×Int):GN a b=some (n_ a b):=by unfold GN n_;rw[NR,o8,NR,o8];cases HY a<;>cases HY b<;>cases N7 (qR a.2 b.2) (oD a.1 b.1)<;>rfl
theorem b9y(a b:Int×Int):wo a b=some (n_ a b):=by
 unfold wo yL n_;rw[Lu,o8,Lu,o8];cases HY a
 .rfl
 simp only[o7];cases h1:E9 a.1 a.2
 .rw[iU]at h1;rw[Z9 (show qR a.2 b.2<=oD a.1 b.1 by unfold qR oD;omega)];cases HY b<;>rfl
 simp only[o8,E5,o6];cases HY b
 .rfl
 simp only[o7];cases h2:E9 b.1 b.2
 .rw[iU]at h2;rw[Z9 (show qR a.2 b.2<=oD a.1 b.1 by unfold qR oD;omega)];rfl
 .cases N7 (qR a.2 b.2) (oD a.1 b.1)<;>rfl
def AC(a b:rF):Bool:=l7 (n_ a.1 b.1).2 (E9 (oD a.2.1 b.2.1) (qR a.2.2.1 b.2.2.1)) false
theorem a5v(a b:rF):Ep a b=some (AC a b):=by unfold Ep AC;rw[b9y,o8];cases (n_ a.1 b.1).2<;>rfl
theorem a4u(a b:rF):Jn a b=some (AC a b):=by unfold Jn AC;rw[b6w,o8];cases (n_ a.1 b.1).2<;>rfl
theorem b4w{l:List rF}(r:rF)(h:l.length<=1000000):∃k:Int,wz l r=some (k,l.any λy=>AC y r):=by
 unfold wz;have key:=xH (f:=λ(x:Int)=>l7 (E9 x (o9 l)) (o5 (F9 l x) λx_1=>o5 (xg x_1 r) λx_2=>l7 x_2 (some (Out.rt (x,true))) (some (Out.nx (A7 IntKind.i64 x 1)))) (some (Out.ex PUnit.unit)))
   (s:=0) (λx=>∃i:Nat,x=i/\i<=l.length/\(l.take i).any (λy=>AC y r)=false) (λ_=>(l.any λy=>AC y r)=false) (λk=>k.2=true/\(l.any λy=>AC y r)=true) (λx=>l.length -x.toNat) ⟨0,rfl,l9,rfl⟩ Y2 ?_
 .rcases key with⟨e,h1,h2⟩|⟨k,h1,h2,h3⟩
  .exact⟨0,by rw[h1,h2];rfl⟩
  .refine⟨k.1,?_⟩;rw[h1,h3,←h2];rfl
 .rintro x ⟨i,rfl,hi,hall⟩;by_cases hl:i<l.length
  .have e:=dh hl;have hst:(l.take (i+1)).any (λy=>AC y r)=((l.take i).any (λy=>AC y r) || AC l[i] r):=by rw[U9 hl,uM];simp
   have hv:xg l[i] r=some (AC l[i] r):=by unfold xg;rw[a5v];rfl
   simp only[V5 (show(i:Int)<o9 l by simp[o9];omega),o7,F5,e,o8,hv];cases hc:AC l[i] r with
   |true=>exact .inr (.inr ⟨_,rfl,rfl,jH.2 ⟨l[i],N8 hl,hc⟩⟩)|false=>exact .inl ⟨((i+1:Nat):Int),by rw[Z5 l9];rfl,⟨i+1,rfl,hl,by rw[hst,hall,hc];rfl⟩,by simp;omega⟩
  .have:i=l.length:=l9;subst this;rw[bz]at hall;exact .inr (.inl ⟨_,by rw[N9 (by simp[o9])];rfl,hall⟩)
def OH(x:rF)(bl br:Int×Int):Bool:=
 l7 (HY x.1) (l7 (x8 x.1.1 x.1.2) true (l7 (N7 x.2.2.1 x.2.1) true (l7 (inB x.2.1 bl) (l7 (inB (J3 .i64 x.2.2.1 1) bl) (D9 (inB x.2.2.2 br)) true) true))) true
theorem b2Y(x:rF)(t:bn)(en:List dB):Qn x t en=some (OH x (bnd t.2.1 en) (bnd t.2.2.1 en)):=by
 unfold Qn OH;rw[NR,o8,a4p,a4p,a4p];cases HY x.1
 .rfl
 cases x8 x.1.1 x.1.2
 case true=>rfl
 cases N7 x.2.2.1 x.2.1
 case true=>rfl
 simp only[E5,o6,o8,L6,o7];cases inB x.2.1 (bnd t.2.1 en)
 .rfl
 cases inB (J3 .i64 x.2.2.1 1) (bnd t.2.1 en)
 .rfl
 rfl
def VK(t:bn)(en:List dB)(i:Nat):c9p:=match t.2.2.2[i]? with
 |some x=>l7 (OH x (bnd t.2.1 en) (bnd t.2.2.1 en)) (some ((i:Int),3)) (l7 ((t.2.2.2.take i).any λy=>AC y x) (some ((i:Int),11)) none)|none=>none
def Pm(t:bn)(en:List dB):Int×Int:=
 l7 (E9 64 (o9 t.2.2.2)) (64,4) (l7 (vty t.2.1 en) (l7 (vty t.2.2.1 en) (match(List.range t.2.2.2.length).findSome? (VK t en)with|some r=>r|none=>(0,0)) (-1,8)) (-1,8))
theorem pI(a b:Int):E9 a b= !N7 b a:=by simp only[E9,N7];rw[←decide_not];congr 1;simp
theorem b2X(t:bn)(en:List dB):Jm t en=some (Pm t en):=by
 unfold Jm Pm;rw[dA,o8,dA,o8];cases h64:E9 64 (o9 t.2.2.2)
 case true=>rfl
 simp only[o6];cases vty t.2.1 en
 .rfl
 cases vty t.2.2.1 en
 .rfl
 simp only[E5,o6,o8,L6,o7];have hlen:t.2.2.2.length<=64:=by rw[iU]at h64;simp only[o9]at h64;omega
 refine X8 (JW (p:=VK t en) t.2.2.2.length l9 PUnit.unit (λi hi=>?_) ?_) ?_
 rotate_left 2
 .cases (List.range t.2.2.2.length).findSome? (VK t en)<;>rfl
 .have e:=dh hi;simp only[V5 (show(i:Int)<o9 t.2.2.2 by simp only[o9];omega),o7,F5,e,o8,b2Y,VK];cases OH t.2.2.2[i] (bnd t.2.1 en) (bnd t.2.2.1 en)
  case true=>rfl
  simp only[o6];refine X8 (EX (t.2.2.2.take i) (λj a=> !AC a t.2.2.2[i]) ((i:Int),(11:Int)) PUnit.unit _ Y2 (λj x hx=>?_) ?_) ?_
  rotate_left 2
  .have hb:(∀(j:Nat) (a:rF),(t.2.2.2.take i)[j]? =some a->(!AC a t.2.2.2[i])=true)↔((t.2.2.2.take i).any λy=>AC y t.2.2.2[i])=false:=by
    rw[fZ];constructor
    .intro h x hx;obtain⟨j,hj,rfl⟩:=X3 hx;have:=h j _ (dh hj);simpa using this
    .intro h j a hj;have:=h a (iL hj);simpa using this
   by_cases hv:((t.2.2.2.take i).any λy=>AC y t.2.2.2[i])=false
   .rw[if_pos (hb.2 hv),hv,Z5 l9];rfl
   .rw[if_neg (λh=>hv (hb.1 h))];simp only[rJ]at hv;rw[hv];rfl
  .have hj:=(V6.1 hx).1;simp only[az]at hj;have hx' :t.2.2.2[j]? =some x:=by rw[Y9]at hx;split at hx<;>first|exact hx|cases hx
   simp only[V5 (show(j:Int)<(i:Int) by omega),o7,F5,hx',o8,e,a4u];rw[Z5 l9];cases AC x t.2.2.2[i]<;>rfl
  .have hl:(t.2.2.2.take i).length=i:=by simp;omega
   rw[hl,N9 l9];rfl
 .rw[N9 (by simp[o9])];rfl
variable {α:Type}
theorem CV{l:List α}(h:i<=l.length):Gl l 0 (i:Int)=some (l.take i):=by rw[b8O l9 l9];simp
theorem b7U(t:bn)(en:List dB):Eo t en=some (Pm t en):=by
 unfold Eo Pm;rw[AB,o8,AB,o8];cases h64:E9 64 (o9 t.2.2.2)
 case true=>rfl
 simp only[o6];cases vty t.2.1 en
 .rfl
 cases vty t.2.2.1 en
 .rfl
 simp only[E5,o6,o8,L6,o7,Wq];have hlen:t.2.2.2.length<=64:=by rw[iU]at h64;simp only[o9]at h64;omega
 refine X8 (JW (p:=VK t en) t.2.2.2.length l9 PUnit.unit (λi hi=>?_) ?_) ?_
 rotate_left 2
 .cases (List.range t.2.2.2.length).findSome? (VK t en)<;>rfl
 .have e:=dh hi;simp only[V5 (show(i:Int)<o9 t.2.2.2 by simp only[o9];omega),o7,F5,e,o8,VK,Lu,CV (show i<=t.2.2.2.length by omega)];obtain⟨k,hk⟩:=b4w (l:=t.2.2.2.take i) t.2.2.2[i] Y2;rw[hk,Z5 l9];unfold OH inB;simp only[pI];generalize bnd t.2.1 en=bl;generalize bnd t.2.2.1 en=br;cases HY t.2.2.2[i].1
  .rfl
  cases x8 t.2.2.2[i].1.1 t.2.2.2[i].1.2
  case true=>rfl
  cases N7 t.2.2.2[i].2.2.1 t.2.2.2[i].2.1
  case true=>rfl
  cases N7 bl.1 t.2.2.2[i].2.1
  .rfl
  cases N7 t.2.2.2[i].2.1 bl.2
  .rfl
  cases N7 bl.1 (J3 IntKind.i64 t.2.2.2[i].2.2.1 1)
  .rfl
  cases N7 (J3 IntKind.i64 t.2.2.2[i].2.2.1 1) bl.2
  .rfl
  cases N7 br.1 t.2.2.2[i].2.2.2
  .rfl
  cases N7 t.2.2.2[i].2.2.2 br.2
  .rfl
  cases (t.2.2.2.take i).any λy=>AC y t.2.2.2[i]<;>rfl
 .rw[N9 (by simp[o9])];rfl
section
variable {α ε ρ:Type}
theorem vX(l:List α)(p:α->Bool)(r:ρ)(e:ε){f:Int->Option (Out Int ε ρ)}(hl:l.length<=1000000)
  (hin:∀(i:Nat) (a:α),l[i]? =some a->f (i:Int)=some (bif p a then .rt r else .nx (A7 .i64 (i:Int) 1))) (hend:f (l.length:Int)=some (.ex e)):
  V7 f 0=some (bif l.any p then .inr r else .inl e):=by
 rw[EX l (λi a=> !p a) r e f l9 (λi a ha=>?_) hend]
 .have hb:(∀(j:Nat) (a:α),l[j]? =some a->(!p a)=true)↔l.any p=false:=by
   rw[fZ];constructor
   .intro h x hx;obtain⟨j,hj,rfl⟩:=X3 hx;have:=h j _ (dh hj);simpa using this
   .intro h j a hj;have:=h a (iL hj);simpa using this
  by_cases hv:l.any p=false
  .rw[if_pos (hb.2 hv),hv];rfl
  .rw[if_neg (λh=>hv (hb.1 h))];simp only[rJ]at hv;rw[hv];rfl
 .have hi:=(V6.1 ha).1;rw[hin i a ha,Z5 l9];cases p a<;>rfl
theorem EQ(l:List α)(p:α->Bool){f:Int->Option (Out Int PUnit Int)}(hl:l.length<=1000000)
  (hin:∀(i:Nat) (a:α),l[i]? =some a->f (i:Int)=some (bif p a then .rt (i:Int)else .nx (A7 .i64 (i:Int) 1))) (hend:f (l.length:Int)=some (.ex PUnit.unit)):
  o5 (o5 (V7 f 0) λo=>X9 o (λ_=>some (-1)) λr=>some r) (λx=>some (N7 0 x))=some (l.any p):=by
 have key:=xH (f:=f) (s:=0) (λx=>∃i:Nat,x=i/\i<=l.length/\(l.take i).any p=false) (λ_=>l.any p=false) (λk=>0<=k/\l.any p=true) (λx=>l.length -x.toNat) ⟨0,rfl,l9,rfl⟩ Y2 ?_
 .rcases key with⟨e,h1,h2⟩|⟨k,h1,h2,h3⟩
  .rw[h1,h2];rfl
  .rw[h1,h3,o8,uh,o8,Z9 h2]
 .rintro x ⟨i,rfl,hi,hall⟩;by_cases h:i<l.length
  .have e:=dh h;have hst:(l.take (i+1)).any p=((l.take i).any p || p l[i]):=by rw[U9 h,uM];simp
   rw[hin i _ e];cases hc:p l[i]with
   |true=>exact .inr (.inr ⟨_,rfl,l9,jH.2 ⟨l[i],N8 h,hc⟩⟩)|false=>exact .inl ⟨((i+1:Nat):Int),by rw[Z5 l9];rfl,⟨i+1,rfl,h,by rw[hst,hall,hc];rfl⟩,by simp;omega⟩
  .have:i=l.length:=l9;subst this;rw[bz]at hall;exact .inr (.inl ⟨_,hend,hall⟩)
theorem H5{l:List α}{a:α}(h:l[i]? =some a):E9 (i:Int) (o9 l)=true:=V5 (by have:=(V6.1 h).1;simp only[o9];omega)
theorem G7(l:List α):E9 (l.length:Int) (o9 l)=false:=N9 (by simp[o9])
end
theorem TG{l:List dB}(n:c9i)(h:l.length<=1000000):CS l n=some (l.any λx=>seq x.1 n):=by unfold CS kM mg;rw[bV];refine EQ l (λx=>seq x.1 n) h (λi a ha=>?_) (by rw[G7];rfl);rw[H5 ha,o7,F5,ha,o8];unfold KR;rw[o8];cases seq a.1 n<;>rfl
theorem Yb{l:List bn}(n:c9i)(h:l.length<=1000000):DL l n=some (l.any λx=>seq x.1 n):=by unfold DL jO kX;rw[bV];refine EQ l (λx=>seq x.1 n) h (λi a ha=>?_) (by rw[G7];rfl);rw[H5 ha,o7,F5,ha,o8];unfold Ja;rw[o8];cases seq a.1 n<;>rfl
theorem a5Q{l:List A8}(s:A8)(h:l.length<=1000000):iC l s=some (l.any λx=>seq x.1 s.1):=by unfold iC kW;refine EQ l (λx=>seq x.1 s.1) h (λi a ha=>?_) (by rw[G7];rfl);rw[H5 ha,o7,F5,ha,o8];unfold EU;rw[o8];cases seq a.1 s.1<;>rfl
theorem a8x{l:List V8}(s:V8)(h:l.length<=1000000):iR l s=some (l.any λx=>seq x.1 s.1):=by unfold iR mi;refine EQ l (λx=>seq x.1 s.1) h (λi a ha=>?_) (by rw[G7];rfl);rw[H5 ha,o7,F5,ha,o8];unfold GH;rw[o8];cases seq a.1 s.1<;>rfl
theorem Ya{l:List bH}(s:bH)(h:l.length<=1000000):eQ l s=some (l.any λx=>seq x.1 s.1):=by unfold eQ kV;refine EQ l (λx=>seq x.1 s.1) h (λi a ha=>?_) (by rw[G7];rfl);rw[H5 ha,o7,F5,ha,o8];unfold ET;rw[o8];cases seq a.1 s.1<;>rfl
theorem b1Y{l:List c9i}(s:c9i)(h:l.length<=1000000):lh l s=some (l.any λx=>seq s x):=by unfold lh ug;refine EQ l (λx=>seq s x) h (λi a ha=>?_) (by rw[G7];rfl);rw[H5 ha,o7,F5,ha,o8];cases seq s a<;>rfl
variable {l:c9h}
theorem b1X(s:Int)(h:l.length<=1000000):qJ l s=some (l.any λx=>x8 s x):=by unfold qJ zY;refine EQ l (λx=>x8 s x) h (λi a ha=>?_) (by rw[G7];rfl);rw[H5 ha,o7,F5,ha,o8];cases x8 s a<;>rfl
section
variable {α ε ρ:Type}
theorem Lj(l:List α)(k:Nat)(p:α->Bool)(r:ρ)(e:ε){f:Int->Option (Out Int ε ρ)}(hl:l.length<=1000000)
  (hin:∀(i:Nat) (a:α),l[i]? =some a->f (i:Int)=some (bif (decide (i<k)&&p a)then .rt r else .nx (A7 .i64 (i:Int) 1))) (hend:f (l.length:Int)=some (.ex e)):
  V7 f 0=some (bif (l.take k).any p then .inr r else .inl e):=by
 rw[EX l (λi a=> !(decide (i<k)&&p a)) r e f l9 (λi a ha=>?_) hend]
 .have hb:(∀(j:Nat) (a:α),l[j]? =some a->(!(decide (j<k)&&p a))=true)↔(l.take k).any p=false:=by
   rw[fZ];constructor
   .intro h x hx;obtain⟨j,hj,rfl⟩:=X3 hx;simp only[az]at hj;have:=h j _ (dh l9);rw[rQ];simp only[show j<k by omega,decide_true,eG]at this;simpa using this
   .intro h j a hj;by_cases hk:j<k
    .have hm:a∈l.take k:=iL (i:=j) (by rw[ik hk];exact hj);have:=h a hm;simpa[hk]using this
    .simp[hk]
  by_cases hv:(l.take k).any p=false
  .rw[if_pos (hb.2 hv),hv];rfl
  .rw[if_neg (λh=>hv (hb.1 h))];simp only[rJ]at hv;rw[hv];rfl
 .have hi:=(V6.1 ha).1;rw[hin i a ha,Z5 l9];cases decide (i<k)&&p a<;>rfl
end
theorem UM(i k:Nat):E9 (i:Int) (k:Int)=decide (i<k):=by unfold E9;by_cases h:i<k<;>simp[h]<;>omega
def EE(l:S9)(kind:Nat)(k:Nat)(n:c9i):Bool:=
 match kind with
 |1=>(l.1.take k).any λx=>seq x.1 n|2=>(l.1.any λx=>seq x.1 n) || ((l.2.1.take k).any λx=>seq x.1 n)|_=>(l.1.any λx=>seq x.1 n) || (l.2.1.any λx=>seq x.1 n) || ((l.2.2.take k).any λx=>seq x.1 n)
def Few(l:S9):Prop:=l.1.length<=1000/\l.2.1.length<=1000/\l.2.2.length<=1000
theorem b3f{l:S9}(h:Few l)(k:Nat)(n:c9i):lV l 1 (k:Int) n=some (EE l 1 k n):=by
 unfold lV EE;refine X8 (Lj l.1 k (λx=>seq x.1 n) true PUnit.unit (by have:=h.1;omega) (λi a ha=>?_) ?_) ?_
 rotate_left 2
 .cases (l.1.take k).any λx=>seq x.1 n
  case true=>rfl
  simp only[cond_false,L6];refine X8 (Lj l.2.1 0 (λx=>seq x.1 n) true PUnit.unit (by have:=h.2.1;omega) (λi a ha=>?_) ?_) ?_
  rotate_left 2
  .simp only[List.take_zero,List.any_nil,cond_false,L6];refine X8 (Lj l.2.2 0 (λx=>seq x.1 n) true PUnit.unit (by have:=h.2.2;omega) (λi a ha=>?_) ?_) ?_
   rotate_left 2
   .rfl
   .rw[H5 ha];simp;rfl
   .rw[G7];rfl
  .rw[H5 ha];simp;rfl
  .rw[G7];rfl
 .rw[H5 ha,F5,ha,o8,UM,o7];cases decide (i<k)<;>cases seq a.1 n<;>rfl
 .rw[G7];rfl
theorem b3g{l:S9}(h:Few l)(k:Nat)(n:c9i):lV l 2 (k:Int) n=some (EE l 2 k n):=by
 unfold lV EE;refine X8 (vX l.1 (λx=>seq x.1 n) true PUnit.unit (by have:=h.1;omega) (λi a ha=>?_) ?_) ?_
 rotate_left 2
 .cases l.1.any λx=>seq x.1 n
  case true=>rfl
  simp only[cond_false,L6,lY];refine X8 (Lj l.2.1 k (λx=>seq x.1 n) true PUnit.unit (by have:=h.2.1;omega) (λi a ha=>?_) ?_) ?_
  rotate_left 2
  .cases (l.2.1.take k).any λx=>seq x.1 n
   case true=>rfl
   simp only[cond_false,L6];refine X8 (Lj l.2.2 0 (λx=>seq x.1 n) true PUnit.unit (by have:=h.2.2;omega) (λi a ha=>?_) ?_) ?_
   rotate_left 2
   .rfl
   .rw[H5 ha];simp;rfl
   .rw[G7];rfl
  .rw[H5 ha,F5,ha,o8,UM,o7];cases decide (i<k)<;>cases seq a.1 n<;>rfl
  .rw[G7];rfl
 .rw[H5 ha,F5,ha,o8,o7];cases seq a.1 n<;>rfl
 .rw[G7];rfl
theorem b3h{l:S9}(h:Few l)(k:Nat)(n:c9i):lV l 3 (k:Int) n=some (EE l 3 k n):=by
 unfold lV EE;refine X8 (vX l.1 (λx=>seq x.1 n) true PUnit.unit (by have:=h.1;omega) (λi a ha=>?_) ?_) ?_
 rotate_left 2
 .cases l.1.any λx=>seq x.1 n
  case true=>rfl
  simp only[cond_false,L6,lY];refine X8 (vX l.2.1 (λx=>seq x.1 n) true PUnit.unit (by have:=h.2.1;omega) (λi a ha=>?_) ?_) ?_
  rotate_left 2
  .cases l.2.1.any λx=>seq x.1 n
   case true=>rfl
   simp only[cond_false,L6,lY];refine X8 (Lj l.2.2 k (λx=>seq x.1 n) true PUnit.unit (by have:=h.2.2;omega) (λi a ha=>?_) ?_) ?_
   rotate_left 2
   .cases (l.2.2.take k).any λx=>seq x.1 n<;>rfl
   .rw[H5 ha,F5,ha,o8,UM,o7];cases decide (i<k)<;>cases seq a.1 n<;>rfl
   .rw[G7];rfl
  .rw[H5 ha,F5,ha,o8,o7];cases seq a.1 n<;>rfl
  .rw[G7];rfl
 .rw[H5 ha,F5,ha,o8,o7];cases seq a.1 n<;>rfl
 .rw[G7];rfl
def a1C(ms:List c9i)(i:Nat):c9p:=match ms[i]? with
 |some m=>l7 (Ez m) (l7 ((ms.take i).any λx=>seq m x) (some (7,((100+i:Nat):Int))) none) (some (2,((100+i:Nat):Int)))|none=>none
def XR(l:S9)(i:Nat)(e:dB):Int×Int:=
 l7 (Ez e.1) (l7 (EE l 1 i e.1) (7,0) (l7 (x8 (o9 e.2) 0) (5,0) (l7 (E9 16 (o9 e.2)) (4,116) (match(List.range e.2.length).findSome? (a1C e.2)with|some r=>r|none=>(0,0))))) (2,0)
theorem b0t(h:i<=1000000):A7 .i64 100 (i:Int)=((100+i:Nat):Int):=by rw[X7 U0];omega
theorem a3w{l:S9}(h:Few l)(hi:i<=l.1.length)(e:dB)(h1:e.1.length<=1000000)(h2:∀m∈e.2,m.length<=1000000):
  FI l (i:Int) e=some (XR l i e):=by
 unfold FI XR EE;rw[ut h1,o8,CV hi,o8,TG _ (by have:=h.1;simp;omega),o8];cases Ez e.1
 .rfl
 simp only[E5,o6,o7];cases (l.1.take i).any λx=>seq x.1 e.1
 case true=>rfl
 cases x8 (o9 e.2) 0
 case true=>rfl
 cases h16:E9 16 (o9 e.2)
 case true=>rfl
 simp only[o6];have hlen:e.2.length<=16:=by rw[iU]at h16;simp only[o9]at h16;omega
 refine X8 (JW (p:=a1C e.2) e.2.length l9 PUnit.unit (λj hj=>?_) ?_) ?_
 rotate_left 2
 .cases (List.range e.2.length).findSome? (a1C e.2)<;>rfl
 .have e' :=dh hj;rw[H5 e',o7,F5,e',o8,ut (h2 _ (N8 hj)),o8,CV l9,o8,b1Y _ Y2,o8,b0t l9,Z5 l9];simp only[a1C,e'];cases Ez e.2[j]
  .rfl
  cases (e.2.take j).any λx=>seq e.2[j] x<;>rfl
 .rw[G7];rfl
theorem QE(a b:c9i):seq a b=seq b a:=by unfold seq;by_cases h:a=b<;>simp[h,eq_comm]
variable {ρ:Type}{ε:Type}{σ:Type}
theorem b1D(l:List α)(p:α->Bool)(n:Nat)(hn:n<=l.length)(hl:l.length<=1000000)(a b:σ)(r:ρ)(e:ε){f:σ×σ×Int->Option (Out (σ×σ×Int) ε ρ)}
  (hin:∀(i:Nat) (x:α),i<n->l[i]? =some x->f (a,b,(i:Int))=some (bif p x then .rt r else .nx (a,b,A7 .i64 (i:Int) 1))) (hend:f (a,b,(n:Int))=some (.ex e)):
  V7 f (a,b,0)=some (bif (l.take n).any p then .inr r else .inl e):=by
 have key:=xH (f:=f) (s:=(a,b,0)) (λx=>∃i:Nat,x=(a,b,(i:Int))/\i<=n/\(l.take i).any p=false) (λx=>x=e/\(l.take n).any p=false) (λk=>k=r/\(l.take n).any p=true) (λx=>n -x.2.2.toNat) ⟨0,rfl,l9,rfl⟩ Y2 ?_
 .rcases key with⟨x,h1,rfl,h2⟩|⟨k,h1,rfl,h2⟩
  .rw[h1,h2];rfl
  .rw[h1,h2];rfl
 .rintro x ⟨i,rfl,hi,hall⟩;by_cases h:i<n
  .have e' :=dh (show i<l.length by omega);have hst:(l.take (i+1)).any p=((l.take i).any p || p l[i]):=by rw[U9 l9,uM];simp
   rw[hin i _ h e'];cases hc:p l[i]with
   |true=>refine .inr (.inr ⟨_,rfl,rfl,jH.2 ⟨l[i],?_,hc⟩⟩);exact iL (i:=i) (by rw[ik h];exact e')|false=>exact .inl ⟨(a,b,((i+1:Nat):Int)),by rw[Z5 l9];rfl,⟨i+1,rfl,h,by rw[hst,hall,hc];rfl⟩,by simp;omega⟩
  .have:i=n:=l9;subst this;exact .inr (.inl ⟨_,hend,rfl,hall⟩)
variable {n:Nat}{j:Nat}{β:Type}
theorem UI{p:Nat->Option β}{c:β}(h0:(List.range j).findSome? p=none)(h1:p j=some c)(hj:j<n):(List.range n).findSome? p=some c:=by
 induction n with
 |zero=>omega|succ n ih=>
  rw[dL,nJ];by_cases h:j<n
  .rw[ih h];rfl
  .have:j=n:=l9;subst this;rw[h0];simp[h1]
theorem b0s{p:Nat->Option β}(h0:(List.range j).findSome? p=none)(h1:p j=none):(List.range (j+1)).findSome? p=none:=by rw[dL,nJ,h0];simp[h1]
def Si(kind i:Int)(r:Int×Int):Int×Int×Int×Int:=l7 (x8 r.1 0) (0,0,0,0) (r.1,kind,i,r.2)
theorem a1I{l:S9}(h:Few l){e:dB}(he:l.1[i]? =some e)(h1:e.1.length<=1000000)(h2:∀m∈e.2,m.length<=1000000):
  GV l (i:Int)=some (Si 1 i (XR l i e)):=by
 unfold GV XR;rw[F5,he,o8,oU h1,o8,b3f h,o8];cases Ez e.1
 .rfl
 simp only[E5,o6,o7];cases EE l 1 i e.1
 case true=>rfl
 cases x8 (o9 e.2) 0
 case true=>rfl
 cases h16:E9 16 (o9 e.2)
 case true=>rfl
 simp only[o6];have hlen:e.2.length<=16:=by rw[iU]at h16;simp only[o9]at h16;omega
 have key:=xH (f:=λ(x_3:F6×F6×Int)=>
   l7 (E9 x_3.2.2 (o9 e.2)) (o5 (F9 e.2 x_3.2.2) λ(x_4:c9i)=>o5 (iO x_4) λ(x_5:Bool)=>
    l7 (D9 x_5) (some (Out.rt (2,x_3.2.1.2.1,x_3.2.1.2.2.1,A7 IntKind.i64 100 x_3.2.2)))
     (o5 (V7 (λ(x_6:F6×F6×Int)=>l7 (E9 x_6.2.2 x_3.2.2) (o5 (F9 e.2 x_6.2.2) λ(x_7:c9i)=>o5 (F9 e.2 x_3.2.2) λ(x:c9i)=>
       l7 (seq x_7 x) (some (Out.rt (7,x_6.2.1.2))) (some (Out.nx (x_6.1,x_6.2.1,A7 IntKind.i64 x_6.2.2 1)))) (some (Out.ex (x_6.1,x_6.2.1))))
      (x_3.1,(x_3.2.1.1,x_3.2.1.2.1,x_3.2.1.2.2.1,A7 IntKind.i64 100 x_3.2.2),0)) λ(o:F6×F6⊕F6)=>
       X9 o (λ(y:F6×F6)=>some (Out.nx (y.1,y.2,A7 IntKind.i64 x_3.2.2 1))) λ(r:F6)=>some (Out.rt r))) (some (Out.ex x_3.1)))
  (s:=((0,0,0,0),(0,1,(i:Int),0),0))
  (λx=>∃(B:Int×Int×Int×Int) (j:Nat),x=((0,0,0,0),B,(j:Int))/\B.2.1=1/\B.2.2.1=i/\j<=e.2.length/\(List.range j).findSome? (a1C e.2)=none)
  (λ_=>(List.range e.2.length).findSome? (a1C e.2)=none) (λr=>∃c,(List.range e.2.length).findSome? (a1C e.2)=some c/\r=(c.1,1,(i:Int),c.2)/\c.1≠0)
  (λx=>e.2.length -x.2.2.toNat) ⟨_,0,rfl,rfl,rfl,l9,rfl⟩ Y2 ?_
 .rcases key with⟨x,k1,k2⟩|⟨r,k1,c,k2,k3,k4⟩
  .refine(lJ k1 _).trans ?_;rw[k2];rfl
  .refine(lJ k1 _).trans ?_;rw[k2,k3];simp only[uh,Si];rw[J6 k4];rfl
 .rintro x ⟨B,j,rfl,b1,b2,hj,hn⟩;by_cases hl:j<e.2.length
  .have e' :=dh hl;simp only[H5 e',o7,F5,e',o8,oU (h2 _ (N8 hl)),b0t (show j<=1000000 by omega)];cases hid:Ez e.2[j]
   .refine .inr (.inr ⟨_,rfl,(2,((100+j:Nat):Int)),UI hn (by simp only[a1C,e',hid];rfl) hl,?_,(by show(2:Int)≠0;decide)⟩);rw[b1,b2]
   .simp only[E5,o6];rw[b1D e.2 (λx=>seq e.2[j] x) j l9 l9 (0,0,0,0) (B.1,B.2.1,B.2.2.1,((100+j:Nat):Int)) (7,B.2.1,B.2.2.1,((100+j:Nat):Int)) ((0,0,0,0),(B.1,B.2.1,B.2.2.1,((100+j:Nat):Int)))
     (λk x hk hx=>by simp only[V5 (show(k:Int)<(j:Int) by omega),o7,F5,hx,o8,e'];rw[QE];cases seq e.2[j] x<;>rfl)
     (by simp only[N9 (show(j:Int)<=(j:Int) by omega)];rfl)]
    cases hd:(e.2.take j).any λx=>seq e.2[j] x
    .refine .inl ⟨((0,0,0,0),(B.1,B.2.1,B.2.2.1,((100+j:Nat):Int)),((j+1:Nat):Int)),by rw[Z5 l9];rfl,⟨_,j+1,rfl,b1,b2,hl,b0s hn (by simp only[a1C,e',hid,hd];rfl)⟩,by simp;omega⟩
    .refine .inr (.inr ⟨_,rfl,(7,((100+j:Nat):Int)),UI hn (by simp only[a1C,e',hid,hd];rfl) hl,?_,(by show(7:Int)≠0;decide)⟩);rw[b1,b2]
  .have:j=e.2.length:=l9;subst this;exact .inr (.inl ⟨_,by simp only[G7];rfl,hn⟩)
def au(n:Nat)(p:Nat->Option ρ):Option ρ:=(List.range n).findSome? p
theorem rZ{p:Nat->Option ρ}(n:Nat)(hn:n<=1000000)(a:σ)(e:ε){f:σ×Int->Option (Out (σ×Int) ε ρ)}
  (h1:∀i,i<n->f (a,(i:Int))=some (match p i with|some r=> .rt r|none=> .nx (a,A7 .i64 (i:Int) 1))) (h2:f (a,(n:Int))=some (.ex e)):
  V7 f (a,0)=some (match au n p with|some r=> .inr r|none=> .inl e):=by
 have key:=xH (f:=f) (s:=(a,0)) (λx=>∃i:Nat,x=(a,(i:Int))/\i<=n/\au i p=none) (λx=>x=e/\au n p=none) (λr=>au n p=some r) (λx=>n -x.2.toNat) ⟨0,rfl,l9,rfl⟩ Y2 ?_
 .rcases key with⟨x,k1,rfl,k2⟩|⟨r,k1,k2⟩
  .rw[k1,k2]
  .rw[k1,k2]
 .rintro x ⟨i,rfl,hi,hnone⟩;by_cases h:i<n
  .rw[h1 i h];cases hp:p i with
   |some r=>exact .inr (.inr ⟨_,rfl,UI hnone hp h⟩)|none=>exact .inl ⟨(a,((i+1:Nat):Int)),by rw[Z5 l9],⟨i+1,rfl,h,b0s hnone hp⟩,by simp;omega⟩
  .have:i=n:=l9;subst this;exact .inr (.inl ⟨_,h2,rfl,hnone⟩)
def TE(kind i:Int)(r:Int×Int):Option (Int×Int×Int×Int):=l7 (x8 r.1 0) none (some (r.1,kind,i,r.2))
def PK(l:S9)(i:Nat):Option (Int×Int×Int×Int):=match l.1[i]? with|some e=>TE 1 i (XR l i e)|none=>none
def IR(l:S9):Int×Int×Int×Int:=l7 (E9 8 (o9 l.1)) (4,1,8,0) (match au l.1.length (PK l)with|some r=>r|none=>(0,0,0,0))
def a9O(l:S9):Prop:=∀e∈l.1,e.1.length<=1000000/\∀m∈e.2,m.length<=1000000
theorem a1v{l:S9}(h:Few l)(hE:a9O l):DJ l=some (IR l):=by
 unfold DJ IR;cases E9 8 (o9 l.1)
 case true=>rfl
 simp only[o6];refine X8 (rZ (p:=PK l) l.1.length (by have:=h.1;omega) _ (0,0,0,0) (λi hi=>?_) ?_) ?_
 rotate_left 2
 .cases au l.1.length (PK l)<;>rfl
 .have e:=dh hi;have hm:=hE _ (N8 hi);simp only[H5 e,o7,F5,e,o8,a3w h (show i<=l.1.length by omega) _ hm.1 hm.2,PK,TE];cases x8 (XR l i l.1[i]).1 0<;>rfl
 .rw[G7];rfl
theorem fV{p:Nat->Option ρ}{r:ρ}(h:au n p=some r):∃i,i<n/\p i=some r:=by unfold au at h;obtain⟨i,hi,hp⟩:=List.exists_of_findSome?_eq_some h;exact⟨i,X6.1 hi,hp⟩
theorem b7T(t:bn)(en:List dB):(Pm t en).1=-1\/0<=(Pm t en).1:=by
 unfold Pm;cases E9 64 (o9 t.2.2.2)
 case true=>right;simp only[o7];decide
 cases vty t.2.1 en
 .left;rfl
 cases vty t.2.2.1 en
 .left;rfl
 right;simp only[o7,o6];cases hf:(List.range t.2.2.2.length).findSome? (VK t en)with
 |none=>exact aX _|some r=>
  obtain⟨i,hi,hp⟩:=fV (p:=VK t en) hf;unfold VK at hp;split at hp
  .rename_i x hx;cases hw:OH x (bnd t.2.1 en) (bnd t.2.2.1 en)<;>rw[hw]at hp
   .cases ha:(t.2.2.2.take i).any λy=>AC y x<;>rw[ha]at hp
    .cases hp
    .cases hp;show(0:Int)<=(i:Int);omega
   .cases hp;show(0:Int)<=(i:Int);omega
  .cases hp
def XF(l:S9)(i:Nat)(t:bn):Int×Int:=
 l7 (Ez t.1) (l7 (EE l 2 i t.1) (7,0) (l7 (x8 (Pm t l.1).2 0) (0,0) ((Pm t l.1).2,l7 (N7 0 (Pm t l.1).1) (A7 .i64 100 (Pm t l.1).1) 0))) (2,0)
def JC(l:S9)(i:Nat):Option (Int×Int×Int×Int):=match l.2.1[i]? with|some t=>TE 2 i (XF l i t)|none=>none
def FX(l:S9):Int×Int×Int×Int:=l7 (E9 8 (o9 l.2.1)) (4,2,8,0) (match au l.2.1.length (JC l)with|some r=>r|none=>(0,0,0,0))
def a5e(l:S9):Prop:=∀t∈l.2.1,t.1.length<=1000000
theorem a0y{l:S9}(h:Few l){t:bn}(he:l.2.1[i]? =some t)(h1:t.1.length<=1000000):Fq l (i:Int)=some (Si 2 i (XF l i t)):=by
 unfold Fq XF;rw[F5,he,o8,oU h1,o8,b3g h,o8,b2X,o8];cases Ez t.1
 .rfl
 cases EE l 2 i t.1
 case true=>rfl
 simp only[E5,o6,o7];cases hz:x8 (Pm t l.1).2 0
 case true=>rfl
 simp only[o6,Si,hz];cases N7 0 (Pm t l.1).1<;>rfl
theorem ZU{l:S9}(h:Few l)(hT:a5e l):BF l=some (FX l):=by
 unfold BF FX;cases E9 8 (o9 l.2.1)
 case true=>rfl
 simp only[o6];refine X8 (rZ (p:=JC l) l.2.1.length (by have:=h.2.1;omega) _ (0,0,0,0) (λi hi=>?_) ?_) ?_
 rotate_left 2
 .cases au l.2.1.length (JC l)<;>rfl
 .have e:=dh hi;have hm:=hT _ (N8 hi);simp only[H5 e,o7,F5,e,o8,b7U,ut hm,TG _ (show l.1.length<=1000000 by have:=h.1;omega),CV (show i<=l.2.1.length by omega),
   Yb _ (show(l.2.1.take i).length<=1000000 by have:=h.2.1;simp;omega),JC,XF,EE]
  cases Ez l.2.1[i].1
  .rfl
  cases l.1.any λx=>seq x.1 l.2.1[i].1
  case true=>rfl
  cases (l.2.1.take i).any λx=>seq x.1 l.2.1[i].1
  case true=>rfl
  simp only[E5,o6,o7,o8,Bool.or_false];cases hz:x8 (Pm l.2.1[i] l.1).2 0
  case true=>rfl
  simp only[aV,o7,o6,TE,hz];rcases b7T l.2.1[i] l.1 with hr|hr
  .rw[J7 hr,ax (show(Pm l.2.1[i] l.1).1<0 by omega)];simp only[E5,o6,o8,hz,aV,o7]
  .rw[J6 (show(Pm l.2.1[i] l.1).1≠-1 by omega),Z9 hr];simp only[aV,o7,o8,hz]
 .rw[G7];rfl
theorem b4x(l:List α)(g:α->β)(hl:l.length<=1000000){f:List β×Int->Option ((List β×Int)⊕ε)}{F:List β->ε}
  (hin:∀(i:Nat) (a:α) (acc:List β),l[i]? =some a->acc.length=i->f (acc,(i:Int))=some (.inl (acc++[g a],A7 .i64 (i:Int) 1))) (hend:∀acc,f (acc,(l.length:Int))=some (.inr (F acc))):
  ay f ([],0)=some (F (l.map g)):=by
 obtain⟨e,h1,h2⟩:=iM (f:=f) (s:=([],0)) (λx=>∃i:Nat,x=((l.take i).map g,(i:Int))/\i<=l.length) (λe=>e=F (l.map g)) (λx=>l.length -x.2.toNat) ⟨0,rfl,l9⟩ Y2 (by
  rintro x ⟨i,rfl,hi⟩;by_cases h:i<l.length
  .have e:=dh h;refine .inl ⟨((l.take (i+1)).map g,((i+1:Nat):Int)),?_,⟨i+1,rfl,h⟩,by simp;omega⟩;rw[hin i _ _ e Y2,Z5 l9,U9 h,gz];rfl
  .have:i=l.length:=l9;subst this;refine .inr ⟨_,hend _,?_⟩;rw[bz])
 rw[h1,h2]
theorem KN{l:List bH}(h:l.length<=1000000):wU l=some (l.map (·.2)):=by
 unfold wU;rw[bV];refine b4x (F:=id) l (λx=>x.2) h (λi a acc ha hacc=>?_) (λacc=>?_)
 .have hi:=(V6.1 ha).1;simp only[H5 ha,o7,F5,ha,o8];rw[Ny (by simp[hacc];omega)];rfl
 .simp only[G7];rfl
def Un(l:S9):Prop:=∀s∈l.2.2,s.1.length<=1000000/\s.2.2.1.length<=1000/\s.2.2.2.1.length<=1000/\s.2.2.2.2.length<=1000
def Dn(l:S9)(s:A8):List dB×List bn×c9k×c9k×c9k×Bool:=
 match(if 0<=s.2.1 then l.2.2[s.2.1.toNat]? else none)with
 |some k=>(l.1,l.2.1,s.2.2.1.map (·.2),s.2.2.2.1.map (·.2),k.2.2.2.1.map (·.2),true)|none=>(l.1,l.2.1,s.2.2.1.map (·.2),s.2.2.2.1.map (·.2),[],false)
theorem JB{l:S9}(h:Un l){s:A8}(hs:l.2.2[i]? =some s):ru l (i:Int)=some (Dn l s):=by
 have hm:=h s (iL hs);unfold ru Dn;rw[F5,hs,o8,KN l9,o8,KN l9,o8];by_cases h0:0<=s.2.1
 .rw[Z9 h0,if_pos h0,o7];by_cases h1:s.2.1<o9 l.2.2
  .obtain⟨k,hk,hkm⟩:=ng h0 h1;have hk' :l.2.2[s.2.1.toNat]? =some k:=(cO hk).2.2.2;rw[V5 h1,o7,hk,o8,KN (by have:=h k hkm;omega),o8,hk']
  .have h1' :o9 l.2.2<=s.2.1:=jb.1 h1;rw[N9 h1',o6,jg (by simp only[o9]at h1';exact Int.le_toNat h0 |>.2 h1')]
 .have h0' :s.2.1<(0:Int):=lQ.1 h0;rw[ax h0',if_neg h0];rfl
theorem a1M{l:S9}(h:Un l){s:A8}(hs:l.2.2[i]? =some s):GU l (i:Int)=some (Dn l s):=by have hi:=(V6.1 hs).1;rw[←JB h hs];unfold GU ru;rw[N9 l9,ax (by simp only[o9];omega)];rfl
abbrev SI(l:c9h):Prop:=l.Pairwise (·< ·)
theorem a9o:∀{a b:c9h},SI a->SI b->(∀x,x∈a↔x∈b)->a=b
 |[],[],_,_,_=>rfl|[],y::b,_,_,h=>absurd ((h y).2 x9) x9|x::a,[],_,_,h=>absurd ((h x).1 x9) x9|x::a,y::b,ha,hb,h=>by
  have ha' :=Z4.1 ha;have hb' :=Z4.1 hb;have hxy:x=y:=by
   rcases D5.1 ((h x).1 x9)with h1|h1
   .exact h1
   .rcases D5.1 ((h y).2 x9)with h2|h2
    .exact h2.symm
    .have:=hb'.1 _ h1;have:=ha'.1 _ h2;omega
  subst hxy;congr 1;refine a9o ha'.2 hb'.2 λz=>⟨λhz=>?_,λhz=>?_⟩
  .rcases D5.1 ((h z).1 (by simp[hz]))with h1|h1
   .have:=ha'.1 _ hz;omega
   .exact h1
  .rcases D5.1 ((h z).2 (by simp[hz]))with h1|h1
   .have:=hb'.1 _ hz;omega
   .exact h1
def ins(n:Int):c9h->c9h
 |[]=>[n]|a::l=>if n<=a then(if n<a then n::a::l else a::l)else a::ins n l
theorem NC(n x:Int):∀l,x∈ins n l↔x=n\/x∈l
 |[]=>by simp[ins]|a::l=>by
  unfold ins;by_cases h:n<=a
  .rw[if_pos h];by_cases h2:n<a
   .rw[if_pos h2];simp
   .rw[if_neg h2];have:n=a:=l9;subst this;simp
  .rw[if_neg h,D5,NC n x l,D5];constructor
   .rintro(h|h|h)<;>simp[h]
   .rintro(h|h|h)<;>simp[h]
theorem b7a(n:Int):∀{l},SI l->SI (ins n l)
 |[],_=>List.pairwise_singleton _ _|a::l,h=>by
  have h' :=Z4.1 h;unfold ins;by_cases h1:n<=a
  .rw[if_pos h1];by_cases h2:n<a
   .rw[if_pos h2];refine Z4.2 ⟨λx hx=>?_,h⟩;rcases D5.1 hx with rfl|hx
    .exact h2
    .have:=h'.1 x hx;omega
   .rw[if_neg h2];exact h
  .rw[if_neg h1];refine Z4.2 ⟨λx hx=>?_,b7a n h'.2⟩;rcases(NC n x l).1 hx with rfl|hx
   .omega
   .exact h'.1 x hx
def Gi(ns:c9h)(l:c9h):c9h:=ns.foldl (λacc n=>ins n acc) l
theorem UY(x:Int):∀ns l,x∈Gi ns l↔x∈ns\/x∈l
 |[],l=>by simp[Gi]|n::ns,l=>by
  show x∈Gi ns (ins n l)↔_;rw[UY x ns,NC,D5];constructor
  .rintro(h|h|h)<;>simp[h]
  .rintro((h|h)|h)<;>simp[h]
theorem Zq:∀ns {l},SI l->SI (Gi ns l)
 |[],_,h=>h|n::ns,_,h=>Zq ns (b7a n h)
theorem JU(a b l:c9h):Gi (a++b) l=Gi b (Gi a l):=rO ..
def Ov(l:c9h):c9h:=Gi l []
theorem Bd(x:Int)(l:c9h):x∈Ov l↔x∈l:=by unfold Ov;rw[UY];simp
theorem a4K(l:c9h):SI (Ov l):=Zq l List.Pairwise.nil
theorem xG(n:Int):∀l,(ins n l).length<=l.length+1
 |[]=>by simp[ins]|a::l=>by
  unfold ins;by_cases h1:n<=a
  .rw[if_pos h1];by_cases h2:n<a
   .rw[if_pos h2];simp
   .rw[if_neg h2];simp
  .rw[if_neg h1];have:=xG n l;simp only[G8];omega
theorem CU:∀ns l,(Gi ns l).length<=l.length+ns.length
 |[],l=>by simp[Gi]|n::ns,l=>by have h1:=CU ns (ins n l);have h2:=xG n l;show(Gi ns (ins n l)).length<=_;simp only[G8];omega
theorem JV(l:c9h):(Ov l).length<=l.length:=by have:=CU l [];unfold Ov;simpa using this
theorem a0X(n:Nat)(h:SI l)(h2:∀x∈l,0<=x/\x<n):l.length<=n:=by
 have key:∀(l:c9h) (lo:Int),SI l->(∀x∈l,lo<=x/\x<n)->lo<=n->(l.length:Int)<=n -lo:=by
  intro l;induction l with
  |nil=>intro lo _ _ hlo;simp;omega|cons a l ih=>intro lo hs hb hlo;have h' :=Z4.1 hs;have ha:=hb a x9;have:=ih (a+1) h'.2 (λx hx=>⟨by have:=h'.1 x hx;omega,(hb x (by simp[hx])).2⟩) l9;simp only[G8];omega
 have:=key l 0 h (λx hx=>h2 x hx) l9;omega
theorem b_(x:Int):∀(l:c9h) (p:Int),(p::l).Pairwise (·<=·)->SI (p::ddp p l)/\(x∈p::ddp p l↔x∈p::l)
 |[],p,_=>⟨List.pairwise_singleton _ _,Iff.rfl⟩|a::l,p,h=>by
  have h1:=Z4.1 h;obtain⟨i1,i2⟩:=b_ x l a h1.2;have h2:=Z4.1 h1.2;have hpa:=h1.1 a x9;unfold ddp;cases hq:x8 a p
  .rw[yD]at hq;simp only[cond_false];refine⟨Z4.2 ⟨λy hy=>?_,i1⟩,?_⟩
   .rcases D5.1 hy with rfl|hy
    .omega
    .have:=(Z4.1 i1).1 y hy;omega
   .rw[D5,i2,D5 (a:=x) (b:=p)]
  .rw[O9]at hq;subst hq;simp only[cond_true];refine⟨i1,?_⟩;rw[i2];simp
theorem b4f(l:c9h):dd (LY l)=Ov l:=by
 have hs:=Ig l;have hp:=IY l;refine a9o ?_ (a4K l) λx=>?_
 .cases he:LY l with
  |nil=>exact List.Pairwise.nil|cons a r=>rw[he]at hs;exact(b_ a r a hs).1
 .rw[Bd,←hp.mem_iff];cases he:LY l with
  |nil=>exact Iff.rfl|cons a r=>rw[he]at hs;exact(b_ x r a hs).2
theorem b2d(l:c9h):(LY l).length=l.length:=(IY l).length_eq
theorem b9J(h:l.length<=1000000):o5 (IL l) (λx=>uB x)=some (Ov l):=by unfold IL uB;rw[show Nat.blt l.length 4611686018427387904=true from by simp[Nat.blt];omega];simp only[cond_true,o8];rw[show Nat.blt (LY l).length 4611686018427387904=true from by rw[b2d];simp[Nat.blt];omega];rw[cond_true,b4f]
def hg(l:c9h)(i:Nat):Int:=l.getD i 0
def swp(l:c9h)(i j:Nat):c9h:=(l.set i (hg l j)).set j (hg l i)
theorem Ag(h:i<l.length):l[i]? =some (hg l i):=by unfold hg;rw[vK,dh h];rfl
theorem OA(l:c9h)(i j:Nat):(swp l i j).length=l.length:=by simp[swp]
theorem a3I(hi:i<l.length)(hj:j<l.length)(k:Nat):hg (swp l i j) k=if k=j then hg l i else if k=i then hg l j else hg l k:=by
 unfold hg swp;simp only[vK,Y3,mP];by_cases h1:k=j
 .subst h1;simp[hj,hg,vK]
 .rw[if_neg (λh=>h1 h.symm),if_neg h1];by_cases h2:k=i
  .subst h2;simp[hi,hg,vK]
  .rw[if_neg (λh=>h2 h.symm),if_neg h2]
theorem QG(hi:i<l.length)(hj:j<l.length):(swp l i j).Perm l:=by
 have e1:hg l i=l[i]:=by have:=Ag hi;rw[dh hi]at this;exact(I8 this).symm
 have e2:hg l j=l[j]:=by have:=Ag hj;rw[dh hj]at this;exact(I8 this).symm
 unfold swp;rw[e1,e2];exact List.set_set_perm hi hj
def Pn(l:c9h)(n:Nat):Prop:=∀k,0<k->k<n->hg l ((k -1) / 2)<=hg l k
def Wh(l:c9h)(j:Nat):Prop:=(∀k,0<k->k<l.length->k≠j->hg l ((k -1) / 2)<=hg l k)/\(0<j->∀k,0<k->k<l.length->(k -1) / 2=j->hg l ((j -1) / 2)<=hg l k)
def Lh(l:c9h)(n i:Nat):Prop:=(∀k,0<k->k<n->(k -1) / 2≠i->hg l ((k -1) / 2)<=hg l k)/\(0<i->∀k,0<k->k<n->(k -1) / 2=i->hg l ((i -1) / 2)<=hg l k)
theorem a5R(h:Wh l j)(h0:0<j)(hj:j<l.length)(hlt:hg l j<hg l ((j -1) / 2)):Wh (swp l ((j -1) / 2) j) ((j -1) / 2):=by
 have hi:(j -1) / 2<l.length:=l9;have hij:(j -1) / 2<j:=l9;generalize hp:(j -1) / 2=i at*;have G:=a3I hi hj;refine⟨λk k0 k1 k2=>?_,λi0 k k0 k1 k2=>?_⟩
 .rw[OA]at k1;rw[G k,G];by_cases a:k=j
  .subst a;rw[if_pos rfl,hp,if_neg l9,if_pos rfl];omega
  rw[if_neg a,if_neg k2];by_cases b:(k -1) / 2=j
  .rw[if_pos b];have:=h.2 h0 k k0 k1 b;rw[hp]at this;exact this
  rw[if_neg b];by_cases c:(k -1) / 2=i
  .rw[if_pos c];have:=h.1 k k0 k1 a;rw[c]at this;omega
  rw[if_neg c];exact h.1 k k0 k1 a
 .rw[OA]at k1;rw[G,G,if_neg l9,if_neg l9];have e1:=h.1 i i0 hi l9;by_cases a:k=j
  .rw[if_pos a];exact e1
  .rw[if_neg a,if_neg l9];have:=h.1 k k0 k1 a;rw[k2]at this;omega
theorem B_(h:Wh l j)(he:j=0\/hg l ((j -1) / 2)<=hg l j):Pn l l.length:=λk k0 k1=>by
 by_cases a:k=j
 .subst a;rcases he with he|he
  .omega
  .exact he
 .exact h.1 k k0 k1 a
theorem KP(h:Lh l n i)(hn:n<=l.length)(hj:(j -1) / 2=i)(hj0:0<j)(hjn:j<n)(hmin:∀k,0<k->k<n->(k -1) / 2=i->hg l j<=hg l k)(hlt:hg l j<hg l i):Lh (swp l i j) n j:=by
 have G:=a3I (l:=l) (i:=i) (j:=j) l9 l9;refine⟨λk k0 k1 k2=>?_,λj0 k k0 k1 k2=>?_⟩
 .rw[G k,G,if_neg k2];by_cases a:k=j
  .rw[if_pos a,if_pos l9];omega
  rw[if_neg a];by_cases b:k=i
  .rw[if_pos b,if_neg l9];rw[b];exact h.2 l9 j hj0 hjn hj
  rw[if_neg b];by_cases c:(k -1) / 2=i
  .rw[if_pos c];exact hmin k k0 k1 c
  .rw[if_neg c];exact h.1 k k0 k1 c
 .rw[G,G,if_neg l9,if_pos hj,if_neg l9,if_neg l9];have:=h.1 k k0 k1 l9;rw[k2]at this;exact this
theorem Ie(h:Lh l n i)(he:∀k,0<k->k<n->(k -1) / 2=i->hg l i<=hg l k):Pn l n:=λk k0 k1=>by
 by_cases a:(k -1) / 2=i
 .rw[a];exact he k k0 k1 a
 .exact h.1 k k0 k1 a
theorem b4y(h:Pn l n):∀k,k<n->hg l 0<=hg l k:=by
 intro k;induction k using Nat.strongRecOn with
 |ind k ih=>
  intro hk;by_cases h0:k=0
  .subst h0;exact aX _
  .have h1:=h k l9 hk;have h2:=ih ((k -1) / 2) l9 l9;omega
theorem a8z(h:Pn l l.length)(hn:n+1=l.length):Lh (swp l 0 n) n 0:=by have G:=a3I (l:=l) (i:=0) (j:=n) l9 l9;refine⟨λk k0 k1 k2=>?_,λh0=>by omega⟩;rw[G k,G,if_neg l9,if_neg k2,if_neg l9,if_neg l9];exact h k k0 l9
theorem VS{l:List α}{a:α}(h:(l.take n)[i]? =some a):i<n/\l[i]? =some a:=by
 rw[Y9]at h;split at h
 .exact⟨by assumption,h⟩
 .cases h
theorem NP{l:List bH}(hl:l.length<=1000000)(n:Nat)(nm:c9i):zH l (n:Int) nm=some ((l.take n).any λx=>seq x.1 nm):=by
 unfold zH;refine X8 (vX (l.take n) (λx=>seq x.1 nm) true PUnit.unit Y2 (λi a ha=>?_) ?_) ?_
 rotate_left 2
 .cases (l.take n).any λx=>seq x.1 nm<;>rfl
 .obtain⟨h1,h2⟩:=VS ha;rw[V5 (show(i:Int)<n by omega),H5 h2,F5,h2];simp only[o7,o8];cases seq a.1 nm<;>rfl
 .by_cases h:n<l.length
  .have e:(l.take n).length=n:=by simp;omega
   rw[e,N9 l9];rfl
  .have e:(l.take n).length=l.length:=by simp;omega
   rw[e,G7];cases E9 (l.length:Int) (n:Int)<;>rfl
def PN(en:List dB)(f:bH)(a b:List bH):Int:=
 l7 (Ez f.1) (l7 (a.any λx=>seq x.1 f.1) 7 (l7 (b.any λx=>seq x.1 f.1) 7 (l7 (vty f.2 en) 0 8))) 2
theorem SH{l:S9}{f:bH}{a b:List bH}(h:f.1.length<=1000000)(ha:a.length<=1000000)(hb:b.length<=1000000):zl l f a b=some (PN l.1 f a b):=by
 unfold zl PN;rw[ut h,o8,Ya _ ha,o8,Ya _ hb,o8,AB,o8];cases Ez f.1
 .rfl
 cases a.any λx=>seq x.1 f.1
 case true=>rfl
 cases b.any λx=>seq x.1 f.1
 case true=>rfl
 cases vty f.2 l.1<;>rfl
def YS(c e:Int):c9p:=l7 (x8 c 0) none (some (c,e))
def inP(l:S9)(s:A8)(i:Nat):c9p:=match s.2.2.1[i]? with|some f=>YS (PN l.1 f (s.2.2.1.take i) []) (100+i:Nat)|none=>none
def a5w(l:S9)(s:A8)(i:Nat):c9p:=match s.2.2.2.1[i]? with|some f=>YS (PN l.1 f s.2.2.1 (s.2.2.2.1.take i)) (200+i:Nat)|none=>none
def a5a(s:A8):Prop:=(∀f∈s.2.2.1,f.1.length<=1000000)/\(∀f∈s.2.2.2.1,f.1.length<=1000000)
theorem Yc{c i:Nat}(hc:c<=1000)(h:i<=1000000):A7 .i64 (c:Int) (i:Int)=((c+i:Nat):Int):=by rw[X7 U0];omega
def YN(i:Int)(r:Int×Int):Int×Int×Int×Int:=(r.1,3,i,r.2)
theorem JS{ρ ρ' :Type}(g:ρ->ρ')(n:Nat)(p:Nat->Option ρ):au n (λi=>(p i).map g)=(au n p).map g:=by
 unfold au;induction n with
 |zero=>rfl|succ n ih=>rw[dL,nJ,nJ,ih];cases (List.range n).findSome? p<;>simp
def Ib(l:S9)(s:A8):c9p:=match au s.2.2.1.length (inP l s)with|some r=>some r|none=>au s.2.2.2.1.length (a5w l s)
theorem a0u{l:S9}{s:A8}(hs:l.2.2[i]? =some s)(h1:s.2.2.1.length<=1000)(h2:s.2.2.2.1.length<=1000)(hf:a5a s):
  Fh l (i:Int)=some (match Ib l s with|some r=>YN i r|none=>(0,0,0,0)):=by
 unfold Fh Ib;rw[F5,hs,o8];refine X8 (rZ (p:=λk=>(inP l s k).map (YN i)) s.2.2.1.length l9 _ (0,0,0,0) (λk hk=>?_) ?_) ?_
 rotate_left 2
 .rw[JS];cases au s.2.2.1.length (inP l s)
  case some r=>rfl
  simp only[uP,L6];refine X8 (rZ (p:=λk=>(a5w l s k).map (YN i)) s.2.2.2.1.length l9 _ (0,0,0,0) (λk hk=>?_) ?_) ?_
  rotate_left 2
  .rw[JS];cases au s.2.2.2.1.length (a5w l s)<;>rfl
  .have e:=dh hk;have hm:=hf.2 _ (N8 hk);simp only[H5 e,o7,F5,e,o8,oU hm,show o9 s.2.2.1=((s.2.2.1.length:Nat):Int)from rfl,NP (show s.2.2.1.length<=1000000 by omega),NP (show s.2.2.2.1.length<=1000000 by omega),dA,a5w,PN,YS,bz];rw[show(200:Int)=((200:Nat):Int)from rfl,Yc l9 l9];cases Ez s.2.2.2.1[k].1
   .rfl
   cases s.2.2.1.any λx=>seq x.1 s.2.2.2.1[k].1
   case true=>rfl
   cases (s.2.2.2.1.take k).any λx=>seq x.1 s.2.2.2.1[k].1
   case true=>rfl
   cases vty s.2.2.2.1[k].2 l.1<;>rfl
  .simp only[G7];rfl
 .have e:=dh hk;have hm:=hf.1 _ (N8 hk);simp only[H5 e,o7,F5,e,o8,oU hm,NP (show s.2.2.1.length<=1000000 by omega),dA,inP,PN,YS];rw[show(100:Int)=((100:Nat):Int)from rfl,Yc l9 l9];cases Ez s.2.2.1[k].1
  .rfl
  cases (s.2.2.1.take k).any λx=>seq x.1 s.2.2.1[k].1
  case true=>rfl
  cases vty s.2.2.1[k].2 l.1<;>rfl
 .simp only[G7];rfl
def qY(op:Int):Int:=(kC op).getD 0
variable {op:Int}
theorem c1B(h:1<=op/\op<=39):∃k:Fin 40,op=(k.val:Int):=⟨⟨op.toNat,l9⟩,by simp;omega⟩
theorem c3X:∀k:Fin 40,1<=k.val->(qN (k.val:Int)=kC (k.val:Int))/\(kC (k.val:Int)=some 0\/kC (k.val:Int)=some 1\/kC (k.val:Int)=some 2\/kC (k.val:Int)=some 3):=by decide+kernel
theorem a3K(h:¬(1<=op/\op<=39))(k:Int)(h1:1<=k)(h2:k<=39):x8 op k=false:=J6 l9
theorem a4s(h:¬(1<=op/\op<=39)):kC op=some (-1):=by
 unfold kC;by_cases h1:1<=op
 .rw[Z9 h1,o7,ax (show(9:Int)<op by omega),o6,ax (show(39:Int)<op by omega),ax (show(30:Int)<op by omega)];simp[a3K h];cases N7 35 op<;>cases N7 11 op<;>rfl
 .rw[ax (show op<1 by omega),o6,ax (show op<35 by omega),ax (show op<11 by omega)];simp[a3K h]
theorem c1g(h:¬(1<=op/\op<=39)):qN op=some (-1):=by unfold qN;simp[a3K h]
theorem Ll(op:Int):qN op=some (qY op)/\kC op=some (qY op)/\(qY op=-1\/qY op=0\/qY op=1\/qY op=2\/qY op=3):=by
 unfold qY;by_cases h:1<=op/\op<=39
 .obtain⟨k,rfl⟩:=c1B h;obtain⟨h1,h2⟩:=c3X k l9;rcases h2 with h2|h2|h2|h2<;>rw[h1,h2]<;>simp
 .rw[c1g h,a4s h];simp
theorem ZF(op:Int):qN op=some (qY op):=(Ll op).1
theorem a0z(op:Int):kC op=some (qY op):=(Ll op).2.1
inductive XT where
 |l0 (n:Int×Int)|l1 (n:Int×Int) (a:XT)|l2 (n:Int×Int) (a b:XT)|l3 (n:Int×Int) (a b c:XT)
def XT.size:XT->Nat
 | .l0 _=>1| .l1 _ a=>a.size+1| .l2 _ a b=>a.size+b.size+1| .l3 _ a b c=>a.size+b.size+c.size+1
def XT.post:XT->c9k
 | .l0 n=>[n]| .l1 n a=>a.post++[n]| .l2 n a b=>a.post++b.post++[n]| .l3 n a b c=>a.post++b.post++c.post++[n]
def XT.sts(o:Nat):XT->c9h
 | .l0 _=>[(o:Int)]| .l1 _ a=>a.sts o++[(o:Int)]| .l2 _ a b=>a.sts o++b.sts (o+a.size)++[(o:Int)]| .l3 _ a b c=>a.sts o++b.sts (o+a.size)++c.sts (o+a.size+b.size)++[(o:Int)]
theorem XT.size_pos(t:XT):0<t.size:=by cases t<;>simp[XT.size]
theorem XT.post_len(t:XT):t.post.length=t.size:=by
 induction t with
 |l0 n=>rfl|l1 n a ha=>simp[XT.post,XT.size,ha]|l2 n a b ha hb=>simp[XT.post,XT.size,ha,hb];try omega
 |l3 n a b c ha hb hc=>simp[XT.post,XT.size,ha,hb,hc];try omega
theorem XT.sts_len(t:XT):∀o,(t.sts o).length=t.size:=by
 induction t with
 |l0 n=>intro o;rfl|l1 n a ha=>intro o;simp[XT.sts,XT.size,ha]|l2 n a b ha hb=>intro o;simp[XT.sts,XT.size,ha,hb];try omega
 |l3 n a b c ha hb hc=>intro o;simp[XT.sts,XT.size,ha,hb,hc];try omega
def jS:List XT->Nat
 |[]=>0|t::r=>jS r+t.size
def OT:List XT->c9k
 |[]=>[]|t::r=>OT r++t.post
def stR:List XT->c9h
 |[]=>[]|t::r=>stR r++t.sts (jS r)
def qy:List XT->c9h
 |[]=>[]|t::r=>qy r++[(jS r:Int)]
theorem ql:∀ts,(qy ts).length=ts.length
 |[]=>rfl|t::r=>by simp[qy,ql r]
theorem Iu:∀ts,(stR ts).length=jS ts
 |[]=>rfl|t::r=>by simp[stR,jS,Iu r,XT.sts_len]
theorem RF:∀ts,(OT ts).length=jS ts
 |[]=>rfl|t::r=>by simp[OT,jS,RF r,XT.post_len]
def push(n:Int×Int)(ts:List XT):Int⊕List XT:=
 if qY n.1=0 then .inr (.l0 n::ts)
 else if qY n.1=1 then(match ts with|a::r=> .inr (.l1 n a::r)|_=> .inl 5)
 else if qY n.1=2 then(match ts with|b::a::r=> .inr (.l2 n a b::r)|_=> .inl 5)
 else if qY n.1=3 then(match ts with|c::b::a::r=> .inr (.l3 n a b c::r)|_=> .inl 5)
 else .inl 2
def yF:Nat->c9k->List XT->(Int×Int)⊕List XT
 |_,[],ts=> .inr ts
 |i,n::es,ts=>match push n ts with
  | .inl c=> .inl ((i:Int),c)| .inr ts' =>if 12<ts'.length then .inl ((i:Int),16)else yF (i+1) es ts'
def mZ(e:c9k):(Int×Int)⊕XT:=
 if 48<e.length then .inl (0,4)else if e.length=0 then .inl (0,5)else
  match yF 0 e []with
  | .inl x=> .inl x| .inr [t]=> .inr t| .inr _=> .inl ((e.length:Int),4)
theorem a2V{n:Int×Int}{ts ts' :List XT}(h:push n ts= .inr ts'):OT ts' =OT ts++[n]/\ts' ≠[]:=by
 unfold push at h;split at h
 .cases h;exact⟨rfl,x9⟩
 split at h
 .split at h
  .cases h;exact⟨by simp[OT,XT.post],x9⟩
  .cases h
 split at h
 .split at h
  .cases h;exact⟨by simp[OT,XT.post],x9⟩
  .cases h
 split at h
 .split at h
  .cases h;exact⟨by simp[OT,XT.post],x9⟩
  .cases h
 .cases h
theorem RH{n:Int×Int}{ts ts' :List XT}(h:push n ts= .inr ts'):jS ts' =jS ts+1:=by rw[←RF,←RF,(a2V h).1];simp
theorem NK:∀(es:c9k) (i:Nat) (ts ts' :List XT),yF i es ts= .inr ts' ->OT ts' =OT ts++es/\(ts≠[]\/es≠[]->ts' ≠[])
 |[],i,ts,ts',h=>by cases h;exact⟨x9,x9⟩|n::es,i,ts,ts',h=>by
  unfold yF at h;cases hp:push n ts with
  |inl c=>rw[hp]at h;cases h|inr t2=>
   rw[hp]at h;simp only at h;split at h
   .cases h
   .obtain⟨h1,h2⟩:=NK es (i+1) t2 ts' h;obtain⟨h3,h4⟩:=a2V hp;exact⟨by rw[h1,h3];simp,λ_=>h2 (.inl h4)⟩
theorem Dj{e:c9k}{t:XT}(h:mZ e= .inr t):e=t.post/\e.length<=48:=by
 unfold mZ at h;split at h
 .cases h
 split at h
 .cases h
 split at h
 .cases h
 .rename_i t' hp;cases h;have:=(NK e 0 [] [t] hp).1;exact⟨by simpa[OT]using this.symm,l9⟩
 .cases h
theorem YL(e:c9k)(he:e.length<=48)(g:List XT->σ)(fin:List XT->ε)(rt:Int×Int->ρ){f:σ->Option (Out σ ε ρ)}
  (hs:∀(i:Nat) (n:Int×Int) (ts:List XT),e[i]? =some n->i=jS ts->ts.length<=12->f (g ts)=some (match push n ts with
   | .inl c=> .rt (rt ((i:Int),c))
   | .inr ts' =>if 12<ts'.length then .rt (rt ((i:Int),16))else .nx (g ts')))
  (hend:∀ts,jS ts=e.length->f (g ts)=some (.ex (fin ts))):
  V7 f (g [])=some (match yF 0 e []with| .inl x=> .inr (rt x)| .inr ts=> .inl (fin ts)):=by
 have key:∀(es:c9k) (i:Nat) (ts:List XT) (k:Nat),e.drop i=es->i=jS ts->ts.length<=12->i<=e.length->es.length<k->
   rC f k (g ts)=some (match yF i es ts with| .inl x=> .inr (rt x)| .inr ts=> .inl (fin ts)):=by
  intro es;induction es with
  |nil=>
   intro i ts k hd hi hl hle hk;obtain⟨k,rfl⟩:∃k',k=k' +1:=⟨k -1,l9⟩;have:i=e.length:=by have:=congrArg List.length hd;simp at this;omega
   unfold rC;rw[hend ts l9];rfl
  |cons n es ih=>
   intro i ts k hd hi hl hle hk;obtain⟨k,rfl⟩:∃k',k=k' +1:=⟨k -1,l9⟩;have hn:e[i]? =some n:=by
    have:(e.drop i)[0]? =some n:=by rw[hd];rfl
    simpa using this
   have hlt:=(V6.1 hn).1;unfold rC;rw[hs i n ts hn hi hl];unfold yF;cases hp:push n ts with
   |inl c=>rfl|inr ts' =>
    simp only;by_cases h12:12<ts'.length
    .rw[if_pos h12,if_pos h12]
    .rw[if_neg h12,if_neg h12];exact ih (i+1) ts' k (by rw[←aI,hd];rfl) (by rw[RH hp,hi]) l9 l9 (by simp at hk;omega)
 exact key e 0 [] lG rfl rfl x9 l9 (by unfold lG;omega)
theorem a6v:∀(p r:List XT),∃X,qy (p++r)=qy r++X/\X.length=p.length/\(p≠[]->X.head?=some (jS r:Int))
 |[],r=>⟨[],x9,rfl,λh=>absurd rfl h⟩|a::p,r=>by
  obtain⟨X,h1,h2,h3⟩:=a6v p r;refine⟨X++[(jS (p++r):Int)],?_,by simp[h2],λ_=>?_⟩
  .show qy (p++r)++[(jS (p++r):Int)]=_;rw[h1,F8]
  .cases p with
   |nil=>simp at h2;subst h2;rfl|cons b p=>rw[List.head?_append,h3 x9];rfl
theorem Xc(p r:List XT)(k:Int)(hk:k=(p.length:Int))(h:p.length+r.length<=100)(hp:p≠[]):
  J3 .i64 (o9 (qy (p++r))) k=(r.length:Int)/\F9 (qy (p++r)) (r.length:Int)=some (jS r:Int)/\O8 (qy (p++r)) (U6 (r.length:Int))=some (jS r:Int)
  /\qp 0 (r.length:Int) (o9 (qy (p++r)))=true/\qh (qy (p++r)) (U6 0) (U6 (r.length:Int))=qy r:=by
 obtain⟨X,h1,h2,h3⟩:=a6v p r;have hl:(qy (p++r)).length=r.length+p.length:=by rw[ql];simp;omega
 have hg:(qy (p++r))[r.length]? =some (jS r:Int):=by rw[h1,H7 (by rw[ql];omega),ql,dY,←List.head?_eq_getElem?];exact h3 hp
 refine⟨?_,?_,?_,?_,?_⟩
 .simp only[o9,hl];rw[U2 U0];omega
 .rw[F5];exact hg
 .exact hg
 .simp only[qp,o9,hl,decide_eq_true_eq];omega
 .show((qy (p++r)).take r.length).drop 0=_;rw[h1,rq,aW (by rw[ql];omega),U5 (by rw[ql];omega)]
theorem Yd(ts:List XT):E9 12 (o9 (qy ts))=decide (12<ts.length):=by rw[show o9 (qy ts)=((ts.length:Nat):Int) by simp[o9,ql]];exact UM 12 ts.length
theorem jB{l:List α}(x:α)(h:l.length<=1000000):di l [x]=some (l++[x]):=Ny Y2
theorem LW(ts:List XT)(k:Nat):E9 (o9 (qy ts)) (k:Int)=decide (ts.length<k):=by rw[show o9 (qy ts)=((ts.length:Nat):Int) by simp[o9,ql]];exact UM _ _
def yX(e:c9k):c9h×Int×Int:=match mZ e with| .inl x=>([],x)| .inr t=>(t.sts 0,0,0)
theorem a2S{e:c9k}(h0:e.length≠0){K:c9h×Int×Int->c9h×Int×Int}(h48:¬48<e.length)
  {r:c9h×Int×Int} (h:∀ts,yF 0 e []= .inr ts->r=l7 (E9 1 (o9 (qy ts))) ([],o9 e,4) (stR ts,0,0)) (hi:∀x,yF 0 e []= .inl x->r=([],x)):r=yX e:=by
 unfold yX mZ;rw[if_neg h48,if_neg h0];cases hp:yF 0 e []with
 |inl x=>exact hi x hp|inr ts=>
  rw[h ts hp];have:=(NK e 0 [] ts hp).2 (.inr (by intro he;subst he;exact h0 rfl));match ts,this with
  |[t],_=>simp[qy,o9,E9,stR,jS]|a::b::ts,_=>rw[V5 (by simp[o9,ql];omega)];rfl
theorem KW(e:c9k):yh e=some (yX e):=by
 unfold yh;by_cases h48:48<e.length
 .rw[V5 (by simp[o9];omega),o7];unfold yX mZ;rw[if_pos h48]
 by_cases h0:e.length=0
 .rw[N9 (by simp[o9];omega),o6,J7 (by simp[o9,h0]),o7];unfold yX mZ;rw[if_neg h48,if_pos h0]
 rw[N9 (by simp[o9];omega),o6,J6 (by simp[o9];intro h;exact h0 (by simp[h])),o6];refine X8 (YL e l9 (λts=>(stR ts,qy ts,(jS ts:Int))) (λts=>(stR ts,qy ts)) (λx=>(([]:c9h),x)) (λi n ts hn hi hl=>?_) (λts hsz=>?_)) ?_
 rotate_left 2
 .rw[←a2S h0 h48 (K:=id) (r:=match yF 0 e []with| .inl x=>([],x)| .inr ts=>l7 (E9 1 (o9 (qy ts))) ([],o9 e,4) (stR ts,0,0)) (λts h=>by rw[h]) (λx h=>by rw[h])];cases yF 0 e []with
  |inl x=>rfl|inr ts=>simp only[o8,L6];cases E9 1 (o9 (qy ts))<;>rfl
 .subst hi;have hlt:=(V6.1 hn).1;have hst:=Iu ts;have hof:=ql ts;simp only[H5 hn,o7,F5,hn,o8,a0z];rcases(Ll n.1).2.2 with h|h|h|h|h
  .rw[show push n ts= .inl 2 by simp[push,h],h];rfl
  .rw[show push n ts= .inr (.l0 n::ts) by simp[push,h],h,N9 l9,o6,N9 (Yf _),o6,o6,jB _ l9,o8,jB _ l9,o8,Z5 l9];rw[show qy ts++[(jS ts:Int)]=qy (.l0 n::ts)from rfl,Yd];by_cases hc:12<(XT.l0 n::ts).length
   .simp only[hc,decide_true,if_true,o7]
   .simp only[hc,decide_false,if_false,o6];rfl
  .match ts with
   |[]=>rw[show push n []= .inl 5 by simp[push,h],h];rfl|a::r=>
    obtain⟨p1,p2,p3,p4,p5⟩:=Xc [a] r 1 rfl (by simp at hl ⊢;omega) x9;simp only[Y7,H9]at p1 p2 p3 p4 p5;have:=Iu (a::r);have:=ql r;simp only[G8]at hl;rw[show push n (a::r)= .inr (.l1 n a::r) by simp[push,h],h,N9 l9,o6,show(1:Int)=((1:Nat):Int)from rfl,LW,show decide ((a::r).length<1)=false by simp];simp only[Int.natCast_one]at p1 ⊢;rw[o6,V5 l9,o7,p1,p2,o8,p3,o8,p4,o7,p5,jB _ l9,o8,jB _ l9,o8,Z5 l9];rw[show qy r++[(jS r:Int)]=qy (.l1 n a::r)from rfl,Yd];by_cases hc:12<(XT.l1 n a::r).length
    .simp only[hc,decide_true,if_true,o7]
    .simp only[hc,decide_false,if_false,o6,stR,XT.sts,F8,jS,XT.size,jw]
  .match ts with
   |[]=>rw[show push n []= .inl 5 by simp[push,h],h];rfl|[a]=>rw[show push n [a]= .inl 5 by simp[push,h],h];rfl|b::a::r=>
    obtain⟨p1,p2,p3,p4,p5⟩:=Xc [b,a] r 2 rfl (by simp at hl ⊢;omega) x9;simp only[Y7,H9]at p1 p2 p3 p4 p5;have:=Iu (b::a::r);have:=ql r;simp only[G8]at hl;rw[show push n (b::a::r)= .inr (.l2 n a b::r) by simp[push,h],h,N9 l9,o6,show(2:Int)=((2:Nat):Int)from rfl,LW,show decide ((b::a::r).length<2)=false by simp];rw[o6,V5 l9,o7,show((2:Nat):Int)=2 from rfl,p1,p2,o8,p3,o8,p4,o7,p5,jB _ l9,o8,jB _ l9,o8,Z5 l9];rw[show qy r++[(jS r:Int)]=qy (.l2 n a b::r)from rfl,Yd];by_cases hc:12<(XT.l2 n a b::r).length
    .simp only[hc,decide_true,if_true,o7]
    .simp only[hc,decide_false,if_false,o6,stR,XT.sts,F8,jS,XT.size,jw]
  .match ts with
   |[]=>rw[show push n []= .inl 5 by simp[push,h],h];rfl|[a]=>rw[show push n [a]= .inl 5 by simp[push,h],h];rfl|[b,a]=>rw[show push n [b,a]= .inl 5 by simp[push,h],h];rfl|c::b::a::r=>
    obtain⟨p1,p2,p3,p4,p5⟩:=Xc [c,b,a] r 3 rfl (by simp at hl ⊢;omega) x9;simp only[Y7,H9]at p1 p2 p3 p4 p5;have:=Iu (c::b::a::r);have:=ql r;simp only[G8]at hl;rw[show push n (c::b::a::r)= .inr (.l3 n a b c::r) by simp[push,h],h,N9 l9,o6,show(3:Int)=((3:Nat):Int)from rfl,LW,show decide ((c::b::a::r).length<3)=false by simp];rw[o6,V5 l9,o7,show((3:Nat):Int)=3 from rfl,p1,p2,o8,p3,o8,p4,o7,p5,jB _ l9,o8,jB _ l9,o8,Z5 l9];rw[show qy r++[(jS r:Int)]=qy (.l3 n a b c::r)from rfl,Yd];by_cases hc:12<(XT.l3 n a b c::r).length
    .simp only[hc,decide_true,if_true,o7]
    .simp only[hc,decide_false,if_false,o6,stR,XT.sts,F8,jS,XT.size,jw]
 .simp only[hsz,G7];rfl
def pd(l:c9h)(k:Nat):c9h:=l++List.replicate k 0
theorem a4f(l:c9h)(m:Nat):F9 (pd l (m+1)) (l.length:Int)=some 0:=by rw[F5];unfold pd;rw[H7 l9,dY];rfl
theorem a4g(l:c9h)(m:Nat):O8 (pd l (m+1)) (U6 (l.length:Int))=some 0:=by have:=a4f l m;rw[F5]at this;exact this
theorem a8R(l:c9h)(m:Nat)(v:Int):bu (pd l (m+1)) (U6 (l.length:Int)) v=pd (l++[v]) m:=by show(l++List.replicate (m+1) 0).set l.length v=_;rw[ku _ _ l9,dY,lI];simp[pd]
theorem Vs(l:c9h)(m:Nat)(v w:Int):bu (pd (l++[v]) m) (U6 (l.length:Int)) w=pd (l++[w]) m:=by show(l++[v]++List.replicate m 0).set l.length w=_;rw[F8,ku _ _ l9,dY];simp[pd]
theorem Rz(l:c9h)(m:Nat)(v:Int):F9 (pd (l++[v]) m) (l.length:Int)=some v:=by rw[F5];unfold pd;rw[F8,H7 l9,dY];rfl
theorem Qh(l:c9h)(m:Nat)(v:Int):O8 (pd (l++[v]) m) (U6 (l.length:Int))=some v:=by have:=Rz l m v;rw[F5]at this;exact this
theorem VP(e:c9k):zi e=some (yX e):=by
 unfold zi;by_cases h48:48<e.length
 .rw[V5 (by simp[o9];omega),o7];unfold yX mZ;rw[if_pos h48]
 by_cases h0:e.length=0
 .rw[N9 (by simp[o9];omega),o6,J7 (by simp[o9,h0]),o7];unfold yX mZ;rw[if_neg h48,if_pos h0]
 rw[N9 (by simp[o9];omega),o6,J6 (by simp[o9];intro h;exact h0 (by simp[h])),o6];rw[show qU (o9 e) (0:Int)=some (pd (stR []) (e.length -jS [])) by simp[qU,o9,pd,stR,jS];omega,o8];refine X8 (YL e l9 (λts=>(pd (stR ts) (e.length -jS ts),qy ts,(jS ts:Int))) (λts=>(pd (stR ts) (e.length -jS ts),qy ts)) (λx=>(([]:c9h),x)) (λi n ts hn hi hl=>?_) (λts hsz=>?_)) ?_
 rotate_left 2
 .rw[←a2S h0 h48 (K:=id) (r:=match yF 0 e []with| .inl x=>([],x)| .inr ts=>l7 (E9 1 (o9 (qy ts))) ([],o9 e,4) (stR ts,0,0)) (λts h=>by rw[h]) (λx h=>by rw[h])];cases hp:yF 0 e []with
  |inl x=>rfl|inr ts=>
   have:=(NK e 0 [] ts hp).1;have hz:e.length -jS ts=0:=by have:=congrArg List.length this;rw[RF]at this;simp[OT]at this;omega
   simp only[o8,L6,hz,pd,List.replicate_zero,H8];cases E9 1 (o9 (qy ts))<;>rfl
 .subst hi;have hlt:=(V6.1 hn).1;have hst:=Iu ts;have hof:=ql ts;obtain⟨m,hm⟩:∃m,e.length -jS ts=m+1:=⟨e.length -jS ts -1,l9⟩;simp only[H5 hn,o7,F5 e,hn,o8,ZF,hm];rw[←hst];simp only[a4f,a4g,o8,a8R,Rz,Qh,Vs];rw[hst];rcases(Ll n.1).2.2 with h|h|h|h|h
  .rw[show push n ts= .inl 2 by simp[push,h],h];rfl
  .have e0:J3 .i64 (o9 (qy ts)) 0=((qy ts).length:Int):=by rw[U2 (by unfold jl o9;omega)];simp[o9]
   rw[show push n ts= .inr (.l0 n::ts) by simp[push,h],h,N9 l9,o6,N9 (Yf _),o6,o6,e0,show qp 0 ((qy ts).length:Int) (o9 (qy ts))=true by simp[qp,o9],o7,
    show qh (qy ts) (U6 0) (U6 ((qy ts).length:Int))=qy ts by simp[qh,U6],jB _ l9,o8,Z5 l9]
   rw[show qy ts++[(jS ts:Int)]=qy (.l0 n::ts)from rfl,Yd];by_cases hc:12<(XT.l0 n::ts).length
   .simp only[hc,decide_true,if_true,o7]
   .simp only[hc,decide_false,if_false,o6,jS,XT.size,stR,XT.sts,show e.length -(jS ts+1)=m by omega]
  .match ts with
   |[]=>rw[show push n []= .inl 5 by simp[push,h],h];rfl|a::r=>
    obtain⟨p1,p2,p3,p4,p5⟩:=Xc [a] r 1 rfl (by simp at hl ⊢;omega) x9;simp only[Y7,H9]at p1 p2 p3 p4 p5;have:=Iu (a::r);have:=ql r;simp only[G8]at hl;rw[show push n (a::r)= .inr (.l1 n a::r) by simp[push,h],h,N9 l9,o6,show(1:Int)=((1:Nat):Int)from rfl,LW,show decide ((a::r).length<1)=false by simp];simp only[Int.natCast_one]at p1 ⊢;rw[o6,V5 l9,o7,p1,p2,o8,p3,o8,p4,o7,p5];rw[←hst]
    try simp only[Vs,Rz,Qh,o8]
    rw[hst,jB _ l9,o8,Z5 l9];rw[show qy r++[(jS r:Int)]=qy (.l1 n a::r)from rfl,Yd];have hz:=RH (show push n (a::r)= .inr (.l1 n a::r) by simp[push,h]);by_cases hc:12<(XT.l1 n a::r).length
    .simp only[hc,decide_true,if_true,o7]
    .simp only[hc,decide_false,if_false,o6,hz,show e.length -(jS (a::r)+1)=m by omega,stR,XT.sts,F8]
  .match ts with
   |[]=>rw[show push n []= .inl 5 by simp[push,h],h];rfl|[a]=>rw[show push n [a]= .inl 5 by simp[push,h],h];rfl|b::a::r=>
    obtain⟨p1,p2,p3,p4,p5⟩:=Xc [b,a] r 2 rfl (by simp at hl ⊢;omega) x9;simp only[Y7,H9]at p1 p2 p3 p4 p5;have:=Iu (b::a::r);have:=ql r;simp only[G8]at hl;rw[show push n (b::a::r)= .inr (.l2 n a b::r) by simp[push,h],h,N9 l9,o6,show(2:Int)=((2:Nat):Int)from rfl,LW,show decide ((b::a::r).length<2)=false by simp];rw[o6,V5 l9,o7,show((2:Nat):Int)=2 from rfl,p1,p2,o8,p3,o8,p4,o7,p5];rw[←hst]
    try simp only[Vs,Rz,Qh,o8]
    rw[hst,jB _ l9,o8,Z5 l9];rw[show qy r++[(jS r:Int)]=qy (.l2 n a b::r)from rfl,Yd];have hz:=RH (show push n (b::a::r)= .inr (.l2 n a b::r) by simp[push,h]);by_cases hc:12<(XT.l2 n a b::r).length
    .simp only[hc,decide_true,if_true,o7]
    .rw[hz,show e.length -(jS (b::a::r)+1)=m by omega,show stR (.l2 n a b::r)=stR (b::a::r)++[(jS r:Int)] by simp only[stR,XT.sts,F8,jS]];simp only[hc,decide_false,if_false,o6]
  .match ts with
   |[]=>rw[show push n []= .inl 5 by simp[push,h],h];rfl|[a]=>rw[show push n [a]= .inl 5 by simp[push,h],h];rfl|[b,a]=>rw[show push n [b,a]= .inl 5 by simp[push,h],h];rfl|c::b::a::r=>
    obtain⟨p1,p2,p3,p4,p5⟩:=Xc [c,b,a] r 3 rfl (by simp at hl ⊢;omega) x9;simp only[Y7,H9]at p1 p2 p3 p4 p5;have:=Iu (c::b::a::r);have:=ql r;simp only[G8]at hl;rw[show push n (c::b::a::r)= .inr (.l3 n a b c::r) by simp[push,h],h,N9 l9,o6,show(3:Int)=((3:Nat):Int)from rfl,LW,show decide ((c::b::a::r).length<3)=false by simp];rw[o6,V5 l9,o7,show((3:Nat):Int)=3 from rfl,p1,p2,o8,p3,o8,p4,o7,p5];rw[←hst]
    try simp only[Vs,Rz,Qh,o8]
    rw[hst,jB _ l9,o8,Z5 l9];rw[show qy r++[(jS r:Int)]=qy (.l3 n a b c::r)from rfl,Yd];have hz:=RH (show push n (c::b::a::r)= .inr (.l3 n a b c::r) by simp[push,h]);by_cases hc:12<(XT.l3 n a b c::r).length
    .simp only[hc,decide_true,if_true,o7]
    .rw[hz,show e.length -(jS (c::b::a::r)+1)=m by omega,show stR (.l3 n a b c::r)=stR (c::b::a::r)++[(jS r:Int)] by simp only[stR,XT.sts,F8,jS]];simp only[hc,decide_false,if_false,o6]
 .simp only[hsz,G7];rfl
end
section
def VT(t:Int×Int):Prop:=t=(1,0)\/t=(2,0)\/t=(3,0)\/t=(4,0)\/t=(5,0)\/∃e,t=(6,e)
theorem QK{t:Int×Int}{en:List dB}(h:vty t en=true):VT t:=by
 obtain⟨k,e⟩:=t;unfold vty at h;simp only at h;cases h6:x8 k 6
 .rw[h6,o6]at h;cases h1:N7 1 k<;>rw[h1]at h
  .cases h
  cases h5:N7 k 5<;>rw[h5]at h
  .cases h
  simp only[o7,O9]at h;rw[jJ]at h1 h5;subst h;have:k=1\/k=2\/k=3\/k=4\/k=5:=l9;rcases this with rfl|rfl|rfl|rfl|rfl<;>simp[VT]
 .rw[O9]at h6;subst h6;exact .inr (.inr (.inr (.inr (.inr ⟨e,rfl⟩))))
def EN(n:Int×Int)(ops:c9k)(sg:J5):Option ((Int×Int)×Int):=
 l7 (D9 (x8 n.2 0)) (o5 (lX n.1) λu=>l7 (D9 u) (some ((0,0),2)) (dN n ops sg)) (dN n ops sg)
def xu(n:Int×Int)(ops:c9k)(sg:J5):Prop:=∃r:(Int×Int)×Int,Eb n ops sg=some r/\EN n ops sg=some r/\(r.2=0->VT r.1)
variable {k:Int}
theorem VT.lit(h:1<=k/\k<=5):VT (k,0):=by have:k=1\/k=2\/k=3\/k=4\/k=5:=l9;rcases this with rfl|rfl|rfl|rfl|rfl<;>simp[VT]
theorem Bz(a b:Int):N7 a b= !E9 b a:=by simp only[E9,N7];rw[←decide_not];congr 1;simp
theorem BM{α β:Type}(o:Option β)(f:α->Option β):o5 (o5 o λx=>some (Sum.inr x)) (λq=>X9 q f λr=>some r)=o:=by cases o<;>rfl
theorem VT.enum(e:Int):VT (6,e):=.inr (.inr (.inr (.inr (.inr ⟨e,rfl⟩))))
theorem uS{R E:Option ((Int×Int)×Int)}{c:Int}(hc:c≠0)(h1:R=some ((0,0),c))(h2:E=some ((0,0),c)):∃r:(Int×Int)×Int,R=some r/\E=some r/\(r.2=0->VT r.1):=⟨_,h1,h2,λh=>absurd h hc⟩
theorem nok{R E:Option ((Int×Int)×Int)}{t:Int×Int}(hv:VT t)(h1:R=some (t,0))(h2:E=some (t,0)):∃r:(Int×Int)×Int,R=some r/\E=some r/\(r.2=0->VT r.1):=⟨_,h1,h2,λ_=>hv⟩
def RR(a0:Int×Int)(a1:c9k)(a2:J5):Option ((Int×Int)×Int):=
 o5 (rW a0 a2) λ(x:Bool)=>l7 (D9 x) (some ((0,0),3)) (o5 (qm a0 a2) λ(x:Bool)=>l7 (D9 x) (some ((0,0),6))
  (l7 (x8 (o9 a1) 0) (o5 (bZ a0 a2) λ(x:I7×Bool)=>l7 (D9 x.2) (some ((0,0),8)) (some (x.1,0)))
  (l7 (x8 (o9 a1) 1) (o5 (F9 a1 0) λ(x:I7)=>o5 (lU a0 x a2) λ(x:I7×Bool)=>l7 (D9 x.2) (some ((0,0),8)) (some (x.1,0)))
  (l7 (x8 (o9 a1) 2) (o5 (F9 a1 0) λ(x:I7)=>o5 (F9 a1 1) λ(x_1:I7)=>o5 (uV a0.1 x x_1) λ(x:I7×Bool)=>l7 (D9 x.2) (some ((0,0),8)) (some (x.1,0)))
  (o5 (F9 a1 1) λ(x:I7)=>o5 (F9 a1 0) λ(x_1:I7)=>l7 (x8 x_1.1 1) (o5 (F9 a1 1) λ(x_2:I7)=>o5 (F9 a1 2) λ(x_3:I7)=>
   l7 (D9 (V9 (x8 x_2.1 x_3.1) (x8 x_2.2 x_3.2))) (some ((0,0),8)) (some (x,0))) (l7 (D9 false) (some ((0,0),8)) (some (x,0))))))))
theorem b3A(n:Int×Int)(ops:c9k)(sg:J5):Eb n ops sg=l7 (D9 (x8 n.2 0)) (o5 (fF n.1) λx=>l7 x (RR n ops sg) (some ((0,0),2))) (RR n ops sg):=by
 unfold Eb;cases x8 n.2 0
 .simp only[aV,o7];cases fF n.1 with
  |none=>rfl|some b=>cases b<;>rfl
 .rfl
theorem Qd{op N:Int}{ops:c9k}{sg:J5}(h1:lX op=some true)(h2:fF op=some true)
  (h:∃r:(Int×Int)×Int,RR (op,N) ops sg=some r/\dN (op,N) ops sg=some r/\(r.2=0->VT r.1)):xu (op,N) ops sg:=by
 unfold xu;rw[b3A];unfold EN;dsimp only;rw[h1,h2];cases x8 N 0<;>exact h
theorem WV{op N:Int}{ops:c9k}{sg:J5}(h1:lX op=some false)(h2:fF op=some false)
  (h:∃r:(Int×Int)×Int,RR (op,0) ops sg=some r/\dN (op,0) ops sg=some r/\(r.2=0->VT r.1)):xu (op,N) ops sg:=by
 unfold xu;rw[b3A];unfold EN;dsimp only;rw[h1,h2];cases hz:x8 N 0
 .exact uS (c:=2) G6 rfl rfl
 .rw[O9]at hz;subst hz;exact h
section
variable (N:Int) (sg:J5)
theorem b5j(hk:k=1\/k=2\/k=3\/k=4\/k=5):xu (k,N) [] sg:=by
 have hv:vty (k,0) sg.1=true:=by rcases hk with rfl|rfl|rfl|rfl|rfl<;>rfl
 have hm:lX k=some true/\fF k=some true:=by rcases hk with rfl|rfl|rfl|rfl|rfl<;>exact⟨rfl,rfl⟩
 refine Qd hm.1 hm.2 ?_;have key:dN (k,N) [] sg=mJ N k sg:=by rcases hk with rfl|rfl|rfl|rfl|rfl<;>exact BM _ _
 have key2:RR (k,N) [] sg=o5 (o5 (pM (k,0) sg.1) λ(x:I7)=>l7 (N7 x.1 N) (some (N7 N x.2)) (some false)) λ(x:Bool)=>l7 (D9 x) (some ((0,0),3)) (some ((k,0),0)):=by rcases hk with rfl|rfl|rfl|rfl|rfl<;>rfl
 rw[key,key2];unfold mJ;rw[Wq,TZ,o8,o8,pI,pI];cases N7 (bnd (k,0) sg.1).1 N
 .exact uS (c:=3) G6 rfl rfl
 cases N7 N (bnd (k,0) sg.1).2
 .exact uS (c:=3) G6 rfl rfl
 .exact nok (QK hv) rfl rfl
theorem b2p(hN:jl N):xu (6,N) [] sg:=by
 have hq:0<=N->dV .i64 N 16=N / 16:=λh=>by rw[DF (by rw[kQ h];unfold jl at*;omega),kQ h]
 refine Qd rfl rfl ?_;have hf:qm (6,N) sg=l7 (E9 (dV .i64 N 16) (o9 sg.1)) (o5 (F9 sg.1 (dV .i64 N 16)) λ(x:dB)=>some (E9 (eF N 16) (o9 x.2))) (some false):=rfl;have hl:bZ (6,N) sg=some ((6,dV .i64 N 16),vty (6,dV .i64 N 16) sg.1):=by unfold bZ;simp only[dA];rfl
 rw[show dN (6,N) [] sg=FH N sg from BM _ _];unfold RR FH;rw[hf,show rW (6,N) sg=some (N7 0 N)from rfl,hl];by_cases h0:0<=N
 .rw[N9 h0,Z9 h0,hq h0];by_cases h1:N / 16<o9 sg.1
  .obtain⟨x,hx,_⟩:=ng (show 0<=N / 16 by omega) h1;rw[V5 h1,ax h1,hx,show vty (6,N / 16) sg.1=true by unfold vty;simp only[Z9 (show 0<=N / 16 by omega),V5 h1];rfl];simp only[o8,pI];cases N7 (o9 x.2) (eF N 16)
   .exact nok (VT.enum (N / 16)) rfl rfl
   .exact uS (c:=6) G6 rfl rfl
  .have h1' :o9 sg.1<=N / 16:=l9;rw[N9 h1',Z9 h1'];exact uS (c:=6) G6 rfl rfl
 .rw[V5 (show N<0 by omega),ax (show N<0 by omega)];exact uS (c:=3) G6 rfl rfl
theorem DR(ts:c9k)(en:J5):(∃x,F9 ts N=some x/\N7 0 N=true/\E9 N (o9 ts)=true/\lL N ts en=some (l7 (vty x en.1) (x,0) ((0,0),8)))\/((N7 0 N=false\/N7 0 N=true/\E9 N (o9 ts)=false)/\lL N ts en=some ((0,0),6)):=by
 unfold lL;rw[pI N 0,Bz (o9 ts) N];cases h0:N7 0 N
 .exact .inr ⟨.inl x9,rfl⟩
 cases h1:E9 N (o9 ts)
 .exact .inr ⟨.inr x9,rfl⟩
 rw[jJ]at h0;rw[iW]at h1;obtain⟨x,hx,_⟩:=ng h0 h1;rw[hx];simp only[jY,Bool.not_false,o6,o7,o8,AB];exact .inl ⟨x,rfl,x9,x9,by cases vty x en.1<;>rfl⟩
theorem b8T:xu (7,N) [] sg:=by
 refine Qd rfl rfl ?_;rw[show dN (7,N) [] sg=lL N sg.2.2.1 sg from BM _ _];have hf:qm (7,N) sg=l7 (N7 0 N) (some (E9 N (o9 sg.2.2.1))) (some false):=rfl;unfold RR;rw[hf,show rW (7,N) sg=some true from rfl];rcases DR N sg.2.2.1 sg with⟨x,h1,h2,h3,h4⟩|⟨h1|⟨h1,h2⟩,h4⟩
 .have hl:bZ (7,N) sg=some (x,vty x sg.1):=by
   unfold bZ;dsimp only;rw[h1];simp only[dA];rfl
  rw[h2,h3,h4,hl];cases hv:vty x sg.1
  .exact uS (c:=8) G6 rfl rfl
  .exact nok (QK hv) rfl rfl
 .rw[h1,h4];exact uS (c:=6) G6 rfl rfl
 .rw[h1,h2,h4];exact uS (c:=6) G6 rfl rfl
theorem b5h:xu (8,N) [] sg:=by
 refine Qd rfl rfl ?_;rw[show dN (8,N) [] sg=lL N sg.2.2.2.1 sg from BM _ _];have hf:qm (8,N) sg=l7 (N7 0 N) (some (E9 N (o9 sg.2.2.2.1))) (some false):=rfl;unfold RR;rw[hf,show rW (8,N) sg=some true from rfl];rcases DR N sg.2.2.2.1 sg with⟨x,h1,h2,h3,h4⟩|⟨h1|⟨h1,h2⟩,h4⟩
 .have hl:bZ (8,N) sg=some (x,vty x sg.1):=by
   unfold bZ;dsimp only;rw[h1];simp only[dA];rfl
  rw[h2,h3,h4,hl];cases hv:vty x sg.1
  .exact uS (c:=8) G6 rfl rfl
  .exact nok (QK hv) rfl rfl
 .rw[h1,h4];exact uS (c:=6) G6 rfl rfl
 .rw[h1,h2,h4];exact uS (c:=6) G6 rfl rfl
theorem b2o:xu (9,N) [] sg:=WV rfl rfl (nok (VT.lit (k:=5) l9) rfl rfl)
theorem a8J:xu (35,N) [] sg:=by
 refine WV rfl rfl ?_;rw[show dN (35,0) [] sg=uy (35,0) sg from BM _ _];unfold RR uy;simp only[rW,qm,bZ,dA,o8];cases sg.2.2.2.2.2
 .exact uS (c:=6) G6 rfl rfl
 .exact nok (VT.lit (k:=2) l9) rfl rfl
theorem b5k(hk:k=36\/k=37\/k=38\/k=39):xu (k,N) [] sg:=by
 have hm:lX k=some true/\fF k=some true/\x8 k 35=false:=by rcases hk with rfl|rfl|rfl|rfl<;>exact⟨rfl,rfl,rfl⟩
 refine Qd hm.1 hm.2.1 ?_;rw[show dN (k,N) [] sg=uy (k,N) sg by rcases hk with rfl|rfl|rfl|rfl<;>exact BM _ _];have hr:RR (k,N) [] sg=o5 (l7 sg.2.2.2.2.2 (l7 (N7 0 N) (some (E9 N (o9 sg.2.2.2.2.1))) (some false)) (some false)) λ(x:Bool)=>l7 (D9 x) (some ((0,0),6))
   (o5 (bZ (k,N) sg) λ(x:I7×Bool)=>l7 (D9 x.2) (some ((0,0),8)) (some (x.1,0))):=by rcases hk with rfl|rfl|rfl|rfl<;>rfl
 rw[hr];unfold uy;rw[hm.2.2,o6];cases sg.2.2.2.2.2
 .exact uS (c:=6) G6 rfl rfl
 simp only[o7,E5,o6];rcases DR N sg.2.2.2.2.1 sg with⟨x,h1,h2,h3,h4⟩|⟨h1|⟨h1,h2⟩,h4⟩
 .rw[h2,h3,h4];have hl:bZ (k,N) sg=o5 (some (l7 (x8 k 36) (l7 (vty x sg.1) (l7 (x8 x.1 2) true (x8 x.1 3)) false) (l7 (x8 k 39) (l7 (vty x sg.1) (l7 (x8 x.1 2) true (l7 (x8 x.1 3) true (l7 (x8 x.1 4) true (x8 x.1 5)))) false) (l7 (vty x sg.1) (x8 x.1 1) false)))) λb=>some (x,b):=by
   unfold bZ;simp only[dA,sD,xK];rcases hk with rfl|rfl|rfl|rfl<;>(rw[h1];simp only[x8,Int.reduceEq,decide_true,decide_false,o7,o6,o8];cases vty x sg.1<;>cases decide (x.1=2)<;>cases decide (x.1=3)<;>cases decide (x.1=4)<;>rfl)
  rw[hl];simp only[o8,pz];cases hv:vty x sg.1
  .rcases hk with rfl|rfl|rfl|rfl<;>exact uS (c:=8) G6 rfl rfl
  .have hx:=QK hv;rcases hk with rfl|rfl|rfl|rfl<;>rcases hx with rfl|rfl|rfl|rfl|rfl|⟨e,rfl⟩ <;>
    first
    |exact nok (QK hv) rfl rfl
    |exact uS (c:=8) G6 rfl rfl
 .rw[h1,h4];exact uS (c:=6) G6 rfl rfl
 .rw[h1,h2,h4];exact uS (c:=6) G6 rfl rfl
end
end
section
variable {a:Int×Int}{k:Int}{b:Int×Int}
section
variable (N:Int) (sg:J5)
theorem b8U(hk:k=10\/k=25\/k=31\/k=32)(ha:VT a):xu (k,N) [a] sg:=by
 have hm:lX k=some false/\fF k=some false:=by rcases hk with rfl|rfl|rfl|rfl<;>exact⟨rfl,rfl⟩
 refine WV hm.1 hm.2 ?_;rcases hk with rfl|rfl|rfl|rfl<;>rcases ha with rfl|rfl|rfl|rfl|rfl|⟨e,rfl⟩ <;>
  first
  |exact nok (VT.lit (k:=1) l9) rfl rfl
  |exact nok (VT.lit (k:=2) l9) rfl rfl
  |exact nok (VT.lit (k:=3) l9) rfl rfl
  |exact nok (VT.lit (k:=4) l9) rfl rfl
  |exact uS (c:=8) G6 rfl rfl
theorem b5g(hk:k=13\/k=23\/k=24\/k=27\/k=28\/k=29\/k=30)(ha:VT a)(hb:VT b):xu (k,N) [a,b] sg:=by
 have hm:lX k=some false/\fF k=some false:=by rcases hk with rfl|rfl|rfl|rfl|rfl|rfl|rfl<;>exact⟨rfl,rfl⟩
 refine WV hm.1 hm.2 ?_;rcases hk with rfl|rfl|rfl|rfl|rfl|rfl|rfl<;>rcases ha with rfl|rfl|rfl|rfl|rfl|⟨e,rfl⟩<;>rcases hb with rfl|rfl|rfl|rfl|rfl|⟨f,rfl⟩ <;>
  first
  |exact uS (c:=8) G6 rfl rfl
  |exact nok (VT.lit (k:=1) l9) rfl rfl
  |exact nok (VT.lit (k:=2) l9) rfl rfl
  |exact nok (VT.lit (k:=3) l9) rfl rfl
  |exact nok (VT.lit (k:=4) l9) rfl rfl
  |exact nok (VT.lit (k:=5) l9) rfl rfl
theorem b2q(hk:k=14\/k=15\/k=16)(ha:VT a)(hb:VT b):xu (k,N) [a,b] sg:=by
 have hm:lX k=some true/\fF k=some true:=by rcases hk with rfl|rfl|rfl<;>exact⟨rfl,rfl⟩
 refine Qd hm.1 hm.2 ?_;have hr:RR (k,N) [a,b] sg=o5 (l7 (N7 0 N) (some (N7 N 5)) (some false)) λx=>l7 (D9 x) (some ((0,0),3)) (o5 (uV k a b) λx=>l7 (D9 x.2) (some ((0,0),8)) (some (x.1,0))):=by rcases hk with rfl|rfl|rfl<;>rfl
 have he:dN (k,N) [a,b] sg=o5 (l7 (N7 0 N) (some (N7 N 5)) (some false)) λx=>l7 (D9 x) (some ((0,0),3)) (o5 (qP k [a,b]) λx=>l7 (D9 x.2) (some ((0,0),8)) (some (x.1,0))):=by
  rcases hk with rfl|rfl|rfl <;>
   (show o5 (o5 (pW N) λx=>l7 (D9 x) (some (Sum.inr (((0:Int),(0:Int)),(3:Int)))) (some (.inl ((0:Int),(0:Int))))) _=_
    unfold pW;cases N7 0 N<;>cases N7 N 5<;>rfl)
 rw[hr,he];cases N7 0 N
 .exact uS (c:=3) G6 rfl rfl
 cases N7 N 5
 .exact uS (c:=3) G6 rfl rfl
 rcases hk with rfl|rfl|rfl<;>rcases ha with rfl|rfl|rfl|rfl|rfl|⟨e,rfl⟩<;>rcases hb with rfl|rfl|rfl|rfl|rfl|⟨f,rfl⟩ <;>
  first
  |exact uS (c:=8) G6 rfl rfl
  |exact nok (VT.lit (k:=2) l9) rfl rfl
  |exact nok (VT.lit (k:=3) l9) rfl rfl
  |exact nok (VT.lit (k:=4) l9) rfl rfl
theorem b2r(hk:k=11\/k=12\/k=17\/k=18\/k=19\/k=20\/k=21\/k=22)(ha:VT a):xu (k,N) [a,b] sg:=by
 have hm:lX k=some false/\fF k=some false:=by rcases hk with rfl|rfl|rfl|rfl|rfl|rfl|rfl|rfl<;>exact⟨rfl,rfl⟩
 refine WV hm.1 hm.2 ?_;have hr:RR (k,0) [a,b] sg=o5 (uV k a b) λx=>l7 (D9 x.2) (some ((0,0),8)) (some (x.1,0)):=by rcases hk with rfl|rfl|rfl|rfl|rfl|rfl|rfl|rfl<;>rfl
 have he:dN (k,0) [a,b] sg=o5 (qP k [a,b]) λx=>l7 (D9 x.2) (some ((0,0),8)) (some (x.1,0)):=by rcases hk with rfl|rfl|rfl|rfl|rfl|rfl|rfl|rfl<;>rfl
 rw[hr,he];unfold uV qP;simp only[show F9 [a,b] 0=some a from rfl,show F9 [a,b] 1=some b from rfl,o8,xK,sD,jI,pz];cases h1:x8 a.1 b.1
 .rcases hk with rfl|rfl|rfl|rfl|rfl|rfl|rfl|rfl<;>exact uS (c:=8) G6 rfl rfl
 cases h2:x8 a.2 b.2
 .rcases hk with rfl|rfl|rfl|rfl|rfl|rfl|rfl|rfl<;>exact uS (c:=8) G6 rfl rfl
 have ha' :=ha;rcases hk with rfl|rfl|rfl|rfl|rfl|rfl|rfl|rfl<;>rcases ha with rfl|rfl|rfl|rfl|rfl|⟨e,rfl⟩ <;>
  first
  |exact nok ha' rfl rfl
  |exact nok (VT.lit (k:=1) l9) rfl rfl
  |exact uS (c:=8) G6 rfl rfl
theorem b8S{a b c:Int×Int}(ha:VT a)(hb:VT b):xu (26,N) [a,b,c] sg:=by
 refine WV rfl rfl ?_;have hr:RR (26,0) [a,b,c] sg=l7 (x8 a.1 1) (l7 (D9 (V9 (x8 b.1 c.1) (x8 b.2 c.2))) (some ((0,0),8)) (some (b,0))) (some ((0,0),8)):=rfl;have he:dN (26,0) [a,b,c] sg=o5 (qP 26 [a,b,c]) λx=>l7 (D9 x.2) (some ((0,0),8)) (some (x.1,0)):=rfl;have he2:qP 26 [a,b,c]=o5 (l7 (x8 a.1 1) (some (Sum.inr (b,V9 (x8 b.1 c.1) (x8 b.2 c.2)))) (some (Sum.inr (b,false)))) λ(o:I7⊕I7×Bool)=>X9 o (λ(x:I7)=>some ((0,0),false)) λ(r:I7×Bool)=>some r:=rfl;rw[hr,he,he2];cases x8 a.1 1
 .exact uS (c:=8) G6 rfl rfl
 cases x8 b.1 c.1
 .exact uS (c:=8) G6 rfl rfl
 cases x8 b.2 c.2
 .exact uS (c:=8) G6 rfl rfl
 .exact nok hb rfl rfl
theorem a6t(ha:VT a):xu (33,N) [a] sg:=by
 refine Qd rfl rfl ?_;have he:dN (33,N) [a] sg=wK (33,N) a sg:=BM _ _;have hr:RR (33,N) [a] sg=o5 (l7 (N7 0 N) (some (E9 N (o9 sg.2.1))) (some false)) λx=>l7 (D9 x) (some ((0,0),6)) (o5 (lU (33,N) a sg) λx=>l7 (D9 x.2) (some ((0,0),8)) (some (x.1,0))):=rfl;have hs:lU (33,N) a sg=o5 (F9 sg.2.1 N) λ(x:bn)=>o5 (eU x.2.1 sg.1) λ(x_1:Bool)=>l7 x_1 (o5 (eU x.2.2.1 sg.1) λ(x_2:Bool)=>l7 x_2 (some (x.2.2.1,V9 (x8 a.1 x.2.1.1) (x8 a.2 x.2.1.2))) (some (x.2.2.1,false))) (some (x.2.2.1,false)):=rfl;rw[he,hr,hs];unfold wK;simp only[x8,Int.reduceEq,decide_false,o6,o8,L6,pI N 0,Bz (o9 sg.2.1) N];cases h0:N7 0 N
 .exact uS (c:=6) G6 rfl rfl
 cases h1:E9 N (o9 sg.2.1)
 .exact uS (c:=6) G6 rfl rfl
 rw[jJ]at h0;rw[iW]at h1;obtain⟨x,hx,_⟩:=ng h0 h1;simp only[o8,L6,jY,o6,hx,AB,dA,aV,o7];cases vty x.2.1 sg.1
 .exact uS (c:=8) G6 rfl rfl
 cases hv:vty x.2.2.1 sg.1
 .exact uS (c:=8) G6 rfl rfl
 simp only[E5,o6,o7,o8];cases V9 (decide (a.1=x.2.1.1)) (decide (a.2=x.2.1.2))
 .exact uS (c:=8) G6 rfl rfl
 .exact nok (QK hv) rfl rfl
theorem a1E(hN:jl N)(ha:VT a):xu (34,N) [a] sg:=by
 refine Qd rfl rfl ?_;have he:dN (34,N) [a] sg=wK (34,N) a sg:=BM _ _;have hr:RR (34,N) [a] sg=o5 (l7 (N7 0 N) (some (N7 (eF N 8) 5)) (some false)) λx=>l7 (D9 x) (some ((0,0),3)) (l7 (D9 (E9 (dV .i64 N 8) (o9 sg.2.1))) (some ((0,0),6)) (o5 (lU (34,N) a sg) λx=>l7 (D9 x.2) (some ((0,0),8)) (some (x.1,0)))):=rfl;have hs:lU (34,N) a sg=o5 (F9 sg.2.1 (dV .i64 N 8)) λ(x:bn)=>l7 (x8 a.1 3) (l7 (V9 (x8 x.2.1.1 3) (x8 x.2.1.2 0)) (some (a,V9 (x8 x.2.2.1.1 4) (x8 x.2.2.1.2 0))) (some (a,false))) (some (a,false)):=rfl;rw[he,hr,hs];unfold wK pW;by_cases h0:0<=N
 case neg=>rw[ax (show N<0 by omega),V5 (show N<0 by omega)];exact uS (c:=3) G6 rfl rfl
 have hq:dV .i64 N 8=N / 8:=by rw[DF (by rw[kQ h0];unfold jl at*;omega),kQ h0]
 rw[Z9 h0,N9 h0,hq,Ba h0];simp only[x8,Int.reduceEq,decide_true,o7,o6,Z9 (show 0<=N % 8 by omega),o8];cases N7 (N % 8) 5
 .exact uS (c:=3) G6 rfl rfl
 simp only[E5,o6,o8,L6,N9 (show 0<=N / 8 by omega),Bz];cases h1:E9 (N / 8) (o9 sg.2.1)
 .exact uS (c:=6) G6 rfl rfl
 rw[iW]at h1;obtain⟨x,hx,_⟩:=ng (show 0<=N / 8 by omega) h1;simp only[hx,jY,o6,o8,L6,AB,E5];obtain⟨nm,⟨k1,k2⟩,⟨v1,v2⟩,rows⟩:=x;dsimp only;by_cases hK:k1=3/\k2=0
 .obtain⟨rfl,rfl⟩:=hK;by_cases hV:v1=4/\v2=0
  .obtain⟨rfl,rfl⟩:=hV;rcases ha with rfl|rfl|rfl|rfl|rfl|⟨e,rfl⟩ <;>
    first
    |exact nok (VT.lit (k:=3) l9) rfl rfl
    |exact uS (c:=8) G6 rfl rfl
  .have hE:vty (v1,v2) sg.1=true->v1≠4:=λhv h=>by
    subst h;rcases QK hv with h|h|h|h|h|⟨e,h⟩<;>cases h;exact hV ⟨rfl,rfl⟩
   have hR:V9 (decide (v1=4)) (decide (v2=0))=false:=by
    by_cases h1:v1=4
    .have:v2≠0:=λh2=>hV ⟨h1,h2⟩;simp[V9,h1,this]
    .simp[V9,h1]
   rw[hR];cases hv:vty (v1,v2) sg.1
   .rcases ha with rfl|rfl|rfl|rfl|rfl|⟨e,rfl⟩<;>exact uS (c:=8) G6 rfl rfl
   .have h4:=hE hv;rw[show decide (v1=4)=false by simp[h4]];rcases ha with rfl|rfl|rfl|rfl|rfl|⟨e,rfl⟩<;>exact uS (c:=8) G6 rfl rfl
 .have hR:V9 (decide (k1=3)) (decide (k2=0))=false:=by
   by_cases h1:k1=3
   .have:k2≠0:=λh2=>hK ⟨h1,h2⟩;simp[V9,h1,this]
   .simp[V9,h1]
  rw[hR];cases hv:vty (k1,k2) sg.1
  .rcases ha with rfl|rfl|rfl|rfl|rfl|⟨e,rfl⟩<;>exact uS (c:=8) G6 rfl rfl
  cases hw:vty (v1,v2) sg.1
  .rcases ha with rfl|rfl|rfl|rfl|rfl|⟨e,rfl⟩<;>exact uS (c:=8) G6 rfl rfl
  have h3:k1≠3:=λh=>by subst h;rcases QK hv with h|h|h|h|h|⟨e,h⟩<;>cases h;exact hK ⟨rfl,rfl⟩
  simp only[show decide (k1=3)=false by simp[h3],E5,o6,o7,o8];cases V9 (decide (a.1=k1)) (decide (a.2=k2))
  .cases decide (a.1=3)<;>exact uS (c:=8) G6 rfl rfl
  .cases decide (a.1=3)<;>exact uS (c:=8) G6 rfl rfl
theorem Zi(n:Int×Int)(hN:jl n.2)(ops:c9k)(hv:∀t∈ops,VT t)(hl:o9 ops=qY n.1):xu n ops sg:=by
 obtain⟨op,N⟩:=n;dsimp only at hN hl;have hr:1<=op/\op<=39:=by
  by_cases h:1<=op/\op<=39
  .exact h
  .have:qY op=-1:=by unfold qY;rw[a4s h];rfl
   rw[this]at hl;simp[o9]at hl
 have hc:op=1\/op=2\/op=3\/op=4\/op=5\/op=6\/op=7\/op=8\/op=9\/op=10\/op=11\/op=12\/op=13\/op=14\/op=15\/op=16\/op=17\/op=18\/op=19\/op=20\/op=21\/op=22\/op=23\/op=24\/op=25\/op=26\/op=27\/op=28\/op=29\/op=30\/op=31\/op=32\/op=33\/op=34\/op=35\/op=36\/op=37\/op=38\/op=39:=l9;have L0:qY op=0->ops=[]:=λh=>by rw[h]at hl;simp only[o9]at hl;exact P5.1 l9
 have L1:qY op=1->∃a,ops=[a]/\VT a:=λh=>by
  rw[h]at hl;simp only[o9]at hl;match ops,hl,hv with
  |[a],_,hv=>exact⟨a,rfl,hv a x9⟩|[],hl,_=>simp at hl|a::b::r,hl,_=>simp at hl;omega
 have L2:qY op=2->∃a b,ops=[a,b]/\VT a/\VT b:=λh=>by
  rw[h]at hl;simp only[o9]at hl;match ops,hl,hv with
  |[a,b],_,hv=>exact⟨a,b,rfl,hv a x9,hv b x9⟩|[],hl,_=>simp at hl|[a],hl,_=>simp at hl|a::b::c::r,hl,_=>simp at hl;omega
 have L3:qY op=3->∃a b c,ops=[a,b,c]/\VT a/\VT b:=λh=>by
  rw[h]at hl;simp only[o9]at hl;match ops,hl,hv with
  |[a,b,c],_,hv=>exact⟨a,b,c,rfl,hv a x9,hv b x9⟩|[],hl,_=>simp at hl|[a],hl,_=>simp at hl|[a,b],hl,_=>simp at hl|a::b::c::d::r,hl,_=>simp at hl;omega
 rcases hc with rfl|rfl|rfl|rfl|rfl|rfl|rfl|rfl|rfl|rfl|rfl|rfl|rfl|rfl|rfl|rfl|rfl|rfl|rfl|rfl|rfl|rfl|rfl|rfl|rfl|rfl|rfl|rfl|rfl|rfl|rfl|rfl|rfl|rfl|rfl|rfl|rfl|rfl|rfl <;>
  first
  |(rw[L0 rfl];first|exact b5j N sg l9|exact b2p N sg hN|exact b8T N sg|exact b5h N sg|exact b2o N sg|exact a8J N sg|exact b5k N sg l9)
  |(obtain⟨a,rfl,ha⟩:=L1 rfl;first|exact b8U N sg l9 ha|exact a6t N sg ha|exact a1E N sg hN ha)
  |(obtain⟨a,b,rfl,ha,hb⟩:=L2 rfl;first|exact b5g N sg l9 ha hb|exact b2q N sg l9 ha hb|exact b2r N sg l9 ha)
  |(obtain⟨a,b,c,rfl,ha,hb⟩:=L3 rfl;exact b8S N sg ha hb)
end
end
section
def XT.wf:XT->Prop
 | .l0 n=>qY n.1=0| .l1 n a=>qY n.1=1/\a.wf| .l2 n a b=>qY n.1=2/\a.wf/\b.wf| .l3 n a b c=>qY n.1=3/\a.wf/\b.wf/\c.wf
theorem b9b{n:Int×Int}{ts ts' :List XT}(h:push n ts= .inr ts')(hw:∀t∈ts,t.wf):∀t∈ts',t.wf:=by
 unfold push at h;split at h
 .cases h;intro t ht;rcases D5.1 ht with rfl|ht
  .assumption
  .exact hw t ht
 split at h
 .split at h
  .cases h;intro t ht;rcases D5.1 ht with rfl|ht
   .exact⟨by assumption,hw _ x9⟩
   .exact hw t (by simp[ht])
  .cases h
 split at h
 .split at h
  .cases h;intro t ht;rcases D5.1 ht with rfl|ht
   .exact⟨by assumption,hw _ x9,hw _ x9⟩
   .exact hw t (by simp[ht])
  .cases h
 split at h
 .split at h
  .cases h;intro t ht;rcases D5.1 ht with rfl|ht
   .exact⟨by assumption,hw _ x9,hw _ x9,hw _ x9⟩
   .exact hw t (by simp[ht])
  .cases h
 .cases h
theorem a6E:∀(es:c9k) (i:Nat) (ts ts' :List XT),yF i es ts= .inr ts' ->(∀t∈ts,t.wf)->∀t∈ts',t.wf
 |[],i,ts,ts',h,hw=>by cases h;exact hw|n::es,i,ts,ts',h,hw=>by
  unfold yF at h;cases hp:push n ts with
  |inl c=>rw[hp]at h;cases h|inr t2=>
   rw[hp]at h;simp only at h;split at h
   .cases h
   .exact a6E es (i+1) t2 ts' h (b9b hp hw)
variable {e:c9k}
theorem MO{t:XT}(h:mZ e= .inr t):t.wf:=by
 unfold mZ at h;split at h
 .cases h
 split at h
 .cases h
 split at h
 .cases h
 .rename_i t' hp;cases h;exact a6E e 0 [] [t] hp x9 t x9
 .cases h
def Iq(n:Int×Int)(ops:c9k)(sg:J5):(Int×Int)×Int:=(Eb n ops sg).getD ((0,0),0)
def Gm(sg:J5)(n:Int×Int)(ops:c9k)(i:Nat):(Int×Int)⊕(Int×Int):=if(Iq n ops sg).2=0 then .inr (Iq n ops sg).1 else .inl ((i:Int),(Iq n ops sg).2)
def iw(sg:J5):XT->Nat->(Int×Int)⊕(Int×Int)
 | .l0 n,o=>Gm sg n [] o
 | .l1 n a,o=>match iw sg a o with
  | .inl x=> .inl x| .inr ta=>Gm sg n [ta] (o+a.size)
 | .l2 n a b,o=>match iw sg a o with
  | .inl x=> .inl x
  | .inr ta=>match iw sg b (o+a.size)with
   | .inl x=> .inl x| .inr tb=>Gm sg n [ta,tb] (o+a.size+b.size)
 | .l3 n a b c,o=>match iw sg a o with
  | .inl x=> .inl x
  | .inr ta=>match iw sg b (o+a.size)with
   | .inl x=> .inl x
   | .inr tb=>match iw sg c (o+a.size+b.size)with
    | .inl x=> .inl x| .inr tc=>Gm sg n [ta,tb,tc] (o+a.size+b.size+c.size)
variable {i:Nat}
theorem zo{sg:J5}{n:Int×Int}{ops:c9k}{t:Int×Int}(hN:jl n.2)(hv:∀t∈ops,VT t)(hl:o9 ops=qY n.1)(h:Gm sg n ops i= .inr t):VT t:=by
 obtain⟨r,h1,h2,h3⟩:=Zi sg n hN ops hv hl;unfold Gm at h;split at h
 .rename_i h0;cases h;have e:Iq n ops sg=r:=by unfold Iq;rw[h1];rfl
  rw[e]at h0 ⊢;exact h3 h0
 .cases h
section
variable (e:c9k) (sg:J5) (z:Int×Int)
def b9U(f:(Int×Int)×c9k×Int->Option (Out ((Int×Int)×c9k×Int) ((Int×Int)×c9k) ((Int×Int)×Int×Int))):Prop:=
 ∀(i:Nat) (n:Int×Int) (s ops:c9k),e[i]? =some n->i<=100->o9 ops=qY n.1->(∀t∈ops,VT t)->s.length+ops.length<=100->
  f (z,s++ops,(i:Int))=some (match Gm sg n ops i with| .inl x=> .rt ((0,0),x)| .inr t=> .nx (z,s++[t],((i+1:Nat):Int)))
theorem b3n{f:(Int×Int)×c9k×Int->Option (Out ((Int×Int)×c9k×Int) ((Int×Int)×c9k) ((Int×Int)×Int×Int))}
  (he:e.length<=48) (hI:∀n∈e,jl n.2) (hs:b9U e sg z f):∀(t:XT),t.wf->∀(pre suf s:c9k) (k:Nat),e=pre++t.post++suf->s.length<=pre.length->
  rC f (k+t.size) (z,s,(pre.length:Int))=(match iw sg t pre.length with| .inl x=>some (.inr ((0,0),x))| .inr r=>rC f k (z,s++[r],((pre.length+t.size:Nat):Int)))/\∀r,iw sg t pre.length= .inr r->VT r:=by
 intro t;have step:∀(i k:Nat) (n:Int×Int) (s ops:c9k),e[i]? =some n->o9 ops=qY n.1->(∀t∈ops,VT t)->s.length+ops.length<=100->
   rC f (k+1) (z,s++ops,(i:Int))=(match Gm sg n ops i with| .inl x=>some (.inr ((0,0),x))| .inr r=>rC f k (z,s++[r],((i+1:Nat):Int))):=by
  intro i k n s ops h1 h2 h3 h4;rw[rC,hs i n s ops h1 (by have:=(V6.1 h1).1;omega) h2 h3 h4];cases Gm sg n ops i<;>rfl
 have getn:∀(pre suf:c9k) (n:Int×Int),e=pre++[n]++suf->e[pre.length]? =some n:=by intro pre suf n h;rw[h,F8,H7 l9,dY];rfl
 have mem:∀(i:Nat) (n:Int×Int),e[i]? =some n->jl n.2:=λi n h=>hI n (iL h);induction t with
 |l0 n=>
  intro hw pre suf s k hd hl;have hn:=getn pre suf n hd;have hlen:pre.length<e.length:=(V6.1 hn).1;have hz:o9 ([]:c9k)=qY n.1:=by rw[show qY n.1=0 from hw];rfl
  have h:=step pre.length k n s [] hn hz x9 Y2;rw[H8]at h;exact⟨h,λr hr=>zo (mem _ n hn) x9 hz hr⟩
 |l1 n a iha=>
  intro hw pre suf s k hd hl;simp only[XT.post,F8]at hd;have hpa:(pre++a.post).length=pre.length+a.size:=by simp[XT.post_len]
  have hn:=getn (pre++a.post) suf n (by simpa using hd);rw[hpa]at hn;have hlen:=(V6.1 hn).1;obtain⟨i1,i2⟩:=iha hw.2 pre ([n]++suf) s (k+1) (by simpa using hd) hl;simp only[XT.size,iw];rw[show k+(a.size+1)=(k+1)+a.size by omega,i1];cases ht:iw sg a pre.length with
  |inl x=>exact⟨rfl,λr hr=>by cases hr⟩|inr ta=>
   have hz:o9 [ta]=qY n.1:=by rw[show qY n.1=1 from hw.1];rfl
   have hv:∀t∈[ta],VT t:=by simpa using i2 ta ht
   exact⟨step _ k n s [ta] hn hz hv Y2,λr hr=>zo (mem _ n hn) hv hz hr⟩
 |l2 n a b iha ihb=>
  intro hw pre suf s k hd hl;simp only[XT.post,F8]at hd;have hpa:(pre++a.post).length=pre.length+a.size:=by simp[XT.post_len]
  have hpb:(pre++a.post++b.post).length=pre.length+a.size+b.size:=by simp[XT.post_len];omega
  have hn:=getn (pre++a.post++b.post) suf n (by simpa using hd);rw[hpb]at hn;have hlen:=(V6.1 hn).1;obtain⟨i1,i2⟩:=iha hw.2.1 pre (b.post++[n]++suf) s (k+1+b.size) (by simpa using hd) hl;simp only[XT.size,iw];rw[show k+(a.size+b.size+1)=(k+1+b.size)+a.size by omega,i1];cases ht:iw sg a pre.length with
  |inl x=>exact⟨rfl,λr hr=>by cases hr⟩|inr ta=>
   have hsa:=a.size_pos;obtain⟨j1,j2⟩:=ihb hw.2.2 (pre++a.post) ([n]++suf) (s++[ta]) (k+1) (by simpa using hd) (by simp[XT.post_len];omega);rw[hpa]at j1 j2;simp only;rw[j1];cases hu:iw sg b (pre.length+a.size)with
   |inl x=>exact⟨rfl,λr hr=>by cases hr⟩|inr tb=>
    have hz:o9 [ta,tb]=qY n.1:=by rw[show qY n.1=2 from hw.1];rfl
    have hv:∀t∈[ta,tb],VT t:=by simpa using ⟨i2 ta ht,j2 tb hu⟩
    have:=step _ k n s [ta,tb] hn hz hv Y2;simp only[F8,Y7,H9];rw[show pre.length+(a.size+b.size+1)=pre.length+a.size+b.size+1 by omega];exact⟨this,λr hr=>zo (mem _ n hn) hv hz hr⟩
 |l3 n a b c iha ihb ihc=>
  intro hw pre suf s k hd hl;simp only[XT.post,F8]at hd;have hpa:(pre++a.post).length=pre.length+a.size:=by simp[XT.post_len]
  have hpb:(pre++a.post++b.post).length=pre.length+a.size+b.size:=by simp[XT.post_len];omega
  have hpc:(pre++a.post++b.post++c.post).length=pre.length+a.size+b.size+c.size:=by simp[XT.post_len];omega
  have hn:=getn (pre++a.post++b.post++c.post) suf n (by simpa using hd);rw[hpc]at hn;have hlen:=(V6.1 hn).1;obtain⟨i1,i2⟩:=iha hw.2.1 pre (b.post++(c.post++([n]++suf))) s (k+1+c.size+b.size) (by simpa using hd) hl;simp only[XT.size,iw];rw[show k+(a.size+b.size+c.size+1)=(k+1+c.size+b.size)+a.size by omega,i1];have hsa:=a.size_pos;have hsb:=b.size_pos;cases ht:iw sg a pre.length with
  |inl x=>exact⟨rfl,λr hr=>by cases hr⟩|inr ta=>
   obtain⟨j1,j2⟩:=ihb hw.2.2.1 (pre++a.post) (c.post++([n]++suf)) (s++[ta]) (k+1+c.size) (by simpa using hd) (by simp[XT.post_len];omega);rw[hpa]at j1 j2;simp only;rw[j1];cases hu:iw sg b (pre.length+a.size)with
   |inl x=>exact⟨rfl,λr hr=>by cases hr⟩|inr tb=>
    obtain⟨q1,q2⟩:=ihc hw.2.2.2 (pre++a.post++b.post) ([n]++suf) (s++[ta]++[tb]) (k+1) (by simpa using hd) (by simp[XT.post_len];omega);rw[hpb]at q1 q2;simp only;rw[q1];cases hc:iw sg c (pre.length+a.size+b.size)with
    |inl x=>exact⟨rfl,λr hr=>by cases hr⟩|inr tc=>
     have hz:o9 [ta,tb,tc]=qY n.1:=by rw[show qY n.1=3 from hw.1];rfl
     have hv:∀t∈[ta,tb,tc],VT t:=by simpa using ⟨i2 ta ht,j2 tb hu,q2 tc hc⟩
     have:=step _ k n s [ta,tb,tc] hn hz hv Y2;simp only[F8,Y7,H9];rw[show pre.length+(a.size+b.size+c.size+1)=pre.length+a.size+b.size+c.size+1 by omega];exact⟨this,λr hr=>zo (mem _ n hn) hv hz hr⟩
end
def oC(e:c9k)(sg:J5):(Int×Int)×Int×Int:=match mZ e with
 | .inl x=>((0,0),x)
 | .inr t=>match iw sg t 0 with
  | .inl x=>((0,0),x)| .inr r=>(r,0,0)
variable {α:Type}
theorem a1k(s ops:List α)(k:Int)(hk:o9 ops=k)(h:s.length+ops.length<=100):
  J3 .i64 (o9 (s++ops)) k=(s.length:Int)/\qp (s.length:Int) (o9 (s++ops)) (o9 (s++ops))=true/\qh (s++ops) (U6 (s.length:Int)) (U6 (o9 (s++ops)))=ops
  /\qp 0 (s.length:Int) (o9 (s++ops))=true/\qh (s++ops) (U6 0) (U6 (s.length:Int))=s:=by
 subst hk;refine⟨?_,?_,?_,?_,?_⟩
 .rw[U2 (by unfold jl;simp[o9];omega)];simp[o9]
 .simp[qp,o9];omega
 .show((s++ops).take (((s++ops).length:Nat):Int).toNat).drop s.length=ops;rw[J9,bz,List.drop_left]
 .simp[qp,o9];omega
 .simp[qh,U6]
theorem a1j{sg:J5}{f:(Int×Int)×c9k×Int->Option (Out ((Int×Int)×c9k×Int) ((Int×Int)×c9k) ((Int×Int)×Int×Int))}
  (hI:∀n∈e,jl n.2) (hs:b9U e sg (0,0) f) (hend:∀s,f ((0,0),s,(e.length:Int))=some (.ex ((0,0),s))) (hcode:∀x,mZ e= .inl x->x.2≠0):
  l7 (D9 (x8 (yX e).2.2 0)) (some ((((0:Int),(0:Int)),(yX e).2):(Int×Int)×Int×Int)) (o5 (V7 f (((0:Int),(0:Int)),([]:c9k),(0:Int))) λ(o:(Int×Int)×c9k⊕(Int×Int)×Int×Int)=>
   X9 o (λ(y:(Int×Int)×c9k)=>o5 (F9 y.2 0) λ(x:Int×Int)=>o5 (O8 y.2 (U6 0)) λ(x:Int×Int)=>some (x,0,0)) λ(r:(Int×Int)×Int×Int)=>some r)=some (oC e sg):=by
 unfold yX oC;cases h:mZ e with
 |inl x=>simp only[J6 (hcode x h),aV,o7]|inr t=>
  obtain⟨hp,h48⟩:=Dj h;have hw:=MO h;obtain⟨l1,_⟩:=b3n e sg (0,0) h48 hI hs t hw [] [] [] (lG -t.size) (by simpa using hp) x9;have hsz:e.length=t.size:=by rw[hp,XT.post_len]
  have hlo:V7 f (((0:Int),(0:Int)),([]:c9k),(0:Int))=rC f (lG -t.size+t.size) ((0,0),[],(([]:c9k).length:Int)):=by unfold V7;rw[Nat.sub_add_cancel (by unfold lG;omega)];rfl
  simp only[J7 (rfl:(0:Int)=0),E5,o6];rw[hlo,l1];simp only[bT,dF];cases iw sg t 0 with
  |inl x=>rfl|inr r=>obtain⟨k,hk⟩:∃k,lG -t.size=k+1:=⟨lG -t.size -1,by unfold lG;omega⟩;simp only[H9];rw[hk,rC,←hsz,hend];rfl
theorem Di{x:Int×Int}(h:mZ e= .inl x):x.2≠0:=by
 have key:∀(es:c9k) (i:Nat) (ts:List XT) (x:Int×Int),yF i es ts= .inl x->x.2≠0:=by
  intro es;induction es with
  |nil=>intro i ts x h;cases h|cons n es ih=>
   intro i ts x h;unfold yF at h;cases hp:push n ts with
   |inl c=>
    rw[hp]at h;cases h;show c≠0;unfold push at hp
    (repeat' split at hp)<;>first|(cases hp;done)|(cases hp;decide)
   |inr t2=>
    rw[hp]at h;simp only at h;split at h
    .cases h;show(16:Int)≠0;decide
    .exact ih _ _ _ h
 unfold mZ at h;split at h
 .cases h;show(4:Int)≠0;decide
 split at h
 .cases h;show(5:Int)≠0;decide
 split at h
 .rename_i y hp;cases h;exact key _ _ _ _ hp
 .cases h
 .cases h;show(4:Int)≠0;decide
theorem a9b(sg:J5)(hI:∀n∈e,jl n.2):NU e sg=some (oC e sg):=by
 unfold NU;rw[KW,o8];refine a1j hI (λi n s ops hn hi2 hl hv hlen=>?_) (λs=>?_) (λx h=>Di h)
 .obtain⟨r,h1,h2,h3⟩:=Zi sg n (hI n (iL hn)) ops hv hl;obtain⟨v1,v2,v3,v4,v5⟩:=a1k s ops _ hl hlen;have e' :Iq n ops sg=r:=by unfold Iq;rw[h1];rfl
  have hi:=(V6.1 hn).1;simp only[H5 hn,o7,F5,hn,o8,a0z,v1,v2,v3,v4,v5,h1];unfold Gm;rw[e'];by_cases h0:r.2=0
  .rw[if_pos h0,J7 h0];simp only[E5,o6];rw[jB _ l9,o8,Z5 l9]
  .rw[if_neg h0,J6 h0];rfl
 .rw[G7];rfl
theorem b3l(sg:J5)(hI:∀n∈e,jl n.2):JR e sg=some (oC e sg):=by
 unfold JR;rw[VP,o8];refine a1j hI (λi n s ops hn hi2 hl hv hlen=>?_) (λs=>?_) (λx h=>Di h)
 .obtain⟨r,h1,h2,h3⟩:=Zi sg n (hI n (iL hn)) ops hv hl;obtain⟨v1,v2,v3,v4,v5⟩:=a1k s ops _ hl hlen;have e' :Iq n ops sg=r:=by unfold Iq;rw[h1];rfl
  have hi:=(V6.1 hn).1;simp only[H5 hn,o7,F5,hn,o8,ZF,v1,v2,v3,v4,v5];unfold Gm;rw[e'];unfold EN at h2;have fin:dN n ops sg=some r->(o5 (dN n ops sg) λ(x_3:I7×Int)=>l7 (D9 (x8 x_3.2 0)) (some (Out.rt ((((0:Int),(0:Int)),((i:Int),x_3.2)):(Int×Int)×Int×Int)))
    (o5 (di s [x_3.1]) λ(x_4:List I7)=>some (Out.nx (((0:Int),(0:Int)),x_4,A7 .i64 (i:Int) 1))))=
    some (match if r.2=0 then(.inr r.1:(Int×Int)⊕(Int×Int))else .inl ((i:Int),r.2)with| .inl x=>Out.rt ((0,0),x)| .inr t=>(Out.nx ((0,0),s++[t],((i+1:Nat):Int)):Out ((Int×Int)×c9k×Int) ((Int×Int)×c9k) ((Int×Int)×Int×Int))):=by
   intro hr;rw[hr,o8];by_cases h0:r.2=0
   .rw[if_pos h0,J7 h0];simp only[E5,o6];rw[jB _ l9,o8,Z5 l9]
   .rw[if_neg h0,J6 h0];rfl
  cases hz:x8 n.2 0
  .rw[hz]at h2;simp only[aV,o7]at h2 ⊢;cases hu:lX n.1 with
   |none=>rw[hu]at h2;cases h2|some u=>
    rw[hu]at h2;simp only[o8]at h2 ⊢;cases u
    .simp only[aV,o7]at h2 ⊢;cases h2;rfl
    .exact fin h2
  .rw[hz]at h2;exact fin h2
 .rw[G7];rfl
section
variable {α β σ ε ρ:Type}
theorem nK(l:List α)(G:β->α->β)(mk:β->Int->σ)(fin:β->ε)(Inv:Nat->β->Prop){f:σ->Option (σ⊕ε)}{b:β}(hl:l.length<=1000000)(h0:Inv 0 b)
  (hin:∀(i:Nat) (a:α) (b:β),l[i]? =some a->i<=1000000->Inv i b->f (mk b (i:Int))=some (.inl (mk (G b a) ((i+1:Nat):Int)))/\Inv (i+1) (G b a))
  (hend:∀b,Inv l.length b->f (mk b (l.length:Int))=some (.inr (fin b))):
  ay f (mk b 0)=some (fin (l.foldl G b))/\Inv l.length (l.foldl G b):=by
 have key:∀(n i:Nat) (b:β),i<=l.length->l.length -i<n->Inv i b->vN f n (mk b (i:Int))=some (fin ((l.drop i).foldl G b))/\Inv l.length ((l.drop i).foldl G b):=by
  intro n;induction n with
  |zero=>intro i b _ h _;omega|succ n ih=>
   intro i b hi hn hI;unfold vN;by_cases h:i<l.length
   .have e:=dh h;obtain⟨h1,h2⟩:=hin i _ b e l9 hI;rw[h1,gI h];exact ih (i+1) _ l9 l9 h2
   .have:i=l.length:=l9;subst this;rw[hend b hI,ED];exact⟨rfl,hI⟩
 have:=key lG 0 b l9 (by unfold lG;omega) h0;exact this
theorem aO{γ:Type}(l:List α)(G:β->α->β)(mk:β->Int->σ)(fin:β->ε)(Inv:Nat->β->Prop)(b:β){f:σ->Option (σ⊕ε)}{K:ε->Option γ}{r:Option γ}(hl:l.length<=1000000)(h0:Inv 0 b)
  (hin:∀(i:Nat) (a:α) (b:β),l[i]? =some a->i<=1000000->Inv i b->f (mk b (i:Int))=some (.inl (mk (G b a) ((i+1:Nat):Int)))/\Inv (i+1) (G b a))
  (hend:∀b,Inv l.length b->f (mk b (l.length:Int))=some (.inr (fin b))) (hk:Inv l.length (l.foldl G b)->K (fin (l.foldl G b))=r):o5 (ay f (mk b 0)) K=r:=by
 obtain⟨h1,h2⟩:=nK l G mk fin Inv hl h0 hin hend;rw[h1];exact hk h2
def aP(G:β->α->β⊕ρ):List α->β->β⊕ρ
 |[],b=> .inl b
 |a::l,b=>match G b a with| .inl b' =>aP G l b'| .inr r=> .inr r
theorem TN(l:List α)(G:β->α->β⊕ρ)(mk:β->Int->σ)(fin:β->ε)(Inv:Nat->β->Prop){f:σ->Option (Out σ ε ρ)}{b:β}(hl:l.length<=1000000)(h0:Inv 0 b)
  (hin:∀(i:Nat) (a:α) (b:β),l[i]? =some a->i<=1000000->Inv i b->f (mk b (i:Int))=some (match G b a with| .inl b' => .nx (mk b' ((i+1:Nat):Int))| .inr r=> .rt r)/\∀b',G b a= .inl b' ->Inv (i+1) b')
  (hend:∀b,Inv l.length b->f (mk b (l.length:Int))=some (.ex (fin b))):
  V7 f (mk b 0)=some (match aP G l b with| .inl b' => .inl (fin b')| .inr r=> .inr r)/\∀b',aP G l b= .inl b' ->Inv l.length b' :=by
 have key:∀(n i:Nat) (b:β),i<=l.length->l.length -i<n->Inv i b->rC f n (mk b (i:Int))=some (match aP G (l.drop i) b with| .inl b' => .inl (fin b')| .inr r=> .inr r)/\∀b',aP G (l.drop i) b= .inl b' ->Inv l.length b' :=by
  intro n;induction n with
  |zero=>intro i b _ h _;omega|succ n ih=>
   intro i b hi hn hI;unfold rC;by_cases h:i<l.length
   .have e:=dh h;obtain⟨h1,h2⟩:=hin i _ b e l9 hI;rw[h1,gI h];unfold aP;cases hg:G b l[i]with
    |inr r=>exact⟨rfl,λb' hb=>by cases hb⟩|inl b' =>exact ih (i+1) _ l9 l9 (h2 b' hg)
   .have:i=l.length:=l9;subst this;rw[hend b hI,ED];exact⟨rfl,λb' hb=>by cases hb;exact hI⟩
 have:=key lG 0 b l9 (by unfold lG;omega) h0;exact this
theorem kU{γ:Type}(l:List α)(G:β->α->β⊕ρ)(mk:β->Int->σ)(fin:β->ε)(Inv:Nat->β->Prop)(b:β){f:σ->Option (Out σ ε ρ)}{K:ε⊕ρ->Option γ}{r:Option γ}(hl:l.length<=1000000)(h0:Inv 0 b)
  (hin:∀(i:Nat) (a:α) (b:β),l[i]? =some a->i<=1000000->Inv i b->f (mk b (i:Int))=some (match G b a with| .inl b' => .nx (mk b' ((i+1:Nat):Int))| .inr r=> .rt r)/\∀b',G b a= .inl b' ->Inv (i+1) b')
  (hend:∀b,Inv l.length b->f (mk b (l.length:Int))=some (.ex (fin b)))
  (hk:(∀b',aP G l b= .inl b' ->Inv l.length b')->K (match aP G l b with| .inl b' => .inl (fin b')| .inr r=> .inr r)=r):o5 (V7 f (mk b 0)) K=r:=by
 obtain⟨h1,h2⟩:=TN l G mk fin Inv hl h0 hin hend;rw[h1];exact hk h2
end
def XE(c:UInt8):Bool:=decide (32<=c.toNat)&&decide (c.toNat<=126)&&decide (c.toNat≠34)
def a1O(s:c9i):Bool:=decide (s.length<=64)&&s.all XE
theorem b0v(c:UInt8):∀s:c9i,decide (0<=Lib.indexByte s c)=s.any λx=>decide (x.toNat=c.toNat)
 |[]=>by simp[Lib.indexByte]|b::l=>by
  have ih:=b0v c l;have hge:=Lib.indexByte_ge l c;rw[lZ,←ih];have e:Lib.indexByte (b::l) c=if b=c then 0 else if Lib.indexByte l c=-1 then -1 else Lib.indexByte l c+1:=by rw[Lib.indexByte];simp
  rw[e];by_cases h:b=c
  .subst h;simp
  .have h2:b.toNat≠c.toNat:=λhh=>h (UInt8.toNat_inj.1 hh);rw[if_neg h,show decide (b.toNat=c.toNat)=false by simp[h2],lY];by_cases h3:Lib.indexByte l c=-1
   .rw[h3];rfl
   .rw[if_neg h3];simp;omega
theorem a7w(c:UInt8):XE c=(!E9 (c.toNat:Int) 32&&!E9 126 (c.toNat:Int)&&!x8 (c.toNat:Int) 34):=by unfold XE E9 x8;rw[gu];simp;omega
theorem YZ(s:c9i)(p:UInt8->Bool):(∀(i:Nat) (a:UInt8),s[i]? =some a->p a=true)↔s.all p=true:=by rw[lq];exact⟨λh x hx=>by obtain⟨i,hi,rfl⟩:=X3 hx;exact h i _ (dh hi),λh i a hi=>h a (iL hi)⟩
theorem a4h{s:c9i}(h:s.length<=1000000):GX s=some (a1O s):=by
 unfold GX;refine X8 (EX s (λi a=>XE a) false PUnit.unit _ l9 (λi x hx=>?_) ?_) ?_
 rotate_left 2
 .have h5:N7 (o9 s) 64=decide (s.length<=64):=by simp only[N7,o9];congr 1;simp;omega
  unfold a1O;by_cases hw:s.all XE=true
  .rw[if_pos ((YZ s XE).2 hw),hw,o8,L6,h5,Bool.and_true]
  .rw[if_neg (λh=>hw ((YZ s XE).1 h))];simp only[lm]at hw;rw[hw,Bool.and_false];rfl
 .have hi:=(V6.1 hx).1;simp only[H5 hx,o7,Zo,hx,aJ,o8];rw[Z5 l9,a7w];cases E9 (x.toNat:Int) 32<;>cases E9 126 (x.toNat:Int)<;>cases x8 (x.toNat:Int) 34<;>rfl
 .rw[G7];rfl
theorem a1m{s:c9i}(h:s.length<=1000000):BG s=some (a1O s):=by
 unfold BG;have h5:E9 64 (o9 s)= !decide (s.length<=64):=by simp only[E9,o9];rw[←decide_not];congr 1;simp;omega
 rw[h5,show AY s [34]=some (s.any λx=>decide (x.toNat=(34:UInt8).toNat))from congrArg some (b0v 34 s)];unfold a1O;cases decide (s.length<=64)
 .rfl
 simp only[jY,o6,o8,eG];cases h34:s.any λx=>decide (x.toNat=(34:UInt8).toNat)
 case true=>
  obtain⟨x,hx,hx2⟩:=jH.1 h34;simp only[decide_eq_true_eq]at hx2;have:s.all XE=false:=by rw[List.all_eq_false];refine⟨x,hx,?_⟩;unfold XE;rw[hx2];decide
  rw[this];rfl
 simp only[o6];refine X8 (EX s (λi a=>XE a) false PUnit.unit _ l9 (λi x hx=>?_) ?_) ?_
 rotate_left 2
 .by_cases hw:s.all XE=true
  .rw[if_pos ((YZ s XE).2 hw),hw];rfl
  .rw[if_neg (λh=>hw ((YZ s XE).1 h))];simp only[lm]at hw;rw[hw];rfl
 .have hi:=(V6.1 hx).1;have hne:x8 (x.toNat:Int) 34=false:=by
   have:=(fZ.1 h34) x (iL hx);simp only[decide_eq_true_eq]at this;exact J6 (by have h:(34:UInt8).toNat=34:=rfl;omega)
  simp only[H5 hx,o7,Zo,hx,aJ,o8];rw[Z5 l9,a7w,hne];cases E9 (x.toNat:Int) 32<;>cases E9 126 (x.toNat:Int)<;>rfl
 .rw[G7];rfl
def Hu(e:c9k)(sg:J5)(t:Int×Int):Int:=l7 (x8 (oC e sg).2.2 0) (l7 (V9 (x8 (oC e sg).1.1 t.1) (x8 (oC e sg).1.2 t.2)) 0 8) (oC e sg).2.2
theorem Uz(sg:J5)(t:Int×Int)(hI:∀n∈e,jl n.2):yx e sg t=some (Hu e sg t):=by
 unfold yx Hu;rw[b3l sg hI,o8];cases x8 (oC e sg).2.2 0
 .rfl
 simp only[E5,o6,o7];cases V9 (x8 (oC e sg).1.1 t.1) (x8 (oC e sg).1.2 t.2)<;>rfl
theorem UG(sg:J5)(t:Int×Int)(hI:∀n∈e,jl n.2):yj e sg t=some (Hu e sg t):=by
 unfold yj Hu;rw[a9b sg hI,o8];cases x8 (oC e sg).2.2 0
 .rfl
 simp only[E5,o6,o7];cases V9 (x8 (oC e sg).1.1 t.1) (x8 (oC e sg).1.2 t.2)<;>rfl
def a7L(r:V8):Prop:=r.1.length<=1000000/\r.2.2.2.2.2.2.2.length<=1000000/\(∀n∈r.2.2.2.2.2.1,jl n.2)/\(∀n∈r.2.2.2.2.2.2.1,jl n.2)
def Lt(rs:List V8)(d:Int):Nat:=rs.countP λo=>x8 o.2.1 d
def WE(r:V8)(sg:J5)(t:Int×Int):Int:=
 l7 (E9 0 (o9 r.2.2.2.2.2.1)) (l7 (x8 (Hu r.2.2.2.2.2.1 sg (1,0)) 0) (Hu r.2.2.2.2.2.2.1 sg t) (Hu r.2.2.2.2.2.1 sg (1,0))) (Hu r.2.2.2.2.2.2.1 sg t)
def MK(s:A8)(sg:J5)(k:Nat)(r:V8):Int:=
 l7 (Ez r.1) (l7 ((s.2.2.2.2.take k).any λx=>seq x.1 r.1) 7 (match F9 s.2.2.2.1 r.2.1 with
  |none=>6|some d=>l7 (l7 (x8 r.2.2.1 (-1)) false (l7 (E9 r.2.2.1 0) true (l7 (N7 k r.2.2.1) true (match F9 s.2.2.2.2 r.2.2.1 with|some q=>D9 (x8 q.2.1 r.2.1)|none=>true)))) 9
   (l7 (E9 r.2.2.2.1 0) 3 (l7 (E9 9 r.2.2.2.1) 3 (l7 (HY r.2.2.2.2.1) (l7 (x8 r.2.2.2.2.1.1 r.2.2.2.2.1.2) 3
    (l7 (N7 8 (Lt (s.2.2.2.2.take k) r.2.1)) 4 (l7 (a1O r.2.2.2.2.2.2.2) (WE r sg d.2) 2))) 3))))) 2
theorem kw{l:List α}{i:Int}(h:N7 0 i=false\/E9 i (o9 l)=false):F9 l i=none:=by
 unfold F9
 split
 .rename_i h0;rcases h with h|h
  .rw[BZ]at h;omega
  .rw[iU]at h;simp only[o9]at h;exact jg l9
 .rfl
variable {s:A8}{r:V8}{k:Nat}
theorem a3x(sg:J5)(hr:s.2.2.2.2[k]? =some r)(hl:s.2.2.2.2.length<=1000)(h:a7L r):FK s (k:Int) sg=some (MK s sg k r):=by
 have hk:=(V6.1 hr).1;have hcnt:Lt (s.2.2.2.2.take k) r.2.1<=1000:=by have:=tJ (l:=s.2.2.2.2.take k) (p:=λ(o:V8)=>x8 o.2.1 r.2.1);unfold Lt;simp at this;omega
 unfold FK;rw[F5,hr,o8,CV l9,o8];refine X8 (nK (s.2.2.2.2.take k) (λ(c:Nat) (o:V8)=>l7 (x8 o.2.1 r.2.1) (c+1) c) (λc i=>((c:Int),i)) (λc=>(c:Int)) (λi c=>c<=i) (b:=0) Y2 l9 (λi a c ha hi hc=>?_) (λc hc=>?_)).1 ?_
 rotate_left 2
 .have hf:∀(l:List V8) (c:Nat),l.foldl (λ(c:Nat) (o:V8)=>l7 (x8 o.2.1 r.2.1) (c+1) c) c=c+Lt l r.2.1:=by
   intro l;induction l with
   |nil=>intro c;rfl|cons a l ih=>intro c;rw[G9,ih];unfold Lt;rw[yE];cases x8 a.2.1 r.2.1<;>simp<;>omega
  rw[hf,dF,o8,ut h.1,o8,o8,a8x _ Y2,o8];unfold MK;cases Ez r.1
  .rfl
  simp only[E5,o6,o7,o8];cases (s.2.2.2.2.take k).any λx=>seq x.1 r.1
  case true=>rfl
  simp only[o6];rw[pI r.2.1 0,Bz (o9 s.2.2.2.1) r.2.1];cases h0:N7 0 r.2.1
  .rw[kw (.inl h0)];rfl
  cases h1:E9 r.2.1 (o9 s.2.2.2.1)
  .rw[kw (.inr h1)];rfl
  obtain⟨d,hd,_⟩:=ng (jJ.1 h0) (iW.1 h1);rw[hd];simp only[jY,o6,o8,a1m h.2.1];have hpar:(l7 (D9 (x8 r.2.2.1 (-1))) (l7 (E9 r.2.2.1 0) (some true) (l7 (N7 (k:Int) r.2.2.1) (some true) (o5 (F9 s.2.2.2.2 r.2.2.1) λ(x_6:V8)=>some (D9 (x8 x_6.2.1 r.2.1))))) (some false))=
    some (l7 (x8 r.2.2.1 (-1)) false (l7 (E9 r.2.2.1 0) true (l7 (N7 k r.2.2.1) true (match F9 s.2.2.2.2 r.2.2.1 with|some q=>D9 (x8 q.2.1 r.2.1)|none=>true)))):=by
   cases x8 r.2.2.1 (-1)
   case true=>rfl
   simp only[aV,o7,o6];cases hp0:E9 r.2.2.1 0
   case true=>rfl
   cases hp1:N7 (k:Int) r.2.2.1
   case true=>rfl
   rw[iU]at hp0;rw[BZ]at hp1;obtain⟨q,hq,_⟩:=ng (l:=s.2.2.2.2) hp0 (by simp only[o9];omega);rw[hq];rfl
  rw[hpar,o8];cases (l7 (x8 r.2.2.1 (-1)) false (l7 (E9 r.2.2.1 0) true (l7 (N7 k r.2.2.1) true (match F9 s.2.2.2.2 r.2.2.1 with|some q=>D9 (x8 q.2.1 r.2.1)|none=>true))))
  case true=>rfl
  simp only[o6];cases E9 r.2.2.2.1 0
  case true=>rfl
  simp only[o6,o8];cases E9 9 r.2.2.2.1
  case true=>rfl
  simp only[o6];have hval:∀(A B:Option (V8⊕Int)),l7 (E9 r.2.2.2.2.1.1 0) A (l7 (N7 r.2.2.2.2.1.2 r.2.2.2.2.1.1) A (l7 (E9 109573 r.2.2.2.2.1.2) A B))=l7 (HY r.2.2.2.2.1) (l7 (x8 r.2.2.2.2.1.1 r.2.2.2.2.1.2) A B) A:=by
   intro A B;unfold HY;by_cases v0:r.2.2.2.2.1.1<(0:Int)
   .rw[V5 v0,ax (show r.2.2.2.2.1.1<(0:Int)from v0)];rfl
   rw[N9 (jb.1 v0),Z9 (jb.1 v0)];by_cases v1:(r.2.2.2.2.1.2:Int)<=r.2.2.2.2.1.1
   .rw[Z9 v1];by_cases v2:(r.2.2.2.2.1.1:Int)<=r.2.2.2.2.1.2
    .rw[Z9 v2,J7 (Int.le_antisymm v2 v1)];cases N7 r.2.2.2.2.1.2 109573<;>rfl
    .rw[ax (lQ.1 v2)];rfl
   .have v1' :=lQ.1 v1;rw[ax v1',Z9 (Int.le_of_lt v1'),J6 (λhh=>by rw[hh]at v1';exact Int.lt_irrefl _ v1'),pI];cases N7 r.2.2.2.2.1.2 109573<;>rfl
  rw[hval];cases HY r.2.2.2.2.1
  .rfl
  cases x8 r.2.2.2.2.1.1 r.2.2.2.2.1.2
  case true=>rfl
  simp only[o7,o6];cases N7 8 ((Lt (s.2.2.2.2.take k) r.2.1:Nat):Int)
  case true=>rfl
  cases a1O r.2.2.2.2.2.2.2
  .rfl
  simp only[E5,o6,o7,o8,L6,WE,hd,Uz sg _ h.2.2.1,Uz sg _ h.2.2.2];cases E9 0 (o9 r.2.2.2.2.2.1)
  .rfl
  simp only[o7];cases x8 (Hu r.2.2.2.2.2.1 sg (1,0)) 0<;>rfl
 .have hc' :c<=1000000:=l9;obtain⟨ha1,ha2⟩:=VS ha;simp only[H5 ha,o7,F5,ha,o8];rw[Z5 (show i<=9000000000000000000 by omega),Z5 (show c<=9000000000000000000 by omega)];cases x8 a.2.1 r.2.1
  .exact⟨rfl,by show c<=i+1;omega⟩
  .exact⟨rfl,by show c+1<=i+1;omega⟩
 .simp only[G7];rfl
theorem a8V(s:A8)(d:Int):Jp s d=some (l7 (N7 0 d) (E9 d (o9 s.2.2.2.1)) false):=by unfold Jp;cases N7 0 d<;>rfl
theorem a2o(r:V8):∀(l:List V8) (c:Nat),aP (λ(c:Nat) (o:V8)=>l7 (seq o.1 r.1) (.inr (7:Int)) (.inl (l7 (x8 o.2.1 r.2.1) (c+1) c))) l c=l7 (l.any λx=>seq x.1 r.1) (.inr 7) (.inl (c+Lt l r.2.1))
 |[],c=>rfl|a::l,c=>by
  unfold aP;rw[lZ];cases seq a.1 r.1
  case true=>rfl
  simp only[o6,lY];rw[a2o r l];unfold Lt;rw[yE];cases x8 a.2.1 r.2.1
  .simp only[o6,dP,if_false,bM]
  .simp only[o7,if_true];rw[show c+1+List.countP (λo=>x8 o.2.1 r.2.1) l=c+(List.countP (λo=>x8 o.2.1 r.2.1) l+1) by omega]
variable {l:S9}
theorem a1L(hL:Un l)(hs:l.2.2[i]? =some s)(hr:s.2.2.2.2[k]? =some r)(h:a7L r):GY l (i:Int) (k:Int)=some (MK s (Dn l s) k r):=by
 have hk:=(V6.1 hr).1;have hl:=(hL s (iL hs)).2.2.2;have hcnt:Lt (s.2.2.2.2.take k) r.2.1<=1000:=by have:=tJ (l:=s.2.2.2.2.take k) (p:=λ(o:V8)=>x8 o.2.1 r.2.1);unfold Lt;simp at this;omega
 unfold GY MK;rw[F5,hs,o8,F5,hr,o8,oU h.1,o8];cases Ez r.1
 .rfl
 simp only[E5,o6,o7];refine X8 (TN (s.2.2.2.2.take k) (λ(c:Nat) (o:V8)=>l7 (seq o.1 r.1) (.inr (7:Int)) (.inl (l7 (x8 o.2.1 r.2.1) (c+1) c))) (λc i=>((c:Int),i)) (λc=>(c:Int)) (λi c=>c<=i) (b:=0) Y2 l9 (λj a c ha hi hc=>?_) (λc hc=>?_)).1 ?_
 rotate_left 2
 .rw[a2o];cases (s.2.2.2.2.take k).any λx=>seq x.1 r.1
  case true=>rfl
  simp only[o6,dF,o8,L6];rw[pI r.2.1 0,Bz (o9 s.2.2.2.1) r.2.1];cases h0:N7 0 r.2.1
  .rw[kw (.inl h0)];rfl
  cases h1:E9 r.2.1 (o9 s.2.2.2.1)
  .rw[kw (.inr h1)];rfl
  obtain⟨d,hd,_⟩:=ng (jJ.1 h0) (iW.1 h1);rw[hd];simp only[jY,o6,o8,L6];have hpar:(l7 (D9 (x8 r.2.2.1 (-1))) (l7 (E9 r.2.2.1 0) (some (Sum.inr (9:Int))) (l7 (N7 (k:Int) r.2.2.1) (some (.inr 9)) (o5 (F9 s.2.2.2.2 r.2.2.1) λ(x:V8)=>l7 (D9 (x8 x.2.1 r.2.1)) (some (.inr 9)) (some (.inl PUnit.unit))))) (some (.inl PUnit.unit)))=
    some (l7 (l7 (x8 r.2.2.1 (-1)) false (l7 (E9 r.2.2.1 0) true (l7 (N7 k r.2.2.1) true (match F9 s.2.2.2.2 r.2.2.1 with|some q=>D9 (x8 q.2.1 r.2.1)|none=>true)))) (.inr 9) (.inl PUnit.unit)):=by
   cases x8 r.2.2.1 (-1)
   case true=>rfl
   simp only[aV,o7,o6];cases hp0:E9 r.2.2.1 0
   case true=>rfl
   cases hp1:N7 (k:Int) r.2.2.1
   case true=>rfl
   rw[iU]at hp0;rw[BZ]at hp1;obtain⟨q,hq,_⟩:=ng (l:=s.2.2.2.2) hp0 (by simp only[o9];omega);rw[hq];simp only[o8,o6];cases x8 q.2.1 r.2.1<;>rfl
  rw[hpar,o8];cases (l7 (x8 r.2.2.1 (-1)) false (l7 (E9 r.2.2.1 0) true (l7 (N7 k r.2.2.1) true (match F9 s.2.2.2.2 r.2.2.1 with|some q=>D9 (x8 q.2.1 r.2.1)|none=>true))))
  case true=>rfl
  simp only[o6,L6];cases E9 r.2.2.2.1 0
  case true=>rfl
  cases E9 9 r.2.2.2.1
  case true=>rfl
  simp only[o6,NR,o8];cases HY r.2.2.2.2.1
  .rfl
  cases x8 r.2.2.2.2.1.1 r.2.2.2.2.1.2
  case true=>rfl
  simp only[E5,o7,o6,o8,L6];cases N7 8 ((Lt (s.2.2.2.2.take k) r.2.1:Nat):Int)
  case true=>rfl
  simp only[o6,a4h h.2.1,o8];cases a1O r.2.2.2.2.2.2.2
  .rfl
  simp only[E5,o6,o7,o8,a1M hL hs,WE,hd,UG (Dn l s) _ h.2.2.1,UG (Dn l s) _ h.2.2.2];cases E9 0 (o9 r.2.2.2.2.2.1)
  .rfl
  simp only[o7];cases x8 (Hu r.2.2.2.2.2.1 (Dn l s) (1,0)) 0<;>rfl
 .obtain⟨ha1,ha2⟩:=VS ha;simp only[V5 (show(j:Int)<(k:Int) by omega),o7,F5,ha2,o8];rw[Z5 (show j<=9000000000000000000 by omega),Z5 (show c<=9000000000000000000 by omega)];cases seq a.1 r.1
  .cases x8 a.2.1 r.2.1
   .exact⟨rfl,λb' hb=>by cases hb;show c<=j+1;omega⟩
   .exact⟨rfl,λb' hb=>by cases hb;show c+1<=j+1;omega⟩
  .exact⟨rfl,λb' hb=>by cases hb⟩
 .have e:(s.2.2.2.2.take k).length=k:=by simp;omega
  simp only[e,N9 (show(k:Int)<=(k:Int) by omega)];rfl
structure SmS (s:A8):Prop where
 nm:s.1.length<=1000000
 ni:s.2.2.1.length<=14
 nd:s.2.2.2.1.length<=14
 nr:s.2.2.2.2.length<=60
 fo:a5a s
 ro:∀r∈s.2.2.2.2,a7L r/\r.2.2.2.2.2.1.length<=50/\r.2.2.2.2.2.2.1.length<=50
theorem a4q:uX=nR:=rfl
def TJ(n:Int)(b:c9h×Bool)(a:Int):c9h×Bool:=l7 b.2 (b.1++[a],true) (l7 (N7 n a) (l7 (E9 n a) (b.1++[n]++[a],true) (b.1++[a],true)) (b.1++[a],false))
theorem a8B(n:Int):∀(l p:c9h),l.foldl (TJ n) (p,true)=(p++l,true)
 |[],p=>by simp|a::l,p=>by rw[G9,show TJ n (p,true) a=(p++[a],true)from rfl,a8B n l];simp
theorem b4D(n:Int):∀(l p:c9h),(l7 (l.foldl (TJ n) (p,false)).2 (l.foldl (TJ n) (p,false)).1 ((l.foldl (TJ n) (p,false)).1++[n]))=p++ins n l
 |[],p=>rfl|a::l,p=>by
  rw[G9];unfold ins;by_cases h1:n<=a
  .rw[if_pos h1];by_cases h2:n<a
   .rw[if_pos h2,show TJ n (p,false) a=(p++[n]++[a],true) by simp[TJ,Z9 h1,V5 h2],a8B];simp
   .rw[if_neg h2,show TJ n (p,false) a=(p++[a],true) by simp[TJ,Z9 h1,N9 (show a<=n by omega)],a8B];simp
  .rw[if_neg h1,show TJ n (p,false) a=(p++[a],false) by simp[TJ,ax (show a<n by omega)],b4D n l];simp
theorem Cc{l:c9h}(n:Int)(hl:l.length<=1000000):nR l n=some (ins n l):=by
 unfold nR;refine aO l (TJ n) (λb i=>(b.1,b.2,i)) (λb=>b) (λi b=>b.1.length<=i+1/\(b.2=false->b.1.length<=i)) (([],false):c9h×Bool) hl x9 (λi a b ha hi hI=>?_) (λb hI=>?_) (λh2=>?_)
 .obtain⟨o,d⟩:=b;simp only at hI;simp only[H5 ha,o7,F5,ha,o8];rw[Z5 l9];cases d
  .simp only[aV,o7,TJ,o6];have:=hI.2 rfl;cases N7 n a
   .rw[o6,jB a (show o.length<=1000000 by omega)];exact⟨rfl,by simp<;>omega,by simp<;>omega⟩
   .rw[o7];cases E9 n a
    .rw[o6,jB a (show o.length<=1000000 by omega)];exact⟨rfl,by simp<;>omega,x9⟩
    .rw[o7,jB n (show o.length<=1000000 by omega),o8,Ny Y2];exact⟨rfl,by simp<;>omega,x9⟩
  .simp only[E5,o6,TJ,o7];rw[Ny Y2];exact⟨rfl,by simp<;>omega,x9⟩
 .simp only[G7];rfl
 .have hf:=b4D n l [];generalize l.foldl (TJ n) ([],false)=b at*;obtain⟨o,d⟩:=b;cases d
  .simp only[o6,H9]at hf;simp only[aV,o7];rw[jB _ (by simp at h2;omega),hf];rfl
  .simp only[o7,H9]at hf;simp only[E5,o6,hf]
def isM(op:Int):Bool:=l7 (N7 36 op) (N7 op 39) false
theorem c1p(op:Int):isM op=l7 (x8 op 36) true (l7 (x8 op 37) true (l7 (x8 op 38) true (x8 op 39))):=by
 unfold isM;by_cases h1:36<=op
 .rw[Z9 h1,o7];by_cases h2:op<=39
  .rw[Z9 h2];have:op=36\/op=37\/op=38\/op=39:=l9;rcases this with rfl|rfl|rfl|rfl<;>rfl
  .rw[ax l9,J6 l9,J6 l9,J6 l9,J6 l9];rfl
 .rw[ax l9,J6 l9,J6 l9,J6 l9,J6 l9];rfl
def Vf(p:Int->Bool)(e:c9k):c9h:=(e.filter λn=>p n.1).map (·.2)
def pg(e:c9k):c9h×c9h×c9h:=(Ov (Vf (λo=>x8 o 7) e),Ov (Vf (λo=>x8 o 8) e),Ov (Vf isM e))
def b2P(g:c9h->Int->c9h)(b:c9h×c9h×c9h)(n:Int×Int):c9h×c9h×c9h:=
 (l7 (x8 n.1 7) (g b.1 n.2) b.1,l7 (x8 n.1 8) (g b.2.1 n.2) b.2.1,l7 (isM n.1) (g b.2.2 n.2) b.2.2)
theorem Xk(g:c9h->Int->c9h):∀(e:c9k) (b:c9h×c9h×c9h),e.foldl (b2P g) b=((Vf (λo=>x8 o 7) e).foldl g b.1,(Vf (λo=>x8 o 8) e).foldl g b.2.1,(Vf isM e).foldl g b.2.2)
 |[],b=>rfl|n::e,b=>by
  have hn:∀p:Int->Bool,Vf p (n::e)=l7 (p n.1) (n.2::Vf p e) (Vf p e):=λp=>by unfold Vf;rw[fK];cases p n.1<;>rfl
  rw[G9,Xk g e,hn,hn,hn];unfold b2P;simp only;cases x8 n.1 7<;>cases x8 n.1 8<;>cases isM n.1<;>rfl
theorem a2p:∀(l b:c9h),l.foldl (λacc n=>acc++[n]) b=b++l
 |[],b=>by simp|a::l,b=>by rw[G9,a2p l];simp
theorem KQ{a k:Int}(h:a=k)(m:Int)(hm:k≠m):x8 a m=false:=J6 l9
theorem JP{l:c9h}(hl:l.length<=1000000):yu l=some (Ov l):=by unfold yu;have:=b9J (l:=l) hl;rw[show(λx=>o5 (uB x) λ(x:c9h)=>some x)=λx=>uB x from funext λx=>bV _];exact this
theorem FW(h:e.length<=1000000):qO e=some (pg e):=by
 unfold qO;refine aO e (b2P (λacc n=>acc++[n])) (λb i=>(b.1,b.2.1,b.2.2,i)) (λb=>b) (λi b=>b.1.length<=i/\b.2.1.length<=i/\b.2.2.length<=i) (([],[],[]):c9h×c9h×c9h) h x9 (λi a b ha hi hI=>?_) (λb hI=>?_) (λh2=>?_)
 .obtain⟨b1,b2,b3⟩:=b;simp only at hI;simp only[H5 ha,o7,F5,ha,o8,jB a.2 (show b1.length<=1000000 by omega),jB a.2 (show b2.length<=1000000 by omega),jB a.2 (show b3.length<=1000000 by omega),b2P,c1p];rw[Z5 l9];by_cases h7:a.1=7
  .rw[J7 h7,KQ h7 8 G6,KQ h7 36 G6,KQ h7 37 G6,KQ h7 38 G6,KQ h7 39 G6];exact⟨rfl,by simp<;>omega,by simp<;>omega,by simp<;>omega⟩
  rw[J6 h7];by_cases h8:a.1=8
  .rw[J7 h8,KQ h8 36 G6,KQ h8 37 G6,KQ h8 38 G6,KQ h8 39 G6];exact⟨rfl,by simp<;>omega,by simp<;>omega,by simp<;>omega⟩
  rw[J6 h8];cases x8 a.1 36<;>cases x8 a.1 37<;>cases x8 a.1 38<;>cases x8 a.1 39<;>exact⟨rfl,by simp<;>omega,by simp<;>omega,by simp<;>omega⟩
 .simp only[G7];rfl
 .rw[Xk]at h2 ⊢;simp only[a2p,H9]at h2 ⊢;rw[JP l9,o8,JP l9,o8,JP l9];rfl
theorem DX(h:e.length<=500000):sK e=some (pg e):=by
 unfold sK;refine aO e (b2P (λacc n=>ins n acc)) (λb i=>(b.1,b.2.1,b.2.2,i)) (λb=>b) (λi b=>b.1.length<=i/\b.2.1.length<=i/\b.2.2.length<=i) (([],[],[]):c9h×c9h×c9h) l9 x9 (λi a b ha hi hI=>?_) (λb hI=>?_) (λh2=>?_)
 .obtain⟨b1,b2,b3⟩:=b;simp only at hI;have l1:=xG a.2 b1;have l2:=xG a.2 b2;have l3:=xG a.2 b3;rw[a4q];simp only[H5 ha,o7,F5,ha,o8,Cc a.2 (show b1.length<=1000000 by omega),Cc a.2 (show b2.length<=1000000 by omega),Cc a.2 (show b3.length<=1000000 by omega),b2P,isM];rw[Z5 l9];by_cases h7:a.1=7
  .rw[J7 h7,KQ h7 8 G6,ax (show a.1<36 by omega)];exact⟨rfl,by simp<;>omega,by simp<;>omega,by simp<;>omega⟩
  rw[J6 h7];cases x8 a.1 8<;>cases N7 36 a.1<;>cases N7 a.1 39<;>exact⟨rfl,by simp<;>omega,by simp<;>omega,by simp<;>omega⟩
 .simp only[G7];rfl
 .rw[Xk];rfl
theorem a6u(p:Int->Bool)(e:c9k):(Vf p e).length<=e.length:=by unfold Vf;rw[P6];exact bD _ _
theorem IE(e:c9k):(pg e).2.1.length<=e.length:=iI (JV _) (a6u _ e)
theorem IG(e:c9k):(pg e).2.2.length<=e.length:=iI (JV _) (a6u _ e)
def inD(n d:Int):Bool:=l7 (N7 0 d) (E9 d n) false
def Gq(n:Int)(r:V8):c9h:=(pg r.2.2.2.2.2.1).2.1.filter (inD n)++(pg r.2.2.2.2.2.2.1).2.1.filter (inD n)
theorem x_(p:Int->Bool):∀(l b:c9h),l.foldl (λacc x=>l7 (p x) (acc++[x]) acc) b=b++l.filter p
 |[],b=>by simp|a::l,b=>by rw[G9,x_ p l,fK];cases p a<;>simp
variable {f:c9h×Int->Option ((c9h×Int)⊕c9h)}
theorem a2m(l b:c9h)(n:Int)(hl:l.length<=1000)(hb:b.length<=1000)
  (hin:∀(i:Nat) (a:Int) (acc:c9h),l[i]? =some a->i<=1000000->f (acc,(i:Int))=l7 (N7 0 a) (l7 (E9 a n) (o5 (di acc [a]) λx=>some (.inl (x,A7 .i64 (i:Int) 1))) (some (.inl (acc,A7 .i64 (i:Int) 1)))) (some (.inl (acc,A7 .i64 (i:Int) 1))))
  (hend:∀acc,f (acc,(l.length:Int))=some (.inr acc)):ay f (b,0)=some (b++l.filter (inD n)):=by
 have key:=nK l (λ(acc:c9h) x=>l7 (inD n x) (acc++[x]) acc) (λb i=>(b,i)) (λb=>b) (λi acc=>acc.length<=1000+i) (f:=f) (b:=b) l9 l9 ?_ ?_
 .rw[key.1,x_]
 .intro i a acc ha hi hI;have:=(V6.1 ha).1;rw[hin i a acc ha hi,Z5 l9,jB _ l9];unfold inD;cases N7 0 a
  .exact⟨rfl,by show acc.length<=_;omega⟩
  cases E9 a n
  .exact⟨rfl,by show acc.length<=_;omega⟩
  .exact⟨rfl,by simp;omega⟩
 .intro acc hI;rw[hend]
theorem WA(n:Int)(h1:r.2.2.2.2.2.1.length<=50)(h2:r.2.2.2.2.2.2.1.length<=50):xy r n=some (Gq n r):=by
 have g1:=IE r.2.2.2.2.2.1;have g2:=IE r.2.2.2.2.2.2.1;unfold xy Gq;rw[FW l9,o8,FW l9,o8];refine X8 (a2m (pg r.2.2.2.2.2.1).2.1 [] n l9 x9 (λi a acc ha hi=>?_) (λacc=>?_)) ?_
 rotate_left 2
 .rw[o8,bV,H9];have:=bD (inD n) (pg r.2.2.2.2.2.1).2.1;refine a2m (pg r.2.2.2.2.2.2.1).2.1 _ n l9 l9 (λi a acc ha hi=>?_) (λacc=>?_)
  .simp only[H5 ha,o7,F5,ha,o8];rw[show O8 (pg r.2.2.2.2.2.2.1).2.1 (U6 (i:Int))=some a from ha,o8]
  .simp only[G7];rfl
 .simp only[H5 ha,o7,F5,ha,o8];rw[show O8 (pg r.2.2.2.2.2.1).2.1 (U6 (i:Int))=some a from ha,o8]
 .simp only[G7];rfl
def nD(s:A8):Int:=o9 s.2.2.2.1
def dl(n:Int)(rs:List V8)(d:Int):c9h:=rs.flatMap λr=>l7 (x8 r.2.1 d) (Gq n r) []
def O6(s:A8)(d:Int):c9h:=l7 (inD (nD s) d) (Ov (dl (nD s) s.2.2.2.2 d)) []
theorem Xf(h:SmS s)(hr:r∈s.2.2.2.2)(n:Int):(Gq n r).length<=100:=by obtain⟨_,h1,h2⟩:=h.ro r hr;have a1:=IE r.2.2.2.2.2.1;have a2:=IE r.2.2.2.2.2.2.1;have b1:=bD (inD n) (pg r.2.2.2.2.2.1).2.1;have b2:=bD (inD n) (pg r.2.2.2.2.2.2.1).2.1;unfold Gq;rw[E8];omega
theorem b0l(n:Int)(rs:List V8)(r:V8)(d:Int):dl n (rs++[r]) d=dl n rs d++l7 (x8 r.2.1 d) (Gq n r) []:=by unfold dl;rw[List.flatMap_append];simp
theorem b0k(n:Int)(rs:List V8)(r:V8)(d:Int):dl n (r::rs) d=l7 (x8 r.2.1 d) (Gq n r) []++dl n rs d:=rfl
theorem a8i{s:A8}(h:SmS s)(n d:Int):∀(rs:List V8),(∀r∈rs,r∈s.2.2.2.2)->(dl n rs d).length<=100*rs.length
 |[],_=>by simp[dl]|r::rs,hm=>by
  have ih:=a8i h n d rs λr hr=>hm r (by simp[hr]);have h1:=Xf h (hm r x9) n;rw[b0k,E8,G8];cases x8 r.2.1 d
  .simp only[o6,bT];omega
  .simp only[o7];omega
variable {d:Int}{x:Int}
theorem b4X{n:Int}{rs:List V8} :x∈dl n rs d↔∃r∈rs,r.2.1=d/\x∈Gq n r:=by
 unfold dl;rw[List.mem_flatMap];constructor
 .rintro⟨r,hr,hx⟩;cases hq:x8 r.2.1 d<;>rw[hq]at hx
  .simp at hx
  .exact⟨r,hr,O9.1 hq,hx⟩
 .rintro⟨r,hr,hq,hx⟩;exact⟨r,hr,by rw[J7 hq];exact hx⟩
theorem b6i{n:Int}(h:x∈Gq n r):0<=x/\x<n:=by
 have key:inD n x=true:=by unfold Gq at h;rcases D6.1 h with h|h<;>exact(Y4.1 h).2
 unfold inD at key;cases h0:N7 0 x<;>rw[h0]at key
 .cases key
 .exact⟨jJ.1 h0,iW.1 key⟩
theorem CG(s:A8)(d:Int):SI (O6 s d):=by
 unfold O6;cases inD (nD s) d
 .exact List.Pairwise.nil
 .exact a4K _
theorem yl(h:x∈O6 s d):0<=x/\x<nD s:=by
 unfold O6 at h;cases hq:inD (nD s) d<;>rw[hq]at h
 .simp at h
 .obtain⟨r,_,_,hx⟩:=b4X.1 ((Bd _ _).1 h);exact b6i hx
theorem a5V(s:A8)(l b:c9h)(hl:l.length<=1000)(hb:b.length<=100000)
  (hin:∀(i:Nat) (a:Int) (acc:c9h),l[i]? =some a->i<=1000000->f (acc,(i:Int))=o5 (Jp s a) λx=>l7 x (o5 (nR acc a) λx=>some (.inl (x,A7 .i64 (i:Int) 1))) (some (.inl (acc,A7 .i64 (i:Int) 1))))
  (hend:∀acc,f (acc,(l.length:Int))=some (.inr acc)):ay f (b,0)=some (Gi (l.filter (inD (nD s))) b):=by
 have key:=nK l (λ(acc:c9h) x=>l7 (inD (nD s) x) (ins x acc) acc) (λb i=>(b,i)) (λb=>b) (λi acc=>acc.length<=100000+i) (f:=f) (b:=b) l9 l9 ?_ ?_
 .have hf:∀(l b:c9h),l.foldl (λ(acc:c9h) x=>l7 (inD (nD s) x) (ins x acc) acc) b=Gi (l.filter (inD (nD s))) b:=by
   intro l;induction l with
   |nil=>intro b;rfl|cons a l ih=>intro b;rw[G9,ih,fK];cases inD (nD s) a<;>rfl
  rw[key.1,hf]
 .intro i a acc ha hi hI;have hlt:=(V6.1 ha).1;have h2:=xG a acc;rw[hin i a acc ha hi,a8V,o8,Z5 l9,Cc _ l9];change l7 (inD (nD s) a) _ _=_/\_;cases inD (nD s) a
  .exact⟨rfl,by show acc.length<=_;omega⟩
  .exact⟨rfl,by show(ins a acc).length<=_;omega⟩
 .intro acc hI;rw[hend]
theorem TY(h:SmS s)(d:Int):Ed s d=some (O6 s d):=by
 have hnr:=h.nr;unfold Ed O6;rw[a8V,o8];change l7 (D9 (inD (nD s) d)) _ _=_;cases inD (nD s) d
 .rfl
 simp only[E5,o6,o7];refine aO s.2.2.2.2 (λ(acc:c9h) r=>l7 (x8 r.2.1 d) (Gi (Gq (nD s) r) acc) acc) (λb i=>(b,i)) (λb=>b) (λi acc=>acc.length<=100*i) [] l9 x9 (λi r acc ha hi hI=>?_) (λacc hI=>?_) (λh2=>?_)
 .have hlt:=(V6.1 ha).1;obtain⟨_,h1,h2⟩:=h.ro r (iL ha);have a1:=IE r.2.2.2.2.2.1;have a2:=IE r.2.2.2.2.2.2.1;have hlen:=CU (Gq (nD s) r) acc;have hrl:=Xf h (iL ha) (nD s);simp only[H5 ha,o7,F5,ha,o8];rw[Z5 l9];cases x8 r.2.1 d
  .exact⟨rfl,by show acc.length<=_;omega⟩
  simp only[E5,o6,o7,DX (show r.2.2.2.2.2.1.length<=500000 by omega),DX (show r.2.2.2.2.2.2.1.length<=500000 by omega),o8];refine⟨?_,by show(Gi (Gq (nD s) r) acc).length<=_;omega⟩;refine X8 (a5V s (pg r.2.2.2.2.2.1).2.1 acc l9 l9 (λi a acc ha hi=>?_) (λacc=>?_)) ?_
  rotate_left 2
  .rw[o8];have hl2:=CU ((pg r.2.2.2.2.2.1).2.1.filter (inD (nD s))) acc;have hl3:=bD (inD (nD s)) (pg r.2.2.2.2.2.1).2.1;refine X8 (a5V s (pg r.2.2.2.2.2.2.1).2.1 _ l9 l9 (λi a acc ha hi=>?_) (λacc=>?_)) ?_
   rotate_left 2
   .rw[o8];unfold Gq;rw[JU]
   .simp only[H5 ha,o7,F5,ha,o8];rw[show O8 (pg r.2.2.2.2.2.2.1).2.1 (U6 (i:Int))=some a from ha];rfl
   .simp only[G7];rfl
  .simp only[H5 ha,o7,F5,ha,o8];rw[show O8 (pg r.2.2.2.2.2.1).2.1 (U6 (i:Int))=some a from ha];rfl
  .simp only[G7];rfl
 .simp only[G7];rfl
 .have hf:∀(l:List V8) (b:c9h),l.foldl (λ(acc:c9h) r=>l7 (x8 r.2.1 d) (Gi (Gq (nD s) r) acc) acc) b=Gi (dl (nD s) l d) b:=by
   intro l;induction l with
   |nil=>intro b;rfl|cons a l ih=>intro b;rw[G9,ih,b0k,JU];cases x8 a.2.1 d<;>rfl
  rw[hf];rfl
theorem Zg(m k:Nat)(f:Nat->α)(v:α):((List.range m).map f).set k v=(List.range m).map λd=>if d=k then v else f d:=by
 apply gm;intro i;rw[Y3,U8,U8,P6,gp];by_cases hi:i<m
 .rw[vM hi];by_cases h:k=i
  .subst h;simp[hi]
  .simp[h,Ne.symm h]
 .have:(List.range m)[i]? =none:=by simp;omega
  rw[this];by_cases h:k=i
  .subst h;simp[hi]
  .simp[h]
def ZH(m:Nat)(rs:List V8):List c9h:=(List.range m).map λ(d:Nat)=>dl (m:Int) rs (d:Int)
theorem VO{l:c9h}(hl:l.length<=1000000):Dv l=some (Ov l):=JP hl
theorem Ii(m:Nat)(f:Nat->α)(h:k<m):((List.range m).map f)[k]? =some (f k):=by rw[U8,vM h];rfl
theorem MR(h:SmS s):wI s=some ((List.range s.2.2.2.1.length).map λ(d:Nat)=>O6 s (d:Int)):=by
 have hnr:=h.nr;have hnd:=h.nd;unfold wI;generalize hm:s.2.2.2.1.length=m at*;have hn:nD s=(m:Int):=by unfold nD o9;rw[hm]
 rw[show o9 s.2.2.2.1=(m:Int)from hn,show qU (m:Int) ([]:c9h)=some (ZH m []) by unfold qU ZH dl;rw[if_pos l9];simp[List.map_const'],o8];refine aO s.2.2.2.2 (λ(b:List c9h) r=>l7 (inD m r.2.1) (b.set r.2.1.toNat ((b.getD r.2.1.toNat [])++Gq m r)) b) (λb i=>(b,i)) (λb=>b) (λi b=>b=ZH m (s.2.2.2.2.take i)) (ZH m []) l9 x9 (λi r b ha hi hI=>?_) (λb hI=>?_) (λh2=>?_)
 .have hlt:=(V6.1 ha).1;obtain⟨_,h1,h2⟩:=h.ro r (iL ha);have hst:s.2.2.2.2.take (i+1)=s.2.2.2.2.take i++[r]:=by
   rw[U9 hlt,(V6.1 ha).2]
  have hlb:o9 b=(m:Int):=by rw[hI];simp[o9,ZH]
  obtain⟨rd,hrd⟩:∃rd:Int,r.2.1=rd:=⟨r.2.1,rfl⟩;simp only[H5 ha,o7,F5,ha,o8,hlb,hrd];rw[Z5 l9,hst];by_cases hd:0<=rd/\rd<(m:Int)
  .obtain⟨d0,d1⟩:=hd;have hk:rd.toNat<m:=l9;have hkk:((rd.toNat:Nat):Int)=rd:=l9;have hg:b[rd.toNat]? =some (dl m (s.2.2.2.2.take i) rd):=by rw[hI];unfold ZH;rw[Ii m _ hk,hkk]
   have hll:=a8i h m rd (s.2.2.2.2.take i) λr hr=>List.mem_of_mem_take hr;have hrl:=Xf h (iL ha) m;have htl:(s.2.2.2.2.take i).length<=60:=by simp;omega
   rw[Z9 d0,V5 d1,show inb rd (m:Int)=true by unfold inb;simp;omega,show O8 b (U6 rd)=some (dl m (s.2.2.2.2.take i) rd)from hg,WA _ h1 h2];simp only[o7,o8];rw[Ny l9,show TU (U6 rd) (U6 rd)=true by simp[TU]];simp only[o7,o8];have hin:inD m rd=true:=by unfold inD;rw[Z9 d0,V5 d1];rfl
   rw[hin,show b.getD rd.toNat []=dl m (s.2.2.2.2.take i) rd by rw[vK,hg];rfl];refine⟨rfl,?_⟩;show b.set rd.toNat _=_;rw[hI];unfold ZH;rw[Zg];apply fC;intro d hdm;rw[b0l,hrd];by_cases hq:d=rd.toNat
   .subst hq;rw[if_pos rfl,hkk,J7 rfl];rfl
   .rw[if_neg hq,J6 l9];simp
  .have hin:inD m rd=false:=by
    unfold inD;by_cases d0:0<=rd
    .rw[Z9 d0,N9 l9];rfl
    .rw[ax l9];rfl
   rw[hin];refine⟨?_,?_⟩
   .unfold inD at hin;cases q0:N7 0 rd
    .rfl
    .rw[q0]at hin;simp only[o7]at hin ⊢;rw[hin];rfl
   .show b=_;rw[hI];unfold ZH;apply fC;intro d hdm;have:=X6.1 hdm;rw[b0l,hrd,J6 l9];simp
 .simp only[G7];rfl
 .rw[bz]at h2;rw[h2];generalize hA:ZH m s.2.2.2.2=A;have hAl:o9 A=(m:Int):=by rw[←hA];simp[o9,ZH]
  refine aO (List.range m) (λ(b:List c9h) d=>b.set d (Ov (b.getD d []))) (λb i=>(b,i)) (λb=>b) (λi b=>b=(List.range m).map λ(d:Nat)=>if d<i then Ov (dl m s.2.2.2.2 (d:Int))else dl m s.2.2.2.2 (d:Int)) A Y2 (by rw[←hA];unfold ZH;simp) (λi d b ha hi hI=>?_) (λb hI=>?_) (λh3=>?_)
  .have hlt:=(V6.1 ha).1;simp only[gp]at hlt;have hdi:d=i:=by rw[vM hlt]at ha;exact(I8 ha).symm
   subst hdi;have hlb:o9 b=(m:Int):=by rw[hI];simp[o9]
   have hg:b[d]? =some (dl m s.2.2.2.2 (d:Int)):=by rw[hI,Ii m _ hlt,if_neg l9]
   have hll:=a8i h m d s.2.2.2.2 λr hr=>hr;simp only[hAl,hlb];rw[V5 (show(d:Int)<(m:Int) by omega),show inb (d:Int) (m:Int)=true by unfold inb;simp;omega,show O8 b (U6 (d:Int))=some (dl m s.2.2.2.2 (d:Int))from hg];simp only[o7,o8];rw[VO l9,show TU (U6 (d:Int)) (U6 (d:Int))=true by simp[TU],Z5 l9];simp only[o7,o8];rw[show b.getD d []=dl m s.2.2.2.2 (d:Int) by rw[vK,hg];rfl];refine⟨rfl,?_⟩;rw[hI,Zg];apply fC;intro e he;by_cases hq:e=d
   .subst hq;rw[if_pos rfl,if_pos l9]
   .rw[if_neg hq];by_cases hq2:e<d
    .rw[if_pos hq2,if_pos l9]
    .rw[if_neg hq2,if_neg l9]
  .simp only[gp,hAl,N9 (show(m:Int)<=(m:Int) by omega)];rfl
  .rw[h3];apply congrArg some;apply fC;intro d hd;have:=X6.1 hd;simp only[gp];rw[if_pos this];unfold O6;rw[hn,show inD (m:Int) (d:Int)=true by unfold inD;rw[Z9 l9,V5 l9];rfl];rfl
def Rch(D:Int->c9h)(d:Int)(L:c9h):Prop:=SI L/\(∀x∈D d,x∈L)/\(∀x∈L,∀y∈D x,y∈L)/\∀C:Int->Prop,(∀x∈D d,C x)->(∀x,C x->∀y∈D x,C y)->∀x∈L,C x
theorem Rch.unique{D:Int->c9h}{L M:c9h}(h:Rch D d L)(k:Rch D d M):L=M:=
 a9o h.1 k.1 λx=>⟨λhx=>h.2.2.2 (λy=>y∈M) k.2.1 k.2.2.1 x hx,λhx=>k.2.2.2 (λy=>y∈L) h.2.1 h.2.2.1 x hx⟩
theorem VQ:∀{B A:c9h},SI A->SI B->(∀x∈A,x∈B)->A=B\/A.length<B.length
 |[],A,_,_,h=>by
  cases A with
  |nil=>exact .inl rfl|cons a A=>exact absurd (h a x9) x9
 |b::B,[],_,_,_=> .inr x9|b::B,a::A,hA,hB,h=>by
  have hA' :=Z4.1 hA;have hB' :=Z4.1 hB;rcases D5.1 (h a x9)with hab|hab
  .subst hab;rcases VQ (B:=B) (A:=A) hA'.2 hB'.2 (λx hx=>by
    rcases D5.1 (h x (by simp[hx]))with h1|h1
    .have:=hA'.1 x hx;omega
    .exact h1)with h1|h1
   .exact .inl (by rw[h1])
   .exact .inr (by simp only[G8];omega)
  .have hab2:=hB'.1 a hab;rcases VQ (B:=B) (A:=a::A) hA hB'.2 (λx hx=>by
    rcases D5.1 (h x hx)with h1|h1
    .rcases D5.1 hx with h2|h2
     .omega
     .have:=hA'.1 x h2;omega
    .exact h1)with h1|h1
   .exact .inr (by rw[h1];simp)
   .exact .inr (by simp only[G8]at*;omega)
def Me(D:Int->c9h)(L:c9h):c9h:=L.foldl (λacc x=>Gi (D x) acc) L
theorem MB(D:Int->c9h)(x:Int):∀(l acc:c9h),x∈l.foldl (λacc x=>Gi (D x) acc) acc↔x∈acc\/∃y∈l,x∈D y
 |[],acc=>by simp|a::l,acc=>by
  rw[G9,MB D x l,UY];constructor
  .rintro((h|h)|⟨y,hy,h⟩)
   .exact .inr ⟨a,x9,h⟩
   .exact .inl h
   .exact .inr ⟨y,by simp[hy],h⟩
  .rintro(h|⟨y,hy,h⟩)
   .exact .inl (.inr h)
   .rcases D5.1 hy with rfl|hy
    .exact .inl (.inl h)
    .exact .inr ⟨y,hy,h⟩
theorem b0Q(D:Int->c9h):∀(l:c9h) {acc:c9h},SI acc->SI (l.foldl (λacc x=>Gi (D x) acc) acc)
 |[],_,h=>h|a::l,_,h=>by rw[G9];exact b0Q D l (Zq _ h)
theorem a0g(D:Int->c9h){L:c9h}(h:SI L):SI (Me D L):=b0Q D L h
def itS(D:Int->c9h)(d:Int):Nat->c9h
 |0=>D d|k+1=>Me D (itS D d k)
section
variable {D:Int->c9h} {n:Nat} (hsi:∀x,SI (D x)) (hin:∀x,∀y∈D x,0<=y/\y<(n:Int))
include hsi hin
theorem a2C(d:Int):∀k,SI (itS D d k)
 |0=>hsi d|k+1=>a0g D (a2C d k)
theorem b0z(d:Int):∀k,∀x∈itS D d k,0<=x/\x<(n:Int)
 |0,x,hx=>hin d x hx|k+1,x,hx=>by
  rcases(MB D x _ _).1 hx with h|⟨y,_,h⟩
  .exact b0z d k x h
  .exact hin y x h
theorem b0y(d:Int)(k:Nat):Me D (itS D d k)=itS D d k\/(itS D d k).length<(Me D (itS D d k)).length:=by
 rcases VQ (a2C hsi hin d k) (a0g D (a2C hsi hin d k)) (λx hx=>(MB D x _ _).2 (.inl hx))with h|h
 .exact .inl h.symm
 .exact .inr h
theorem a2D(d:Int):∀k,Me D (itS D d k)=itS D d k\/k<(Me D (itS D d k)).length
 |0=>by
  rcases b0y hsi hin d 0 with h|h
  .exact .inl h
  .exact .inr l9
 |k+1=>by
  rcases a2D d k with h|h
  .exact .inl (by show Me D (Me D (itS D d k))=Me D (itS D d k);rw[h,h])
  .rcases b0y hsi hin d (k+1)with h2|h2
   .exact .inl h2
   .exact .inr (by have:(itS D d (k+1)).length=(Me D (itS D d k)).length:=rfl;omega)
theorem c1q(d:Int):Rch D d (itS D d n):=by
 have hst:Me D (itS D d n)=itS D d n:=by
  rcases a2D hsi hin d n with h|h
  .exact h
  .have:=a0X n (a0g D (a2C hsi hin d n)) (b0z hsi hin d (n+1));omega
 refine⟨a2C hsi hin d n,?_,?_,?_⟩
 .intro x hx;have:∀k,x∈itS D d k:=by
   intro k;induction k with
   |zero=>exact hx|succ k ih=>exact(MB D x _ _).2 (.inl ih)
  exact this n
 .intro x hx y hy;rw[←hst];exact(MB D y _ _).2 (.inr ⟨x,hx,hy⟩)
 .intro C h1 h2;have:∀k,∀x∈itS D d k,C x:=by
   intro k;induction k with
   |zero=>exact h1|succ k ih=>
    intro x hx;rcases(MB D x _ _).1 hx with h|⟨y,hy,h⟩
    .exact ih x h
    .exact h2 y (ih y hy) x h
  exact this n
end
def aB(s:A8)(d:Int):c9h:=itS (O6 s) d s.2.2.2.1.length
theorem xh(s:A8)(d:Int):Rch (O6 s) d (aB s d):=
 c1q (n:=s.2.2.2.1.length) (CG s) (λx y hy=>yl hy) d
theorem zZ(h:x∈aB s d):0<=x/\x<nD s:=b0z (n:=s.2.2.2.1.length) (CG s) (λx y hy=>yl hy) d _ x h
theorem MX(h:SmS s)(d:Int):(O6 s d).length<=14:=
 iI (a0X s.2.2.2.1.length (CG s d) (λx hx=>yl hx)) h.nd
theorem ER(h:SmS s){l:c9h}(hs:SI l)(hi:∀x∈l,0<=x/\x<nD s):l.length<=14:=iI (a0X s.2.2.2.1.length hs hi) h.nd
theorem zt(h:SmS s)(d:Int):oV s d=some (aB s d):=by
 have hnd:=h.nd;unfold oV;rw[TY h,o8];have hsi:=CG s;have hin:∀x,∀y∈O6 s x,0<=y/\y<((s.2.2.2.1.length:Nat):Int):=λx y hy=>yl hy;refine aO s.2.2.2.1 (λ(b:c9h) (_:bH)=>Me (O6 s) b) (λb i=>(b,i)) (λb=>b) (λi b=>b=itS (O6 s) d i) (O6 s d) l9 rfl (λi f b ha hi hI=>?_) (λb hI=>?_) (λh2=>?_)
 .simp only[H5 ha,o7];refine⟨?_,by show Me _ b=_;rw[hI];rfl⟩;have hb1:SI b:=by rw[hI];exact a2C hsi hin d i
  have hb2:∀x∈b,0<=x/\x<nD s:=by rw[hI];exact b0z hsi hin d i
  have hbl:=ER h hb1 hb2;rw[Z5 l9];refine aO b (λ(acc:c9h) x=>Gi (O6 s x) acc) (λb i=>(b,i)) (λb=>b) (λi acc=>SI acc/\∀x∈acc,0<=x/\x<nD s) b l9 ⟨hb1,hb2⟩ (λj x acc hx hj hJ=>?_) (λacc hJ=>?_) (λh3=>?_)
  .have hal:=ER h hJ.1 hJ.2;have hdl:=MX h x;simp only[H5 hx,o7,F5,hx,o8,TY h x];rw[Z5 l9];refine⟨?_,Zq _ hJ.1,λy hy=>?_⟩
   .refine aO (O6 s x) (λ(acc:c9h) y=>ins y acc) (λb i=>(b,i)) (λb=>b) (λi a=>a.length<=acc.length+i) acc l9 l9 (λk y a hy hk hK=>?_) (λa hK=>?_) (λh4=>?_)
    .have hlt:=(V6.1 hy).1;have hli:=xG y a;simp only[H5 hy,o7,F5,hy,o8];rw[show O8 (O6 s x) (U6 (k:Int))=some y from hy,o8,Cc _ l9,o8,Z5 l9];exact⟨rfl,by show(ins y a).length<=_;omega⟩
    .simp only[G7];rfl
    .rfl
   .rcases(UY y _ _).1 hy with h4|h4
    .exact yl h4
    .exact hJ.2 y h4
  .simp only[G7];rfl
  .rfl
 .simp only[G7];rfl
 .rw[h2];rfl
def mk(S:c9s)(x:Int):Bool:=if 0<=x then S.getD x.toNat false else false
def unm(S:c9s):Nat:=S.count false
def rG(b:c9s×c9h)(e:Int):c9s×c9h:=l7 (mk b.1 e) b (b.1.set e.toNat true,b.2++[e])
variable {S:c9s}
theorem a8G(h0:0<=x)(h1:x<o9 S):S[x.toNat]? =some (mk S x):=by
 unfold mk;rw[if_pos h0,vK];have:x.toNat<S.length:=by simp only[o9]at h1;omega
 rw[dh this];rfl
theorem a0a{e:Int}(h0:0<=e)(h1:e<o9 S)(x:Int):mk (S.set e.toNat true) x=l7 (x8 x e) true (mk S x):=by
 unfold mk;have hl:e.toNat<S.length:=by simp only[o9]at h1;omega
 by_cases hx:0<=x
 .rw[if_pos hx,if_pos hx,vK,vK,Y3];by_cases hq:x=e
  .subst hq;rw[if_pos rfl,if_pos hl,J7 rfl];rfl
  .rw[if_neg l9,J6 hq];rfl
 .rw[if_neg hx,if_neg hx,J6 l9];rfl
theorem b9M{e:Int}(h0:0<=e)(h1:e<o9 S)(hm:mk S e=false):unm (S.set e.toNat true)+1=unm S:=by
 have hl:e.toNat<S.length:=by simp only[o9]at h1;omega
 have hg:=a8G h0 h1;rw[hm,dh hl]at hg;have hg' :S[e.toNat]=false:=I8 hg;unfold unm;rw[List.count_set hl,hg'];have:0<S.count false:=List.count_pos_iff.2 (by rw[←hg'];exact N8 hl);simp;omega
structure RInv (n:Nat) (S:c9s) (Q:c9h) (l:c9h) (S' :c9s) (Q' :c9h):Prop where
 len:S'.length=n
 seen:∀x:Int,0<=x->x<(n:Int)->(mk S' x=true↔mk S x=true\/x∈l)
 sum:Q'.length+unm S' =Q.length+unm S
 le:unm S' <=unm S
 old:∀x∈Q,x∈Q'
 new:∀x∈Q',x∈Q\/x∈l
 got:∀x,mk S' x=true->mk S x=true\/x∈Q'
theorem b6q{n:Nat} :∀(l:c9h) (S:c9s) (Q:c9h),S.length=n->(∀x∈l,0<=x/\x<(n:Int))->RInv n S Q l (l.foldl rG (S,Q)).1 (l.foldl rG (S,Q)).2
 |[],S,Q,hl,_=>⟨hl,λx _ _=>by simp,rfl,F7 _,λx hx=>hx,λx hx=> .inl hx,λx hx=> .inl hx⟩|e::l,S,Q,hl,hi=>by
  have he:=hi e x9;have hel:e<o9 S:=by simp only[o9];omega
  rw[G9];cases hm:mk S e with
  |true=>
   rw[show rG (S,Q) e=(S,Q) by unfold rG;rw[hm];rfl];have ih:=b6q l S Q hl λx hx=>hi x (by simp[hx]);refine⟨ih.len,λx h0 h1=>?_,ih.sum,ih.le,ih.old,λx hx=>?_,ih.got⟩
   .rw[ih.seen x h0 h1,D5];constructor
    .rintro(h|h)
     .exact .inl h
     .exact .inr (.inr h)
    .rintro(h|h|h)
     .exact .inl h
     .subst h;exact .inl hm
     .exact .inr h
   .rcases ih.new x hx with h|h
    .exact .inl h
    .exact .inr (by simp[h])
  |false=>
   rw[show rG (S,Q) e=(S.set e.toNat true,Q++[e]) by unfold rG;rw[hm];rfl];have ih:=b6q l (S.set e.toNat true) (Q++[e]) (by simp[hl]) λx hx=>hi x (by simp[hx]);have hu:=b9M he.1 hel hm;refine⟨ih.len,λx h0 h1=>?_,?_,?_,λx hx=>ih.old x (by simp[hx]),λx hx=>?_,λx hx=>?_⟩
   .rw[ih.seen x h0 h1,a0a he.1 hel,D5];cases hq:x8 x e
    .rw[yD]at hq;simp[hq]
    .rw[O9]at hq;simp[hq]
   .have:=ih.sum;simp only[E8,G8,bT]at this;omega
   .have:=ih.le;omega
   .rcases ih.new x hx with h|h
    .rcases D6.1 h with h|h
     .exact .inl h
     .exact .inr (by simp at h;simp[h])
    .exact .inr (by simp[h])
   .rcases ih.got x hx with h|h
    .rw[a0a he.1 hel]at h;cases hq:x8 x e
     .rw[hq]at h;exact .inl h
     .rw[O9]at hq;subst hq;exact .inr (ih.old _ x9)
    .exact .inr h
def Yi(S:c9s):c9h:=((List.range S.length).filter λi=>S.getD i false).map λ(i:Nat)=>(i:Int)
theorem Ru(x:Int):x∈Yi S↔mk S x=true:=by
 unfold Yi mk;rw[aF];constructor
 .rintro⟨i,hi,rfl⟩;rw[if_pos l9];exact(Y4.1 hi).2
 .intro h;split at h
  .refine⟨x.toNat,Y4.2 ⟨X6.2 ?_,h⟩,l9⟩;rw[vK]at h;cases hg:S[x.toNat]? with
   |none=>rw[hg]at h;cases h|some b=>exact(V6.1 hg).1
  .cases h
theorem b4S(S:c9s):SI (Yi S):=by unfold Yi;refine List.Pairwise.map _ (R:=(·< ·)) (λa b h=>by omega) (List.Pairwise.filter _ rU)
theorem a8F(S:c9s)(hS:S.length<=100)
  (hin:∀(i:Nat) (a:Bool) (acc:c9h),S[i]? =some a->i<=1000000->acc.length<=i->f (acc,(i:Int))=l7 a (o5 (di acc [(i:Int)]) λx=>some (.inl (x,A7 .i64 (i:Int) 1))) (some (.inl (acc,A7 .i64 (i:Int) 1))))
  (hend:∀acc,f (acc,(S.length:Int))=some (.inr acc)):ay f ([],0)=some (Yi S):=by
 have mk2:∀i,i<=S.length->((List.range i).filter λi=>S.getD i false).length<=i:=λi _=>by have:=bD (λi=>S.getD i false) (List.range i);simpa using this
 obtain⟨e,h1,h2⟩:=iM (f:=f) (s:=([],0)) (λx=>∃i:Nat,x=(((List.range i).filter λi=>S.getD i false).map λ(i:Nat)=>(i:Int),(i:Int))/\i<=S.length) (λe=>e=Yi S) (λx=>S.length -x.2.toNat) ⟨0,rfl,l9⟩ Y2 (by
  rintro x ⟨i,rfl,hi⟩;by_cases h:i<S.length
  .have e:=dh h;have hst:(List.range (i+1)).filter (λi=>S.getD i false)=(List.range i).filter (λi=>S.getD i false)++l7 S[i] [i] []:=by
    rw[dL,qE];congr 1;rw[fK,vK,e];cases S[i]<;>rfl
   have hl:=mk2 i hi;refine .inl ⟨(((List.range (i+1)).filter λi=>S.getD i false).map λ(i:Nat)=>(i:Int),((i+1:Nat):Int)),?_,⟨i+1,rfl,h⟩,by simp;omega⟩;rw[hin i _ _ e l9 (by simpa using hl),Z5 l9,hst,gz,jB _ (by rw[P6];omega)];cases S[i]
   .simp
   .rfl
  .have:i=S.length:=l9;subst this;exact .inr ⟨_,hend _,rfl⟩)
 rw[h1,h2]
variable {n:Nat}
theorem a0B{D:Int->c9h}(hn:n<=14)(hsi:∀x,SI (D x))(hin:∀x,∀y∈D x,0<=y/\y<(n:Int))(h0:0<=d)(h1:d<(n:Int)):
  ∃L,Ac ((List.range n).map λ(x:Nat)=>D (x:Int)) d=some L/\Rch D d L:=by
 have hA:o9 ((List.range n).map λ(x:Nat)=>D (x:Int))=(n:Int):=by simp[o9]
 have hget:∀x:Int,0<=x->x<n->F9 ((List.range n).map λ(x:Nat)=>D (x:Int)) x=some (D x):=λx a b=>by
  have:x.toNat<n:=l9;unfold F9
  rw[if_pos a,Ii n _ this,ai a]
 unfold Ac;generalize (List.range n).map (λ(x:Nat)=>D (x:Int))=A at*;rw[hA,show qU (n:Int) false=some (List.replicate n false) by unfold qU;rw[if_pos l9];simp,o8];have hD14:∀x,(D x).length<=14:=λx=>iI (a0X n (hsi x) (hin x)) hn;have key:=iM (f:=λ(x:c9s×c9h)=>l7 (E9 0 (o9 x.2)) (o5 (F9 x.2 0) λ(x_1:Int)=>o5 (O8 x.2 (U6 0)) λ(x_2:Int)=>l7 (qp 1 (o9 x.2) (o9 x.2)) (o5 (F9 A x_2) λ(x_3:c9h)=>
   o5 (ay (λ(x:c9s×c9h×Int)=>l7 (E9 x.2.2 (o9 x_3)) (o5 (F9 x_3 x.2.2) λ(x_4:Int)=>o5 (F9 x.1 x_4) λ(x_5:Bool)=>o5 (O8 x.1 (U6 x_4)) λ(x_6:Bool)=>
     l7 (D9 x_6) (o5 (F9 x.1 x_4) λ(x_7:Bool)=>o5 (O8 x.1 (U6 x_4)) λ(x_8:Bool)=>o5 (di x.2.1 [x_4]) λ(x_9:c9h)=>some (.inl (bu x.1 (U6 x_4) true,x_9,A7 .i64 x.2.2 1)))
      (some (.inl (x.1,x.2.1,A7 .i64 x.2.2 1)))) (some (.inr (x.1,x.2.1)))) (x.1,qh x.2 (U6 1) (U6 (o9 x.2)),0)) λ(y:c9s×c9h)=>some (.inl y)) none) (some (.inr x.1)))
  (s:=(List.replicate n false,[d]))
  (λx=>x.1.length=n/\(∀q∈x.2,0<=q/\q<(n:Int))/\x.2.length+unm x.1<=n+1/\(∀q∈x.2,q=d\/mk x.1 q=true)/\(∀v,v=d\/mk x.1 v=true->v∈x.2\/∀y∈D v,mk x.1 y=true)/\
   (∀C:Int->Prop,(∀x∈D d,C x)->(∀x,C x->∀y∈D x,C y)->∀v,mk x.1 v=true->C v)/\(∀v,mk x.1 v=true->0<=v/\v<(n:Int)))
  (λS=>S.length=n/\Rch D d (Yi S)) (λx=>2*unm x.1+x.2.length) ?_ ?_ ?_
 .obtain⟨S,k1,k2,k3⟩:=key;refine⟨Yi S,?_,k3⟩;refine(lJ k1 _).trans ?_;rw[bV];refine a8F S l9 (λi a acc ha hi hacc=>?_) (λacc=>?_)
  .simp only[H5 ha,o7,F5,ha,o8];rw[show O8 S (U6 (i:Int))=some a from ha,o8]
  .simp only[G7];rfl
 .have hnone:∀v,mk (List.replicate n false) v=false:=λv=>by
   unfold mk;split
   .rw[vK,jA];split<;>rfl
   .rfl
  refine⟨x9,λq hq=>by simp at hq;omega,?_,λq hq=> .inl (by simpa using hq),λv hv=>?_,λC _ _ v hv=>(by rw[hnone]at hv;cases hv),λv hv=>(by rw[hnone]at hv;cases hv)⟩
  .simp[unm,List.count_replicate];omega
  .rcases hv with rfl|hv
   .exact .inl x9
   .rw[hnone]at hv;cases hv
 .simp[unm,List.count_replicate];omega
 .rintro⟨S,Q⟩ ⟨i1,i2,i3,i4,i5,i6,i7⟩;simp only at i1 i2 i3 i4 i5 i6 i7;cases Q with
  |nil=>
   right;refine⟨S,rfl,i1,b4S S,λx hx=>?_,λx hx y hy=>?_,λC c1 c2 x hx=>i6 C c1 c2 x ((Ru x).1 hx)⟩
   .rcases i5 d (.inl rfl)with h|h
    .cases h
    .exact(Ru x).2 (h x hx)
   .rcases i5 x (.inr ((Ru x).1 hx))with h|h
    .cases h
    .exact(Ru y).2 (h y hy)
  |cons q Q=>
   left;have hq:=i2 q x9;have hfold:=b6q (n:=n) (D q) S Q i1 (λx hx=>hin q x hx);refine⟨(D q).foldl rG (S,Q),?_,?_,?_⟩
   .simp only[V5 (show(0:Int)<o9 (q::Q) by simp[o9]<;>omega),o7,show F9 (q::Q) 0=some q from rfl,show O8 (q::Q) (U6 0)=some q from rfl,o8,hget q hq.1 hq.2,
     show qp 1 (o9 (q::Q)) (o9 (q::Q))=true by simp[qp,o9]<;>omega,show qh (q::Q) (U6 1) (U6 (o9 (q::Q)))=Q by simp[qh,U6,o9]]
    refine aO (D q) rG (λb i=>(b.1,b.2,i)) (λb=>b) (λi b=>b.1.length=n/\b.2.length<=100+i) (S,Q) (by have:=hD14 q;omega) ⟨i1,by simp at i3;show Q.length<=100+0;omega⟩ (λi e b he hi hI=>?_) (λb hI=>?_) (λh2=>rfl)
    .obtain⟨S1,Q1⟩:=b;simp only at hI;have hee:=hin q e (iL he);have hlt:=(V6.1 he).1;have hdl:=hD14 q;have hg:=a8G (S:=S1) hee.1 (by simp only[o9];omega);have hla:F9 S1 e=some (mk S1 e):=by unfold F9;rw[if_pos hee.1];exact hg
     have hlg:O8 S1 (U6 e)=some (mk S1 e):=hg;simp only[H5 he,o7,F5 (D q),he,o8,hla,hlg];rw[Z5 l9,jB _ l9];unfold rG;simp only;cases mk S1 e
     .exact⟨rfl,by simp[hI.1],by simp<;>omega⟩
     .exact⟨rfl,hI.1,by show Q1.length<=_;omega⟩
    .simp only[G7];rfl
   .obtain⟨j1,j2,j3,j4,j5,j6,j7⟩:=hfold;generalize (D q).foldl rG (S,Q)=b at*;obtain⟨S',Q'⟩:=b;simp only at j1 j2 j3 j4 j5 j6 j7 ⊢;have hrange:∀v,mk S' v=true->0<=v/\v<(n:Int):=λv hv=>by
     rcases j7 v hv with h|h
     .exact i7 v h
     .rcases j6 v h with h|h
      .exact i2 v (by simp[h])
      .exact hin q v h
    refine⟨j1,λx hx=>?_,?_,λx hx=>?_,λv hv=>?_,λC c1 c2 v hv=>?_,hrange⟩
    .rcases j6 x hx with h|h
     .exact i2 x (by simp[h])
     .exact hin q x h
    .simp only[G8]at i3;omega
    .rcases j6 x hx with h|h
     .rcases i4 x (by simp[h])with h2|h2
      .exact .inl h2
      .have hr:=i7 x h2;exact .inr ((j2 x hr.1 hr.2).2 (.inl h2))
     .have hr:=hin q x h;exact .inr ((j2 x hr.1 hr.2).2 (.inr h))
    .have up:∀y,mk S y=true->mk S' y=true:=λy hy=>by
      have hr:=i7 y hy;exact(j2 y hr.1 hr.2).2 (.inl hy)
     by_cases hvq:v=q
     .subst hvq;right;intro y hy;have hr:=hin v y hy;exact(j2 y hr.1 hr.2).2 (.inr hy)
     .by_cases hold:v=d\/mk S v=true
      .rcases i5 v hold with h|h
       .rcases D5.1 h with h|h
        .exact absurd h hvq
        .exact .inl (j5 v h)
       .exact .inr λy hy=>up y (h y hy)
      .rcases hv with h|h
       .exact absurd (.inl h) hold
       .rcases j7 v h with h2|h2
        .exact absurd (.inr h2) hold
        .exact .inl h2
    .by_cases hS:mk S v=true
     .exact i6 C c1 c2 v hS
     .have hr:=hrange v hv;rcases(j2 v hr.1 hr.2).1 hv with h|h
      .exact absurd h hS
      .rcases i4 q x9 with h2|h2
       .subst h2;exact c1 v h
       .exact c2 q (i6 C c1 c2 q h2) v h
   .have:=hfold.sum;have:=hfold.le;simp only[G8];omega
theorem vV(h:SmS s)(h0:0<=d)(h1:d<nD s):nZ s d=some (aB s d):=by have hn:nD s=((s.2.2.2.1.length:Nat):Int):=rfl;unfold nZ;change l7 (E9 d 0) _ (l7 (N7 (nD s) d) _ _)=_;rw[N9 h0,o6,ax h1,o6,MR h,o8,bV];obtain⟨L,k1,k2⟩:=a0B (D:=O6 s) h.nd (CG s) (λx y hy=>yl hy) h0 (show d<((s.2.2.2.1.length:Nat):Int) by omega);rw[k1,Rch.unique k2 (xh s d)]
structure SmL (l:S9):Prop where
 few:Few l
 en:a9O l
 tb:a5e l
 sc:∀s∈l.2.2,SmS s
theorem SmL.scopes(h:SmL l):Un l:=λs hs=>by have hm:=h.sc s hs;exact⟨hm.nm,by have:=hm.ni;omega,by have:=hm.nd;omega,by have:=hm.nr;omega⟩
theorem sH{ε ρ:Type}{p:Nat->Option ρ}(n:Nat)(hn:n<=1000000)(e:ε){f:Int->Option (Out Int ε ρ)}
  (h1:∀i,i<n->f (i:Int)=some (match p i with|some r=> .rt r|none=> .nx (A7 .i64 (i:Int) 1))) (h2:f (n:Int)=some (.ex e)):
  V7 f 0=some (match au n p with|some r=> .inr r|none=> .inl e):=
 JW n l9 e (λi hi=>by rw[h1 i hi,Z5 l9]<;>cases p i<;>rfl) h2
def MJ(l:S9)(s:A8)(k:Nat):c9p:=match s.2.2.2.2[k]? with|some r=>YS (MK s (Dn l s) k r) (300+k:Nat)|none=>none
def YQ(s:A8)(d:Nat):c9p:=l7 ((aB s d).any λx=>x8 (d:Int) x) (some (9,((200+d:Nat):Int))) none
def GI(l:S9)(i:Nat)(m:Int):Bool:=l7 (x8 m (-1)) false (l7 (E9 m 0) true (l7 (N7 (i:Int) m) true (match F9 l.2.2 m with|some q=>D9 (x8 q.2.1 (-1))|none=>true)))
def Xa(l:S9)(s:A8):Int×Int:=match Ib l s with
 |some r=>r
 |none=>match au s.2.2.2.2.length (MJ l s)with
  |some r=>r
  |none=>match au s.2.2.2.1.length (YQ s)with
   |some r=>r|none=>(0,0)
def He(l:S9)(i:Nat)(s:A8):Int×Int:=
 l7 (Ez s.1) (l7 (EE l 3 i s.1) (7,0) (l7 (GI l i s.2.1) (6,0) (l7 (E9 12 (o9 s.2.2.1)) (4,112) (l7 (E9 12 (o9 s.2.2.2.1)) (4,212) (Xa l s))))) (2,0)
theorem a1w(hL:SmL l)(hs:l.2.2[i]? =some s):DK l (i:Int)=some (He l i s):=by
 have hi:=(V6.1 hs).1;have hS:=hL.sc s (iL hs);have hf:=hL.few;have hf1:=hf.1;have hf2:=hf.2.1;have hf3:=hf.2.2;have n1:=hS.ni;have n2:=hS.nd;have n3:=hS.nr;unfold DK He EE;rw[F5,hs,o8,CV l9,o8,TG _ l9,o8,Yb _ l9,o8,a5Q _ Y2,o8];have hb:(l7 (l.1.any λx=>seq x.1 s.1) (some (s,true)) (l7 (l.2.1.any λx=>seq x.1 s.1) (some (s,true)) (some (s,(l.2.2.take i).any λx=>seq x.1 s.1))))=
   some (s,(l.1.any λx=>seq x.1 s.1) || (l.2.1.any λx=>seq x.1 s.1) || (l.2.2.take i).any λx=>seq x.1 s.1):=by
  cases l.1.any λx=>seq x.1 s.1
  .cases l.2.1.any λx=>seq x.1 s.1<;>rfl
  .rfl
 rw[hb,o8];simp only;rw[ut hS.nm,o8];cases Ez s.1
 .rfl
 simp only[E5,o6,o7];cases (l.1.any λx=>seq x.1 s.1) || (l.2.1.any λx=>seq x.1 s.1) || (l.2.2.take i).any λx=>seq x.1 s.1
 case true=>rfl
 simp only[o6];have hm:(l7 (D9 (x8 s.2.1 (-1))) (l7 (E9 s.2.1 0) (some true) (l7 (N7 (i:Int) s.2.1) (some true) (o5 (F9 (l.2.2.take i) s.2.1) λ(x:A8)=>some (D9 (x8 x.2.1 (-1)))))) (some false))=some (GI l i s.2.1):=by
  unfold GI;cases x8 s.2.1 (-1)
  case true=>rfl
  simp only[aV,o7,o6];cases h0:E9 s.2.1 0
  case true=>rfl
  cases h1:N7 (i:Int) s.2.1
  case true=>rfl
  rw[iU]at h0;rw[BZ]at h1;obtain⟨q,hq,_⟩:=ng (l:=l.2.2.take i) h0 (by simp only[o9,az];omega);have hq2:F9 l.2.2 s.2.1=some q:=by have:=(cO hq).2.2.2;unfold F9;rw[if_pos h0];exact(VS this).2
  rw[hq,hq2];rfl
 rw[hm,o8];cases GI l i s.2.1
 case true=>rfl
 simp only[o6];cases E9 12 (o9 s.2.2.1)
 case true=>rfl
 cases E9 12 (o9 s.2.2.2.1)
 case true=>rfl
 simp only[o6,o8,L6];unfold Xa Ib;refine X8 (sH (p:=inP l s) s.2.2.1.length l9 PUnit.unit (λk hk=>?_) ?_) ?_
 rotate_left 2
 .cases au s.2.2.1.length (inP l s)
  case some r=>rfl
  simp only[o8,L6];refine X8 (sH (p:=a5w l s) s.2.2.2.1.length l9 PUnit.unit (λk hk=>?_) ?_) ?_
  rotate_left 2
  .cases au s.2.2.2.1.length (a5w l s)
   case some r=>rfl
   simp only[o8,L6];rw[JB hL.scopes hs,o8];refine X8 (sH (p:=MJ l s) s.2.2.2.2.length l9 PUnit.unit (λk hk=>?_) ?_) ?_
   rotate_left 2
   .cases au s.2.2.2.2.length (MJ l s)
    case some r=>rfl
    simp only[o8,L6];refine X8 (sH (p:=YQ s) s.2.2.2.1.length l9 PUnit.unit (λk hk=>?_) ?_) ?_
    rotate_left 2
    .cases au s.2.2.2.1.length (YQ s)<;>rfl
    .have e:=dh hk;simp only[H5 e,o7];rw[vV hS l9 (by show(k:Int)<o9 s.2.2.2.1;simp only[o9];omega),o8,b1X _ (by
      have:=ER hS (xh s (k:Int)).1 (λx hx=>zZ hx);omega),o8,show(200:Int)=((200:Nat):Int)from rfl,Yc l9 l9]
     unfold YQ;cases (aB s (k:Int)).any λx=>x8 (k:Int) x<;>rfl
    .rw[G7];rfl
   .have e:=dh hk;have hr:=(hS.ro _ (N8 hk)).1;simp only[H5 e,o7];rw[a3x _ e l9 hr,o8,show(300:Int)=((300:Nat):Int)from rfl,Yc l9 l9];simp only[MJ,e,YS];cases x8 (MK s (Dn l s) k s.2.2.2.2[k]) 0<;>rfl
   .rw[G7];rfl
  .have e:=dh hk;have hm:=hS.fo.2 _ (N8 hk);simp only[H5 e,o7,F5,e,o8];rw[CV l9,o8,SH hm l9 Y2,o8,show(200:Int)=((200:Nat):Int)from rfl,Yc l9 l9];simp only[a5w,e,YS];cases x8 (PN l.1 s.2.2.2.1[k] s.2.2.1 (s.2.2.2.1.take k)) 0<;>rfl
  .rw[G7];rfl
 .have e:=dh hk;have hm:=hS.fo.1 _ (N8 hk);simp only[H5 e,o7,F5,e,o8];rw[CV l9,o8,SH hm Y2 x9,o8,show(100:Int)=((100:Nat):Int)from rfl,Yc l9 l9];simp only[inP,e,YS];cases x8 (PN l.1 s.2.2.1[k] (s.2.2.1.take k) []) 0<;>rfl
 .rw[G7];rfl
theorem LH{c e:Int}{r:Int×Int}(h:YS c e=some r):r.1≠0:=by
 unfold YS at h;cases hc:x8 c 0<;>rw[hc]at h
 .cases h;exact yD.1 hc
 .cases h
theorem PP{r:Int×Int}(h:Ib l s=some r):r.1≠0:=by
 unfold Ib at h;split at h
 .rename_i q hq;cases h;obtain⟨k,_,hk⟩:=fV hq;unfold inP at hk;split at hk
  .exact LH hk
  .cases hk
 .obtain⟨k,_,hk⟩:=fV h;unfold a5w at hk;split at hk
  .exact LH hk
  .cases hk
theorem a0x(hL:SmL l)(hs:l.2.2[i]? =some s):Fp l (i:Int)=some (l7 (x8 (He l i s).1 0) (0,0,0,0) (YN i (He l i s))):=by
 have hi:=(V6.1 hs).1;have hS:=hL.sc s (iL hs);have hf:=hL.few;have hf1:=hf.1;have hf2:=hf.2.1;have hf3:=hf.2.2;have n1:=hS.ni;have n2:=hS.nd;have n3:=hS.nr;unfold Fp He;rw[F5,hs,o8,oU hS.nm,o8];cases Ez s.1
 .rfl
 simp only[E5,o6,o7];rw[b3h hf,o8];cases EE l 3 i s.1
 case true=>rfl
 simp only[o6];have hm:(l7 (D9 (x8 s.2.1 (-1))) (l7 (E9 s.2.1 0) (some (Sum.inr ((6:Int),(3:Int),(i:Int),(0:Int)))) (l7 (N7 (i:Int) s.2.1) (some (.inr (6,3,(i:Int),0))) (o5 (F9 l.2.2 s.2.1) λ(x:A8)=>l7 (D9 (x8 x.2.1 (-1))) (some (.inr (6,3,(i:Int),0))) (some (.inl (((0:Int),(0:Int),(0:Int),(0:Int)),(0:Int),(3:Int),(i:Int),(0:Int))))))) (some (.inl ((0,0,0,0),0,3,(i:Int),0))))=
   some (l7 (GI l i s.2.1) (.inr (6,3,(i:Int),0)) (.inl ((0,0,0,0),0,3,(i:Int),0))):=by
  unfold GI;cases x8 s.2.1 (-1)
  case true=>rfl
  simp only[aV,o7,o6];cases h0:E9 s.2.1 0
  case true=>rfl
  cases h1:N7 (i:Int) s.2.1
  case true=>rfl
  rw[iU]at h0;rw[BZ]at h1;obtain⟨q,hq,_⟩:=ng (l:=l.2.2) h0 (by simp only[o9];omega);rw[hq];simp only[o6,o8];cases x8 q.2.1 (-1)<;>rfl
 rw[hm,o8];cases GI l i s.2.1
 case true=>rfl
 simp only[o6,L6];cases E9 12 (o9 s.2.2.1)
 case true=>rfl
 cases E9 12 (o9 s.2.2.2.1)
 case true=>rfl
 simp only[o6];rw[a0u hs l9 l9 hS.fo,o8];unfold Xa;cases hfs:Ib l s with
 |some r=>have hc:=PP hfs;simp only[YN];rw[J6 hc];rfl|none=>
  simp only[J7 (rfl:(0:Int)=0),E5,o6];refine X8 (rZ (p:=λk=>(MJ l s k).map (YN i)) s.2.2.2.2.length l9 _ (0,0,0,0) (λk hk=>?_) ?_) ?_
  rotate_left 2
  .rw[JS];cases hfr:au s.2.2.2.2.length (MJ l s)with
   |some r=>
    obtain⟨k,_,hk⟩:=fV hfr;have hc:r.1≠0:=by
     unfold MJ at hk;split at hk
     .exact LH hk
     .cases hk
    simp only[aJ,o8,uh];rw[J6 hc];rfl
   |none=>
    simp only[uP,o8,L6];refine X8 (rZ (p:=λk=>(YQ s k).map (YN i)) s.2.2.2.1.length l9 _ (0,0,0,0) (λk hk=>?_) ?_) ?_
    rotate_left 2
    .rw[JS];cases hfc:au s.2.2.2.1.length (YQ s)with
     |some r=>
      obtain⟨k,_,hk⟩:=fV hfc;have hc:r.1≠0:=by
       unfold YQ at hk;cases hq:(aB s (k:Int)).any λx=>x8 (k:Int) x<;>rw[hq]at hk
       .cases hk
       .cases hk;show(9:Int)≠0;decide
      simp only[aJ,o8,uh];rw[J6 hc];rfl
     |none=>rfl
    .have e:=dh hk;have htl:=ER hS (xh s (k:Int)).1 (λx hx=>zZ hx);simp only[H5 e,o7];rw[zt hS,o8,show(200:Int)=((200:Nat):Int)from rfl,Yc l9 l9];have hcy:V7 (λ(x_6:F6×Int)=>l7 (E9 x_6.2 (o9 (aB s (k:Int)))) (o5 (F9 (aB s (k:Int)) x_6.2) λ(x:Int)=>l7 (x8 x (k:Int)) (some (Out.rt ((9:Int),(3:Int),(i:Int),((200+k:Nat):Int)))) (some (.nx (x_6.1,A7 .i64 x_6.2 1)))) (some (.ex x_6.1))) (((0:Int),(0:Int),(0:Int),(0:Int)),(0:Int))=
       some (l7 ((aB s (k:Int)).any λx=>x8 (k:Int) x) (.inr (9,3,(i:Int),((200+k:Nat):Int))) (.inl (0,0,0,0))):=by
      have h1:=TN (aB s (k:Int)) (λ(b:Int×Int×Int×Int) x=>l7 (x8 x (k:Int)) (.inr ((9:Int),(3:Int),(i:Int),((200+k:Nat):Int))) (.inl b)) (λb i=>(b,i)) (λb=>b) (λ_ _=>True) (b:=((0,0,0,0):Int×Int×Int×Int)) (f:=λ(x_6:F6×Int)=>l7 (E9 x_6.2 (o9 (aB s (k:Int)))) (o5 (F9 (aB s (k:Int)) x_6.2) λ(x:Int)=>l7 (x8 x (k:Int)) (some (Out.rt ((9:Int),(3:Int),(i:Int),((200+k:Nat):Int)))) (some (.nx (x_6.1,A7 .i64 x_6.2 1)))) (some (.ex x_6.1))) l9 trivial (λj x b hx hj _=>by refine⟨?_,λ_ _=>trivial⟩;simp only[H5 hx,o7,F5,hx,o8];rw[Z5 l9];cases x8 x (k:Int)<;>rfl) (λb _=>by simp only[G7];rfl)
      refine h1.1.trans ?_;have hfo:∀(l:c9h) (b:Int×Int×Int×Int),aP (λ(b:Int×Int×Int×Int) x=>l7 (x8 x (k:Int)) (.inr ((9:Int),(3:Int),(i:Int),((200+k:Nat):Int))) (.inl b)) l b=l7 (l.any λx=>x8 (k:Int) x) (.inr (9,3,(i:Int),((200+k:Nat):Int))) (.inl b):=by
       intro l;induction l with
       |nil=>intro b;rfl|cons a l ih=>
        intro b;unfold aP;rw[lZ,show x8 (k:Int) a=x8 a (k:Int) by unfold x8;by_cases h:a=(k:Int)<;>simp[h,eq_comm]];cases x8 a (k:Int)
        .simp only[o6,lY];exact ih b
        .rfl
      rw[hfo];cases (aB s (k:Int)).any λx=>x8 (k:Int) x<;>rfl
     refine X8 hcy ?_;unfold YQ;cases (aB s (k:Int)).any λx=>x8 (k:Int) x<;>rfl
    .simp only[G7];rfl
  .have e:=dh hk;have hr:=(hS.ro _ (N8 hk)).1;simp only[H5 e,o7];rw[a1L hL.scopes hs e hr,o8,show(300:Int)=((300:Nat):Int)from rfl,Yc l9 l9];simp only[MJ,e,YS];cases x8 (MK s (Dn l s) k s.2.2.2.2[k]) 0<;>rfl
  .simp only[G7];rfl
def JA(l:S9)(i:Nat):Option (Int×Int×Int×Int):=match l.2.2[i]? with|some s=>TE 3 i (He l i s)|none=>none
def RV(l:S9):Int×Int×Int×Int:=l7 (E9 4 (o9 l.2.2)) (4,3,4,0) (match au l.2.2.length (JA l)with|some r=>r|none=>(0,0,0,0))
def dK(l:S9):Int×Int×Int×Int:=l7 (x8 (IR l).1 0) (l7 (x8 (FX l).1 0) (RV l) (FX l)) (IR l)
theorem ZR(hL:SmL l):BD l=some (RV l):=by
 have hf:=hL.few.2.2;unfold BD RV;cases E9 4 (o9 l.2.2)
 case true=>rfl
 simp only[o6];refine X8 (rZ (p:=JA l) l.2.2.length l9 _ (0,0,0,0) (λi hi=>?_) ?_) ?_
 rotate_left 2
 .cases au l.2.2.length (JA l)<;>rfl
 .have e:=dh hi;simp only[H5 e,o7,a1w hL e,o8,JA,e,TE];cases x8 (He l i l.2.2[i]).1 0<;>rfl
 .rw[G7];rfl
theorem Gy(hL:SmL l):Ai l=some (dK l):=by
 unfold Ai dK;rw[a1v hL.few hL.en,o8];cases x8 (IR l).1 0
 .rfl
 simp only[E5,o6,o7];rw[ZU hL.few hL.tb,o8];cases x8 (FX l).1 0
 .rfl
 simp only[E5,o6,o7];rw[ZR hL];rfl
theorem LJ{k i:Int}{c:Int×Int}{r:Int×Int×Int×Int}(h:TE k i c=some r):r.1≠0:=by
 unfold TE at h;cases hc:x8 c.1 0<;>rw[hc]at h
 .cases h;exact yD.1 hc
 .cases h
theorem NQ(hL:SmL l):zG l=some (dK l):=by
 have hf1:=hL.few.1;have hf2:=hL.few.2.1;have hf3:=hL.few.2.2;unfold zG dK IR;cases E9 8 (o9 l.1)
 case true=>rfl
 simp only[o6];refine X8 (rZ (p:=PK l) l.1.length l9 _ (0,0,0,0) (λi hi=>?_) ?_) ?_
 rotate_left 2
 .cases hfe:au l.1.length (PK l)with
  |some r=>
   obtain⟨k,_,hk⟩:=fV hfe;have hc:r.1≠0:=by
    unfold PK at hk;split at hk
    .exact LJ hk
    .cases hk
   simp only[o8,uh,J6 hc,o6]
  |none=>
   simp only[o8,L6,J7 (rfl:(0:Int)=0),o7];unfold FX;cases E9 8 (o9 l.2.1)
   case true=>rfl
   simp only[o6];refine X8 (rZ (p:=JC l) l.2.1.length l9 _ (0,0,0,0) (λi hi=>?_) ?_) ?_
   rotate_left 2
   .cases hft:au l.2.1.length (JC l)with
    |some r=>
     obtain⟨k,_,hk⟩:=fV hft;have hc:r.1≠0:=by
      unfold JC at hk;split at hk
      .exact LJ hk
      .cases hk
     simp only[o8,uh,J6 hc,o6]
    |none=>
     simp only[o8,L6,J7 (rfl:(0:Int)=0),o7];unfold RV;cases E9 4 (o9 l.2.2)
     case true=>rfl
     simp only[o6];refine X8 (rZ (p:=JA l) l.2.2.length l9 _ (0,0,0,0) (λi hi=>?_) ?_) ?_
     rotate_left 2
     .cases au l.2.2.length (JA l)<;>rfl
     .have e:=dh hi;simp only[H5 e,o7,a0x hL e,o8,JA,e,TE];cases hc:x8 (He l i l.2.2[i]).1 0
      .simp only[o6,YN,hc];rfl
      .simp only[o7,J7 (rfl:(0:Int)=0)];rfl
     .simp only[G7];rfl
   .have e:=dh hi;simp only[H5 e,o7,a0y hL.few e (hL.tb _ (N8 hi)),o8,JC,e,TE,Si];cases hc:x8 (XF l i l.2.1[i]).1 0
    .simp only[o6,hc];rfl
    .simp only[o7,J7 (rfl:(0:Int)=0)];rfl
   .simp only[G7];rfl
 .have e:=dh hi;have hm:=hL.en _ (N8 hi);simp only[H5 e,o7,a1I hL.few e hm.1 hm.2,o8,PK,e,TE,Si];cases hc:x8 (XR l i l.1[i]).1 0
  .simp only[o6,hc];rfl
  .simp only[o7,J7 (rfl:(0:Int)=0)];rfl
 .simp only[G7];rfl
structure SmC (c:dI):Prop where
 ni:c.2.1.length<=1000
 nm:c.2.2.length<=1000
 nv:∀v∈c.2.2,v.length<=1000
def a1l(en:List dB)(fs:List bH)(vs:List D8)(i:Nat):c9p:=match vs[i]?,fs[i]? with
 |some v,some f=>l7 (x8 v.1 f.2.1) (l7 (x8 v.2.1 f.2.2) (l7 (inB v.2.2 (bnd f.2 en)) none (some ((i:Int),3))) (some ((i:Int),8))) (some ((i:Int),8))|_,_=>none
def KF(en:List dB)(fs:List bH)(vs:List D8):Int×Int:=
 l7 (E9 (o9 vs) (o9 fs)) (o9 vs,5) (l7 (E9 (o9 fs) (o9 vs)) (o9 fs,4) (match au vs.length (a1l en fs vs)with|some r=>r|none=>(0,0)))
variable {fs:List bH}{vs:List D8}
theorem b3q{en:List dB}{r:Int×Int}(h:a1l en fs vs i=some r):r.2≠0:=by
 unfold a1l at h;split at h
 .rename_i v f _ _;cases h1:x8 v.1 f.2.1<;>rw[h1]at h
  .cases h;show(8:Int)≠0;decide
  cases h2:x8 v.2.1 f.2.2<;>rw[h2]at h
  .cases h;show(8:Int)≠0;decide
  cases h3:inB v.2.2 (bnd f.2 en)<;>rw[h3]at h
  .cases h;show(3:Int)≠0;decide
  .cases h
 .cases h
theorem PG(l:S9)(hv:vs.length<=1000000):pU l vs fs=some (KF l.1 fs vs):=by
 unfold pU KF;cases h1:E9 (o9 vs) (o9 fs)
 case true=>rfl
 cases h2:E9 (o9 fs) (o9 vs)
 case true=>rfl
 simp only[o6];have hl:vs.length=fs.length:=by rw[iU]at h1 h2;simp only[o9]at h1 h2;omega
 refine X8 (sH (p:=a1l l.1 fs vs) vs.length hv PUnit.unit (λk hk=>?_) ?_) ?_
 rotate_left 2
 .cases au vs.length (a1l l.1 fs vs)<;>rfl
 .have e:=dh hk;have e2:=dh (show k<fs.length by omega);simp only[H5 e,o7,F5,e,e2,o8,Wq,a1l,inB,pI];cases x8 vs[k].1 fs[k].2.1
  .rfl
  cases x8 vs[k].2.1 fs[k].2.2
  .rfl
  cases N7 (bnd fs[k].2 l.1).1 vs[k].2.2
  .rfl
  cases N7 vs[k].2.2 (bnd fs[k].2 l.1).2<;>rfl
 .rw[G7];rfl
theorem a0v(l:S9)(hv:vs.length<=1000000):Ee l fs vs=some (KF l.1 fs vs):=by
 unfold Ee KF;cases h1:E9 (o9 vs) (o9 fs)
 case true=>rfl
 cases h2:E9 (o9 fs) (o9 vs)
 case true=>rfl
 simp only[o6];have hl:vs.length=fs.length:=by rw[iU]at h1 h2;simp only[o9]at h1 h2;omega
 refine X8 (sH (p:=a1l l.1 fs vs) vs.length hv PUnit.unit (λk hk=>?_) ?_) ?_
 rotate_left 2
 .cases au vs.length (a1l l.1 fs vs)<;>rfl
 .have e:=dh hk;have e2:=dh (show k<fs.length by omega);simp only[H5 e,o7,F5,e,e2,o8,a4p,a1l,a0D];cases x8 vs[k].1 fs[k].2.1
  .rfl
  cases x8 vs[k].2.1 fs[k].2.2
  .rfl
  cases inB vs[k].2.2 (bnd fs[k].2 l.1)<;>rfl
 .rw[G7];rfl
def KT(l:S9)(s:A8):List bH×Int:=match F9 l.2.2 s.2.1 with|some q=>(q.2.2.1,8)|none=>([],0)
def a6i(en:List dB)(fs:List bH)(ms:List (List D8))(i:Nat):Option (Int×Int×Int):=match ms[i]? with
 |some vs=>l7 (x8 (KF en fs vs).2 0) none (some ((i:Int),KF en fs vs))|none=>none
def Lr(l:S9)(k:Int)(c:dI):Int×Int×Int:=match F9 l.2.2 k with
 |none=>(-1,-1,6)
 |some s=>l7 (E9 c.1 0) (-1,-1,3) (l7 (E9 109572 c.1) (-1,-1,3) (l7 (x8 (KF l.1 s.2.2.1 c.2.1).2 0)
   (l7 (E9 (KT l s).2 (o9 c.2.2)) ((KT l s).2,-1,4) (match au c.2.2.length (a6i l.1 (KT l s).1 c.2.2)with|some r=>r|none=>(0,0,0))) (-1,KF l.1 s.2.2.1 c.2.1)))
theorem a7j{k:Int}{A B:Option (PUnit⊕(Int×Int×Int))} :(∃s,F9 l.2.2 k=some s/\l7 (E9 k 0) A (l7 (N7 (o9 l.2.2) k) A B)=B/\s∈l.2.2)\/(F9 l.2.2 k=none/\l7 (E9 k 0) A (l7 (N7 (o9 l.2.2) k) A B)=A):=by
 rw[pI k 0,Bz (o9 l.2.2) k];cases h0:N7 0 k
 .exact .inr ⟨kw (.inl h0),rfl⟩
 cases h1:E9 k (o9 l.2.2)
 .exact .inr ⟨kw (.inr h1),rfl⟩
 obtain⟨s,hs,hm⟩:=ng (jJ.1 h0) (iW.1 h1);exact .inl ⟨s,hs,rfl,hm⟩
theorem b8y(l:S9)(k:Int){c:dI}(hc:SmC c):yJ l k c=some (Lr l k c):=by
 unfold yJ Lr;rcases a7j (l:=l) (k:=k) (A:=some (.inr ((-1:Int),(-1:Int),(6:Int)))) (B:=some (.inl PUnit.unit))with⟨s,hs,hb,_⟩|⟨hs,hb⟩
 .rw[hb,hs];simp only[o8,L6];cases E9 c.1 0
  case true=>rfl
  cases E9 109572 c.1
  case true=>rfl
  simp only[o6,o8,L6];rw[PG l (by have:=hc.ni;omega),o8];cases x8 (KF l.1 s.2.2.1 c.2.1).2 0
  .rfl
  simp only[E5,o6,o7];have hm:ui l k=some (KT l s):=by
   unfold ui KT;rw[hs,o8,pI s.2.1 0,Bz (o9 l.2.2) s.2.1];cases h0:N7 0 s.2.1
   .rw[kw (.inl h0)];rfl
   cases h1:E9 s.2.1 (o9 l.2.2)
   .rw[kw (.inr h1)];rfl
   obtain⟨q,hq,_⟩:=ng (jJ.1 h0) (iW.1 h1);rw[hq];rfl
  rw[hm,o8];cases E9 (KT l s).2 (o9 c.2.2)
  case true=>rfl
  simp only[o6];refine X8 (sH (p:=a6i l.1 (KT l s).1 c.2.2) c.2.2.length (by have:=hc.nm;omega) PUnit.unit (λj hj=>?_) ?_) ?_
  rotate_left 2
  .cases au c.2.2.length (a6i l.1 (KT l s).1 c.2.2)<;>rfl
  .have e:=dh hj;simp only[H5 e,o7,F5,e,o8];rw[PG l (by have:=hc.nv _ (N8 hj);omega),o8];simp only[a6i,e];cases x8 (KF l.1 (KT l s).1 c.2.2[j]).2 0<;>rfl
  .rw[G7];rfl
 .rw[hb,hs];rfl
theorem b6d(l:S9)(k:Int){c:dI}(hc:SmC c):Jq l k c=some (Lr l k c):=by
 unfold Jq Lr;rcases a7j (l:=l) (k:=k) (A:=some (.inr ((-1:Int),(-1:Int),(6:Int)))) (B:=some (.inl PUnit.unit))with⟨s,hs,hb,_⟩|⟨hs,hb⟩
 .rw[hb,hs];simp only[o8,L6];cases E9 c.1 0
  case true=>rfl
  cases E9 109572 c.1
  case true=>rfl
  simp only[o6,o8,L6];rw[a0v l (by have:=hc.ni;omega),o8];cases x8 (KF l.1 s.2.2.1 c.2.1).2 0
  .rfl
  simp only[E5,o6,o7];have hm:La l k=some (l7 (N7 0 s.2.1) (l7 (E9 s.2.1 (o9 l.2.2)) (s.2.1,8) (-1,0)) (-1,0)):=by
   unfold La;rw[hs,o8,pI s.2.1 0,Bz (o9 l.2.2) s.2.1];cases N7 0 s.2.1
   .rfl
   cases E9 s.2.1 (o9 l.2.2)<;>rfl
  rw[hm,o8];unfold KT;have hz:∀(m:Int) (fs:List bH),l7 (E9 (0:Int) (o9 c.2.2)) (some (((0:Int),(-1:Int),(4:Int)):Int×Int×Int)) (o5 (V7 (λ(x_1:Int)=>l7 (E9 x_1 (o9 c.2.2)) (o5 (F9 l.2.2 m) λ(x:A8)=>o5 (F9 c.2.2 x_1) λ(x_2:List D8)=>o5 (Ee l x.2.2.1 x_2) λ(x:I7)=>l7 (D9 (x8 x.2 0)) (some (Out.rt ((x_1,x):Int×Int×Int))) (some (.nx (A7 .i64 x_1 1)))) (some (.ex PUnit.unit))) 0) λ(o:PUnit⊕D8)=>X9 o (λ(y:PUnit)=>some (0,0,0)) λ(r:D8)=>some r)=
    some (l7 (E9 0 (o9 c.2.2)) (0,-1,4) (match au c.2.2.length (a6i l.1 fs c.2.2)with|some r=>r|none=>(0,0,0))):=by
   intro m fs;cases h0:E9 0 (o9 c.2.2)
   case true=>rfl
   have:c.2.2.length=0:=by rw[iU]at h0;simp only[o9]at h0;omega
   have hnil:c.2.2=[]:=P5.1 this;rw[hnil];rfl
  cases h0:N7 0 s.2.1
  .rw[kw (.inl h0)];exact hz _ _
  cases h1:E9 s.2.1 (o9 l.2.2)
  .rw[kw (.inr h1)];exact hz _ _
  obtain⟨q,hq,_⟩:=ng (jJ.1 h0) (iW.1 h1);rw[hq];simp only[o7];cases E9 8 (o9 c.2.2)
  case true=>rfl
  simp only[o6];refine X8 (sH (p:=a6i l.1 q.2.2.1 c.2.2) c.2.2.length (by have:=hc.nm;omega) PUnit.unit (λj hj=>?_) ?_) ?_
  rotate_left 2
  .cases au c.2.2.length (a6i l.1 q.2.2.1 c.2.2)<;>rfl
  .have e:=dh hj;simp only[H5 e,o7,F5,e,o8,hq];rw[a0v l (by have:=hc.nv _ (N8 hj);omega),o8];simp only[a6i,e];cases x8 (KF l.1 q.2.2.1 c.2.2[j]).2 0<;>rfl
  .rw[G7];rfl
 .rw[hb,hs];rfl
def UB(r:Int×Int)(t:Int):Bool:=l7 (HY r) (l7 (N7 r.1 t) (E9 t r.2) false) false
theorem JL(r:Int×Int)(t:Int):oN r t=some (UB r t):=by
 unfold oN UB;rw[Lu,o8];cases HY r
 .rfl
 cases N7 r.1 t<;>rfl
theorem NM(r:Int×Int)(t:Int):zC r t=some (UB r t):=JL r t
section
variable (on:Nat->Bool) (par:Nat->Int)
def pV(i:Nat):Nat:=((List.range i).filter on).length
def Ik(i:Nat):Int:=if on i=true then(pV on i:Int)else if h:0<=par i/\par i<(i:Int)then Ik (par i).toNat else -1
termination_by i
decreasing_by omega
def anc(i:Nat):Int:=if 0<=par i/\par i<(i:Int)then Ik on par (par i).toNat else -1
theorem Ve(i:Nat):Ik on par i=if on i=true then(pV on i:Int)else anc on par i:=by
 rw[Ik];unfold anc;by_cases h:on i=true
 .rw[if_pos h,if_pos h]
 .rw[if_neg h,if_neg h];by_cases h2:0<=par i/\par i<(i:Int)
  .rw[dif_pos h2,if_pos h2]
  .rw[dif_neg h2,if_neg h2]
def onL(n:Nat):c9j:=(List.range n).filter on
theorem MC(i:Nat):onL on (i+1)=onL on i++(bif on i then[i]else[]):=by unfold onL;rw[dL,qE];rw[show List.filter on [i]=bif on i then[i]else[] by rw[fK];cases on i<;>rfl]
theorem FM(i:Nat):(onL on i).length<=i:=by have:=bD on (List.range i);unfold onL;simpa using this
theorem Vm{n p:Nat}(hp:p<n)(h:on p=true):(onL on n)[pV on p]? =some p:=by
 induction n with
 |zero=>omega|succ n ih=>
  rw[MC];by_cases hq:p=n
  .subst hq;rw[h,H7 (by unfold pV onL;omega)];unfold pV onL;simp
  .have:=ih l9;rw[L8 (V6.1 this).1];exact this
theorem a3Z(h:i∈onL on n):i<n/\on i=true:=by unfold onL at h;obtain⟨h1,h2⟩:=Y4.1 h;exact⟨X6.1 h1,h2⟩
end
def castL(l:c9j):c9h:=l.map λ(i:Nat)=>(i:Int)
theorem Ws{l:c9j}{i a:Nat}(h:l[i]? =some a):(castL l)[i]? =some (a:Int):=by unfold castL;rw[U8,h];rfl
theorem b2S{rs:List V8}{on:Nat->Bool}{f:c9h×c9h×c9h×Int->Option ((c9h×c9h×c9h×Int)⊕(c9h×c9h))}(hl:rs.length<=1000)
  (hin:∀(i:Nat) (r:V8) (A B C:c9h),rs[i]? =some r->f (A,B,C,(i:Int))=o5 (l7 (N7 0 r.2.2.1) (l7 (E9 r.2.2.1 (i:Int)) (o5 (F9 C r.2.2.1) λ(x_2:Int)=>o5 (O8 C (U6 r.2.2.1)) λ(x:Int)=>some x) (some (-1))) (some (-1))) λ(x_2:Int)=>
   o5 (F9 C (i:Int)) λ(x_3:Int)=>o5 (O8 C (U6 (i:Int))) λ(x_4:Int)=>l7 (on i) (o5 (F9 (bu C (U6 (i:Int)) x_2) (i:Int)) λ(x_6:Int)=>o5 (O8 (bu C (U6 (i:Int)) x_2) (U6 (i:Int))) λ(x_7:Int)=>o5 (di A [(i:Int)]) λ(x_8:c9h)=>o5 (di B [x_2]) λ(x_9:c9h)=>
     some (.inl (x_8,x_9,bu (bu C (U6 (i:Int)) x_2) (U6 (i:Int)) (o9 A),A7 .i64 (i:Int) 1))) (some (.inl (A,B,bu C (U6 (i:Int)) x_2,A7 .i64 (i:Int) 1))))
  (hend:∀(A B C:c9h),f (A,B,C,(rs.length:Int))=some (.inr (A,B))):
  ay f ([],[],List.replicate rs.length 0,0)=some (castL (onL on rs.length),(onL on rs.length).map (anc on λi=>match rs[i]? with|some r=>r.2.2.1|none=>-1)):=by
 obtain⟨par,hpar⟩:∃par:Nat->Int,par=λi=>match rs[i]? with|some r=>r.2.2.1|none=>-1:=⟨_,rfl⟩
 rw[←hpar];obtain⟨e,h1,h2⟩:=iM (f:=f) (s:=([],[],List.replicate rs.length 0,0)) (λx=>∃i:Nat,x=(castL (onL on i),(onL on i).map (anc on par),pd ((List.range i).map (Ik on par)) (rs.length -i),(i:Int))/\i<=rs.length)
  (λe=>e=(castL (onL on rs.length),(onL on rs.length).map (anc on par))) (λx=>rs.length -x.2.2.2.toNat) ⟨0,by simp[onL,castL,pd],l9⟩ Y2 (by
  rintro x ⟨i,rfl,hi⟩;by_cases h:i<rs.length
  .left;have e:=dh h;have hp:par i=rs[i].2.2.1:=by rw[hpar];simp only[e]
   obtain⟨p,hpp⟩:∃p:Int,p=par i:=⟨_,rfl⟩;have hp' :rs[i].2.2.1=p:=by rw[hpp,hp]
   have hlen:((List.range i).map (Ik on par)).length=i:=x9;have hol:=FM on i;obtain⟨m,hm⟩:∃m,rs.length -i=m+1:=⟨rs.length -i -1,l9⟩;have hanc:o5 (l7 (N7 0 p) (l7 (E9 p (i:Int)) (o5 (F9 (pd ((List.range i).map (Ik on par)) (m+1)) p) λ(x_2:Int)=>o5 (O8 (pd ((List.range i).map (Ik on par)) (m+1)) (U6 p)) λ(x:Int)=>some x) (some (-1))) (some (-1))) (λx=>some x)=some (anc on par i):=by
    unfold anc;rw[←hpp];by_cases h0:0<=p
    .rw[Z9 h0];by_cases h1:p<(i:Int)
     .have hk:p.toNat<i:=l9;have hg:(pd ((List.range i).map (Ik on par)) (m+1))[p.toNat]? =some (Ik on par p.toNat):=by
       unfold pd;rw[L8 Y2,Ii _ _ hk]
      rw[V5 h1,if_pos ⟨h0,h1⟩];simp only[o7];rw[show F9 (pd ((List.range i).map (Ik on par)) (m+1)) p=some (Ik on par p.toNat) by unfold F9;rw[if_pos h0];exact hg,o8,show O8 (pd ((List.range i).map (Ik on par)) (m+1)) (U6 p)=some (Ik on par p.toNat)from hg];rfl
     .rw[N9 l9,if_neg l9];rfl
    .rw[ax l9,if_neg l9];rfl
   rw[bV]at hanc;refine⟨(castL (onL on (i+1)),(onL on (i+1)).map (anc on par),pd ((List.range (i+1)).map (Ik on par)) (rs.length -(i+1)),((i+1:Nat):Int)),?_,⟨i+1,rfl,h⟩,by simp;omega⟩;rw[hin i _ _ _ _ e,hm,hp',hanc,o8,Z5 l9,show rs.length -(i+1)=m by omega,MC,dL,gz];have q1:=a4f ((List.range i).map (Ik on par)) m;have q2:=a4g ((List.range i).map (Ik on par)) m;have q3:=a8R ((List.range i).map (Ik on par)) m (anc on par i);have q4:=Rz ((List.range i).map (Ik on par)) m (anc on par i);have q5:=Qh ((List.range i).map (Ik on par)) m (anc on par i);have q6:=Vs ((List.range i).map (Ik on par)) m (anc on par i) (o9 (castL (onL on i)));rw[hlen]at q1 q2 q3 q4 q5 q6;rw[q1,o8,q2,o8,q3];have hna:(List.map (Ik on par) (List.range i++[i]))=(List.range i).map (Ik on par)++[if on i=true then(pV on i:Int)else anc on par i]:=by rw[gz,List.map_singleton,Ve]
   rw[hna];cases hon:on i
   .simp[castL]
   .simp only[o7,cond_true];rw[q4,o8,q5,o8,jB _ (by simp[castL];omega),o8,jB _ Y2,o8,q6];simp[castL,o9,pV,onL]
  .right;have:i=rs.length:=l9;subst this;exact⟨_,hend _ _ _,rfl⟩)
 rw[h1,h2]
def onR(s:A8)(d t:Int)(i:Nat):Bool:=match s.2.2.2.2[i]? with|some r=>l7 (x8 r.2.1 d) (UB r.2.2.2.2.1 t) false|none=>false
def vW(s:A8)(i:Nat):Int:=match s.2.2.2.2[i]? with|some r=>r.2.2.1|none=>-1
def aG(s:A8)(d t:Int):c9j:=onL (onR s d t) s.2.2.2.2.length
def Gn(s:A8)(i:Nat):Int:=match s.2.2.2.2[i]? with|some r=>r.2.2.2.1|none=>0
def dJ(s:A8)(d t:Int):c9h×c9h×c9h:=(castL (aG s d t),(aG s d t).map (anc (onR s d t) (vW s)),(aG s d t).map (Gn s))
theorem c1x(h:s.2.2.2.2[i]? =some r)(d t:Int):xB r d t=some (onR s d t i):=by unfold xB onR;rw[h,JL];simp only;cases x8 r.2.1 d<;>rfl
theorem a4B(h:s.2.2.2.2.length<=1000)(d t:Int):wu s.2.2.2.2 (d,t)=some (castL (aG s d t),(aG s d t).map (anc (onR s d t) (vW s))):=by
 unfold wu;rw[show qU (o9 s.2.2.2.2) (0:Int)=some (List.replicate s.2.2.2.2.length 0) by unfold qU;rw[if_pos (by simp[o9];omega)];simp[o9],o8,bV];refine b2S h (λi r A B C hr=>?_) (λA B C=>?_)
 .simp only[H5 hr,o7,F5,hr,o8];rw[c1x hr];rfl
 .simp only[G7];rfl
theorem qI{d t:Int}(h:i∈aG s d t):i<s.2.2.2.2.length/\onR s d t i=true:=a3Z _ h
theorem b3k(h:s.2.2.2.2.length<=1000)(d t:Int):Ad s d t=some (dJ s d t):=by
 have hl:=FM (onR s d t) s.2.2.2.2.length;unfold Ad;rw[a4B h,o8];refine X8 (b4x (castL (aG s d t)) (λ(k:Int)=>Gn s k.toNat) (F:=id) (by unfold castL aG;simp;omega) (λi a acc ha hacc=>?_) (λacc=>?_)) ?_
 rotate_left 2
 .rw[o8];unfold dJ castL;rw[uN];rfl
 .simp only[H5 ha,o7,F5 (castL (aG s d t)),ha,o8];rw[show O8 (castL (aG s d t)) (U6 (i:Int))=some a from ha,o8];obtain⟨k,hk,rfl⟩:∃k,k∈aG s d t/\(k:Int)=a:=by
   have:=iL ha;unfold castL at this;exact aF.1 this
  have hlt:=qI hk;have e:=dh hlt.1;have hil:=(V6.1 ha).1;simp only[castL,P6]at hil;rw[F5,e,o8,jB _ (by unfold aG at hil;omega),o8];simp only[Gn,J9,e]
 .simp only[G7];rfl
theorem a6O(h:s.2.2.2.2.length<=1000)(d t:Int):KZ s d t=some (castL (aG s d t)):=by
 unfold KZ;rw[bV];obtain⟨e,h1,h2⟩:=iM (f:=λ(x:c9h×Int)=>l7 (E9 x.2 (o9 s.2.2.2.2)) (o5 (F9 s.2.2.2.2 x.2) λ(x_1:V8)=>l7 (x8 x_1.2.1 d) (o5 (F9 s.2.2.2.2 x.2) λ(x_2:V8)=>o5 (zC x_2.2.2.2.2.1 t) λ(x_3:Bool)=>
   l7 x_3 (o5 (di x.1 [x.2]) λ(x_4:c9h)=>some (.inl (x_4,A7 .i64 x.2 1))) (some (.inl (x.1,A7 .i64 x.2 1)))) (some (.inl (x.1,A7 .i64 x.2 1)))) (some (.inr x.1)))
  (s:=([],0)) (λx=>∃i:Nat,x=(castL (onL (onR s d t) i),(i:Int))/\i<=s.2.2.2.2.length) (λe=>e=castL (aG s d t)) (λx=>s.2.2.2.2.length -x.2.toNat) ⟨0,rfl,l9⟩ Y2 (by
  rintro x ⟨i,rfl,hi⟩;by_cases hlt:i<s.2.2.2.2.length
  .left;have e:=dh hlt;have hol:=FM (onR s d t) i;refine⟨(castL (onL (onR s d t) (i+1)),((i+1:Nat):Int)),?_,⟨i+1,rfl,hlt⟩,by simp;omega⟩;simp only[H5 e,o7,F5,e,o8,NM];rw[Z5 l9,jB _ (by simp[castL];omega),MC];have hon:onR s d t i=l7 (x8 s.2.2.2.2[i].2.1 d) (UB s.2.2.2.2[i].2.2.2.2.1 t) false:=by unfold onR;rw[e]
   rw[hon];cases x8 s.2.2.2.2[i].2.1 d
   .simp[castL]
   simp only[o7];cases UB s.2.2.2.2[i].2.2.2.2.1 t<;>simp[castL]
  .right;have:i=s.2.2.2.2.length:=l9;subst this;exact⟨_,by rw[G7];rfl,rfl⟩)
 rw[h1,h2]
theorem WW{l:c9j}(hl:l.Pairwise (·< ·)){i j a:Nat}(hi:l[i]? =some a)(hj:l[j]? =some a):i=j:=by
 obtain⟨h1,h2⟩:=V6.1 hi;obtain⟨h3,h4⟩:=V6.1 hj;rcases Nat.lt_trichotomy i j with h|h|h
 .have:=jh.1 hl i j h1 h3 h;omega
 .exact h
 .have:=jh.1 hl j i h3 h1 h;omega
theorem a0k(on:Nat->Bool)(n:Nat):(onL on n).Pairwise (·< ·):=List.Pairwise.filter _ rU
theorem b2J(on:Nat->Bool){n p:Nat}(hn:n<=1000)(hp:p<n):Kt (castL (onL on n)) (p:Int)=some (if on p=true then(pV on p:Int)else -1):=by
 have hl:=FM on n;unfold Kt;have key:=xH (f:=λ(x:Int)=>l7 (E9 x (o9 (castL (onL on n)))) (o5 (F9 (castL (onL on n)) x) λ(x_1:Int)=>l7 (x8 x_1 (p:Int)) (some (.rt x)) (some (.nx (A7 .i64 x 1)))) (some (.ex PUnit.unit)))
  (s:=0) (λx=>∃i:Nat,x=i/\i<=(onL on n).length/\∀j,j<i->(onL on n)[j]?≠some p) (λ_=>∀j,j<(onL on n).length->(onL on n)[j]?≠some p) (λr=>∃i:Nat,r=(i:Int)/\(onL on n)[i]? =some p) (λx=>(onL on n).length -x.toNat) ⟨0,rfl,l9,λj hj=>by omega⟩ Y2 (by
  rintro x ⟨i,rfl,hi,hno⟩;by_cases hlt:i<(onL on n).length
  .have e:=dh hlt;have e2:=Ws e;have e3:E9 (i:Int) (o9 (castL (onL on n)))=true:=H5 e2;rw[e3,o7,F5,e2,o8];by_cases hq:(onL on n)[i]=p
   .right;right;exact⟨_,by rw[J7 l9];rfl,i,rfl,by rw[e,hq]⟩
   .left;refine⟨((i+1:Nat):Int),by rw[J6 l9,Z5 l9];rfl,⟨i+1,rfl,hlt,λj hj=>?_⟩,by simp;omega⟩;by_cases hji:j=i
    .subst hji;rw[e];intro h;exact hq (I8 h)
    .exact hno j l9
  .right;left;have hil:i=(onL on n).length:=l9;subst hil;have e3:E9 ((onL on n).length:Int) (o9 (castL (onL on n)))=false:=by
    have:=G7 (castL (onL on n));rw[show(castL (onL on n)).length=(onL on n).length by simp[castL]]at this;exact this
   exact⟨_,by rw[e3];rfl,hno⟩)
 rcases key with⟨e,k1,k2⟩|⟨r,k1,i,k2,k3⟩
 .refine(lJ k1 _).trans ?_;by_cases ho:on p=true
  .have:=Vm on hp ho;exact absurd this (k2 _ (V6.1 this).1)
  .rw[if_neg ho];rfl
 .refine(lJ k1 _).trans ?_;have hm:=a3Z on (iL k3);have:=Vm on hp hm.2;rw[if_pos hm.2,k2,WW (a0k on n) k3 this];rfl
theorem c0P(on:Nat->Bool)(par:Nat->Int):∀i:Nat,anc on par i=if h:0<=par i/\par i<(i:Int)then(if on (par i).toNat=true then(pV on (par i).toNat:Int)else anc on par (par i).toNat)else -1:=by
 intro i;by_cases h:0<=par i/\par i<(i:Int)
 .rw[dif_pos h];rw[show anc on par i=Ik on par (par i).toNat by unfold anc;rw[if_pos h],Ve]
 .rw[dif_neg h];unfold anc;rw[if_neg h]
theorem a8X(h:s.2.2.2.2.length<=1000)(on:Nat->Bool)(hi:i<s.2.2.2.2.length):Ob s (castL (onL on s.2.2.2.2.length)) (i:Int)=some (anc on (vW s) i):=by
 unfold Ob;have hp:∀k:Nat,(hk:k<s.2.2.2.2.length)->∃r,s.2.2.2.2[k]? =some r/\(vW s k=r.2.2.1):=λk hk=>⟨_,dh hk,by unfold vW;rw[dh hk]⟩;obtain⟨r,hr,hpr⟩:=hp i hi;rw[F5,hr,o8];have key:=xH (f:=λ(x:Int×Int)=>l7 (N7 0 x.2) (l7 (E9 x.2 x.1) (o5 (Kt (castL (onL on s.2.2.2.2.length)) x.2) λ(x_1:Int)=>l7 (N7 0 x_1) (some (.rt x_1)) (o5 (F9 s.2.2.2.2 x.2) λ(x_2:V8)=>some (.nx (x.2,x_2.2.2.1)))) (some (.ex PUnit.unit))) (some (.ex PUnit.unit)))
  (s:=((i:Int),r.2.2.1)) (λx=>∃k:Nat,x=((k:Int),vW s k)/\k<s.2.2.2.2.length/\anc on (vW s) k=anc on (vW s) i) (λ_=>anc on (vW s) i=-1) (λq=>q=anc on (vW s) i) (λx=>x.1.toNat) ⟨i,by rw[hpr],hi,rfl⟩ Y2 (by
  rintro x ⟨k,rfl,hk,ha⟩;simp only;rw[←ha,c0P on (vW s) k];by_cases hc:0<=vW s k/\vW s k<(k:Int)
  .rw[Z9 hc.1,V5 hc.2,dif_pos hc];simp only[o7];obtain⟨p,hpp⟩:∃p:Nat,vW s k=(p:Int):=⟨(vW s k).toNat,l9⟩;rw[hpp,b2J on h (show p<s.2.2.2.2.length by omega),o8,J9];by_cases ho:on p=true
   .rw[if_pos ho,if_pos ho];exact .inr (.inr ⟨_,by rw[Z9 l9];rfl,rfl⟩)
   .rw[if_neg ho,if_neg ho];left;obtain⟨q,hq1,hq2⟩:=hp p l9;refine⟨((p:Int),vW s p),by rw[ax l9,o6,F5,hq1,o8,hq2],⟨p,rfl,l9,?_⟩,by simp;omega⟩;rfl
  .rw[dif_neg hc];right;left;refine⟨PUnit.unit,?_,rfl⟩;by_cases h0:0<=vW s k
   .rw[Z9 h0,N9 l9];rfl
   .rw[ax l9];rfl)
 rcases key with⟨e,k1,k2⟩|⟨q,k1,k2⟩
 .refine(lJ k1 _).trans ?_;rw[k2];rfl
 .refine(lJ k1 _).trans ?_;rw[k2];rfl
theorem a9a(h:s.2.2.2.2.length<=1000)(d t:Int):Oa s d t=some (dJ s d t):=by
 have hl:=FM (onR s d t) s.2.2.2.2.length;unfold Oa;rw[a6O h,o8];refine aO (castL (aG s d t)) (λ(b:c9h×c9h) (k:Int)=>(b.1++[anc (onR s d t) (vW s) k.toNat],b.2++[Gn s k.toNat])) (λb i=>(b.1,b.2,i)) (λb=>b) (λi b=>b.1.length=i/\b.2.length=i) (([],[]):c9h×c9h) (by unfold castL aG;simp;omega) x9 (λi a b ha hi hI=>?_) (λb hI=>?_) (λh2=>?_)
 .obtain⟨b1,b2⟩:=b;simp only at hI;simp only[H5 ha,o7,F5 (castL (aG s d t)),ha,o8];rw[show O8 (castL (aG s d t)) (U6 (i:Int))=some a from ha,o8];obtain⟨k,hk,rfl⟩:∃k,k∈aG s d t/\(k:Int)=a:=by
   have:=iL ha;unfold castL at this;exact aF.1 this
  have hlt:=qI hk;have e:=dh hlt.1;have hil:=(V6.1 ha).1;simp only[castL,P6]at hil;unfold aG at hil;rw[show castL (aG s d t)=castL (onL (onR s d t) s.2.2.2.2.length)from rfl,a8X h _ hlt.1,o8,jB _ l9,o8,o8,F5,e,o8,jB _ l9,o8,Z5 l9];refine⟨?_,by simp[hI.1],by simp[hI.2]⟩;simp only[Gn,J9,e]
 .simp only[G7];rfl
 .have hf:∀(l:c9j) (b:c9h×c9h),(castL l).foldl (λ(b:c9h×c9h) (k:Int)=>(b.1++[anc (onR s d t) (vW s) k.toNat],b.2++[Gn s k.toNat])) b=(b.1++l.map (anc (onR s d t) (vW s)),b.2++l.map (Gn s)):=by
   intro l;induction l with
   |nil=>intro b;simp[castL]|cons a l ih=>intro b;rw[show castL (a::l)=(a:Int)::castL l from rfl,G9,ih];simp
  rw[hf];rfl
end
section
def Pg(par prio:c9h)(i:Nat):c9o:=match par[i]?,prio[i]? with
 |some p,some q=>l7 (E9 p (-1)) (some 9) (l7 (N7 (i:Int) p) (some 9) (l7 (E9 q 0) (some 3) (l7 (E9 9 q) (some 3) none)))|_,_=>none
def Et(par prio:c9h):Int:=l7 (D9 (x8 (o9 par) (o9 prio))) 2 (l7 (E9 8 (o9 par)) 4 (match au par.length (Pg par prio)with|some r=>r|none=>0))
theorem b8b(par prio:c9h):yS par prio=some (Et par prio):=by
 unfold yS Et;cases h1:x8 (o9 par) (o9 prio)
 .rfl
 simp only[E5,o6];cases h2:E9 8 (o9 par)
 case true=>rfl
 simp only[o6];have hl:par.length=prio.length:=by rw[O9]at h1;simp only[o9]at h1;omega
 refine X8 (sH (p:=Pg par prio) par.length (by rw[iU]at h2;simp only[o9]at h2;omega) PUnit.unit (λk hk=>?_) ?_) ?_
 rotate_left 2
 .cases au par.length (Pg par prio)<;>rfl
 .have e:=dh hk;have e2:=dh (show k<prio.length by omega);simp only[H5 e,o7,F5,e,e2,o8,Pg];cases E9 par[k] (-1)
  case true=>rfl
  cases N7 (k:Int) par[k]
  case true=>rfl
  cases E9 prio[k] 0
  case true=>rfl
  cases E9 9 prio[k]<;>rfl
 .rw[G7];rfl
theorem b2M(par prio:c9h):Jo par prio=some (Et par prio):=by
 unfold Jo Et;cases h1:x8 (o9 par) (o9 prio)
 .rfl
 simp only[E5,o6];cases h2:E9 8 (o9 par)
 case true=>rfl
 simp only[o6];have hl:par.length=prio.length:=by rw[O9]at h1;simp only[o9]at h1;omega
 refine X8 (sH (p:=Pg par prio) par.length (by rw[iU]at h2;simp only[o9]at h2;omega) PUnit.unit (λk hk=>?_) ?_) ?_
 rotate_left 2
 .cases au par.length (Pg par prio)<;>rfl
 .have e:=dh hk;have e2:=dh (show k<prio.length by omega);simp only[H5 e,o7,F5,e,e2,o8,Pg];cases E9 par[k] (-1)
  case true=>rfl
  cases N7 (k:Int) par[k]
  case true=>rfl
  cases E9 prio[k] 0
  case true=>rfl
  cases E9 9 prio[k]<;>rfl
 .rw[G7];rfl
theorem Af{ρ:Type}{n:Nat}{p:Nat->Option ρ}(h:au n p=none):∀i,i<n->p i=none:=by unfold au at h;intro i hi;exact iT.1 h i (X6.2 hi)
theorem Fz{par prio:c9h}(h:Et par prio=0):par.length=prio.length/\par.length<=8/\∀(i:Nat) (p:Int),par[i]? =some p->-1<=p/\p<(i:Int):=by
 unfold Et at h;cases h1:x8 (o9 par) (o9 prio)<;>rw[h1]at h
 .cases h
 simp only[E5,o6]at h;cases h2:E9 8 (o9 par)<;>rw[h2]at h
 case true=>cases h
 simp only[o6]at h;have hl:par.length=prio.length:=by rw[O9]at h1;simp only[o9]at h1;omega
 refine⟨hl,by rw[iU]at h2;simp only[o9]at h2;omega,λi p hp=>?_⟩;have hi:=(V6.1 hp).1;cases hf:au par.length (Pg par prio)with
 |some r=>
  rw[hf]at h;simp only at h;obtain⟨k,hk,hr⟩:=fV hf;unfold Pg at hr;split at hr
  .subst h;rename_i a b _ _;cases c1:E9 a (-1)<;>rw[c1]at hr<;>try (cases hr;done)
   cases c2:N7 (k:Int) a<;>rw[c2]at hr<;>try (cases hr;done)
   cases c3:E9 b 0<;>rw[c3]at hr<;>try (cases hr;done)
   cases c4:E9 9 b<;>rw[c4]at hr<;>cases hr
  .cases hr
 |none=>
  have:=Af hf i hi;unfold Pg at this;rw[hp,dh (show i<prio.length by omega)]at this;simp only at this;cases c1:E9 p (-1)<;>rw[c1]at this
  case true=>cases this
  cases c2:N7 (i:Int) p<;>rw[c2]at this
  case true=>cases this
  rw[iU]at c1;rw[BZ]at c2;exact⟨c1,c2⟩
def a3N(par:c9h)(at' :Int)(i:Nat):Bool:=match par[i]? with|some p=>x8 p at'|none=>false
def qx(par:c9h)(at' :Int):c9j:=onL (a3N par at') par.length
variable {par:c9h}
theorem XM(h:par.length<=1000)(at' :Int):uZ par at' =some (castL (qx par at')):=by
 unfold uZ;rw[bV];obtain⟨e,h1,h2⟩:=iM (f:=λ(x:c9h×Int)=>l7 (E9 x.2 (o9 par)) (o5 (F9 par x.2) λ(x_1:Int)=>l7 (x8 x_1 at') (o5 (di x.1 [x.2]) λ(x_2:c9h)=>some (.inl (x_2,A7 .i64 x.2 1))) (some (.inl (x.1,A7 .i64 x.2 1)))) (some (.inr x.1)))
  (s:=([],0)) (λx=>∃i:Nat,x=(castL (onL (a3N par at') i),(i:Int))/\i<=par.length) (λe=>e=castL (qx par at')) (λx=>par.length -x.2.toNat) ⟨0,rfl,l9⟩ Y2 (by
  rintro x ⟨i,rfl,hi⟩;by_cases hlt:i<par.length
  .left;have e:=dh hlt;have hol:=FM (a3N par at') i;refine⟨(castL (onL (a3N par at') (i+1)),((i+1:Nat):Int)),?_,⟨i+1,rfl,hlt⟩,by simp;omega⟩;simp only[H5 e,o7,F5,e,o8];rw[Z5 l9,jB _ (by simp[castL];omega),MC];have hon:a3N par at' i=x8 par[i] at' :=by unfold a3N;rw[e]
   rw[hon];cases x8 par[i] at'<;>simp[castL]
  .right;have:i=par.length:=l9;subst this;exact⟨_,by rw[G7];rfl,rfl⟩)
 rw[h1,h2]
theorem a4l:Qo=uZ:=rfl
theorem Ze{at' :Int}{i:Nat}(h:i∈qx par at'):i<par.length/\par[i]? =some at' :=by obtain⟨h1,h2⟩:=a3Z _ h;refine⟨h1,?_⟩;unfold a3N at h2;rw[dh h1]at h2 ⊢;simp only[O9]at h2;rw[h2]
def bG(oc pr:Int->Int)(acc:c9h)(a:Int):c9h:=l7 (x8 (oc a) (-1)) acc (match acc with
 |[]=>[a]
 |b::r=>l7 (E9 (pr b) (pr a)) [a] (l7 (x8 (pr a) (pr b)) (b::r++[a]) (b::r)))
theorem b3O(oc pr:Int->Int){acc:c9h}{a x:Int}(h:x∈bG oc pr acc a):x∈acc\/x=a:=by
 unfold bG at h;cases h1:x8 (oc a) (-1)<;>rw[h1]at h
 case true=>exact .inl h
 simp only[o6]at h;cases acc with
 |nil=>exact .inr (by simpa using h)|cons b r=>
  simp only at h;cases h2:E9 (pr b) (pr a)<;>rw[h2]at h
  .simp only[o6]at h;cases h3:x8 (pr a) (pr b)<;>rw[h3]at h
   .exact .inl h
   .simp only[o7]at h;rcases D6.1 h with h|h
    .exact .inl h
    .exact .inr (by simpa using h)
  .exact .inr (by simpa using h)
theorem c1j(oc pr:Int->Int)(acc:c9h)(a:Int):(bG oc pr acc a).length<=acc.length+1:=by
 unfold bG;cases x8 (oc a) (-1)
 case true=>simp
 simp only[o6];cases acc with
 |nil=>simp|cons b r=>
  simp only;cases E9 (pr b) (pr a)
  .cases x8 (pr a) (pr b)<;>simp
  .simp
def xU(oc pr:Int->Int)(l:c9h):c9h:=l.foldl (bG oc pr) []
theorem a5n(oc pr:Int->Int):∀(l acc:c9h) (x:Int),x∈l.foldl (bG oc pr) acc->x∈acc\/x∈l
 |[],acc,x,h=> .inl h|a::l,acc,x,h=>by
  rcases a5n oc pr l _ x h with h|h
  .rcases b3O oc pr h with h|h
   .exact .inl h
   .exact .inr (by simp[h])
  .exact .inr (by simp[h])
variable {x:Int}
theorem Lm{oc pr:Int->Int}{l:c9h}(h:x∈xU oc pr l):x∈l:=by
 rcases a5n oc pr l [] x h with h|h
 .cases h
 .exact h
theorem ZI{oc oc' pr:Int->Int} :∀(l acc:c9h),(∀x∈l,oc x=oc' x)->l.foldl (bG oc pr) acc=l.foldl (bG oc' pr) acc
 |[],acc,_=>rfl|a::l,acc,h=>by rw[G9,G9,ZI l _ λx hx=>h x (by simp[hx])];congr 1;unfold bG;rw[h a x9]
def chF(oc pr:Int->Int)(l:c9h):Int:=match xU oc pr l with|[]=>-1|[b]=>oc b|_=>-2
theorem a2c{oc oc' pr:Int->Int}{l:c9h}(h:∀x∈l,oc x=oc' x):chF oc pr l=chF oc' pr l:=by
 have e:xU oc pr l=xU oc' pr l:=ZI l [] h;unfold chF;rw[e];cases hb:xU oc' pr l with
 |nil=>rfl|cons b r=>
  cases r with
  |nil=>exact h b (Lm (oc:=oc') (pr:=pr) (by rw[hb];simp))|cons c r=>rfl
section
variable (par prio:c9h) (ap:c9s)
def prF(i:Int):Int:=prio.getD i.toNat 0
def apF(i:Int):Bool:=ap.getD i.toNat false
def ocF:Nat->Int->Int
 |0,_=>-1|k+1,i=>l7 (x8 (chF (ocF k) (prF prio) (castL (qx par i))) (-1)) (l7 (apF ap i) i (-1)) (chF (ocF k) (prF prio) (castL (qx par i)))
variable (hv:Et par prio=0)
include hv
theorem TK{i x:Int}(h:x∈castL (qx par i)):i<x/\x<(par.length:Int)/\0<=x:=by unfold castL at h;obtain⟨k,hk,rfl⟩:=aF.1 h;obtain⟨h1,h2⟩:=Ze hk;have:=(Fz hv).2.2 k i h2;omega
theorem a2M:∀(k k' :Nat) (i:Int),(par.length:Int) -i<=k->(par.length:Int) -i<=k' ->i<par.length->ocF par prio ap k i=ocF par prio ap k' i
 |0,_,i,h,_,h2=>by omega|_+1,0,i,_,h,h2=>by omega|k+1,k' +1,i,h,h',h2=>by
  unfold ocF;have:chF (ocF par prio ap k) (prF prio) (castL (qx par i))=chF (ocF par prio ap k') (prF prio) (castL (qx par i)):=
   a2c λx hx=>by have:=TK par prio hv hx;exact a2M k k' x l9 l9 l9
  rw[this]
end
end
section
theorem NL{prio:c9h}{i:Int}(h0:0<=i)(h:i<o9 prio):F9 prio i=some (prF prio i):=by obtain⟨x,hx,_⟩:=ng h0 h;rw[hx];have:=(cO hx).2.2.2;unfold prF;rw[vK,this];rfl
theorem a1Z{f:c9h×Int->Option ((c9h×Int)⊕c9h)}(oc:Int->Int)(prio:c9h)(l:c9h)(hl:l.length<=1000)(hr:∀x∈l,0<=x/\x<o9 prio)
  (hin:∀(i:Nat) (a:Int) (acc:c9h),l[i]? =some a->acc.length<=1000->(∀x∈acc,0<=x/\x<o9 prio)->0<=a->a<o9 prio->f (acc,(i:Int))=some (.inl (bG oc (prF prio) acc a,A7 .i64 (i:Int) 1)))
  (hend:∀acc,f (acc,(l.length:Int))=some (.inr acc)):ay f ([],0)=some (xU oc (prF prio) l):=by
 refine(nK l (bG oc (prF prio)) (λb i=>(b,i)) (λb=>b) (λi acc=>acc.length<=i/\∀x∈acc,0<=x/\x<o9 prio) (b:=[]) l9 ⟨x9,x9⟩ (λi a acc ha hi hI=>?_) (λacc hI=>hend acc)).1;have hlt:=(V6.1 ha).1;have ham:=hr a (iL ha);rw[hin i a acc ha l9 hI.2 ham.1 ham.2,Z5 l9];refine⟨rfl,by have:=c1j oc (prF prio) acc a;omega,λx hx=>?_⟩;rcases b3O _ _ hx with h|h
 .exact hI.2 x h
 .rw[h];exact ham
section
variable (par prio:c9h) (ap:c9s) (hv:Et par prio=0) (hap:ap.length=par.length)
def OC(i:Int):Int:=ocF par prio ap (par.length+1) i
def chS(at' :Int):Int:=chF (OC par prio ap) (prF prio) (castL (qx par at'))
include hv in
theorem a9P{i:Int}(h0:-1<=i)(h:i<par.length):OC par prio ap i=l7 (x8 (chS par prio ap i) (-1)) (l7 (apF ap i) i (-1)) (chS par prio ap i):=by
 unfold OC chS;rw[ocF];have:chF (ocF par prio ap par.length) (prF prio) (castL (qx par i))=chF (OC par prio ap) (prF prio) (castL (qx par i)):=
  a2c λx hx=>by have:=TK par prio hv hx;exact a2M par prio ap hv _ _ x l9 l9 l9
 rw[this]
include hv in
theorem a6a(i:Int):(castL (qx par i)).length<=8:=by have h1:=FM (a3N par i) par.length;have h2:=(Fz hv).2.1;unfold castL qx;rw[P6];omega
include hv in
theorem a2E{i x:Int}(h:x∈castL (qx par i)):0<=x/\x<o9 prio:=by have:=TK par prio hv h;have h2:=(Fz hv).1;simp only[o9];omega
include hv in
theorem b7W(arr:c9h)(i:Int)(hA:∀x∈castL (qx par i),F9 arr x=some (OC par prio ap x)):xO (par,prio,arr) i=some (xU (OC par prio ap) (prF prio) (castL (qx par i))):=by
 unfold xO;rw[XM (by have:=(Fz hv).2.1;simp only;omega),o8,bV];refine a1Z (OC par prio ap) prio _ (by have:=a6a par prio hv i;omega) (λx hx=>a2E par prio hv hx) (λk a acc ha hl hacc h0 h1=>?_) (λacc=>?_)
 .simp only[H5 ha,o7,F5 (castL (qx par i)),ha,o8];rw[show O8 (castL (qx par i)) (U6 (k:Int))=some a from ha,o8,hA a (iL ha),o8];unfold bG;cases x8 (OC par prio ap a) (-1)
  case true=>rfl
  simp only[o6,NL h0 h1,o8];cases acc with
  |nil=>simp only[N9 (show o9 ([]:c9h)<=0 by simp[o9]),o6,o8,J7 (show o9 ([]:c9h)=0 from rfl),o7,jB a (show([]:c9h).length<=1000000 by simp)];rfl|cons b r=>
   have hb:=hacc b x9;simp only[V5 (show(0:Int)<o9 (b::r) by simp[o9]<;>omega),o7,show F9 (b::r) 0=some b from rfl,show O8 (b::r) (U6 0)=some b from rfl,o8,NL hb.1 hb.2];cases E9 (prF prio b) (prF prio a)
   .simp only[o6,o8,J6 (show o9 (b::r)≠0 by simp[o9]<;>omega),show F9 (b::r) 0=some b from rfl,show O8 (b::r) (U6 0)=some b from rfl,NL hb.1 hb.2];cases x8 (prF prio a) (prF prio b)
    .rfl
    .rw[o7,o7,jB _ l9];rfl
   .simp only[o7,show qp 0 0 (o9 (b::r))=true by simp[qp,o9]<;>omega,show qh (b::r) (U6 0) (U6 0)=[]from rfl,o8,J7 (show o9 ([]:c9h)=0 from rfl),jB a (show([]:c9h).length<=1000000 by simp)];rfl
 .simp only[G7];rfl
include hv in
theorem b0S(arr:c9h)(i:Int)(hA:∀x∈castL (qx par i),F9 arr x=some (OC par prio ap x)):jE (par,prio,arr) i=some (chS par prio ap i):=by
 unfold jE chS chF;rw[b7W par prio ap hv arr i hA,o8];have hsub:∀x∈xU (OC par prio ap) (prF prio) (castL (qx par i)),F9 arr x=some (OC par prio ap x):=λx hx=>hA x (Lm hx);generalize xU (OC par prio ap) (prF prio) (castL (qx par i))=b at*;match b,hsub with
 |[],_=>rfl|[x],hsub=>simp only[J6 (show o9 [x]≠0 by simp[o9]),J7 (show o9 [x]=1 from rfl),o6,o7,show F9 [x] 0=some x from rfl,show O8 [x] (U6 0)=some x from rfl,o8,hsub x x9]|x::y::r,_=>rw[J6 (by simp[o9];omega),J6 (by simp[o9];omega)];rfl
include hv hap in
theorem a6C:∃arr,yT par prio ap=some arr/\∀x,0<=x->x<(par.length:Int)->F9 arr x=some (OC par prio ap x):=by
 have h8:=(Fz hv).2.1;unfold yT;rw[show qU (o9 par) (0:Int)=some (List.replicate par.length 0) by unfold qU;rw[if_pos (by simp[o9];omega)];simp[o9],o8];have key:=iM (f:=λ(x:fP×Int)=>l7 (N7 0 x.2) (o5 (jE x.1 x.2) λ(x_1:Int)=>o5 (F9 x.1.2.2 x.2) λ(x_2:Int)=>o5 (O8 x.1.2.2 (U6 x.2)) λ(x_3:Int)=>
   o5 (F9 (bu x.1.2.2 (U6 x.2) x_1) x.2) λ(x_4:Int)=>o5 (O8 (bu x.1.2.2 (U6 x.2) x_1) (U6 x.2)) λ(x_5:Int)=>l7 (x8 x_5 (-1)) (o5 (F9 ap x.2) λ(x_6:Bool)=>l7 x_6 (o5 (F9 (bu x.1.2.2 (U6 x.2) x_1) x.2) λ(x_7:Int)=>
    o5 (O8 (bu x.1.2.2 (U6 x.2) x_1) (U6 x.2)) λ(x_8:Int)=>some (.inl ((x.1.1,x.1.2.1,bu (bu x.1.2.2 (U6 x.2) x_1) (U6 x.2) x.2),J3 .i64 x.2 1))) (some (.inl ((x.1.1,x.1.2.1,bu x.1.2.2 (U6 x.2) x_1),J3 .i64 x.2 1))))
     (some (.inl ((x.1.1,x.1.2.1,bu x.1.2.2 (U6 x.2) x_1),J3 .i64 x.2 1)))) (some (.inr x.1)))
  (s:=((par,prio,List.replicate par.length 0),J3 .i64 (o9 par) 1)) (λx=>∃(arr:c9h) (i:Int),x=((par,prio,arr),i)/\-1<=i/\i<par.length/\arr.length=par.length/\∀x,i<x->x<(par.length:Int)->F9 arr x=some (OC par prio ap x))
  (λy=>∃arr:c9h,y=(par,prio,arr)/\∀x,0<=x->x<(par.length:Int)->F9 arr x=some (OC par prio ap x)) (λx=>(x.2+1).toNat) ?_ ?_ ?_
 .obtain⟨y,k1,arr,rfl,k3⟩:=key;refine⟨arr,(lJ k1 _).trans rfl,k3⟩
 .exact⟨_,_,rfl,by rw[U2 (by unfold jl o9;omega)];simp[o9];omega,by rw[U2 (by unfold jl o9;omega)];simp only[o9];omega,x9,λx h1 h2=>by rw[U2 (by unfold jl o9;omega)]at h1;simp only[o9]at h1;omega⟩
 .rw[U2 (by unfold jl o9;omega)];simp[o9];omega
 .rintro x ⟨arr,i,rfl,h1,h2,hlen,hA⟩;by_cases h0:0<=i
  .left;obtain⟨k,rfl⟩:∃k:Nat,i=(k:Int):=⟨i.toNat,l9⟩;have hk:k<arr.length:=l9;have hka:k<ap.length:=l9;have e:=dh hk;have ea:=dh hka;have hch:=b0S par prio ap hv arr (k:Int) (λx hx=>by
    have:=TK par prio hv hx;exact hA x this.1 this.2.1)
   have hs:∀v:Int,F9 (bu arr (U6 (k:Int)) v) (k:Int)=some v:=λv=>by rw[F5];show(arr.set k v)[k]? =some v;rw[rP hk]
   have hs2:∀v:Int,O8 (bu arr (U6 (k:Int)) v) (U6 (k:Int))=some v:=λv=>by have:=hs v;rw[F5]at this;exact this
   have hsub:J3 .i64 (k:Int) 1=(k:Int) -1:=U2 U0;have hoc:=a9P par prio ap hv (i:=(k:Int)) l9 l9;have hapk:apF ap (k:Int)=ap[k]:=by unfold apF;rw[J9,vK,ea];rfl
   rw[hapk]at hoc;refine⟨((par,prio,arr.set k (OC par prio ap (k:Int))),(k:Int) -1),?_,⟨_,_,rfl,l9,l9,by simp[hlen],λx hx1 hx2=>?_⟩,by simp<;>omega⟩
   .simp only[Z9 h0,o7,hch,o8,F5 arr,e,show O8 arr (U6 (k:Int))=some arr[k]from e,hs,hs2,F5 ap,ea,hsub];rw[hoc];cases hq:x8 (chS par prio ap (k:Int)) (-1)
    .simp only[o6];rfl
    .simp only[o7];cases ap[k]
     .rw[O9.1 hq];rfl
     .simp only[o7];show some (Sum.inl ((par,prio,(arr.set k _).set k _),_))=_;rw[List.set_set]
   .unfold F9
    rw[if_pos l9];by_cases hxk:x=(k:Int)
    .rw[hxk,J9,rP hk]
    .have:=hA x l9 hx2;unfold F9 at this;rw[if_pos l9]at this;rw[Y3,if_neg l9];exact this
  .right;exact⟨(par,prio,arr),by rw[ax l9];rfl,arr,rfl,λx hx1 hx2=>hA x l9 hx2⟩
end
def Hf(par prio:c9h)(ap:c9s):Int:=l7 (x8 (Et par prio) 0) (l7 (x8 (o9 ap) (o9 par)) (chS par prio ap (-1)) (-1)) (-1)
theorem b3b(par prio:c9h)(ap:c9s):BN par prio ap=some (Hf par prio ap):=by
 unfold BN Hf;rw[b8b,o8];cases hv:x8 (Et par prio) 0
 .rfl
 simp only[E5,o6,o7];cases hl:x8 (o9 ap) (o9 par)
 .rfl
 simp only[E5,o6,o7];have hv' :=O9.1 hv;have hl' :ap.length=par.length:=by rw[O9]at hl;simp only[o9]at hl;omega
 obtain⟨arr,h1,h2⟩:=a6C par prio ap hv' hl';rw[h1,o8,bV];exact b0S par prio ap hv' arr (-1) λx hx=>by have:=TK par prio hv' hx;exact h2 x this.2.2 this.2.1
section
variable (par prio:c9h) (ap:c9s) (hv:Et par prio=0) (hap:ap.length=par.length)
include hv hap in
theorem a4r:∀(f:Nat) (i:Int),-1<=i->i<par.length->
  (3*((par.length:Int) -i) -1<=f->(V4 f).1 par prio ap i=some (chS par prio ap i))/\
  (3*((par.length:Int) -i) -2<=f->(V4 f).2.1 par prio ap i=some (xU (OC par prio ap) (prF prio) (castL (qx par i))))/\
  (0<=i->3*((par.length:Int) -i)<=f->(V4 f).2.2 par prio ap i=some (OC par prio ap i))
 |0,i,h1,h2=>⟨λh=>by omega,λh=>by omega,λ_ h=>by omega⟩|f+1,i,h1,h2=>by
  obtain⟨ih1,ih2,ih3⟩:=a4r f i h1 h2;have hkid:∀x∈castL (qx par i),3*((par.length:Int) -i) -3<=f->(V4 f).2.2 par prio ap x=some (OC par prio ap x):=λx hx hf=>by have hk:=TK par prio hv hx;exact(a4r f x l9 l9).2.2 hk.2.2 l9
  refine⟨λh=>?_,λh=>?_,λh0 h=>?_⟩
  .show AV (V4 f).1 (V4 f).2.1 (V4 f).2.2 par prio ap i=_;unfold AV;rw[ih2 l9,o8];unfold chS chF;have hsub:∀x∈xU (OC par prio ap) (prF prio) (castL (qx par i)),(V4 f).2.2 par prio ap x=some (OC par prio ap x):=λx hx=>hkid x (Lm hx) l9;generalize xU (OC par prio ap) (prF prio) (castL (qx par i))=b at*;match b,hsub with
   |[],_=>rfl|[x],hsub=>simp only[J6 (show o9 [x]≠0 by simp[o9]),N9 (show o9 [x]<=1 by simp[o9]),o6,show F9 [x] 0=some x from rfl,o8,hsub x x9]|x::y::r,_=>rw[J6 (by simp[o9];omega),V5 (by simp[o9];omega)];rfl
  .show GR (V4 f).1 (V4 f).2.1 (V4 f).2.2 par prio ap i=_;unfold GR;rw[a4l,XM (by have:=(Fz hv).2.1;omega),o8,bV];refine a1Z (OC par prio ap) prio _ (by have:=a6a par prio hv i;omega) (λx hx=>a2E par prio hv hx) (λk a acc ha hl hacc g0 g1=>?_) (λacc=>?_)
   .simp only[H5 ha,o7,F5 (castL (qx par i)),ha,o8];rw[show O8 (castL (qx par i)) (U6 (k:Int))=some a from ha,o8,hkid a (iL ha) l9,o8];unfold bG;cases x8 (OC par prio ap a) (-1)
    case true=>rfl
    simp only[o6,o8,NL g0 g1];cases acc with
    |nil=>simp only[N9 (show o9 ([]:c9h)<=0 by simp[o9]),o6,o8,J7 (show o9 ([]:c9h)=0 from rfl),o7,jB a (show([]:c9h).length<=1000000 by simp)];rfl|cons b r=>
     have hb:=hacc b x9;simp only[V5 (show(0:Int)<o9 (b::r) by simp[o9]<;>omega),o7,show F9 (b::r) 0=some b from rfl,show O8 (b::r) (U6 0)=some b from rfl,o8,NL hb.1 hb.2];cases E9 (prF prio b) (prF prio a)
     .simp only[o6,o8,J6 (show o9 (b::r)≠0 by simp[o9]<;>omega),show F9 (b::r) 0=some b from rfl,show O8 (b::r) (U6 0)=some b from rfl,NL hb.1 hb.2];cases x8 (prF prio a) (prF prio b)
      .rfl
      .rw[o7,o7,jB _ l9];rfl
     .simp only[o7,o8,J7 (show o9 ([]:c9h)=0 from rfl),jB a (show([]:c9h).length<=1000000 by simp)];rfl
   .simp only[G7];rfl
  .show Cf (V4 f).1 (V4 f).2.1 (V4 f).2.2 par prio ap i=_;unfold Cf;rw[ih1 l9,o8,a9P par prio ap hv h1 h2];obtain⟨k,rfl⟩:∃k:Nat,i=(k:Int):=⟨i.toNat,l9⟩;have ea:=dh (show k<ap.length by omega);have hapk:apF ap (k:Int)=ap[k]:=by unfold apF;rw[J9,vK,ea];rfl
   rw[hapk,F5,ea,o8];cases hq:x8 (chS par prio ap (k:Int)) (-1)
   .rfl
   .simp only[o7];rw[O9.1 hq];cases ap[k]<;>rfl
end
theorem a8Z(par prio:c9h)(ap:c9s):NZ par prio ap=some (Hf par prio ap):=by
 unfold NZ Hf;rw[b2M,o8];cases hv:x8 (Et par prio) 0
 .rfl
 simp only[E5,o6,o7];cases hl:x8 (o9 ap) (o9 par)
 .rfl
 simp only[E5,o6,o7];have hv' :=O9.1 hv;have hl' :ap.length=par.length:=by rw[O9]at hl;simp only[o9]at hl;omega
 have h8:=(Fz hv').2.1;have:=(a4r par prio ap hv' hl' lG (-1) l9 l9).1 (by unfold lG;omega);rw[show Qp par prio ap (-1)=(V4 lG).1 par prio ap (-1)from rfl,this];rfl
variable {l:c9h}{i:Nat}
theorem b1Z(h:i<l.length):F9 l (i:Int)=some (hg l i):=by rw[F5];exact Ag h
variable {j:Nat}
theorem a5S(hi:i<l.length)(hj:j<l.length):fH l (i:Int) (j:Int)=some (E9 (hg l i) (hg l j)):=by unfold fH;rw[b1Z hi,o8,b1Z hj,o8]
theorem a5T(hi:i<l.length)(hj:j<l.length):gK l (i:Int) (j:Int)=some (swp l i j):=by
 unfold gK;have e1:O8 l (U6 (i:Int))=some (hg l i):=Ag hi;have e2:O8 l (U6 (j:Int))=some (hg l j):=Ag hj;have hj2:j<(bu l (U6 (i:Int)) (hg l j)).length:=by show j<(l.set i (hg l j)).length;simp[hj]
 have e3:O8 (bu l (U6 (i:Int)) (hg l j)) (U6 (j:Int))=some (hg (bu l (U6 (i:Int)) (hg l j)) j):=Ag hj2;rw[b1Z hj,o8,e2,o8,b1Z hi,o8,e1,o8,o8,o8,b1Z hj2,o8,e3,o8];rfl
theorem a0p{l m:c9h}(h:l.Perm m):l.length=m.length:=h.length_eq
theorem c8Q(hl:l.length<=100000)(hj:j<l.length)(h:Wh l j):∃l',yK l (j:Int)=some l' /\Pn l' l'.length/\l'.Perm l:=by
 unfold yK;have key:=iM (f:=λ(x:c9h×Int)=>l7 (x8 (dV .i64 (J3 .i64 x.2 1) 2) x.2) (some (.inr x.1)) (o5 (fH x.1 x.2 (dV .i64 (J3 .i64 x.2 1) 2)) λ(x_1:Bool)=>l7 (D9 x_1) (some (.inr x.1))
   (o5 (gK x.1 (dV .i64 (J3 .i64 x.2 1) 2) x.2) λ(x_2:c9h)=>some (.inl (x_2,dV .i64 (J3 .i64 x.2 1) 2)))))
  (s:=(l,(j:Int))) (λx=>∃(m:c9h) (k:Nat),x=(m,(k:Int))/\k<m.length/\Wh m k/\m.Perm l) (λm=>Pn m m.length/\m.Perm l) (λx=>x.2.toNat) ⟨l,j,rfl,hj,h,List.Perm.refl _⟩ Y2 (by
  rintro x ⟨m,k,rfl,hk,hu,hp⟩;have hm:=a0p hp;by_cases h0:k=0
  .subst h0;exact .inr ⟨m,rfl,B_ hu (.inl rfl),hp⟩
  have hpar:dV .i64 (J3 .i64 (k:Int) 1) 2=(((k -1) / 2:Nat):Int):=by rw[U2 U0,DF (by rw[kQ l9];unfold jl;omega),kQ l9];omega
  simp only[hpar];rw[J6 l9,o6,a5S hk l9,o8];cases hc:E9 (hg m k) (hg m ((k -1) / 2))
  .exact .inr ⟨m,rfl,B_ hu (.inr (by rw[iU]at hc;exact hc)),hp⟩
  .rw[E5,o6,a5T l9 hk];exact .inl ⟨(swp m ((k -1) / 2) k,(((k -1) / 2:Nat):Int)),rfl,⟨_,_,rfl,by rw[OA];omega,a5R hu l9 hk (iW.1 hc),(QG l9 hk).trans hp⟩,by simp;omega⟩)
 obtain⟨m,k1,k2,k3⟩:=key;exact⟨m,(lJ k1 _).trans rfl,k2,k3⟩
theorem a2t(hl:l.length<=1000)(h:Pn l l.length)(x:Int):∃l',iV l x=some l' /\Pn l' l'.length/\l'.Perm (l++[x]):=by
 unfold iV Du mD;rw[jB _ l9,o8,o8,o8];have hlen:(l++[x]).length=l.length+1:=x9;have hu:Wh (l++[x]) l.length:=by
  refine⟨λk k0 k1 k2=>?_,λh0 k k0 k1 k2=>by omega⟩;have hk:k<l.length:=l9;have hga:∀i,i<l.length->hg (l++[x]) i=hg l i:=λi hi=>by unfold hg;rw[vK,vK,L8 hi]
  rw[hga k hk,hga _ l9];exact h k k0 hk
 obtain⟨m,k1,k2,k3⟩:=c8Q (l:=l++[x]) (j:=l.length) l9 l9 hu;refine⟨m,?_,k2,k3⟩;rw[show J3 .i64 (o9 (l++[x])) 1=((l.length:Nat):Int) by rw[U2 (by unfold jl o9;omega)];simp[o9],k1];rfl
theorem b8E{n i:Nat}(hl:l.length<=100000)(hn:n<=l.length)(hi:i<l.length)(h:Lh l n i):∃b l',vY l (i:Int) (n:Int)=some (b,l')/\Pn l' n/\l'.Perm l/\l'.drop n=l.drop n:=by
 unfold vY;have key:=iM (f:=λ(x:c9h×Int)=>l7 (N7 (n:Int) (A7 .i64 (aA .i64 2 x.2) 1)) (some (.inr x)) (l7 (E9 (A7 .i64 (aA .i64 2 x.2) 1) 0) (some (.inr x)) (l7 (E9 (A7 .i64 (A7 .i64 (aA .i64 2 x.2) 1) 1) (n:Int))
   (o5 (fH x.1 (A7 .i64 (A7 .i64 (aA .i64 2 x.2) 1) 1) (A7 .i64 (aA .i64 2 x.2) 1)) λ(x_1:Bool)=>l7 x_1 (o5 (fH x.1 (A7 .i64 (A7 .i64 (aA .i64 2 x.2) 1) 1) x.2) λ(x_2:Bool)=>l7 (D9 x_2) (some (.inr x))
     (o5 (gK x.1 x.2 (A7 .i64 (A7 .i64 (aA .i64 2 x.2) 1) 1)) λ(x_3:c9h)=>some (.inl (x_3,A7 .i64 (A7 .i64 (aA .i64 2 x.2) 1) 1)))) (o5 (fH x.1 (A7 .i64 (aA .i64 2 x.2) 1) x.2) λ(x_2:Bool)=>l7 (D9 x_2) (some (.inr x))
     (o5 (gK x.1 x.2 (A7 .i64 (aA .i64 2 x.2) 1)) λ(x_3:c9h)=>some (.inl (x_3,A7 .i64 (aA .i64 2 x.2) 1)))))
   (o5 (fH x.1 (A7 .i64 (aA .i64 2 x.2) 1) x.2) λ(x_1:Bool)=>l7 (D9 x_1) (some (.inr x)) (o5 (gK x.1 x.2 (A7 .i64 (aA .i64 2 x.2) 1)) λ(x_2:c9h)=>some (.inl (x_2,A7 .i64 (aA .i64 2 x.2) 1)))))))
  (s:=(l,(i:Int))) (λx=>∃(m:c9h) (k:Nat),x=(m,(k:Int))/\k<m.length/\Lh m n k/\m.Perm l/\m.drop n=l.drop n) (λy=>Pn y.1 n/\y.1.Perm l/\y.1.drop n=l.drop n) (λx=>l.length -x.2.toNat) ⟨l,i,rfl,hi,h,List.Perm.refl _,rfl⟩ Y2 (by
  rintro x ⟨m,k,rfl,hk,hd,hp,hdr⟩;have hm:=a0p hp;have hc1:A7 .i64 (aA .i64 2 (k:Int)) 1=((2*k+1:Nat):Int):=by rw[nH U0,X7 U0];omega
  have hc2:A7 .i64 (((2*k+1:Nat):Int)) 1=((2*k+2:Nat):Int):=by rw[X7 U0];omega
  have dswp:∀a b,a<n->b<n->(swp m a b).drop n=l.drop n:=λa b ha hb=>by unfold swp;rw[List.drop_set_of_lt hb,List.drop_set_of_lt ha,hdr]
  simp only[hc1,hc2];by_cases h1:n<=2*k+1
  .rw[Z9 l9,o7];exact .inr ⟨_,rfl,Ie hd (λj j0 j1 j2=>by omega),hp,hdr⟩
  rw[ax l9,o6,N9 l9,o6];by_cases h2:2*k+2<n
  .rw[V5 l9,o7,a5S l9 l9,o8];cases hc:E9 (hg m (2*k+2)) (hg m (2*k+1))
   .rw[iU]at hc;rw[o6,a5S l9 hk,o8];cases hq:E9 (hg m (2*k+1)) (hg m k)
    .rw[iU]at hq;exact .inr ⟨_,rfl,Ie hd (λj j0 j1 j2=>by have:j=2*k+1\/j=2*k+2:=l9;rcases this with rfl|rfl<;>(dsimp only;omega)),hp,hdr⟩
    .rw[E5,o6,a5T hk l9];exact .inl ⟨(swp m k (2*k+1),((2*k+1:Nat):Int)),rfl,⟨_,_,rfl,by rw[OA];omega,KP hd l9 l9 l9 l9 (λj j0 j1 j2=>by
      have:j=2*k+1\/j=2*k+2:=l9;rcases this with rfl|rfl
      .exact aX _
      .exact hc) (iW.1 hq),(QG hk l9).trans hp,dswp _ _ l9 l9⟩,by simp;omega⟩
   .rw[iW]at hc;rw[o7,a5S l9 hk,o8];cases hq:E9 (hg m (2*k+2)) (hg m k)
    .rw[iU]at hq;exact .inr ⟨_,rfl,Ie hd (λj j0 j1 j2=>by have:j=2*k+1\/j=2*k+2:=l9;rcases this with rfl|rfl<;>(dsimp only;omega)),hp,hdr⟩
    .rw[E5,o6,a5T hk l9];exact .inl ⟨(swp m k (2*k+2),((2*k+2:Nat):Int)),rfl,⟨_,_,rfl,by rw[OA];omega,KP hd l9 l9 l9 l9 (λj j0 j1 j2=>by
      have:j=2*k+1\/j=2*k+2:=l9;rcases this with rfl|rfl
      .omega
      .exact aX _) (iW.1 hq),(QG hk l9).trans hp,dswp _ _ l9 l9⟩,by simp;omega⟩
  .rw[N9 l9,o6,a5S l9 hk,o8];cases hq:E9 (hg m (2*k+1)) (hg m k)
   .rw[iU]at hq;exact .inr ⟨_,rfl,Ie hd (λj j0 j1 j2=>by have:j=2*k+1:=l9;subst this;omega),hp,hdr⟩
   .rw[E5,o6,a5T hk l9];exact .inl ⟨(swp m k (2*k+1),((2*k+1:Nat):Int)),rfl,⟨_,_,rfl,by rw[OA];omega,KP hd l9 l9 l9 l9 (λj j0 j1 j2=>by have:j=2*k+1:=l9;subst this;exact aX _) (iW.1 hq),(QG hk l9).trans hp,dswp _ _ l9 l9⟩,by simp;omega⟩)
 obtain⟨y,k1,k2,k3,k4⟩:=key;exact⟨E9 (i:Int) y.2,y.1,(lJ k1 _).trans rfl,k2,k3,k4⟩
theorem b4z(hl:l.length<=1000)(h:Pn l l.length)(h0:0<l.length):∃l',sV l=some (hg l 0,l')/\Pn l' l'.length/\(l' ++[hg l 0]).Perm l:=by
 obtain⟨n,hn⟩:∃n,l.length=n+1:=⟨l.length -1,l9⟩;have hsub:J3 .i64 ((l.length:Nat):Int) 1=((n:Nat):Int):=by rw[U2 U0];omega
 unfold sV mD;rw[o8,show o9 l=((l.length:Nat):Int)from rfl,hsub,show(0:Int)=((0:Nat):Int)from rfl,a5T l9 l9,o8];have hlen:(swp l 0 n).length=n+1:=by rw[OA,hn]
 obtain⟨b,m,k1,k2,k3,k4⟩:=b8E (l:=swp l 0 n) (n:=n) (i:=0) l9 l9 l9 (a8z h l9);rw[k1,o8];have hml:=a0p k3;have hmn:m.length=n+1:=l9;have hlast:hg m n=hg l 0:=by
  have e1:(m.drop n)[0]? =((swp l 0 n).drop n)[0]?:=by rw[k4]
  rw[W9,W9,bM,Ag l9,Ag l9]at e1;rw[I8 e1,a3I l9 l9,if_pos rfl]
 unfold EI;dsimp only;have hs2:J3 .i64 (o9 m) 1=((n:Nat):Int):=by rw[show o9 m=((m.length:Nat):Int)from rfl,hmn,U2 U0];omega
 rw[hs2,b1Z l9,o8,show O8 m (U6 (n:Int))=some (hg m n)from Ag (i:=n) l9,o8,show qp 0 (n:Int) (o9 m)=true by simp[qp,o9];omega,o7,show qh m (U6 0) (U6 (n:Int))=m.take n by simp[qh,U6],hlast];refine⟨m.take n,rfl,?_,?_⟩
 .have:(m.take n).length=n:=by simp;omega
  rw[this];intro k k0 k1';have hga:∀i,i<n->hg (m.take n) i=hg m i:=λi hi=>by unfold hg;rw[vK,vK,ik hi]
  rw[hga k k1',hga _ l9];exact k2 k k0 k1'
 .have hcat:m.take n++[hg l 0]=m:=by
   rw[←hlast];have e:m.drop n=[hg m n]:=by
    apply gm;intro i;rw[W9];cases i with
    |zero=>rw[bM,Ag l9];rfl|succ i=>rw[jg l9];rfl
   rw[←e,ji]
  rw[hcat];exact k3.trans (QG l9 l9)
def qQ(O:c9h)(x:Int):Bool:=O.any λy=>x8 y x
variable {O:c9h}
theorem xZ{x:Int} :qQ O x=true↔x∈O:=by
 unfold qQ;rw[jH];constructor
 .rintro⟨y,hy,h⟩;rw[O9]at h;exact h▸hy
 .exact λh=>⟨x,h,J7 rfl⟩
theorem a4o(h:O.length<=1000000)(x:Int):Fg O x=some (qQ O x):=by
 unfold Fg;refine X8 (vX O (λy=>x8 y x) true PUnit.unit h (λi a ha=>?_) ?_) ?_
 rotate_left 2
 .unfold qQ;cases O.any λy=>x8 y x<;>rfl
 .simp only[H5 ha,o7,F5,ha,o8];cases x8 a x<;>rfl
 .rw[G7];rfl
def Xg(s:A8)(d:Int)(O:c9h):Bool:=(O6 s d).all λx=>qQ O x
variable {s:A8}
theorem b2L(h:SmS s)(hO:O.length<=1000000)(d:Int):Gu s d O=some (Xg s d O):=by
 unfold Gu;rw[TY h,o8];have hdl:=MX h d;refine X8 (vX (O6 s d) (λy=> !qQ O y) false PUnit.unit l9 (λi a ha=>?_) ?_) ?_
 rotate_left 2
 .unfold Xg;have:((O6 s d).any λy=> !qQ O y)= !(O6 s d).all λx=>qQ O x:=by rw[List.not_all_eq_any_not]
  rw[this];cases (O6 s d).all λx=>qQ O x<;>rfl
 .simp only[H5 ha,o7,F5,ha,o8];rw[show O8 (O6 s d) (U6 (i:Int))=some a from ha,o8,a4o hO,o8];cases qQ O a<;>rfl
 .rw[G7];rfl
def okN(s:A8)(O:c9h)(d:Nat):Bool:=l7 (qQ O (d:Int)) false (Xg s (d:Int) O)
def Yl(s:A8)(O:c9h)(d:Nat):c9q:=l7 (okN s O d) (some d) none
def OQ(s:A8)(O:c9h):c9q:=au s.2.2.2.1.length (Yl s O)
theorem b5e{d r:Nat}(h:Yl s O d=some r):r=d/\okN s O d=true:=by
 unfold Yl at h;cases hq:okN s O d<;>rw[hq]at h
 .cases h
 .cases h;exact⟨rfl,rfl⟩
variable {d:Nat}
theorem a0f(h:OQ s O=some d):d<s.2.2.2.1.length/\okN s O d=true:=by obtain⟨i,hi,hp⟩:=fV h;obtain⟨rfl,ho⟩:=b5e hp;exact⟨hi,ho⟩
theorem Ym(hd:d<s.2.2.2.1.length)(ho:okN s O d=true)(hn:∀j,j<d->okN s O j=false):OQ s O=some d:=by unfold OQ;exact UI (p:=Yl s O) (iT.2 λj hj=>by unfold Yl;rw[hn j (X6.1 hj)];rfl) (by unfold Yl;rw[ho];rfl) hd
theorem a0e(hn:∀j,j<s.2.2.2.1.length->okN s O j=false):OQ s O=none:=by unfold OQ au;exact iT.2 λj hj=>by unfold Yl;rw[hn j (X6.1 hj)];rfl
def Vr(s:A8):Nat->c9h->c9h⊕(c9h×Int)
 |0,O=> .inl O|k+1,O=>if O.length<s.2.2.2.1.length then(match OQ s O with|none=> .inr ([],9)|some d=>Vr s k (O++[(d:Int)]))else .inl O
def mf(s:A8):c9h×Int:=match Vr s 100 []with| .inl O=>(O,0)| .inr x=>x
theorem b2K(h:SmS s):yG s=some (mf s):=by
 have hnd:=h.nd;unfold yG;have hn:o9 s.2.2.2.1=((s.2.2.2.1.length:Nat):Int):=rfl;generalize hfd:(λ(x:c9h)=>l7 (E9 (o9 x) (o9 s.2.2.2.1)) (o5 (ay (λ(x_1:Int)=>l7 (E9 x_1 (o9 s.2.2.2.1)) (o5 (Fg x x_1) λ(x_2:Bool)=>l7 x_2 (some (.inl (A7 .i64 x_1 1))) (o5 (Gu s x_1 x) λ(x:Bool)=>l7 (D9 x) (some (.inl (A7 .i64 x_1 1))) (some (.inr x_1)))) (some (.inr x_1))) 0) λ(y:Int)=>
   l7 (x8 y (o9 s.2.2.2.1)) (some (Out.rt ((([],9):c9h×Int)))) (o5 (di x [y]) λ(x:c9h)=>some (.nx x))) (some (.ex x)))=f
 have step:∀O:c9h,O.length<=100->f O=some (if O.length<s.2.2.2.1.length then(match OQ s O with|none=> .rt ([],9)|some d=> .nx (O++[(d:Int)]))else .ex O):=by
  intro O hO;rw[←hfd];simp only;by_cases hlt:O.length<s.2.2.2.1.length
  .rw[V5 (by simp only[o9];omega),if_pos hlt,o7];have key:=iM (f:=λ(x_1:Int)=>l7 (E9 x_1 (o9 s.2.2.2.1)) (o5 (Fg O x_1) λ(x_2:Bool)=>l7 x_2 (some (.inl (A7 .i64 x_1 1))) (o5 (Gu s x_1 O) λ(x:Bool)=>l7 (D9 x) (some (.inl (A7 .i64 x_1 1))) (some (.inr x_1)))) (some (.inr x_1)))
    (s:=0) (λx=>∃i:Nat,x=i/\i<=s.2.2.2.1.length/\∀j,j<i->okN s O j=false) (λy=>∃i:Nat,y=i/\i<=s.2.2.2.1.length/\(∀j,j<i->okN s O j=false)/\(i<s.2.2.2.1.length->okN s O i=true)) (λx=>s.2.2.2.1.length -x.toNat) ⟨0,rfl,l9,λj hj=>by omega⟩ Y2 (by
    rintro x ⟨i,rfl,hi,hno⟩;by_cases hl:i<s.2.2.2.1.length
    .rw[V5 (by rw[hn];omega),o7,a4o l9,o8,b2L h l9,o8,Z5 l9];have hok:okN s O i=l7 (qQ O (i:Int)) false (Xg s (i:Int) O):=rfl;cases h1:qQ O (i:Int)
     .cases h2:Xg s (i:Int) O
      .exact .inl ⟨_,rfl,⟨i+1,rfl,hl,λj hj=>by
        by_cases hji:j=i
        .subst hji;rw[hok,h1,h2];rfl
        .exact hno j l9⟩,by simp;omega⟩
      .exact .inr ⟨_,rfl,i,rfl,hi,hno,λ_=>by rw[hok,h1,h2];rfl⟩
     .exact .inl ⟨_,rfl,⟨i+1,rfl,hl,λj hj=>by
       by_cases hji:j=i
       .subst hji;rw[hok,h1];rfl
       .exact hno j l9⟩,by simp;omega⟩
    .have:i=s.2.2.2.1.length:=l9;subst this;exact .inr ⟨_,by rw[N9 (by rw[hn];omega)];rfl,_,rfl,F7 _,hno,λhh=>by omega⟩)
   obtain⟨y,k1,i,rfl,hi,hno,hyes⟩:=key;rw[k1,o8];by_cases hl:i<s.2.2.2.1.length
   .rw[J6 (by rw[hn];omega),o6,jB _ l9,o8,Ym hl (hyes hl) hno]
   .rw[J7 (by rw[hn];omega),o7,a0e λj hj=>hno j l9]
  .rw[N9 (by simp only[o9];omega),if_neg hlt];rfl
 have key:∀(k j:Nat) (O:c9h),s.2.2.2.1.length -O.length<k->k<=j->O.length<=s.2.2.2.1.length->rC f j O=some (match Vr s k O with| .inl O=> .inl O| .inr x=> .inr x):=by
  intro k;induction k with
  |zero=>intro j O hk;omega|succ k ih=>
   intro j O hk hj hO;obtain⟨j,rfl⟩:∃j',j=j' +1:=⟨j -1,l9⟩;rw[rC,step O l9];unfold Vr;by_cases hlt:O.length<s.2.2.2.1.length
   .rw[if_pos hlt,if_pos hlt];cases OQ s O with
    |none=>rfl|some d=>exact ih j (O++[(d:Int)]) Y2 l9 Y2
   .rw[if_neg hlt,if_neg hlt]
 have:=key 100 lG [] Y2 (by unfold lG;omega) x9;refine(lJ this _).trans ?_;unfold mf;cases Vr s 100 []<;>rfl
def qw(s:A8)(e:Int)(i:Nat):c9j:=onL (λd=>decide (e∈O6 s (d:Int))) i
def UU(s:A8)(O:c9h)(d:Int):c9h:=(O6 s d).filter λx=> !qQ O x
def hw(W:c9h)(d:Int):Int:=W.getD d.toNat 0
variable {W:c9h}
theorem b4A{d:Int}(h0:0<=d)(h:d<o9 W):F9 W d=some (hw W d)/\O8 W (U6 d)=some (hw W d):=by have:=NL h0 h;refine⟨this,?_⟩;unfold F9 at this;rw[if_pos h0]at this;exact this
theorem b4B{d:Int}(h0:0<=d)(h:d<o9 W)(v x:Int)(hx:0<=x):hw (bu W (U6 d) v) x=if x=d then v else hw W x:=by
 unfold hw;have hl:d.toNat<W.length:=by simp only[o9]at h;omega
 show(W.set d.toNat v).getD x.toNat 0=_;rw[vK,vK,Y3];by_cases hq:x=d
 .subst hq;rw[if_pos rfl,if_pos hl,if_pos rfl];rfl
 .rw[if_neg l9,if_neg hq]
theorem Q_(W:c9h)(i:Nat)(v:Int):(bu W i v).length=W.length:=by show(W.set i v).length=_;simp
theorem WX{n:Nat}(hd:l.Nodup)(hr:∀x∈l,0<=x/\x<(n:Int)):l.length<=n:=by
 have hp:=IY l;have hs:=Ig l;have hnd:(LY l).Nodup:=hp.nodup_iff.2 hd;have hsi:SI (LY l):=by have:=List.Pairwise.and hs hnd;exact this.imp λ{a b} ⟨h1,h2⟩=>by omega
 have:=a0X n hsi λx hx=>hr x (hp.mem_iff.1 hx);rw[hp.length_eq]at this;exact this
theorem a5J(h:SI l){m:Int}(hm:m∉O):((l.filter λx=> !qQ (O++[m]) x).length:Int)=((l.filter λx=> !qQ O x).length:Int) -(if m∈l then 1 else 0):=by
 have hh:∀x,qQ (O++[m]) x=(qQ O x || x8 m x):=λx=>by unfold qQ;rw[uM];simp
 induction l with
 |nil=>simp|cons a l ih=>
  have h' :=Z4.1 h;have ih' :=ih h'.2;rw[fK,fK,hh];by_cases hma:m=a
  .subst hma;have hno:m∉l:=λhx=>by have:=h'.1 m hx;omega
   rw[if_neg hno]at ih';have h1:qQ O m=false:=by
    cases hq:qQ O m
    .rfl
    .exact absurd (xZ.1 hq) hm
   have hA:(!(qQ O m || x8 m m))=false:=by rw[J7 rfl];simp
   have hB:(!qQ O m)=true:=by rw[h1];rfl
   rw[hA,hB,if_pos (show m∈m::l by simp)];simp only[dP,if_false,if_true,G8];omega
  .rw[J6 hma,Bool.or_false];have:(if m∈a::l then(1:Int)else 0)=if m∈l then 1 else 0:=by simp[hma]
   rw[this];cases qQ O a
   .simp only[Bool.not_false,if_true,G8];omega
   .simp only[jY,dP,if_false];exact ih'
structure KInv (s:A8) (O W H:c9h):Prop where
 nd:O.Nodup
 rng:∀x∈O,0<=x/\x<nD s
 cl:∀u∈O,∀x∈O6 s u,x∈O
 wl:W.length=s.2.2.2.1.length
 w:∀d,0<=d->d<nD s->hw W d=((UU s O d).length:Int)
 hp:Pn H H.length
 hnd:H.Nodup
 hm:∀d,d∈H↔0<=d/\d<nD s/\d∉O/\hw W d=0
theorem a8L :okN s O d=true↔(d:Int)∉O/\UU s O (d:Int)=[]:=by
 unfold okN Xg UU;cases hq:qQ O (d:Int)
 .have h1:(d:Int)∉O:=λh=>by rw[xZ.2 h]at hq;cases hq
  simp only[o6,lq,mY,lm,Bool.not_eq_false'];exact⟨λh=>⟨h1,λa ha=>by rw[h a ha]⟩,λh a ha=>h.2 a ha⟩
 .have h1:=xZ.1 hq;simp only[o7];exact⟨λh=>(by cases h),λh=>absurd h1 h.1⟩
variable {H:c9h}
theorem KInv.ready(h:KInv s O W H)(hd:d<s.2.2.2.1.length):okN s O d=true↔(d:Int)∈H:=by
 have hn:nD s=((s.2.2.2.1.length:Nat):Int):=rfl;rw[a8L,h.hm];have:=h.w (d:Int) l9 l9;constructor
 .rintro⟨h1,h2⟩;exact⟨l9,l9,h1,by rw[this,h2];rfl⟩
 .rintro⟨_,_,h1,h2⟩;refine⟨h1,P5.1 ?_⟩;rw[this]at h2;omega
theorem KInv.next_none(h:KInv s O W []):OQ s O=none:=
 a0e λj hj=>by
  cases hq:okN s O j
  .rfl
  .have:=(h.ready hj).1 hq;cases this
theorem KInv.next_some(h:KInv s O W H)(h0:0<H.length):∃m:Nat,hg H 0=(m:Int)/\OQ s O=some m/\m<s.2.2.2.1.length/\O.length<s.2.2.2.1.length:=by
 have hn:nD s=((s.2.2.2.1.length:Nat):Int):=rfl;have hmem:hg H 0∈H:=by have:=Ag h0;exact iL this
 have hmm:=(h.hm _).1 hmem;obtain⟨m,hm⟩:∃m:Nat,hg H 0=(m:Int):=⟨(hg H 0).toNat,l9⟩;rw[hm]at hmem hmm;have hlt:m<s.2.2.2.1.length:=l9;refine⟨m,hm,Ym hlt ((h.ready hlt).2 hmem) λj hj=>?_,hlt,?_⟩
 .cases hq:okN s O j
  .rfl
  .have hjH:=(h.ready l9).1 hq;obtain⟨i,hi,he⟩:=X3 hjH;have:=b4y h.hp i hi;have e:=Ag hi;rw[dh hi,he]at e;have:=I8 e;omega
 .have hnd:(O++[(m:Int)]).Nodup:=O5.2 ⟨h.nd,x9,λa ha b hb=>by simp at hb;subst hb;intro hq;subst hq;exact hmm.2.2.1 ha⟩;have:=WX (n:=s.2.2.2.1.length) hnd λx hx=>by
   rcases D6.1 hx with hx|hx
   .exact h.rng x hx
   .simp at hx;subst hx;omega
  simp at this;omega
structure UInv (s:A8) (W H0:c9h) (us:c9h) (W' H' :c9h):Prop where
 wl:W'.length=s.2.2.2.1.length
 w:∀d,0<=d->d<nD s->hw W' d=hw W d -(if d∈us then 1 else 0)
 hp:Pn H' H'.length
 pm:∃P:c9h,H'.Perm (H0++P)/\P.Sublist us/\∀d,d∈P↔d∈us/\hw W d=1
theorem a9I(hs:SmS s){W H0 us:c9h}(hW:W.length=s.2.2.2.1.length)(hW2:∀d,0<=d->d<nD s->-1000<=hw W d/\hw W d<=1000)(hH:Pn H0 H0.length)(hHl:H0.length<=100)(hus:SI us)(hur:∀u∈us,0<=u/\u<nD s)
  {f:c9h×c9h×Int->Option ((c9h×c9h×Int)⊕(c9h×c9h))}
  (hin:∀(i:Nat) (u:Int) (A B:c9h),us[i]? =some u->f (A,B,(i:Int))=o5 (F9 A u) λ(x_8:Int)=>o5 (O8 A (U6 u)) λ(x_9:Int)=>o5 (F9 A u) λ(x_10:Int)=>o5 (O8 A (U6 u)) λ(x_11:Int)=>
   o5 (F9 (bu A (U6 u) (J3 .i64 x_9 1)) u) λ(x_12:Int)=>o5 (O8 (bu A (U6 u) (J3 .i64 x_9 1)) (U6 u)) λ(x_13:Int)=>l7 (x8 x_13 0) (o5 (iV B u) λ(x_14:c9h)=>some (.inl (bu A (U6 u) (J3 .i64 x_9 1),x_14,A7 .i64 (i:Int) 1)))
    (some (.inl (bu A (U6 u) (J3 .i64 x_9 1),B,A7 .i64 (i:Int) 1))))
  (hend:∀(A B:c9h),f (A,B,(us.length:Int))=some (.inr (A,B))):∃W' H',ay f (W,H0,0)=some (W',H')/\UInv s W H0 us W' H' :=by
 have hn:nD s=((s.2.2.2.1.length:Nat):Int):=rfl;have hul:us.length<=14:=ER hs hus hur;obtain⟨e,h1,h2⟩:=iM (f:=f) (s:=(W,H0,0)) (λx=>∃(i:Nat) (A B:c9h),x=(A,B,(i:Int))/\i<=us.length/\UInv s W H0 (us.take i) A B/\B.length<=H0.length+i) (λe=>UInv s W H0 us e.1 e.2) (λx=>us.length -x.2.2.toNat)
  ⟨0,W,H0,rfl,l9,⟨hW,λd _ _=>by simp,hH,[],x9,x9,λd=>by simp⟩,l9⟩ Y2 (by
  rintro x ⟨i,A,B,rfl,hi,hU,hBl⟩;by_cases hlt:i<us.length
  .left;have e:=dh hlt;generalize us[i]=u at e;have hu:=hur u (iL e);have hst:us.take (i+1)=us.take i++[u]:=by rw[U9 hlt,(V6.1 e).2]
   have hnot:u∉us.take i:=λhx=>by obtain⟨j,hj,hq⟩:=X3 hx;simp only[az]at hj;have h3:=jh.1 hus j i l9 hlt l9;rw[rQ]at hq;have h4:=(V6.1 e).2;omega
   have hAl:=hU.wl;have hAu:=hU.w u hu.1 hu.2;rw[if_neg hnot]at hAu;have hbd:=hW2 u hu.1 hu.2;obtain⟨q1,q2⟩:=b4A (W:=A) hu.1 (by simp only[o9];omega);have hsub:J3 .i64 (hw A u) 1=hw A u -1:=U2 U0;have hA2:∀d,0<=d->d<nD s->hw (bu A (U6 u) (hw A u -1)) d=hw W d -(if d∈us.take (i+1)then 1 else 0):=λd d0 d1=>by
    rw[b4B hu.1 (by simp only[o9];omega) _ _ d0,hst];have:=hU.w d d0 d1;by_cases hq:d=u
    .subst hq;rw[if_pos rfl,if_pos x9];omega
    .rw[if_neg hq,this];simp[hq]
   obtain⟨q3,q4⟩:=b4A (W:=bu A (U6 u) (hw A u -1)) (d:=u) hu.1 (by simp only[o9,Q_];omega);have hv:hw (bu A (U6 u) (hw A u -1)) u=hw A u -1:=by rw[b4B hu.1 (by simp only[o9];omega) _ _ hu.1,if_pos rfl]
   rw[hv]at q3 q4;obtain⟨P,p1,p2,p3⟩:=hU.pm;rw[hin i u A B e,q1,o8,q2,o8,o8,o8,hsub,q3,o8,q4,o8,Z5 l9];by_cases hz:hw A u -1=0
   .obtain⟨B',b1,b2,b3⟩:=a2t (l:=B) l9 hU.hp u;rw[J7 hz,o7,b1,o8];have hB'l:B'.length=B.length+1:=by rw[b3.length_eq];simp
    refine⟨_,rfl,⟨i+1,_,_,rfl,hlt,⟨by rw[Q_];exact hAl,hA2,b2,P++[u],?_,?_,λd=>?_⟩,l9⟩,by simp;omega⟩
    .rw[←F8];exact b3.trans (p1.append_right [u])
    .rw[hst];exact p2.append (List.Sublist.refl _)
    .rw[D6,p3,hst,D6];constructor
     .rintro(⟨h,h'⟩|h)
      .exact⟨.inl h,h'⟩
      .simp at h;subst h;exact⟨.inr x9,l9⟩
     .rintro⟨h|h,h'⟩
      .exact .inl ⟨h,h'⟩
      .exact .inr h
   .rw[J6 hz,o6];refine⟨_,rfl,⟨i+1,_,_,rfl,hlt,⟨by rw[Q_];exact hAl,hA2,hU.hp,P,p1,?_,λd=>?_⟩,l9⟩,by simp;omega⟩
    .rw[hst];exact p2.trans (List.sublist_append_left _ _)
    .rw[p3,hst,D6];constructor
     .rintro⟨h,h'⟩;exact⟨.inl h,h'⟩
     .rintro⟨h|h,h'⟩
      .exact⟨h,h'⟩
      .simp at h;subst h;omega
  .right;have:i=us.length:=l9;subst this;rw[bz]at hU;exact⟨_,hend _ _,hU⟩)
 exact⟨e.1,e.2,h1,h2⟩
theorem OE{m:Int}{d:Int} :d∈castL (qw s m s.2.2.2.1.length)↔0<=d/\d<nD s/\m∈O6 s d:=by
 have hn:nD s=((s.2.2.2.1.length:Nat):Int):=rfl;unfold castL;rw[aF];constructor
 .rintro⟨k,hk,rfl⟩;obtain⟨h1,h2⟩:=a3Z _ hk;exact⟨l9,l9,by simpa using h2⟩
 .rintro⟨h1,h2,h3⟩;refine⟨d.toNat,?_,l9⟩;unfold qw onL;rw[Y4,X6];exact⟨l9,by rw[ai h1];simpa using h3⟩
theorem ZM{l:c9j}(h:l.Pairwise (·< ·)):SI (castL l):=List.Pairwise.map _ (λa b h=>by omega) h
theorem KInv.step(h:KInv s O W H)(h0:0<H.length){m:Nat}(hm:hg H 0=(m:Int)){R:c9h}(hR:Pn R R.length)(hRp:(R++[(m:Int)]).Perm H){W' H' :c9h}(hU:UInv s W R (castL (qw s (m:Int) s.2.2.2.1.length)) W' H'):KInv s (O++[(m:Int)]) W' H' :=by
 have hn:nD s=((s.2.2.2.1.length:Nat):Int):=rfl;have hmem:(m:Int)∈H:=by rw[←hm];have:=Ag h0;exact iL this
 have hmm:=(h.hm _).1 hmem;have hleft:UU s O (m:Int)=[]:=by have:=h.w (m:Int) hmm.1 hmm.2.1;rw[hmm.2.2.2]at this;exact P5.1 l9
 have hdeps:∀x∈O6 s (m:Int),x∈O:=λx hx=>by have hnil:=mY.1 hleft x hx;simp only[lm,Bool.not_eq_false']at hnil;exact xZ.1 hnil
 have hndR:(R++[(m:Int)]).Nodup:=hRp.nodup_iff.2 h.hnd;have hmR:(m:Int)∉R:=λhx=>by have:=(O5.1 hndR).2.2 _ hx _ (G5.2 rfl);exact this rfl
 have hRm:∀d,d∈R↔d∈H/\d≠(m:Int):=λd=>by
  rw[←hRp.mem_iff,D6,G5];constructor
  .intro hx;exact⟨.inl hx,λhq=>hmR (hq▸hx)⟩
  .rintro⟨hx|hx,hq⟩
   .exact hx
   .exact absurd hx hq
 obtain⟨P,p1,p2,p3⟩:=hU.pm;have huO:∀u,(m:Int)∈O6 s u->u∉O:=λu hu hx=>hmm.2.2.1 (h.cl u hx _ hu);refine⟨?_,?_,?_,hU.wl,λd d0 d1=>?_,hU.hp,?_,λd=>?_⟩
 .exact O5.2 ⟨h.nd,x9,λa ha b hb=>by simp at hb;subst hb;intro hq;subst hq;exact hmm.2.2.1 ha⟩
 .intro x hx;rcases D6.1 hx with hx|hx
  .exact h.rng x hx
  .simp at hx;subst hx;exact⟨hmm.1,hmm.2.1⟩
 .intro u hu x hx;rcases D6.1 hu with hu|hu
  .exact P8 _ (h.cl u hu x hx)
  .simp at hu;subst hu;exact P8 _ (hdeps x hx)
 .rw[hU.w d d0 d1,h.w d d0 d1];unfold UU;rw[a5J (CG s d) hmm.2.2.1];congr 1;have:(d∈castL (qw s (m:Int) s.2.2.2.1.length))↔((m:Int)∈O6 s d):=by rw[OE];exact⟨λh=>h.2.2,λh=>⟨d0,d1,h⟩⟩
  by_cases hq:(m:Int)∈O6 s d
  .rw[if_pos (this.2 hq),if_pos hq]
  .rw[if_neg (λhx=>hq (this.1 hx)),if_neg hq]
 .rw[p1.nodup_iff];refine O5.2 ⟨(O5.1 hndR).1,?_,λa ha b hb hq=>?_⟩
  .have:(castL (qw s (m:Int) s.2.2.2.1.length)).Nodup:=(ZM (a0k _ _)).imp λ{a b} h=>by omega
   exact p2.nodup this
  .subst hq;have h1:=(h.hm a).1 ((hRm a).1 ha).1;have h2:=(p3 a).1 hb;omega
 .rw[p1.mem_iff,D6,hRm,p3,OE,h.hm];have hw' :=λd0 d1=>hU.w d d0 d1;have hmemU:d∈castL (qw s (m:Int) s.2.2.2.1.length)↔0<=d/\d<nD s/\(m:Int)∈O6 s d:=OE;constructor
  .rintro(⟨⟨d0,d1,dO,dw⟩,dm⟩|⟨⟨d0,d1,dd⟩,dw⟩)
   .refine⟨d0,d1,λhx=>?_,?_⟩
    .rcases D6.1 hx with hx|hx
     .exact dO hx
     .simp at hx;exact dm hx
    .have hnot:(m:Int)∉O6 s d:=λhx=>by
      have h1:=h.w d d0 d1;rw[dw]at h1;have h2:UU s O d=[]:=P5.1 l9;have h3:=mY.1 h2 _ hx;simp only[lm,Bool.not_eq_false']at h3;exact hmm.2.2.1 (xZ.1 h3)
     rw[hw' d0 d1,dw,if_neg (λhx=>hnot (hmemU.1 hx).2.2)];rfl
   .refine⟨d0,d1,λhx=>?_,?_⟩
    .rcases D6.1 hx with hx|hx
     .exact huO d dd hx
     .simp at hx;rw[hx]at dd;exact hmm.2.2.1 (hdeps _ dd)
    .rw[hw' d0 d1,if_pos (hmemU.2 ⟨d0,d1,dd⟩)];omega
  .rintro⟨d0,d1,dO,dw⟩;rw[hw' d0 d1]at dw;have dO1:d∉O:=λhx=>dO (P8 _ hx);have dm:d≠(m:Int):=λhx=>dO (by rw[hx];simp);by_cases hq:(m:Int)∈O6 s d
   .rw[if_pos (hmemU.2 ⟨d0,d1,hq⟩)]at dw;exact .inr ⟨⟨d0,d1,hq⟩,l9⟩
   .rw[if_neg (λhx=>hq (hmemU.1 hx).2.2)]at dw;exact .inl ⟨⟨d0,d1,dO1,l9⟩,dm⟩
def FB(s:A8)(i:Nat):List c9h:=(List.range s.2.2.2.1.length).map λ(e:Nat)=>castL (qw s (e:Int) i)
theorem Ls(l:c9j):(castL l).length=l.length:=by unfold castL;rw[P6]
theorem a9J(s:A8)(e:Int)(i:Nat):castL (qw s e (i+1))=castL (qw s e i)++(if e∈O6 s (i:Int)then[(i:Int)]else[]):=by unfold qw;rw[MC];by_cases h:e∈O6 s (i:Int)<;>simp[castL,h]
theorem a9H(hs:SmS s)(i:Nat)(hi:i<s.2.2.2.1.length){f:List c9h×Int->Option ((List c9h×Int)⊕List c9h)}
  (hin:∀(k:Nat) (e:Int) (A:List c9h),(O6 s (i:Int))[k]? =some e->f (A,(k:Int))=l7 (inb e (o9 A)) (o5 (O8 A (U6 e)) λ(x_7:c9h)=>o5 (di x_7 [(i:Int)]) λ(x_8:c9h)=>l7 (inb e (o9 A)) (l7 (TU (U6 e) (U6 e)) (o5 (O8 A (U6 e)) λ(x_9:c9h)=>some (.inl (bu A (U6 e) x_8,A7 .i64 (k:Int) 1))) none) none) none)
  (hend:∀A,f (A,((O6 s (i:Int)).length:Int))=some (.inr A)):ay f (FB s i,0)=some (FB s (i+1)):=by
 have hn:nD s=((s.2.2.2.1.length:Nat):Int):=rfl;have hdl:=MX hs (i:Int);have hnd:=hs.nd;have hsi:=CG s (i:Int);refine(nK (O6 s (i:Int)) (λ(A:List c9h) e=>A.set e.toNat (A.getD e.toNat []++[(i:Int)])) (λb k=>(b,k)) (λb=>b) (λk A=>A=(List.range s.2.2.2.1.length).map λ(e:Nat)=>castL (qw s (e:Int) i)++(if(e:Int)∈(O6 s (i:Int)).take k then[(i:Int)]else[])) (b:=FB s i) l9 (by simp[FB]) (λk e A he hk hA=>?_) (λA hA=>hend A)).1.trans ?_
 .have hlt:=(V6.1 he).1;have her:=yl (iL he);have hst:(O6 s (i:Int)).take (k+1)=(O6 s (i:Int)).take k++[e]:=by rw[U9 hlt,(V6.1 he).2]
  have hnot:e∉(O6 s (i:Int)).take k:=λhx=>by obtain⟨j,hj,hq⟩:=X3 hx;simp only[az]at hj;have h3:=jh.1 hsi j k l9 hlt l9;rw[rQ]at hq;have h4:=(V6.1 he).2;omega
  have hlA:A.length=s.2.2.2.1.length:=by rw[hA];simp
  have hg:A[e.toNat]? =some (castL (qw s e i)):=by rw[hA,Ii _ _ (show e.toNat<s.2.2.2.1.length by omega),ai her.1,if_neg hnot,H8]
  have hul:(castL (qw s e i)).length<=i:=by rw[Ls];exact FM _ _
  rw[hin k e A he,show inb e (o9 A)=true from decide_eq_true ⟨her.1,by simp only[o9];omega⟩,o7,show O8 A (U6 e)=some (castL (qw s e i))from hg,o8,jB _ l9,o8,o7,show TU (U6 e) (U6 e)=true by simp[TU],o7,o8,Z5 l9];rw[show A.getD e.toNat []=castL (qw s e i) by rw[vK,hg];rfl];refine⟨rfl,?_⟩;rw[hA,Zg];apply fC;intro d hd;rw[hst];by_cases hq:d=e.toNat
  .subst hq;rw[if_pos rfl,ai her.1,if_pos x9]
  .rw[if_neg hq];have:(if(d:Int)∈(O6 s (i:Int)).take k++[e]then[(i:Int)]else[])=if(d:Int)∈(O6 s (i:Int)).take k then[(i:Int)]else[]:=by
    have:(d:Int)≠e:=l9;simp[this]
   rw[this]
 .have h2:=(nK (O6 s (i:Int)) (λ(A:List c9h) e=>A.set e.toNat (A.getD e.toNat []++[(i:Int)])) (λb k=>(b,k)) (λb=>b) (λk A=>A=(List.range s.2.2.2.1.length).map λ(e:Nat)=>castL (qw s (e:Int) i)++(if(e:Int)∈(O6 s (i:Int)).take k then[(i:Int)]else[])) (f:=f) (b:=FB s i) l9 (by simp[FB]) (λk e A he hk hA=>by
   have hlt:=(V6.1 he).1;have her:=yl (iL he);have hst:(O6 s (i:Int)).take (k+1)=(O6 s (i:Int)).take k++[e]:=by rw[U9 hlt,(V6.1 he).2]
   have hnot:e∉(O6 s (i:Int)).take k:=λhx=>by obtain⟨j,hj,hq⟩:=X3 hx;simp only[az]at hj;have h3:=jh.1 hsi j k l9 hlt l9;rw[rQ]at hq;have h4:=(V6.1 he).2;omega
   have hlA:A.length=s.2.2.2.1.length:=by rw[hA];simp
   have hg:A[e.toNat]? =some (castL (qw s e i)):=by rw[hA,Ii _ _ (show e.toNat<s.2.2.2.1.length by omega),ai her.1,if_neg hnot,H8]
   have hul:(castL (qw s e i)).length<=i:=by rw[Ls];exact FM _ _
   rw[hin k e A he,show inb e (o9 A)=true from decide_eq_true ⟨her.1,by simp only[o9];omega⟩,o7,show O8 A (U6 e)=some (castL (qw s e i))from hg,o8,jB _ l9,o8,o7,show TU (U6 e) (U6 e)=true by simp[TU],o7,o8,Z5 l9];rw[show A.getD e.toNat []=castL (qw s e i) by rw[vK,hg];rfl];refine⟨rfl,?_⟩;rw[hA,Zg];apply fC;intro d hd;rw[hst];by_cases hq:d=e.toNat
   .subst hq;rw[if_pos rfl,ai her.1,if_pos x9]
   .rw[if_neg hq];have:(if(d:Int)∈(O6 s (i:Int)).take k++[e]then[(i:Int)]else[])=if(d:Int)∈(O6 s (i:Int)).take k then[(i:Int)]else[]:=by
     have:(d:Int)≠e:=l9;simp[this]
    rw[this]) (λA hA=>hend A)).2
  rw[h2];unfold FB;apply congrArg some;apply fC;intro d hd;rw[a9J,bz]
theorem b4t{α β σ:Type}{o:Option α}{x:α}{K:α->Option (σ⊕β)}{Q:σ->Prop}(h:o=some x)(hk:∃s',K x=some (.inl s')/\Q s'):∃s',o5 o K=some (.inl s')/\Q s' :=by rw[h];exact hk
structure IInv (s:A8) (i:Nat) (U:List c9h) (W H:c9h):Prop where
 u:U=FB s i
 w:W=pd ((List.range i).map λ(d:Nat)=>((O6 s (d:Int)).length:Int)) (s.2.2.2.1.length -i)
 hp:Pn H H.length
 hnd:H.Nodup
 hm:∀d,d∈H↔0<=d/\d<(i:Int)/\O6 s d=[]
 hl:H.length<=i
theorem b5y(hs:SmS s):uF s=some (mf s):=by
 have hn:nD s=((s.2.2.2.1.length:Nat):Int):=rfl;have hnd:=hs.nd;unfold uF;rw[MR hs,o8];have hAl:o9 ((List.range s.2.2.2.1.length).map λ(d:Nat)=>O6 s (d:Int))=((s.2.2.2.1.length:Nat):Int):=by simp[o9]
 have hAg:∀i,i<s.2.2.2.1.length->((List.range s.2.2.2.1.length).map λ(d:Nat)=>O6 s (d:Int))[i]? =some (O6 s (i:Int)):=λi hi=>Ii _ _ hi;generalize (List.range s.2.2.2.1.length).map (λ(d:Nat)=>O6 s (d:Int))=A at*;rw[hAl,show qU ((s.2.2.2.1.length:Nat):Int) ([]:c9h)=some (FB s 0) by
  unfold qU FB qw onL castL;rw[if_pos l9];simp[List.map_const'],o8,show qU ((s.2.2.2.1.length:Nat):Int) (0:Int)=some (pd ((List.range 0).map λ(d:Nat)=>((O6 s (d:Int)).length:Int)) (s.2.2.2.1.length -0)) by
  unfold qU pd;rw[if_pos l9];simp,o8]
 obtain⟨e,k1,k2⟩:=iM (f:=λ(x_3:List c9h×c9h×c9h×Int)=>l7 (E9 x_3.2.2.2 ((s.2.2.2.1.length:Nat):Int)) (o5 (F9 A x_3.2.2.2) λ(x:c9h)=>o5 (F9 x_3.2.1 x_3.2.2.2) λ(x_4:Int)=>o5 (O8 x_3.2.1 (U6 x_3.2.2.2)) λ(x_5:Int)=>
   o5 (ay (λ(x_6:List c9h×Int)=>l7 (E9 x_6.2 (o9 x)) (o5 (F9 x x_6.2) λ(x:Int)=>l7 (inb x (o9 x_6.1)) (o5 (O8 x_6.1 (U6 x)) λ(x_7:c9h)=>o5 (di x_7 [x_3.2.2.2]) λ(x_8:c9h)=>l7 (inb x (o9 x_6.1)) (l7 (TU (U6 x) (U6 x)) (o5 (O8 x_6.1 (U6 x)) λ(x_9:c9h)=>some (.inl (bu x_6.1 (U6 x) x_8,A7 .i64 x_6.2 1))) none) none) none) (some (.inr x_6.1))) (x_3.1,0)) λ(y:List c9h)=>
   l7 (x8 (o9 x) 0) (o5 (iV x_3.2.2.1 x_3.2.2.2) λ(x_6:c9h)=>some (.inl (y,bu x_3.2.1 (U6 x_3.2.2.2) (o9 x),x_6,A7 .i64 x_3.2.2.2 1))) (some (.inl (y,bu x_3.2.1 (U6 x_3.2.2.2) (o9 x),x_3.2.2.1,A7 .i64 x_3.2.2.2 1)))) (some (.inr (x_3.1,x_3.2.1,x_3.2.2.1))))
  (s:=(FB s 0,pd ((List.range 0).map λ(d:Nat)=>((O6 s (d:Int)).length:Int)) (s.2.2.2.1.length -0),[],0)) (λx=>∃(i:Nat) (U:List c9h) (W H:c9h),x=(U,W,H,(i:Int))/\i<=s.2.2.2.1.length/\IInv s i U W H) (λy=>IInv s s.2.2.2.1.length y.1 y.2.1 y.2.2) (λx=>s.2.2.2.1.length -x.2.2.2.toNat)
  ⟨0,_,_,_,rfl,l9,rfl,rfl,λk k0 k1=>by simp at k1,x9,λd=>by simp;omega,x9⟩ Y2 (by
  rintro x ⟨i,U,W,H,rfl,hi,hI⟩;by_cases hlt:i<s.2.2.2.1.length
  .left;obtain⟨m,hm⟩:∃m,s.2.2.2.1.length -i=m+1:=⟨s.2.2.2.1.length -i -1,l9⟩;have hlen:((List.range i).map λ(d:Nat)=>((O6 s (d:Int)).length:Int)).length=i:=x9;have q1:=a4f ((List.range i).map λ(d:Nat)=>((O6 s (d:Int)).length:Int)) m;have q2:=a4g ((List.range i).map λ(d:Nat)=>((O6 s (d:Int)).length:Int)) m;have q3:=a8R ((List.range i).map λ(d:Nat)=>((O6 s (d:Int)).length:Int)) m (o9 (O6 s (i:Int)));rw[hlen]at q1 q2 q3;have hW:=hI.w;rw[hm]at hW;have hl14:=hI.hl;have hus:=a9H hs i hlt (f:=λ(x_6:List c9h×Int)=>l7 (E9 x_6.2 (o9 (O6 s (i:Int)))) (o5 (F9 (O6 s (i:Int)) x_6.2) λ(x:Int)=>l7 (inb x (o9 x_6.1)) (o5 (O8 x_6.1 (U6 x)) λ(x_7:c9h)=>o5 (di x_7 [(i:Int)]) λ(x_8:c9h)=>l7 (inb x (o9 x_6.1)) (l7 (TU (U6 x) (U6 x)) (o5 (O8 x_6.1 (U6 x)) λ(x_9:c9h)=>some (.inl (bu x_6.1 (U6 x) x_8,A7 .i64 x_6.2 1))) none) none) none) (some (.inr x_6.1)))
    (λk e A he=>by simp only[H5 he,o7,F5,he,o8]) (λA=>by simp only[G7];rfl)
   simp only;rw[V5 l9,o7,F5,hAg i hlt,o8,hW,q1,o8,q2,o8,hI.u];refine b4t hus ?_;rw[q3,Z5 l9];have hwn:pd ((List.range i).map (λ(d:Nat)=>((O6 s (d:Int)).length:Int))++[o9 (O6 s (i:Int))]) m=pd ((List.range (i+1)).map λ(d:Nat)=>((O6 s (d:Int)).length:Int)) (s.2.2.2.1.length -(i+1)):=by rw[dL,gz,show s.2.2.2.1.length -(i+1)=m by omega];rfl
   rw[hwn];by_cases hz:(O6 s (i:Int)).length=0
   .obtain⟨H',b1,b2,b3⟩:=a2t (l:=H) l9 hI.hp (i:Int);have hnil:=P5.1 hz;rw[J7 (by simp[o9,hz]),o7,b1,o8];have hni:(i:Int)∉H:=λhx=>by have:=(hI.hm _).1 hx;omega
    refine⟨_,rfl,⟨i+1,_,_,_,rfl,hlt,rfl,rfl,b2,?_,λd=>?_,by rw[b3.length_eq];simp;omega⟩,by simp;omega⟩
    .rw[b3.nodup_iff];exact O5.2 ⟨hI.hnd,x9,λa ha b hb=>by simp at hb;subst hb;intro hq;subst hq;exact hni ha⟩
    .rw[b3.mem_iff,D6,hI.hm,G5];constructor
     .rintro(⟨h1,h2,h3⟩|h)
      .exact⟨h1,l9,h3⟩
      .subst h;exact⟨l9,l9,hnil⟩
     .rintro⟨h1,h2,h3⟩;by_cases hq:d=(i:Int)
      .exact .inr hq
      .exact .inl ⟨h1,l9,h3⟩
   .rw[J6 (by simp only[o9];omega),o6];refine⟨_,rfl,⟨i+1,_,_,_,rfl,hlt,rfl,rfl,hI.hp,hI.hnd,λd=>?_,l9⟩,by simp;omega⟩;rw[hI.hm];constructor
    .rintro⟨h1,h2,h3⟩;exact⟨h1,l9,h3⟩
    .rintro⟨h1,h2,h3⟩;refine⟨h1,?_,h3⟩;by_cases hq:d=(i:Int)
     .subst hq;rw[h3]at hz;exact absurd rfl hz
     .omega
  .right;have:i=s.2.2.2.1.length:=l9;subst this;exact⟨(U,W,H),by simp only[N9 (show((s.2.2.2.1.length:Nat):Int)<=((s.2.2.2.1.length:Nat):Int) by omega)];rfl,hI⟩)
 refine(lJ k1 _).trans ?_;obtain⟨U,W,H⟩:=e;simp only at k2 ⊢;have hwd:∀d,0<=d->d<nD s->hw W d=((O6 s d).length:Int):=λd d0 d1=>by have hd:d.toNat<s.2.2.2.1.length:=l9;rw[k2.w,dY];unfold hw pd;rw[vK,List.replicate_zero,H8,Ii _ _ hd,ai d0];rfl
 have hK:KInv s [] W H:=by
  refine⟨x9,x9,x9,by rw[k2.w];simp[pd],λd d0 d1=>?_,k2.hp,k2.hnd,λd=>?_⟩
  .rw[hwd d d0 d1];have:UU s [] d=O6 s d:=List.filter_eq_self.2 λa _=>rfl;rw[this]
  .rw[k2.hm];constructor
   .rintro⟨h1,h2,h3⟩;exact⟨h1,l9,x9,by rw[hwd d h1 l9,h3];rfl⟩
   .rintro⟨h1,h2,_,h4⟩;rw[hwd d h1 h2]at h4;exact⟨h1,l9,P5.1 l9⟩
 have hU:=k2.u;subst hU;have hlatU:∀m:Nat,m<s.2.2.2.1.length->F9 (FB s s.2.2.2.1.length) (m:Int)=some (castL (qw s (m:Int) s.2.2.2.1.length)):=λm hm=>by rw[F5];exact Ii _ _ hm
 have key:∀(k j:Nat) (O W H:c9h),KInv s O W H->s.2.2.2.1.length -O.length<k->k<=j->∃y,vN (λ(x:List c9h×fP)=>o5 (mD x.2.2.1) λ(x_3:Int)=>l7 (E9 0 x_3) (o5 (sV x.2.2.1) λ(x_4:Int×c9h)=>o5 (di x.2.2.2 [x_4.1]) λ(x_5:c9h)=>o5 (F9 x.1 x_4.1) λ(x_6:c9h)=>
   o5 (ay (λ(x:c9h×c9h×Int)=>l7 (E9 x.2.2 (o9 x_6)) (o5 (F9 x_6 x.2.2) λ(x_7:Int)=>o5 (F9 x.1 x_7) λ(x_8:Int)=>o5 (O8 x.1 (U6 x_7)) λ(x_9:Int)=>o5 (F9 x.1 x_7) λ(x_10:Int)=>o5 (O8 x.1 (U6 x_7)) λ(x_11:Int)=>o5 (F9 (bu x.1 (U6 x_7) (J3 .i64 x_9 1)) x_7) λ(x_12:Int)=>o5 (O8 (bu x.1 (U6 x_7) (J3 .i64 x_9 1)) (U6 x_7)) λ(x_13:Int)=>
     l7 (x8 x_13 0) (o5 (iV x.2.1 x_7) λ(x_14:c9h)=>some (.inl (bu x.1 (U6 x_7) (J3 .i64 x_9 1),x_14,A7 .i64 x.2.2 1))) (some (.inl (bu x.1 (U6 x_7) (J3 .i64 x_9 1),x.2.1,A7 .i64 x.2.2 1)))) (some (.inr (x.1,x.2.1)))) (x.2.1,x_4.2,0)) λ(y:c9h×c9h)=>some (.inl (x.1,y.1,y.2,x_5))) (some (.inr x.2.2.2))) j (FB s s.2.2.2.1.length,W,H,O)=some y/\Vr s k O=(if y.length<s.2.2.2.1.length then .inr ([],9)else .inl y):=by
  intro k;induction k with
  |zero=>intro j O W H hK hk;omega|succ k ih=>
   intro j O W H hK hk hj;obtain⟨j,rfl⟩:∃j',j=j' +1:=⟨j -1,l9⟩;rw[vN];simp only[mD,o8];cases H with
   |nil=>refine⟨O,rfl,?_⟩;unfold Vr;rw[hK.next_none]|cons h0 H=>
    generalize hHH:h0::H=HH at*;have hpos:0<HH.length:=by rw[←hHH];simp
    obtain⟨m,hm1,hm2,hm3,hm4⟩:=hK.next_some hpos;have hHl:HH.length<=14:=iI (WX (n:=s.2.2.2.1.length) hK.hnd λx hx=>by have:=(hK.hm x).1 hx;omega) hnd;obtain⟨R,r1,r2,r3⟩:=b4z (l:=HH) l9 hK.hp hpos;rw[hm1]at r1 r3;have hRl:R.length<=14:=by have:=r3.length_eq;simp at this;omega
    have hOl:O.length<=14:=l9;obtain⟨W',H',u1,u2⟩:=a9I hs (W:=W) (H0:=R) (us:=castL (qw s (m:Int) s.2.2.2.1.length)) hK.wl (λd d0 d1=>by
      have h1:=hK.w d d0 d1;have h2:=bD (λx=> !qQ O x) (O6 s d);have h3:=MX hs d;unfold UU at h1;omega) r2 l9 (ZM (a0k _ _)) (λu hu=>by have:=OE.1 hu;omega)
     (f:=λ(x:c9h×c9h×Int)=>l7 (E9 x.2.2 (o9 (castL (qw s (m:Int) s.2.2.2.1.length)))) (o5 (F9 (castL (qw s (m:Int) s.2.2.2.1.length)) x.2.2) λ(x_7:Int)=>o5 (F9 x.1 x_7) λ(x_8:Int)=>o5 (O8 x.1 (U6 x_7)) λ(x_9:Int)=>o5 (F9 x.1 x_7) λ(x_10:Int)=>o5 (O8 x.1 (U6 x_7)) λ(x_11:Int)=>o5 (F9 (bu x.1 (U6 x_7) (J3 .i64 x_9 1)) x_7) λ(x_12:Int)=>o5 (O8 (bu x.1 (U6 x_7) (J3 .i64 x_9 1)) (U6 x_7)) λ(x_13:Int)=>
     l7 (x8 x_13 0) (o5 (iV x.2.1 x_7) λ(x_14:c9h)=>some (.inl (bu x.1 (U6 x_7) (J3 .i64 x_9 1),x_14,A7 .i64 x.2.2 1))) (some (.inl (bu x.1 (U6 x_7) (J3 .i64 x_9 1),x.2.1,A7 .i64 x.2.2 1)))) (some (.inr (x.1,x.2.1))))
     (λi u A B hu=>by simp only[H5 hu,o7,F5 (castL (qw s (m:Int) s.2.2.2.1.length)),hu,o8]) (λA B=>by simp only[G7];rfl)
    have hK2:=hK.step hpos hm1 r2 r3 u2;obtain⟨y,y1,y2⟩:=ih j (O++[(m:Int)]) W' H' hK2 Y2 l9;refine⟨y,?_,?_⟩
    .rw[V5 (show(0:Int)<o9 HH by simp only[o9];omega),o7,r1,o8,jB _ l9,o8,hlatU m hm3,o8,u1,o8];exact y1
    .unfold Vr;rw[if_pos hm4,hm2];exact y2
 obtain⟨y,y1,y2⟩:=key 100 lG [] W H hK Y2 (by unfold lG;omega);refine(lJ y1 _).trans ?_;unfold mf;rw[y2];by_cases hl:y.length<s.2.2.2.1.length
 .rw[if_pos hl,V5 (by simp only[o9];omega)];rfl
 .rw[if_neg hl,N9 (by simp only[o9];omega)];rfl
end
end Go.GP
namespace Gt
open Go Go.GP
def il(y:Int):Bool:=if y % 4=0 then(if y % 100≠0 then true else decide (y % 400=0))else false
def ys(y:Int):Int:=(y -1900)*365+((y -1) / 4 -(y -1) / 100+(y -1) / 400) -460
def diy(y:Int):Int:=if il y then 366 else 365
theorem KG(y:Int):ys (y+1)=ys y+diy y:=by unfold ys diy il;by_cases h4:y % 4=0<;>by_cases h100:y % 100=0<;>by_cases h400:y % 400=0<;>simp[h4,h100,h400]<;>omega
theorem Su(a b:Int):a<b\/b<=a:=l9
theorem WB(y:Int):365<=diy y/\diy y<=366:=by unfold diy;split<;>omega
theorem vz{y y' :Int}(h:y<=y'):ys y<=ys y' :=by
 obtain⟨n,rfl⟩:∃n:Nat,y' =y+n:=⟨(y' -y).toNat,l9⟩;clear h;induction n with
 |zero=>simp|succ n ih=>have:=KG (y+n);have:=WB (y+n);have e:y+((n+1:Nat):Int)=y+n+1:=l9;rw[e];omega
variable {y:Int}
theorem Sj(h:1900<=y):0<=ys y:=by
 have:=vz h;have e:ys 1900=0:=by decide+kernel
 omega
theorem b3u{y y' d:Int}(h1:ys y<=d)(h2:d<ys (y+1))(h3:ys y' <=d)(h4:d<ys (y' +1)):y=y' :=by
 rcases Int.lt_trichotomy y y' with h|h|h
 .have:=vz (y:=y+1) (y' :=y') l9;omega
 .exact h
 .have:=vz (y:=y' +1) (y' :=y) l9;omega
def dim(y m:Int):Int:=
 if m=2 then(if il y then 29 else 28)else if m=4\/m=6\/m=9\/m=11 then 30 else 31
theorem EJ(y m:Int):28<=dim y m/\dim y m<=31:=by
 unfold dim;repeat' split
 all_goals omega
theorem PI(h:0<=y):JM y=some (il y):=by
 unfold JM il;simp only[Ba h];by_cases h4:y % 4=0
 .rw[Hw (J7 h4),if_pos h4];by_cases h100:y % 100=0
  .simp[x8,h100]
  .simp[x8,h100]
 .rw[MV (J6 h4),if_neg h4]
theorem OW(h:0<=y):NT y=some (il y):=PI h
theorem Ht(h:0<=y):mV y=some (diy y):=by unfold mV diy;rw[OW h,o8];cases il y<;>rfl
variable {m:Int}
theorem m12(h:1<=m/\m<=12):m=1\/m=2\/m=3\/m=4\/m=5\/m=6\/m=7\/m=8\/m=9\/m=10\/m=11\/m=12:=l9
theorem vZ(h:0<=y)(hm:1<=m/\m<=12):kF y m=some (dim y m):=by
 unfold kF;rcases m12 hm with rfl|rfl|rfl|rfl|rfl|rfl|rfl|rfl|rfl|rfl|rfl|rfl
 all_goals first|rfl|(rw[PI h];unfold dim;cases il y<;>rfl)
theorem uU(h:0<=y)(hm:1<=m/\m<=12):jq y m=some (dim y m):=by
 unfold jq;rcases m12 hm with rfl|rfl|rfl|rfl|rfl|rfl|rfl|rfl|rfl|rfl|rfl|rfl
 all_goals first|rfl|(rw[OW h];unfold dim;cases il y<;>rfl)
theorem JO(h:0<=y)(h2:y<=1000000):zg y=some (y / 4 -y / 100+y / 400):=by unfold zg;simp only[dV,kQ h];rw[nY U0,nY U0,nY U0,U2 U0,X7 U0]
theorem Dt(h:1<=y)(h2:y<=1000000):sW y=some (ys y):=by unfold sW;have e1:J3 .i64 y 1900=y -1900:=U2 U0;have e2:aA .i64 (y -1900) 365=(y -1900)*365:=nH U0;rw[U2 (a:=y) (b:=1) U0,JO l9 l9,o8,JO l9 l9,o8,e1,e2,X7 U0,U2 U0];unfold ys;congr 1
def mo(y:Int):Nat->Int->Int×Int
 |0,d=>(d,13)|n+1,d=>if d<dim y (12 -n)then(d,12 -n)else mo y n (d -dim y (12 -n))
theorem b0O(y:Int)(n:Nat)(d:Int):mo y (n+1) d=if d<dim y (12 -(n:Int))then(d,12 -(n:Int))else mo y n (d -dim y (12 -(n:Int))):=rfl
def rem(y:Int):Nat->Int
 |0=>0|n+1=>dim y (12 -n)+rem y n
theorem b6n(y:Int):rem y 12=diy y:=by unfold diy;cases h:il y<;>simp[rem,dim,h]
theorem b5b(y:Int):∀(n:Nat) (d:Int),n<=12->0<=d->d<rem y n->1<=(mo y n d).2/\(mo y n d).2<=12/\0<=(mo y n d).1/\(mo y n d).1<dim y (mo y n d).2
 |0,d,_,h0,h=>by simp[rem]at h;omega|n+1,d,hn,h0,h=>by
  unfold mo;by_cases hd:d<dim y (12 -n)
  .rw[if_pos hd];refine⟨?_,?_,h0,hd⟩<;>simp<;>omega
  .rw[if_neg hd];refine b5b y n _ l9 l9 ?_;simp only[rem]at h;omega
def yOf(d:Int):Int:=((((List.range 300).find? (λ(k:Nat)=>decide (d<ys (1900+(k:Int)+1)))).getD 0:Nat):Int)+1900
variable {d:Int}
theorem VZ(h0:0<=d)(h:d<=109572):1900<=yOf d/\yOf d<=2199/\ys (yOf d)<=d/\d<ys (yOf d+1):=by
 unfold yOf;cases hf:(List.range 300).find? (λ(k:Nat)=>decide (d<ys (1900+(k:Int)+1)))with
 |none=>
  have:=List.find?_eq_none.1 hf 299 x9;simp only[decide_eq_true_eq]at this;have e:ys (1900+(299:Nat)+1)=109573:=by decide+kernel
  omega
 |some k=>
  have h1:=List.find?_some hf;simp only[decide_eq_true_eq]at h1;have h2:=List.mem_of_find?_eq_some hf;simp only[X6]at h2;simp only[aN];refine⟨l9,l9,?_,?_⟩
  .cases k with
   |zero=>
    have e:ys 1900=0:=by decide+kernel
    simp[e,h0]
   |succ j=>have h3:=List.find?_range_eq_some.1 hf;have h4:=h3.2.2 j l9;simp only[eY,decide_eq_false_iff_not,jb]at h4;have e:(((j+1:Nat):Int)+1900)=1900+(j:Int)+1:=l9;rw[e];exact h4
  .have e:(k:Int)+1900+1=1900+k+1:=l9;rw[e];exact h1
def qA(d:Int):Int×Int×Int:=let y:=yOf d;let r:=mo y 12 (d -ys y);(y,r.2,r.1+1)
theorem FC(h0:0<=d)(h:d<=109572):xw d=some (qA d):=by
 obtain⟨y1,y2,y3,y4⟩:=VZ h0 h;have y0:=Sj y1;unfold xw xx;rw[Hw (Z9 h0),o8,Z9 h,E5,o6];have e0:A7 .i64 1900 (dV .i64 d 366)=1900+d / 366:=by
  have e:dV .i64 d 366=d / 366:=by rw[DF (by rw[kQ h0];unfold jl;omega),kQ h0]
  rw[e,X7 U0]
 rw[e0];obtain⟨y,hy,hq⟩:=iM (f:=λ(x:Int)=>o5 (sW (A7 IntKind.i64 x 1)) λ(x_1:Int)=>l7 (N7 x_1 d) (some (Sum.inl (A7 IntKind.i64 x 1))) (some (Sum.inr x))) (s:=1900+d / 366)
  (λy=>1900<=y/\y<=yOf d) (λy=>y=yOf d) (λy=>(2200 -y).toNat) (by
   refine⟨l9,?_⟩;have e:∀n:Nat,ys (1900+n)<=366*n:=by
    intro n;induction n with
    |zero=>decide+kernel|succ n ih=>have:=KG (1900+n);have:=WB (1900+n);have e:(1900:Int)+((n+1:Nat):Int)=1900+n+1:=l9;rw[e];omega
   have e1:=e (d / 366).toNat
   have e2:((d / 366).toNat:Int)=d / 366:=l9;rw[e2]at e1;rcases Su (yOf d) (1900+d / 366)with hlt|hge
   .have:=vz (y:=yOf d+1) (y' :=1900+d / 366) l9;omega
   .exact hge) l9 (by
   intro y ⟨hy1,hy2⟩
   try simp only
   rw[X7 U0,Dt l9 l9,o8];by_cases hle:ys (y+1)<=d
   .refine .inl ⟨y+1,by rw[Hw (Z9 hle)],⟨l9,?_⟩,l9⟩;rcases Su (yOf d) (y+1)with hlt|hge
    .have:=vz (y:=yOf d+1) (y' :=y+1) l9;omega
    .exact hge
   .refine .inr ⟨y,by rw[MV (ax l9)],?_⟩;rcases Su y (yOf d)with hlt|hge
    .have:=vz (y:=y+1) (y' :=yOf d) l9;omega
    .omega)
 rw[hy,o8,hq,Dt l9 l9,o8,U2 U0];have hs:=KG (yOf d);have hr:=b6n (yOf d);rcases xH (f:=λ(x:Int×Int)=>l7 (E9 x.2 12) (o5 (kF (yOf d) (A7 IntKind.i64 x.2 1)) λ(x_1:Int)=>l7 (E9 x.1 x_1) (some (Out.rt (yOf d,A7 IntKind.i64 x.2 1,A7 IntKind.i64 x.1 1))) (some (Out.nx (J3 IntKind.i64 x.1 x_1,A7 IntKind.i64 x.2 1)))) (some (Out.ex PUnit.unit))) (s:=(d -ys (yOf d),0))
  (λs=>∃n:Nat,n<=12/\s.2=12 -n/\mo (yOf d) n s.1=mo (yOf d) 12 (d -ys (yOf d))/\0<=s.1/\s.1<rem (yOf d) n/\s.1<=400) (λ_=>False) (λr=>r=qA d) (λs=>(12 -s.2).toNat)
  ⟨12,l9,x9,rfl,l9,by rw[hr];show d -ys (yOf d)<_;omega,by have:=WB (yOf d);show d -ys (yOf d)<=400;omega⟩ x9 (by
   rintro⟨r,i⟩ ⟨n,hn,hi,hm,hr0,hrn,hr4⟩;simp only at hi hm hr0 hrn hr4 ⊢;cases n with
   |zero=>simp[rem]at hrn;omega|succ n=>
    have ei:i+1=12 -n:=l9;rw[Hw (V5 l9),X7 U0,ei,vZ l9 l9,o8];have hb:=EJ (yOf d) (12 -n);rw[b0O (yOf d) n r]at hm;by_cases hlt:r<dim (yOf d) (12 -n)
    .rw[if_pos hlt]at hm;refine .inr (.inr ⟨_,by rw[Hw (V5 hlt)],?_⟩);rw[X7 U0];unfold qA
     try simp only
     rw[←hm]
    .rw[if_neg hlt]at hm;refine .inl ⟨_,by rw[MV (N9 l9),U2 U0],⟨n,l9,x9,hm,?_,?_,?_⟩,?_⟩
     .simp;omega
     .simp only[rem]at hrn ⊢;omega
     .simp;omega
     .simp;omega)with⟨_,_,hf⟩|⟨r,he,hr⟩
 .exact hf.elim
 .rw[he,o8,uh,hr]
theorem Ql(h0:0<=d)(h:d<=109572):Gs d=some (qA d):=by
 obtain⟨y1,y2,y3,y4⟩:=VZ h0 h;have y0:=Sj y1;unfold Gs zy;rw[Hw (Z9 h0),o8,Z9 h,E5,o6];obtain⟨⟨r,y⟩,hy,hq⟩:=iM (f:=λ(x:Int×Int)=>o5 (mV x.2) λ(x_1:Int)=>l7 (N7 x_1 x.1) (o5 (mV x.2) λ(x_2:Int)=>some (Sum.inl (J3 IntKind.i64 x.1 x_2,A7 IntKind.i64 x.2 1))) (some (Sum.inr x))) (s:=(d,1900))
  (λs=>1900<=s.2/\s.2<=yOf d/\s.1=d -ys s.2) (λs=>s=(d -ys (yOf d),yOf d)) (λs=>(2200 -s.2).toNat)
  ⟨x9,by simpa using y1,by(have e:ys 1900=0:=by decide+kernel);simp[e]⟩ x9 (by
   rintro⟨r,y⟩ ⟨h1,h2,h3⟩;simp only at h1 h2 h3 ⊢;have hb:=WB y;have hs:=KG y;have hm:=vz h2;have hpos:0<=ys y:=by
     have:=vz (y:=1900) (y' :=y) h1;have e:ys 1900=0:=by decide+kernel
     omega
   rw[Ht l9,o8];by_cases hle:diy y<=r
   .refine .inl ⟨(r -diy y,y+1),?_,⟨by simp;omega,?_,?_⟩,?_⟩
    .rw[Hw (Z9 hle),o8,U2 U0,X7 U0]
    .simp only;rcases Su (yOf d) (y+1)with hlt|hge
     .have:=vz (y:=yOf d+1) (y' :=y+1) l9;omega
     .exact hge
    .simp only;omega
    .simp;omega
   .refine .inr ⟨_,by rw[MV (ax l9)],?_⟩;have e:y=yOf d:=b3u (d:=d) l9 l9 y3 y4;subst e;rw[h3])
 rw[hy,o8,hq]
 try simp only
 have hs:=KG (yOf d);have hr:=b6n (yOf d);obtain⟨⟨r,m⟩,he,hq2⟩:=iM (f:=λ(x:Int×Int)=>o5 (jq (yOf d) x.2) λ(x_1:Int)=>l7 (N7 x_1 x.1) (o5 (jq (yOf d) x.2) λ(x_2:Int)=>some (Sum.inl (J3 IntKind.i64 x.1 x_2,A7 IntKind.i64 x.2 1))) (some (Sum.inr x))) (s:=(d -ys (yOf d),1))
  (λs=>∃n:Nat,n<=12/\s.2=13 -n/\mo (yOf d) n s.1=mo (yOf d) 12 (d -ys (yOf d))/\0<=s.1/\s.1<rem (yOf d) n/\s.1<=400) (λs=>s=mo (yOf d) 12 (d -ys (yOf d))) (λs=>(13 -s.2).toNat)
  ⟨12,l9,x9,rfl,l9,by rw[hr];show d -ys (yOf d)<_;omega,by have:=WB (yOf d);show d -ys (yOf d)<=400;omega⟩ x9 (by
   rintro⟨r,i⟩ ⟨n,hn,hi,hm,hr0,hrn,hr4⟩;simp only at hi hm hr0 hrn hr4 ⊢;cases n with
   |zero=>simp[rem]at hrn;omega|succ n=>
    have ei:i=12 -n:=l9;subst ei;rw[uU l9 l9,o8];have hb:=EJ (yOf d) (12 -n);rw[b0O (yOf d) n r]at hm;by_cases hlt:r<dim (yOf d) (12 -n)
    .rw[if_pos hlt]at hm;exact .inr ⟨_,by rw[MV (ax l9)],hm⟩
    .rw[if_neg hlt]at hm;refine .inl ⟨(r -dim (yOf d) (12 -n),12 -n+1),by rw[Hw (Z9 l9),o8,U2 U0,X7 U0],⟨n,l9,by simp;omega,hm,?_,?_,?_⟩,?_⟩
     .simp;omega
     .simp only[rem]at hrn ⊢;omega
     .simp;omega
     .simp;omega)
 rw[he,o8,hq2];have hb:=b5b (yOf d) 12 (d -ys (yOf d)) l9 l9 (by rw[hr];omega);have hb2:=EJ (yOf d) (mo (yOf d) 12 (d -ys (yOf d))).2;rw[X7 U0];rfl
theorem QN(h0:0<=d)(h:d<=109572):1900<=(qA d).1/\(qA d).1<=2199/\1<=(qA d).2.1/\(qA d).2.1<=12/\1<=(qA d).2.2/\(qA d).2.2<=31:=by
 obtain⟨y1,y2,y3,y4⟩:=VZ h0 h;have y0:=Sj y1;have hs:=KG (yOf d);have hb:=b5b (yOf d) 12 (d -ys (yOf d)) l9 l9 (by rw[b6n];omega);have hb2:=EJ (yOf d) (mo (yOf d) 12 (d -ys (yOf d))).2;unfold qA
 try simp only
 omega
end Gt
namespace Go.GP
open Gt
set_option maxRecDepth 100000
def xI(y:Int):Nat->Int
 |0=>0|k+1=>xI y k+dim y ((k:Int)+1)
def a5C(y m d:Int):Int:=ys y+xI y (m -1).toNat+d -1
theorem Vb(y:Int):∀k:Nat,k<=12->28*k<=xI y k/\xI y k<=31*k
 |0,_=>by simp[xI]|k+1,h=>by have:=Vb y k l9;have:=EJ y ((k:Int)+1);unfold xI;omega
theorem b2k(y:Int):xI y 12=diy y:=by unfold xI xI xI xI xI xI xI xI xI xI xI xI xI dim diy;simp;cases il y<;>simp
theorem b0P(y:Int):∀j k:Nat,j<=k->xI y j<=xI y k
 |j,0,h=>by have:j=0:=l9;subst this;omega|j,k+1,h=>by
  by_cases hq:j=k+1
  .subst hq;omega
  .have:=b0P y j k l9;have:=EJ y ((k:Int)+1);show xI y j<=xI y k+dim y ((k:Int)+1);omega
variable {y:Int}{d:Int}{m:Int}
theorem b8D(hm:1<=m/\m<=12)(h1:1<=d)(h2:d<=dim y m):ys y<=a5C y m d/\a5C y m d<ys (y+1):=by
 have h3:=b0P y ((m -1).toNat+1) 12 l9;rw[b2k]at h3;have h4:xI y ((m -1).toNat+1)=xI y (m -1).toNat+dim y m:=by show xI y (m -1).toNat+dim y (((m -1).toNat:Int)+1)=_;rw[ai l9];congr 2;omega
 have h5:=Vb y (m -1).toNat l9;have h6:=KG y;unfold a5C;omega
theorem b8o(h:1900<=y)(h2:y<=2200):0<=ys y/\ys y<=109573:=by
 have h1:=Sj h;have h3:=vz h2;have:ys 2200=109573:=by decide
 omega
theorem a8v(hy:1900<=y/\y<=2199)(hm:1<=m/\m<=12)(h1:1<=d)(h2:d<=dim y m):Hz y m d=some (a5C y m d,0):=by
 have hyb:=b8o hy.1 l9;have hdb:=EJ y m;unfold Hz;rw[N9 hy.1,o6,N9 hy.2,o6,N9 hm.1,o6,N9 hm.2,o6,N9 h1,o6,vZ l9 hm,o8,N9 h2,o6,o8,L6,Dt l9 l9,o8];have hs:J3 .i64 m 1=m -1:=U2 U0;obtain⟨e,k1,k2⟩:=iM (f:=λ(x:Int×Int)=>l7 (E9 x.2 (J3 .i64 m 1)) (o5 (kF y (A7 .i64 x.2 1)) λ(x_1:Int)=>some (.inl (A7 .i64 x.1 x_1,A7 .i64 x.2 1))) (some (.inr x.1)))
  (s:=(ys y,0)) (λx=>∃i:Nat,x=(ys y+xI y i,(i:Int))/\(i:Int)<=m -1) (λe=>e=ys y+xI y (m -1).toNat) (λx=>(m -1 -x.2).toNat) ⟨0,by simp[xI],l9⟩ Y2 (by
  rintro x ⟨i,rfl,hi⟩;simp only[hs];by_cases hlt:(i:Int)<m -1
  .have hb:=Vb y i l9;have hd:=EJ y ((i:Int)+1);left;refine⟨(ys y+xI y (i+1),((i+1:Nat):Int)),?_,⟨i+1,rfl,l9⟩,by simp;omega⟩;rw[V5 hlt,o7,Z5 l9,show(((i+1:Nat):Int))=(i:Int)+1 by omega,vZ l9 l9,o8,X7 U0];simp only[xI];rw[Int.add_assoc]
  .right;have:i=(m -1).toNat:=l9;subst this;exact⟨_,by rw[N9 l9];rfl,rfl⟩)
 refine(lJ k1 _).trans ?_;have hb:=Vb y (m -1).toNat l9;rw[k2,X7 U0,U2 U0];rfl
theorem a6K(hy:1900<=y/\y<=2199)(hm:1<=m/\m<=12)(h1:1<=d)(h2:d<=dim y m):Bg y m d=some (a5C y m d,0):=by
 have hyb:=b8o hy.1 l9;have hdb:=EJ y m;unfold Bg;rw[N9 hy.1,o6,N9 hy.2,o6,N9 h1,o6,uU l9 hm,o8,N9 h2,o6,o8,L6,U2 U0];obtain⟨e,k1,k2⟩:=iM (f:=λ(x:Int×Int)=>l7 (E9 x.2 y) (o5 (mV x.2) λ(x_1:Int)=>some (.inl (A7 .i64 x.1 x_1,A7 .i64 x.2 1))) (some (.inr x.1)))
  (s:=(d -1,1900)) (λx=>∃i:Int,x=(d -1+ys i,i)/\1900<=i/\i<=y) (λe=>e=d -1+ys y) (λx=>(y -x.2).toNat) ⟨1900,by simp[show ys 1900=0 by decide],l9,l9⟩ Y2 (by
  rintro x ⟨i,rfl,hi,hi2⟩;by_cases hlt:i<y
  .left;have hb:=b8o hi l9;have hd:=WB i;refine⟨(d -1+ys (i+1),i+1),?_,⟨i+1,rfl,l9,l9⟩,by simp;omega⟩;simp only;rw[V5 hlt,o7,Ht l9,o8,X7 U0,X7 U0,KG,Int.add_assoc]
  .right;have:i=y:=l9;subst this;exact⟨_,by simp only[N9 (show i<=i by omega)];rfl,rfl⟩)
 refine(lJ k1 _).trans ?_;subst k2;obtain⟨e,k1,k2⟩:=iM (f:=λ(x:Int×Int)=>l7 (E9 x.2 m) (o5 (jq y x.2) λ(x_1:Int)=>some (.inl (A7 .i64 x.1 x_1,A7 .i64 x.2 1))) (some (.inr x.1)))
  (s:=(d -1+ys y,1)) (λx=>∃i:Nat,x=(d -1+ys y+xI y i,(i:Int)+1)/\(i:Int)<=m -1) (λe=>e=d -1+ys y+xI y (m -1).toNat) (λx=>(m -x.2).toNat) ⟨0,by simp[xI],l9⟩ Y2 (by
  rintro x ⟨i,rfl,hi⟩;by_cases hlt:(i:Int)+1<m
  .have hb:=Vb y i l9;have hd:=EJ y ((i:Int)+1);left;refine⟨(d -1+ys y+xI y (i+1),((i+1:Nat):Int)+1),?_,⟨i+1,rfl,l9⟩,by simp;omega⟩;simp only;rw[V5 hlt,o7,uU l9 l9,o8,X7 U0,X7 U0];simp only[xI];rw[Int.add_assoc (d -1+ys y)];simp
  .right;have:i=(m -1).toNat:=l9;subst this;exact⟨_,by simp only[N9 (show m<=((m -1).toNat:Int)+1 by omega)];rfl,rfl⟩)
 refine(lJ k1 _).trans ?_;rw[k2];unfold a5C;rw[show d -1+ys y+xI y (m -1).toNat=ys y+xI y (m -1).toNat+d -1 by omega]
def b1C(d n:Int):Int×Int:=
 if ¬(0<=d/\d<=109572)\/n< -3600\/3600<n then(0,3)else
  if((qA d).1 -1900)*12+(qA d).2.1 -1+n<0\/3599<((qA d).1 -1900)*12+(qA d).2.1 -1+n then(0,3)else
   (a5C (1900+(((qA d).1 -1900)*12+(qA d).2.1 -1+n) / 12) ((((qA d).1 -1900)*12+(qA d).2.1 -1+n) % 12+1) (qR (qA d).2.2 (dim (1900+(((qA d).1 -1900)*12+(qA d).2.1 -1+n) / 12) ((((qA d).1 -1900)*12+(qA d).2.1 -1+n) % 12+1))),0)
theorem Ri(a b:Int):qR a b=if b<a then b else a:=rfl
theorem Ur(d n:Int):wH d n=some (b1C d n):=by
 unfold wH xx b1C;by_cases h0:0<=d/\d<=109572
 case neg=>
  rw[if_pos (.inl h0)];by_cases h1:0<=d
  .rw[Z9 h1,ax l9];rfl
  .rw[ax l9];rfl
 rw[Z9 h0.1,Z9 h0.2,o7,o8,E5,o6];by_cases h1:n< -3600
 .rw[V5 h1,if_pos (.inr (.inl h1))];rfl
 by_cases h2:3600<n
 .rw[N9 l9,V5 h2,if_pos (.inr (.inr h2))];rfl
 rw[N9 l9,N9 l9,if_neg l9,o6,o6,o8,L6,FC h0.1 h0.2,o8];obtain⟨b1,b2,b3,b4,b5,b6⟩:=QN h0.1 h0.2;generalize qA d=q at*;obtain⟨y,m,dd⟩:=q;simp only at b1 b2 b3 b4 b5 b6 ⊢;have e1:J3 .i64 y 1900=y -1900:=U2 U0;have e2:aA .i64 (y -1900) 12=(y -1900)*12:=nH U0;have e3:A7 .i64 ((y -1900)*12) m=(y -1900)*12+m:=X7 U0;have e4:J3 .i64 ((y -1900)*12+m) 1=(y -1900)*12+m -1:=U2 U0;have e5:A7 .i64 ((y -1900)*12+m -1) n=(y -1900)*12+m -1+n:=X7 U0;rw[e1,e2,e3,e4,e5];generalize ht:(y -1900)*12+m -1+n=t;by_cases t0:t<0
 .rw[V5 t0,if_pos (.inl t0)];rfl
 by_cases t1:3599<t
 .rw[N9 l9,V5 t1,if_pos (.inr t1)];rfl
 rw[N9 l9,N9 l9,if_neg l9,o6,o6];have e6:dV .i64 t 12=t / 12:=by rw[DF (by rw[kQ l9];unfold jl;omega),kQ l9]
 have e7:eF t 12=t % 12:=Ba l9;have e8:A7 .i64 1900 (t / 12)=1900+t / 12:=X7 U0;have e9:A7 .i64 (t % 12) 1=t % 12+1:=X7 U0;rw[e6,e7,e8,e9,vZ l9 l9,o8];have hd:=EJ (1900+t / 12) (t % 12+1);rw[a8v l9 l9 (by rw[Ri];split<;>omega) (by rw[Ri];split<;>omega)];rfl
theorem Tc(d n:Int):qV d n=some (b1C d n):=by
 unfold qV zy b1C;by_cases h0:0<=d/\d<=109572
 case neg=>
  rw[if_pos (.inl h0)];by_cases h1:0<=d
  .rw[Z9 h1,ax l9];rfl
  .rw[ax l9];rfl
 rw[Z9 h0.1,Z9 h0.2,o7,o8,E5,o6];by_cases h1:n< -3600
 .rw[V5 h1,if_pos (.inr (.inl h1))];rfl
 by_cases h2:3600<n
 .rw[N9 l9,V5 h2,if_pos (.inr (.inr h2))];rfl
 rw[N9 l9,N9 l9,if_neg l9,o6,o6,o8,L6,Ql h0.1 h0.2,o8];obtain⟨b1,b2,b3,b4,b5,b6⟩:=QN h0.1 h0.2;generalize qA d=q at*;obtain⟨y,m,dd⟩:=q;simp only at b1 b2 b3 b4 b5 b6 ⊢;have e2:aA .i64 12 y=12*y:=nH U0;have e3:A7 .i64 (12*y) m=12*y+m:=X7 U0;have e4:J3 .i64 (12*y+m) 1=12*y+m -1:=U2 U0;have e5:A7 .i64 (12*y+m -1) n=12*y+m -1+n:=X7 U0;rw[e2,e3,e4,e5];generalize ht:(y -1900)*12+m -1+n=t;have hk:12*y+m -1+n=t+22800:=l9;rw[hk];have e6:dV .i64 (t+22800) 12=1900+t / 12:=by rw[DF (by rw[kQ l9];unfold jl;omega),kQ l9];omega
 have e7:eF (t+22800) 12=t % 12:=by rw[Ba l9];omega
 have e9:A7 .i64 (t % 12) 1=t % 12+1:=X7 U0;rw[e6,e7,e9,uU l9 l9,o8];have hd:=EJ (1900+t / 12) (t % 12+1);by_cases t0:t<0
 .rw[if_pos (.inl t0)];unfold Bg;rw[V5 (show 1900+t / 12<1900 by omega)];rfl
 by_cases t1:3599<t
 .rw[if_pos (.inr t1)];unfold Bg;rw[N9 (show 1900<=1900+t / 12 by omega),V5 (show 2199<1900+t / 12 by omega)];rfl
 rw[if_neg l9,a6K l9 l9 (by rw[Ri];split<;>omega) (by rw[Ri];split<;>omega)];rfl
def yrl(a k:Int):Int:=a5C ((qA a).1+k) (qA a).2.1 (qR (qA a).2.2 (dim ((qA a).1+k) (qA a).2.1))
variable {a:Int}
theorem a1U(h0:0<=a/\a<=109572){k:Int}(hk:0<=k)(hk2:k<=300):b1C a (12*k)=if(qA a).1+k<=2199 then(yrl a k,0)else(0,3):=by
 obtain⟨b1,b2,b3,b4,b5,b6⟩:=QN h0.1 h0.2;unfold b1C yrl;rw[if_neg l9];generalize qA a=q at*;obtain⟨y,m,dd⟩:=q;simp only at b1 b2 b3 b4 b5 b6 ⊢;have e1:1900+((y -1900)*12+m -1+12*k) / 12=y+k:=l9;have e2:((y -1900)*12+m -1+12*k) % 12+1=m:=l9;by_cases h:y+k<=2199
 .rw[if_neg l9,if_pos h,e1,e2]
 .rw[if_pos l9,if_neg h]
theorem b8n(h0:0<=a/\a<=109572)(k:Int):ys ((qA a).1+k)<=yrl a k/\yrl a k<ys ((qA a).1+k+1):=by obtain⟨b1,b2,b3,b4,b5,b6⟩:=QN h0.1 h0.2;have hd:=EJ ((qA a).1+k) (qA a).2.1;unfold yrl;exact b8D ⟨b3,b4⟩ (by rw[Ri];split<;>omega) (by rw[Ri];split<;>omega)
theorem We(h0:0<=a/\a<=109572):ys (qA a).1<=a/\a<ys ((qA a).1+1):=by have:=VZ h0.1 h0.2;exact⟨this.2.2.1,this.2.2.2⟩
def a4W(a b:Int):Int:=if 0<=a/\a<=109572/\0<=b/\b<=109572/\a<=b then
  (if(qA b).1 -(qA a).1<=0 then 0 else if yrl a ((qA b).1 -(qA a).1)<=b then(qA b).1 -(qA a).1 else(qA b).1 -(qA a).1 -1)else 0
theorem YY(a b:Int):qC a b=some (a4W a b):=by
 unfold qC xx a4W;by_cases ha0:0<=a
 case neg=>rw[ax l9,if_neg l9];rfl
 by_cases ha1:a<=109572
 case neg=>rw[Z9 ha0,ax l9,if_neg l9];rfl
 rw[Z9 ha0,Z9 ha1,o7,o8,E5,o6];by_cases hb0:0<=b
 case neg=>rw[ax l9,if_neg l9];rfl
 by_cases hb1:b<=109572
 case neg=>rw[Z9 hb0,ax l9,if_neg l9];rfl
 rw[Z9 hb0,Z9 hb1,o7,o8,E5,o6];by_cases hab:a<=b
 case neg=>rw[V5 l9,if_neg l9];rfl
 rw[N9 hab,o6,if_pos ⟨ha0,ha1,hb0,hb1,hab⟩,FC ha0 ha1,o8,FC hb0 hb1,o8];obtain⟨p1,p2,_,_,_,_⟩:=QN ha0 ha1;obtain⟨q1,q2,_,_,_,_⟩:=QN hb0 hb1;have ya:=We ⟨ha0,ha1⟩;have yb:=We ⟨hb0,hb1⟩;have hK:0<=(qA b).1 -(qA a).1:=by
  rcases Su (qA b).1 (qA a).1 with h|h
  .have:=vz (show(qA b).1+1<=(qA a).1 by omega);omega
  .omega
 rw[U2 (show jl ((qA b).1 -(qA a).1) by unfold jl;omega)];have hle:(qA a).1+((qA b).1 -(qA a).1)<=2199:=l9;generalize (qA b).1 -(qA a).1=K at*;rw[nH (show jl (12*K) by unfold jl;omega),Ur,o8,a1U ⟨ha0,ha1⟩ hK l9,if_pos hle];simp only[J7 (rfl:(0:Int)=0),E5,o6];rw[U2 (show jl (K -1) by unfold jl;omega)];have im:∀x:Int,oD x 0=if x<0 then 0 else x:=λx=>rfl;by_cases hz:K<=0
 .have:K=0:=l9;subst this;rw[if_pos l9];cases E9 b (yrl a 0)<;>rfl
 .rw[if_neg hz];by_cases hq:yrl a K<=b
  .rw[if_pos hq,N9 hq,o6,im,if_neg l9]
  .rw[if_neg hq,V5 l9,o7,im,if_neg l9]
theorem Xe(a b:Int):xJ a b=some (a4W a b):=by
 unfold xJ zy a4W;by_cases ha0:0<=a
 case neg=>rw[ax l9,if_neg l9];rfl
 by_cases ha1:a<=109572
 case neg=>rw[Z9 ha0,ax l9,if_neg l9];rfl
 rw[Z9 ha0,Z9 ha1,o7,o8,E5,o6];by_cases hb0:0<=b
 case neg=>rw[ax l9,if_neg l9];rfl
 by_cases hb1:b<=109572
 case neg=>rw[Z9 hb0,ax l9,if_neg l9];rfl
 rw[Z9 hb0,Z9 hb1,o7,o8,E5,o6];obtain⟨p1,p2,_,_,_,_⟩:=QN ha0 ha1;obtain⟨q1,q2,_,_,_,_⟩:=QN hb0 hb1;have ya:=We ⟨ha0,ha1⟩;have yb:=We ⟨hb0,hb1⟩;have key:=xH (f:=λ(x:Int)=>o5 (qV a (aA .i64 12 (A7 .i64 x 1))) λ(x_1:Int×Int)=>l7 (D9 (x8 x_1.2 0)) (some (.rt x)) (l7 (E9 b x_1.1) (some (.rt x)) (some (.nx (A7 .i64 x 1)))))
  (s:=0) (λx=>0<=x/\(x=0\/(x<=(qA b).1 -(qA a).1/\yrl a x<=b))) (λ(_:PUnit)=>False) (λr=>r=(if a<=b then(if(qA b).1 -(qA a).1<=0 then 0 else if yrl a ((qA b).1 -(qA a).1)<=b then(qA b).1 -(qA a).1 else(qA b).1 -(qA a).1 -1)else 0)) (λx=>(300 -x).toNat) ⟨l9,.inl rfl⟩ x9 (by
  rintro x ⟨hx0,hx⟩;have hx300:x<=299:=l9;rw[X7 (show jl (x+1) by unfold jl;omega),nH (show jl (12*(x+1)) by unfold jl;omega),Tc,o8,a1U ⟨ha0,ha1⟩ l9 l9];have hyb:=b8n ⟨ha0,ha1⟩ (x+1);have hyx:=b8n ⟨ha0,ha1⟩ x;have hmono:ys ((qA a).1+x+1)<=ys ((qA a).1+(x+1)):=vz l9;have hax:a<yrl a (x+1):=by have:=vz (show(qA a).1+1<=(qA a).1+(x+1) by omega);omega
  by_cases hq:(qA a).1+(x+1)<=2199/\yrl a (x+1)<=b
  .left;obtain⟨hq1,hq2⟩:=hq;have hK:x+1<=(qA b).1 -(qA a).1:=by
    rcases Su (qA b).1 ((qA a).1+(x+1))with h|h
    .have:=vz (show(qA b).1+1<=(qA a).1+(x+1) by omega);omega
    .omega
   refine⟨x+1,?_,⟨l9,.inr ⟨hK,hq2⟩⟩,l9⟩;rw[if_pos hq1];simp only[J7 (rfl:(0:Int)=0),E5,o6,N9 hq2]
  .right;right;refine⟨x,?_,?_⟩
   .by_cases hq1:(qA a).1+(x+1)<=2199
    .rw[if_pos hq1];simp only[J7 (rfl:(0:Int)=0),E5,o6,V5 (show b<yrl a (x+1) by omega),o7]
    .rw[if_neg hq1];rfl
   .by_cases hab:a<=b
    case neg=>
     rw[if_neg hab];by_cases hx1:x=0
     .exact hx1
     .exfalso;have:=vz (show(qA a).1+1<=(qA a).1+x by omega);omega
    rw[if_pos hab];have hK:0<=(qA b).1 -(qA a).1:=by
     rcases Su (qA b).1 (qA a).1 with h|h
     .have:=vz (show(qA b).1+1<=(qA a).1 by omega);omega
     .omega
    have hxK:x<=(qA b).1 -(qA a).1:=l9;by_cases hxe:x=(qA b).1 -(qA a).1
    .by_cases hz:(qA b).1 -(qA a).1<=0
     .rw[if_pos hz];omega
     .rw[if_neg hz];rcases hx with hx|hx
      .omega
      .rw[←hxe,if_pos hx.2]
    .have hlt:x+1<=(qA b).1 -(qA a).1:=l9;rw[if_neg l9];have hyr:(qA a).1+(x+1)<=2199:=l9;have hgt:b<yrl a (x+1):=by
      have:=λh=>hq ⟨hyr,h⟩;omega
     have heq:x+1=(qA b).1 -(qA a).1:=by
      rcases Su (x+1) ((qA b).1 -(qA a).1)with h|h
      .have:=vz (show(qA a).1+(x+1)+1<=(qA b).1 by omega);omega
      .omega
     rw[←heq,if_neg l9];omega)
 rcases key with⟨e,_,h⟩|⟨r,k1,k2⟩
 .exact h.elim
 .refine(lJ k1 _).trans ?_;rw[k2];by_cases hab:a<=b
  .rw[if_pos hab,if_pos (show 0<=a/\a<=109572/\0<=b/\b<=109572/\a<=b from⟨ha0,ha1,hb0,hb1,hab⟩)];rfl
  .rw[if_neg hab,if_neg l9];rfl
def b0C:c9i:=(List.range 256).map λn=>UInt8.ofNat (if n=0 then 0 else Nat.log2 n+1)
theorem b4M:∀n:Fin 256,∃k:Fin 9,b0C[n.val]? =some (UInt8.ofNat k.val)/\n.val<2^k.val/\(0<n.val->0<k.val/\2^(k.val -1)<=n.val):=by decide+kernel
def b1z(n:Int)(k:Nat):Prop:=n<2^k/\(0<n->0<k/\2^(k -1)<=n)
variable {n:Int}
theorem b9Q(h0:0<=n)(h:n<256):wrap .u8 n=n:=by unfold wrap IntKind.wrap;simp[IntKind.signed,IntKind.bits];omega
theorem b8M(h0:0<=n)(h:n<256):∃k:Nat,k<=8/\sat b0C (wrap .u8 n)=some (k:Int)/\b1z n k:=by
 rw[b9Q h0 h];obtain⟨k,k1,k2,k3⟩:=b4M ⟨n.toNat,l9⟩;refine⟨k.val,l9,?_,?_,λhp=>?_⟩
 .unfold sat
  rw[if_pos h0];simp only at k1;rw[k1];simp;have:=k.isLt;omega
 .simp only at k2;have:((n.toNat:Nat):Int)<((2^k.val:Nat):Int):=l9;rw[ai h0,uK]at this;exact this
 .simp only at k3;obtain⟨a,b⟩:=k3 l9;refine⟨a,?_⟩;have:((2^(k.val -1):Nat):Int)<=((n.toNat:Nat):Int):=l9;rw[ai h0,uK]at this;exact this
theorem UO{k:Nat}(hk:k<=64):vJ .u64 n (k:Int)=n / 2^k:=by unfold vJ;rw[J9,show IntKind.bits .u64=64 from rfl,show min k 64=k by omega];exact Int.fdiv_eq_ediv_of_nonneg _ (Int.pow_nonneg l9)
theorem b1z.shift{j k:Nat}(h:b1z (n / 2^j) k)(hn:2^j<=n):b1z n (j+k):=by
 have hp:(0:Int)<2^j:=Int.pow_pos l9;have h1:0<n / 2^j:=by have:=tC hp (show 1*2^j<=n by omega);omega
 obtain⟨a,b⟩:=h;obtain⟨b1,b2⟩:=b h1;have hdm:=Int.mul_ediv_add_emod n (2^j);have hm:=O7 n hp;have hm0:=U3 n (show(2:Int)^j≠0 by omega);refine⟨?_,λ_=>⟨l9,?_⟩⟩
 .have:(2:Int)^j*(n / 2^j+1)<=2^j*2^k:=Int.mul_le_mul_of_nonneg_left l9 l9;rw[Int.mul_add,Int.mul_one]at this;rw[Int.pow_add];omega
 .have:(2:Int)^j*2^(k -1)<=2^j*(n / 2^j):=Int.mul_le_mul_of_nonneg_left b2 l9;rw[show j+k -1=j+(k -1) by omega,Int.pow_add];omega
theorem b4L:(OB:c9i)=b0C:=by decide+kernel
theorem pY(h0:0<=n)(h:n<=1000):wrap .i64 n=n:=nY U0
variable {b:Int}
theorem OO(h0:0<=a)(h1:a<=1000)(h2:0<=b)(h3:b<=1000):A7 .i64 a b=a+b:=X7 U0
theorem b4K(h0:0<=n)(h:n<18446744073709551616):∃k:Nat,k<=64/\BH n=some (k:Int)/\b1z n k:=by
 have s32:∀m:Int,vJ .u64 m 32=m / 2^32:=λm=>UO (k:=32) l9;have s16:∀m:Int,vJ .u64 m 16=m / 2^16:=λm=>UO (k:=16) l9;have s8:∀m:Int,vJ .u64 m 8=m / 2^8:=λm=>UO (k:=8) l9;unfold BH;rw[b4L,s32,s16,s16,s8,s8,s8,s8];have ow:∀(m:Int) (a:Int) (K:Nat),0<=m->m<256->a=(K:Int)->K<=56->∀(g:Int->Int),(∀x,0<=x->x<=8->g x=a+x)->∃k:Nat,k<=8/\(o5 (sat b0C (wrap .u8 m)) λ(x:Int)=>some (g x))=some (((K+k:Nat):Int))/\b1z m k:=by intro m a K m0 m1 ha hK g hg;obtain⟨k,k1,k2,k3⟩:=b8M m0 m1;refine⟨k,k1,?_,k3⟩;rw[k2,o8,hg _ l9 l9,ha];simp
 by_cases c32:4294967296<=n
 .rw[Z9 c32,o7];by_cases c16:65536<=n / 2^32
  .rw[Z9 c16,o7];by_cases c8:256<=n / 2^32 / 2^16
   .rw[Z9 c8,o7];obtain⟨k,k1,k2,k3⟩:=ow (n / 2^32 / 2^16 / 2^8) 56 56 l9 l9 rfl l9 (λx=>A7 .i64 (A7 .i64 (A7 .i64 32 16) 8) (wrap .i64 x)) (λx x0 x1=>by
     rw[pY x0 l9,show A7 .i64 (A7 .i64 32 16) 8=56 by decide,OO l9 l9 l9 l9])
    exact⟨56+k,l9,k2,by have:=((k3.shift (j:=8) l9).shift (j:=16) l9).shift (j:=32) l9;rw[show 32+(16+(8+k))=56+k by omega]at this;exact this⟩
   .rw[ax l9,o6];obtain⟨k,k1,k2,k3⟩:=ow (n / 2^32 / 2^16) 48 48 l9 l9 rfl l9 (λx=>A7 .i64 (A7 .i64 32 16) (wrap .i64 x)) (λx x0 x1=>by
     rw[pY x0 l9,OO (a:=32) l9 l9 l9 l9,OO l9 l9 l9 l9];rfl)
    exact⟨48+k,l9,k2,by have:=(k3.shift (j:=16) l9).shift (j:=32) l9;rw[show 32+(16+k)=48+k by omega]at this;exact this⟩
  .rw[ax l9,o6];by_cases c8:256<=n / 2^32
   .rw[Z9 c8,o7];obtain⟨k,k1,k2,k3⟩:=ow (n / 2^32 / 2^8) 40 40 l9 l9 rfl l9 (λx=>A7 .i64 (A7 .i64 32 8) (wrap .i64 x)) (λx x0 x1=>by
     rw[pY x0 l9,OO (a:=32) l9 l9 l9 l9,OO l9 l9 l9 l9];rfl)
    exact⟨40+k,l9,k2,by have:=(k3.shift (j:=8) l9).shift (j:=32) l9;rw[show 32+(8+k)=40+k by omega]at this;exact this⟩
   .rw[ax l9,o6];obtain⟨k,k1,k2,k3⟩:=ow (n / 2^32) 32 32 l9 l9 rfl l9 (λx=>A7 .i64 32 (wrap .i64 x)) (λx x0 x1=>by
     rw[pY x0 l9,OO l9 l9 l9 l9])
    exact⟨32+k,l9,k2,k3.shift (j:=32) l9⟩
 .rw[ax l9,o6];by_cases c16:65536<=n
  .rw[Z9 c16,o7];by_cases c8:256<=n / 2^16
   .rw[Z9 c8,o7];obtain⟨k,k1,k2,k3⟩:=ow (n / 2^16 / 2^8) 24 24 l9 l9 rfl l9 (λx=>A7 .i64 (A7 .i64 (A7 .i64 0 16) 8) (wrap .i64 x)) (λx x0 x1=>by
     rw[pY x0 l9,show A7 .i64 (A7 .i64 0 16) 8=24 by decide,OO l9 l9 l9 l9])
    exact⟨24+k,l9,k2,by have:=(k3.shift (j:=8) l9).shift (j:=16) l9;rw[show 16+(8+k)=24+k by omega]at this;exact this⟩
   .rw[ax l9,o6];obtain⟨k,k1,k2,k3⟩:=ow (n / 2^16) 16 16 l9 l9 rfl l9 (λx=>A7 .i64 (A7 .i64 0 16) (wrap .i64 x)) (λx x0 x1=>by
     rw[pY x0 l9,OO (a:=0) l9 l9 l9 l9,OO l9 l9 l9 l9];rfl)
    exact⟨16+k,l9,k2,k3.shift (j:=16) l9⟩
  .rw[ax l9,o6];by_cases c8:256<=n
   .rw[Z9 c8,o7];obtain⟨k,k1,k2,k3⟩:=ow (n / 2^8) 8 8 l9 l9 rfl l9 (λx=>A7 .i64 (A7 .i64 0 8) (wrap .i64 x)) (λx x0 x1=>by
     rw[pY x0 l9,OO (a:=0) l9 l9 l9 l9,OO l9 l9 l9 l9];rfl)
    exact⟨8+k,l9,k2,k3.shift (j:=8) l9⟩
   .rw[ax l9,o6];obtain⟨k,k1,k2,k3⟩:=ow n 0 0 l9 l9 rfl l9 (λx=>A7 .i64 0 (wrap .i64 x)) (λx x0 x1=>by
     rw[pY x0 l9,OO l9 l9 l9 l9])
    exact⟨0+k,l9,k2,by rw[dF];exact k3⟩
theorem Hm(h0:0<=n)(h:n<18446744073709551616):IntKind.wrap .u64 n=n:=b8m (by unfold U64;omega)
theorem Bj(n:Int):IntKind.wrap .u64 n=n % 18446744073709551616:=by unfold IntKind.wrap;simp[IntKind.signed,IntKind.bits]
def a8M{σ ε:Type}(f:σ->Option (σ⊕ε))(m:Nat)(o:Option (σ⊕ε)):Option ε:=match o with
 |some (.inl s')=>vN f m s'|some (.inr e)=>some e|none=>none
theorem b2f{σ ε:Type}(f:σ->Option (σ⊕ε))(m:Nat)(s:σ):vN f (m+1) s=a8M f m (f s):=by
 rw[vN];unfold a8M;cases f s with
 |none=>rfl|some o=>cases o<;>rfl
variable {σ:Type}
theorem g_(mkp:Int->Int->σ){f:σ->Option (σ⊕Int)}{y1 y0 U d:Int}(hy1:2147483648<=y1)(hy1' :y1<4294967296)(hy0:0<=y0)(hy0' :y0<4294967296)(hU:0<=U)(hUY:U<y1*4294967296+y0)(hd:0<=d)(hd' :d<4294967296)
  (hf:∀q r,0<=q->q<=4294967297->0<=r->r<4294967296->f (mkp q r)=l7 (N7 4294967296 q) (l7 (N7 4294967296 (A7 .u64 r y1)) (some (.inr (J3 .u64 q 1))) (some (.inl (mkp (J3 .u64 q 1) (A7 .u64 r y1)))))
   (l7 (E9 (A7 .u64 (aA .u64 4294967296 r) d) (aA .u64 q y0)) (l7 (N7 4294967296 (A7 .u64 r y1)) (some (.inr (J3 .u64 q 1))) (some (.inl (mkp (J3 .u64 q 1) (A7 .u64 r y1))))) (some (.inr q)))):
  ∃Q,ay f (mkp (U / y1) (U -U / y1*y1))=some Q/\0<=Q/\Q<4294967296/\Q*(y1*4294967296+y0)<=U*4294967296+d/\U*4294967296+d<(Q+1)*(y1*4294967296+y0):=by
 obtain⟨Y,hY⟩:∃Y,Y=y1*4294967296+y0:=⟨_,rfl⟩;have hYe:∀q:Int,q*Y=q*y1*4294967296+q*y0:=λq=>by rw[hY,Int.mul_add,←Int.mul_assoc]
 have hq0:0<=U / y1:=Y8 hU l9;have hdm:=Y1 U y1;have hm0:=U3 U (show y1≠0 by omega);have hm1:=O7 U (show 0<y1 by omega);have hqB:U / y1<=4294967297:=by
  rcases Su 4294967297 (U / y1)with h|h
  .have:=P7 (show 4294967298<=U / y1 by omega) (show 0<=y1 by omega);omega
  .exact h
 obtain⟨n,hn⟩:∃n,n=(U / y1).toNat+1:=⟨_,rfl⟩;have key:∀(n:Nat) (q r:Int),0<=q->q<=4294967297->0<=r->r<4294967296->U=q*y1+r->U*4294967296+d<(q+1)*Y->q.toNat<n->∀m,n<=m->∃Q,vN f m (mkp q r)=some Q/\0<=Q/\Q<4294967296/\Q*Y<=U*4294967296+d/\U*4294967296+d<(Q+1)*Y:=by
  intro n;induction n with
  |zero=>intro q r _ _ _ _ _ _ h;omega|succ n ih=>
   intro q r q0 qB r0 rB hUq hlt hqn m hm;obtain⟨m,rfl⟩:∃m',m=m' +1:=⟨m -1,l9⟩;rw[b2f,hf q r q0 qB r0 rB];have e1:=hYe q;have e2:(q+1)*Y=q*Y+Y:=by rw[jf,gG]
   have hry:A7 .u64 r y1=r+y1:=Hm l9 l9;have g0:0<=q*y0:=U4 q0 hy0;have less:U*4294967296+d<q*Y->1<=q/\J3 .u64 q 1=q -1/\U=(q -1)*y1+(r+y1)/\(q -1+1)*Y=q*Y/\(q -1)*Y=q*Y -Y/\(q -1)*y0=q*y0 -y0:=by
    intro hgt;have hq1:1<=q:=by
     rcases Su q 1 with h|h
     .have:q=0:=l9;subst this;simp at hgt;omega
     .exact h
    refine⟨hq1,Hm l9 l9,?_,?_,?_,?_⟩
    .rw[mO,gG];omega
    .rw[show q -1+1=q by omega]
    .rw[mO,gG]
    .rw[mO,gG]
   have dec:U*4294967296+d<q*Y->∃Q,a8M f m (l7 (N7 4294967296 (r+y1)) (some (Sum.inr (J3 .u64 q 1))) (some (Sum.inl (mkp (J3 .u64 q 1) (r+y1)))))=some Q/\0<=Q/\Q<4294967296/\Q*Y<=U*4294967296+d/\U*4294967296+d<(Q+1)*Y:=by
    intro hgt;obtain⟨l1,l2,l3,l4,l5,l6⟩:=less hgt;rw[l2];by_cases hr:4294967296<=r+y1
    .rw[Z9 hr];have h6:(q -1)*y0<=4294967296*y0:=P7 l9 hy0;have h7:=hYe (q -1);have hle:(q -1)*Y<=U*4294967296+d:=by rw[h7,l3];omega
     refine⟨q -1,rfl,l9,?_,hle,by rw[l4];exact hgt⟩;rcases Su (q -1) 4294967296 with h|h
     .exact h
     .have:=P7 h (show 0<=Y by omega);omega
    .rw[ax l9];exact ih (q -1) (r+y1) l9 l9 l9 l9 l3 (by rw[l4];exact hgt) l9 m l9
   by_cases hqb:4294967296<=q
   .rw[Z9 hqb,o7,hry];have:=P7 hqb (show 0<=Y by omega);exact dec l9
   .rw[ax l9,o6,hry];have g1:q*y0<=4294967295*y0:=P7 l9 hy0;have m1:aA .u64 4294967296 r=4294967296*r:=Hm l9 l9;have m2:A7 .u64 (4294967296*r) d=4294967296*r+d:=Hm l9 l9;have m3:aA .u64 q y0=q*y0:=Hm g0 l9;rw[m1,m2,m3];by_cases hc:4294967296*r+d<q*y0
    .rw[V5 hc,o7];exact dec (by rw[e1];omega)
    .rw[N9 l9,o6];exact⟨q,rfl,q0,l9,by rw[e1];omega,hlt⟩
 rw[←hY];refine key n (U / y1) (U -U / y1*y1) hq0 hqB l9 l9 l9 ?_ l9 lG (by unfold lG;omega);have e1:=hYe (U / y1);rw[jf,gG,e1];have:=U4 hq0 hy0;omega
theorem Ux(h0:0<=n)(h:n<18446744073709551616):(BitVec.ofInt 64 n).toNat=n.toNat:=by rw[BitVec.toNat_ofInt];have e:((2^64:Nat):Int)=18446744073709551616:=rfl;rw[e,Int.emod_eq_of_lt h0 h]
theorem a2v(h0:0<=n)(h:n<18446744073709551616):a5U .u64 n 4294967295=n % 4294967296:=by unfold a5U;rw[show IntKind.bits .u64=64 from rfl,BitVec.toNat_and,Ux h0 h,Ux G6 G6];rw[show(4294967295:Int).toNat=2^32 -1 from rfl,Nat.and_two_pow_sub_one_eq_mod];rw[Hm l9 l9];omega
theorem b8K{a c:Int}{s:Nat}(ha0:0<=a)(hc0:0<=c)(hc:c<2^s)(h:a*2^s+c<18446744073709551616):ior .u64 (a*2^s) c=a*2^s+c:=by
 have hp:(0:Int)<2^s:=Int.pow_pos l9;have hap:0<=a*2^s:=U4 ha0 l9;unfold ior;rw[show IntKind.bits .u64=64 from rfl,BitVec.toNat_or,Ux hap l9,Ux hc0 l9];obtain⟨m,rfl⟩:∃m:Nat,a=(m:Int):=⟨a.toNat,l9⟩;obtain⟨k,rfl⟩:∃k:Nat,c=(k:Int):=⟨c.toNat,l9⟩;have hk:k<2^s:=by exact_mod_cast hc
 have e1:((m:Int)*2^s).toNat=m<<<s:=by
  rw[Nat.shiftLeft_eq];have:((m:Int)*2^s)=((m*2^s:Nat):Int):=by rw[uJ,uK];rfl
  rw[this];rfl
 rw[e1,J9,←Nat.shiftLeft_add_eq_or_of_lt hk,Nat.shiftLeft_eq];have e2:((m*2^s+k:Nat):Int)=(m:Int)*2^s+(k:Int):=by rw[Int.natCast_add,uJ,uK];rfl
 rw[e2];exact Hm l9 h
theorem a5B(a b c d:Int):J3 .u64 (A7 .u64 (aA .u64 a 4294967296) b) (aA .u64 c d)=(a*4294967296+b -c*d) % 18446744073709551616:=by unfold J3 A7 aA;rw[Bj,Bj,Bj,Bj];generalize c*d=z;omega
theorem c4e(h0:0<y)(h:y<18446744073709551616):∃s:Nat,s<=63/\pJ y=some (s:Int)/\9223372036854775808<=y*2^s/\y*2^s<18446744073709551616:=by
 obtain⟨k,k1,k2,k3,k4⟩:=b4K (n:=y) l9 h;obtain⟨k5,k6⟩:=k4 h0;refine⟨64 -k,l9,?_,?_,?_⟩
 .unfold pJ;rw[k2,o8,U2 U0];congr 1;omega
 .have:=P7 k6 (show(0:Int)<=2^(64 -k)from Int.pow_nonneg l9);rw[←Int.pow_add,show k -1+(64 -k)=63 by omega]at this;exact this
 .have:=Int.mul_lt_mul_of_pos_right k3 (show(0:Int)<2^(64 -k)from Int.pow_pos l9);rw[←Int.pow_add,show k+(64 -k)=64 by omega]at this;exact this
theorem Rj(ha:0<=a)(ha' :a<18446744073709551616)(hb:0<b):qZ .u64 a b=some (a / b):=by unfold qZ;rw[if_neg l9,kQ ha];have h1:=Y8 ha (show 0<=b by omega);have h2:=fJ b ha;rw[Hm h1 l9]
theorem CP(ha:0<=a)(hb:0<b):AL a b=some (a % b):=by unfold AL;rw[if_neg l9];congr 1;exact Ba ha
theorem h_{hi lo y:Int}(h0:0<=hi)(h1:hi<y)(hy:y<18446744073709551616)(l0:0<=lo)(l1:lo<18446744073709551616):
  oh hi lo y=some ((hi*18446744073709551616+lo) / y,(hi*18446744073709551616+lo) % y):=by
 unfold oh;rw[J6 (show y≠0 by omega),o6,o8,ax h1,o6,o8];by_cases hz:hi=0
 .subst hz;rw[J7 rfl,o7,Rj l0 l1 l9,o8,CP l0 l9,o8];simp
 rw[J6 hz,o6];obtain⟨s,s1,s2,s3,s4⟩:=c4e (y:=y) l9 hy;rw[s2,o8,show wrap .u64 ((s:Nat):Int)=(s:Int)from Hm l9 l9,show J3 .u64 64 (s:Int)=((64 -s:Nat):Int) by unfold J3;rw[Hm l9 l9];omega];have hshl:∀v:Int,G_ .u64 v (s:Int)=some ((v*2^s) % 18446744073709551616):=λv=>by unfold G_ b4E;rw[if_neg l9,J9,show IntKind.bits .u64=64 from rfl,show min s 64=s by omega,Bj]
 have hshr:∀(v:Int) (k:Nat),k<=64->H_ .u64 v (k:Int)=some (v / 2^k):=λv k hk=>by unfold H_;rw[if_neg l9,UO hk]
 rw[hshl,o8,hshl,o8,hshr _ _ l9,o8,hshl,o8];have hpp:(2:Int)^s*2^(64 -s)=18446744073709551616:=by rw[←Int.pow_add,show s+(64 -s)=64 by omega];rfl
 have hp:(0:Int)<2^s:=Int.pow_pos l9;have hp' :(0:Int)<2^(64 -s):=Int.pow_pos l9;have hcb:lo / 2^(64 -s)<2^s:=nI hp' (by rw[hpp];exact l1);have hc0:0<=lo / 2^(64 -s):=Y8 l0 l9;have hcd:=Y1 lo (2^(64 -s));have he0:=U3 lo (show(2:Int)^(64 -s)≠0 by omega);have he1:=O7 lo hp';have hioP:∀a c:Int,0<=a->0<=c->c<2^s->a*2^s+c<18446744073709551616->ior .u64 (a*2^s) c=a*2^s+c:=λa c a0 c0 c1 h=>b8K a0 c0 c1 h;have hshrs:∀v:Int,H_ .u64 v (s:Int)=some (v / 2^s):=λv=>hshr v s l9;generalize (2:Int)^s=p at*;generalize (2:Int)^(64 -s)=p' at*;generalize lo / p' =c at*;generalize lo % p' =e at*;have hlop:lo*p=c*18446744073709551616+e*p:=by rw[←hcd,jf,Int.mul_assoc,Int.mul_comm p' p,hpp]
 have hep0:0<=e*p:=U4 he0 l9;have hep1:e*p<18446744073709551616:=by have:=Int.mul_lt_mul_of_pos_right he1 hp;rw[Int.mul_comm p' p,hpp]at this;exact this
 rw[show(lo*p) % 18446744073709551616=e*p by omega];have hhp0:0<=hi*p:=U4 h0 l9;have hhp1:hi*p<=y*p -p:=by have:=P7 (show hi<=y -1 by omega) (show 0<=p by omega);rw[mO,gG]at this;exact this
 rw[show(y*p) % 18446744073709551616=y*p by omega,show(hi*p) % 18446744073709551616=hi*p by omega,hioP hi c h0 hc0 hcb l9];have hN:(hi*18446744073709551616+lo)*p=(hi*p+c)*18446744073709551616+e*p:=by rw[jf,hlop,jQ];omega
 have hsh32:∀v:Int,vJ .u64 v 32=v / 4294967296:=λv=>UO (k:=32) l9;rw[hsh32,hsh32,a2v l9 s4,a2v hep0 hep1];obtain⟨Y,hY⟩:∃Y,Y=y*p:=⟨_,rfl⟩;obtain⟨N,hNN⟩:∃N,N=hi*18446744073709551616+lo:=⟨_,rfl⟩;rw[←hNN]at hN ⊢;rw[←hY]at s3 s4 hhp1 ⊢;generalize hU:hi*p+c=U at*;generalize e*p=E at*;have hUY:U<Y:=l9;have hU0:0<=U:=l9;obtain⟨Q1,q1,q2,q3,q4,q5⟩:=g_ (σ:=Int×Int) (λq r=>(q,r)) (y1:=Y / 4294967296) (y0:=Y % 4294967296) (U:=U) (d:=E / 4294967296) l9 l9 l9 l9 hU0 l9 l9 l9
  (f:=λ(x:Int×Int)=>l7 (N7 4294967296 x.1) (l7 (N7 4294967296 (A7 .u64 x.2 (Y / 4294967296))) (some (.inr (J3 .u64 x.1 1))) (some (.inl (J3 .u64 x.1 1,A7 .u64 x.2 (Y / 4294967296))))) (l7 (E9 (A7 .u64 (aA .u64 4294967296 x.2) (E / 4294967296)) (aA .u64 x.1 (Y % 4294967296))) (l7 (N7 4294967296 (A7 .u64 x.2 (Y / 4294967296))) (some (.inr (J3 .u64 x.1 1))) (some (.inl (J3 .u64 x.1 1,A7 .u64 x.2 (Y / 4294967296))))) (some (.inr x.1))))
  (λq r _ _ _ _=>rfl)
 have hYe:Y / 4294967296*4294967296+Y % 4294967296=Y:=l9;rw[hYe]at q4 q5;have hst:∀V:Int,0<=V->V<Y->J3 .u64 V (aA .u64 (V / (Y / 4294967296)) (Y / 4294967296))=V -V / (Y / 4294967296)*(Y / 4294967296):=λV v0 v1=>by have a1:=Y1 V (Y / 4294967296);have a2:=U3 V (show Y / 4294967296≠0 by omega);have a3:=O7 V (show 0<Y / 4294967296 by omega);have a4:=U4 (Y8 v0 (show 0<=Y / 4294967296 by omega)) (show 0<=Y / 4294967296 by omega);rw[show aA .u64 (V / (Y / 4294967296)) (Y / 4294967296)=V / (Y / 4294967296)*(Y / 4294967296)from Hm a4 l9];exact Hm l9 l9
 rw[Rj hU0 l9 l9,o8,hst U hU0 hUY];refine(lJ q1 _).trans ?_;rw[a5B];have hA1:(Q1+1)*Y=Q1*Y+Y:=by rw[jf,gG]
 rw[hA1]at q5;obtain⟨A1,hAA⟩:∃A1,A1=Q1*Y:=⟨_,rfl⟩;rw[←hAA]at q4 q5 ⊢;rw[show(U*4294967296+E / 4294967296 -A1) % 18446744073709551616=U*4294967296+E / 4294967296 -A1 by omega];generalize hV:U*4294967296+E / 4294967296 -A1=V at*;have hV0:0<=V:=l9;have hVY:V<Y:=l9;obtain⟨Q0,r1,r2,r3,r4,r5⟩:=g_ (σ:=Int×Int) (λq r=>(r,q)) (y1:=Y / 4294967296) (y0:=Y % 4294967296) (U:=V) (d:=E % 4294967296) l9 l9 l9 l9 hV0 l9 l9 l9
  (f:=λ(x:Int×Int)=>l7 (N7 4294967296 x.2) (l7 (N7 4294967296 (A7 .u64 x.1 (Y / 4294967296))) (some (.inr (J3 .u64 x.2 1))) (some (.inl (A7 .u64 x.1 (Y / 4294967296),J3 .u64 x.2 1)))) (l7 (E9 (A7 .u64 (aA .u64 4294967296 x.1) (E % 4294967296)) (aA .u64 x.2 (Y % 4294967296))) (l7 (N7 4294967296 (A7 .u64 x.1 (Y / 4294967296))) (some (.inr (J3 .u64 x.2 1))) (some (.inl (A7 .u64 x.1 (Y / 4294967296),J3 .u64 x.2 1)))) (some (.inr x.2))))
  (λq r _ _ _ _=>rfl)
 rw[hYe]at r4 r5;rw[Rj hV0 l9 l9,o8,hst V hV0 hVY];refine(lJ r1 _).trans ?_;rw[a5B];have hA0:(Q0+1)*Y=Q0*Y+Y:=by rw[jf,gG]
 rw[hA0]at r5;have hQY:(Q1*4294967296+Q0)*Y=A1*4294967296+Q0*Y:=by rw[jf,jQ,←hAA]
 generalize Q0*Y=A0 at*;rw[show(V*4294967296+E % 4294967296 -A0) % 18446744073709551616=V*4294967296+E % 4294967296 -A0 by omega,hshrs,o8];rw[show aA .u64 Q1 4294967296=Q1*4294967296 from Hm l9 l9,show A7 .u64 (Q1*4294967296) Q0=Q1*4294967296+Q0 from Hm l9 l9];generalize hQ:Q1*4294967296+Q0=Q at*;have hR:V*4294967296+E % 4294967296 -A0=(N -Q*y)*p:=by rw[mO,Int.mul_assoc,←hY,hQY,hN];omega
 rw[hR];have hge:0<=N -Q*y:=by
  rcases Su (N -Q*y) 0 with h|h
  .have:=P7 (show N -Q*y<=-1 by omega) (show 0<=p by omega);omega
  .exact h
 have hlt:N -Q*y<y:=by
  rcases Su (N -Q*y) y with h|h
  .exact h
  .have:=P7 h (show 0<=p by omega);omega
 have hq:N / y=Q:=by have e1:N=(N -Q*y)+Q*y:=l9;rw[e1,aY _ _ l9,mX hge hlt];omega
 have hr:N % y=N -Q*y:=by have:=Y1 N y;rw[hq]at this;omega
 rw[hq,hr,Int.mul_ediv_cancel _ l9]
end Go.GP
