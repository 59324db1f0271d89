import Derived.Test.YtajdhhiemabdmaaGreatDoorV5
import Derived.Test.YtajdhhiemabdmaaGreatDoorV2
import Derived.Test.YtajdhhiemabdmaaGreatDoorV3
set_option linter.all false
namespace Go.GP
variable {a:Int}{b:Int}
section
variable {α β σ ε ρ:Type}
@[simp] theorem D5 (x:α) (f:α->Option β):l9 (some x) f=f x:=rfl
@[simp] theorem a8I (f:α->Option β):l9 none f=none:=rfl
theorem SL{o:Option α}{x:α}(h:o=some x)(f:α->Option β):l9 o f=f x:=by rw[h];rfl
theorem Y3{o o' :Option α}(h:o=o'){K:α->Option β}{r:Option β}(h2:l9 o' K=r):l9 o K=r:=by rw[h];exact h2
theorem yK(o:Option α):l9 o (λx=>some x)=o:=by cases o<;>rfl
@[simp] theorem o6 (x y:α):l7 true x y=x:=rfl
@[simp] theorem o7 (x y:α):l7 false x y=y:=rfl
theorem a0w{b:Bool}(h:b=true)(x y:α):l7 b x y=x:=by rw[h];rfl
theorem Qs{b:Bool}(h:b=false)(x y:α):l7 b x y=y:=by rw[h];rfl
@[simp] theorem Z9 (s:σ) (f:σ->α) (g:ε->α):U3 (.inl s) f g=f s:=rfl
@[simp] theorem xe (s:ε) (f:σ->α) (g:ε->α):U3 (.inr s) f g=g s:=rfl
@[simp] theorem P7:E5 true=false:=rfl
@[simp] theorem dO:E5 false=true:=rfl
theorem iM(h:a<b):F9 a b=true:=by simp[F9,h]
theorem gX(h:b<=a):F9 a b=false:=by simp[F9];omega
theorem oG(h:a<=b):U4 a b=true:=by simp[U4,h]
theorem oD(h:b<a):U4 a b=false:=by simp[U4];omega
theorem iw(h:a=b):x9 a b=true:=by simp[x9,h]
theorem kJ(h:a≠b):x9 a b=false:=by simp[x9,h]
theorem wB :F9 a b=true↔a<b:=by simp[F9]
theorem zH :U4 a b=true↔a<=b:=by simp[U4]
theorem gW :x9 a b=true↔a=b:=by simp[x9]
theorem iV :F9 a b=false↔b<=a:=by simp[F9]
theorem EX :U4 a b=false↔b<a:=by simp[U4]
theorem Dv :x9 a b=false↔a≠b:=by simp[x9]
theorem QB{a b:c2f} :seq a b=true↔a=b:=by simp[seq]
theorem Nc(h:0<=a):a.tdiv b=a / b:=Int.tdiv_eq_ediv_of_nonneg h
theorem a2Y(h:0<=a):qA a b=a % b:=Int.tmod_eq_emod_of_nonneg h
def I64(n:Int):Prop:=-9223372036854775808<=n/\n<=9223372036854775807
theorem Xj{p:Int}(h:I64 p:=by unfold I64;omega):I64 p:=h
theorem Uc{n:Int}(h:I64 n):IntKind.wrap .i64 n=n:=by unfold I64 at h;unfold IntKind.wrap;simp[IntKind.signed,IntKind.bits];omega
theorem Hl(h:I64 (a+b)):D7 .i64 a b=a+b:=Uc h
theorem RU(h:I64 (a -b)):O0 .i64 a b=a -b:=Uc h
theorem XN(h:I64 (a.tdiv b)):iO .i64 a b=a.tdiv b:=Uc h
theorem zk{n:Int}(h:(Lit.int .i64 n).wf=true):I64 n:=by simp[Lit.wf,IntKind.min,IntKind.max,IntKind.signed,IntKind.bits]at h;unfold I64;omega
theorem Pq(l:List α):0<=o8 l:=by simp[o8]
theorem I9(l:List α)(i:Nat):J7 l (i:Int)=l[i]?:=by simp[J7]
theorem NM{l:List α}{i:Int}{x:α}(h:J7 l i=some x):0<=i/\i<o8 l/\x∈l/\l[i.toNat]? =some x:=by
 unfold J7 at h;split at h
 .rename_i h0;obtain⟨h1,h2⟩:=aF.1 h;refine⟨h0,by simp[o8];omega,?_,h⟩;rw[←h2];exact L8 h1
 .cases h
theorem yY{l:List α}{i:Int}(h0:0<=i)(h:i<o8 l):∃x,J7 l i=some x/\x∈l:=by
 unfold o8 at h;refine⟨l[i.toNat]'o5,?_,L8 _⟩;unfold J7
 rw[if_pos h0,iP]
theorem QA(l:c2f)(i:Nat):sat l (i:Int)=(l[i]?).map λc=>(c.toNat:Int):=by simp[sat]
theorem uF{a b:List α}(h:a.length+b.length<=1073741824):bu a b=some (a++b):=by simp[bu,h]
theorem a6O{l:List α}{lo hi:Int}(h0:0<=lo)(h1:lo<=hi)(h2:hi<=l.length):jS l lo hi=some ((l.take hi.toNat).drop lo.toNat):=by simp[jS,h0,h1,h2]
theorem a6P{l:List α}{hi:Int}(h1:0<=hi)(h2:hi<=l.length):jS l 0 hi=some (l.take hi.toNat):=by rw[a6O o5 h1 h2];simp
end
section
variable {σ ε ρ:Type}
theorem Pv{f:σ->Option (σ⊕ε)}(Inv:σ->Prop)(Q:ε->Prop)(meas:σ->Nat)
  (h:∀s,Inv s->(∃s',f s=some (.inl s')/\Inv s' /\meas s' <meas s)\/(∃e,f s=some (.inr e)/\Q e)):
  ∀n s,Inv s->meas s<n->∃e,Fb f n s=some e/\Q e
 |0,_,_,h=>by omega|n+1,s,hi,hm=>by
  unfold Fb;rcases h s hi with⟨s',e,hi',hm'⟩|⟨x,e,hx⟩
  .rw[e];exact Pv Inv Q meas h n s' hi' o5
  .rw[e];exact⟨x,rfl,hx⟩
theorem Ff{f:σ->Option (σ⊕ε)}{s:σ}(Inv:σ->Prop)(Q:ε->Prop)(meas:σ->Nat)(hi:Inv s)(hm:meas s<18446744073709551616)
  (h:∀s,Inv s->(∃s',f s=some (.inl s')/\Inv s' /\meas s' <meas s)\/(∃e,f s=some (.inr e)/\Q e)):∃e,dH f s=some e/\Q e:=
 Pv Inv Q meas h _ s hi hm
theorem Sl{f:σ->Option (Out σ ε ρ)}(Inv:σ->Prop)(Q:ε->Prop)(Qr:ρ->Prop)(meas:σ->Nat)
  (h:∀s,Inv s->(∃s',f s=some (.nx s')/\Inv s' /\meas s' <meas s)\/(∃e,f s=some (.ex e)/\Q e)\/(∃r,f s=some (.rt r)/\Qr r)):
  ∀n s,Inv s->meas s<n->(∃e,kK f n s=some (.inl e)/\Q e)\/(∃r,kK f n s=some (.inr r)/\Qr r)
 |0,_,_,h=>by omega|n+1,s,hi,hm=>by
  unfold kK;rcases h s hi with⟨s',e,hi',hm'⟩|⟨x,e,hx⟩|⟨x,e,hx⟩
  .rw[e];exact Sl Inv Q Qr meas h n s' hi' o5
  .rw[e];exact .inl ⟨x,rfl,hx⟩
  .rw[e];exact .inr ⟨x,rfl,hx⟩
theorem xU{f:σ->Option (Out σ ε ρ)}{s:σ}(Inv:σ->Prop)(Q:ε->Prop)(Qr:ρ->Prop)(meas:σ->Nat)(hi:Inv s)(hm:meas s<18446744073709551616)
  (h:∀s,Inv s->(∃s',f s=some (.nx s')/\Inv s' /\meas s' <meas s)\/(∃e,f s=some (.ex e)/\Q e)\/(∃r,f s=some (.rt r)/\Qr r)):
  (∃e,O6 f s=some (.inl e)/\Q e)\/(∃r,O6 f s=some (.inr r)/\Qr r):=
 Sl Inv Q Qr meas h _ s hi hm
end
section
variable {α β ε ρ:Type}
open Classical in
theorem xR(l:List α)(p:Nat->α->Bool)(r:ρ)(e:ε)(f:Int->Option (Out Int ε ρ))(hl:l.length<18446744073709551616)
  (hin:∀(i:Nat) (a:α),l[i]? =some a->f (i:Int)=if p i a=true then some (.nx ((i+1:Nat):Int))else some (.rt r))
  (hend:f (l.length:Int)=some (.ex e)):
  O6 f 0=if(∀i a,l[i]? =some a->p i a=true)then some (.inl e)else some (.inr r):=by
 have key:∀(n i:Nat),i<=l.length->l.length -i<n->(∀j a,j<i->l[j]? =some a->p j a=true)->kK f n (i:Int)=if(∀i a,l[i]? =some a->p i a=true)then some (.inl e)else some (.inr r):=by
  intro n;induction n with
  |zero=>intro i _ h;omega|succ n ih=>
   intro i hi hn hp;unfold kK;by_cases h:i<l.length
   .have e' :=iP h;rw[hin i _ e'];by_cases hpi:p i l[i]=true
    .rw[if_pos hpi];exact ih (i+1) o5 o5 λj a hj ha=>by
      by_cases hji:j=i
      .subst hji;rw[e']at ha;cases ha;exact hpi
      .exact hp j a o5 ha
    .rw[if_neg hpi,if_neg];intro hall;exact hpi (hall i _ e')
   .have:i=l.length:=o5;subst this;rw[hend,if_pos];intro j a ha;exact hp j a (aF.1 ha).1 ha
 exact key _ 0 (bT _) hl λj a hj=>by omega
end
end Go.GP
namespace Go.GP
section
variable {α β α' β' σ τ ε ε' ρ ρ' :Type}
def Ag(R:α->β->Prop)(o:Option α)(p:Option β):Prop:=∃a b,o=some a/\p=some b/\R a b
theorem Ag.mk{R:α->β->Prop}{a:α}{b:β}(h:R a b):Ag R (some a) (some b):=⟨a,b,rfl,rfl,h⟩
theorem Ag.bind{R:α->β->Prop}{S:α' ->β' ->Prop}{o:Option α}{p:Option β}{f:α->Option α'}{g:β->Option β'}(h:Ag R o p)
  (hk:∀a b,o=some a->p=some b->R a b->Ag S (f a) (g b)):Ag S (l9 o f) (l9 p g):=by
 obtain⟨a,b,h1,h2,h3⟩:=h;have:=hk a b h1 h2 h3;rw[h1,h2];exact this
theorem Ag.left{S:α' ->β->Prop}{o:Option α}{a:α}{f:α->Option α'}{p:Option β}(h:o=some a)(hk:Ag S (f a) p):Ag S (l9 o f) p:=by rw[h];exact hk
def a6G(E:ε->ε' ->Prop)(Q:ρ->ρ' ->Prop):ε⊕ρ->ε' ⊕ρ' ->Prop
 | .inl a,.inl b=>E a b| .inr a,.inr b=>Q a b|_,_=>False
def b2z(R:σ->τ->Prop)(E:ε->ε' ->Prop)(Q:ρ->ρ' ->Prop):Out σ ε ρ->Out τ ε' ρ' ->Prop
 | .nx a,.nx b=>R a b| .ex a,.ex b=>E a b| .rt a,.rt b=>Q a b|_,_=>False
theorem Ag.sum{E:ε->ε' ->Prop}{Q:ρ->ρ' ->Prop}{S:α->β->Prop}{o:ε⊕ρ}{p:ε' ⊕ρ'}{f:ε->Option α}{g:ρ->Option α}{f' :ε' ->Option β}{g' :ρ' ->Option β}(h:a6G E Q o p)
  (h1:∀a b,E a b->Ag S (f a) (f' b)) (h2:∀a b,Q a b->Ag S (g a) (g' b)):Ag S (U3 o f g) (U3 p f' g'):=by
 cases o<;>cases p<;>first|exact h1 _ _ h|exact h2 _ _ h|exact h.elim
theorem Sj{f:σ->Option (Out σ ε ρ)}{g:τ->Option (Out τ ε' ρ')}(R:Nat->σ->τ->Prop)(E:ε->ε' ->Prop)(Q:ρ->ρ' ->Prop)
  (h:∀k s t,R k s t->Ag (b2z (λs' t' =>∃k',k' <k/\R k' s' t') E Q) (f s) (g t)):
  ∀n k s t,R k s t->k<n->Ag (a6G E Q) (kK f n s) (kK g n t)
 |0,k,s,t,_,hk=>by omega|n+1,k,s,t,hr,hk=>by
  obtain⟨a,b,h1,h2,h3⟩:=h k s t hr;unfold kK;rw[h1,h2];cases a<;>cases b<;>first|exact h3.elim|skip
  .obtain⟨k',hk',hr'⟩:=h3;exact Sj R E Q h n k' _ _ hr' o5
  .exact Ag.mk h3
  .exact Ag.mk h3
theorem ZQ{f:σ->Option (Out σ ε ρ)}{g:τ->Option (Out τ ε' ρ')}{s:σ}{t:τ}(R:Nat->σ->τ->Prop)(E:ε->ε' ->Prop)(Q:ρ->ρ' ->Prop)(k:Nat)(hk:k<18446744073709551616)(hr:R k s t)
  (h:∀k s t,R k s t->Ag (b2z (λs' t' =>∃k',k' <k/\R k' s' t') E Q) (f s) (g t)):Ag (a6G E Q) (O6 f s) (O6 g t):=
 Sj R E Q h mf k s t hr hk
theorem Cb{p:Nat->Option ρ}(n:Nat)(hn:n<18446744073709551616)(e:ε){f:Int->Option (Out Int ε ρ)}
  (h1:∀i,i<n->f (i:Int)=some (match p i with|some r=> .rt r|none=> .nx ((i+1:Nat):Int))) (h2:f (n:Int)=some (.ex e)):
  O6 f 0=some (match(List.range n).findSome? p with|some r=> .inr r|none=> .inl e):=by
 have key:∀m i,i+m=n->∀k,m<k->kK f k (i:Int)=some (match(List.range' i m).findSome? p with|some r=> .inr r|none=> .inl e):=by
  intro m;induction m with
  |zero=>intro i hi k hk;obtain⟨k,rfl⟩:∃k',k=k' +1:=⟨k -1,o5⟩;have:i=n:=o5;subst this;unfold kK;rw[h2];rfl
  |succ m ih=>
   intro i hi k hk;obtain⟨k,rfl⟩:∃k',k=k' +1:=⟨k -1,o5⟩;unfold kK;rw[h1 i o5,jA,List.findSome?_cons];cases hp:p i with
   |some r=>rfl|none=>exact ih (i+1) o5 k o5
 have:=key n 0 o5 mf hn;rw[List.range_eq_range'];exact this
end
end Go.GP
namespace Go.GP
open Gt
set_option maxRecDepth 100000
variable {i:Nat}
theorem dL(h:i<=9000000000000000000):D7 .i64 (i:Int) 1=((i+1:Nat):Int):=by rw[Hl Xj];omega
def NP(c:UInt8):Bool:=decide (97<=c.toNat)&&decide (c.toNat<=122)
def xq(c:UInt8):Bool:=NP c || (decide (48<=c.toNat)&&decide (c.toNat<=57)) || decide (c.toNat=95)
def GI:List c2f:=oN.getD []
theorem a7o:oN=some GI:=by kernel_rfl
def qZ(s:c2f):Bool:=match s with|[]=>false|c::r=>decide (s.length<=16)&&NP c&&s.all xq&&!(GI.any λw=>seq s w)
theorem Vh(c:UInt8)(r:c2f):qZ (c::r)=(decide ((c::r).length<=16)&&NP c&&(c::r).all xq&&!(GI.any λw=>seq (c::r) w)):=rfl
theorem Sr(c:UInt8):lN (c.toNat:Int)=some (NP c):=by
 unfold lN NP;cases h:decide (97<=c.toNat)<;>simp only[decide_eq_true_eq,decide_eq_false_iff_not]at h
 .rw[oD o5];rfl
 .rw[oG o5];simp only[o6,jH,U4];congr 1;by_cases h2:c.toNat<=122<;>simp[h2]<;>omega
theorem VB(c:UInt8):Ci (c.toNat:Int)=some (NP c):=Sr c
def XB(c:UInt8):Bool:=decide (48<=c.toNat)&&decide (c.toNat<=57)
theorem XC(c:UInt8):jR (c.toNat:Int)=some (XB c):=by
 unfold jR XB;cases h:decide (48<=c.toNat)<;>simp only[decide_eq_true_eq,decide_eq_false_iff_not]at h
 .rw[oD o5];rfl
 .rw[oG o5];simp only[o6,jH,U4];congr 1;by_cases h2:c.toNat<=57<;>simp[h2]<;>omega
theorem a2b(c:UInt8):Ib (c.toNat:Int)=some (XB c):=XC c
theorem a8c(c:UInt8):x9 (c.toNat:Int) 95=decide (c.toNat=95):=by unfold x9;by_cases h:c.toNat=95<;>simp[h]<;>omega
theorem a7S(c:UInt8):Fz (c.toNat:Int)=some (xq c):=by unfold Fz;rw[VB,D5,a2b,a8c];unfold xq;change _=some (NP c || XB c || decide (c.toNat=95));cases NP c<;>cases XB c<;>rfl
variable {s:c2f}
theorem Ut(h:s.length<=4611686018427387904):∃k,oK s=some k/\(k=o8 s↔s.all xq=true):=by
 unfold oK;have:=Ff (f:=λ(x:Int)=>l7 (F9 x (o8 s)) (l9 (sat s x) λx_1=>l9 (lN x_1) λx_2=>l7 x_2 (some (Sum.inl (D7 IntKind.i64 x 1)))
   (l9 (sat s x) λx_3=>l9 (jR x_3) λx_4=>l7 x_4 (some (Sum.inl (D7 IntKind.i64 x 1))) (l9 (sat s x) λx_5=>l7 (x9 x_5 95) (some (Sum.inl (D7 IntKind.i64 x 1))) (some (Sum.inr x))))) (some (Sum.inr x)))
  (s:=0) (λx=>∃i:Nat,x=i/\i<=s.length/\(s.take i).all xq=true) (λk=>k=o8 s↔s.all xq=true) (λx=>s.length -x.toNat) ⟨0,rfl,o5,rfl⟩ az ?_
 .obtain⟨k,h1,h2⟩:=this;refine⟨k,?_,h2⟩;rw[yK];exact h1
 .rintro x ⟨i,rfl,hi,hall⟩;by_cases hl:i<s.length
  .have e:=iP hl;simp only[iM (show(i:Int)<o8 s by simp[o8];omega),o6,QA,e,bP,D5,Sr,XC,a8c];have hst:(s.take (i+1)).all xq=((s.take i).all xq&&xq s[i]):=by rw[V6 hl,List.all_append];simp
   have hw:xq s[i]=(NP s[i] || XB s[i] || decide (s[i].toNat=95)):=rfl;cases hwb:xq s[i]with
   |true=>left;refine⟨((i+1:Nat):Int),?_,⟨i+1,rfl,hl,by rw[hst,hall,hwb];rfl⟩,by simp;omega⟩;rw[dL o5];rw[hw]at hwb;cases h1:NP s[i]<;>cases h2:XB s[i]<;>cases h3:decide (s[i].toNat=95)<;>rw[h1,h2,h3]at hwb<;>first|rfl|cases hwb
   |false=>
    right;refine⟨(i:Int),?_,?_⟩
    .rw[hw]at hwb;cases h1:NP s[i]<;>cases h2:XB s[i]<;>cases h3:decide (s[i].toNat=95)<;>rw[h1,h2,h3]at hwb<;>first|rfl|cases hwb
    .constructor
     .intro h;simp[o8]at h;omega
     .intro h;have:=ik.1 h s[i] (L8 hl);rw[hwb]at this;cases this
  .right;have:i=s.length:=o5;subst this;rw[aU]at hall;exact⟨_,by rw[gX (by simp[o8])];rfl,by simp[o8,hall]⟩
theorem a2e{a:c2f}{w:c2f}{r:c2j}{x:Bool}(h:r=some x):l7 (seq a w) (some (seq a w)) r=some (seq a w || x):=by rw[h];cases seq a w<;>rfl
theorem Yz(s:c2f):wI s=some (GI.any λw=>seq s w):=by
 unfold wI;refine Y3 (o' :=some (GI.any λw=>seq s w)) ?_ (by cases GI.any λw=>seq s w<;>rfl);have hr:GI=(oN).getD []:=rfl;rw[show(GI.any λw=>seq s w)=List.foldr (λw b=>seq s w || b) false GI from by induction GI with|nil=>rfl|cons w l ih=>simp[pR,ih]];unfold GI oN;simp only[jB,List.foldr]
 repeat (refine a2e ?_)
 simp
theorem DI(h:s.length<=4611686018427387904):U7 s=some (qZ s):=by
 unfold U7;cases s with
 |nil=>rfl|cons c r=>
  have h1:seq (c::r) []=false:=by simp[seq]
  obtain⟨k,h2,h3⟩:=Ut h;rw[h1];simp only[dO,o6];rw[show sat (c::r) 0=some (c.toNat:Int)from rfl,D5,Sr,D5,h2,D5,Yz,D5];have h4:x9 k (o8 (c::r))=(c::r).all xq:=by rw[iQ,gW];exact h3
  have h5:U4 (o8 (c::r)) 16=decide ((c::r).length<=16):=by simp only[U4,o8];congr 1;simp;omega
  rw[h4,h5,Vh];cases NP c<;>cases (c::r).all xq<;>cases decide ((c::r).length<=16)<;>rfl
theorem qc(h:s.length<=1000000):U7 s=some (qZ s):=DI o5
theorem Cf(h:s.length<=4611686018427387904):bG s=some (qZ s):=by
 unfold bG;cases s with
 |nil=>rfl|cons c r=>
  have h0:x9 (o8 (c::r)) 0=false:=kJ (by simp[o8];omega);have h5:F9 16 (o8 (c::r))= !decide ((c::r).length<=16):=by simp only[F9,o8];rw[←decide_not];congr 1;simp;omega
  rw[h0,h5,show sat (c::r) 0=some (c.toNat:Int)from rfl,D5,VB,D5,Vh];generalize hs:c::r=s at*;cases hl:decide (s.length<=16)
  .rfl
  cases hc:NP c
  .rfl
  simp only[iG,o7,P7,D5,Z9,jH];refine Y3 (xR s (λi a=>xq a) false PUnit.unit _ o5 (λi x hx=>?_) ?_) ?_
  rotate_left 2
  .have ha:(∀(i:Nat) (a:UInt8),s[i]? =some a->xq a=true)↔s.all xq=true:=by
    rw[ik];constructor
    .intro h x hx;obtain⟨i,hi,rfl⟩:=Y5 hx;exact h i _ (iP hi)
    .intro h i a hi;exact h a (kW hi)
   by_cases hw:s.all xq=true
   .rw[if_pos (ha.2 hw),D5,Z9,a7o,D5,hw];refine Y3 (xR GI (λi a=> !seq a s) false PUnit.unit _ (by decide+kernel) (λi x hx=>?_) ?_) ?_
    rotate_left 2
    .have hb:(∀(i:Nat) (a:c2f),GI[i]? =some a->(!seq a s)=true)↔(GI.any λw=>seq s w)=false:=by
      rw[gu];constructor
      .intro h x hx;obtain⟨i,hi,rfl⟩:=Y5 hx;have:=h i _ (iP hi);intro hq;rw[QB.1 hq]at this;simp[seq]at this
      .intro h i a hi;have:=h a (kW hi);cases hq:seq a s
       .rfl
       .exact absurd (by rw[QB.1 hq];simp[seq]) this
     by_cases hv:(GI.any λw=>seq s w)=false
     .rw[if_pos (hb.2 hv),hv];rfl
     .rw[if_neg (λh=>hv (hb.1 h))];simp only[lD]at hv;rw[hv];rfl
    .have hi:=(aF.1 hx).1;simp only[iM (show(i:Int)<o8 GI by simp[o8];omega),o6,I9,hx,D5];rw[show X0 GI (P6 (i:Int))=some x from by simp[X0,P6,hx],D5,dL (by
       have:GI.length<=100:=by decide+kernel
       omega)]
     cases seq x s<;>rfl
    .rw[gX (by simp[o8])];rfl
   .rw[if_neg (λh=>hw (ha.1 h))];simp only[qC]at hw;rw[hw];rfl
  .have hi:=(aF.1 hx).1;simp only[iM (show(i:Int)<o8 s by simp[o8];omega),o6,QA,hx,bP,D5,a7S];rw[dL o5];cases xq x<;>rfl
  .rw[gX (by simp[o8])];rfl
theorem lS(h:s.length<=1000000):bG s=some (qZ s):=Cf o5
theorem zQ(t:Int×Int)(en:List cZ):bH t en=aO t en:=by
 unfold bH aO;by_cases h1:t.1=1
 .simp[x9,h1,U4]
 by_cases h2:t.1=2
 .simp[x9,h2,U4]
 by_cases h3:t.1=3
 .simp[x9,h3,U4]
 by_cases h4:t.1=4
 .simp[x9,h4,U4]
 by_cases h5:t.1=5
 .simp[x9,h5,U4]
 by_cases h6:t.1=6
 .simp[x9,h6,U4]
 .simp only[x9,h1,h2,h3,h4,h5,h6,decide_false,o7,D5];by_cases h7:1<=t.1
  .rw[a0w (oG h7),Qs (oD o5)]
  .rw[Qs (oD o5)]
theorem UK(t:Int×Int)(en:List cZ):gz t en=iF t en:=by unfold gz iF;rw[zQ]
def vty(t:Int×Int)(en:List cZ):Bool:=l7 (x9 t.1 6) (l7 (U4 0 t.2) (F9 t.2 (o8 en)) false) (l7 (U4 1 t.1) (l7 (U4 t.1 5) (x9 t.2 0) false) false)
theorem gp(t:Int×Int)(en:List cZ):aO t en=some (vty t en):=by unfold aO vty;cases x9 t.1 6<;>cases U4 0 t.2<;>cases U4 1 t.1<;>cases U4 t.1 5<;>rfl
theorem tH(t:Int×Int)(en:List cZ):bH t en=some (vty t en):=(zQ t en).trans (gp t en)
theorem WC(t:Int×Int)(en:List cZ):∃b:Int×Int,iF t en=some b:=by
 unfold iF;rw[gp,D5];cases hv:vty t en
 .exact⟨_,rfl⟩
 simp only[P7,o7];cases h1:x9 t.1 1<;>simp only[o6,o7]
 .cases h2:x9 t.1 2<;>simp only[o6,o7]
  .cases h3:x9 t.1 3<;>simp only[o6,o7]
   .cases h4:x9 t.1 4<;>simp only[o6,o7]
    .cases h5:x9 t.1 5<;>simp only[o6,o7]
     .have h6:x9 t.1 6=true/\U4 0 t.2=true/\F9 t.2 (o8 en)=true:=by
       unfold vty at hv;rw[Dv]at h1 h2 h3 h4 h5;cases h6:x9 t.1 6<;>rw[h6]at hv
       .rw[Dv]at h6;cases h7:U4 1 t.1<;>rw[h7]at hv
        .cases hv
        cases h8:U4 t.1 5<;>rw[h8]at hv
        .cases hv
        rw[zH]at h7 h8;omega
       .cases h7:U4 0 t.2<;>rw[h7]at hv
        .cases hv
        .exact⟨rfl,rfl,hv⟩
      obtain⟨x,hx,_⟩:=yY (zH.1 h6.2.1) (wB.1 h6.2.2);rw[hx];exact⟨_,rfl⟩
     .exact⟨_,rfl⟩
    .exact⟨_,rfl⟩
   .exact⟨_,rfl⟩
  .exact⟨_,rfl⟩
 .exact⟨_,rfl⟩
def bnd(t:Int×Int)(en:List cZ):Int×Int:=(iF t en).getD (0,0)
theorem KD(t:Int×Int)(en:List cZ):iF t en=some (bnd t en):=by obtain⟨b,h⟩:=WC t en;unfold bnd;rw[h];rfl
theorem UL(t:Int×Int)(en:List cZ):gz t en=some (bnd t en):=(UK t en).trans (KD t en)
def inB(n:Int)(b:Int×Int):Bool:=l7 (U4 b.1 n) (U4 n b.2) false
theorem h_(n:Int)(t:Int×Int)(en:List cZ):Es n t en=some (inB n (bnd t en)):=by unfold Es inB;rw[KD,D5];cases U4 (bnd t en).1 n<;>rfl
def Az(r:Int×Int):Bool:=l7 (U4 0 r.1) (l7 (U4 r.1 r.2) (U4 r.2 109573) false) false
theorem IV(r:Int×Int):mZ r=some (Az r):=by unfold mZ Az;cases U4 0 r.1<;>cases U4 r.1 r.2<;>rfl
theorem Fv(r:Int×Int):vT r=some (Az r):=IV r
def Ru(a b:Int×Int):(Int×Int)×Bool:=l7 (Az a) (l7 (Az b) (l7 (U4 (yH a.2 b.2) (ul a.1 b.1)) ((0,0),false) ((ul a.1 b.1,yH a.2 b.2),true)) ((0,0),false)) ((0,0),false)
theorem a4s(a b:Int×Int):uM a b=some (Ru a b):=by unfold uM Ru;rw[Fv,D5,Fv,D5];cases Az a<;>cases Az b<;>cases U4 (yH a.2 b.2) (ul a.1 b.1)<;>rfl
theorem a7L(a b:Int×Int):nY a b=some (Ru a b):=by
 unfold nY qH Ru;rw[IV,D5,IV,D5];cases Az a
 .rfl
 simp only[o6];cases h1:F9 a.1 a.2
 .rw[iV]at h1;rw[oG (show yH a.2 b.2<=ul a.1 b.1 by unfold yH ul;omega)];cases Az b<;>rfl
 simp only[D5,P7,o7];cases Az b
 .rfl
 simp only[o6];cases h2:F9 b.1 b.2
 .rw[iV]at h2;rw[oG (show yH a.2 b.2<=ul a.1 b.1 by unfold yH ul;omega)];rfl
 .cases U4 (yH a.2 b.2) (ul a.1 b.1)<;>rfl
def tJ(a b:yA):Bool:=l7 (Ru a.1 b.1).2 (F9 (ul a.2.1 b.2.1) (yH a.2.2.1 b.2.2.1)) false
theorem Xz(a b:yA):xg a b=some (tJ a b):=by unfold xg tJ;rw[a7L,D5];cases (Ru a.1 b.1).2<;>rfl
theorem WE(a b:yA):wM a b=some (tJ a b):=by unfold wM tJ;rw[a4s,D5];cases (Ru a.1 b.1).2<;>rfl
theorem a2W{l:List yA}(r:yA)(h:l.length<=1000000):∃k:Int,og l r=some (k,l.any λy=>tJ y r):=by
 unfold og;have key:=xU (f:=λ(x:Int)=>l7 (F9 x (o8 l)) (l9 (J7 l x) λx_1=>l9 (pq x_1 r) λx_2=>l7 x_2 (some (Out.rt (x,true))) (some (Out.nx (D7 IntKind.i64 x 1)))) (some (Out.ex PUnit.unit)))
   (s:=0) (λx=>∃i:Nat,x=i/\i<=l.length/\(l.take i).any (λy=>tJ y r)=false) (λ_=>(l.any λy=>tJ y r)=false) (λk=>k.2=true/\(l.any λy=>tJ y r)=true) (λx=>l.length -x.toNat) ⟨0,rfl,o5,rfl⟩ az ?_
 .rcases key with⟨e,h1,h2⟩|⟨k,h1,h2,h3⟩
  .exact⟨0,by rw[h1,h2];rfl⟩
  .refine⟨k.1,?_⟩;rw[h1,h3,←h2];rfl
 .rintro x ⟨i,rfl,hi,hall⟩;by_cases hl:i<l.length
  .have e:=iP hl;have hst:(l.take (i+1)).any (λy=>tJ y r)=((l.take i).any (λy=>tJ y r) || tJ l[i] r):=by rw[V6 hl,rf];simp
   have hv:pq l[i] r=some (tJ l[i] r):=by unfold pq;rw[Xz];rfl
   simp only[iM (show(i:Int)<o8 l by simp[o8];omega),o6,I9,e,D5,hv];cases hc:tJ l[i] r with
   |true=>exact .inr (.inr ⟨_,rfl,rfl,mV.2 ⟨l[i],L8 hl,hc⟩⟩)|false=>exact .inl ⟨((i+1:Nat):Int),by rw[dL o5];rfl,⟨i+1,rfl,hl,by rw[hst,hall,hc];rfl⟩,by simp;omega⟩
  .have:i=l.length:=o5;subst this;rw[aU]at hall;exact .inr (.inl ⟨_,by rw[gX (by simp[o8])];rfl,hall⟩)
def DD(x:yA)(bl br:Int×Int):Bool:=
 l7 (Az x.1) (l7 (x9 x.1.1 x.1.2) true (l7 (U4 x.2.2.1 x.2.1) true (l7 (inB x.2.1 bl) (l7 (inB (O0 .i64 x.2.2.1 1) bl) (E5 (inB x.2.2.2 br)) true) true))) true
theorem a2g(x:yA)(t:Z7)(en:List cZ):Cj x t en=some (DD x (bnd t.2.1 en) (bnd t.2.2.1 en)):=by
 unfold Cj DD;rw[Fv,D5,h_,h_,h_];cases Az x.1
 .rfl
 cases x9 x.1.1 x.1.2
 case true=>rfl
 cases U4 x.2.2.1 x.2.1
 case true=>rfl
 simp only[P7,o7,D5,Z9,o6];cases inB x.2.1 (bnd t.2.1 en)
 .rfl
 cases inB (O0 .i64 x.2.2.1 1) (bnd t.2.1 en)
 .rfl
 rfl
def MP(t:Z7)(en:List cZ)(i:Nat):Option (Int×Int):=match t.2.2.2[i]? with
 |some x=>l7 (DD x (bnd t.2.1 en) (bnd t.2.2.1 en)) (some ((i:Int),3)) (l7 ((t.2.2.2.take i).any λy=>tJ y x) (some ((i:Int),11)) none)|none=>none
def FU(t:Z7)(en:List cZ):Int×Int:=
 l7 (F9 64 (o8 t.2.2.2)) (64,4) (l7 (vty t.2.1 en) (l7 (vty t.2.2.1 en) (match(List.range t.2.2.2.length).findSome? (MP t en)with|some r=>r|none=>(0,0)) (-1,8)) (-1,8))
theorem zI(a b:Int):F9 a b= !U4 b a:=by simp only[F9,U4];rw[←decide_not];congr 1;simp
theorem a2f(t:Z7)(en:List cZ):wL t en=some (FU t en):=by
 unfold wL FU;rw[gp,D5,gp,D5];cases h64:F9 64 (o8 t.2.2.2)
 case true=>rfl
 simp only[o7];cases vty t.2.1 en
 .rfl
 cases vty t.2.2.1 en
 .rfl
 simp only[P7,o7,D5,Z9,o6];have hlen:t.2.2.2.length<=64:=by rw[iV]at h64;simp only[o8]at h64;omega
 refine Y3 (Cb (p:=MP t en) t.2.2.2.length o5 PUnit.unit (λi hi=>?_) ?_) ?_
 rotate_left 2
 .cases (List.range t.2.2.2.length).findSome? (MP t en)<;>rfl
 .have e:=iP hi;simp only[iM (show(i:Int)<o8 t.2.2.2 by simp only[o8];omega),o6,I9,e,D5,a2g,MP];cases DD t.2.2.2[i] (bnd t.2.1 en) (bnd t.2.2.1 en)
  case true=>rfl
  simp only[o7];refine Y3 (xR (t.2.2.2.take i) (λj a=> !tJ a t.2.2.2[i]) ((i:Int),(11:Int)) PUnit.unit _ az (λj x hx=>?_) ?_) ?_
  rotate_left 2
  .have hb:(∀(j:Nat) (a:yA),(t.2.2.2.take i)[j]? =some a->(!tJ a t.2.2.2[i])=true)↔((t.2.2.2.take i).any λy=>tJ y t.2.2.2[i])=false:=by
    rw[gu];constructor
    .intro h x hx;obtain⟨j,hj,rfl⟩:=Y5 hx;have:=h j _ (iP hj);simpa using this
    .intro h j a hj;have:=h a (kW hj);simpa using this
   by_cases hv:((t.2.2.2.take i).any λy=>tJ y t.2.2.2[i])=false
   .rw[if_pos (hb.2 hv),hv,dL o5];rfl
   .rw[if_neg (λh=>hv (hb.1 h))];simp only[lD]at hv;rw[hv];rfl
  .have hj:=(aF.1 hx).1;simp only[aT]at hj;have hx' :t.2.2.2[j]? =some x:=by rw[U1]at hx;split at hx<;>first|exact hx|cases hx
   simp only[iM (show(j:Int)<(i:Int) by omega),o6,I9,hx',D5,e,WE];rw[dL o5];cases tJ x t.2.2.2[i]<;>rfl
  .have hl:(t.2.2.2.take i).length=i:=by simp;omega
   rw[hl,gX o5];rfl
 .rw[gX (by simp[o8])];rfl
variable {α:Type}
theorem vO{l:List α}(h:i<=l.length):jS l 0 (i:Int)=some (l.take i):=by rw[a6P o5 o5];simp
theorem a6w(t:Z7)(en:List cZ):xf t en=some (FU t en):=by
 unfold xf FU;rw[tH,D5,tH,D5];cases h64:F9 64 (o8 t.2.2.2)
 case true=>rfl
 simp only[o7];cases vty t.2.1 en
 .rfl
 cases vty t.2.2.1 en
 .rfl
 simp only[P7,o7,D5,Z9,o6,UL];have hlen:t.2.2.2.length<=64:=by rw[iV]at h64;simp only[o8]at h64;omega
 refine Y3 (Cb (p:=MP t en) t.2.2.2.length o5 PUnit.unit (λi hi=>?_) ?_) ?_
 rotate_left 2
 .cases (List.range t.2.2.2.length).findSome? (MP t en)<;>rfl
 .have e:=iP hi;simp only[iM (show(i:Int)<o8 t.2.2.2 by simp only[o8];omega),o6,I9,e,D5,MP,IV,vO (show i<=t.2.2.2.length by omega)];obtain⟨k,hk⟩:=a2W (l:=t.2.2.2.take i) t.2.2.2[i] az;rw[hk,dL o5];unfold DD inB;simp only[zI];generalize bnd t.2.1 en=bl;generalize bnd t.2.2.1 en=br;cases Az t.2.2.2[i].1
  .rfl
  cases x9 t.2.2.2[i].1.1 t.2.2.2[i].1.2
  case true=>rfl
  cases U4 t.2.2.2[i].2.2.1 t.2.2.2[i].2.1
  case true=>rfl
  cases U4 bl.1 t.2.2.2[i].2.1
  .rfl
  cases U4 t.2.2.2[i].2.1 bl.2
  .rfl
  cases U4 bl.1 (O0 IntKind.i64 t.2.2.2[i].2.2.1 1)
  .rfl
  cases U4 (O0 IntKind.i64 t.2.2.2[i].2.2.1 1) bl.2
  .rfl
  cases U4 br.1 t.2.2.2[i].2.2.2
  .rfl
  cases U4 t.2.2.2[i].2.2.2 br.2
  .rfl
  cases (t.2.2.2.take i).any λy=>tJ y t.2.2.2[i]<;>rfl
 .rw[gX (by simp[o8])];rfl
section
variable {α ε ρ:Type}
theorem BF(l:List α)(p:α->Bool)(r:ρ)(e:ε){f:Int->Option (Out Int ε ρ)}(hl:l.length<=1000000)
  (hin:∀(i:Nat) (a:α),l[i]? =some a->f (i:Int)=some (bif p a then .rt r else .nx (D7 .i64 (i:Int) 1))) (hend:f (l.length:Int)=some (.ex e)):
  O6 f 0=some (bif l.any p then .inr r else .inl e):=by
 rw[xR l (λi a=> !p a) r e f o5 (λi a ha=>?_) hend]
 .have hb:(∀(j:Nat) (a:α),l[j]? =some a->(!p a)=true)↔l.any p=false:=by
   rw[gu];constructor
   .intro h x hx;obtain⟨j,hj,rfl⟩:=Y5 hx;have:=h j _ (iP hj);simpa using this
   .intro h j a hj;have:=h a (kW hj);simpa using this
  by_cases hv:l.any p=false
  .rw[if_pos (hb.2 hv),hv];rfl
  .rw[if_neg (λh=>hv (hb.1 h))];simp only[lD]at hv;rw[hv];rfl
 .have hi:=(aF.1 ha).1;rw[hin i a ha,dL o5];cases p a<;>rfl
theorem xM(l:List α)(p:α->Bool){f:Int->Option (Out Int PUnit Int)}(hl:l.length<=1000000)
  (hin:∀(i:Nat) (a:α),l[i]? =some a->f (i:Int)=some (bif p a then .rt (i:Int)else .nx (D7 .i64 (i:Int) 1))) (hend:f (l.length:Int)=some (.ex PUnit.unit)):
  l9 (l9 (O6 f 0) λo=>U3 o (λ_=>some (-1)) λr=>some r) (λx=>some (U4 0 x))=some (l.any p):=by
 have key:=xU (f:=f) (s:=0) (λx=>∃i:Nat,x=i/\i<=l.length/\(l.take i).any p=false) (λ_=>l.any p=false) (λk=>0<=k/\l.any p=true) (λx=>l.length -x.toNat) ⟨0,rfl,o5,rfl⟩ az ?_
 .rcases key with⟨e,h1,h2⟩|⟨k,h1,h2,h3⟩
  .rw[h1,h2];rfl
  .rw[h1,h3,D5,xe,D5,oG h2]
 .rintro x ⟨i,rfl,hi,hall⟩;by_cases h:i<l.length
  .have e:=iP h;have hst:(l.take (i+1)).any p=((l.take i).any p || p l[i]):=by rw[V6 h,rf];simp
   rw[hin i _ e];cases hc:p l[i]with
   |true=>exact .inr (.inr ⟨_,rfl,o5,mV.2 ⟨l[i],L8 h,hc⟩⟩)|false=>exact .inl ⟨((i+1:Nat):Int),by rw[dL o5];rfl,⟨i+1,rfl,h,by rw[hst,hall,hc];rfl⟩,by simp;omega⟩
  .have:i=l.length:=o5;subst this;rw[aU]at hall;exact .inr (.inl ⟨_,hend,hall⟩)
theorem J9{l:List α}{a:α}(h:l[i]? =some a):F9 (i:Int) (o8 l)=true:=iM (by have:=(aF.1 h).1;simp only[o8];omega)
theorem J8(l:List α):F9 (l.length:Int) (o8 l)=false:=gX (by simp[o8])
end
theorem Ko{l:List cZ}(n:c2f)(h:l.length<=1000000):vN l n=some (l.any λx=>seq x.1 n):=by unfold vN gy iJ;rw[yK];refine xM l (λx=>seq x.1 n) h (λi a ha=>?_) (by rw[J8];rfl);rw[J9 ha,o6,I9,ha,D5];unfold Dx;rw[D5];cases seq a.1 n<;>rfl
theorem Pj{l:List Z7}(n:c2f)(h:l.length<=1000000):wG l n=some (l.any λx=>seq x.1 n):=by unfold wG fD gU;rw[yK];refine xM l (λx=>seq x.1 n) h (λi a ha=>?_) (by rw[J8];rfl);rw[J9 ha,o6,I9,ha,D5];unfold AQ;rw[D5];cases seq a.1 n<;>rfl
theorem XJ{l:List O8}(s:O8)(h:l.length<=1000000):dm l s=some (l.any λx=>seq x.1 s.1):=by unfold dm gQ;refine xM l (λx=>seq x.1 s.1) h (λi a ha=>?_) (by rw[J8];rfl);rw[J9 ha,o6,I9,ha,D5];unfold xP;rw[D5];cases seq a.1 s.1<;>rfl
theorem ZK{l:List bC}(s:bC)(h:l.length<=1000000):dK l s=some (l.any λx=>seq x.1 s.1):=by unfold dK iK;refine xM l (λx=>seq x.1 s.1) h (λi a ha=>?_) (by rw[J8];rfl);rw[J9 ha,o6,I9,ha,D5];unfold zg;rw[D5];cases seq a.1 s.1<;>rfl
theorem Pi{l:List dY}(s:dY)(h:l.length<=1000000):aX l s=some (l.any λx=>seq x.1 s.1):=by unfold aX gK;refine xM l (λx=>seq x.1 s.1) h (λi a ha=>?_) (by rw[J8];rfl);rw[J9 ha,o6,I9,ha,D5];unfold xO;rw[D5];cases seq a.1 s.1<;>rfl
theorem a1E{l:List c2f}(s:c2f)(h:l.length<=1000000):ig l s=some (l.any λx=>seq s x):=by unfold ig fQ;refine xM l (λx=>seq s x) h (λi a ha=>?_) (by rw[J8];rfl);rw[J9 ha,o6,I9,ha,D5];cases seq s a<;>rfl
theorem a1D{l:c2g}(s:Int)(h:l.length<=1000000):kM l s=some (l.any λx=>x9 s x):=by unfold kM rM;refine xM l (λx=>x9 s x) h (λi a ha=>?_) (by rw[J8];rfl);rw[J9 ha,o6,I9,ha,D5];cases x9 s a<;>rfl
section
variable {α ε ρ:Type}
theorem DL(l:List α)(k:Nat)(p:α->Bool)(r:ρ)(e:ε){f:Int->Option (Out Int ε ρ)}(hl:l.length<=1000000)
  (hin:∀(i:Nat) (a:α),l[i]? =some a->f (i:Int)=some (bif (decide (i<k)&&p a)then .rt r else .nx (D7 .i64 (i:Int) 1))) (hend:f (l.length:Int)=some (.ex e)):
  O6 f 0=some (bif (l.take k).any p then .inr r else .inl e):=by
 rw[xR l (λi a=> !(decide (i<k)&&p a)) r e f o5 (λi a ha=>?_) hend]
 .have hb:(∀(j:Nat) (a:α),l[j]? =some a->(!(decide (j<k)&&p a))=true)↔(l.take k).any p=false:=by
   rw[gu];constructor
   .intro h x hx;obtain⟨j,hj,rfl⟩:=Y5 hx;simp only[aT]at hj;have:=h j _ (iP o5);rw[List.getElem_take];simp only[show j<k by omega,decide_true,jH]at this;simpa using this
   .intro h j a hj;by_cases hk:j<k
    .have hm:a∈l.take k:=kW (i:=j) (by rw[V4 hk];exact hj);have:=h a hm;simpa[hk]using this
    .simp[hk]
  by_cases hv:(l.take k).any p=false
  .rw[if_pos (hb.2 hv),hv];rfl
  .rw[if_neg (λh=>hv (hb.1 h))];simp only[lD]at hv;rw[hv];rfl
 .have hi:=(aF.1 ha).1;rw[hin i a ha,dL o5];cases decide (i<k)&&p a<;>rfl
end
theorem Lu(i k:Nat):F9 (i:Int) (k:Int)=decide (i<k):=by unfold F9;by_cases h:i<k<;>simp[h]<;>omega
def uw(l:P8)(kind:Nat)(k:Nat)(n:c2f):Bool:=
 match kind with
 |1=>(l.1.take k).any λx=>seq x.1 n|2=>(l.1.any λx=>seq x.1 n) || ((l.2.1.take k).any λx=>seq x.1 n)|_=>(l.1.any λx=>seq x.1 n) || (l.2.1.any λx=>seq x.1 n) || ((l.2.2.take k).any λx=>seq x.1 n)
def Few(l:P8):Prop:=l.1.length<=100000/\l.2.1.length<=100000/\l.2.2.length<=100000
variable {l:P8}
theorem a2m(h:Few l)(k:Nat)(n:c2f):gm l 1 (k:Int) n=some (uw l 1 k n):=by
 unfold gm uw;refine Y3 (DL l.1 k (λx=>seq x.1 n) true PUnit.unit (by have:=h.1;omega) (λi a ha=>?_) ?_) ?_
 rotate_left 2
 .cases (l.1.take k).any λx=>seq x.1 n
  case true=>rfl
  simp only[cond_false,Z9];refine Y3 (DL l.2.1 0 (λx=>seq x.1 n) true PUnit.unit (by have:=h.2.1;omega) (λi a ha=>?_) ?_) ?_
  rotate_left 2
  .simp only[List.take_zero,List.any_nil,cond_false,Z9];refine Y3 (DL l.2.2 0 (λx=>seq x.1 n) true PUnit.unit (by have:=h.2.2;omega) (λi a ha=>?_) ?_) ?_
   rotate_left 2
   .rfl
   .rw[J9 ha];simp;rfl
   .rw[J8];rfl
  .rw[J9 ha];simp;rfl
  .rw[J8];rfl
 .rw[J9 ha,I9,ha,D5,Lu,o6];cases decide (i<k)<;>cases seq a.1 n<;>rfl
 .rw[J8];rfl
theorem a2n(h:Few l)(k:Nat)(n:c2f):gm l 2 (k:Int) n=some (uw l 2 k n):=by
 unfold gm uw;refine Y3 (BF l.1 (λx=>seq x.1 n) true PUnit.unit (by have:=h.1;omega) (λi a ha=>?_) ?_) ?_
 rotate_left 2
 .cases l.1.any λx=>seq x.1 n
  case true=>rfl
  simp only[cond_false,Z9,jG];refine Y3 (DL l.2.1 k (λx=>seq x.1 n) true PUnit.unit (by have:=h.2.1;omega) (λi a ha=>?_) ?_) ?_
  rotate_left 2
  .cases (l.2.1.take k).any λx=>seq x.1 n
   case true=>rfl
   simp only[cond_false,Z9];refine Y3 (DL l.2.2 0 (λx=>seq x.1 n) true PUnit.unit (by have:=h.2.2;omega) (λi a ha=>?_) ?_) ?_
   rotate_left 2
   .rfl
   .rw[J9 ha];simp;rfl
   .rw[J8];rfl
  .rw[J9 ha,I9,ha,D5,Lu,o6];cases decide (i<k)<;>cases seq a.1 n<;>rfl
  .rw[J8];rfl
 .rw[J9 ha,I9,ha,D5,o6];cases seq a.1 n<;>rfl
 .rw[J8];rfl
theorem a2o(h:Few l)(k:Nat)(n:c2f):gm l 3 (k:Int) n=some (uw l 3 k n):=by
 unfold gm uw;refine Y3 (BF l.1 (λx=>seq x.1 n) true PUnit.unit (by have:=h.1;omega) (λi a ha=>?_) ?_) ?_
 rotate_left 2
 .cases l.1.any λx=>seq x.1 n
  case true=>rfl
  simp only[cond_false,Z9,jG];refine Y3 (BF l.2.1 (λx=>seq x.1 n) true PUnit.unit (by have:=h.2.1;omega) (λi a ha=>?_) ?_) ?_
  rotate_left 2
  .cases l.2.1.any λx=>seq x.1 n
   case true=>rfl
   simp only[cond_false,Z9,jG];refine Y3 (DL l.2.2 k (λx=>seq x.1 n) true PUnit.unit (by have:=h.2.2;omega) (λi a ha=>?_) ?_) ?_
   rotate_left 2
   .cases (l.2.2.take k).any λx=>seq x.1 n<;>rfl
   .rw[J9 ha,I9,ha,D5,Lu,o6];cases decide (i<k)<;>cases seq a.1 n<;>rfl
   .rw[J8];rfl
  .rw[J9 ha,I9,ha,D5,o6];cases seq a.1 n<;>rfl
  .rw[J8];rfl
 .rw[J9 ha,I9,ha,D5,o6];cases seq a.1 n<;>rfl
 .rw[J8];rfl
def Us(ms:List c2f)(i:Nat):Option (Int×Int):=match ms[i]? with
 |some m=>l7 (qZ m) (l7 ((ms.take i).any λx=>seq m x) (some (7,((100+i:Nat):Int))) none) (some (2,((100+i:Nat):Int)))|none=>none
def OV(l:P8)(i:Nat)(e:cZ):Int×Int:=
 l7 (qZ e.1) (l7 (uw l 1 i e.1) (7,0) (l7 (x9 (o8 e.2) 0) (5,0) (l7 (F9 16 (o8 e.2)) (4,116) (match(List.range e.2.length).findSome? (Us e.2)with|some r=>r|none=>(0,0))))) (2,0)
theorem a0E(h:i<=1000000):D7 .i64 100 (i:Int)=((100+i:Nat):Int):=by rw[Hl Xj];omega
theorem VS(h:Few l)(hi:i<=l.1.length)(e:cZ)(h1:e.1.length<=1000000)(h2:∀m∈e.2,m.length<=1000000):
  yj l (i:Int) e=some (OV l i e):=by
 unfold yj OV uw;rw[qc h1,D5,vO hi,D5,Ko _ (by have:=h.1;simp;omega),D5];cases qZ e.1
 .rfl
 simp only[P7,o7,o6];cases (l.1.take i).any λx=>seq x.1 e.1
 case true=>rfl
 cases x9 (o8 e.2) 0
 case true=>rfl
 cases h16:F9 16 (o8 e.2)
 case true=>rfl
 simp only[o7];have hlen:e.2.length<=16:=by rw[iV]at h16;simp only[o8]at h16;omega
 refine Y3 (Cb (p:=Us e.2) e.2.length o5 PUnit.unit (λj hj=>?_) ?_) ?_
 rotate_left 2
 .cases (List.range e.2.length).findSome? (Us e.2)<;>rfl
 .have e' :=iP hj;rw[J9 e',o6,I9,e',D5,qc (h2 _ (L8 hj)),D5,vO o5,D5,a1E _ az,D5,a0E o5,dL o5];simp only[Us,e'];cases qZ e.2[j]
  .rfl
  cases (e.2.take j).any λx=>seq e.2[j] x<;>rfl
 .rw[J8];rfl
theorem a4Z(a b:c2f):seq a b=seq b a:=by unfold seq;by_cases h:a=b<;>simp[h,eq_comm]
variable {ρ:Type}{ε:Type}{σ:Type}
theorem a1r(l:List α)(p:α->Bool)(n:Nat)(hn:n<=l.length)(hl:l.length<=1000000)(a b:σ)(r:ρ)(e:ε){f:σ×σ×Int->Option (Out (σ×σ×Int) ε ρ)}
  (hin:∀(i:Nat) (x:α),i<n->l[i]? =some x->f (a,b,(i:Int))=some (bif p x then .rt r else .nx (a,b,D7 .i64 (i:Int) 1))) (hend:f (a,b,(n:Int))=some (.ex e)):
  O6 f (a,b,0)=some (bif (l.take n).any p then .inr r else .inl e):=by
 have key:=xU (f:=f) (s:=(a,b,0)) (λx=>∃i:Nat,x=(a,b,(i:Int))/\i<=n/\(l.take i).any p=false) (λx=>x=e/\(l.take n).any p=false) (λk=>k=r/\(l.take n).any p=true) (λx=>n -x.2.2.toNat) ⟨0,rfl,o5,rfl⟩ az ?_
 .rcases key with⟨x,h1,rfl,h2⟩|⟨k,h1,rfl,h2⟩
  .rw[h1,h2];rfl
  .rw[h1,h2];rfl
 .rintro x ⟨i,rfl,hi,hall⟩;by_cases h:i<n
  .have e' :=iP (show i<l.length by omega);have hst:(l.take (i+1)).any p=((l.take i).any p || p l[i]):=by rw[V6 o5,rf];simp
   rw[hin i _ h e'];cases hc:p l[i]with
   |true=>refine .inr (.inr ⟨_,rfl,rfl,mV.2 ⟨l[i],?_,hc⟩⟩);exact kW (i:=i) (by rw[V4 h];exact e')|false=>exact .inl ⟨(a,b,((i+1:Nat):Int)),by rw[dL o5];rfl,⟨i+1,rfl,h,by rw[hst,hall,hc];rfl⟩,by simp;omega⟩
  .have:i=n:=o5;subst this;exact .inr (.inl ⟨_,hend,rfl,hall⟩)
variable {β:Type}
theorem RJ{p:Nat->Option β}{n j:Nat}{c:β}(h0:(List.range j).findSome? p=none)(h1:p j=some c)(hj:j<n):(List.range n).findSome? p=some c:=by
 induction n with
 |zero=>omega|succ n ih=>
  rw[ed,je];by_cases h:j<n
  .rw[ih h];rfl
  .have:j=n:=o5;subst this;rw[h0];simp[h1]
theorem a0D{p:Nat->Option β}{j:Nat}(h0:(List.range j).findSome? p=none)(h1:p j=none):(List.range (j+1)).findSome? p=none:=by rw[ed,je,h0];simp[h1]
def Jn(kind i:Int)(r:Int×Int):Int×Int×Int×Int:=l7 (x9 r.1 0) (0,0,0,0) (r.1,kind,i,r.2)
theorem Uy(h:Few l){e:cZ}(he:l.1[i]? =some e)(h1:e.1.length<=1000000)(h2:∀m∈e.2,m.length<=1000000):
  uQ l (i:Int)=some (Jn 1 i (OV l i e)):=by
 unfold uQ OV;rw[I9,he,D5,lS h1,D5,a2m h,D5];cases qZ e.1
 .rfl
 simp only[P7,o7,o6];cases uw l 1 i e.1
 case true=>rfl
 cases x9 (o8 e.2) 0
 case true=>rfl
 cases h16:F9 16 (o8 e.2)
 case true=>rfl
 simp only[o7];have hlen:e.2.length<=16:=by rw[iV]at h16;simp only[o8]at h16;omega
 have key:=xU (f:=λ(x_3:I4×I4×Int)=>
   l7 (F9 x_3.2.2 (o8 e.2)) (l9 (J7 e.2 x_3.2.2) λ(x_4:c2f)=>l9 (bG x_4) λ(x_5:Bool)=>
    l7 (E5 x_5) (some (Out.rt (2,x_3.2.1.2.1,x_3.2.1.2.2.1,D7 IntKind.i64 100 x_3.2.2)))
     (l9 (O6 (λ(x_6:I4×I4×Int)=>l7 (F9 x_6.2.2 x_3.2.2) (l9 (J7 e.2 x_6.2.2) λ(x_7:c2f)=>l9 (J7 e.2 x_3.2.2) λ(x:c2f)=>
       l7 (seq x_7 x) (some (Out.rt (7,x_6.2.1.2))) (some (Out.nx (x_6.1,x_6.2.1,D7 IntKind.i64 x_6.2.2 1)))) (some (Out.ex (x_6.1,x_6.2.1))))
      (x_3.1,(x_3.2.1.1,x_3.2.1.2.1,x_3.2.1.2.2.1,D7 IntKind.i64 100 x_3.2.2),0)) λ(o:I4×I4⊕I4)=>
       U3 o (λ(y:I4×I4)=>some (Out.nx (y.1,y.2,D7 IntKind.i64 x_3.2.2 1))) λ(r:I4)=>some (Out.rt r))) (some (Out.ex x_3.1)))
  (s:=((0,0,0,0),(0,1,(i:Int),0),0))
  (λx=>∃(B:Int×Int×Int×Int) (j:Nat),x=((0,0,0,0),B,(j:Int))/\B.2.1=1/\B.2.2.1=i/\j<=e.2.length/\(List.range j).findSome? (Us e.2)=none)
  (λ_=>(List.range e.2.length).findSome? (Us e.2)=none) (λr=>∃c,(List.range e.2.length).findSome? (Us e.2)=some c/\r=(c.1,1,(i:Int),c.2)/\c.1≠0)
  (λx=>e.2.length -x.2.2.toNat) ⟨_,0,rfl,rfl,rfl,o5,rfl⟩ az ?_
 .rcases key with⟨x,k1,k2⟩|⟨r,k1,c,k2,k3,k4⟩
  .refine(SL k1 _).trans ?_;rw[k2];rfl
  .refine(SL k1 _).trans ?_;rw[k2,k3];simp only[xe,Jn];rw[kJ k4];rfl
 .rintro x ⟨B,j,rfl,b1,b2,hj,hn⟩;by_cases hl:j<e.2.length
  .have e' :=iP hl;simp only[J9 e',o6,I9,e',D5,lS (h2 _ (L8 hl)),a0E (show j<=1000000 by omega)];cases hid:qZ e.2[j]
   .refine .inr (.inr ⟨_,rfl,(2,((100+j:Nat):Int)),RJ hn (by simp only[Us,e',hid];rfl) hl,?_,(by show(2:Int)≠0;decide)⟩);rw[b1,b2]
   .simp only[P7,o7];rw[a1r e.2 (λx=>seq e.2[j] x) j o5 o5 (0,0,0,0) (B.1,B.2.1,B.2.2.1,((100+j:Nat):Int)) (7,B.2.1,B.2.2.1,((100+j:Nat):Int)) ((0,0,0,0),(B.1,B.2.1,B.2.2.1,((100+j:Nat):Int)))
     (λk x hk hx=>by simp only[iM (show(k:Int)<(j:Int) by omega),o6,I9,hx,D5,e'];rw[a4Z];cases seq e.2[j] x<;>rfl)
     (by simp only[gX (show(j:Int)<=(j:Int) by omega)];rfl)]
    cases hd:(e.2.take j).any λx=>seq e.2[j] x
    .refine .inl ⟨((0,0,0,0),(B.1,B.2.1,B.2.2.1,((100+j:Nat):Int)),((j+1:Nat):Int)),by rw[dL o5];rfl,⟨_,j+1,rfl,b1,b2,hl,a0D hn (by simp only[Us,e',hid,hd];rfl)⟩,by simp;omega⟩
    .refine .inr (.inr ⟨_,rfl,(7,((100+j:Nat):Int)),RJ hn (by simp only[Us,e',hid,hd];rfl) hl,?_,(by show(7:Int)≠0;decide)⟩);rw[b1,b2]
  .have:j=e.2.length:=o5;subst this;exact .inr (.inl ⟨_,by simp only[J8];rfl,hn⟩)
def Y0(n:Nat)(p:Nat->Option ρ):Option ρ:=(List.range n).findSome? p
variable {p:Nat->Option ρ}
theorem jX(n:Nat)(hn:n<=1000000)(a:σ)(e:ε){f:σ×Int->Option (Out (σ×Int) ε ρ)}
  (h1:∀i,i<n->f (a,(i:Int))=some (match p i with|some r=> .rt r|none=> .nx (a,D7 .i64 (i:Int) 1))) (h2:f (a,(n:Int))=some (.ex e)):
  O6 f (a,0)=some (match Y0 n p with|some r=> .inr r|none=> .inl e):=by
 have key:=xU (f:=f) (s:=(a,0)) (λx=>∃i:Nat,x=(a,(i:Int))/\i<=n/\Y0 i p=none) (λx=>x=e/\Y0 n p=none) (λr=>Y0 n p=some r) (λx=>n -x.2.toNat) ⟨0,rfl,o5,rfl⟩ az ?_
 .rcases key with⟨x,k1,rfl,k2⟩|⟨r,k1,k2⟩
  .rw[k1,k2]
  .rw[k1,k2]
 .rintro x ⟨i,rfl,hi,hnone⟩;by_cases h:i<n
  .rw[h1 i h];cases hp:p i with
   |some r=>exact .inr (.inr ⟨_,rfl,RJ hnone hp h⟩)|none=>exact .inl ⟨(a,((i+1:Nat):Int)),by rw[dL o5],⟨i+1,rfl,h,a0D hnone hp⟩,by simp;omega⟩
  .have:i=n:=o5;subst this;exact .inr (.inl ⟨_,h2,rfl,hnone⟩)
def Jp(kind i:Int)(r:Int×Int):Option (Int×Int×Int×Int):=l7 (x9 r.1 0) none (some (r.1,kind,i,r.2))
def GY(l:P8)(i:Nat):Option (Int×Int×Int×Int):=match l.1[i]? with|some e=>Jp 1 i (OV l i e)|none=>none
def yT(l:P8):Int×Int×Int×Int:=l7 (F9 8 (o8 l.1)) (4,1,8,0) (match Y0 l.1.length (GY l)with|some r=>r|none=>(0,0,0,0))
def VK(l:P8):Prop:=∀e∈l.1,e.1.length<=1000000/\∀m∈e.2,m.length<=1000000
theorem Ui(h:Few l)(hE:VK l):wC l=some (yT l):=by
 unfold wC yT;cases F9 8 (o8 l.1)
 case true=>rfl
 simp only[o7];refine Y3 (jX (p:=GY l) l.1.length (by have:=h.1;omega) _ (0,0,0,0) (λi hi=>?_) ?_) ?_
 rotate_left 2
 .cases Y0 l.1.length (GY l)<;>rfl
 .have e:=iP hi;have hm:=hE _ (L8 hi);simp only[J9 e,o6,I9,e,D5,VS h (show i<=l.1.length by omega) _ hm.1 hm.2,GY,Jp];cases x9 (OV l i l.1[i]).1 0<;>rfl
 .rw[J8];rfl
variable {n:Nat}
theorem eG{r:ρ}(h:Y0 n p=some r):∃i,i<n/\p i=some r:=by unfold Y0 at h;obtain⟨i,hi,hp⟩:=List.exists_of_findSome?_eq_some h;exact⟨i,dM.1 hi,hp⟩
theorem rX(h:Y0 n p=none):∀i,i<n->p i=none:=by unfold Y0 at h;intro i hi;exact nV.1 h i (dM.2 hi)
theorem a6v(t:Z7)(en:List cZ):(FU t en).1=-1\/0<=(FU t en).1:=by
 unfold FU;cases F9 64 (o8 t.2.2.2)
 case true=>right;simp only[o6];decide
 cases vty t.2.1 en
 .left;rfl
 cases vty t.2.2.1 en
 .left;rfl
 right;simp only[o6,o7];cases hf:(List.range t.2.2.2.length).findSome? (MP t en)with
 |none=>exact oH _|some r=>
  obtain⟨i,hi,hp⟩:=eG (p:=MP t en) hf;unfold MP at hp;split at hp
  .rename_i x hx;cases hw:DD x (bnd t.2.1 en) (bnd t.2.2.1 en)<;>rw[hw]at hp
   .cases ha:(t.2.2.2.take i).any λy=>tJ y x<;>rw[ha]at hp
    .cases hp
    .cases hp;show(0:Int)<=(i:Int);omega
   .cases hp;show(0:Int)<=(i:Int);omega
  .cases hp
def OE(l:P8)(i:Nat)(t:Z7):Int×Int:=
 l7 (qZ t.1) (l7 (uw l 2 i t.1) (7,0) (l7 (x9 (FU t l.1).2 0) (0,0) ((FU t l.1).2,l7 (U4 0 (FU t l.1).1) (D7 .i64 100 (FU t l.1).1) 0))) (2,0)
def DC(l:P8)(i:Nat):Option (Int×Int×Int×Int):=match l.2.1[i]? with|some t=>Jp 2 i (OE l i t)|none=>none
def xk(l:P8):Int×Int×Int×Int:=l7 (F9 8 (o8 l.2.1)) (4,2,8,0) (match Y0 l.2.1.length (DC l)with|some r=>r|none=>(0,0,0,0))
def QH(l:P8):Prop:=∀t∈l.2.1,t.1.length<=1000000
theorem Tc(h:Few l){t:Z7}(he:l.2.1[i]? =some t)(h1:t.1.length<=1000000):sO l (i:Int)=some (Jn 2 i (OE l i t)):=by
 unfold sO OE;rw[I9,he,D5,lS h1,D5,a2n h,D5,a2f,D5];cases qZ t.1
 .rfl
 cases uw l 2 i t.1
 case true=>rfl
 simp only[P7,o7,o6];cases hz:x9 (FU t l.1).2 0
 case true=>rfl
 simp only[o7,Jn,hz];cases U4 0 (FU t l.1).1<;>rfl
theorem QZ(h:Few l)(hT:QH l):uH l=some (xk l):=by
 unfold uH xk;cases F9 8 (o8 l.2.1)
 case true=>rfl
 simp only[o7];refine Y3 (jX (p:=DC l) l.2.1.length (by have:=h.2.1;omega) _ (0,0,0,0) (λi hi=>?_) ?_) ?_
 rotate_left 2
 .cases Y0 l.2.1.length (DC l)<;>rfl
 .have e:=iP hi;have hm:=hT _ (L8 hi);simp only[J9 e,o6,I9,e,D5,a6w,qc hm,Ko _ (show l.1.length<=1000000 by have:=h.1;omega),vO (show i<=l.2.1.length by omega),
   Pj _ (show(l.2.1.take i).length<=1000000 by have:=h.2.1;simp;omega),DC,OE,uw]
  cases qZ l.2.1[i].1
  .rfl
  cases l.1.any λx=>seq x.1 l.2.1[i].1
  case true=>rfl
  cases (l.2.1.take i).any λx=>seq x.1 l.2.1[i].1
  case true=>rfl
  simp only[P7,o7,o6,D5,Bool.or_false];cases hz:x9 (FU l.2.1[i] l.1).2 0
  case true=>rfl
  simp only[dO,o6,o7,Jp,hz];rcases a6v l.2.1[i] l.1 with hr|hr
  .rw[iw hr,oD (show(FU l.2.1[i] l.1).1<0 by omega)];simp only[P7,o7,D5,hz,dO,o6]
  .rw[kJ (show(FU l.2.1[i] l.1).1≠-1 by omega),oG hr];simp only[dO,o6,D5,hz]
 .rw[J8];rfl
theorem a8A(l:List α)(g:α->β)(hl:l.length<=1000000){f:List β×Int->Option ((List β×Int)⊕ε)}{F:List β->ε}
  (hin:∀(i:Nat) (a:α) (acc:List β),l[i]? =some a->acc.length=i->f (acc,(i:Int))=some (.inl (acc++[g a],D7 .i64 (i:Int) 1))) (hend:∀acc,f (acc,(l.length:Int))=some (.inr (F acc))):
  dH f ([],0)=some (F (l.map g)):=by
 obtain⟨e,h1,h2⟩:=Ff (f:=f) (s:=([],0)) (λx=>∃i:Nat,x=((l.take i).map g,(i:Int))/\i<=l.length) (λe=>e=F (l.map g)) (λx=>l.length -x.2.toNat) ⟨0,rfl,o5⟩ az (by
  rintro x ⟨i,rfl,hi⟩;by_cases h:i<l.length
  .have e:=iP h;refine .inl ⟨((l.take (i+1)).map g,((i+1:Nat):Int)),?_,⟨i+1,rfl,h⟩,by simp;omega⟩;rw[hin i _ _ e az,dL o5,V6 h,dG];rfl
  .have:i=l.length:=o5;subst this;refine .inr ⟨_,hend _,?_⟩;rw[aU])
 rw[h1,h2]
theorem Dp{l:List dY}(h:l.length<=1000000):oI l=some (l.map (·.2)):=by
 unfold oI;rw[yK];refine a8A (F:=id) l (λx=>x.2) h (λi a acc ha hacc=>?_) (λacc=>?_)
 .have hi:=(aF.1 ha).1;simp only[J9 ha,o6,I9,ha,D5];rw[uF (by simp[hacc];omega)];rfl
 .simp only[J8];rfl
def KT(l:P8):Prop:=∀s∈l.2.2,s.1.length<=1000000/\s.2.2.1.length<=100000/\s.2.2.2.1.length<=100000/\s.2.2.2.2.length<=100000
def KI(l:P8)(s:O8):List cZ×List Z7×List (Int×Int)×List (Int×Int)×List (Int×Int)×Bool:=
 match(if 0<=s.2.1 then l.2.2[s.2.1.toNat]? else none)with
 |some k=>(l.1,l.2.1,s.2.2.1.map (·.2),s.2.2.2.1.map (·.2),k.2.2.2.1.map (·.2),true)|none=>(l.1,l.2.1,s.2.2.1.map (·.2),s.2.2.2.1.map (·.2),[],false)
theorem Bv(h:KT l){s:O8}(hs:l.2.2[i]? =some s):lm l (i:Int)=some (KI l s):=by
 have hm:=h s (kW hs);unfold lm KI;rw[I9,hs,D5,Dp o5,D5,Dp o5,D5];by_cases h0:0<=s.2.1
 .rw[oG h0,if_pos h0,o6];by_cases h1:s.2.1<o8 l.2.2
  .obtain⟨k,hk,hkm⟩:=yY h0 h1;have hk' :l.2.2[s.2.1.toNat]? =some k:=(NM hk).2.2.2;rw[iM h1,o6,hk,D5,Dp (by have:=h k hkm;omega),D5,hk']
  .have h1' :o8 l.2.2<=s.2.1:=Int.not_lt.1 h1;rw[gX h1',o7,fK (by simp only[o8]at h1';exact Int.le_toNat h0 |>.2 h1')]
 .have h0' :s.2.1<(0:Int):=yX.1 h0;rw[oD h0',if_neg h0];rfl
theorem UA(h:KT l){s:O8}(hs:l.2.2[i]? =some s):uP l (i:Int)=some (KI l s):=by have hi:=(aF.1 hs).1;rw[←Bv h hs];unfold uP lm;rw[gX o5,oD (by simp only[o8];omega)];rfl
abbrev SI(l:c2g):Prop:=l.Pairwise (·< ·)
theorem F_:∀{a b:c2g},SI a->SI b->(∀x,x∈a↔x∈b)->a=b
 |[],[],_,_,_=>rfl|[],y::b,_,_,h=>absurd ((h y).2 A8) A8|x::a,[],_,_,h=>absurd ((h x).1 A8) A8|x::a,y::b,ha,hb,h=>by
  have ha' :=U6.1 ha;have hb' :=U6.1 hb;have hxy:x=y:=by
   rcases C9.1 ((h x).1 A8)with h1|h1
   .exact h1
   .rcases C9.1 ((h y).2 A8)with h2|h2
    .exact h2.symm
    .have:=hb'.1 _ h1;have:=ha'.1 _ h2;omega
  subst hxy;congr 1;refine F_ ha'.2 hb'.2 λz=>⟨λhz=>?_,λhz=>?_⟩
  .rcases C9.1 ((h z).1 (by simp[hz]))with h1|h1
   .have:=ha'.1 _ hz;omega
   .exact h1
  .rcases C9.1 ((h z).2 (by simp[hz]))with h1|h1
   .have:=hb'.1 _ hz;omega
   .exact h1
def ins(n:Int):c2g->c2g
 |[]=>[n]|a::l=>if n<=a then(if n<a then n::a::l else a::l)else a::ins n l
theorem Wn(n x:Int):∀l,x∈ins n l↔x=n\/x∈l
 |[]=>by simp[ins]|a::l=>by
  unfold ins;by_cases h:n<=a
  .rw[if_pos h];by_cases h2:n<a
   .rw[if_pos h2];simp
   .rw[if_neg h2];have:n=a:=o5;subst this;simp
  .rw[if_neg h,C9,Wn n x l,C9];constructor
   .rintro(h|h|h)<;>simp[h]
   .rintro(h|h|h)<;>simp[h]
theorem a5d(n:Int):∀{l},SI l->SI (ins n l)
 |[],_=>List.pairwise_singleton _ _|a::l,h=>by
  have h' :=U6.1 h;unfold ins;by_cases h1:n<=a
  .rw[if_pos h1];by_cases h2:n<a
   .rw[if_pos h2];refine U6.2 ⟨λx hx=>?_,h⟩;rcases C9.1 hx with rfl|hx
    .exact h2
    .have:=h'.1 x hx;omega
   .rw[if_neg h2];exact h
  .rw[if_neg h1];refine U6.2 ⟨λx hx=>?_,a5d n h'.2⟩;rcases(Wn n x l).1 hx with rfl|hx
   .omega
   .exact h'.1 x hx
def Dw(ns:c2g)(l:c2g):c2g:=ns.foldl (λacc n=>ins n acc) l
theorem LP(x:Int):∀ns l,x∈Dw ns l↔x∈ns\/x∈l
 |[],l=>by simp[Dw]|n::ns,l=>by
  show x∈Dw ns (ins n l)↔_;rw[LP x ns,Wn,C9];constructor
  .rintro(h|h|h)<;>simp[h]
  .rintro((h|h)|h)<;>simp[h]
theorem QC:∀ns {l},SI l->SI (Dw ns l)
 |[],_,h=>h|n::ns,_,h=>QC ns (a5d n h)
theorem Po(a b l:c2g):Dw (a++b) l=Dw b (Dw a l):=List.foldl_append ..
def KO(l:c2g):c2g:=Dw l []
theorem Yc(x:Int)(l:c2g):x∈KO l↔x∈l:=by unfold KO;rw[LP];simp
theorem a1f(l:c2g):SI (KO l):=QC l List.Pairwise.nil
theorem uY(n:Int):∀l,(ins n l).length<=l.length+1
 |[]=>by simp[ins]|a::l=>by
  unfold ins;by_cases h1:n<=a
  .rw[if_pos h1];by_cases h2:n<a
   .rw[if_pos h2];simp
   .rw[if_neg h2];simp
  .rw[if_neg h1];have:=uY n l;simp only[G8];omega
theorem BX:∀ns l,(Dw ns l).length<=l.length+ns.length
 |[],l=>by simp[Dw]|n::ns,l=>by have h1:=BX ns (ins n l);have h2:=uY n l;show(Dw ns (ins n l)).length<=_;simp only[G8];omega
theorem XX(l:c2g):(KO l).length<=l.length:=by have:=BX l [];unfold KO;simpa using this
theorem WR{l:c2g}(n:Nat)(h:SI l)(h2:∀x∈l,0<=x/\x<n):l.length<=n:=by
 have key:∀(l:c2g) (lo:Int),SI l->(∀x∈l,lo<=x/\x<n)->lo<=n->(l.length:Int)<=n -lo:=by
  intro l;induction l with
  |nil=>intro lo _ _ hlo;simp;omega|cons a l ih=>intro lo hs hb hlo;have h' :=U6.1 hs;have ha:=hb a A8;have:=ih (a+1) h'.2 (λx hx=>⟨by have:=h'.1 x hx;omega,(hb x (by simp[hx])).2⟩) o5;simp only[G8];omega
 have:=key l 0 h (λx hx=>h2 x hx) o5;omega
theorem Rk(x:Int):∀(l:c2g) (p:Int),(p::l).Pairwise (·<=·)->SI (p::ddp p l)/\(x∈p::ddp p l↔x∈p::l)
 |[],p,_=>⟨List.pairwise_singleton _ _,Iff.rfl⟩|a::l,p,h=>by
  have h1:=U6.1 h;obtain⟨i1,i2⟩:=Rk x l a h1.2;have h2:=U6.1 h1.2;have hpa:=h1.1 a A8;unfold ddp;cases hq:x9 a p
  .rw[Dv]at hq;simp only[cond_false];refine⟨U6.2 ⟨λy hy=>?_,i1⟩,?_⟩
   .rcases C9.1 hy with rfl|hy
    .omega
    .have:=(U6.1 i1).1 y hy;omega
   .rw[C9,i2,C9 (a:=x) (b:=p)]
  .rw[gW]at hq;subst hq;simp only[cond_true];refine⟨i1,?_⟩;rw[i2];simp
theorem a2N(l:c2g):dd (Hm l)=KO l:=by
 have hs:=Fa l;have hp:=EZ l;refine F_ ?_ (a1f l) λx=>?_
 .cases he:Hm l with
  |nil=>exact List.Pairwise.nil|cons a r=>rw[he]at hs;exact(Rk a r a hs).1
 .rw[Yc,←hp.mem_iff];cases he:Hm l with
  |nil=>exact Iff.rfl|cons a r=>rw[he]at hs;exact(Rk x r a hs).2
theorem a1H(l:c2g):(Hm l).length=l.length:=(EZ l).length_eq
theorem a7O{l:c2g}(h:l.length<=1000000):l9 (Af l) (λx=>nG x)=some (KO l):=by unfold Af nG;rw[show Nat.blt l.length 4611686018427387904=true from by simp[Nat.blt];omega];simp only[cond_true,D5];rw[show Nat.blt (Hm l).length 4611686018427387904=true from by rw[a1H];simp[Nat.blt];omega];rw[cond_true,a2N]
def hg(l:c2g)(i:Nat):Int:=l.getD i 0
theorem Nb{l:List α}{a:α}(h:(l.take n)[i]? =some a):i<n/\l[i]? =some a:=by
 rw[U1]at h;split at h
 .exact⟨by assumption,h⟩
 .cases h
theorem Fq{l:List dY}(hl:l.length<=1000000)(n:Nat)(nm:c2f):oP l (n:Int) nm=some ((l.take n).any λx=>seq x.1 nm):=by
 unfold oP;refine Y3 (BF (l.take n) (λx=>seq x.1 nm) true PUnit.unit az (λi a ha=>?_) ?_) ?_
 rotate_left 2
 .cases (l.take n).any λx=>seq x.1 nm<;>rfl
 .obtain⟨h1,h2⟩:=Nb ha;rw[iM (show(i:Int)<n by omega),J9 h2,I9,h2];simp only[o6,D5];cases seq a.1 nm<;>rfl
 .by_cases h:n<l.length
  .have e:(l.take n).length=n:=by simp;omega
   rw[e,gX o5];rfl
  .have e:(l.take n).length=l.length:=by simp;omega
   rw[e,J8];cases F9 (l.length:Int) (n:Int)<;>rfl
def Dn(en:List cZ)(f:dY)(a b:List dY):Int:=
 l7 (qZ f.1) (l7 (a.any λx=>seq x.1 f.1) 7 (l7 (b.any λx=>seq x.1 f.1) 7 (l7 (vty f.2 en) 0 8))) 2
theorem Jv{f:dY}{a b:List dY}(h:f.1.length<=1000000)(ha:a.length<=1000000)(hb:b.length<=1000000):rq l f a b=some (Dn l.1 f a b):=by
 unfold rq Dn;rw[qc h,D5,Pi _ ha,D5,Pi _ hb,D5,tH,D5];cases qZ f.1
 .rfl
 cases a.any λx=>seq x.1 f.1
 case true=>rfl
 cases b.any λx=>seq x.1 f.1
 case true=>rfl
 cases vty f.2 l.1<;>rfl
def Jo(c e:Int):Option (Int×Int):=l7 (x9 c 0) none (some (c,e))
def inP(l:P8)(s:O8)(i:Nat):Option (Int×Int):=match s.2.2.1[i]? with|some f=>Jo (Dn l.1 f (s.2.2.1.take i) []) (100+i:Nat)|none=>none
def Ul(l:P8)(s:O8)(i:Nat):Option (Int×Int):=match s.2.2.2.1[i]? with|some f=>Jo (Dn l.1 f s.2.2.1 (s.2.2.2.1.take i)) (200+i:Nat)|none=>none
def QF(s:O8):Prop:=(∀f∈s.2.2.1,f.1.length<=1000000)/\(∀f∈s.2.2.2.1,f.1.length<=1000000)
theorem Pm{c i:Nat}(hc:c<=1000)(h:i<=1000000):D7 .i64 (c:Int) (i:Int)=((c+i:Nat):Int):=by rw[Hl Xj];omega
def Qb(i:Int)(r:Int×Int):Int×Int×Int×Int:=(r.1,3,i,r.2)
theorem BU{ρ ρ' :Type}(g:ρ->ρ')(n:Nat)(p:Nat->Option ρ):Y0 n (λi=>(p i).map g)=(Y0 n p).map g:=by
 unfold Y0;induction n with
 |zero=>rfl|succ n ih=>rw[ed,je,je,ih];cases (List.range n).findSome? p<;>simp
def uC(l:P8)(s:O8):Option (Int×Int):=match Y0 s.2.2.1.length (inP l s)with|some r=>some r|none=>Y0 s.2.2.2.1.length (Ul l s)
theorem SY{s:O8}(hs:l.2.2[i]? =some s)(h1:s.2.2.1.length<=1000)(h2:s.2.2.2.1.length<=1000)(hf:QF s):
  sH l (i:Int)=some (match uC l s with|some r=>Qb i r|none=>(0,0,0,0)):=by
 unfold sH uC;rw[I9,hs,D5];refine Y3 (jX (p:=λk=>(inP l s k).map (Qb i)) s.2.2.1.length o5 _ (0,0,0,0) (λk hk=>?_) ?_) ?_
 rotate_left 2
 .rw[BU];cases Y0 s.2.2.1.length (inP l s)
  case some r=>rfl
  simp only[Option.map_none,Z9];refine Y3 (jX (p:=λk=>(Ul l s k).map (Qb i)) s.2.2.2.1.length o5 _ (0,0,0,0) (λk hk=>?_) ?_) ?_
  rotate_left 2
  .rw[BU];cases Y0 s.2.2.2.1.length (Ul l s)<;>rfl
  .have e:=iP hk;have hm:=hf.2 _ (L8 hk);simp only[J9 e,o6,I9,e,D5,lS hm,show o8 s.2.2.1=((s.2.2.1.length:Nat):Int)from rfl,Fq (show s.2.2.1.length<=1000000 by omega),Fq (show s.2.2.2.1.length<=1000000 by omega),gp,Ul,Dn,Jo,aU];rw[show(200:Int)=((200:Nat):Int)from rfl,Pm o5 o5];cases qZ s.2.2.2.1[k].1
   .rfl
   cases s.2.2.1.any λx=>seq x.1 s.2.2.2.1[k].1
   case true=>rfl
   cases (s.2.2.2.1.take k).any λx=>seq x.1 s.2.2.2.1[k].1
   case true=>rfl
   cases vty s.2.2.2.1[k].2 l.1<;>rfl
  .simp only[J8];rfl
 .have e:=iP hk;have hm:=hf.1 _ (L8 hk);simp only[J9 e,o6,I9,e,D5,lS hm,Fq (show s.2.2.1.length<=1000000 by omega),gp,inP,Dn,Jo];rw[show(100:Int)=((100:Nat):Int)from rfl,Pm o5 o5];cases qZ s.2.2.1[k].1
  .rfl
  cases (s.2.2.1.take k).any λx=>seq x.1 s.2.2.1[k].1
  case true=>rfl
  cases vty s.2.2.1[k].2 l.1<;>rfl
 .simp only[J8];rfl
def arF(op:Int):Int:=(iU op).getD 0
variable {op:Int}
theorem a8M(h:1<=op/\op<=39):∃k:Fin 40,op=(k.val:Int):=⟨⟨op.toNat,o5⟩,by simp;omega⟩
theorem b2K:∀k:Fin 40,1<=k.val->(ja (k.val:Int)=iU (k.val:Int))/\(iU (k.val:Int)=some 0\/iU (k.val:Int)=some 1\/iU (k.val:Int)=some 2\/iU (k.val:Int)=some 3):=by decide+kernel
theorem Wi(h:¬(1<=op/\op<=39))(k:Int)(h1:1<=k)(h2:k<=39):x9 op k=false:=kJ o5
theorem a1a(h:¬(1<=op/\op<=39)):iU op=some (-1):=by
 unfold iU;by_cases h1:1<=op
 .rw[oG h1,o6,oD (show(9:Int)<op by omega),o7,oD (show(39:Int)<op by omega),oD (show(30:Int)<op by omega)];simp[Wi h];cases U4 35 op<;>cases U4 11 op<;>rfl
 .rw[oD (show op<1 by omega),o7,oD (show op<35 by omega),oD (show op<11 by omega)];simp[Wi h]
theorem a8x(h:¬(1<=op/\op<=39)):ja op=some (-1):=by unfold ja;simp[Wi h]
theorem KY(op:Int):ja op=some (arF op)/\iU op=some (arF op)/\(arF op=-1\/arF op=0\/arF op=1\/arF op=2\/arF op=3):=by
 unfold arF;by_cases h:1<=op/\op<=39
 .obtain⟨k,rfl⟩:=a8M h;obtain⟨h1,h2⟩:=b2K k o5;rcases h2 with h2|h2|h2|h2<;>rw[h1,h2]<;>simp
 .rw[a8x h,a1a h];simp
theorem a7Y(op:Int):ja op=some (arF op):=(KY op).1
theorem a4i(op:Int):iU op=some (arF op):=(KY op).2.1
inductive XT where
 |l0 (n:Int×Int)|l1 (n:Int×Int) (a:XT)|l2 (n:Int×Int) (a b:XT)|l3 (n:Int×Int) (a b c:XT)
def XT.size:XT->Nat
 | .l0 _=>1| .l1 _ a=>a.size+1| .l2 _ a b=>a.size+b.size+1| .l3 _ a b c=>a.size+b.size+c.size+1
def XT.post:XT->List (Int×Int)
 | .l0 n=>[n]| .l1 n a=>a.post++[n]| .l2 n a b=>a.post++b.post++[n]| .l3 n a b c=>a.post++b.post++c.post++[n]
def XT.sts(o:Nat):XT->c2g
 | .l0 _=>[(o:Int)]| .l1 _ a=>a.sts o++[(o:Int)]| .l2 _ a b=>a.sts o++b.sts (o+a.size)++[(o:Int)]| .l3 _ a b c=>a.sts o++b.sts (o+a.size)++c.sts (o+a.size+b.size)++[(o:Int)]
theorem XT.size_pos(t:XT):0<t.size:=by cases t<;>simp[XT.size]
theorem XT.post_len(t:XT):t.post.length=t.size:=by
 induction t with
 |l0 n=>rfl|l1 n a ha=>simp[XT.post,XT.size,ha]|l2 n a b ha hb=>simp[XT.post,XT.size,ha,hb];try omega
 |l3 n a b c ha hb hc=>simp[XT.post,XT.size,ha,hb,hc];try omega
theorem XT.sts_len(t:XT):∀o,(t.sts o).length=t.size:=by
 induction t with
 |l0 n=>intro o;rfl|l1 n a ha=>intro o;simp[XT.sts,XT.size,ha]|l2 n a b ha hb=>intro o;simp[XT.sts,XT.size,ha,hb];try omega
 |l3 n a b c ha hb hc=>intro o;simp[XT.sts,XT.size,ha,hb,hc];try omega
def fF:List XT->Nat
 |[]=>0|t::r=>fF r+t.size
def Gv:List XT->List (Int×Int)
 |[]=>[]|t::r=>Gv r++t.post
def stR:List XT->c2g
 |[]=>[]|t::r=>stR r++t.sts (fF r)
def kE:List XT->c2g
 |[]=>[]|t::r=>kE r++[(fF r:Int)]
theorem kz:∀ts,(kE ts).length=ts.length
 |[]=>rfl|t::r=>by simp[kE,kz r]
theorem zO:∀ts,(stR ts).length=fF ts
 |[]=>rfl|t::r=>by simp[stR,fF,zO r,XT.sts_len]
theorem Jd:∀ts,(Gv ts).length=fF ts
 |[]=>rfl|t::r=>by simp[Gv,fF,Jd r,XT.post_len]
def push(n:Int×Int)(ts:List XT):Int⊕List XT:=
 if arF n.1=0 then .inr (.l0 n::ts)
 else if arF n.1=1 then(match ts with|a::r=> .inr (.l1 n a::r)|_=> .inl 5)
 else if arF n.1=2 then(match ts with|b::a::r=> .inr (.l2 n a b::r)|_=> .inl 5)
 else if arF n.1=3 then(match ts with|c::b::a::r=> .inr (.l3 n a b c::r)|_=> .inl 5)
 else .inl 2
def qE:Nat->List (Int×Int)->List XT->(Int×Int)⊕List XT
 |_,[],ts=> .inr ts
 |i,n::es,ts=>match push n ts with
  | .inl c=> .inl ((i:Int),c)| .inr ts' =>if 12<ts'.length then .inl ((i:Int),16)else qE (i+1) es ts'
def nZ(e:List (Int×Int)):(Int×Int)⊕XT:=
 if 48<e.length then .inl (0,4)else if e.length=0 then .inl (0,5)else
  match qE 0 e []with
  | .inl x=> .inl x| .inr [t]=> .inr t| .inr _=> .inl ((e.length:Int),4)
theorem Vx{n:Int×Int}{ts ts' :List XT}(h:push n ts= .inr ts'):Gv ts' =Gv ts++[n]/\ts' ≠[]:=by
 unfold push at h;split at h
 .cases h;exact⟨rfl,A8⟩
 split at h
 .split at h
  .cases h;exact⟨by simp[Gv,XT.post],A8⟩
  .cases h
 split at h
 .split at h
  .cases h;exact⟨by simp[Gv,XT.post],A8⟩
  .cases h
 split at h
 .split at h
  .cases h;exact⟨by simp[Gv,XT.post],A8⟩
  .cases h
 .cases h
theorem Jf{n:Int×Int}{ts ts' :List XT}(h:push n ts= .inr ts'):fF ts' =fF ts+1:=by rw[←Jd,←Jd,(Vx h).1];simp
theorem Fj:∀(es:List (Int×Int)) (i:Nat) (ts ts' :List XT),qE i es ts= .inr ts' ->Gv ts' =Gv ts++es/\(ts≠[]\/es≠[]->ts' ≠[])
 |[],i,ts,ts',h=>by cases h;exact⟨A8,A8⟩|n::es,i,ts,ts',h=>by
  unfold qE at h;cases hp:push n ts with
  |inl c=>rw[hp]at h;cases h|inr t2=>
   rw[hp]at h;simp only at h;split at h
   .cases h
   .obtain⟨h1,h2⟩:=Fj es (i+1) t2 ts' h;obtain⟨h3,h4⟩:=Vx hp;exact⟨by rw[h1,h3];simp,λ_=>h2 (.inl h4)⟩
theorem PY{e:List (Int×Int)}{t:XT}(h:nZ e= .inr t):e=t.post/\e.length<=48:=by
 unfold nZ at h;split at h
 .cases h
 split at h
 .cases h
 split at h
 .cases h
 .rename_i t' hp;cases h;have:=(Fj e 0 [] [t] hp).1;exact⟨by simpa[Gv]using this.symm,o5⟩
 .cases h
theorem PX(e:List (Int×Int))(he:e.length<=48)(g:List XT->σ)(fin:List XT->ε)(rt:Int×Int->ρ){f:σ->Option (Out σ ε ρ)}
  (hs:∀(i:Nat) (n:Int×Int) (ts:List XT),e[i]? =some n->i=fF ts->ts.length<=12->f (g ts)=some (match push n ts with
   | .inl c=> .rt (rt ((i:Int),c))
   | .inr ts' =>if 12<ts'.length then .rt (rt ((i:Int),16))else .nx (g ts')))
  (hend:∀ts,fF ts=e.length->f (g ts)=some (.ex (fin ts))):
  O6 f (g [])=some (match qE 0 e []with| .inl x=> .inr (rt x)| .inr ts=> .inl (fin ts)):=by
 have key:∀(es:List (Int×Int)) (i:Nat) (ts:List XT) (k:Nat),e.drop i=es->i=fF ts->ts.length<=12->i<=e.length->es.length<k->
   kK f k (g ts)=some (match qE i es ts with| .inl x=> .inr (rt x)| .inr ts=> .inl (fin ts)):=by
  intro es;induction es with
  |nil=>
   intro i ts k hd hi hl hle hk;obtain⟨k,rfl⟩:∃k',k=k' +1:=⟨k -1,o5⟩;have:i=e.length:=by have:=congrArg List.length hd;simp at this;omega
   unfold kK;rw[hend ts o5];rfl
  |cons n es ih=>
   intro i ts k hd hi hl hle hk;obtain⟨k,rfl⟩:∃k',k=k' +1:=⟨k -1,o5⟩;have hn:e[i]? =some n:=by
    have:(e.drop i)[0]? =some n:=by rw[hd];rfl
    simpa using this
   have hlt:=(aF.1 hn).1;unfold kK;rw[hs i n ts hn hi hl];unfold qE;cases hp:push n ts with
   |inl c=>rfl|inr ts' =>
    simp only;by_cases h12:12<ts'.length
    .rw[if_pos h12,if_pos h12]
    .rw[if_neg h12,if_neg h12];exact ih (i+1) ts' k (by rw[←V8,hd];rfl) (by rw[Jf hp,hi]) o5 o5 (by simp at hk;omega)
 exact key e 0 [] mf rfl rfl A8 o5 (by unfold mf;omega)
theorem Yi:∀(p r:List XT),∃X,kE (p++r)=kE r++X/\X.length=p.length/\(p≠[]->X.head?=some (fF r:Int))
 |[],r=>⟨[],A8,rfl,λh=>absurd rfl h⟩|a::p,r=>by
  obtain⟨X,h1,h2,h3⟩:=Yi p r;refine⟨X++[(fF (p++r):Int)],?_,by simp[h2],λ_=>?_⟩
  .show kE (p++r)++[(fF (p++r):Int)]=_;rw[h1,G7]
  .cases p with
   |nil=>simp at h2;subst h2;rfl|cons b p=>rw[List.head?_append,h3 A8];rfl
theorem NY(p r:List XT)(k:Int)(hk:k=(p.length:Int))(h:p.length+r.length<=100)(hp:p≠[]):
  O0 .i64 (o8 (kE (p++r))) k=(r.length:Int)/\J7 (kE (p++r)) (r.length:Int)=some (fF r:Int)/\X0 (kE (p++r)) (P6 (r.length:Int))=some (fF r:Int)
  /\mM 0 (r.length:Int) (o8 (kE (p++r)))=true/\jK (kE (p++r)) (P6 0) (P6 (r.length:Int))=kE r:=by
 obtain⟨X,h1,h2,h3⟩:=Yi p r;have hl:(kE (p++r)).length=r.length+p.length:=by rw[kz];simp;omega
 have hg:(kE (p++r))[r.length]? =some (fF r:Int):=by rw[h1,J4 (by rw[kz];omega),kz,jg,←List.head?_eq_getElem?];exact h3 hp
 refine⟨?_,?_,?_,?_,?_⟩
 .simp only[o8,hl];rw[RU Xj];omega
 .rw[I9];exact hg
 .exact hg
 .simp only[mM,o8,hl,decide_eq_true_eq];omega
 .show((kE (p++r)).take r.length).drop 0=_;rw[h1,jl,Y2 (by rw[kz];omega),U2 (by rw[kz];omega)]
theorem Pn(ts:List XT):F9 12 (o8 (kE ts))=decide (12<ts.length):=by rw[show o8 (kE ts)=((ts.length:Nat):Int) by simp[o8,kz]];exact Lu 12 ts.length
theorem mW{l:List α}(x:α)(h:l.length<=1000000):bu l [x]=some (l++[x]):=uF az
theorem Ec(ts:List XT)(k:Nat):F9 (o8 (kE ts)) (k:Int)=decide (ts.length<k):=by rw[show o8 (kE ts)=((ts.length:Nat):Int) by simp[o8,kz]];exact Lu _ _
def wZ(e:List (Int×Int)):c2g×Int×Int:=match nZ e with| .inl x=>([],x)| .inr t=>(t.sts 0,0,0)
theorem Vs{e:List (Int×Int)}(h0:e.length≠0){K:c2g×Int×Int->c2g×Int×Int}(h48:¬48<e.length)
  {r:c2g×Int×Int} (h:∀ts,qE 0 e []= .inr ts->r=l7 (F9 1 (o8 (kE ts))) ([],o8 e,4) (stR ts,0,0)) (hi:∀x,qE 0 e []= .inl x->r=([],x)):r=wZ e:=by
 unfold wZ nZ;rw[if_neg h48,if_neg h0];cases hp:qE 0 e []with
 |inl x=>exact hi x hp|inr ts=>
  rw[h ts hp];have:=(Fj e 0 [] ts hp).2 (.inr (by intro he;subst he;exact h0 rfl));match ts,this with
  |[t],_=>simp[kE,o8,F9,stR,fF]|a::b::ts,_=>rw[iM (by simp[o8,kz];omega)];rfl
theorem UB(e:List (Int×Int)):uN e=some (wZ e):=by
 unfold uN;by_cases h48:48<e.length
 .rw[iM (by simp[o8];omega),o6];unfold wZ nZ;rw[if_pos h48]
 by_cases h0:e.length=0
 .rw[gX (by simp[o8];omega),o7,iw (by simp[o8,h0]),o6];unfold wZ nZ;rw[if_neg h48,if_pos h0]
 rw[gX (by simp[o8];omega),o7,kJ (by simp[o8];intro h;exact h0 (by simp[h])),o7];refine Y3 (PX e o5 (λts=>(stR ts,kE ts,(fF ts:Int))) (λts=>(stR ts,kE ts)) (λx=>(([]:c2g),x)) (λi n ts hn hi hl=>?_) (λts hsz=>?_)) ?_
 rotate_left 2
 .rw[←Vs h0 h48 (K:=id) (r:=match qE 0 e []with| .inl x=>([],x)| .inr ts=>l7 (F9 1 (o8 (kE ts))) ([],o8 e,4) (stR ts,0,0)) (λts h=>by rw[h]) (λx h=>by rw[h])];cases qE 0 e []with
  |inl x=>rfl|inr ts=>simp only[D5,Z9];cases F9 1 (o8 (kE ts))<;>rfl
 .subst hi;have hlt:=(aF.1 hn).1;have hst:=zO ts;have hof:=kz ts;simp only[J9 hn,o6,I9,hn,D5,a4i];rcases(KY n.1).2.2 with h|h|h|h|h
  .rw[show push n ts= .inl 2 by simp[push,h],h];rfl
  .rw[show push n ts= .inr (.l0 n::ts) by simp[push,h],h,gX o5,o7,gX (Pq _),o7,o7,mW _ o5,D5,mW _ o5,D5,dL o5];rw[show kE ts++[(fF ts:Int)]=kE (.l0 n::ts)from rfl,Pn];by_cases hc:12<(XT.l0 n::ts).length
   .simp only[hc,decide_true,if_true,o6]
   .simp only[hc,decide_false,if_false,o7];rfl
  .match ts with
   |[]=>rw[show push n []= .inl 5 by simp[push,h],h];rfl|a::r=>
    obtain⟨p1,p2,p3,p4,p5⟩:=NY [a] r 1 rfl (by simp at hl ⊢;omega) A8;simp only[Y6,F6]at p1 p2 p3 p4 p5;have:=zO (a::r);have:=kz r;simp only[G8]at hl;rw[show push n (a::r)= .inr (.l1 n a::r) by simp[push,h],h,gX o5,o7,show(1:Int)=((1:Nat):Int)from rfl,Ec,show decide ((a::r).length<1)=false by simp];simp only[Int.natCast_one]at p1 ⊢;rw[o7,iM o5,o6,p1,p2,D5,p3,D5,p4,o6,p5,mW _ o5,D5,mW _ o5,D5,dL o5];rw[show kE r++[(fF r:Int)]=kE (.l1 n a::r)from rfl,Pn];by_cases hc:12<(XT.l1 n a::r).length
    .simp only[hc,decide_true,if_true,o6]
    .simp only[hc,decide_false,if_false,o7,stR,XT.sts,G7,fF,XT.size,dJ]
  .match ts with
   |[]=>rw[show push n []= .inl 5 by simp[push,h],h];rfl|[a]=>rw[show push n [a]= .inl 5 by simp[push,h],h];rfl|b::a::r=>
    obtain⟨p1,p2,p3,p4,p5⟩:=NY [b,a] r 2 rfl (by simp at hl ⊢;omega) A8;simp only[Y6,F6]at p1 p2 p3 p4 p5;have:=zO (b::a::r);have:=kz r;simp only[G8]at hl;rw[show push n (b::a::r)= .inr (.l2 n a b::r) by simp[push,h],h,gX o5,o7,show(2:Int)=((2:Nat):Int)from rfl,Ec,show decide ((b::a::r).length<2)=false by simp];rw[o7,iM o5,o6,show((2:Nat):Int)=2 from rfl,p1,p2,D5,p3,D5,p4,o6,p5,mW _ o5,D5,mW _ o5,D5,dL o5];rw[show kE r++[(fF r:Int)]=kE (.l2 n a b::r)from rfl,Pn];by_cases hc:12<(XT.l2 n a b::r).length
    .simp only[hc,decide_true,if_true,o6]
    .simp only[hc,decide_false,if_false,o7,stR,XT.sts,G7,fF,XT.size,dJ]
  .match ts with
   |[]=>rw[show push n []= .inl 5 by simp[push,h],h];rfl|[a]=>rw[show push n [a]= .inl 5 by simp[push,h],h];rfl|[b,a]=>rw[show push n [b,a]= .inl 5 by simp[push,h],h];rfl|c::b::a::r=>
    obtain⟨p1,p2,p3,p4,p5⟩:=NY [c,b,a] r 3 rfl (by simp at hl ⊢;omega) A8;simp only[Y6,F6]at p1 p2 p3 p4 p5;have:=zO (c::b::a::r);have:=kz r;simp only[G8]at hl;rw[show push n (c::b::a::r)= .inr (.l3 n a b c::r) by simp[push,h],h,gX o5,o7,show(3:Int)=((3:Nat):Int)from rfl,Ec,show decide ((c::b::a::r).length<3)=false by simp];rw[o7,iM o5,o6,show((3:Nat):Int)=3 from rfl,p1,p2,D5,p3,D5,p4,o6,p5,mW _ o5,D5,mW _ o5,D5,dL o5];rw[show kE r++[(fF r:Int)]=kE (.l3 n a b c::r)from rfl,Pn];by_cases hc:12<(XT.l3 n a b c::r).length
    .simp only[hc,decide_true,if_true,o6]
    .simp only[hc,decide_false,if_false,o7,stR,XT.sts,G7,fF,XT.size,dJ]
 .simp only[hsz,J8];rfl
def pd(l:c2g)(k:Nat):c2g:=l++List.replicate k 0
theorem a3y(l:c2g)(m:Nat):J7 (pd l (m+1)) (l.length:Int)=some 0:=by rw[I9];unfold pd;rw[J4 o5,jg];rfl
theorem a7g(l:c2g)(m:Nat):X0 (pd l (m+1)) (P6 (l.length:Int))=some 0:=by have:=a3y l m;rw[I9]at this;exact this
theorem a8O(l:c2g)(m:Nat)(v:Int):ay (pd l (m+1)) (P6 (l.length:Int)) v=pd (l++[v]) m:=by show(l++List.replicate (m+1) 0).set l.length v=_;rw[mD _ _ o5,jg,List.replicate_succ];simp[pd]
theorem Qw(l:c2g)(m:Nat)(v w:Int):ay (pd (l++[v]) m) (P6 (l.length:Int)) w=pd (l++[w]) m:=by show(l++[v]++List.replicate m 0).set l.length w=_;rw[G7,mD _ _ o5,jg];simp[pd]
theorem Me(l:c2g)(m:Nat)(v:Int):J7 (pd (l++[v]) m) (l.length:Int)=some v:=by rw[I9];unfold pd;rw[G7,J4 o5,jg];rfl
theorem MB(l:c2g)(m:Nat)(v:Int):X0 (pd (l++[v]) m) (P6 (l.length:Int))=some v:=by have:=Me l m v;rw[I9]at this;exact this
theorem Xf(e:List (Int×Int)):qV e=some (wZ e):=by
 unfold qV;by_cases h48:48<e.length
 .rw[iM (by simp[o8];omega),o6];unfold wZ nZ;rw[if_pos h48]
 by_cases h0:e.length=0
 .rw[gX (by simp[o8];omega),o7,iw (by simp[o8,h0]),o6];unfold wZ nZ;rw[if_neg h48,if_pos h0]
 rw[gX (by simp[o8];omega),o7,kJ (by simp[o8];intro h;exact h0 (by simp[h])),o7];rw[show yJ (o8 e) (0:Int)=some (pd (stR []) (e.length -fF [])) by simp[yJ,o8,pd,stR,fF];omega,D5];refine Y3 (PX e o5 (λts=>(pd (stR ts) (e.length -fF ts),kE ts,(fF ts:Int))) (λts=>(pd (stR ts) (e.length -fF ts),kE ts)) (λx=>(([]:c2g),x)) (λi n ts hn hi hl=>?_) (λts hsz=>?_)) ?_
 rotate_left 2
 .rw[←Vs h0 h48 (K:=id) (r:=match qE 0 e []with| .inl x=>([],x)| .inr ts=>l7 (F9 1 (o8 (kE ts))) ([],o8 e,4) (stR ts,0,0)) (λts h=>by rw[h]) (λx h=>by rw[h])];cases hp:qE 0 e []with
  |inl x=>rfl|inr ts=>
   have:=(Fj e 0 [] ts hp).1;have hz:e.length -fF ts=0:=by have:=congrArg List.length this;rw[Jd]at this;simp[Gv]at this;omega
   simp only[D5,Z9,hz,pd,List.replicate_zero,G6];cases F9 1 (o8 (kE ts))<;>rfl
 .subst hi;have hlt:=(aF.1 hn).1;have hst:=zO ts;have hof:=kz ts;obtain⟨m,hm⟩:∃m,e.length -fF ts=m+1:=⟨e.length -fF ts -1,o5⟩;simp only[J9 hn,o6,I9 e,hn,D5,a7Y,hm];rw[←hst];simp only[a3y,a7g,D5,a8O,Me,MB,Qw];rw[hst];rcases(KY n.1).2.2 with h|h|h|h|h
  .rw[show push n ts= .inl 2 by simp[push,h],h];rfl
  .have e0:O0 .i64 (o8 (kE ts)) 0=((kE ts).length:Int):=by rw[RU (by unfold I64 o8;omega)];simp[o8]
   rw[show push n ts= .inr (.l0 n::ts) by simp[push,h],h,gX o5,o7,gX (Pq _),o7,o7,e0,show mM 0 ((kE ts).length:Int) (o8 (kE ts))=true by simp[mM,o8],o6,
    show jK (kE ts) (P6 0) (P6 ((kE ts).length:Int))=kE ts by simp[jK,P6],mW _ o5,D5,dL o5]
   rw[show kE ts++[(fF ts:Int)]=kE (.l0 n::ts)from rfl,Pn];by_cases hc:12<(XT.l0 n::ts).length
   .simp only[hc,decide_true,if_true,o6]
   .simp only[hc,decide_false,if_false,o7,fF,XT.size,stR,XT.sts,show e.length -(fF ts+1)=m by omega]
  .match ts with
   |[]=>rw[show push n []= .inl 5 by simp[push,h],h];rfl|a::r=>
    obtain⟨p1,p2,p3,p4,p5⟩:=NY [a] r 1 rfl (by simp at hl ⊢;omega) A8;simp only[Y6,F6]at p1 p2 p3 p4 p5;have:=zO (a::r);have:=kz r;simp only[G8]at hl;rw[show push n (a::r)= .inr (.l1 n a::r) by simp[push,h],h,gX o5,o7,show(1:Int)=((1:Nat):Int)from rfl,Ec,show decide ((a::r).length<1)=false by simp];simp only[Int.natCast_one]at p1 ⊢;rw[o7,iM o5,o6,p1,p2,D5,p3,D5,p4,o6,p5];rw[←hst]
    try simp only[Qw,Me,MB,D5]
    rw[hst,mW _ o5,D5,dL o5];rw[show kE r++[(fF r:Int)]=kE (.l1 n a::r)from rfl,Pn];have hz:=Jf (show push n (a::r)= .inr (.l1 n a::r) by simp[push,h]);by_cases hc:12<(XT.l1 n a::r).length
    .simp only[hc,decide_true,if_true,o6]
    .simp only[hc,decide_false,if_false,o7,hz,show e.length -(fF (a::r)+1)=m by omega,stR,XT.sts,G7]
  .match ts with
   |[]=>rw[show push n []= .inl 5 by simp[push,h],h];rfl|[a]=>rw[show push n [a]= .inl 5 by simp[push,h],h];rfl|b::a::r=>
    obtain⟨p1,p2,p3,p4,p5⟩:=NY [b,a] r 2 rfl (by simp at hl ⊢;omega) A8;simp only[Y6,F6]at p1 p2 p3 p4 p5;have:=zO (b::a::r);have:=kz r;simp only[G8]at hl;rw[show push n (b::a::r)= .inr (.l2 n a b::r) by simp[push,h],h,gX o5,o7,show(2:Int)=((2:Nat):Int)from rfl,Ec,show decide ((b::a::r).length<2)=false by simp];rw[o7,iM o5,o6,show((2:Nat):Int)=2 from rfl,p1,p2,D5,p3,D5,p4,o6,p5];rw[←hst]
    try simp only[Qw,Me,MB,D5]
    rw[hst,mW _ o5,D5,dL o5];rw[show kE r++[(fF r:Int)]=kE (.l2 n a b::r)from rfl,Pn];have hz:=Jf (show push n (b::a::r)= .inr (.l2 n a b::r) by simp[push,h]);by_cases hc:12<(XT.l2 n a b::r).length
    .simp only[hc,decide_true,if_true,o6]
    .rw[hz,show e.length -(fF (b::a::r)+1)=m by omega,show stR (.l2 n a b::r)=stR (b::a::r)++[(fF r:Int)] by simp only[stR,XT.sts,G7,fF]];simp only[hc,decide_false,if_false,o7]
  .match ts with
   |[]=>rw[show push n []= .inl 5 by simp[push,h],h];rfl|[a]=>rw[show push n [a]= .inl 5 by simp[push,h],h];rfl|[b,a]=>rw[show push n [b,a]= .inl 5 by simp[push,h],h];rfl|c::b::a::r=>
    obtain⟨p1,p2,p3,p4,p5⟩:=NY [c,b,a] r 3 rfl (by simp at hl ⊢;omega) A8;simp only[Y6,F6]at p1 p2 p3 p4 p5;have:=zO (c::b::a::r);have:=kz r;simp only[G8]at hl;rw[show push n (c::b::a::r)= .inr (.l3 n a b c::r) by simp[push,h],h,gX o5,o7,show(3:Int)=((3:Nat):Int)from rfl,Ec,show decide ((c::b::a::r).length<3)=false by simp];rw[o7,iM o5,o6,show((3:Nat):Int)=3 from rfl,p1,p2,D5,p3,D5,p4,o6,p5];rw[←hst]
    try simp only[Qw,Me,MB,D5]
    rw[hst,mW _ o5,D5,dL o5];rw[show kE r++[(fF r:Int)]=kE (.l3 n a b c::r)from rfl,Pn];have hz:=Jf (show push n (c::b::a::r)= .inr (.l3 n a b c::r) by simp[push,h]);by_cases hc:12<(XT.l3 n a b c::r).length
    .simp only[hc,decide_true,if_true,o6]
    .rw[hz,show e.length -(fF (c::b::a::r)+1)=m by omega,show stR (.l3 n a b c::r)=stR (c::b::a::r)++[(fF r:Int)] by simp only[stR,XT.sts,G7,fF]];simp only[hc,decide_false,if_false,o7]
 .simp only[hsz,J8];rfl
end Go.GP
namespace Go.GP
open Gt
set_option maxRecDepth 100000
def VT(t:Int×Int):Prop:=t=(1,0)\/t=(2,0)\/t=(3,0)\/t=(4,0)\/t=(5,0)\/∃e,t=(6,e)
theorem IE{t:Int×Int}{en:List cZ}(h:vty t en=true):VT t:=by
 obtain⟨k,e⟩:=t;unfold vty at h;simp only at h;cases h6:x9 k 6
 .rw[h6,o7]at h;cases h1:U4 1 k<;>rw[h1]at h
  .cases h
  cases h5:U4 k 5<;>rw[h5]at h
  .cases h
  simp only[o6,gW]at h;rw[zH]at h1 h5;subst h;have:k=1\/k=2\/k=3\/k=4\/k=5:=o5;rcases this with rfl|rfl|rfl|rfl|rfl<;>simp[VT]
 .rw[gW]at h6;subst h6;exact .inr (.inr (.inr (.inr (.inr ⟨e,rfl⟩))))
def EN(n:Int×Int)(ops:List (Int×Int))(sg:O7):Option ((Int×Int)×Int):=
 l7 (E5 (x9 n.2 0)) (l9 (jb n.1) λu=>l7 (E5 u) (some ((0,0),2)) (aP n ops sg)) (aP n ops sg)
def pJ(n:Int×Int)(ops:List (Int×Int))(sg:O7):Prop:=∃r:(Int×Int)×Int,rZ n ops sg=some r/\EN n ops sg=some r/\(r.2=0->VT r.1)
variable {k:Int}
theorem VT.lit(h:1<=k/\k<=5):VT (k,0):=by have:k=1\/k=2\/k=3\/k=4\/k=5:=o5;rcases this with rfl|rfl|rfl|rfl|rfl<;>simp[VT]
theorem Lt(a b:Int):U4 a b= !F9 b a:=by simp only[F9,U4];rw[←decide_not];congr 1;simp
theorem CG{α β:Type}(o:Option β)(f:α->Option β):l9 (l9 o λx=>some (Sum.inr x)) (λq=>U3 q f λr=>some r)=o:=by cases o<;>rfl
theorem VT.enum(e:Int):VT (6,e):=.inr (.inr (.inr (.inr (.inr ⟨e,rfl⟩))))
theorem nJ{R E:Option ((Int×Int)×Int)}{c:Int}(hc:c≠0)(h1:R=some ((0,0),c))(h2:E=some ((0,0),c)):∃r:(Int×Int)×Int,R=some r/\E=some r/\(r.2=0->VT r.1):=⟨_,h1,h2,λh=>absurd h hc⟩
theorem nok{R E:Option ((Int×Int)×Int)}{t:Int×Int}(hv:VT t)(h1:R=some (t,0))(h2:E=some (t,0)):∃r:(Int×Int)×Int,R=some r/\E=some r/\(r.2=0->VT r.1):=⟨_,h1,h2,λ_=>hv⟩
def RR(a0:Int×Int)(a1:List (Int×Int))(a2:O7):Option ((Int×Int)×Int):=
 l9 (pU a0 a2) λ(x:Bool)=>l7 (E5 x) (some ((0,0),3)) (l9 (rD a0 a2) λ(x:Bool)=>l7 (E5 x) (some ((0,0),6))
  (l7 (x9 (o8 a1) 0) (l9 (jJ a0 a2) λ(x:vV×Bool)=>l7 (E5 x.2) (some ((0,0),8)) (some (x.1,0)))
  (l7 (x9 (o8 a1) 1) (l9 (J7 a1 0) λ(x:vV)=>l9 (pV a0 x a2) λ(x:vV×Bool)=>l7 (E5 x.2) (some ((0,0),8)) (some (x.1,0)))
  (l7 (x9 (o8 a1) 2) (l9 (J7 a1 0) λ(x:vV)=>l9 (J7 a1 1) λ(x_1:vV)=>l9 (su a0.1 x x_1) λ(x:vV×Bool)=>l7 (E5 x.2) (some ((0,0),8)) (some (x.1,0)))
  (l9 (J7 a1 1) λ(x:vV)=>l9 (J7 a1 0) λ(x_1:vV)=>l7 (x9 x_1.1 1) (l9 (J7 a1 1) λ(x_2:vV)=>l9 (J7 a1 2) λ(x_3:vV)=>
   l7 (E5 (eY (x9 x_2.1 x_3.1) (x9 x_2.2 x_3.2))) (some ((0,0),8)) (some (x,0))) (l7 (E5 false) (some ((0,0),8)) (some (x,0))))))))
theorem b2A(n:Int×Int)(ops:List (Int×Int))(sg:O7):rZ n ops sg=l7 (E5 (x9 n.2 0)) (l9 (fZ n.1) λx=>l7 x (RR n ops sg) (some ((0,0),2))) (RR n ops sg):=by
 unfold rZ;cases x9 n.2 0
 .simp only[dO,o6];cases fZ n.1 with
  |none=>rfl|some b=>cases b<;>rfl
 .rfl
theorem Hy{op N:Int}{ops:List (Int×Int)}{sg:O7}(h1:jb op=some true)(h2:fZ op=some true)
  (h:∃r:(Int×Int)×Int,RR (op,N) ops sg=some r/\aP (op,N) ops sg=some r/\(r.2=0->VT r.1)):pJ (op,N) ops sg:=by
 unfold pJ;rw[b2A];unfold EN;dsimp only;rw[h1,h2];cases x9 N 0<;>exact h
theorem NS{op N:Int}{ops:List (Int×Int)}{sg:O7}(h1:jb op=some false)(h2:fZ op=some false)
  (h:∃r:(Int×Int)×Int,RR (op,0) ops sg=some r/\aP (op,0) ops sg=some r/\(r.2=0->VT r.1)):pJ (op,N) ops sg:=by
 unfold pJ;rw[b2A];unfold EN;dsimp only;rw[h1,h2];cases hz:x9 N 0
 .exact nJ (c:=2) I8 rfl rfl
 .rw[gW]at hz;subst hz;exact h
section
variable (N:Int) (sg:O7)
theorem a3k(hk:k=1\/k=2\/k=3\/k=4\/k=5):pJ (k,N) [] sg:=by
 have hv:vty (k,0) sg.1=true:=by rcases hk with rfl|rfl|rfl|rfl|rfl<;>rfl
 have hm:jb k=some true/\fZ k=some true:=by rcases hk with rfl|rfl|rfl|rfl|rfl<;>exact⟨rfl,rfl⟩
 refine Hy hm.1 hm.2 ?_;have key:aP (k,N) [] sg=iL N k sg:=by rcases hk with rfl|rfl|rfl|rfl|rfl<;>exact CG _ _
 have key2:RR (k,N) [] sg=l9 (l9 (iF (k,0) sg.1) λ(x:vV)=>l7 (U4 x.1 N) (some (U4 N x.2)) (some false)) λ(x:Bool)=>l7 (E5 x) (some ((0,0),3)) (some ((k,0),0)):=by rcases hk with rfl|rfl|rfl|rfl|rfl<;>rfl
 rw[key,key2];unfold iL;rw[UL,KD,D5,D5,zI,zI];cases U4 (bnd (k,0) sg.1).1 N
 .exact nJ (c:=3) I8 rfl rfl
 cases U4 N (bnd (k,0) sg.1).2
 .exact nJ (c:=3) I8 rfl rfl
 .exact nok (IE hv) rfl rfl
theorem a1O(hN:I64 N):pJ (6,N) [] sg:=by
 have hq:0<=N->iO .i64 N 16=N / 16:=λh=>by rw[XN (by rw[Nc h];unfold I64 at*;omega),Nc h]
 refine Hy rfl rfl ?_;have hf:rD (6,N) sg=l7 (F9 (iO .i64 N 16) (o8 sg.1)) (l9 (J7 sg.1 (iO .i64 N 16)) λ(x:cZ)=>some (F9 (qA N 16) (o8 x.2))) (some false):=rfl;have hl:jJ (6,N) sg=some ((6,iO .i64 N 16),vty (6,iO .i64 N 16) sg.1):=by unfold jJ;simp only[gp];rfl
 rw[show aP (6,N) [] sg=yh N sg from CG _ _];unfold RR yh;rw[hf,show pU (6,N) sg=some (U4 0 N)from rfl,hl];by_cases h0:0<=N
 .rw[gX h0,oG h0,hq h0];by_cases h1:N / 16<o8 sg.1
  .obtain⟨x,hx,_⟩:=yY (show 0<=N / 16 by omega) h1;rw[iM h1,oD h1,hx,show vty (6,N / 16) sg.1=true by unfold vty;simp only[oG (show 0<=N / 16 by omega),iM h1];rfl];simp only[D5,zI];cases U4 (o8 x.2) (qA N 16)
   .exact nok (VT.enum (N / 16)) rfl rfl
   .exact nJ (c:=6) I8 rfl rfl
  .have h1' :o8 sg.1<=N / 16:=o5;rw[gX h1',oG h1'];exact nJ (c:=6) I8 rfl rfl
 .rw[iM (show N<0 by omega),oD (show N<0 by omega)];exact nJ (c:=3) I8 rfl rfl
theorem wJ(ts:List (Int×Int))(en:O7):(∃x,J7 ts N=some x/\U4 0 N=true/\F9 N (o8 ts)=true/\iD N ts en=some (l7 (vty x en.1) (x,0) ((0,0),8)))\/((U4 0 N=false\/U4 0 N=true/\F9 N (o8 ts)=false)/\iD N ts en=some ((0,0),6)):=by
 unfold iD;rw[zI N 0,Lt (o8 ts) N];cases h0:U4 0 N
 .exact .inr ⟨.inl A8,rfl⟩
 cases h1:F9 N (o8 ts)
 .exact .inr ⟨.inr A8,rfl⟩
 rw[zH]at h0;rw[wB]at h1;obtain⟨x,hx,_⟩:=yY h0 h1;rw[hx];simp only[iG,Bool.not_false,o7,o6,D5,tH];exact .inl ⟨x,rfl,A8,A8,by cases vty x en.1<;>rfl⟩
theorem a6U:pJ (7,N) [] sg:=by
 refine Hy rfl rfl ?_;rw[show aP (7,N) [] sg=iD N sg.2.2.1 sg from CG _ _];have hf:rD (7,N) sg=l7 (U4 0 N) (some (F9 N (o8 sg.2.2.1))) (some false):=rfl;unfold RR;rw[hf,show pU (7,N) sg=some true from rfl];rcases wJ N sg.2.2.1 sg with⟨x,h1,h2,h3,h4⟩|⟨h1|⟨h1,h2⟩,h4⟩
 .have hl:jJ (7,N) sg=some (x,vty x sg.1):=by
   unfold jJ;dsimp only;rw[h1];simp only[gp];rfl
  rw[h2,h3,h4,hl];cases hv:vty x sg.1
  .exact nJ (c:=8) I8 rfl rfl
  .exact nok (IE hv) rfl rfl
 .rw[h1,h4];exact nJ (c:=6) I8 rfl rfl
 .rw[h1,h2,h4];exact nJ (c:=6) I8 rfl rfl
theorem a3j:pJ (8,N) [] sg:=by
 refine Hy rfl rfl ?_;rw[show aP (8,N) [] sg=iD N sg.2.2.2.1 sg from CG _ _];have hf:rD (8,N) sg=l7 (U4 0 N) (some (F9 N (o8 sg.2.2.2.1))) (some false):=rfl;unfold RR;rw[hf,show pU (8,N) sg=some true from rfl];rcases wJ N sg.2.2.2.1 sg with⟨x,h1,h2,h3,h4⟩|⟨h1|⟨h1,h2⟩,h4⟩
 .have hl:jJ (8,N) sg=some (x,vty x sg.1):=by
   unfold jJ;dsimp only;rw[h1];simp only[gp];rfl
  rw[h2,h3,h4,hl];cases hv:vty x sg.1
  .exact nJ (c:=8) I8 rfl rfl
  .exact nok (IE hv) rfl rfl
 .rw[h1,h4];exact nJ (c:=6) I8 rfl rfl
 .rw[h1,h2,h4];exact nJ (c:=6) I8 rfl rfl
theorem a1N:pJ (9,N) [] sg:=NS rfl rfl (nok (VT.lit (k:=5) o5) rfl rfl)
theorem ZV:pJ (35,N) [] sg:=by
 refine NS rfl rfl ?_;rw[show aP (35,0) [] sg=ng (35,0) sg from CG _ _];unfold RR ng;simp only[pU,rD,jJ,gp,D5];cases sg.2.2.2.2.2
 .exact nJ (c:=6) I8 rfl rfl
 .exact nok (VT.lit (k:=2) o5) rfl rfl
theorem a3l(hk:k=36\/k=37\/k=38\/k=39):pJ (k,N) [] sg:=by
 have hm:jb k=some true/\fZ k=some true/\x9 k 35=false:=by rcases hk with rfl|rfl|rfl|rfl<;>exact⟨rfl,rfl,rfl⟩
 refine Hy hm.1 hm.2.1 ?_;rw[show aP (k,N) [] sg=ng (k,N) sg by rcases hk with rfl|rfl|rfl|rfl<;>exact CG _ _];have hr:RR (k,N) [] sg=l9 (l7 sg.2.2.2.2.2 (l7 (U4 0 N) (some (F9 N (o8 sg.2.2.2.2.1))) (some false)) (some false)) λ(x:Bool)=>l7 (E5 x) (some ((0,0),6))
   (l9 (jJ (k,N) sg) λ(x:vV×Bool)=>l7 (E5 x.2) (some ((0,0),8)) (some (x.1,0))):=by rcases hk with rfl|rfl|rfl|rfl<;>rfl
 rw[hr];unfold ng;rw[hm.2.2,o7];cases sg.2.2.2.2.2
 .exact nJ (c:=6) I8 rfl rfl
 simp only[o6,P7,o7];rcases wJ N sg.2.2.2.2.1 sg with⟨x,h1,h2,h3,h4⟩|⟨h1|⟨h1,h2⟩,h4⟩
 .rw[h2,h3,h4];have hl:jJ (k,N) sg=l9 (some (l7 (x9 k 36) (l7 (vty x sg.1) (l7 (x9 x.1 2) true (x9 x.1 3)) false) (l7 (x9 k 39) (l7 (vty x sg.1) (l7 (x9 x.1 2) true (l7 (x9 x.1 3) true (l7 (x9 x.1 4) true (x9 x.1 5)))) false) (l7 (vty x sg.1) (x9 x.1 1) false)))) λb=>some (x,b):=by
   unfold jJ;simp only[gp,nS,sD];rcases hk with rfl|rfl|rfl|rfl<;>(rw[h1];simp only[x9,Int.reduceEq,decide_true,decide_false,o6,o7,D5];cases vty x sg.1<;>cases decide (x.1=2)<;>cases decide (x.1=3)<;>cases decide (x.1=4)<;>rfl)
  rw[hl];simp only[D5,jM];cases hv:vty x sg.1
  .rcases hk with rfl|rfl|rfl|rfl<;>exact nJ (c:=8) I8 rfl rfl
  .have hx:=IE hv;rcases hk with rfl|rfl|rfl|rfl<;>rcases hx with rfl|rfl|rfl|rfl|rfl|⟨e,rfl⟩ <;>
    first
    |exact nok (IE hv) rfl rfl
    |exact nJ (c:=8) I8 rfl rfl
 .rw[h1,h4];exact nJ (c:=6) I8 rfl rfl
 .rw[h1,h2,h4];exact nJ (c:=6) I8 rfl rfl
end
end Go.GP
namespace Go.GP
open Gt
set_option maxRecDepth 100000
variable {a:Int×Int}{k:Int}{b:Int×Int}
section
variable (N:Int) (sg:O7)
theorem a6V(hk:k=10\/k=25\/k=31\/k=32)(ha:VT a):pJ (k,N) [a] sg:=by
 have hm:jb k=some false/\fZ k=some false:=by rcases hk with rfl|rfl|rfl|rfl<;>exact⟨rfl,rfl⟩
 refine NS hm.1 hm.2 ?_;rcases hk with rfl|rfl|rfl|rfl<;>rcases ha with rfl|rfl|rfl|rfl|rfl|⟨e,rfl⟩ <;>
  first
  |exact nok (VT.lit (k:=1) o5) rfl rfl
  |exact nok (VT.lit (k:=2) o5) rfl rfl
  |exact nok (VT.lit (k:=3) o5) rfl rfl
  |exact nok (VT.lit (k:=4) o5) rfl rfl
  |exact nJ (c:=8) I8 rfl rfl
theorem a3i(hk:k=13\/k=23\/k=24\/k=27\/k=28\/k=29\/k=30)(ha:VT a)(hb:VT b):pJ (k,N) [a,b] sg:=by
 have hm:jb k=some false/\fZ k=some false:=by rcases hk with rfl|rfl|rfl|rfl|rfl|rfl|rfl<;>exact⟨rfl,rfl⟩
 refine NS hm.1 hm.2 ?_;rcases hk with rfl|rfl|rfl|rfl|rfl|rfl|rfl<;>rcases ha with rfl|rfl|rfl|rfl|rfl|⟨e,rfl⟩<;>rcases hb with rfl|rfl|rfl|rfl|rfl|⟨f,rfl⟩ <;>
  first
  |exact nJ (c:=8) I8 rfl rfl
  |exact nok (VT.lit (k:=1) o5) rfl rfl
  |exact nok (VT.lit (k:=2) o5) rfl rfl
  |exact nok (VT.lit (k:=3) o5) rfl rfl
  |exact nok (VT.lit (k:=4) o5) rfl rfl
  |exact nok (VT.lit (k:=5) o5) rfl rfl
theorem a1P(hk:k=14\/k=15\/k=16)(ha:VT a)(hb:VT b):pJ (k,N) [a,b] sg:=by
 have hm:jb k=some true/\fZ k=some true:=by rcases hk with rfl|rfl|rfl<;>exact⟨rfl,rfl⟩
 refine Hy hm.1 hm.2 ?_;have hr:RR (k,N) [a,b] sg=l9 (l7 (U4 0 N) (some (U4 N 5)) (some false)) λx=>l7 (E5 x) (some ((0,0),3)) (l9 (su k a b) λx=>l7 (E5 x.2) (some ((0,0),8)) (some (x.1,0))):=by rcases hk with rfl|rfl|rfl<;>rfl
 have he:aP (k,N) [a,b] sg=l9 (l7 (U4 0 N) (some (U4 N 5)) (some false)) λx=>l7 (E5 x) (some ((0,0),3)) (l9 (kU k [a,b]) λx=>l7 (E5 x.2) (some ((0,0),8)) (some (x.1,0))):=by
  rcases hk with rfl|rfl|rfl <;>
   (show l9 (l9 (jV N) λx=>l7 (E5 x) (some (Sum.inr (((0:Int),(0:Int)),(3:Int)))) (some (.inl ((0:Int),(0:Int))))) _=_
    unfold jV;cases U4 0 N<;>cases U4 N 5<;>rfl)
 rw[hr,he];cases U4 0 N
 .exact nJ (c:=3) I8 rfl rfl
 cases U4 N 5
 .exact nJ (c:=3) I8 rfl rfl
 rcases hk with rfl|rfl|rfl<;>rcases ha with rfl|rfl|rfl|rfl|rfl|⟨e,rfl⟩<;>rcases hb with rfl|rfl|rfl|rfl|rfl|⟨f,rfl⟩ <;>
  first
  |exact nJ (c:=8) I8 rfl rfl
  |exact nok (VT.lit (k:=2) o5) rfl rfl
  |exact nok (VT.lit (k:=3) o5) rfl rfl
  |exact nok (VT.lit (k:=4) o5) rfl rfl
theorem a1Q(hk:k=11\/k=12\/k=17\/k=18\/k=19\/k=20\/k=21\/k=22)(ha:VT a):pJ (k,N) [a,b] sg:=by
 have hm:jb k=some false/\fZ k=some false:=by rcases hk with rfl|rfl|rfl|rfl|rfl|rfl|rfl|rfl<;>exact⟨rfl,rfl⟩
 refine NS hm.1 hm.2 ?_;have hr:RR (k,0) [a,b] sg=l9 (su k a b) λx=>l7 (E5 x.2) (some ((0,0),8)) (some (x.1,0)):=by rcases hk with rfl|rfl|rfl|rfl|rfl|rfl|rfl|rfl<;>rfl
 have he:aP (k,0) [a,b] sg=l9 (kU k [a,b]) λx=>l7 (E5 x.2) (some ((0,0),8)) (some (x.1,0)):=by rcases hk with rfl|rfl|rfl|rfl|rfl|rfl|rfl|rfl<;>rfl
 rw[hr,he];unfold su kU;simp only[show J7 [a,b] 0=some a from rfl,show J7 [a,b] 1=some b from rfl,D5,sD,nS,fP,jM];cases h1:x9 a.1 b.1
 .rcases hk with rfl|rfl|rfl|rfl|rfl|rfl|rfl|rfl<;>exact nJ (c:=8) I8 rfl rfl
 cases h2:x9 a.2 b.2
 .rcases hk with rfl|rfl|rfl|rfl|rfl|rfl|rfl|rfl<;>exact nJ (c:=8) I8 rfl rfl
 have ha' :=ha;rcases hk with rfl|rfl|rfl|rfl|rfl|rfl|rfl|rfl<;>rcases ha with rfl|rfl|rfl|rfl|rfl|⟨e,rfl⟩ <;>
  first
  |exact nok ha' rfl rfl
  |exact nok (VT.lit (k:=1) o5) rfl rfl
  |exact nJ (c:=8) I8 rfl rfl
theorem a6T{a b c:Int×Int}(ha:VT a)(hb:VT b):pJ (26,N) [a,b,c] sg:=by
 refine NS rfl rfl ?_;have hr:RR (26,0) [a,b,c] sg=l7 (x9 a.1 1) (l7 (E5 (eY (x9 b.1 c.1) (x9 b.2 c.2))) (some ((0,0),8)) (some (b,0))) (some ((0,0),8)):=rfl;have he:aP (26,0) [a,b,c] sg=l9 (kU 26 [a,b,c]) λx=>l7 (E5 x.2) (some ((0,0),8)) (some (x.1,0)):=rfl;have he2:kU 26 [a,b,c]=l9 (l7 (x9 a.1 1) (some (Sum.inr (b,eY (x9 b.1 c.1) (x9 b.2 c.2)))) (some (Sum.inr (b,false)))) λ(o:vV⊕vV×Bool)=>U3 o (λ(x:vV)=>some ((0,0),false)) λ(r:vV×Bool)=>some r:=rfl;rw[hr,he,he2];cases x9 a.1 1
 .exact nJ (c:=8) I8 rfl rfl
 cases x9 b.1 c.1
 .exact nJ (c:=8) I8 rfl rfl
 cases x9 b.2 c.2
 .exact nJ (c:=8) I8 rfl rfl
 .exact nok hb rfl rfl
theorem Yg(ha:VT a):pJ (33,N) [a] sg:=by
 refine Hy rfl rfl ?_;have he:aP (33,N) [a] sg=oz (33,N) a sg:=CG _ _;have hr:RR (33,N) [a] sg=l9 (l7 (U4 0 N) (some (F9 N (o8 sg.2.1))) (some false)) λx=>l7 (E5 x) (some ((0,0),6)) (l9 (pV (33,N) a sg) λx=>l7 (E5 x.2) (some ((0,0),8)) (some (x.1,0))):=rfl;have hs:pV (33,N) a sg=l9 (J7 sg.2.1 N) λ(x:Z7)=>l9 (aO x.2.1 sg.1) λ(x_1:Bool)=>l7 x_1 (l9 (aO x.2.2.1 sg.1) λ(x_2:Bool)=>l7 x_2 (some (x.2.2.1,eY (x9 a.1 x.2.1.1) (x9 a.2 x.2.1.2))) (some (x.2.2.1,false))) (some (x.2.2.1,false)):=rfl;rw[he,hr,hs];unfold oz;simp only[x9,Int.reduceEq,decide_false,o7,D5,Z9,zI N 0,Lt (o8 sg.2.1) N];cases h0:U4 0 N
 .exact nJ (c:=6) I8 rfl rfl
 cases h1:F9 N (o8 sg.2.1)
 .exact nJ (c:=6) I8 rfl rfl
 rw[zH]at h0;rw[wB]at h1;obtain⟨x,hx,_⟩:=yY h0 h1;simp only[D5,Z9,iG,o7,hx,tH,gp,dO,o6];cases vty x.2.1 sg.1
 .exact nJ (c:=8) I8 rfl rfl
 cases hv:vty x.2.2.1 sg.1
 .exact nJ (c:=8) I8 rfl rfl
 simp only[P7,o7,o6,D5];cases eY (decide (a.1=x.2.1.1)) (decide (a.2=x.2.1.2))
 .exact nJ (c:=8) I8 rfl rfl
 .exact nok (IE hv) rfl rfl
theorem Uu(hN:I64 N)(ha:VT a):pJ (34,N) [a] sg:=by
 refine Hy rfl rfl ?_;have he:aP (34,N) [a] sg=oz (34,N) a sg:=CG _ _;have hr:RR (34,N) [a] sg=l9 (l7 (U4 0 N) (some (U4 (qA N 8) 5)) (some false)) λx=>l7 (E5 x) (some ((0,0),3)) (l7 (E5 (F9 (iO .i64 N 8) (o8 sg.2.1))) (some ((0,0),6)) (l9 (pV (34,N) a sg) λx=>l7 (E5 x.2) (some ((0,0),8)) (some (x.1,0)))):=rfl;have hs:pV (34,N) a sg=l9 (J7 sg.2.1 (iO .i64 N 8)) λ(x:Z7)=>l7 (x9 a.1 3) (l7 (eY (x9 x.2.1.1 3) (x9 x.2.1.2 0)) (some (a,eY (x9 x.2.2.1.1 4) (x9 x.2.2.1.2 0))) (some (a,false))) (some (a,false)):=rfl;rw[he,hr,hs];unfold oz jV;by_cases h0:0<=N
 case neg=>rw[oD (show N<0 by omega),iM (show N<0 by omega)];exact nJ (c:=3) I8 rfl rfl
 have hq:iO .i64 N 8=N / 8:=by rw[XN (by rw[Nc h0];unfold I64 at*;omega),Nc h0]
 rw[oG h0,gX h0,hq,a2Y h0];simp only[x9,Int.reduceEq,decide_true,o6,o7,oG (show 0<=N % 8 by omega),D5];cases U4 (N % 8) 5
 .exact nJ (c:=3) I8 rfl rfl
 simp only[P7,o7,D5,Z9,gX (show 0<=N / 8 by omega),Lt];cases h1:F9 (N / 8) (o8 sg.2.1)
 .exact nJ (c:=6) I8 rfl rfl
 rw[wB]at h1;obtain⟨x,hx,_⟩:=yY (show 0<=N / 8 by omega) h1;simp only[hx,iG,o7,D5,Z9,tH,P7];obtain⟨nm,⟨k1,k2⟩,⟨v1,v2⟩,rows⟩:=x;dsimp only;by_cases hK:k1=3/\k2=0
 .obtain⟨rfl,rfl⟩:=hK;by_cases hV:v1=4/\v2=0
  .obtain⟨rfl,rfl⟩:=hV;rcases ha with rfl|rfl|rfl|rfl|rfl|⟨e,rfl⟩ <;>
    first
    |exact nok (VT.lit (k:=3) o5) rfl rfl
    |exact nJ (c:=8) I8 rfl rfl
  .have hE:vty (v1,v2) sg.1=true->v1≠4:=λhv h=>by
    subst h;rcases IE hv with h|h|h|h|h|⟨e,h⟩<;>cases h;exact hV ⟨rfl,rfl⟩
   have hR:eY (decide (v1=4)) (decide (v2=0))=false:=by
    by_cases h1:v1=4
    .have:v2≠0:=λh2=>hV ⟨h1,h2⟩;simp[eY,h1,this]
    .simp[eY,h1]
   rw[hR];cases hv:vty (v1,v2) sg.1
   .rcases ha with rfl|rfl|rfl|rfl|rfl|⟨e,rfl⟩<;>exact nJ (c:=8) I8 rfl rfl
   .have h4:=hE hv;rw[show decide (v1=4)=false by simp[h4]];rcases ha with rfl|rfl|rfl|rfl|rfl|⟨e,rfl⟩<;>exact nJ (c:=8) I8 rfl rfl
 .have hR:eY (decide (k1=3)) (decide (k2=0))=false:=by
   by_cases h1:k1=3
   .have:k2≠0:=λh2=>hK ⟨h1,h2⟩;simp[eY,h1,this]
   .simp[eY,h1]
  rw[hR];cases hv:vty (k1,k2) sg.1
  .rcases ha with rfl|rfl|rfl|rfl|rfl|⟨e,rfl⟩<;>exact nJ (c:=8) I8 rfl rfl
  cases hw:vty (v1,v2) sg.1
  .rcases ha with rfl|rfl|rfl|rfl|rfl|⟨e,rfl⟩<;>exact nJ (c:=8) I8 rfl rfl
  have h3:k1≠3:=λh=>by subst h;rcases IE hv with h|h|h|h|h|⟨e,h⟩<;>cases h;exact hK ⟨rfl,rfl⟩
  simp only[show decide (k1=3)=false by simp[h3],P7,o7,o6,D5];cases eY (decide (a.1=k1)) (decide (a.2=k2))
  .cases decide (a.1=3)<;>exact nJ (c:=8) I8 rfl rfl
  .cases decide (a.1=3)<;>exact nJ (c:=8) I8 rfl rfl
theorem Wp(n:Int×Int)(hN:I64 n.2)(ops:List (Int×Int))(hv:∀t∈ops,VT t)(hl:o8 ops=arF n.1):pJ n ops sg:=by
 obtain⟨op,N⟩:=n;dsimp only at hN hl;have hr:1<=op/\op<=39:=by
  by_cases h:1<=op/\op<=39
  .exact h
  .have:arF op=-1:=by unfold arF;rw[a1a h];rfl
   rw[this]at hl;simp[o8]at hl
 have hc:op=1\/op=2\/op=3\/op=4\/op=5\/op=6\/op=7\/op=8\/op=9\/op=10\/op=11\/op=12\/op=13\/op=14\/op=15\/op=16\/op=17\/op=18\/op=19\/op=20\/op=21\/op=22\/op=23\/op=24\/op=25\/op=26\/op=27\/op=28\/op=29\/op=30\/op=31\/op=32\/op=33\/op=34\/op=35\/op=36\/op=37\/op=38\/op=39:=o5;have L0:arF op=0->ops=[]:=λh=>by rw[h]at hl;simp only[o8]at hl;exact af.1 o5
 have L1:arF op=1->∃a,ops=[a]/\VT a:=λh=>by
  rw[h]at hl;simp only[o8]at hl;match ops,hl,hv with
  |[a],_,hv=>exact⟨a,rfl,hv a A8⟩|[],hl,_=>simp at hl|a::b::r,hl,_=>simp at hl;omega
 have L2:arF op=2->∃a b,ops=[a,b]/\VT a/\VT b:=λh=>by
  rw[h]at hl;simp only[o8]at hl;match ops,hl,hv with
  |[a,b],_,hv=>exact⟨a,b,rfl,hv a A8,hv b A8⟩|[],hl,_=>simp at hl|[a],hl,_=>simp at hl|a::b::c::r,hl,_=>simp at hl;omega
 have L3:arF op=3->∃a b c,ops=[a,b,c]/\VT a/\VT b:=λh=>by
  rw[h]at hl;simp only[o8]at hl;match ops,hl,hv with
  |[a,b,c],_,hv=>exact⟨a,b,c,rfl,hv a A8,hv b A8⟩|[],hl,_=>simp at hl|[a],hl,_=>simp at hl|[a,b],hl,_=>simp at hl|a::b::c::d::r,hl,_=>simp at hl;omega
 rcases hc with rfl|rfl|rfl|rfl|rfl|rfl|rfl|rfl|rfl|rfl|rfl|rfl|rfl|rfl|rfl|rfl|rfl|rfl|rfl|rfl|rfl|rfl|rfl|rfl|rfl|rfl|rfl|rfl|rfl|rfl|rfl|rfl|rfl|rfl|rfl|rfl|rfl|rfl|rfl <;>
  first
  |(rw[L0 rfl];first|exact a3k N sg o5|exact a1O N sg hN|exact a6U N sg|exact a3j N sg|exact a1N N sg|exact ZV N sg|exact a3l N sg o5)
  |(obtain⟨a,rfl,ha⟩:=L1 rfl;first|exact a6V N sg o5 ha|exact Yg N sg ha|exact Uu N sg hN ha)
  |(obtain⟨a,b,rfl,ha,hb⟩:=L2 rfl;first|exact a3i N sg o5 ha hb|exact a1P N sg o5 ha hb|exact a1Q N sg o5 ha)
  |(obtain⟨a,b,c,rfl,ha,hb⟩:=L3 rfl;exact a6T N sg ha hb)
end
end Go.GP
namespace Go.GP
open Gt
set_option maxRecDepth 100000
def XT.wf:XT->Prop
 | .l0 n=>arF n.1=0| .l1 n a=>arF n.1=1/\a.wf| .l2 n a b=>arF n.1=2/\a.wf/\b.wf| .l3 n a b c=>arF n.1=3/\a.wf/\b.wf/\c.wf
theorem a7i{n:Int×Int}{ts ts' :List XT}(h:push n ts= .inr ts')(hw:∀t∈ts,t.wf):∀t∈ts',t.wf:=by
 unfold push at h;split at h
 .cases h;intro t ht;rcases C9.1 ht with rfl|ht
  .assumption
  .exact hw t ht
 split at h
 .split at h
  .cases h;intro t ht;rcases C9.1 ht with rfl|ht
   .exact⟨by assumption,hw _ A8⟩
   .exact hw t (by simp[ht])
  .cases h
 split at h
 .split at h
  .cases h;intro t ht;rcases C9.1 ht with rfl|ht
   .exact⟨by assumption,hw _ A8,hw _ A8⟩
   .exact hw t (by simp[ht])
  .cases h
 split at h
 .split at h
  .cases h;intro t ht;rcases C9.1 ht with rfl|ht
   .exact⟨by assumption,hw _ A8,hw _ A8,hw _ A8⟩
   .exact hw t (by simp[ht])
  .cases h
 .cases h
theorem Yn:∀(es:List (Int×Int)) (i:Nat) (ts ts' :List XT),qE i es ts= .inr ts' ->(∀t∈ts,t.wf)->∀t∈ts',t.wf
 |[],i,ts,ts',h,hw=>by cases h;exact hw|n::es,i,ts,ts',h,hw=>by
  unfold qE at h;cases hp:push n ts with
  |inl c=>rw[hp]at h;cases h|inr t2=>
   rw[hp]at h;simp only at h;split at h
   .cases h
   .exact Yn es (i+1) t2 ts' h (a7i hp hw)
variable {e:List (Int×Int)}
theorem a2l{t:XT}(h:nZ e= .inr t):t.wf:=by
 unfold nZ at h;split at h
 .cases h
 split at h
 .cases h
 split at h
 .cases h
 .rename_i t' hp;cases h;exact Yn e 0 [] [t] hp A8 t A8
 .cases h
def WQ(n:Int×Int)(ops:List (Int×Int))(sg:O7):(Int×Int)×Int:=(rZ n ops sg).getD ((0,0),0)
def Hw(sg:O7)(n:Int×Int)(ops:List (Int×Int))(i:Nat):(Int×Int)⊕(Int×Int):=if(WQ n ops sg).2=0 then .inr (WQ n ops sg).1 else .inl ((i:Int),(WQ n ops sg).2)
def xn(sg:O7):XT->Nat->(Int×Int)⊕(Int×Int)
 | .l0 n,o=>Hw sg n [] o
 | .l1 n a,o=>match xn sg a o with
  | .inl x=> .inl x| .inr ta=>Hw sg n [ta] (o+a.size)
 | .l2 n a b,o=>match xn sg a o with
  | .inl x=> .inl x
  | .inr ta=>match xn sg b (o+a.size)with
   | .inl x=> .inl x| .inr tb=>Hw sg n [ta,tb] (o+a.size+b.size)
 | .l3 n a b c,o=>match xn sg a o with
  | .inl x=> .inl x
  | .inr ta=>match xn sg b (o+a.size)with
   | .inl x=> .inl x
   | .inr tb=>match xn sg c (o+a.size+b.size)with
    | .inl x=> .inl x| .inr tc=>Hw sg n [ta,tb,tc] (o+a.size+b.size+c.size)
variable {i:Nat}{t:Int×Int}
theorem LU{sg:O7}{n:Int×Int}{ops:List (Int×Int)}(hN:I64 n.2)(hv:∀t∈ops,VT t)(hl:o8 ops=arF n.1)(h:Hw sg n ops i= .inr t):VT t:=by
 obtain⟨r,h1,h2,h3⟩:=Wp sg n hN ops hv hl;unfold Hw at h;split at h
 .rename_i h0;cases h;have e:WQ n ops sg=r:=by unfold WQ;rw[h1];rfl
  rw[e]at h0 ⊢;exact h3 h0
 .cases h
section
variable (e:List (Int×Int)) (sg:O7) (z:Int×Int)
def a7W(f:(Int×Int)×List (Int×Int)×Int->Option (Out ((Int×Int)×List (Int×Int)×Int) ((Int×Int)×List (Int×Int)) ((Int×Int)×Int×Int))):Prop:=
 ∀(i:Nat) (n:Int×Int) (s ops:List (Int×Int)),e[i]? =some n->i<=100->o8 ops=arF n.1->(∀t∈ops,VT t)->s.length+ops.length<=100->
  f (z,s++ops,(i:Int))=some (match Hw sg n ops i with| .inl x=> .rt ((0,0),x)| .inr t=> .nx (z,s++[t],((i+1:Nat):Int)))
theorem a2r{f:(Int×Int)×List (Int×Int)×Int->Option (Out ((Int×Int)×List (Int×Int)×Int) ((Int×Int)×List (Int×Int)) ((Int×Int)×Int×Int))}
  (he:e.length<=48) (hI:∀n∈e,I64 n.2) (hs:a7W e sg z f):∀(t:XT),t.wf->∀(pre suf s:List (Int×Int)) (k:Nat),e=pre++t.post++suf->s.length<=pre.length->
  kK f (k+t.size) (z,s,(pre.length:Int))=(match xn sg t pre.length with| .inl x=>some (.inr ((0,0),x))| .inr r=>kK f k (z,s++[r],((pre.length+t.size:Nat):Int)))/\∀r,xn sg t pre.length= .inr r->VT r:=by
 intro t;have step:∀(i k:Nat) (n:Int×Int) (s ops:List (Int×Int)),e[i]? =some n->o8 ops=arF n.1->(∀t∈ops,VT t)->s.length+ops.length<=100->
   kK f (k+1) (z,s++ops,(i:Int))=(match Hw sg n ops i with| .inl x=>some (.inr ((0,0),x))| .inr r=>kK f k (z,s++[r],((i+1:Nat):Int))):=by
  intro i k n s ops h1 h2 h3 h4;rw[kK,hs i n s ops h1 (by have:=(aF.1 h1).1;omega) h2 h3 h4];cases Hw sg n ops i<;>rfl
 have getn:∀(pre suf:List (Int×Int)) (n:Int×Int),e=pre++[n]++suf->e[pre.length]? =some n:=by intro pre suf n h;rw[h,G7,J4 o5,jg];rfl
 have mem:∀(i:Nat) (n:Int×Int),e[i]? =some n->I64 n.2:=λi n h=>hI n (kW h);induction t with
 |l0 n=>
  intro hw pre suf s k hd hl;have hn:=getn pre suf n hd;have hlen:pre.length<e.length:=(aF.1 hn).1;have hz:o8 ([]:List (Int×Int))=arF n.1:=by rw[show arF n.1=0 from hw];rfl
  have h:=step pre.length k n s [] hn hz A8 az;rw[G6]at h;exact⟨h,λr hr=>LU (mem _ n hn) A8 hz hr⟩
 |l1 n a iha=>
  intro hw pre suf s k hd hl;simp only[XT.post,G7]at hd;have hpa:(pre++a.post).length=pre.length+a.size:=by simp[XT.post_len]
  have hn:=getn (pre++a.post) suf n (by simpa using hd);rw[hpa]at hn;have hlen:=(aF.1 hn).1;obtain⟨i1,i2⟩:=iha hw.2 pre ([n]++suf) s (k+1) (by simpa using hd) hl;simp only[XT.size,xn];rw[show k+(a.size+1)=(k+1)+a.size by omega,i1];cases ht:xn sg a pre.length with
  |inl x=>exact⟨rfl,λr hr=>by cases hr⟩|inr ta=>
   have hz:o8 [ta]=arF n.1:=by rw[show arF n.1=1 from hw.1];rfl
   have hv:∀t∈[ta],VT t:=by simpa using i2 ta ht
   exact⟨step _ k n s [ta] hn hz hv az,λr hr=>LU (mem _ n hn) hv hz hr⟩
 |l2 n a b iha ihb=>
  intro hw pre suf s k hd hl;simp only[XT.post,G7]at hd;have hpa:(pre++a.post).length=pre.length+a.size:=by simp[XT.post_len]
  have hpb:(pre++a.post++b.post).length=pre.length+a.size+b.size:=by simp[XT.post_len];omega
  have hn:=getn (pre++a.post++b.post) suf n (by simpa using hd);rw[hpb]at hn;have hlen:=(aF.1 hn).1;obtain⟨i1,i2⟩:=iha hw.2.1 pre (b.post++[n]++suf) s (k+1+b.size) (by simpa using hd) hl;simp only[XT.size,xn];rw[show k+(a.size+b.size+1)=(k+1+b.size)+a.size by omega,i1];cases ht:xn sg a pre.length with
  |inl x=>exact⟨rfl,λr hr=>by cases hr⟩|inr ta=>
   have hsa:=a.size_pos;obtain⟨j1,j2⟩:=ihb hw.2.2 (pre++a.post) ([n]++suf) (s++[ta]) (k+1) (by simpa using hd) (by simp[XT.post_len];omega);rw[hpa]at j1 j2;simp only;rw[j1];cases hu:xn sg b (pre.length+a.size)with
   |inl x=>exact⟨rfl,λr hr=>by cases hr⟩|inr tb=>
    have hz:o8 [ta,tb]=arF n.1:=by rw[show arF n.1=2 from hw.1];rfl
    have hv:∀t∈[ta,tb],VT t:=by simpa using ⟨i2 ta ht,j2 tb hu⟩
    have:=step _ k n s [ta,tb] hn hz hv az;simp only[G7,Y6,F6];rw[show pre.length+(a.size+b.size+1)=pre.length+a.size+b.size+1 by omega];exact⟨this,λr hr=>LU (mem _ n hn) hv hz hr⟩
 |l3 n a b c iha ihb ihc=>
  intro hw pre suf s k hd hl;simp only[XT.post,G7]at hd;have hpa:(pre++a.post).length=pre.length+a.size:=by simp[XT.post_len]
  have hpb:(pre++a.post++b.post).length=pre.length+a.size+b.size:=by simp[XT.post_len];omega
  have hpc:(pre++a.post++b.post++c.post).length=pre.length+a.size+b.size+c.size:=by simp[XT.post_len];omega
  have hn:=getn (pre++a.post++b.post++c.post) suf n (by simpa using hd);rw[hpc]at hn;have hlen:=(aF.1 hn).1;obtain⟨i1,i2⟩:=iha hw.2.1 pre (b.post++(c.post++([n]++suf))) s (k+1+c.size+b.size) (by simpa using hd) hl;simp only[XT.size,xn];rw[show k+(a.size+b.size+c.size+1)=(k+1+c.size+b.size)+a.size by omega,i1];have hsa:=a.size_pos;have hsb:=b.size_pos;cases ht:xn sg a pre.length with
  |inl x=>exact⟨rfl,λr hr=>by cases hr⟩|inr ta=>
   obtain⟨j1,j2⟩:=ihb hw.2.2.1 (pre++a.post) (c.post++([n]++suf)) (s++[ta]) (k+1+c.size) (by simpa using hd) (by simp[XT.post_len];omega);rw[hpa]at j1 j2;simp only;rw[j1];cases hu:xn sg b (pre.length+a.size)with
   |inl x=>exact⟨rfl,λr hr=>by cases hr⟩|inr tb=>
    obtain⟨q1,q2⟩:=ihc hw.2.2.2 (pre++a.post++b.post) ([n]++suf) (s++[ta]++[tb]) (k+1) (by simpa using hd) (by simp[XT.post_len];omega);rw[hpb]at q1 q2;simp only;rw[q1];cases hc:xn sg c (pre.length+a.size+b.size)with
    |inl x=>exact⟨rfl,λr hr=>by cases hr⟩|inr tc=>
     have hz:o8 [ta,tb,tc]=arF n.1:=by rw[show arF n.1=3 from hw.1];rfl
     have hv:∀t∈[ta,tb,tc],VT t:=by simpa using ⟨i2 ta ht,j2 tb hu,q2 tc hc⟩
     have:=step _ k n s [ta,tb,tc] hn hz hv az;simp only[G7,Y6,F6];rw[show pre.length+(a.size+b.size+c.size+1)=pre.length+a.size+b.size+c.size+1 by omega];exact⟨this,λr hr=>LU (mem _ n hn) hv hz hr⟩
end
def pX(e:List (Int×Int))(sg:O7):(Int×Int)×Int×Int:=match nZ e with
 | .inl x=>((0,0),x)
 | .inr t=>match xn sg t 0 with
  | .inl x=>((0,0),x)| .inr r=>(r,0,0)
variable {α:Type}
theorem TU(s ops:List α)(k:Int)(hk:o8 ops=k)(h:s.length+ops.length<=100):
  O0 .i64 (o8 (s++ops)) k=(s.length:Int)/\mM (s.length:Int) (o8 (s++ops)) (o8 (s++ops))=true/\jK (s++ops) (P6 (s.length:Int)) (P6 (o8 (s++ops)))=ops
  /\mM 0 (s.length:Int) (o8 (s++ops))=true/\jK (s++ops) (P6 0) (P6 (s.length:Int))=s:=by
 subst hk;refine⟨?_,?_,?_,?_,?_⟩
 .rw[RU (by unfold I64;simp[o8];omega)];simp[o8]
 .simp[mM,o8];omega
 .show((s++ops).take (((s++ops).length:Nat):Int).toNat).drop s.length=ops;rw[lG,aU,List.drop_left]
 .simp[mM,o8];omega
 .simp[jK,P6]
theorem TT{sg:O7}{f:(Int×Int)×List (Int×Int)×Int->Option (Out ((Int×Int)×List (Int×Int)×Int) ((Int×Int)×List (Int×Int)) ((Int×Int)×Int×Int))}
  (hI:∀n∈e,I64 n.2) (hs:a7W e sg (0,0) f) (hend:∀s,f ((0,0),s,(e.length:Int))=some (.ex ((0,0),s))) (hcode:∀x,nZ e= .inl x->x.2≠0):
  l7 (E5 (x9 (wZ e).2.2 0)) (some ((((0:Int),(0:Int)),(wZ e).2):(Int×Int)×Int×Int)) (l9 (O6 f (((0:Int),(0:Int)),([]:List (Int×Int)),(0:Int))) λ(o:(Int×Int)×List (Int×Int)⊕(Int×Int)×Int×Int)=>
   U3 o (λ(y:(Int×Int)×List (Int×Int))=>l9 (J7 y.2 0) λ(x:Int×Int)=>l9 (X0 y.2 (P6 0)) λ(x:Int×Int)=>some (x,0,0)) λ(r:(Int×Int)×Int×Int)=>some r)=some (pX e sg):=by
 unfold wZ pX;cases h:nZ e with
 |inl x=>simp only[kJ (hcode x h),dO,o6]|inr t=>
  obtain⟨hp,h48⟩:=PY h;have hw:=a2l h;obtain⟨l1,_⟩:=a2r e sg (0,0) h48 hI hs t hw [] [] [] (mf -t.size) (by simpa using hp) A8;have hsz:e.length=t.size:=by rw[hp,XT.post_len]
  have hlo:O6 f (((0:Int),(0:Int)),([]:List (Int×Int)),(0:Int))=kK f (mf -t.size+t.size) ((0,0),[],(([]:List (Int×Int)).length:Int)):=by unfold O6;rw[Nat.sub_add_cancel (by unfold mf;omega)];rfl
  simp only[iw (rfl:(0:Int)=0),P7,o7];rw[hlo,l1];simp only[bM,bU];cases xn sg t 0 with
  |inl x=>rfl|inr r=>obtain⟨k,hk⟩:∃k,mf -t.size=k+1:=⟨mf -t.size -1,by unfold mf;omega⟩;simp only[F6];rw[hk,kK,←hsz,hend];rfl
theorem Iy{x:Int×Int}(h:nZ e= .inl x):x.2≠0:=by
 have key:∀(es:List (Int×Int)) (i:Nat) (ts:List XT) (x:Int×Int),qE i es ts= .inl x->x.2≠0:=by
  intro es;induction es with
  |nil=>intro i ts x h;cases h|cons n es ih=>
   intro i ts x h;unfold qE at h;cases hp:push n ts with
   |inl c=>
    rw[hp]at h;cases h;show c≠0;unfold push at hp
    (repeat' split at hp)<;>first|(cases hp;done)|(cases hp;decide)
   |inr t2=>
    rw[hp]at h;simp only at h;split at h
    .cases h;show(16:Int)≠0;decide
    .exact ih _ _ _ h
 unfold nZ at h;split at h
 .cases h;show(4:Int)≠0;decide
 split at h
 .cases h;show(5:Int)≠0;decide
 split at h
 .rename_i y hp;cases h;exact key _ _ _ _ hp
 .cases h
 .cases h;show(4:Int)≠0;decide
theorem j_(sg:O7)(hI:∀n∈e,I64 n.2):zK e sg=some (pX e sg):=by
 unfold zK;rw[UB,D5];refine TT hI (λi n s ops hn hi2 hl hv hlen=>?_) (λs=>?_) (λx h=>Iy h)
 .obtain⟨r,h1,h2,h3⟩:=Wp sg n (hI n (kW hn)) ops hv hl;obtain⟨v1,v2,v3,v4,v5⟩:=TU s ops _ hl hlen;have e' :WQ n ops sg=r:=by unfold WQ;rw[h1];rfl
  have hi:=(aF.1 hn).1;simp only[J9 hn,o6,I9,hn,D5,a4i,v1,v2,v3,v4,v5,h1];unfold Hw;rw[e'];by_cases h0:r.2=0
  .rw[if_pos h0,iw h0];simp only[P7,o7];rw[mW _ o5,D5,dL o5]
  .rw[if_neg h0,kJ h0];rfl
 .rw[J8];rfl
theorem a2q(sg:O7)(hI:∀n∈e,I64 n.2):BR e sg=some (pX e sg):=by
 unfold BR;rw[Xf,D5];refine TT hI (λi n s ops hn hi2 hl hv hlen=>?_) (λs=>?_) (λx h=>Iy h)
 .obtain⟨r,h1,h2,h3⟩:=Wp sg n (hI n (kW hn)) ops hv hl;obtain⟨v1,v2,v3,v4,v5⟩:=TU s ops _ hl hlen;have e' :WQ n ops sg=r:=by unfold WQ;rw[h1];rfl
  have hi:=(aF.1 hn).1;simp only[J9 hn,o6,I9,hn,D5,a7Y,v1,v2,v3,v4,v5];unfold Hw;rw[e'];unfold EN at h2;have fin:aP n ops sg=some r->(l9 (aP n ops sg) λ(x_3:vV×Int)=>l7 (E5 (x9 x_3.2 0)) (some (Out.rt ((((0:Int),(0:Int)),((i:Int),x_3.2)):(Int×Int)×Int×Int)))
    (l9 (bu s [x_3.1]) λ(x_4:List vV)=>some (Out.nx (((0:Int),(0:Int)),x_4,D7 .i64 (i:Int) 1))))=
    some (match if r.2=0 then(.inr r.1:(Int×Int)⊕(Int×Int))else .inl ((i:Int),r.2)with| .inl x=>Out.rt ((0,0),x)| .inr t=>(Out.nx ((0,0),s++[t],((i+1:Nat):Int)):Out ((Int×Int)×List (Int×Int)×Int) ((Int×Int)×List (Int×Int)) ((Int×Int)×Int×Int))):=by
   intro hr;rw[hr,D5];by_cases h0:r.2=0
   .rw[if_pos h0,iw h0];simp only[P7,o7];rw[mW _ o5,D5,dL o5]
   .rw[if_neg h0,kJ h0];rfl
  cases hz:x9 n.2 0
  .rw[hz]at h2;simp only[dO,o6]at h2 ⊢;cases hu:jb n.1 with
   |none=>rw[hu]at h2;cases h2|some u=>
    rw[hu]at h2;simp only[D5]at h2 ⊢;cases u
    .simp only[dO,o6]at h2 ⊢;cases h2;rfl
    .exact fin h2
  .rw[hz]at h2;exact fin h2
 .rw[J8];rfl
section
variable {α β σ ε ρ:Type}
theorem Fe(l:List α)(G:β->α->β)(mk:β->Int->σ)(fin:β->ε)(Inv:Nat->β->Prop){f:σ->Option (σ⊕ε)}{b:β}(hl:l.length<=1000000)(h0:Inv 0 b)
  (hin:∀(i:Nat) (a:α) (b:β),l[i]? =some a->i<=1000000->Inv i b->f (mk b (i:Int))=some (.inl (mk (G b a) ((i+1:Nat):Int)))/\Inv (i+1) (G b a))
  (hend:∀b,Inv l.length b->f (mk b (l.length:Int))=some (.inr (fin b))):
  dH f (mk b 0)=some (fin (l.foldl G b))/\Inv l.length (l.foldl G b):=by
 have key:∀(n i:Nat) (b:β),i<=l.length->l.length -i<n->Inv i b->Fb f n (mk b (i:Int))=some (fin ((l.drop i).foldl G b))/\Inv l.length ((l.drop i).foldl G b):=by
  intro n;induction n with
  |zero=>intro i b _ h _;omega|succ n ih=>
   intro i b hi hn hI;unfold Fb;by_cases h:i<l.length
   .have e:=iP h;obtain⟨h1,h2⟩:=hin i _ b e o5 hI;rw[h1,aW h];exact ih (i+1) _ o5 o5 h2
   .have:i=l.length:=o5;subst this;rw[hend b hI,xA];exact⟨rfl,hI⟩
 have:=key mf 0 b o5 (by unfold mf;omega) h0;exact this
theorem gJ{γ:Type}(l:List α)(G:β->α->β)(mk:β->Int->σ)(fin:β->ε)(Inv:Nat->β->Prop)(b:β){f:σ->Option (σ⊕ε)}{K:ε->Option γ}{r:Option γ}(hl:l.length<=1000000)(h0:Inv 0 b)
  (hin:∀(i:Nat) (a:α) (b:β),l[i]? =some a->i<=1000000->Inv i b->f (mk b (i:Int))=some (.inl (mk (G b a) ((i+1:Nat):Int)))/\Inv (i+1) (G b a))
  (hend:∀b,Inv l.length b->f (mk b (l.length:Int))=some (.inr (fin b))) (hk:Inv l.length (l.foldl G b)->K (fin (l.foldl G b))=r):l9 (dH f (mk b 0)) K=r:=by
 obtain⟨h1,h2⟩:=Fe l G mk fin Inv hl h0 hin hend;rw[h1];exact hk h2
def qj(G:β->α->β⊕ρ):List α->β->β⊕ρ
 |[],b=> .inl b
 |a::l,b=>match G b a with| .inl b' =>qj G l b'| .inr r=> .inr r
theorem Kv(l:List α)(G:β->α->β⊕ρ)(mk:β->Int->σ)(fin:β->ε)(Inv:Nat->β->Prop){f:σ->Option (Out σ ε ρ)}{b:β}(hl:l.length<=1000000)(h0:Inv 0 b)
  (hin:∀(i:Nat) (a:α) (b:β),l[i]? =some a->i<=1000000->Inv i b->f (mk b (i:Int))=some (match G b a with| .inl b' => .nx (mk b' ((i+1:Nat):Int))| .inr r=> .rt r)/\∀b',G b a= .inl b' ->Inv (i+1) b')
  (hend:∀b,Inv l.length b->f (mk b (l.length:Int))=some (.ex (fin b))):
  O6 f (mk b 0)=some (match qj G l b with| .inl b' => .inl (fin b')| .inr r=> .inr r)/\∀b',qj G l b= .inl b' ->Inv l.length b' :=by
 have key:∀(n i:Nat) (b:β),i<=l.length->l.length -i<n->Inv i b->kK f n (mk b (i:Int))=some (match qj G (l.drop i) b with| .inl b' => .inl (fin b')| .inr r=> .inr r)/\∀b',qj G (l.drop i) b= .inl b' ->Inv l.length b' :=by
  intro n;induction n with
  |zero=>intro i b _ h _;omega|succ n ih=>
   intro i b hi hn hI;unfold kK;by_cases h:i<l.length
   .have e:=iP h;obtain⟨h1,h2⟩:=hin i _ b e o5 hI;rw[h1,aW h];unfold qj;cases hg:G b l[i]with
    |inr r=>exact⟨rfl,λb' hb=>by cases hb⟩|inl b' =>exact ih (i+1) _ o5 o5 (h2 b' hg)
   .have:i=l.length:=o5;subst this;rw[hend b hI,xA];exact⟨rfl,λb' hb=>by cases hb;exact hI⟩
 have:=key mf 0 b o5 (by unfold mf;omega) h0;exact this
theorem Ku{γ:Type}(l:List α)(G:β->α->β⊕ρ)(mk:β->Int->σ)(fin:β->ε)(Inv:Nat->β->Prop)(b:β){f:σ->Option (Out σ ε ρ)}{K:ε⊕ρ->Option γ}{r:Option γ}(hl:l.length<=1000000)(h0:Inv 0 b)
  (hin:∀(i:Nat) (a:α) (b:β),l[i]? =some a->i<=1000000->Inv i b->f (mk b (i:Int))=some (match G b a with| .inl b' => .nx (mk b' ((i+1:Nat):Int))| .inr r=> .rt r)/\∀b',G b a= .inl b' ->Inv (i+1) b')
  (hend:∀b,Inv l.length b->f (mk b (l.length:Int))=some (.ex (fin b)))
  (hk:(∀b',qj G l b= .inl b' ->Inv l.length b')->K (match qj G l b with| .inl b' => .inl (fin b')| .inr r=> .inr r)=r):l9 (O6 f (mk b 0)) K=r:=by
 obtain⟨h1,h2⟩:=Kv l G mk fin Inv hl h0 hin hend;rw[h1];exact hk h2
end
def OC(c:UInt8):Bool:=decide (32<=c.toNat)&&decide (c.toNat<=126)&&decide (c.toNat≠34)
def UD(s:c2f):Bool:=decide (s.length<=64)&&s.all OC
theorem a0G(c:UInt8):∀s:c2f,decide (0<=Lib.indexByte s c)=s.any λx=>decide (x.toNat=c.toNat)
 |[]=>by simp[Lib.indexByte]|b::l=>by
  have ih:=a0G c l;have hge:=Lib.indexByte_ge l c;rw[pR,←ih];have e:Lib.indexByte (b::l) c=if b=c then 0 else if Lib.indexByte l c=-1 then -1 else Lib.indexByte l c+1:=by rw[Lib.indexByte];simp
  rw[e];by_cases h:b=c
  .subst h;simp
  .have h2:b.toNat≠c.toNat:=λhh=>h (UInt8.toNat_inj.1 hh);rw[if_neg h,show decide (b.toNat=c.toNat)=false by simp[h2],jG];by_cases h3:Lib.indexByte l c=-1
   .rw[h3];rfl
   .rw[if_neg h3];simp;omega
theorem YT(c:UInt8):OC c=(!F9 (c.toNat:Int) 32&&!F9 126 (c.toNat:Int)&&!x9 (c.toNat:Int) 34):=by unfold OC F9 x9;rw[iQ];simp;omega
theorem Qp(s:c2f)(p:UInt8->Bool):(∀(i:Nat) (a:UInt8),s[i]? =some a->p a=true)↔s.all p=true:=by rw[ik];exact⟨λh x hx=>by obtain⟨i,hi,rfl⟩:=Y5 hx;exact h i _ (iP hi),λh i a hi=>h a (kW hi)⟩
theorem Wx{s:c2f}(h:s.length<=1000000):uS s=some (UD s):=by
 unfold uS;refine Y3 (xR s (λi a=>OC a) false PUnit.unit _ o5 (λi x hx=>?_) ?_) ?_
 rotate_left 2
 .have h5:U4 (o8 s) 64=decide (s.length<=64):=by simp only[U4,o8];congr 1;simp;omega
  unfold UD;by_cases hw:s.all OC=true
  .rw[if_pos ((Qp s OC).2 hw),hw,D5,Z9,h5,Bool.and_true]
  .rw[if_neg (λh=>hw ((Qp s OC).1 h))];simp only[qC]at hw;rw[hw,Bool.and_false];rfl
 .have hi:=(aF.1 hx).1;simp only[J9 hx,o6,QA,hx,bP,D5];rw[dL o5,YT];cases F9 (x.toNat:Int) 32<;>cases F9 126 (x.toNat:Int)<;>cases x9 (x.toNat:Int) 34<;>rfl
 .rw[J8];rfl
theorem TW{s:c2f}(h:s.length<=1000000):uJ s=some (UD s):=by
 unfold uJ;have h5:F9 64 (o8 s)= !decide (s.length<=64):=by simp only[F9,o8];rw[←decide_not];congr 1;simp;omega
 rw[h5,show ug s [34]=some (s.any λx=>decide (x.toNat=(34:UInt8).toNat))from congrArg some (a0G 34 s)];unfold UD;cases decide (s.length<=64)
 .rfl
 simp only[iG,o7,D5,jH];cases h34:s.any λx=>decide (x.toNat=(34:UInt8).toNat)
 case true=>
  obtain⟨x,hx,hx2⟩:=mV.1 h34;simp only[decide_eq_true_eq]at hx2;have:s.all OC=false:=by rw[List.all_eq_false];refine⟨x,hx,?_⟩;unfold OC;rw[hx2];decide
  rw[this];rfl
 simp only[o7];refine Y3 (xR s (λi a=>OC a) false PUnit.unit _ o5 (λi x hx=>?_) ?_) ?_
 rotate_left 2
 .by_cases hw:s.all OC=true
  .rw[if_pos ((Qp s OC).2 hw),hw];rfl
  .rw[if_neg (λh=>hw ((Qp s OC).1 h))];simp only[qC]at hw;rw[hw];rfl
 .have hi:=(aF.1 hx).1;have hne:x9 (x.toNat:Int) 34=false:=by
   have:=(gu.1 h34) x (kW hx);simp only[decide_eq_true_eq]at this;exact kJ (by have h:(34:UInt8).toNat=34:=rfl;omega)
  simp only[J9 hx,o6,QA,hx,bP,D5];rw[dL o5,YT,hne];cases F9 (x.toNat:Int) 32<;>cases F9 126 (x.toNat:Int)<;>rfl
 .rw[J8];rfl
def EC(e:List (Int×Int))(sg:O7)(t:Int×Int):Int:=l7 (x9 (pX e sg).2.2 0) (l7 (eY (x9 (pX e sg).1.1 t.1) (x9 (pX e sg).1.2 t.2)) 0 8) (pX e sg).2.2
theorem Lc(sg:O7)(t:Int×Int)(hI:∀n∈e,I64 n.2):qw e sg t=some (EC e sg t):=by
 unfold qw EC;rw[a2q sg hI,D5];cases x9 (pX e sg).2.2 0
 .rfl
 simp only[P7,o7,o6];cases eY (x9 (pX e sg).1.1 t.1) (x9 (pX e sg).1.2 t.2)<;>rfl
theorem Lp(sg:O7)(t:Int×Int)(hI:∀n∈e,I64 n.2):nz e sg t=some (EC e sg t):=by
 unfold nz EC;rw[j_ sg hI,D5];cases x9 (pX e sg).2.2 0
 .rfl
 simp only[P7,o7,o6];cases eY (x9 (pX e sg).1.1 t.1) (x9 (pX e sg).1.2 t.2)<;>rfl
def VL(r:bC):Prop:=r.1.length<=4611686018427387904/\r.2.2.2.2.2.2.2.length<=1000000/\(∀n∈r.2.2.2.2.2.1,I64 n.2)/\(∀n∈r.2.2.2.2.2.2.1,I64 n.2)
def JU(rs:List bC)(d:Int):Nat:=rs.countP λo=>x9 o.2.1 d
def JX(r:bC)(sg:O7)(t:Int×Int):Int:=
 l7 (F9 0 (o8 r.2.2.2.2.2.1)) (l7 (x9 (EC r.2.2.2.2.2.1 sg (1,0)) 0) (EC r.2.2.2.2.2.2.1 sg t) (EC r.2.2.2.2.2.1 sg (1,0))) (EC r.2.2.2.2.2.2.1 sg t)
def Bi(s:O8)(sg:O7)(k:Nat)(r:bC):Int:=
 l7 (qZ r.1) (l7 ((s.2.2.2.2.take k).any λx=>seq x.1 r.1) 7 (match J7 s.2.2.2.1 r.2.1 with
  |none=>6|some d=>l7 (l7 (x9 r.2.2.1 (-1)) false (l7 (F9 r.2.2.1 0) true (l7 (U4 k r.2.2.1) true (match J7 s.2.2.2.2 r.2.2.1 with|some q=>E5 (x9 q.2.1 r.2.1)|none=>true)))) 9
   (l7 (F9 r.2.2.2.1 0) 3 (l7 (F9 9 r.2.2.2.1) 3 (l7 (Az r.2.2.2.2.1) (l7 (x9 r.2.2.2.2.1.1 r.2.2.2.2.1.2) 3
    (l7 (U4 8 (JU (s.2.2.2.2.take k) r.2.1)) 4 (l7 (UD r.2.2.2.2.2.2.2) (JX r sg d.2) 2))) 3))))) 2
theorem LD{l:List α}{i:Int}(h:U4 0 i=false\/F9 i (o8 l)=false):J7 l i=none:=by
 unfold J7
 split
 .rename_i h0;rcases h with h|h
  .rw[EX]at h;omega
  .rw[iV]at h;simp only[o8]at h;exact fK o5
 .rfl
variable {s:O8}{r:bC}{k:Nat}
theorem VU(sg:O7)(hr:s.2.2.2.2[k]? =some r)(hl:s.2.2.2.2.length<=100000)(h:VL r):yl s (k:Int) sg=some (Bi s sg k r):=by
 have hk:=(aF.1 hr).1;have hcnt:JU (s.2.2.2.2.take k) r.2.1<=100000:=by have:=mi (l:=s.2.2.2.2.take k) (p:=λ(o:bC)=>x9 o.2.1 r.2.1);unfold JU;simp at this;omega
 unfold yl;rw[I9,hr,D5,vO o5,D5];refine Y3 (Fe (s.2.2.2.2.take k) (λ(c:Nat) (o:bC)=>l7 (x9 o.2.1 r.2.1) (c+1) c) (λc i=>((c:Int),i)) (λc=>(c:Int)) (λi c=>c<=i) (b:=0) az o5 (λi a c ha hi hc=>?_) (λc hc=>?_)).1 ?_
 rotate_left 2
 .have hf:∀(l:List bC) (c:Nat),l.foldl (λ(c:Nat) (o:bC)=>l7 (x9 o.2.1 r.2.1) (c+1) c) c=c+JU l r.2.1:=by
   intro l;induction l with
   |nil=>intro c;rfl|cons a l ih=>intro c;rw[ak,ih];unfold JU;rw[List.countP_cons];cases x9 a.2.1 r.2.1<;>simp<;>omega
  rw[hf,bU,D5,DI h.1,D5,D5,ZK _ az,D5];unfold Bi;cases qZ r.1
  .rfl
  simp only[P7,o7,o6,D5];cases (s.2.2.2.2.take k).any λx=>seq x.1 r.1
  case true=>rfl
  simp only[o7];rw[zI r.2.1 0,Lt (o8 s.2.2.2.1) r.2.1];cases h0:U4 0 r.2.1
  .rw[LD (.inl h0)];rfl
  cases h1:F9 r.2.1 (o8 s.2.2.2.1)
  .rw[LD (.inr h1)];rfl
  obtain⟨d,hd,_⟩:=yY (zH.1 h0) (wB.1 h1);rw[hd];simp only[iG,o7,D5,TW h.2.1];have hpar:(l7 (E5 (x9 r.2.2.1 (-1))) (l7 (F9 r.2.2.1 0) (some true) (l7 (U4 (k:Int) r.2.2.1) (some true) (l9 (J7 s.2.2.2.2 r.2.2.1) λ(x_6:bC)=>some (E5 (x9 x_6.2.1 r.2.1))))) (some false))=
    some (l7 (x9 r.2.2.1 (-1)) false (l7 (F9 r.2.2.1 0) true (l7 (U4 k r.2.2.1) true (match J7 s.2.2.2.2 r.2.2.1 with|some q=>E5 (x9 q.2.1 r.2.1)|none=>true)))):=by
   cases x9 r.2.2.1 (-1)
   case true=>rfl
   simp only[dO,o6,o7];cases hp0:F9 r.2.2.1 0
   case true=>rfl
   cases hp1:U4 (k:Int) r.2.2.1
   case true=>rfl
   rw[iV]at hp0;rw[EX]at hp1;obtain⟨q,hq,_⟩:=yY (l:=s.2.2.2.2) hp0 (by simp only[o8];omega);rw[hq];rfl
  rw[hpar,D5];cases (l7 (x9 r.2.2.1 (-1)) false (l7 (F9 r.2.2.1 0) true (l7 (U4 k r.2.2.1) true (match J7 s.2.2.2.2 r.2.2.1 with|some q=>E5 (x9 q.2.1 r.2.1)|none=>true))))
  case true=>rfl
  simp only[o7];cases F9 r.2.2.2.1 0
  case true=>rfl
  simp only[o7,D5];cases F9 9 r.2.2.2.1
  case true=>rfl
  simp only[o7];have hval:∀(A B:Option (bC⊕Int)),l7 (F9 r.2.2.2.2.1.1 0) A (l7 (U4 r.2.2.2.2.1.2 r.2.2.2.2.1.1) A (l7 (F9 109573 r.2.2.2.2.1.2) A B))=l7 (Az r.2.2.2.2.1) (l7 (x9 r.2.2.2.2.1.1 r.2.2.2.2.1.2) A B) A:=by
   intro A B;unfold Az;by_cases v0:r.2.2.2.2.1.1<(0:Int)
   .rw[iM v0,oD (show r.2.2.2.2.1.1<(0:Int)from v0)];rfl
   rw[gX (Int.not_lt.1 v0),oG (Int.not_lt.1 v0)];by_cases v1:(r.2.2.2.2.1.2:Int)<=r.2.2.2.2.1.1
   .rw[oG v1];by_cases v2:(r.2.2.2.2.1.1:Int)<=r.2.2.2.2.1.2
    .rw[oG v2,iw (Int.le_antisymm v2 v1)];cases U4 r.2.2.2.2.1.2 109573<;>rfl
    .rw[oD (yX.1 v2)];rfl
   .have v1' :=yX.1 v1;rw[oD v1',oG (Int.le_of_lt v1'),kJ (λhh=>by rw[hh]at v1';exact Int.lt_irrefl _ v1'),zI];cases U4 r.2.2.2.2.1.2 109573<;>rfl
  rw[hval];cases Az r.2.2.2.2.1
  .rfl
  cases x9 r.2.2.2.2.1.1 r.2.2.2.2.1.2
  case true=>rfl
  simp only[o6,o7];cases U4 8 ((JU (s.2.2.2.2.take k) r.2.1:Nat):Int)
  case true=>rfl
  cases UD r.2.2.2.2.2.2.2
  .rfl
  simp only[P7,o7,o6,D5,Z9,JX,hd,Lc sg _ h.2.2.1,Lc sg _ h.2.2.2];cases F9 0 (o8 r.2.2.2.2.2.1)
  .rfl
  simp only[o6];cases x9 (EC r.2.2.2.2.2.1 sg (1,0)) 0<;>rfl
 .have hc' :c<=1000000:=o5;obtain⟨ha1,ha2⟩:=Nb ha;simp only[J9 ha,o6,I9,ha,D5];rw[dL (show i<=9000000000000000000 by omega),dL (show c<=9000000000000000000 by omega)];cases x9 a.2.1 r.2.1
  .exact⟨rfl,by show c<=i+1;omega⟩
  .exact⟨rfl,by show c+1<=i+1;omega⟩
 .simp only[J8];rfl
theorem a4h(s:O8)(d:Int):Bh s d=some (l7 (U4 0 d) (F9 d (o8 s.2.2.2.1)) false):=by unfold Bh;cases U4 0 d<;>rfl
theorem UX(r:bC):∀(l:List bC) (c:Nat),qj (λ(c:Nat) (o:bC)=>l7 (seq o.1 r.1) (.inr (7:Int)) (.inl (l7 (x9 o.2.1 r.2.1) (c+1) c))) l c=l7 (l.any λx=>seq x.1 r.1) (.inr 7) (.inl (c+JU l r.2.1))
 |[],c=>rfl|a::l,c=>by
  unfold qj;rw[pR];cases seq a.1 r.1
  case true=>rfl
  simp only[o7,jG];rw[UX r l];unfold JU;rw[List.countP_cons];cases x9 a.2.1 r.2.1
  .simp only[o7,dh,if_false,aj]
  .simp only[o6,if_true];rw[show c+1+List.countP (λo=>x9 o.2.1 r.2.1) l=c+(List.countP (λo=>x9 o.2.1 r.2.1) l+1) by omega]
variable {l:P8}
theorem Uz(hL:KT l)(hs:l.2.2[i]? =some s)(hr:s.2.2.2.2[k]? =some r)(h:VL r):uT l (i:Int) (k:Int)=some (Bi s (KI l s) k r):=by
 have hk:=(aF.1 hr).1;have hl:=(hL s (kW hs)).2.2.2;have hcnt:JU (s.2.2.2.2.take k) r.2.1<=100000:=by have:=mi (l:=s.2.2.2.2.take k) (p:=λ(o:bC)=>x9 o.2.1 r.2.1);unfold JU;simp at this;omega
 unfold uT Bi;rw[I9,hs,D5,I9,hr,D5,Cf h.1,D5];cases qZ r.1
 .rfl
 simp only[P7,o7,o6];refine Y3 (Kv (s.2.2.2.2.take k) (λ(c:Nat) (o:bC)=>l7 (seq o.1 r.1) (.inr (7:Int)) (.inl (l7 (x9 o.2.1 r.2.1) (c+1) c))) (λc i=>((c:Int),i)) (λc=>(c:Int)) (λi c=>c<=i) (b:=0) az o5 (λj a c ha hi hc=>?_) (λc hc=>?_)).1 ?_
 rotate_left 2
 .rw[UX];cases (s.2.2.2.2.take k).any λx=>seq x.1 r.1
  case true=>rfl
  simp only[o7,bU,D5,Z9];rw[zI r.2.1 0,Lt (o8 s.2.2.2.1) r.2.1];cases h0:U4 0 r.2.1
  .rw[LD (.inl h0)];rfl
  cases h1:F9 r.2.1 (o8 s.2.2.2.1)
  .rw[LD (.inr h1)];rfl
  obtain⟨d,hd,_⟩:=yY (zH.1 h0) (wB.1 h1);rw[hd];simp only[iG,o7,D5,Z9];have hpar:(l7 (E5 (x9 r.2.2.1 (-1))) (l7 (F9 r.2.2.1 0) (some (Sum.inr (9:Int))) (l7 (U4 (k:Int) r.2.2.1) (some (.inr 9)) (l9 (J7 s.2.2.2.2 r.2.2.1) λ(x:bC)=>l7 (E5 (x9 x.2.1 r.2.1)) (some (.inr 9)) (some (.inl PUnit.unit))))) (some (.inl PUnit.unit)))=
    some (l7 (l7 (x9 r.2.2.1 (-1)) false (l7 (F9 r.2.2.1 0) true (l7 (U4 k r.2.2.1) true (match J7 s.2.2.2.2 r.2.2.1 with|some q=>E5 (x9 q.2.1 r.2.1)|none=>true)))) (.inr 9) (.inl PUnit.unit)):=by
   cases x9 r.2.2.1 (-1)
   case true=>rfl
   simp only[dO,o6,o7];cases hp0:F9 r.2.2.1 0
   case true=>rfl
   cases hp1:U4 (k:Int) r.2.2.1
   case true=>rfl
   rw[iV]at hp0;rw[EX]at hp1;obtain⟨q,hq,_⟩:=yY (l:=s.2.2.2.2) hp0 (by simp only[o8];omega);rw[hq];simp only[D5,o7];cases x9 q.2.1 r.2.1<;>rfl
  rw[hpar,D5];cases (l7 (x9 r.2.2.1 (-1)) false (l7 (F9 r.2.2.1 0) true (l7 (U4 k r.2.2.1) true (match J7 s.2.2.2.2 r.2.2.1 with|some q=>E5 (x9 q.2.1 r.2.1)|none=>true))))
  case true=>rfl
  simp only[o7,Z9];cases F9 r.2.2.2.1 0
  case true=>rfl
  cases F9 9 r.2.2.2.1
  case true=>rfl
  simp only[o7,Fv,D5];cases Az r.2.2.2.2.1
  .rfl
  cases x9 r.2.2.2.2.1.1 r.2.2.2.2.1.2
  case true=>rfl
  simp only[P7,o6,o7,D5,Z9];cases U4 8 ((JU (s.2.2.2.2.take k) r.2.1:Nat):Int)
  case true=>rfl
  simp only[o7,Wx h.2.1,D5];cases UD r.2.2.2.2.2.2.2
  .rfl
  simp only[P7,o7,o6,D5,UA hL hs,JX,hd,Lp (KI l s) _ h.2.2.1,Lp (KI l s) _ h.2.2.2];cases F9 0 (o8 r.2.2.2.2.2.1)
  .rfl
  simp only[o6];cases x9 (EC r.2.2.2.2.2.1 (KI l s) (1,0)) 0<;>rfl
 .obtain⟨ha1,ha2⟩:=Nb ha;simp only[iM (show(j:Int)<(k:Int) by omega),o6,I9,ha2,D5];rw[dL (show j<=9000000000000000000 by omega),dL (show c<=9000000000000000000 by omega)];cases seq a.1 r.1
  .cases x9 a.2.1 r.2.1
   .exact⟨rfl,λb' hb=>by cases hb;show c<=j+1;omega⟩
   .exact⟨rfl,λb' hb=>by cases hb;show c+1<=j+1;omega⟩
  .exact⟨rfl,λb' hb=>by cases hb⟩
 .have e:(s.2.2.2.2.take k).length=k:=by simp;omega
  simp only[e,gX (show(k:Int)<=(k:Int) by omega)];rfl
structure SmS (s:O8):Prop where
 nm:s.1.length<=1000000
 ni:s.2.2.1.length<=14
 nd:s.2.2.2.1.length<=14
 nr:s.2.2.2.2.length<=96
 fo:QF s
 ro:∀r∈s.2.2.2.2,VL r/\r.2.2.2.2.2.1.length<=50/\r.2.2.2.2.2.2.1.length<=50
theorem WA:lL=nM:=rfl
def Kq(n:Int)(b:c2g×Bool)(a:Int):c2g×Bool:=l7 b.2 (b.1++[a],true) (l7 (U4 n a) (l7 (F9 n a) (b.1++[n]++[a],true) (b.1++[a],true)) (b.1++[a],false))
theorem ZM(n:Int):∀(l p:c2g),l.foldl (Kq n) (p,true)=(p++l,true)
 |[],p=>by simp|a::l,p=>by rw[ak,show Kq n (p,true) a=(p++[a],true)from rfl,ZM n l];simp
theorem a2X(n:Int):∀(l p:c2g),(l7 (l.foldl (Kq n) (p,false)).2 (l.foldl (Kq n) (p,false)).1 ((l.foldl (Kq n) (p,false)).1++[n]))=p++ins n l
 |[],p=>rfl|a::l,p=>by
  rw[ak];unfold ins;by_cases h1:n<=a
  .rw[if_pos h1];by_cases h2:n<a
   .rw[if_pos h2,show Kq n (p,false) a=(p++[n]++[a],true) by simp[Kq,oG h1,iM h2],ZM];simp
   .rw[if_neg h2,show Kq n (p,false) a=(p++[a],true) by simp[Kq,oG h1,gX (show a<=n by omega)],ZM];simp
  .rw[if_neg h1,show Kq n (p,false) a=(p++[a],false) by simp[Kq,oD (show a<n by omega)],a2X n l];simp
theorem Be{l:c2g}(n:Int)(hl:l.length<=1000000):nM l n=some (ins n l):=by
 unfold nM;refine gJ l (Kq n) (λb i=>(b.1,b.2,i)) (λb=>b) (λi b=>b.1.length<=i+1/\(b.2=false->b.1.length<=i)) (([],false):c2g×Bool) hl A8 (λi a b ha hi hI=>?_) (λb hI=>?_) (λh2=>?_)
 .obtain⟨o,d⟩:=b;simp only at hI;simp only[J9 ha,o6,I9,ha,D5];rw[dL o5];cases d
  .simp only[dO,o6,Kq,o7];have:=hI.2 rfl;cases U4 n a
   .rw[o7,mW a (show o.length<=1000000 by omega)];exact⟨rfl,by simp<;>omega,by simp<;>omega⟩
   .rw[o6];cases F9 n a
    .rw[o7,mW a (show o.length<=1000000 by omega)];exact⟨rfl,by simp<;>omega,A8⟩
    .rw[o6,mW n (show o.length<=1000000 by omega),D5,uF az];exact⟨rfl,by simp<;>omega,A8⟩
  .simp only[P7,o7,Kq,o6];rw[uF az];exact⟨rfl,by simp<;>omega,A8⟩
 .simp only[J8];rfl
 .have hf:=a2X n l [];generalize l.foldl (Kq n) ([],false)=b at*;obtain⟨o,d⟩:=b;cases d
  .simp only[o7,F6]at hf;simp only[dO,o6];rw[mW _ (by simp at h2;omega),hf];rfl
  .simp only[o6,F6]at hf;simp only[P7,o7,hf]
def isM(op:Int):Bool:=l7 (U4 36 op) (U4 op 39) false
theorem a8C(op:Int):isM op=l7 (x9 op 36) true (l7 (x9 op 37) true (l7 (x9 op 38) true (x9 op 39))):=by
 unfold isM;by_cases h1:36<=op
 .rw[oG h1,o6];by_cases h2:op<=39
  .rw[oG h2];have:op=36\/op=37\/op=38\/op=39:=o5;rcases this with rfl|rfl|rfl|rfl<;>rfl
  .rw[oD o5,kJ o5,kJ o5,kJ o5,kJ o5];rfl
 .rw[oD o5,kJ o5,kJ o5,kJ o5,kJ o5];rfl
def Qj(p:Int->Bool)(e:List (Int×Int)):c2g:=(e.filter λn=>p n.1).map (·.2)
def xB(e:List (Int×Int)):c2g×c2g×c2g:=(KO (Qj (λo=>x9 o 7) e),KO (Qj (λo=>x9 o 8) e),KO (Qj isM e))
def a2c(g:c2g->Int->c2g)(b:c2g×c2g×c2g)(n:Int×Int):c2g×c2g×c2g:=
 (l7 (x9 n.1 7) (g b.1 n.2) b.1,l7 (x9 n.1 8) (g b.2.1 n.2) b.2.1,l7 (isM n.1) (g b.2.2 n.2) b.2.2)
theorem Oa(g:c2g->Int->c2g):∀(e:List (Int×Int)) (b:c2g×c2g×c2g),e.foldl (a2c g) b=((Qj (λo=>x9 o 7) e).foldl g b.1,(Qj (λo=>x9 o 8) e).foldl g b.2.1,(Qj isM e).foldl g b.2.2)
 |[],b=>rfl|n::e,b=>by
  have hn:∀p:Int->Bool,Qj p (n::e)=l7 (p n.1) (n.2::Qj p e) (Qj p e):=λp=>by unfold Qj;rw[fA];cases p n.1<;>rfl
  rw[ak,Oa g e,hn,hn,hn];unfold a2c;simp only;cases x9 n.1 7<;>cases x9 n.1 8<;>cases isM n.1<;>rfl
theorem UZ:∀(l b:c2g),l.foldl (λacc n=>acc++[n]) b=b++l
 |[],b=>by simp|a::l,b=>by rw[ak,UZ l];simp
theorem Du{a k:Int}(h:a=k)(m:Int)(hm:k≠m):x9 a m=false:=kJ o5
theorem BN{l:c2g}(hl:l.length<=1000000):qp l=some (KO l):=by unfold qp;have:=a7O (l:=l) hl;rw[show(λx=>l9 (nG x) λ(x:c2g)=>some x)=λx=>nG x from funext λx=>yK _];exact this
theorem JG(h:e.length<=1000000):qh e=some (xB e):=by
 unfold qh;refine gJ e (a2c (λacc n=>acc++[n])) (λb i=>(b.1,b.2.1,b.2.2,i)) (λb=>b) (λi b=>b.1.length<=i/\b.2.1.length<=i/\b.2.2.length<=i) (([],[],[]):c2g×c2g×c2g) h A8 (λi a b ha hi hI=>?_) (λb hI=>?_) (λh2=>?_)
 .obtain⟨b1,b2,b3⟩:=b;simp only at hI;simp only[J9 ha,o6,I9,ha,D5,mW a.2 (show b1.length<=1000000 by omega),mW a.2 (show b2.length<=1000000 by omega),mW a.2 (show b3.length<=1000000 by omega),a2c,a8C];rw[dL o5];by_cases h7:a.1=7
  .rw[iw h7,Du h7 8 I8,Du h7 36 I8,Du h7 37 I8,Du h7 38 I8,Du h7 39 I8];exact⟨rfl,by simp<;>omega,by simp<;>omega,by simp<;>omega⟩
  rw[kJ h7];by_cases h8:a.1=8
  .rw[iw h8,Du h8 36 I8,Du h8 37 I8,Du h8 38 I8,Du h8 39 I8];exact⟨rfl,by simp<;>omega,by simp<;>omega,by simp<;>omega⟩
  rw[kJ h8];cases x9 a.1 36<;>cases x9 a.1 37<;>cases x9 a.1 38<;>cases x9 a.1 39<;>exact⟨rfl,by simp<;>omega,by simp<;>omega,by simp<;>omega⟩
 .simp only[J8];rfl
 .rw[Oa]at h2 ⊢;simp only[UZ,F6]at h2 ⊢;rw[BN o5,D5,BN o5,D5,BN o5];rfl
theorem HY(h:e.length<=500000):oO e=some (xB e):=by
 unfold oO;refine gJ e (a2c (λacc n=>ins n acc)) (λb i=>(b.1,b.2.1,b.2.2,i)) (λb=>b) (λi b=>b.1.length<=i/\b.2.1.length<=i/\b.2.2.length<=i) (([],[],[]):c2g×c2g×c2g) o5 A8 (λi a b ha hi hI=>?_) (λb hI=>?_) (λh2=>?_)
 .obtain⟨b1,b2,b3⟩:=b;simp only at hI;have l1:=uY a.2 b1;have l2:=uY a.2 b2;have l3:=uY a.2 b3;rw[WA];simp only[J9 ha,o6,I9,ha,D5,Be a.2 (show b1.length<=1000000 by omega),Be a.2 (show b2.length<=1000000 by omega),Be a.2 (show b3.length<=1000000 by omega),a2c,isM];rw[dL o5];by_cases h7:a.1=7
  .rw[iw h7,Du h7 8 I8,oD (show a.1<36 by omega)];exact⟨rfl,by simp<;>omega,by simp<;>omega,by simp<;>omega⟩
  rw[kJ h7];cases x9 a.1 8<;>cases U4 36 a.1<;>cases U4 a.1 39<;>exact⟨rfl,by simp<;>omega,by simp<;>omega,by simp<;>omega⟩
 .simp only[J8];rfl
 .rw[Oa];rfl
theorem a3m(p:Int->Bool)(e:List (Int×Int)):(Qj p e).length<=e.length:=by unfold Qj;rw[U5];exact bV _ _
theorem Aa(e:List (Int×Int)):(xB e).2.1.length<=e.length:=aJ (XX _) (a3m _ e)
def inD(n d:Int):Bool:=l7 (U4 0 d) (F9 d n) false
def zA(n:Int)(r:bC):c2g:=(xB r.2.2.2.2.2.1).2.1.filter (inD n)++(xB r.2.2.2.2.2.2.1).2.1.filter (inD n)
theorem RH(p:Int->Bool):∀(l b:c2g),l.foldl (λacc x=>l7 (p x) (acc++[x]) acc) b=b++l.filter p
 |[],b=>by simp|a::l,b=>by rw[ak,RH p l,fA];cases p a<;>simp
variable {f:c2g×Int->Option ((c2g×Int)⊕c2g)}
theorem UW(l b:c2g)(n:Int)(hl:l.length<=1000)(hb:b.length<=1000)
  (hin:∀(i:Nat) (a:Int) (acc:c2g),l[i]? =some a->i<=1000000->f (acc,(i:Int))=l7 (U4 0 a) (l7 (F9 a n) (l9 (bu acc [a]) λx=>some (.inl (x,D7 .i64 (i:Int) 1))) (some (.inl (acc,D7 .i64 (i:Int) 1)))) (some (.inl (acc,D7 .i64 (i:Int) 1))))
  (hend:∀acc,f (acc,(l.length:Int))=some (.inr acc)):dH f (b,0)=some (b++l.filter (inD n)):=by
 have key:=Fe l (λ(acc:c2g) x=>l7 (inD n x) (acc++[x]) acc) (λb i=>(b,i)) (λb=>b) (λi acc=>acc.length<=1000+i) (f:=f) (b:=b) o5 o5 ?_ ?_
 .rw[key.1,RH]
 .intro i a acc ha hi hI;have:=(aF.1 ha).1;rw[hin i a acc ha hi,dL o5,mW _ o5];unfold inD;cases U4 0 a
  .exact⟨rfl,by show acc.length<=_;omega⟩
  cases F9 a n
  .exact⟨rfl,by show acc.length<=_;omega⟩
  .exact⟨rfl,by simp;omega⟩
 .intro acc hI;rw[hend]
theorem NE(n:Int)(h1:r.2.2.2.2.2.1.length<=50)(h2:r.2.2.2.2.2.2.1.length<=50):pO r n=some (zA n r):=by
 have g1:=Aa r.2.2.2.2.2.1;have g2:=Aa r.2.2.2.2.2.2.1;unfold pO zA;rw[JG o5,D5,JG o5,D5];refine Y3 (UW (xB r.2.2.2.2.2.1).2.1 [] n o5 A8 (λi a acc ha hi=>?_) (λacc=>?_)) ?_
 rotate_left 2
 .rw[D5,yK,F6];have:=bV (inD n) (xB r.2.2.2.2.2.1).2.1;refine UW (xB r.2.2.2.2.2.2.1).2.1 _ n o5 o5 (λi a acc ha hi=>?_) (λacc=>?_)
  .simp only[J9 ha,o6,I9,ha,D5];rw[show X0 (xB r.2.2.2.2.2.2.1).2.1 (P6 (i:Int))=some a from ha,D5]
  .simp only[J8];rfl
 .simp only[J9 ha,o6,I9,ha,D5];rw[show X0 (xB r.2.2.2.2.2.1).2.1 (P6 (i:Int))=some a from ha,D5]
 .simp only[J8];rfl
def nD(s:O8):Int:=o8 s.2.2.2.1
def dl(n:Int)(rs:List bC)(d:Int):c2g:=rs.flatMap λr=>l7 (x9 r.2.1 d) (zA n r) []
def lq(s:O8)(d:Int):c2g:=l7 (inD (nD s) d) (KO (dl (nD s) s.2.2.2.2 d)) []
theorem NZ(h:SmS s)(hr:r∈s.2.2.2.2)(n:Int):(zA n r).length<=100:=by obtain⟨_,h1,h2⟩:=h.ro r hr;have a1:=Aa r.2.2.2.2.2.1;have a2:=Aa r.2.2.2.2.2.2.1;have b1:=bV (inD n) (xB r.2.2.2.2.2.1).2.1;have b2:=bV (inD n) (xB r.2.2.2.2.2.2.1).2.1;unfold zA;rw[N8];omega
theorem a0B(n:Int)(rs:List bC)(r:bC)(d:Int):dl n (rs++[r]) d=dl n rs d++l7 (x9 r.2.1 d) (zA n r) []:=by unfold dl;rw[List.flatMap_append];simp
theorem a0A(n:Int)(rs:List bC)(r:bC)(d:Int):dl n (r::rs) d=l7 (x9 r.2.1 d) (zA n r) []++dl n rs d:=rfl
theorem Zz{s:O8}(h:SmS s)(n d:Int):∀(rs:List bC),(∀r∈rs,r∈s.2.2.2.2)->(dl n rs d).length<=100*rs.length
 |[],_=>by simp[dl]|r::rs,hm=>by
  have ih:=Zz h n d rs λr hr=>hm r (by simp[hr]);have h1:=NZ h (hm r A8) n;rw[a0A,N8,G8];cases x9 r.2.1 d
  .simp only[o7,bM];omega
  .simp only[o6];omega
variable {d:Int}{x:Int}
theorem a8F{n:Int}{rs:List bC} :x∈dl n rs d↔∃r∈rs,r.2.1=d/\x∈zA n r:=by
 unfold dl;rw[List.mem_flatMap];constructor
 .rintro⟨r,hr,hx⟩;cases hq:x9 r.2.1 d<;>rw[hq]at hx
  .simp at hx
  .exact⟨r,hr,gW.1 hq,hx⟩
 .rintro⟨r,hr,hq,hx⟩;exact⟨r,hr,by rw[iw hq];exact hx⟩
theorem a4k{n:Int}(h:x∈zA n r):0<=x/\x<n:=by
 have key:inD n x=true:=by unfold zA at h;rcases H5.1 h with h|h<;>exact(ku.1 h).2
 unfold inD at key;cases h0:U4 0 x<;>rw[h0]at key
 .cases key
 .exact⟨zH.1 h0,wB.1 key⟩
theorem DU(s:O8)(d:Int):SI (lq s d):=by
 unfold lq;cases inD (nD s) d
 .exact List.Pairwise.nil
 .exact a1f _
theorem zT(h:x∈lq s d):0<=x/\x<nD s:=by
 unfold lq at h;cases hq:inD (nD s) d<;>rw[hq]at h
 .simp at h
 .obtain⟨r,_,_,hx⟩:=a8F.1 ((Yc _ _).1 h);exact a4k hx
theorem XL(s:O8)(l b:c2g)(hl:l.length<=1000)(hb:b.length<=100000)
  (hin:∀(i:Nat) (a:Int) (acc:c2g),l[i]? =some a->i<=1000000->f (acc,(i:Int))=l9 (Bh s a) λx=>l7 x (l9 (nM acc a) λx=>some (.inl (x,D7 .i64 (i:Int) 1))) (some (.inl (acc,D7 .i64 (i:Int) 1))))
  (hend:∀acc,f (acc,(l.length:Int))=some (.inr acc)):dH f (b,0)=some (Dw (l.filter (inD (nD s))) b):=by
 have key:=Fe l (λ(acc:c2g) x=>l7 (inD (nD s) x) (ins x acc) acc) (λb i=>(b,i)) (λb=>b) (λi acc=>acc.length<=100000+i) (f:=f) (b:=b) o5 o5 ?_ ?_
 .have hf:∀(l b:c2g),l.foldl (λ(acc:c2g) x=>l7 (inD (nD s) x) (ins x acc) acc) b=Dw (l.filter (inD (nD s))) b:=by
   intro l;induction l with
   |nil=>intro b;rfl|cons a l ih=>intro b;rw[ak,ih,fA];cases inD (nD s) a<;>rfl
  rw[key.1,hf]
 .intro i a acc ha hi hI;have hlt:=(aF.1 ha).1;have h2:=uY a acc;rw[hin i a acc ha hi,a4h,D5,dL o5,Be _ o5];change l7 (inD (nD s) a) _ _=_/\_;cases inD (nD s) a
  .exact⟨rfl,by show acc.length<=_;omega⟩
  .exact⟨rfl,by show(ins a acc).length<=_;omega⟩
 .intro acc hI;rw[hend]
theorem SX(h:SmS s)(d:Int):wO s d=some (lq s d):=by
 have hnr:=h.nr;unfold wO lq;rw[a4h,D5];change l7 (E5 (inD (nD s) d)) _ _=_;cases inD (nD s) d
 .rfl
 simp only[P7,o7,o6];refine gJ s.2.2.2.2 (λ(acc:c2g) r=>l7 (x9 r.2.1 d) (Dw (zA (nD s) r) acc) acc) (λb i=>(b,i)) (λb=>b) (λi acc=>acc.length<=100*i) [] o5 A8 (λi r acc ha hi hI=>?_) (λacc hI=>?_) (λh2=>?_)
 .have hlt:=(aF.1 ha).1;obtain⟨_,h1,h2⟩:=h.ro r (kW ha);have a1:=Aa r.2.2.2.2.2.1;have a2:=Aa r.2.2.2.2.2.2.1;have hlen:=BX (zA (nD s) r) acc;have hrl:=NZ h (kW ha) (nD s);simp only[J9 ha,o6,I9,ha,D5];rw[dL o5];cases x9 r.2.1 d
  .exact⟨rfl,by show acc.length<=_;omega⟩
  simp only[P7,o7,o6,HY (show r.2.2.2.2.2.1.length<=500000 by omega),HY (show r.2.2.2.2.2.2.1.length<=500000 by omega),D5];refine⟨?_,by show(Dw (zA (nD s) r) acc).length<=_;omega⟩;refine Y3 (XL s (xB r.2.2.2.2.2.1).2.1 acc o5 o5 (λi a acc ha hi=>?_) (λacc=>?_)) ?_
  rotate_left 2
  .rw[D5];have hl2:=BX ((xB r.2.2.2.2.2.1).2.1.filter (inD (nD s))) acc;have hl3:=bV (inD (nD s)) (xB r.2.2.2.2.2.1).2.1;refine Y3 (XL s (xB r.2.2.2.2.2.2.1).2.1 _ o5 o5 (λi a acc ha hi=>?_) (λacc=>?_)) ?_
   rotate_left 2
   .rw[D5];unfold zA;rw[Po]
   .simp only[J9 ha,o6,I9,ha,D5];rw[show X0 (xB r.2.2.2.2.2.2.1).2.1 (P6 (i:Int))=some a from ha];rfl
   .simp only[J8];rfl
  .simp only[J9 ha,o6,I9,ha,D5];rw[show X0 (xB r.2.2.2.2.2.1).2.1 (P6 (i:Int))=some a from ha];rfl
  .simp only[J8];rfl
 .simp only[J8];rfl
 .have hf:∀(l:List bC) (b:c2g),l.foldl (λ(acc:c2g) r=>l7 (x9 r.2.1 d) (Dw (zA (nD s) r) acc) acc) b=Dw (dl (nD s) l d) b:=by
   intro l;induction l with
   |nil=>intro b;rfl|cons a l ih=>intro b;rw[ak,ih,a0A,Po];cases x9 a.2.1 d<;>rfl
  rw[hf];rfl
theorem a0P(m k:Nat)(f:Nat->α)(v:α):((List.range m).map f).set k v=(List.range m).map λd=>if d=k then v else f d:=by
 apply aI;intro i;rw[I7,dF,dF,U5,eP];by_cases hi:i<m
 .rw[List.getElem?_range hi];by_cases h:k=i
  .subst h;simp[hi]
  .simp[h,Ne.symm h]
 .have:(List.range m)[i]? =none:=by simp;omega
  rw[this];by_cases h:k=i
  .subst h;simp[hi]
  .simp[h]
def QO(m:Nat)(rs:List bC):List c2g:=(List.range m).map λ(d:Nat)=>dl (m:Int) rs (d:Int)
theorem Xc{l:c2g}(hl:l.length<=1000000):Aw l=some (KO l):=BN hl
theorem Wl(m:Nat)(f:Nat->α)(h:k<m):((List.range m).map f)[k]? =some (f k):=by rw[dF,List.getElem?_range h];rfl
theorem VO(h:SmS s):qR s=some ((List.range s.2.2.2.1.length).map λ(d:Nat)=>lq s (d:Int)):=by
 have hnr:=h.nr;have hnd:=h.nd;unfold qR;generalize hm:s.2.2.2.1.length=m at*;have hn:nD s=(m:Int):=by unfold nD o8;rw[hm]
 rw[show o8 s.2.2.2.1=(m:Int)from hn,show yJ (m:Int) ([]:c2g)=some (QO m []) by unfold yJ QO dl;rw[if_pos o5];simp[List.map_const'],D5];refine gJ s.2.2.2.2 (λ(b:List c2g) r=>l7 (inD m r.2.1) (b.set r.2.1.toNat ((b.getD r.2.1.toNat [])++zA m r)) b) (λb i=>(b,i)) (λb=>b) (λi b=>b=QO m (s.2.2.2.2.take i)) (QO m []) o5 A8 (λi r b ha hi hI=>?_) (λb hI=>?_) (λh2=>?_)
 .have hlt:=(aF.1 ha).1;obtain⟨_,h1,h2⟩:=h.ro r (kW ha);have hst:s.2.2.2.2.take (i+1)=s.2.2.2.2.take i++[r]:=by
   rw[V6 hlt,(aF.1 ha).2]
  have hlb:o8 b=(m:Int):=by rw[hI];simp[o8,QO]
  obtain⟨rd,hrd⟩:∃rd:Int,r.2.1=rd:=⟨r.2.1,rfl⟩;simp only[J9 ha,o6,I9,ha,D5,hlb,hrd];rw[dL o5,hst];by_cases hd:0<=rd/\rd<(m:Int)
  .obtain⟨d0,d1⟩:=hd;have hk:rd.toNat<m:=o5;have hkk:((rd.toNat:Nat):Int)=rd:=o5;have hg:b[rd.toNat]? =some (dl m (s.2.2.2.2.take i) rd):=by rw[hI];unfold QO;rw[Wl m _ hk,hkk]
   have hll:=Zz h m rd (s.2.2.2.2.take i) λr hr=>List.mem_of_mem_take hr;have hrl:=NZ h (kW ha) m;have htl:(s.2.2.2.2.take i).length<=96:=by simp;omega
   rw[oG d0,iM d1,show inb rd (m:Int)=true by unfold inb;simp;omega,show X0 b (P6 rd)=some (dl m (s.2.2.2.2.take i) rd)from hg,NE _ h1 h2];simp only[o6,D5];rw[uF o5,show nX (P6 rd) (P6 rd)=true by simp[nX]];simp only[o6,D5];have hin:inD m rd=true:=by unfold inD;rw[oG d0,iM d1];rfl
   rw[hin,show b.getD rd.toNat []=dl m (s.2.2.2.2.take i) rd by rw[NK,hg];rfl];refine⟨rfl,?_⟩;show b.set rd.toNat _=_;rw[hI];unfold QO;rw[a0P];apply eQ;intro d hdm;rw[a0B,hrd];by_cases hq:d=rd.toNat
   .subst hq;rw[if_pos rfl,hkk,iw rfl];rfl
   .rw[if_neg hq,kJ o5];simp
  .have hin:inD m rd=false:=by
    unfold inD;by_cases d0:0<=rd
    .rw[oG d0,gX o5];rfl
    .rw[oD o5];rfl
   rw[hin];refine⟨?_,?_⟩
   .unfold inD at hin;cases q0:U4 0 rd
    .rfl
    .rw[q0]at hin;simp only[o6]at hin ⊢;rw[hin];rfl
   .show b=_;rw[hI];unfold QO;apply eQ;intro d hdm;have:=dM.1 hdm;rw[a0B,hrd,kJ o5];simp
 .simp only[J8];rfl
 .rw[aU]at h2;rw[h2];generalize hA:QO m s.2.2.2.2=A;have hAl:o8 A=(m:Int):=by rw[←hA];simp[o8,QO]
  refine gJ (List.range m) (λ(b:List c2g) d=>b.set d (KO (b.getD d []))) (λb i=>(b,i)) (λb=>b) (λi b=>b=(List.range m).map λ(d:Nat)=>if d<i then KO (dl m s.2.2.2.2 (d:Int))else dl m s.2.2.2.2 (d:Int)) A az (by rw[←hA];unfold QO;simp) (λi d b ha hi hI=>?_) (λb hI=>?_) (λh3=>?_)
  .have hlt:=(aF.1 ha).1;simp only[eP]at hlt;have hdi:d=i:=by rw[List.getElem?_range hlt]at ha;exact(iT ha).symm
   subst hdi;have hlb:o8 b=(m:Int):=by rw[hI];simp[o8]
   have hg:b[d]? =some (dl m s.2.2.2.2 (d:Int)):=by rw[hI,Wl m _ hlt,if_neg o5]
   have hll:=Zz h m d s.2.2.2.2 λr hr=>hr;simp only[hAl,hlb];rw[iM (show(d:Int)<(m:Int) by omega),show inb (d:Int) (m:Int)=true by unfold inb;simp;omega,show X0 b (P6 (d:Int))=some (dl m s.2.2.2.2 (d:Int))from hg];simp only[o6,D5];rw[Xc o5,show nX (P6 (d:Int)) (P6 (d:Int))=true by simp[nX],dL o5];simp only[o6,D5];rw[show b.getD d []=dl m s.2.2.2.2 (d:Int) by rw[NK,hg];rfl];refine⟨rfl,?_⟩;rw[hI,a0P];apply eQ;intro e he;by_cases hq:e=d
   .subst hq;rw[if_pos rfl,if_pos o5]
   .rw[if_neg hq];by_cases hq2:e<d
    .rw[if_pos hq2,if_pos o5]
    .rw[if_neg hq2,if_neg o5]
  .simp only[eP,hAl,gX (show(m:Int)<=(m:Int) by omega)];rfl
  .rw[h3];apply congrArg some;apply eQ;intro d hd;have:=dM.1 hd;simp only[eP];rw[if_pos this];unfold lq;rw[hn,show inD (m:Int) (d:Int)=true by unfold inD;rw[oG o5,iM o5];rfl];rfl
def Rch(D:Int->c2g)(d:Int)(L:c2g):Prop:=SI L/\(∀x∈D d,x∈L)/\(∀x∈L,∀y∈D x,y∈L)/\∀C:Int->Prop,(∀x∈D d,C x)->(∀x,C x->∀y∈D x,C y)->∀x∈L,C x
theorem Rch.unique{D:Int->c2g}{L M:c2g}(h:Rch D d L)(k:Rch D d M):L=M:=
 F_ h.1 k.1 λx=>⟨λhx=>h.2.2.2 (λy=>y∈M) k.2.1 k.2.2.1 x hx,λhx=>k.2.2.2 (λy=>y∈L) h.2.1 h.2.2.1 x hx⟩
theorem Xg:∀{B A:c2g},SI A->SI B->(∀x∈A,x∈B)->A=B\/A.length<B.length
 |[],A,_,_,h=>by
  cases A with
  |nil=>exact .inl rfl|cons a A=>exact absurd (h a A8) A8
 |b::B,[],_,_,_=> .inr A8|b::B,a::A,hA,hB,h=>by
  have hA' :=U6.1 hA;have hB' :=U6.1 hB;rcases C9.1 (h a A8)with hab|hab
  .subst hab;rcases Xg (B:=B) (A:=A) hA'.2 hB'.2 (λx hx=>by
    rcases C9.1 (h x (by simp[hx]))with h1|h1
    .have:=hA'.1 x hx;omega
    .exact h1)with h1|h1
   .exact .inl (by rw[h1])
   .exact .inr (by simp only[G8];omega)
  .have hab2:=hB'.1 a hab;rcases Xg (B:=B) (A:=a::A) hA hB'.2 (λx hx=>by
    rcases C9.1 (h x hx)with h1|h1
    .rcases C9.1 hx with h2|h2
     .omega
     .have:=hA'.1 x h2;omega
    .exact h1)with h1|h1
   .exact .inr (by rw[h1];simp)
   .exact .inr (by simp only[G8]at*;omega)
def En(D:Int->c2g)(L:c2g):c2g:=L.foldl (λacc x=>Dw (D x) acc) L
theorem Eo(D:Int->c2g)(x:Int):∀(l acc:c2g),x∈l.foldl (λacc x=>Dw (D x) acc) acc↔x∈acc\/∃y∈l,x∈D y
 |[],acc=>by simp|a::l,acc=>by
  rw[ak,Eo D x l,LP];constructor
  .rintro((h|h)|⟨y,hy,h⟩)
   .exact .inr ⟨a,A8,h⟩
   .exact .inl h
   .exact .inr ⟨y,by simp[hy],h⟩
  .rintro(h|⟨y,hy,h⟩)
   .exact .inl (.inr h)
   .rcases C9.1 hy with rfl|hy
    .exact .inl (.inl h)
    .exact .inr ⟨y,hy,h⟩
theorem a0V(D:Int->c2g):∀(l:c2g) {acc:c2g},SI acc->SI (l.foldl (λacc x=>Dw (D x) acc) acc)
 |[],_,h=>h|a::l,_,h=>by rw[ak];exact a0V D l (QC _ h)
theorem SH(D:Int->c2g){L:c2g}(h:SI L):SI (En D L):=a0V D L h
def itS(D:Int->c2g)(d:Int):Nat->c2g
 |0=>D d|k+1=>En D (itS D d k)
section
variable {D:Int->c2g} {n:Nat} (hsi:∀x,SI (D x)) (hin:∀x,∀y∈D x,0<=y/\y<(n:Int))
include hsi hin
theorem Vj(d:Int):∀k,SI (itS D d k)
 |0=>hsi d|k+1=>SH D (Vj d k)
theorem a0K(d:Int):∀k,∀x∈itS D d k,0<=x/\x<(n:Int)
 |0,x,hx=>hin d x hx|k+1,x,hx=>by
  rcases(Eo D x _ _).1 hx with h|⟨y,_,h⟩
  .exact a0K d k x h
  .exact hin y x h
theorem a0J(d:Int)(k:Nat):En D (itS D d k)=itS D d k\/(itS D d k).length<(En D (itS D d k)).length:=by
 rcases Xg (Vj hsi hin d k) (SH D (Vj hsi hin d k)) (λx hx=>(Eo D x _ _).2 (.inl hx))with h|h
 .exact .inl h.symm
 .exact .inr h
theorem Vk(d:Int):∀k,En D (itS D d k)=itS D d k\/k<(En D (itS D d k)).length
 |0=>by
  rcases a0J hsi hin d 0 with h|h
  .exact .inl h
  .exact .inr o5
 |k+1=>by
  rcases Vk d k with h|h
  .exact .inl (by show En D (En D (itS D d k))=En D (itS D d k);rw[h,h])
  .rcases a0J hsi hin d (k+1)with h2|h2
   .exact .inl h2
   .exact .inr (by have:(itS D d (k+1)).length=(En D (itS D d k)).length:=rfl;omega)
theorem a8D(d:Int):Rch D d (itS D d n):=by
 have hst:En D (itS D d n)=itS D d n:=by
  rcases Vk hsi hin d n with h|h
  .exact h
  .have:=WR n (SH D (Vj hsi hin d n)) (a0K hsi hin d (n+1));omega
 refine⟨Vj hsi hin d n,?_,?_,?_⟩
 .intro x hx;have:∀k,x∈itS D d k:=by
   intro k;induction k with
   |zero=>exact hx|succ k ih=>exact(Eo D x _ _).2 (.inl ih)
  exact this n
 .intro x hx y hy;rw[←hst];exact(Eo D y _ _).2 (.inr ⟨x,hx,hy⟩)
 .intro C h1 h2;have:∀k,∀x∈itS D d k,C x:=by
   intro k;induction k with
   |zero=>exact h1|succ k ih=>
    intro x hx;rcases(Eo D x _ _).1 hx with h|⟨y,hy,h⟩
    .exact ih x h
    .exact h2 y (ih y hy) x h
  exact this n
end
def vC(s:O8)(d:Int):c2g:=itS (lq s) d s.2.2.2.1.length
theorem OH(s:O8)(d:Int):Rch (lq s) d (vC s d):=
 a8D (n:=s.2.2.2.1.length) (DU s) (λx y hy=>zT hy) d
theorem Za(h:x∈vC s d):0<=x/\x<nD s:=a0K (n:=s.2.2.2.1.length) (DU s) (λx y hy=>zT hy) d _ x h
theorem Zy(h:SmS s)(d:Int):(lq s d).length<=14:=
 aJ (WR s.2.2.2.1.length (DU s d) (λx hx=>zT hx)) h.nd
theorem EY(h:SmS s){l:c2g}(hs:SI l)(hi:∀x∈l,0<=x/\x<nD s):l.length<=14:=aJ (WR s.2.2.2.1.length hs hi) h.nd
theorem Td(h:SmS s)(d:Int):sF s d=some (vC s d):=by
 have hnd:=h.nd;unfold sF;rw[SX h,D5];have hsi:=DU s;have hin:∀x,∀y∈lq s x,0<=y/\y<((s.2.2.2.1.length:Nat):Int):=λx y hy=>zT hy;refine gJ s.2.2.2.1 (λ(b:c2g) (_:dY)=>En (lq s) b) (λb i=>(b,i)) (λb=>b) (λi b=>b=itS (lq s) d i) (lq s d) o5 rfl (λi f b ha hi hI=>?_) (λb hI=>?_) (λh2=>?_)
 .simp only[J9 ha,o6];refine⟨?_,by show En _ b=_;rw[hI];rfl⟩;have hb1:SI b:=by rw[hI];exact Vj hsi hin d i
  have hb2:∀x∈b,0<=x/\x<nD s:=by rw[hI];exact a0K hsi hin d i
  have hbl:=EY h hb1 hb2;rw[dL o5];refine gJ b (λ(acc:c2g) x=>Dw (lq s x) acc) (λb i=>(b,i)) (λb=>b) (λi acc=>SI acc/\∀x∈acc,0<=x/\x<nD s) b o5 ⟨hb1,hb2⟩ (λj x acc hx hj hJ=>?_) (λacc hJ=>?_) (λh3=>?_)
  .have hal:=EY h hJ.1 hJ.2;have hdl:=Zy h x;simp only[J9 hx,o6,I9,hx,D5,SX h x];rw[dL o5];refine⟨?_,QC _ hJ.1,λy hy=>?_⟩
   .refine gJ (lq s x) (λ(acc:c2g) y=>ins y acc) (λb i=>(b,i)) (λb=>b) (λi a=>a.length<=acc.length+i) acc o5 o5 (λk y a hy hk hK=>?_) (λa hK=>?_) (λh4=>?_)
    .have hlt:=(aF.1 hy).1;have hli:=uY y a;simp only[J9 hy,o6,I9,hy,D5];rw[show X0 (lq s x) (P6 (k:Int))=some y from hy,D5,Be _ o5,D5,dL o5];exact⟨rfl,by show(ins y a).length<=_;omega⟩
    .simp only[J8];rfl
    .rfl
   .rcases(LP y _ _).1 hy with h4|h4
    .exact zT h4
    .exact hJ.2 y h4
  .simp only[J8];rfl
  .rfl
 .simp only[J8];rfl
 .rw[h2];rfl
def mk(S:List Bool)(x:Int):Bool:=if 0<=x then S.getD x.toNat false else false
def unm(S:List Bool):Nat:=S.count false
def rG(b:List Bool×c2g)(e:Int):List Bool×c2g:=l7 (mk b.1 e) b (b.1.set e.toNat true,b.2++[e])
variable {S:List Bool}
theorem a3e(h0:0<=x)(h1:x<o8 S):S[x.toNat]? =some (mk S x):=by
 unfold mk;rw[if_pos h0,NK];have:x.toNat<S.length:=by simp only[o8]at h1;omega
 rw[iP this];rfl
theorem a3f{e:Int}(h0:0<=e)(h1:e<o8 S)(x:Int):mk (S.set e.toNat true) x=l7 (x9 x e) true (mk S x):=by
 unfold mk;have hl:e.toNat<S.length:=by simp only[o8]at h1;omega
 by_cases hx:0<=x
 .rw[if_pos hx,if_pos hx,NK,NK,I7];by_cases hq:x=e
  .subst hq;rw[if_pos rfl,if_pos hl,iw rfl];rfl
  .rw[if_neg o5,kJ hq];rfl
 .rw[if_neg hx,if_neg hx,kJ o5];rfl
theorem a7Q{e:Int}(h0:0<=e)(h1:e<o8 S)(hm:mk S e=false):unm (S.set e.toNat true)+1=unm S:=by
 have hl:e.toNat<S.length:=by simp only[o8]at h1;omega
 have hg:=a3e h0 h1;rw[hm,iP hl]at hg;have hg' :S[e.toNat]=false:=iT hg;unfold unm;rw[List.count_set hl,hg'];have:0<S.count false:=List.count_pos_iff.2 (by rw[←hg'];exact L8 hl);simp;omega
structure RInv (n:Nat) (S:List Bool) (Q:c2g) (l:c2g) (S' :List Bool) (Q' :c2g):Prop where
 len:S'.length=n
 seen:∀x:Int,0<=x->x<(n:Int)->(mk S' x=true↔mk S x=true\/x∈l)
 sum:Q'.length+unm S' =Q.length+unm S
 le:unm S' <=unm S
 old:∀x∈Q,x∈Q'
 new:∀x∈Q',x∈Q\/x∈l
 got:∀x,mk S' x=true->mk S x=true\/x∈Q'
theorem a4p{n:Nat} :∀(l:c2g) (S:List Bool) (Q:c2g),S.length=n->(∀x∈l,0<=x/\x<(n:Int))->RInv n S Q l (l.foldl rG (S,Q)).1 (l.foldl rG (S,Q)).2
 |[],S,Q,hl,_=>⟨hl,λx _ _=>by simp,rfl,D9 _,λx hx=>hx,λx hx=> .inl hx,λx hx=> .inl hx⟩|e::l,S,Q,hl,hi=>by
  have he:=hi e A8;have hel:e<o8 S:=by simp only[o8];omega
  rw[ak];cases hm:mk S e with
  |true=>
   rw[show rG (S,Q) e=(S,Q) by unfold rG;rw[hm];rfl];have ih:=a4p l S Q hl λx hx=>hi x (by simp[hx]);refine⟨ih.len,λx h0 h1=>?_,ih.sum,ih.le,ih.old,λx hx=>?_,ih.got⟩
   .rw[ih.seen x h0 h1,C9];constructor
    .rintro(h|h)
     .exact .inl h
     .exact .inr (.inr h)
    .rintro(h|h|h)
     .exact .inl h
     .subst h;exact .inl hm
     .exact .inr h
   .rcases ih.new x hx with h|h
    .exact .inl h
    .exact .inr (by simp[h])
  |false=>
   rw[show rG (S,Q) e=(S.set e.toNat true,Q++[e]) by unfold rG;rw[hm];rfl];have ih:=a4p l (S.set e.toNat true) (Q++[e]) (by simp[hl]) λx hx=>hi x (by simp[hx]);have hu:=a7Q he.1 hel hm;refine⟨ih.len,λx h0 h1=>?_,?_,?_,λx hx=>ih.old x (by simp[hx]),λx hx=>?_,λx hx=>?_⟩
   .rw[ih.seen x h0 h1,a3f he.1 hel,C9];cases hq:x9 x e
    .rw[Dv]at hq;simp[hq]
    .rw[gW]at hq;simp[hq]
   .have:=ih.sum;simp only[N8,G8,bM]at this;omega
   .have:=ih.le;omega
   .rcases ih.new x hx with h|h
    .rcases H5.1 h with h|h
     .exact .inl h
     .exact .inr (by simp at h;simp[h])
    .exact .inr (by simp[h])
   .rcases ih.got x hx with h|h
    .rw[a3f he.1 hel]at h;cases hq:x9 x e
     .rw[hq]at h;exact .inl h
     .rw[gW]at hq;subst hq;exact .inr (ih.old _ A8)
    .exact .inr h
def Px(S:List Bool):c2g:=((List.range S.length).filter λi=>S.getD i false).map λ(i:Nat)=>(i:Int)
theorem Jb(x:Int):x∈Px S↔mk S x=true:=by
 unfold Px mk;rw[qJ];constructor
 .rintro⟨i,hi,rfl⟩;rw[if_pos o5];exact(ku.1 hi).2
 .intro h;split at h
  .refine⟨x.toNat,ku.2 ⟨dM.2 ?_,h⟩,o5⟩;rw[NK]at h;cases hg:S[x.toNat]? with
   |none=>rw[hg]at h;cases h|some b=>exact(aF.1 hg).1
  .cases h
theorem a3c(S:List Bool):SI (Px S):=by unfold Px;refine List.Pairwise.map _ (R:=(·< ·)) (λa b h=>by omega) (List.Pairwise.filter _ List.pairwise_lt_range)
theorem ZT(S:List Bool)(hS:S.length<=100)
  (hin:∀(i:Nat) (a:Bool) (acc:c2g),S[i]? =some a->i<=1000000->acc.length<=i->f (acc,(i:Int))=l7 a (l9 (bu acc [(i:Int)]) λx=>some (.inl (x,D7 .i64 (i:Int) 1))) (some (.inl (acc,D7 .i64 (i:Int) 1))))
  (hend:∀acc,f (acc,(S.length:Int))=some (.inr acc)):dH f ([],0)=some (Px S):=by
 have mk2:∀i,i<=S.length->((List.range i).filter λi=>S.getD i false).length<=i:=λi _=>by have:=bV (λi=>S.getD i false) (List.range i);simpa using this
 obtain⟨e,h1,h2⟩:=Ff (f:=f) (s:=([],0)) (λx=>∃i:Nat,x=(((List.range i).filter λi=>S.getD i false).map λ(i:Nat)=>(i:Int),(i:Int))/\i<=S.length) (λe=>e=Px S) (λx=>S.length -x.2.toNat) ⟨0,rfl,o5⟩ az (by
  rintro x ⟨i,rfl,hi⟩;by_cases h:i<S.length
  .have e:=iP h;have hst:(List.range (i+1)).filter (λi=>S.getD i false)=(List.range i).filter (λi=>S.getD i false)++l7 S[i] [i] []:=by
    rw[ed,List.filter_append];congr 1;rw[fA,NK,e];cases S[i]<;>rfl
   have hl:=mk2 i hi;refine .inl ⟨(((List.range (i+1)).filter λi=>S.getD i false).map λ(i:Nat)=>(i:Int),((i+1:Nat):Int)),?_,⟨i+1,rfl,h⟩,by simp;omega⟩;rw[hin i _ _ e o5 (by simpa using hl),dL o5,hst,dG,mW _ (by rw[U5];omega)];cases S[i]
   .simp
   .rfl
  .have:i=S.length:=o5;subst this;exact .inr ⟨_,hend _,rfl⟩)
 rw[h1,h2]
theorem l_{D:Int->c2g}{n:Nat}(hn:n<=14)(hsi:∀x,SI (D x))(hin:∀x,∀y∈D x,0<=y/\y<(n:Int))(h0:0<=d)(h1:d<(n:Int)):
  ∃L,zD ((List.range n).map λ(x:Nat)=>D (x:Int)) d=some L/\Rch D d L:=by
 have hA:o8 ((List.range n).map λ(x:Nat)=>D (x:Int))=(n:Int):=by simp[o8]
 have hget:∀x:Int,0<=x->x<n->J7 ((List.range n).map λ(x:Nat)=>D (x:Int)) x=some (D x):=λx a b=>by
  have:x.toNat<n:=o5;unfold J7
  rw[if_pos a,Wl n _ this,jP a]
 unfold zD;generalize (List.range n).map (λ(x:Nat)=>D (x:Int))=A at*;rw[hA,show yJ (n:Int) false=some (List.replicate n false) by unfold yJ;rw[if_pos o5];simp,D5];have hD14:∀x,(D x).length<=14:=λx=>aJ (WR n (hsi x) (hin x)) hn;have key:=Ff (f:=λ(x:List Bool×c2g)=>l7 (F9 0 (o8 x.2)) (l9 (J7 x.2 0) λ(x_1:Int)=>l9 (X0 x.2 (P6 0)) λ(x_2:Int)=>l7 (mM 1 (o8 x.2) (o8 x.2)) (l9 (J7 A x_2) λ(x_3:c2g)=>
   l9 (dH (λ(x:List Bool×c2g×Int)=>l7 (F9 x.2.2 (o8 x_3)) (l9 (J7 x_3 x.2.2) λ(x_4:Int)=>l9 (J7 x.1 x_4) λ(x_5:Bool)=>l9 (X0 x.1 (P6 x_4)) λ(x_6:Bool)=>
     l7 (E5 x_6) (l9 (J7 x.1 x_4) λ(x_7:Bool)=>l9 (X0 x.1 (P6 x_4)) λ(x_8:Bool)=>l9 (bu x.2.1 [x_4]) λ(x_9:c2g)=>some (.inl (ay x.1 (P6 x_4) true,x_9,D7 .i64 x.2.2 1)))
      (some (.inl (x.1,x.2.1,D7 .i64 x.2.2 1)))) (some (.inr (x.1,x.2.1)))) (x.1,jK x.2 (P6 1) (P6 (o8 x.2)),0)) λ(y:List Bool×c2g)=>some (.inl y)) none) (some (.inr x.1)))
  (s:=(List.replicate n false,[d]))
  (λx=>x.1.length=n/\(∀q∈x.2,0<=q/\q<(n:Int))/\x.2.length+unm x.1<=n+1/\(∀q∈x.2,q=d\/mk x.1 q=true)/\(∀v,v=d\/mk x.1 v=true->v∈x.2\/∀y∈D v,mk x.1 y=true)/\
   (∀C:Int->Prop,(∀x∈D d,C x)->(∀x,C x->∀y∈D x,C y)->∀v,mk x.1 v=true->C v)/\(∀v,mk x.1 v=true->0<=v/\v<(n:Int)))
  (λS=>S.length=n/\Rch D d (Px S)) (λx=>2*unm x.1+x.2.length) ?_ ?_ ?_
 .obtain⟨S,k1,k2,k3⟩:=key;refine⟨Px S,?_,k3⟩;refine(SL k1 _).trans ?_;rw[yK];refine ZT S o5 (λi a acc ha hi hacc=>?_) (λacc=>?_)
  .simp only[J9 ha,o6,I9,ha,D5];rw[show X0 S (P6 (i:Int))=some a from ha,D5]
  .simp only[J8];rfl
 .have hnone:∀v,mk (List.replicate n false) v=false:=λv=>by
   unfold mk;split
   .rw[NK,List.getElem?_replicate];split<;>rfl
   .rfl
  refine⟨A8,λq hq=>by simp at hq;omega,?_,λq hq=> .inl (by simpa using hq),λv hv=>?_,λC _ _ v hv=>(by rw[hnone]at hv;cases hv),λv hv=>(by rw[hnone]at hv;cases hv)⟩
  .simp[unm,List.count_replicate];omega
  .rcases hv with rfl|hv
   .exact .inl A8
   .rw[hnone]at hv;cases hv
 .simp[unm,List.count_replicate];omega
 .rintro⟨S,Q⟩ ⟨i1,i2,i3,i4,i5,i6,i7⟩;simp only at i1 i2 i3 i4 i5 i6 i7;cases Q with
  |nil=>
   right;refine⟨S,rfl,i1,a3c S,λx hx=>?_,λx hx y hy=>?_,λC c1 c2 x hx=>i6 C c1 c2 x ((Jb x).1 hx)⟩
   .rcases i5 d (.inl rfl)with h|h
    .cases h
    .exact(Jb x).2 (h x hx)
   .rcases i5 x (.inr ((Jb x).1 hx))with h|h
    .cases h
    .exact(Jb y).2 (h y hy)
  |cons q Q=>
   left;have hq:=i2 q A8;have hfold:=a4p (n:=n) (D q) S Q i1 (λx hx=>hin q x hx);refine⟨(D q).foldl rG (S,Q),?_,?_,?_⟩
   .simp only[iM (show(0:Int)<o8 (q::Q) by simp[o8]<;>omega),o6,show J7 (q::Q) 0=some q from rfl,show X0 (q::Q) (P6 0)=some q from rfl,D5,hget q hq.1 hq.2,
     show mM 1 (o8 (q::Q)) (o8 (q::Q))=true by simp[mM,o8]<;>omega,show jK (q::Q) (P6 1) (P6 (o8 (q::Q)))=Q by simp[jK,P6,o8]]
    refine gJ (D q) rG (λb i=>(b.1,b.2,i)) (λb=>b) (λi b=>b.1.length=n/\b.2.length<=100+i) (S,Q) (by have:=hD14 q;omega) ⟨i1,by simp at i3;show Q.length<=100+0;omega⟩ (λi e b he hi hI=>?_) (λb hI=>?_) (λh2=>rfl)
    .obtain⟨S1,Q1⟩:=b;simp only at hI;have hee:=hin q e (kW he);have hlt:=(aF.1 he).1;have hdl:=hD14 q;have hg:=a3e (S:=S1) hee.1 (by simp only[o8];omega);have hla:J7 S1 e=some (mk S1 e):=by unfold J7;rw[if_pos hee.1];exact hg
     have hlg:X0 S1 (P6 e)=some (mk S1 e):=hg;simp only[J9 he,o6,I9 (D q),he,D5,hla,hlg];rw[dL o5,mW _ o5];unfold rG;simp only;cases mk S1 e
     .exact⟨rfl,by simp[hI.1],by simp<;>omega⟩
     .exact⟨rfl,hI.1,by show Q1.length<=_;omega⟩
    .simp only[J8];rfl
   .obtain⟨j1,j2,j3,j4,j5,j6,j7⟩:=hfold;generalize (D q).foldl rG (S,Q)=b at*;obtain⟨S',Q'⟩:=b;simp only at j1 j2 j3 j4 j5 j6 j7 ⊢;have hrange:∀v,mk S' v=true->0<=v/\v<(n:Int):=λv hv=>by
     rcases j7 v hv with h|h
     .exact i7 v h
     .rcases j6 v h with h|h
      .exact i2 v (by simp[h])
      .exact hin q v h
    refine⟨j1,λx hx=>?_,?_,λx hx=>?_,λv hv=>?_,λC c1 c2 v hv=>?_,hrange⟩
    .rcases j6 x hx with h|h
     .exact i2 x (by simp[h])
     .exact hin q x h
    .simp only[G8]at i3;omega
    .rcases j6 x hx with h|h
     .rcases i4 x (by simp[h])with h2|h2
      .exact .inl h2
      .have hr:=i7 x h2;exact .inr ((j2 x hr.1 hr.2).2 (.inl h2))
     .have hr:=hin q x h;exact .inr ((j2 x hr.1 hr.2).2 (.inr h))
    .have up:∀y,mk S y=true->mk S' y=true:=λy hy=>by
      have hr:=i7 y hy;exact(j2 y hr.1 hr.2).2 (.inl hy)
     by_cases hvq:v=q
     .subst hvq;right;intro y hy;have hr:=hin v y hy;exact(j2 y hr.1 hr.2).2 (.inr hy)
     .by_cases hold:v=d\/mk S v=true
      .rcases i5 v hold with h|h
       .rcases C9.1 h with h|h
        .exact absurd h hvq
        .exact .inl (j5 v h)
       .exact .inr λy hy=>up y (h y hy)
      .rcases hv with h|h
       .exact absurd (.inl h) hold
       .rcases j7 v h with h2|h2
        .exact absurd (.inr h2) hold
        .exact .inl h2
    .by_cases hS:mk S v=true
     .exact i6 C c1 c2 v hS
     .have hr:=hrange v hv;rcases(j2 v hr.1 hr.2).1 hv with h|h
      .exact absurd h hS
      .rcases i4 q A8 with h2|h2
       .subst h2;exact c1 v h
       .exact c2 q (i6 C c1 c2 q h2) v h
   .have:=hfold.sum;have:=hfold.le;simp only[G8];omega
theorem UE(h:SmS s)(h0:0<=d)(h1:d<nD s):uA s d=some (vC s d):=by have hn:nD s=((s.2.2.2.1.length:Nat):Int):=rfl;unfold uA;change l7 (F9 d 0) _ (l7 (U4 (nD s) d) _ _)=_;rw[gX h0,o7,oD h1,o7,VO h,D5,yK];obtain⟨L,k1,k2⟩:=l_ (D:=lq s) h.nd (DU s) (λx y hy=>zT hy) h0 (show d<((s.2.2.2.1.length:Nat):Int) by omega);rw[k1,Rch.unique k2 (OH s d)]
structure SmL (l:P8):Prop where
 few:Few l
 en:VK l
 tb:QH l
 sc:∀s∈l.2.2,SmS s
 fs:l.2.2.length<=100
structure SwS (s:O8):Prop where
 nm:s.1.length<=1000000
 ni:s.2.2.1.length<=100000
 nd:s.2.2.2.1.length<=100000
 nr:s.2.2.2.2.length<=100000
 fo:QF s
 ro:∀r∈s.2.2.2.2,VL r
structure SwL (l:P8):Prop where
 few:Few l
 en:VK l
 tb:QH l
 sc:∀s∈l.2.2,SwS s
theorem SwL.scopes(h:SwL l):KT l:=λs hs=>by have hm:=h.sc s hs;exact⟨hm.nm,hm.ni,hm.nd,hm.nr⟩
theorem SmL.w(h:SmL l):SwL l:=⟨h.few,h.en,h.tb,λs hs=>by have hm:=h.sc s hs;exact⟨hm.nm,by have:=hm.ni;omega,by have:=hm.nd;omega,by have:=hm.nr;omega,hm.fo,λr hr=>(hm.ro r hr).1⟩⟩
theorem xK{ε ρ:Type}{p:Nat->Option ρ}(n:Nat)(hn:n<=1000000)(e:ε){f:Int->Option (Out Int ε ρ)}
  (h1:∀i,i<n->f (i:Int)=some (match p i with|some r=> .rt r|none=> .nx (D7 .i64 (i:Int) 1))) (h2:f (n:Int)=some (.ex e)):
  O6 f 0=some (match Y0 n p with|some r=> .inr r|none=> .inl e):=
 Cb n o5 e (λi hi=>by rw[h1 i hi,dL o5]<;>cases p i<;>rfl) h2
def CJ(l:P8)(s:O8)(k:Nat):Option (Int×Int):=match s.2.2.2.2[k]? with|some r=>Jo (Bi s (KI l s) k r) (300+k:Nat)|none=>none
def XA(s:O8)(d:Nat):Option (Int×Int):=l7 ((vC s d).any λx=>x9 (d:Int) x) (some (9,((200+d:Nat):Int))) none
def AX(l:P8)(i:Nat)(m:Int):Bool:=l7 (x9 m (-1)) false (l7 (F9 m 0) true (l7 (U4 (i:Int) m) true (match J7 l.2.2 m with|some q=>E5 (x9 q.2.1 (-1))|none=>true)))
def NV(l:P8)(s:O8):Int×Int:=match uC l s with
 |some r=>r
 |none=>match Y0 s.2.2.2.2.length (CJ l s)with
  |some r=>r
  |none=>match Y0 s.2.2.2.1.length (XA s)with
   |some r=>r|none=>(0,0)
def wV(l:P8)(i:Nat)(s:O8):Int×Int:=
 l7 (qZ s.1) (l7 (uw l 3 i s.1) (7,0) (l7 (AX l i s.2.1) (6,0) (l7 (F9 12 (o8 s.2.2.1)) (4,112) (l7 (F9 12 (o8 s.2.2.2.1)) (4,212) (NV l s))))) (2,0)
theorem Ua{sg:O7}(h:EC e sg t=0):e.length<=50:=by
 unfold EC pX at h;cases hs:nZ e with
 |inl x=>
  rw[hs]at h;simp only at h;cases hc:x9 x.2 0<;>rw[hc]at h
  .exact absurd h (Dv.1 hc)
  .exact absurd (gW.1 hc) (Iy hs)
 |inr x=>have:=(PY hs).2;omega
theorem a6K{m:Nat} :∀(D:c2g),(∀x∈D,0<=x/\x<(m:Int))->(∀d:Int,D.countP (λo=>x9 o d)<=8)->D.length<=m*8:=by
 induction m with
 |zero=>
  intro D h _;cases D with
  |nil=>simp|cons a D=>have:=h a A8;omega
 |succ m ih=>
  intro D h h8;have h1:=ih (D.filter λo=>E5 (x9 o (m:Int))) (λx hx=>by
   obtain⟨hx,hn⟩:=ku.1 hx;have:=h x hx;have hn:x≠(m:Int):=λe=>by rw[iw e]at hn;cases hn
   omega) (λd=>by rw[List.countP_filter];refine aJ (List.countP_mono_left λx _ hx=>?_) (h8 d);simp only[o9]at hx;exact hx.1)
  have h2:=h8 (m:Int);have h3:∀D:c2g,D.length=D.countP (λo=>x9 o (m:Int))+(D.filter λo=>E5 (x9 o (m:Int))).length:=by
   intro D;induction D with
   |nil=>rfl|cons a D ih=>rw[List.countP_cons,fA,G8,ih];cases x9 a (m:Int)<;>simp<;>omega
  have:=h3 D;omega
theorem TB{sg:O7}(h:Bi s sg k r=0):(∃d,J7 s.2.2.2.1 r.2.1=some d/\JX r sg d.2=0)/\JU (s.2.2.2.2.take k) r.2.1<8:=by
 unfold Bi at h;cases g1:qZ r.1<;>rw[g1]at h
 .exact absurd (show(2:Int)=0 from h) I8
 cases g2:(s.2.2.2.2.take k).any λx=>seq x.1 r.1<;>rw[g2]at h
 case true=>exact absurd (show(7:Int)=0 from h) I8
 simp only[o6,o7]at h;cases g3:J7 s.2.2.2.1 r.2.1 with
 |none=>rw[g3]at h;exact absurd (show(6:Int)=0 from h) I8|some d=>
  rw[g3]at h;simp only at h;generalize (l7 (x9 r.2.2.1 (-1)) false (l7 (F9 r.2.2.1 0) true (l7 (U4 (k:Int) r.2.2.1) true (match J7 s.2.2.2.2 r.2.2.1 with|some q=>E5 (x9 q.2.1 r.2.1)|none=>true))))=g4 at h;cases g4
  case true=>exact absurd (show(9:Int)=0 from h) I8
  cases g5:F9 r.2.2.2.1 0<;>rw[g5]at h
  case true=>exact absurd (show(3:Int)=0 from h) I8
  cases g6:F9 9 r.2.2.2.1<;>rw[g6]at h
  case true=>exact absurd (show(3:Int)=0 from h) I8
  cases g7:Az r.2.2.2.2.1<;>rw[g7]at h
  .exact absurd (show(3:Int)=0 from h) I8
  cases g8:x9 r.2.2.2.2.1.1 r.2.2.2.2.1.2<;>rw[g8]at h
  case true=>exact absurd (show(3:Int)=0 from h) I8
  cases g9:U4 8 (JU (s.2.2.2.2.take k) r.2.1:Int)<;>rw[g9]at h
  case true=>exact absurd (show(4:Int)=0 from h) I8
  cases g10:UD r.2.2.2.2.2.2.2<;>rw[g10]at h
  .exact absurd (show(2:Int)=0 from h) I8
  simp only[o6,o7]at h;have:=EX.1 g9;exact⟨⟨d,rfl,h⟩,o5⟩
theorem a1B{sg:O7}(h:JX r sg t=0):r.2.2.2.2.2.1.length<=50/\r.2.2.2.2.2.2.1.length<=50:=by
 unfold JX at h;cases g:F9 0 (o8 r.2.2.2.2.2.1)<;>rw[g]at h
 .have:=iV.1 g;unfold o8 at this;exact⟨o5,Ua h⟩
 .rw[o6]at h;cases g2:x9 (EC r.2.2.2.2.2.1 sg (1,0)) 0<;>rw[g2]at h
  .exact absurd h (Dv.1 g2)
  .exact⟨Ua (gW.1 g2),Ua h⟩
theorem TJ(hw:SwS s)(h1:s.2.2.1.length<=12)(h2:s.2.2.2.1.length<=12)(h:Y0 s.2.2.2.2.length (CJ l s)=none):SmS s:=by
 have hz:∀(k:Nat) (r:bC),s.2.2.2.2[k]? =some r->Bi s (KI l s) k r=0:=λk r hr=>by
  have:=rX h k (aF.1 hr).1;unfold CJ at this;rw[hr]at this;unfold Jo at this;simp only at this;cases g:x9 (Bi s (KI l s) k r) 0<;>rw[g]at this
  .cases this
  .exact gW.1 g
 have hk:∀k,k<=s.2.2.2.2.length->∀d:Int,((s.2.2.2.2.take k).map λ(o:bC)=>o.2.1).countP (λo=>x9 o d)<=8:=by
  intro k;induction k with
  |zero=>intro _ d;simp|succ k ih=>
   intro hk d;have e:=iP (show k<s.2.2.2.2.length by omega);have h3:=(TB (hz k _ e)).2;unfold JU at h3;have h4:=ih o5 d;rw[V6 o5,dG,List.countP_append];rw[List.countP_map]at h4 ⊢;by_cases hd:(s.2.2.2.2[k]).2.1=d
   .have e5:List.countP ((λ(o:Int)=>x9 o d)∘λ(o:bC)=>o.2.1) (s.2.2.2.2.take k)=(s.2.2.2.2.take k).countP λ(o:bC)=>x9 o.2.1 (s.2.2.2.2[k]).2.1:=by rw[hd];rfl
    have e6:List.countP (λo=>x9 o d) [(s.2.2.2.2[k]).2.1]<=1:=mi;simp only[dI,jf];omega
   .have e6:List.countP (λo=>x9 o d) [(s.2.2.2.2[k]).2.1]=0:=by simp[kJ hd]
    simp only[dI,jf];omega
 have h8:=hk s.2.2.2.2.length (D9 _);rw[aU]at h8;have hc:=a6K (m:=12) (s.2.2.2.2.map λ(o:bC)=>o.2.1) (λx hx=>by obtain⟨r,hr,rfl⟩:=qJ.1 hx;obtain⟨k,hk,e⟩:=Y5 hr;obtain⟨⟨d,hd,-⟩,-⟩:=TB (hz k r (by rw[iP hk,e]));obtain⟨a,b,-⟩:=NM hd;unfold o8 at b;omega) h8
 rw[U5]at hc;refine⟨hw.nm,o5,o5,o5,hw.fo,λr hr=>⟨hw.ro r hr,?_⟩⟩;obtain⟨k,hk,e⟩:=Y5 hr;obtain⟨⟨d,-,hd⟩,-⟩:=TB (hz k r (by rw[iP hk,e]));exact a1B hd
theorem Uj(hL:SwL l)(hs:l.2.2[i]? =some s):wE l (i:Int)=some (wV l i s):=by
 have hi:=(aF.1 hs).1;have hS:=hL.sc s (kW hs);have hf:=hL.few;have hf1:=hf.1;have hf2:=hf.2.1;have hf3:=hf.2.2;have n1:=hS.ni;have n2:=hS.nd;have n3:=hS.nr;unfold wE wV uw;rw[I9,hs,D5,vO o5,D5,Ko _ o5,D5,Pj _ o5,D5,XJ _ az,D5];have hb:(l7 (l.1.any λx=>seq x.1 s.1) (some (s,true)) (l7 (l.2.1.any λx=>seq x.1 s.1) (some (s,true)) (some (s,(l.2.2.take i).any λx=>seq x.1 s.1))))=
   some (s,(l.1.any λx=>seq x.1 s.1) || (l.2.1.any λx=>seq x.1 s.1) || (l.2.2.take i).any λx=>seq x.1 s.1):=by
  cases l.1.any λx=>seq x.1 s.1
  .cases l.2.1.any λx=>seq x.1 s.1<;>rfl
  .rfl
 rw[hb,D5];simp only;rw[qc hS.nm,D5];cases qZ s.1
 .rfl
 simp only[P7,o7,o6];cases (l.1.any λx=>seq x.1 s.1) || (l.2.1.any λx=>seq x.1 s.1) || (l.2.2.take i).any λx=>seq x.1 s.1
 case true=>rfl
 simp only[o7];have hm:(l7 (E5 (x9 s.2.1 (-1))) (l7 (F9 s.2.1 0) (some true) (l7 (U4 (i:Int) s.2.1) (some true) (l9 (J7 (l.2.2.take i) s.2.1) λ(x:O8)=>some (E5 (x9 x.2.1 (-1)))))) (some false))=some (AX l i s.2.1):=by
  unfold AX;cases x9 s.2.1 (-1)
  case true=>rfl
  simp only[dO,o6,o7];cases h0:F9 s.2.1 0
  case true=>rfl
  cases h1:U4 (i:Int) s.2.1
  case true=>rfl
  rw[iV]at h0;rw[EX]at h1;obtain⟨q,hq,_⟩:=yY (l:=l.2.2.take i) h0 (by simp only[o8,aT];omega);have hq2:J7 l.2.2 s.2.1=some q:=by have:=(NM hq).2.2.2;unfold J7;rw[if_pos h0];exact(Nb this).2
  rw[hq,hq2];rfl
 rw[hm,D5];cases AX l i s.2.1
 case true=>rfl
 simp only[o7];cases g12:F9 12 (o8 s.2.2.1)
 case true=>rfl
 cases g13:F9 12 (o8 s.2.2.2.1)
 case true=>rfl
 have m1:s.2.2.1.length<=12:=by have:=iV.1 g12;unfold o8 at this;omega
 have m2:s.2.2.2.1.length<=12:=by have:=iV.1 g13;unfold o8 at this;omega
 simp only[o7,D5,Z9];unfold NV uC;refine Y3 (xK (p:=inP l s) s.2.2.1.length o5 PUnit.unit (λk hk=>?_) ?_) ?_
 rotate_left 2
 .cases Y0 s.2.2.1.length (inP l s)
  case some r=>rfl
  simp only[D5,Z9];refine Y3 (xK (p:=Ul l s) s.2.2.2.1.length o5 PUnit.unit (λk hk=>?_) ?_) ?_
  rotate_left 2
  .cases Y0 s.2.2.2.1.length (Ul l s)
   case some r=>rfl
   simp only[D5,Z9];rw[Bv hL.scopes hs,D5];refine Y3 (xK (p:=CJ l s) s.2.2.2.2.length o5 PUnit.unit (λk hk=>?_) ?_) ?_
   rotate_left 2
   .cases hfr:Y0 s.2.2.2.2.length (CJ l s)
    case some r=>rfl
    have hS:=TJ hS m1 m2 hfr;simp only[D5,Z9];refine Y3 (xK (p:=XA s) s.2.2.2.1.length o5 PUnit.unit (λk hk=>?_) ?_) ?_
    rotate_left 2
    .cases Y0 s.2.2.2.1.length (XA s)<;>rfl
    .have e:=iP hk;simp only[J9 e,o6];rw[UE hS o5 (by show(k:Int)<o8 s.2.2.2.1;simp only[o8];omega),D5,a1D _ (by
      have:=EY hS (OH s (k:Int)).1 (λx hx=>Za hx);omega),D5,show(200:Int)=((200:Nat):Int)from rfl,Pm o5 o5]
     unfold XA;cases (vC s (k:Int)).any λx=>x9 (k:Int) x<;>rfl
    .rw[J8];rfl
   .have e:=iP hk;have hr:=hS.ro _ (L8 hk);simp only[J9 e,o6];rw[VU _ e o5 hr,D5,show(300:Int)=((300:Nat):Int)from rfl,Pm o5 o5];simp only[CJ,e,Jo];cases x9 (Bi s (KI l s) k s.2.2.2.2[k]) 0<;>rfl
   .rw[J8];rfl
  .have e:=iP hk;have hm:=hS.fo.2 _ (L8 hk);simp only[J9 e,o6,I9,e,D5];rw[vO o5,D5,Jv hm o5 az,D5,show(200:Int)=((200:Nat):Int)from rfl,Pm o5 o5];simp only[Ul,e,Jo];cases x9 (Dn l.1 s.2.2.2.1[k] s.2.2.1 (s.2.2.2.1.take k)) 0<;>rfl
  .rw[J8];rfl
 .have e:=iP hk;have hm:=hS.fo.1 _ (L8 hk);simp only[J9 e,o6,I9,e,D5];rw[vO o5,D5,Jv hm az A8,D5,show(100:Int)=((100:Nat):Int)from rfl,Pm o5 o5];simp only[inP,e,Jo];cases x9 (Dn l.1 s.2.2.1[k] (s.2.2.1.take k) []) 0<;>rfl
 .rw[J8];rfl
theorem IX{c e:Int}{r:Int×Int}(h:Jo c e=some r):r.1≠0:=by
 unfold Jo at h;cases hc:x9 c 0<;>rw[hc]at h
 .cases h;exact Dv.1 hc
 .cases h
theorem Hf{r:Int×Int}(h:uC l s=some r):r.1≠0:=by
 unfold uC at h;split at h
 .rename_i q hq;cases h;obtain⟨k,_,hk⟩:=eG hq;unfold inP at hk;split at hk
  .exact IX hk
  .cases hk
 .obtain⟨k,_,hk⟩:=eG h;unfold Ul at hk;split at hk
  .exact IX hk
  .cases hk
def zh(l:P8)(i:Nat):Option (Int×Int×Int×Int):=match l.2.2[i]? with|some s=>Jp 3 i (wV l i s)|none=>none
def FO(l:P8):Int×Int×Int×Int:=l7 (F9 4 (o8 l.2.2)) (4,3,4,0) (match Y0 l.2.2.length (zh l)with|some r=>r|none=>(0,0,0,0))
def dV(l:P8):Int×Int×Int×Int:=l7 (x9 (yT l).1 0) (l7 (x9 (xk l).1 0) (FO l) (xk l)) (yT l)
theorem QY(hL:SwL l):uG l=some (FO l):=by
 have hf:=hL.few.2.2;unfold uG FO;cases F9 4 (o8 l.2.2)
 case true=>rfl
 simp only[o7];refine Y3 (jX (p:=zh l) l.2.2.length o5 _ (0,0,0,0) (λi hi=>?_) ?_) ?_
 rotate_left 2
 .cases Y0 l.2.2.length (zh l)<;>rfl
 .have e:=iP hi;simp only[J9 e,o6,Uj hL e,D5,zh,e,Jp];cases x9 (wV l i l.2.2[i]).1 0<;>rfl
 .rw[J8];rfl
theorem Nj(hL:SwL l):lJ l=some (dV l):=by
 unfold lJ dV;rw[Ui hL.few hL.en,D5];cases x9 (yT l).1 0
 .rfl
 simp only[P7,o7,o6];rw[QZ hL.few hL.tb,D5];cases x9 (xk l).1 0
 .rfl
 simp only[P7,o7,o6];rw[QY hL];rfl
theorem IY{k i:Int}{c:Int×Int}{r:Int×Int×Int×Int}(h:Jp k i c=some r):r.1≠0:=by
 unfold Jp at h;cases hc:x9 c.1 0<;>rw[hc]at h
 .cases h;exact Dv.1 hc
 .cases h
def hw(W:c2g)(d:Int):Int:=W.getD d.toNat 0
def q1(q:Int)(u:Bool):Int:=l7 u (q+1) q
def sg(q:Int)(neg:Bool):Int:=l7 neg (-q) q
def a2A(r:yA):Prop:=I64 r.2.1/\I64 r.2.2.1/\I64 r.2.2.2
def EE(t:Z7):Prop:=t.2.2.2.length<=200/\∀r∈t.2.2.2,a2A r
abbrev V3:Type:=Int×Int×Int
theorem NI{α β ρ:Type}(G:β->α->β⊕ρ)(P:ρ->Prop)(hG:∀b a r,G b a= .inr r->P r):∀(l:List α) (b:β) (r:ρ),qj G l b= .inr r->P r
 |[],b,r,h=>by cases h|a::l,b,r,h=>by
  unfold qj at h;cases hg:G b a with
  |inr r' =>rw[hg]at h;simp only at h;cases h;exact hG _ _ _ hg|inl b' =>rw[hg]at h;exact NI G P hG l b' r h
end Go.GP
namespace Go.GP
open Gt
set_option maxRecDepth 100000
abbrev VSt:Type:=V3×List V3×Int
structure VStep (ops:c2g) (ev:Int->Option (V3×Int)) (pad:List V3->List V3) (f:VSt->Option (Out VSt (V3×List V3) (V3×Int))):Prop where
 step:∀(l:List V3) (c:Int) (r:V3×Int),ops[l.length]? =some c->ev c=some r->f ((0,0,0),pad l,(l.length:Int))=some (l7 (x9 r.2 0) (.nx ((0,0,0),pad (l++[r.1]),((l.length+1:Nat):Int))) (.rt ((0,0,0),r.2)))
 stop:∀(l:List V3),l.length=ops.length->f ((0,0,0),pad l,(l.length:Int))=some (.ex ((0,0,0),l))
section
variable {ev:Int->Option (V3×Int)} {pad:List V3->List V3} {f:VSt->Option (Out VSt (V3×List V3) (V3×Int))}
theorem v0(h:VStep [] ev pad f):O6 f ((0,0,0),pad [],0)=some (.inl ((0,0,0),[])):=by obtain⟨k,hk⟩:∃k,mf=k+1:=⟨mf -1,by unfold mf;omega⟩;unfold O6;rw[hk,kK,show f ((0,0,0),pad [],0)=some (.ex ((0,0,0),[]))from h.stop [] rfl]
theorem v1{c:Int}{r:V3×Int}(h:VStep [c] ev pad f)(h1:ev c=some r):O6 f ((0,0,0),pad [],0)=some (l7 (x9 r.2 0) (.inl ((0,0,0),[r.1])) (.inr ((0,0,0),r.2))):=by
 obtain⟨k,hk⟩:∃k,mf=k+1+1:=⟨mf -2,by unfold mf;omega⟩;unfold O6;rw[hk,kK,show f ((0,0,0),pad [],0)=_ from h.step [] c r rfl h1];cases x9 r.2 0
 .rfl
 .simp only[o6];rw[kK,show f ((0,0,0),pad ([]++[r.1]),(([].length+1:Nat):Int))=_ from h.stop [r.1] rfl]
theorem v2{c d:Int}{r q:V3×Int}(h:VStep [c,d] ev pad f)(h1:ev c=some r)(h2:ev d=some q):O6 f ((0,0,0),pad [],0)=some (l7 (x9 r.2 0) (l7 (x9 q.2 0) (.inl ((0,0,0),[r.1,q.1])) (.inr ((0,0,0),q.2))) (.inr ((0,0,0),r.2))):=by
 obtain⟨k,hk⟩:∃k,mf=k+1+1+1:=⟨mf -3,by unfold mf;omega⟩;unfold O6;rw[hk,kK,show f ((0,0,0),pad [],0)=_ from h.step [] c r rfl h1];cases x9 r.2 0
 .rfl
 .simp only[o6];rw[kK,show f ((0,0,0),pad ([]++[r.1]),(([].length+1:Nat):Int))=_ from h.step [r.1] d q rfl h2];cases x9 q.2 0
  .rfl
  .simp only[o6];rw[kK,show f ((0,0,0),pad ([r.1]++[q.1]),(([r.1].length+1:Nat):Int))=_ from h.stop [r.1,q.1] rfl]
end
end Go.GP
namespace Go.GP
open Gt
set_option maxRecDepth 100000
variable {l:P8}{s:O8}{i:Nat}
theorem Zd(h:(dV l).1=0)(hs:l.2.2[i]? =some s):(wV l i s).1=0:=by
 unfold dV at h;cases h1:x9 (yT l).1 0<;>rw[h1]at h
 .simp only[o7]at h;rw[iw h]at h1;cases h1
 cases h2:x9 (xk l).1 0<;>rw[h2]at h
 .simp only[o6,o7]at h;rw[iw h]at h2;cases h2
 simp only[o6]at h;unfold FO at h;cases h3:F9 4 (o8 l.2.2)<;>rw[h3]at h
 case true=>exact absurd (show(4:Int)=0 from h) I8
 simp only[o7]at h;have hi:=(aF.1 hs).1;cases hf:Y0 l.2.2.length (zh l)with
 |some r=>
  rw[hf]at h;simp only at h;obtain⟨j,hj,hp⟩:=eG hf;unfold zh at hp;cases hq:l.2.2[j]? with
  |none=>rw[hq]at hp;cases hp|some q=>
   rw[hq]at hp;simp only at hp;unfold Jp at hp;exact absurd h (by cases he:x9 (wV l j q).1 0<;>rw[he]at hp<;>cases hp;simp only;intro h4;rw[iw h4]at he;cases he)
 |none=>
  have hn:=rX hf i hi;unfold zh at hn;rw[hs]at hn;simp only at hn;unfold Jp at hn;cases he:x9 (wV l i s).1 0<;>rw[he]at hn
  .cases hn
  exact gW.1 he
theorem a2s(h:(dV l).1=0)(hs:l.2.2[i]? =some s):AX l i s.2.1=false/\(NV l s).1=0:=by
 have he:=Zd h hs;unfold wV at he;cases g1:qZ s.1<;>rw[g1]at he
 .exact absurd (show(2:Int)=0 from he) I8
 cases g2:uw l 3 i s.1<;>rw[g2]at he
 case true=>exact absurd (show(7:Int)=0 from he) I8
 cases g3:AX l i s.2.1<;>rw[g3]at he
 case true=>exact absurd (show(6:Int)=0 from he) I8
 cases g4:F9 12 (o8 s.2.2.1)<;>rw[g4]at he
 case true=>exact absurd (show(4:Int)=0 from he) I8
 cases g5:F9 12 (o8 s.2.2.2.1)<;>rw[g5]at he
 case true=>exact absurd (show(4:Int)=0 from he) I8
 exact⟨rfl,he⟩
theorem gq{α:Type}{n:Nat}{l:List α}(h:F9 (n:Int) (o8 l)=false):l.length<=n:=by rw[iV]at h;unfold o8 at h;omega
def Si(r:bC):Bool:=l7 (F9 80 (o8 r.1)) true (l7 (F9 80 (o8 r.2.2.2.2.2.2.2)) true (l7 (F9 50 (o8 r.2.2.2.2.2.1)) true (F9 50 (o8 r.2.2.2.2.2.2.1))))
def smS(s:O8):Bool:=l7 (F9 80 (o8 s.1)) false (l7 (F9 14 (o8 s.2.2.1)) false (l7 (F9 14 (o8 s.2.2.2.1)) false (l7 (F9 60 (o8 s.2.2.2.2)) false
 (l7 (s.2.2.1.any λf=>F9 80 (o8 f.1)) false (l7 (s.2.2.2.1.any λf=>F9 80 (o8 f.1)) false (E5 (s.2.2.2.2.any Si)))))))
theorem RD{fs:List dY}(h:fs.length<=1000000):O6 (λ(x:Int)=>l7 (F9 x (o8 fs)) (l9 (J7 fs x) λ(x_1:dY)=>l7 (F9 80 (o8 x_1.1)) (some (Out.rt false)) (some (Out.nx (D7 IntKind.i64 x 1)))) (some (Out.ex PUnit.unit))) 0=some (bif fs.any (λf=>F9 80 (o8 f.1))then .inr false else .inl PUnit.unit):=by
 refine BF fs (λf=>F9 80 (o8 f.1)) false PUnit.unit h (λi a ha=>?_) ?_
 .simp only[J9 ha,o6,I9,ha,D5];cases F9 80 (o8 a.1)<;>rfl
 .rw[J8];rfl
theorem UC(s:O8):uU s=some (smS s):=by
 unfold uU smS;cases h1:F9 80 (o8 s.1)
 case true=>rfl
 cases h2:F9 14 (o8 s.2.2.1)
 case true=>rfl
 cases h3:F9 14 (o8 s.2.2.2.1)
 case true=>rfl
 cases h4:F9 60 (o8 s.2.2.2.2)
 case true=>rfl
 have l2:=gq (n:=14) h2;have l3:=gq (n:=14) h3;have l4:=gq (n:=60) h4;simp only[o7,D5,Z9];rw[RD o5,RD o5,D5];cases s.2.2.1.any λf=>F9 80 (o8 f.1)
 case true=>rfl
 simp only[cond_false,Z9,o7,D5];cases s.2.2.2.1.any λf=>F9 80 (o8 f.1)
 case true=>rfl
 simp only[cond_false,Z9,o7];refine Y3 (BF s.2.2.2.2 Si false PUnit.unit o5 (λi a ha=>?_) ?_) ?_
 rotate_left 2
 .cases s.2.2.2.2.any Si<;>rfl
 .simp only[J9 ha,o6,I9,ha,D5];unfold Si;cases F9 80 (o8 a.1)<;>cases F9 80 (o8 a.2.2.2.2.2.2.2)<;>cases F9 50 (o8 a.2.2.2.2.2.1)<;>cases F9 50 (o8 a.2.2.2.2.2.2.1)<;>rfl
 .rw[J8];rfl
def ScI(s:O8):Prop:=∀r∈s.2.2.2.2,(∀n∈r.2.2.2.2.2.1,I64 n.2)/\∀n∈r.2.2.2.2.2.2.1,I64 n.2
theorem GG{a b:Bool}(h:l7 a false b=true):a=false/\b=true:=by cases a<;>cases b<;>first|exact⟨rfl,rfl⟩|cases h
theorem UJ{α:Type}{l:List α}{p:α->Bool}(h:l.any p=false):∀a∈l,p a=false:=by
 intro a ha;rw[gu]at h;have:=h a ha;cases hp:p a
 .rfl
 .exact absurd hp this
theorem a9J(h:smS s=true)(hI:ScI s):SmS s:=by
 unfold smS at h;obtain⟨h1,h⟩:=GG h;obtain⟨h2,h⟩:=GG h;obtain⟨h3,h⟩:=GG h;obtain⟨h4,h⟩:=GG h;obtain⟨h5,h⟩:=GG h;obtain⟨h6,h⟩:=GG h;have h7:s.2.2.2.2.any Si=false:=by cases hq:s.2.2.2.2.any Si<;>rw[hq]at h<;>first|rfl|cases h
 refine⟨by have:=gq (n:=80) h1;omega,gq (n:=14) h2,gq (n:=14) h3,aJ (gq (n:=60) h4) o5,⟨λf hf=>?_,λf hf=>?_⟩,λr hr=>?_⟩
 .have:=gq (n:=80) (UJ h5 f hf);omega
 .have:=gq (n:=80) (UJ h6 f hf);omega
 .have hl:=UJ h7 r hr;unfold Si at hl;cases g1:F9 80 (o8 r.1)<;>rw[g1]at hl
  case true=>cases hl
  cases g2:F9 80 (o8 r.2.2.2.2.2.2.2)<;>rw[g2]at hl
  case true=>cases hl
  cases g3:F9 50 (o8 r.2.2.2.2.2.1)<;>rw[g3]at hl
  case true=>cases hl
  have k1:=gq (n:=80) g1;have k2:=gq (n:=80) g2;exact⟨⟨o5,o5,(hI r hr).1,(hI r hr).2⟩,gq (n:=50) g3,gq (n:=50) hl⟩
def Vl(e:cZ):Bool:=l7 (F9 80 (o8 e.1)) true (l7 (F9 20 (o8 e.2)) true (e.2.any λm=>F9 80 (o8 m)))
def tG(b:Int)(t:Z7):Int⊕Bool:=l7 (F9 80 (o8 t.1)) (.inr false) (l7 (F9 150 (D7 .i64 b (o8 t.2.2.2))) (.inr false) (.inl (D7 .i64 b (o8 t.2.2.2))))
def sG(b:Int)(s:O8):Int⊕Bool:=l7 (F9 60 (D7 .i64 b (o8 s.2.2.2.2))) (.inr false) (l7 (smS s) (.inl (D7 .i64 b (o8 s.2.2.2.2))) (.inr false))
def smL(l:P8):Bool:=l7 (F9 9 (o8 l.1)) false (l7 (F9 9 (o8 l.2.1)) false (l7 (F9 5 (o8 l.2.2)) false (l7 (l.1.any Vl) false
 (match qj tG l.2.1 0 with| .inr _=>false| .inl _=>match qj sG l.2.2 0 with| .inr _=>false| .inl _=>true))))
theorem b2w:∀(b:Int) (t:Z7) (r:Bool),tG b t= .inr r->r=false:=by intro b t r h;unfold tG at h;cases g0:F9 80 (o8 t.1)<;>cases g:F9 150 (D7 .i64 b (o8 t.2.2.2))<;>simp only[g0,g,o6,o7]at h<;>cases h<;>rfl
theorem a9I:∀(b:Int) (s:O8) (r:Bool),sG b s= .inr r->r=false:=by intro b s r h;unfold sG at h;cases g:F9 60 (D7 .i64 b (o8 s.2.2.2.2))<;>cases g2:smS s<;>simp only[g,g2,o6,o7]at h<;>cases h<;>rfl
theorem PV(l:P8):uu l=some (smL l):=by
 unfold uu smL;cases h1:F9 9 (o8 l.1)
 case true=>rfl
 cases h2:F9 9 (o8 l.2.1)
 case true=>rfl
 cases h3:F9 5 (o8 l.2.2)
 case true=>rfl
 have l1:=gq (n:=9) h1;have l2:=gq (n:=9) h2;have l3:=gq (n:=5) h3;simp only[o7,D5,Z9];refine Y3 (BF l.1 Vl false PUnit.unit o5 (λi a ha=>?_) ?_) ?_
 .simp only[J9 ha,o6,I9,ha,D5];unfold Vl;cases F9 80 (o8 a.1)
  case true=>rfl
  cases h5:F9 20 (o8 a.2)
  case true=>rfl
  have l5:=gq (n:=20) h5;simp only[o7];refine Y3 (BF a.2 (λm=>F9 80 (o8 m)) false PUnit.unit o5 (λj m hm=>?_) ?_) ?_
  .simp only[J9 hm,o6,I9,hm,D5];cases F9 80 (o8 m)<;>rfl
  .rw[J8];rfl
  .cases a.2.any λm=>F9 80 (o8 m)<;>rfl
 .rw[J8];rfl
 cases l.1.any Vl
 case true=>rfl
 simp only[cond_false,Z9,o7];apply Ku l.2.1 tG (λb i=>((b,i):Int×Int)) (λ_=>PUnit.unit) (λ_ _=>True) 0 o5 trivial
 .intro i t b hi hi' _;refine⟨?_,λ_ _=>trivial⟩;simp only[J9 hi,o6,I9,hi,D5];unfold tG;rw[dL o5];cases F9 80 (o8 t.1)<;>cases F9 150 (D7 .i64 b (o8 t.2.2.2))<;>rfl
 .intro b _;rw[J8];rfl
 .intro _;cases ht:qj tG l.2.1 0 with
  |inr r=>rw[NI tG (λr=>r=false) b2w _ _ _ ht];rfl|inl b=>
   simp only[Z9];apply Ku l.2.2 sG (λb i=>((b,i):Int×Int)) (λ_=>PUnit.unit) (λ_ _=>True) 0 o5 trivial
   .intro i s b hi hi' _;refine⟨?_,λ_ _=>trivial⟩;simp only[J9 hi,o6,I9,hi,D5,UC];unfold sG;rw[dL o5];cases F9 60 (D7 .i64 b (o8 s.2.2.2.2))<;>cases smS s<;>rfl
   .intro b _;rw[J8];rfl
   .intro _;cases hs:qj sG l.2.2 0 with
    |inr r=>rw[NI sG (λr=>r=false) a9I _ _ _ hs];rfl|inl b=>rfl
structure WfL (l:P8):Prop where
 rl:∀t∈l.2.1,t.2.2.2.length<=4611686018427387904
 ri:∀t∈l.2.1,∀r∈t.2.2.2,a2A r
 sl:∀s∈l.2.2,s.2.2.2.2.length<=4611686018427387904
 si:∀s∈l.2.2,ScI s
theorem a6u:∀(L:List Z7) (b b' :Int),0<=b->b<=150->(∀t∈L,t.2.2.2.length<=4611686018427387904)->qj tG L b= .inl b' ->∀t∈L,t.1.length<=80/\t.2.2.2.length<=150
 |[],_,_,_,_,_,_=>by simp|t::L,b,b',h0,h1,hw,h=>by
  have hwt:=hw t A8;have ha:D7 .i64 b (o8 t.2.2.2)=b+o8 t.2.2.2:=Hl (by unfold I64 o8;omega);unfold qj tG at h;rw[ha]at h;cases g0:F9 80 (o8 t.1)<;>rw[g0]at h
  case true=>cases h
  cases g1:F9 150 (b+o8 t.2.2.2)<;>rw[g1]at h
  case true=>cases h
  rw[iV]at g1;intro x hx;rcases C9.1 hx with rfl|hx
  .exact⟨gq (n:=80) g0,by unfold o8 at g1;omega⟩
  .exact a6u L (b+o8 t.2.2.2) b' (by unfold o8;omega) g1 (λq hq=>hw q (by simp[hq])) h x hx
theorem a4W:∀(L:List O8) (b b' :Int),0<=b->b<=60->(∀s∈L,s.2.2.2.2.length<=4611686018427387904)->qj sG L b= .inl b' ->∀s∈L,smS s=true
 |[],_,_,_,_,_,_=>by simp|s::L,b,b',h0,h1,hw,h=>by
  have hwt:=hw s A8;have ha:D7 .i64 b (o8 s.2.2.2.2)=b+o8 s.2.2.2.2:=Hl (by unfold I64 o8;omega);unfold qj sG at h;rw[ha]at h;cases g1:F9 60 (b+o8 s.2.2.2.2)<;>rw[g1]at h
  case true=>cases h
  cases g2:smS s<;>rw[g2]at h
  case false=>cases h
  rw[iV]at g1;intro x hx;rcases C9.1 hx with rfl|hx
  .exact g2
  .exact a4W L (b+o8 s.2.2.2.2) b' (by unfold o8;omega) g1 (λq hq=>hw q (by simp[hq])) h x hx
theorem H_(h:smL l=true)(hW:WfL l):SmL l/\∀t∈l.2.1,EE t:=by
 unfold smL at h;obtain⟨h1,h⟩:=GG h;obtain⟨h2,h⟩:=GG h;obtain⟨h3,h⟩:=GG h;obtain⟨h4,h⟩:=GG h;have l1:=gq (n:=9) h1;have l2:=gq (n:=9) h2;have l3:=gq (n:=5) h3;cases ht:qj tG l.2.1 0 with
 |inr r=>rw[ht]at h;cases h|inl b=>
  rw[ht]at h;simp only at h;cases hs:qj sG l.2.2 0 with
  |inr r=>rw[hs]at h;cases h|inl b' =>
   have T:=a6u l.2.1 0 b o5 o5 hW.rl ht;have S:=a4W l.2.2 0 b' o5 o5 hW.sl hs;refine⟨⟨⟨o5,o5,o5⟩,λe he=>?_,λt ht=>by have:=(T t ht).1;omega,λs hs=>a9J (S s hs) (hW.si s hs),o5⟩,λt ht=>⟨by have:=(T t ht).2;omega,hW.ri t ht⟩⟩;have hl:=UJ h4 e he;unfold Vl at hl;cases g1:F9 80 (o8 e.1)<;>rw[g1]at hl
   case true=>cases hl
   cases g2:F9 20 (o8 e.2)<;>rw[g2]at hl
   case true=>cases hl
   have k1:=gq (n:=80) g1;exact⟨o5,λm hm=>by have:=gq (n:=80) (UJ hl m hm);omega⟩
theorem Bg:reachBytes<=4611686018427387904:=by decide
theorem a8v(h:wf c2e l):WfL l:=by
 refine⟨λt ht=>?_,λt ht r hr=>?_,λs hs=>?_,λs hs r hr=>⟨λn hn=>?_,λn hn=>?_⟩⟩
 .have:=(h.2.1.2 t ht).2.2.2.1;exact aJ this Bg
 .have:=(h.2.1.2 t ht).2.2.2.2 r hr;exact⟨zk this.2.1,zk this.2.2.1,zk this.2.2.2⟩
 .have:=(h.2.2.2 s hs).2.2.2.2.1;exact aJ this Bg
 .have:=(h.2.2.2 s hs).2.2.2.2.2 r hr;exact zk (this.2.2.2.2.2.1.2 n hn).2
 .have:=(h.2.2.2 s hs).2.2.2.2.2 r hr;exact zk (this.2.2.2.2.2.2.1.2 n hn).2
theorem TY(h:(dV l).1=0)(hs:l.2.2[i]? =some s){k:Nat}{r:bC}(hr:s.2.2.2.2[k]? =some r):Bi s (KI l s) k r=0:=by
 have hp:=(a2s h hs).2;unfold NV at hp;cases h1:uC l s with
 |some q=>rw[h1]at hp;exact absurd hp (Hf h1)|none=>
  rw[h1]at hp;simp only at hp;cases h2:Y0 s.2.2.2.2.length (CJ l s)with
  |some q=>
   rw[h2]at hp;obtain⟨j,hj,hq⟩:=eG h2;unfold CJ at hq;cases h3:s.2.2.2.2[j]? with
   |none=>rw[h3]at hq;cases hq|some q2=>rw[h3]at hq;exact absurd hp (IX hq)
  |none=>
   have hn:=rX h2 k (aF.1 hr).1;unfold CJ at hn;rw[hr]at hn;simp only at hn;unfold Jo at hn;cases he:x9 (Bi s (KI l s) k r) 0<;>rw[he]at hn
   .cases hn
   .exact gW.1 he
theorem JY{ρ:Type}{n:Nat}{p:Nat->Option ρ}(h:∀r,Y0 n p≠some r):∀i,i<n->p i=none:=by
 cases hf:Y0 n p with
 |some r=>exact absurd hf (h r)|none=>exact rX hf
theorem UU{k i:Int}{r:Int×Int}(h:Jp k i r=none):r.1=0:=by
 unfold Jp at h;cases he:x9 r.1 0<;>rw[he]at h
 .cases h
 .exact gW.1 he
theorem a0j(h:(dV l).1=0):∀e∈l.1,e.2.length<=16:=by
 intro e he;unfold dV at h;cases h1:x9 (yT l).1 0<;>rw[h1]at h
 .simp only[o7]at h;rw[iw h]at h1;cases h1
 have h1:=gW.1 h1;unfold yT at h1;cases h2:F9 8 (o8 l.1)<;>rw[h2]at h1
 case true=>exact absurd (show(4:Int)=0 from h1) I8
 simp only[o7]at h1;obtain⟨i,hi,e1⟩:=Y5 he;have hn:=JY (n:=l.1.length) (p:=GY l) (λr hf=>by
  rw[hf]at h1;obtain⟨j,_,hj⟩:=eG hf;unfold GY at hj;split at hj
  .exact IY hj h1
  .cases hj) i hi
 unfold GY at hn;rw[iP hi,e1]at hn;have hz:=UU hn;unfold OV at hz;cases g1:qZ e.1<;>rw[g1]at hz
 .exact absurd (show(2:Int)=0 from hz) I8
 cases g2:uw l 1 i e.1<;>rw[g2]at hz
 case true=>exact absurd (show(7:Int)=0 from hz) I8
 cases g3:x9 (o8 e.2) 0<;>rw[g3]at hz
 case true=>exact absurd (show(5:Int)=0 from hz) I8
 cases g4:F9 16 (o8 e.2)<;>rw[g4]at hz
 case true=>exact absurd (show(4:Int)=0 from hz) I8
 rw[iV]at g4;unfold o8 at g4;omega
end Go.GP
namespace Gt
open Go Go.GP
theorem zQ(t:Int×Int)(en:List cZ):bH t en=aO t en:=by
 unfold bH aO;by_cases h1:t.1=1
 .simp[x9,h1,U4]
 by_cases h2:t.1=2
 .simp[x9,h2,U4]
 by_cases h3:t.1=3
 .simp[x9,h3,U4]
 by_cases h4:t.1=4
 .simp[x9,h4,U4]
 by_cases h5:t.1=5
 .simp[x9,h5,U4]
 by_cases h6:t.1=6
 .simp[x9,h6,U4]
 .simp only[x9,h1,h2,h3,h4,h5,h6,decide_false,o7,D5];by_cases h7:1<=t.1
  .rw[a0w (oG h7),Qs (oD o5)]
  .rw[Qs (oD o5)]
theorem UK(t:Int×Int)(en:List cZ):gz t en=iF t en:=by unfold gz iF;rw[zQ]
end Gt
namespace Go.GP
open Gt
set_option maxRecDepth 100000
theorem UT{c e:Int}(h:Jo c e=none):c=0:=by
 unfold Jo at h;cases he:x9 c 0<;>rw[he]at h
 .cases h
 .exact gW.1 he
theorem Xw{b:Bool}{x y:Int}(h:l7 b x y=0)(hx:x≠0):b=false/\y=0:=by
 cases b
 .exact⟨rfl,h⟩
 .exact absurd h hx
theorem ZI{n:Nat}{p:Nat->Option (Int×Int×Int×Int)}{z:Int×Int×Int×Int}(h:(match Y0 n p with|some r=>r|none=>z).1=0)(hp:∀i r,p i=some r->r.1≠0):∀i,i<n->p i=none:=
 JY λr hf=>by rw[hf]at h;obtain⟨j,_,hj⟩:=eG hf;exact hp j r hj h
variable {l:P8}
theorem a8t(h:(dV l).1=0):(yT l).1=0:=by
 unfold dV at h;cases h1:x9 (yT l).1 0<;>rw[h1]at h
 .exact h
 .exact gW.1 h1
theorem a8u(h:(dV l).1=0):(xk l).1=0:=by
 have h0:=a8t h;unfold dV at h;rw[iw h0,o6]at h;cases h1:x9 (xk l).1 0<;>rw[h1]at h
 .exact h
 .exact gW.1 h1
structure RwV (t:Z7) (en:List cZ) (x:yA):Prop where
 dv:Az x.1=true
 dn:x.1.1≠x.1.2
 lh:x.2.1<x.2.2.1
 lo:inB x.2.1 (bnd t.2.1 en)=true
 hi:inB (O0 .i64 x.2.2.1 1) (bnd t.2.1 en)=true
 n:inB x.2.2.2 (bnd t.2.2.1 en)=true
theorem a6E{t:Z7}{en:List cZ}{x:yA}(h:DD x (bnd t.2.1 en) (bnd t.2.2.1 en)=false):RwV t en x:=by
 unfold DD at h;cases g1:Az x.1<;>rw[g1]at h
 .cases h
 cases g2:x9 x.1.1 x.1.2<;>rw[g2]at h
 case true=>cases h
 cases g3:U4 x.2.2.1 x.2.1<;>rw[g3]at h
 case true=>cases h
 cases g4:inB x.2.1 (bnd t.2.1 en)<;>rw[g4]at h
 .cases h
 cases g5:inB (O0 .i64 x.2.2.1 1) (bnd t.2.1 en)<;>rw[g5]at h
 .cases h
 cases g6:inB x.2.2.2 (bnd t.2.2.1 en)<;>rw[g6]at h
 .cases h
 exact⟨g1,Dv.1 g2,EX.1 g3,g4,g5,g6⟩
structure TbV (l:P8) (i:Nat) (t:Z7):Prop where
 id:qZ t.1=true
 tk:uw l 2 i t.1=false
 le:t.2.2.2.length<=64
 vk:vty t.2.1 l.1=true
 vv:vty t.2.2.1 l.1=true
 rows:∀x∈t.2.2.2,RwV t l.1 x
theorem a2t(h:(dV l).1=0):l.2.1.length<=8/\∀i t,l.2.1[i]? =some t->TbV l i t:=by
 have h1:=a8u h;unfold xk at h1;cases h2:F9 8 (o8 l.2.1)<;>rw[h2]at h1
 case true=>exact absurd (show(4:Int)=0 from h1) I8
 rw[o7]at h1;refine⟨by rw[iV]at h2;unfold o8 at h2;omega,λi t he=>?_⟩;have hn:=ZI h1 (λj r hj=>by
  unfold DC at hj;split at hj
  .exact IY hj
  .cases hj) i (aF.1 he).1
 unfold DC at hn;rw[he]at hn;have hz:=UU hn;unfold OE at hz;cases g1:qZ t.1<;>rw[g1]at hz
 .exact absurd (show(2:Int)=0 from hz) I8
 cases g2:uw l 2 i t.1<;>rw[g2]at hz
 case true=>exact absurd (show(7:Int)=0 from hz) I8
 have hc:(FU t l.1).2=0:=by
  cases g3:x9 (FU t l.1).2 0<;>rw[g3]at hz
  .exact hz
  .exact gW.1 g3
 unfold FU at hc;cases g4:F9 64 (o8 t.2.2.2)<;>rw[g4]at hc
 case true=>exact absurd (show(4:Int)=0 from hc) I8
 cases g5:vty t.2.1 l.1<;>rw[g5]at hc
 .exact absurd (show(8:Int)=0 from hc) I8
 cases g6:vty t.2.2.1 l.1<;>rw[g6]at hc
 .exact absurd (show(8:Int)=0 from hc) I8
 simp only[o6,o7]at hc;refine⟨g1,g2,by rw[iV]at g4;unfold o8 at g4;omega,g5,g6,λx hx=>?_⟩;obtain⟨j,hj,e1⟩:=Y5 hx;have hf:∀r,Y0 t.2.2.2.length (MP t l.1)≠some r:=λr hf=>by
  have hc' :(match Y0 t.2.2.2.length (MP t l.1)with|some r=>r|none=>(0,0)).2=0:=hc;rw[hf]at hc';obtain⟨q,_,hq⟩:=eG hf;unfold MP at hq;split at hq
  .rename_i x' _;cases a1:DD x' (bnd t.2.1 l.1) (bnd t.2.2.1 l.1)<;>rw[a1]at hq
   .cases a2:(t.2.2.2.take q).any λy=>tJ y x'<;>rw[a2]at hq
    .cases hq
    .cases hq;exact absurd (show(11:Int)=0 from hc') I8
   .cases hq;exact absurd (show(3:Int)=0 from hc') I8
  .cases hq
 have hj' :=JY hf j hj;unfold MP at hj';rw[iP hj,e1]at hj';simp only at hj';cases a1:DD x (bnd t.2.1 l.1) (bnd t.2.2.1 l.1)<;>rw[a1]at hj'
 .exact a6E a1
 .cases hj'
structure RuV (s:O8) (sg:O7) (k:Nat) (r:bC):Prop where
 id:qZ r.1=true
 nm:((s.2.2.2.2.take k).any λx=>seq x.1 r.1)=false
 df:∃d,J7 s.2.2.2.1 r.2.1=some d/\JX r sg d.2=0
 pa:r.2.2.1=-1\/∃(p:Nat) (q:bC),r.2.2.1=(p:Int)/\p<k/\s.2.2.2.2[p]? =some q
 p0:0<=r.2.2.2.1
 p9:r.2.2.2.1<=9
 dv:Az r.2.2.2.2.1=true
 dn:r.2.2.2.2.1.1≠r.2.2.2.2.1.2
 src:UD r.2.2.2.2.2.2.2=true
theorem o_{s:O8}{sg:O7}{k:Nat}{r:bC}(h:Bi s sg k r=0):RuV s sg k r:=by
 unfold Bi at h;cases g1:qZ r.1<;>rw[g1]at h
 .exact absurd (show(2:Int)=0 from h) I8
 cases g2:(s.2.2.2.2.take k).any λx=>seq x.1 r.1<;>rw[g2]at h
 case true=>exact absurd (show(7:Int)=0 from h) I8
 simp only[o6,o7]at h;cases g3:J7 s.2.2.2.1 r.2.1 with
 |none=>rw[g3]at h;exact absurd (show(6:Int)=0 from h) I8|some d=>
  rw[g3]at h;simp only at h;obtain⟨g4,h⟩:=Xw h I8;cases g5:F9 r.2.2.2.1 0<;>rw[g5]at h
  case true=>exact absurd (show(3:Int)=0 from h) I8
  cases g6:F9 9 r.2.2.2.1<;>rw[g6]at h
  case true=>exact absurd (show(3:Int)=0 from h) I8
  cases g7:Az r.2.2.2.2.1<;>rw[g7]at h
  .exact absurd (show(3:Int)=0 from h) I8
  cases g8:x9 r.2.2.2.2.1.1 r.2.2.2.2.1.2<;>rw[g8]at h
  case true=>exact absurd (show(3:Int)=0 from h) I8
  cases g9:U4 8 (JU (s.2.2.2.2.take k) r.2.1:Int)<;>rw[g9]at h
  case true=>exact absurd (show(4:Int)=0 from h) I8
  cases g10:UD r.2.2.2.2.2.2.2<;>rw[g10]at h
  .exact absurd (show(2:Int)=0 from h) I8
  simp only[o6,o7]at h;refine⟨g1,g2,⟨d,g3,h⟩,?_,iV.1 g5,iV.1 g6,g7,Dv.1 g8,g10⟩;cases a1:x9 r.2.2.1 (-1)<;>rw[a1]at g4
  .rw[o7]at g4;cases a2:F9 r.2.2.1 0<;>rw[a2]at g4
   case true=>cases g4
   rw[o7]at g4;cases a3:U4 (k:Int) r.2.2.1<;>rw[a3]at g4
   case true=>cases g4
   rw[o7]at g4;have b2:=iV.1 a2;have b3:=EX.1 a3;right;obtain⟨p,hp⟩:∃p:Nat,r.2.2.1=(p:Int):=⟨r.2.2.1.toNat,(jP b2).symm⟩;rw[hp,I9]at g4;cases hq:s.2.2.2.2[p]? with
   |none=>rw[hq]at g4;cases g4|some q=>exact⟨p,q,hp,Int.ofNat_lt.1 (by rw[hp]at b3;exact b3),hq⟩
  .exact .inl (gW.1 a1)
structure FdV (en:List cZ) (f:dY) (a b:List dY):Prop where
 id:qZ f.1=true
 a:(a.any λx=>seq x.1 f.1)=false
 b:(b.any λx=>seq x.1 f.1)=false
 ty:vty f.2 en=true
theorem Pg{en:List cZ}{f:dY}{a b:List dY}(h:Dn en f a b=0):FdV en f a b:=by
 unfold Dn at h;cases g1:qZ f.1<;>rw[g1]at h
 .exact absurd (show(2:Int)=0 from h) I8
 cases g2:a.any λx=>seq x.1 f.1<;>rw[g2]at h
 case true=>exact absurd (show(7:Int)=0 from h) I8
 cases g3:b.any λx=>seq x.1 f.1<;>rw[g3]at h
 case true=>exact absurd (show(7:Int)=0 from h) I8
 cases g4:vty f.2 en<;>rw[g4]at h
 .exact absurd (show(8:Int)=0 from h) I8
 exact⟨g1,g2,g3,g4⟩
structure ScV (l:P8) (i:Nat) (s:O8):Prop where
 id:qZ s.1=true
 tk:uw l 3 i s.1=false
 mb:s.2.1=-1\/∃(p:Nat) (q:O8),s.2.1=(p:Int)/\p<i/\l.2.2[p]? =some q
 li:s.2.2.1.length<=12
 ld:s.2.2.2.1.length<=12
 ins:∀j f,s.2.2.1[j]? =some f->FdV l.1 f (s.2.2.1.take j) []
 defs:∀j f,s.2.2.2.1[j]? =some f->FdV l.1 f s.2.2.1 (s.2.2.2.1.take j)
 rules:∀k r,s.2.2.2.2[k]? =some r->RuV s (KI l s) k r
theorem VH(h:(dV l).1=0):l.2.2.length<=4/\∀i s,l.2.2[i]? =some s->ScV l i s:=by
 have h0:=h;refine⟨?_,λi s hs=>?_⟩
 .unfold dV at h;rw[iw (a8t h0),o6,iw (a8u h0),o6]at h;unfold FO at h;cases h3:F9 4 (o8 l.2.2)<;>rw[h3]at h
  case true=>exact absurd (show(4:Int)=0 from h) I8
  rw[iV]at h3;unfold o8 at h3;omega
 have he:=Zd h hs;unfold wV at he;cases g1:qZ s.1<;>rw[g1]at he
 .exact absurd (show(2:Int)=0 from he) I8
 cases g2:uw l 3 i s.1<;>rw[g2]at he
 case true=>exact absurd (show(7:Int)=0 from he) I8
 cases g3:AX l i s.2.1<;>rw[g3]at he
 case true=>exact absurd (show(6:Int)=0 from he) I8
 cases g4:F9 12 (o8 s.2.2.1)<;>rw[g4]at he
 case true=>exact absurd (show(4:Int)=0 from he) I8
 cases g5:F9 12 (o8 s.2.2.2.1)<;>rw[g5]at he
 case true=>exact absurd (show(4:Int)=0 from he) I8
 simp only[o6,o7]at he;have hfs:uC l s=none:=by
  unfold NV at he;cases hf:uC l s with
  |none=>rfl|some q=>rw[hf]at he;exact absurd he (Hf hf)
 refine⟨g1,g2,?_,by rw[iV]at g4;unfold o8 at g4;omega,by rw[iV]at g5;unfold o8 at g5;omega,λj f hf=>?_,λj f hf=>?_,λk r hr=>o_ (TY h hs hr)⟩
 .unfold AX at g3;cases a1:x9 s.2.1 (-1)<;>rw[a1]at g3
  .rw[o7]at g3;cases a2:F9 s.2.1 0<;>rw[a2]at g3
   case true=>cases g3
   rw[o7]at g3;cases a3:U4 (i:Int) s.2.1<;>rw[a3]at g3
   case true=>cases g3
   rw[o7]at g3;have b2:=iV.1 a2;have b3:=EX.1 a3;right;obtain⟨p,hp⟩:∃p:Nat,s.2.1=(p:Int):=⟨s.2.1.toNat,(jP b2).symm⟩;rw[hp,I9]at g3;cases hq:l.2.2[p]? with
   |none=>rw[hq]at g3;cases g3|some q=>exact⟨p,q,hp,Int.ofNat_lt.1 (by rw[hp]at b3;exact b3),hq⟩
  .exact .inl (gW.1 a1)
 .unfold uC at hfs;have hin:Y0 s.2.2.1.length (inP l s)=none:=by
   cases hq:Y0 s.2.2.1.length (inP l s)with
   |none=>rfl|some q=>rw[hq]at hfs;cases hfs
  have hj:=rX hin j (aF.1 hf).1;unfold inP at hj;rw[hf]at hj;exact Pg (UT hj)
 .unfold uC at hfs;have hdf:Y0 s.2.2.2.1.length (Ul l s)=none:=by
   cases hq:Y0 s.2.2.1.length (inP l s)with
   |none=>rw[hq]at hfs;exact hfs|some q=>rw[hq]at hfs;cases hfs
  have hj:=rX hdf j (aF.1 hf).1;unfold Ul at hj;rw[hf]at hj;exact Pg (UT hj)
theorem zY(n:Nat):nX n n=true:=by unfold nX;exact Nat.beq_refl n
structure LenL (l:P8):Prop where
 e:l.1.length<=1000000/\∀e∈l.1,e.2.length<=1000000
 t:l.2.1.length<=1000000/\∀t∈l.2.1,t.2.2.2.length<=1000000
 s:l.2.2.length<=1000000/\∀s∈l.2.2,s.2.2.1.length<=1000000/\s.2.2.2.1.length<=1000000/\s.2.2.2.2.length<=1000000/\∀r∈s.2.2.2.2,r.2.2.2.2.2.1.length<=1000000/\r.2.2.2.2.2.2.1.length<=1000000
theorem UY{α β ρ:Type}(b:β):∀l:List α,qj (λ(b:β) (_:α)=>(.inl b:β⊕ρ)) l b= .inl b
 |[]=>rfl|_::l=>UY b l
variable {α:Type}
theorem vU{a:List α}(hl:a.length<=1000000){f:Int->Option (Out Int PUnit Bool)}
  (hin:∀(i:Nat) x,a[i]? =some x->f (i:Int)=some (.nx (D7 .i64 (i:Int) 1))) (hend:f (a.length:Int)=some (.ex PUnit.unit)):
  (l7 (E5 (x9 (o8 a) (o8 a))) (some false) (l9 (O6 f 0) λo=>U3 o (λ_=>some true) λr=>some r))=some true:=by
 rw[iw rfl,P7,o7];refine Ku a (λ(b:Unit) _=>(.inl b:Unit⊕Bool)) (λ_ i=>i) (λ_=>PUnit.unit) (λ_ _=>True) () hl trivial (λi x _ hx hi _=>⟨?_,λ_ _=>trivial⟩) (λ_ _=>hend) (λ_=>?_)
 .rw[hin i x hx,dL o5]
 .rw[UY];rfl
theorem Eu(a:c2f):seq a a=true:=QB.2 rfl
theorem Eb(a:Int):x9 a a=true:=iw rfl
theorem KZ:eY true true=true:=rfl
theorem MW{a:List c2f}(h:a.length<=1000000):zN a a=some true:=by unfold zN;refine vU h (λi x hx=>?_) (by simp only[J8,o7]);simp only[J9 hx,o6,I9,hx,D5,Eu,P7,o7]
theorem Gy{a:List vV}(h:a.length<=1000000):Bq a a=some true:=by unfold Bq;refine vU h (λi x hx=>?_) (by simp only[J8,o7]);simp only[J9 hx,o6,I9,hx,D5,Eb,KZ,P7,o7]
theorem TF{a:List yA}(h:a.length<=1000000):Jj a a=some true:=by unfold Jj;refine vU h (λi x hx=>?_) (by simp only[J8,o7]);simp only[J9 hx,o6,I9,hx,D5,Eb,KZ,P7,o7]
theorem Et{a:List dY}(h:a.length<=1000000):yO a a=some true:=by unfold yO;refine vU h (λi x hx=>?_) (by simp only[J8,o7]);simp only[J9 hx,o6,I9,hx,D5,Eb,Eu,KZ,P7,o7]
theorem Qn{a:List cZ}(h:a.length<=1000000)(h2:∀e∈a,e.2.length<=1000000):FI a a=some true:=by
 unfold FI;refine vU h (λi x hx=>?_) (by simp only[J8,o7]);have e:Ji x x=some true:=by unfold Ji;rw[Eu,o6,MW (h2 x (kW hx)),D5]
 simp only[J9 hx,o6,I9,hx,D5,e,P7,o7]
theorem Om{a:List Z7}(h:a.length<=1000000)(h2:∀t∈a,t.2.2.2.length<=1000000):CU a a=some true:=by
 unfold CU;refine vU h (λi x hx=>?_) (by simp only[J8,o7]);have e:FN x x=some true:=by unfold FN;simp only[Eu,Eb,KZ,o6];rw[TF (h2 x (kW hx)),D5]
 simp only[J9 hx,o6,I9,hx,D5,e,P7,o7]
theorem Qo{a:List bC}(h:a.length<=1000000)(h2:∀r∈a,r.2.2.2.2.2.1.length<=1000000/\r.2.2.2.2.2.2.1.length<=1000000):FK a a=some true:=by
 unfold FK;refine vU h (λi x hx=>?_) (by simp only[J8,o7]);have e:Jk x x=some true:=by obtain⟨g1,g2⟩:=h2 x (kW hx);unfold Jk;simp only[Eu,Eb,KZ,o6];rw[Gy g1,D5,o6,Gy g2,D5]
 simp only[J9 hx,o6,I9,hx,D5,e,P7,o7]
theorem JK(h:LenL l):Iq l l=some true:=by
 unfold Iq;rw[Qn h.e.1 h.e.2,D5,o6,Om h.t.1 h.t.2,D5,o6];have e:CS l.2.2 l.2.2=some true:=by
  unfold CS;refine vU h.s.1 (λi x hx=>?_) (by simp only[J8,o7]);have e:FM x x=some true:=by obtain⟨g1,g2,g3,g4⟩:=h.s.2 x (kW hx);unfold FM;simp only[Eu,Eb,o6];rw[Et g1,D5,o6,Et g2,D5,o6,Qo g3 g4,D5]
  simp only[J9 hx,o6,I9,hx,D5,e,P7,o7]
 rw[e,D5]
theorem XH{ρ:Type}{n:Nat}{p:Nat->Option ρ}(h:∀i,i<n->p i=none):Y0 n p=none:=by unfold Y0;exact nV.2 λi hi=>h i (dM.1 hi)
theorem a8a{L:List α}{a:α}(h:a∈L):∃i:Nat,L[i]? =some a:=by obtain⟨i,hi,e⟩:=Y5 h;exact⟨i,by rw[iP hi,e]⟩
theorem c1A(hw:SwL l)(hv:(dV l).1=0):SmL l:=by refine⟨hw.few,hw.en,hw.tb,λs hs=>?_,by have:=(VH hv).1;omega⟩;obtain⟨i,hi⟩:=a8a hs;have hV:=(VH hv).2 i s hi;refine TJ (l:=l) (hw.sc s hs) hV.li hV.ld (XH λk hk=>?_);have e:=iP hk;have hr:=TY hv hi e;unfold CJ;rw[e];simp only[Jo,hr];rfl
def nmP(L:List α)(f:α->c2f)(n:c2f)(i:Nat):c2k:=match L[i]? with|some a=>l7 (seq (f a) n) (some (i:Int)) none|none=>none
def nmI(L:List α)(f:α->c2f)(n:c2f):Int:=match Y0 L.length (nmP L f n)with|some r=>r|none=>-1
theorem zZ(L:List α)(f:α->c2f)(n:c2f):nmI L f n=-1\/∃(i:Nat) (a:α),nmI L f n=(i:Int)/\L[i]? =some a/\f a=n/\J7 L (nmI L f n)=some a/\a∈L:=by
 unfold nmI;cases h:Y0 L.length (nmP L f n)with
 |none=>exact .inl rfl|some r=>
  right;obtain⟨i,hi,hp⟩:=eG h;unfold nmP at hp;have e:=iP hi;rw[e]at hp;simp only at hp;cases g:seq (f L[i]) n<;>rw[g]at hp
  .cases hp
  .rw[o6]at hp;cases hp;exact⟨i,L[i],rfl,e,QB.1 g,by simp only;rw[I9];exact e,L8 hi⟩
theorem Cc(L:List α)(fl:α->c2f)(n:c2f)(hl:L.length<=1000000){f:Int->Option (Out Int PUnit Int)}
  (h1:∀(i:Nat) (a:α),L[i]? =some a->f (i:Int)=some (l7 (seq (fl a) n) (.rt (i:Int)) (.nx (D7 .i64 (i:Int) 1)))) (h2:f (L.length:Int)=some (.ex PUnit.unit)):
  (l9 (O6 f 0) λ(o:PUnit⊕Int)=>U3 o (λ(y:PUnit)=>some (-1)) λ(r:Int)=>some r)=some (nmI L fl n):=by
 refine Y3 (xK (p:=nmP L fl n) L.length hl PUnit.unit (λi hi=>?_) h2) ?_
 .have e:=iP hi;rw[h1 i _ e];unfold nmP;rw[e];simp only;cases seq (fl L[i]) n<;>rfl
 .unfold nmI;cases Y0 L.length (nmP L fl n)<;>rfl
theorem JL(n:c2f)(h:l.2.2.length<=1000000):jD l n=some (nmI l.2.2 (λ(s:O8)=>s.1) n):=by unfold jD;refine Cc l.2.2 (λ(s:O8)=>s.1) n h (λi a ha=>?_) (by rw[J8];rfl);simp only[J9 ha,o6,I9,ha,D5];cases seq a.1 n<;>rfl
theorem PR(n:c2f)(h:l.2.2.length<=1000000):ut l n=some (nmI l.2.2 (λ(s:O8)=>s.1) n):=by unfold ut;refine Cc l.2.2 (λ(s:O8)=>s.1) n h (λi a ha=>?_) (by rw[J8];rfl);simp only[J9 ha,o6,I9,ha,D5];cases seq a.1 n<;>rfl
theorem Dz(n:c2f)(h:l.2.1.length<=1000000):jE l n=some (nmI l.2.1 (λ(s:Z7)=>s.1) n):=by unfold jE;refine Cc l.2.1 (λ(s:Z7)=>s.1) n h (λi a ha=>?_) (by rw[J8];rfl);simp only[J9 ha,o6,I9,ha,D5];cases seq a.1 n<;>rfl
theorem PS(n:c2f)(h:l.2.1.length<=1000000):yw l n=some (nmI l.2.1 (λ(s:Z7)=>s.1) n):=by unfold yw;refine Cc l.2.1 (λ(s:Z7)=>s.1) n h (λi a ha=>?_) (by rw[J8];rfl);simp only[J9 ha,o6,I9,ha,D5];cases seq a.1 n<;>rfl
structure AmW (a:I5):Prop where
 d:I64 a.2.1
 s:a.2.2.1.length<=4611686018427387904
 n:a.2.2.2.1.length<=4611686018427387904
 f:a.2.2.2.2.1.length<=4611686018427387904
 p:a.2.2.2.2.2.1.length<=4611686018427387904
 pr:I64 a.2.2.2.2.2.2.1
 g:∀n∈a.2.2.2.2.2.2.2.1,I64 n.2
 v:∀n∈a.2.2.2.2.2.2.2.2.1,I64 n.2
 t:a.2.2.2.2.2.2.2.2.2.2.1.length<=4611686018427387904
 lo:I64 a.2.2.2.2.2.2.2.2.2.2.2.2.1
 hi:I64 a.2.2.2.2.2.2.2.2.2.2.2.2.2.1
 rn:I64 a.2.2.2.2.2.2.2.2.2.2.2.2.2.2
structure AmF (a:I5):Prop where
 g:a.2.2.2.2.2.2.2.1.length<=60
 v:a.2.2.2.2.2.2.2.2.1.length<=60
 s:a.2.2.2.2.2.2.2.2.2.1.length<=200
def Zi(a:I5):Bool:=l7 (F9 60 (o8 a.2.2.2.2.2.2.2.1)) false (l7 (F9 60 (o8 a.2.2.2.2.2.2.2.2.1)) false (E5 (F9 200 (o8 a.2.2.2.2.2.2.2.2.2.1))))
theorem a6H{a:I5}(h:Zi a=true):AmF a:=by
 unfold Zi at h;obtain⟨h1,h⟩:=GG h;obtain⟨h2,h⟩:=GG h;have h3:F9 200 (o8 a.2.2.2.2.2.2.2.2.2.1)=false:=by revert h;cases F9 200 (o8 a.2.2.2.2.2.2.2.2.2.1)<;>intro h<;>first|rfl|cases h
 exact⟨gq (n:=60) h1,gq (n:=60) h2,gq (n:=200) h3⟩
theorem a2V(act:List I5):∃b,Ee act=some b/\(b=true->act.length<=8/\∀a∈act,AmF a):=by
 unfold Ee;have key:=xU (f:=λ(x:Int)=>
   l7 (F9 x (o8 act))
    (l7 (F9 x 12)
     (l9 (J7 act x) λ(x_1:I5)=>
      l7 (F9 60 (o8 x_1.2.2.2.2.2.2.2.1)) (some (Out.rt false))
       (l9 (J7 act x) λ(x_2:I5)=>
        l7 (F9 60 (o8 x_2.2.2.2.2.2.2.2.2.1)) (some (Out.rt false))
         (l9 (J7 act x) λ(x_3:I5)=>
          l7 (F9 200 (o8 x_3.2.2.2.2.2.2.2.2.2.1)) (some (Out.rt false))
           (some (Out.nx (D7 IntKind.i64 x 1))))))
     (some (Out.ex PUnit.unit)))
    (some (Out.ex PUnit.unit))) (s:=0) (λx=>∃i:Nat,x=(i:Int)/\i<=12/\i<=act.length/\∀a∈act.take i,Zi a=true) (λ_=>act.length<=8->∀a∈act,Zi a=true) (λr=>r=false) (λx=>12 -x.toNat)
  ⟨0,rfl,o5,o5,A8⟩ A8 ?_
 .rcases key with⟨e,k1,k2⟩|⟨r,k1,k2⟩
  .refine⟨U4 (o8 act) 8,Y3 k1 rfl,λhb=>?_⟩;have hl:act.length<=8:=by have:=zH.1 hb;unfold o8 at this;omega
   exact⟨hl,λa ha=>a6H (k2 hl a ha)⟩
  .exact⟨r,Y3 k1 rfl,λhb=>by rw[k2]at hb;cases hb⟩
 .rintro x ⟨i,rfl,h1,h2,h3⟩;by_cases hi:i<act.length
  .by_cases h12:i<12
   .have e:=iP hi;simp only[J9 e,o6,iM (show(i:Int)<12 by omega),I9,e,D5];cases g:Zi act[i]
    .right;right;refine⟨false,?_,rfl⟩;unfold Zi at g;cases g1:F9 60 (o8 act[i].2.2.2.2.2.2.2.1)<;>rw[g1]at g
     .cases g2:F9 60 (o8 act[i].2.2.2.2.2.2.2.2.1)<;>rw[g2]at g
      .cases g3:F9 200 (o8 act[i].2.2.2.2.2.2.2.2.2.1)<;>rw[g3]at g
       .cases g
       .rfl
      .rfl
     .rfl
    .left;refine⟨((i+1:Nat):Int),?_,⟨i+1,rfl,h12,hi,λa ha=>?_⟩,by simp;omega⟩
     .unfold Zi at g;obtain⟨g1,g⟩:=GG g;obtain⟨g2,g⟩:=GG g;have g3:F9 200 (o8 act[i].2.2.2.2.2.2.2.2.2.1)=false:=by revert g;cases F9 200 (o8 act[i].2.2.2.2.2.2.2.2.2.1)<;>intro g<;>first|rfl|cases g
      rw[g1,g2,g3,dL o5];rfl
     .rw[V6 hi]at ha;rcases H5.1 ha with ha|ha
      .exact h3 a ha
      .rw[dR.1 ha];exact g
   .right;left;refine⟨PUnit.unit,?_,λhl=>by omega⟩;rw[iM (show(i:Int)<o8 act by unfold o8;omega),gX (show(12:Int)<=(i:Int) by omega)];rfl
  .right;left;have:i=act.length:=o5;subst this;rw[aU]at h3;exact⟨PUnit.unit,by rw[J8];rfl,λ_=>h3⟩
theorem QQ:pI=some true:=by decide+kernel
end Go.GP
namespace Go.GP
open Gt
abbrev yAm:Ty:=(.prod (.int .i64) (.prod (.int .i64) (.prod .str (.prod .str (.prod .str (.prod .str (.prod (.int .i64) (.prod (.sl (.prod (.int .i64) (.int .i64))) (.prod (.sl (.prod (.int .i64) (.int .i64))) (.prod .str (.prod .str (.prod (.prod (.int .i64) (.int .i64)) (.prod (.int .i64) (.prod (.int .i64) (.int .i64)))))))))))))))
theorem c1C{a:I5}(h:wf yAm a):AmW a:=by
 refine⟨zk h.2.1,aJ h.2.2.1 Bg,aJ h.2.2.2.1 Bg,aJ h.2.2.2.2.1 Bg,aJ h.2.2.2.2.2.1 Bg,zk h.2.2.2.2.2.2.1,λn hn=>?_,λn hn=>?_,?_,?_,?_,?_⟩
 .exact zk (h.2.2.2.2.2.2.2.1.2 n hn).2
 .exact zk (h.2.2.2.2.2.2.2.2.1.2 n hn).2
 .exact aJ h.2.2.2.2.2.2.2.2.2.2.1 Bg
 .exact zk h.2.2.2.2.2.2.2.2.2.2.2.2.1
 .exact zk h.2.2.2.2.2.2.2.2.2.2.2.2.2.1
 .exact zk h.2.2.2.2.2.2.2.2.2.2.2.2.2.2
theorem c1E{l:List I5}(h:wf (.sl yAm) l):∀a∈l,AmW a:=λa ha=>c1C (h.2 a ha)
end Go.GP
namespace Go.GP
open Gt
set_option maxRecDepth 100000
theorem QI{L:List dY}(n:c2f)(h:L.length<=1000000):rP L n=some (nmI L (λ(s:dY)=>s.1) n):=by unfold rP;refine Cc L (λ(s:dY)=>s.1) n h (λi a ha=>?_) (by rw[J8];rfl);simp only[J9 ha,o6,I9,ha,D5];cases seq a.1 n<;>rfl
theorem Ju{L:List bC}(n:c2f)(h:L.length<=1000000):qf L n=some (nmI L (λ(s:bC)=>s.1) n):=by unfold qf;refine Cc L (λ(s:bC)=>s.1) n h (λi a ha=>?_) (by rw[J8];rfl);simp only[J9 ha,o6,I9,ha,D5];cases seq a.1 n<;>rfl
inductive Amd (l:P8) (a:I5):P8->Prop
 |ruleIn (k:Nat) (s:O8) (d p:Int) (hk:l.2.2[k]? =some s):Amd l a (l.1,l.2.1,l.2.2.set k (s.1,s.2.1,s.2.2.1,s.2.2.2.1,s.2.2.2.2++[(a.2.2.2.1,d,p,a.2.2.2.2.2.2.1,(a.2.1,109573),a.2.2.2.2.2.2.2.1,a.2.2.2.2.2.2.2.2.1,a.2.2.2.2.2.2.2.2.2.1)]))
 |ruleOut (k:Nat) (s:O8) (i:Nat) (r:bC) (hk:l.2.2[k]? =some s) (hi:s.2.2.2.2[i]? =some r) (h1:r.2.2.2.2.1.1<a.2.1) (h2:a.2.1<r.2.2.2.2.1.2):Amd l a (l.1,l.2.1,l.2.2.set k (s.1,s.2.1,s.2.2.1,s.2.2.2.1,s.2.2.2.2.set i (r.1,r.2.1,r.2.2.1,r.2.2.2.1,(r.2.2.2.2.1.1,a.2.1),r.2.2.2.2.2)))
 |rowIn (k:Nat) (t:Z7) (hk:l.2.1[k]? =some t):Amd l a (l.1,l.2.1.set k (t.1,t.2.1,t.2.2.1,t.2.2.2++[((a.2.1,109573),a.2.2.2.2.2.2.2.2.2.2.2.2)]),l.2.2)
 |rowOut (k:Nat) (t:Z7) (i:Nat) (r:yA) (hk:l.2.1[k]? =some t) (hi:t.2.2.2[i]? =some r) (h1:r.1.1<a.2.1) (h2:a.2.1<r.1.2):Amd l a (l.1,l.2.1.set k (t.1,t.2.1,t.2.2.1,t.2.2.2.set i ((r.1.1,a.2.1),r.2)),l.2.2)
theorem qm{α:Type}{L:List α}{k:Nat}{x:α}(h:L[k]? =some x):X0 L (P6 (k:Int))=some x:=by show L[((k:Int)).toNat]? =some x;rw[lG];exact h
theorem Ja{α:Type}{L:List α}{k:Nat}{x:α}(h:L[k]? =some x):inb (k:Int) (o8 L)=true:=by have:=(aF.1 h).1;unfold inb o8;exact decide_eq_true ⟨o5,o5⟩
theorem xm(k:Nat):P6 (k:Int)=k:=lG k
section
variable {l:P8} {a:I5} (h1:l.2.1.length<=100000) (h2:l.2.2.length<=100000) (hs:∀s∈l.2.2,s.2.2.2.1.length<=100000/\s.2.2.2.2.length<=100000) (ht:∀t∈l.2.1,t.2.2.2.length<=100000) (hF:AmF a)
include h1 ht in
theorem WO:∃e m,kS l a=some (e,m)/\(e=0->Amd l a m):=by
 unfold kS;rw[Dz _ o5,D5];rcases zZ l.2.1 (λ(s:Z7)=>s.1) a.2.2.2.2.2.2.2.2.2.2.1 with h|⟨k,t,h,hk,-,-,hm⟩
 .rw[h,iM I8,o6];exact⟨_,_,rfl,λh=>absurd h I8⟩
 have t1:=ht t hm;have hg:=qm hk;rw[h,gX (show(0:Int)<=(k:Int) by omega),o7,Ja hk,o6,hg,D5];let pr:Nat->Option (Int×P8):=λi=>match t.2.2.2[i]? with
  |some r=>l7 (x9 r.2.1 a.2.2.2.2.2.2.2.2.2.2.2.2.1) (l7 (x9 r.2.2.1 a.2.2.2.2.2.2.2.2.2.2.2.2.2.1) (l7 (l7 (F9 r.1.1 a.2.1) (F9 a.2.1 r.1.2) false) (some (0,l.1,ay l.2.1 (P6 (k:Int)) (t.1,t.2.1,t.2.2.1,ay t.2.2.2 i ((r.1.1,a.2.1),r.2)),l.2.2)) none) none) none|none=>none
 rw[xK (p:=pr) t.2.2.2.length o5 PUnit.unit (λi hi=>?_) (by rw[J8];rfl)]
 .rw[D5];cases hf:Y0 t.2.2.2.length pr with
  |none=>simp only[Z9];exact⟨_,_,rfl,λh=>absurd h I8⟩|some x=>
   simp only[xe];refine⟨_,_,rfl,λ_=>?_⟩;obtain⟨i,hi,hp⟩:=eG hf;have hri:t.2.2.2[i]? =some t.2.2.2[i]:=iP hi;simp only[pr]at hp;rw[hri]at hp;simp only at hp;cases g1:x9 t.2.2.2[i].2.1 a.2.2.2.2.2.2.2.2.2.2.2.2.1<;>rw[g1]at hp
   .cases hp
   cases g2:x9 t.2.2.2[i].2.2.1 a.2.2.2.2.2.2.2.2.2.2.2.2.2.1<;>rw[g2]at hp
   .cases hp
   cases g3:F9 t.2.2.2[i].1.1 a.2.1<;>rw[g3]at hp
   .cases hp
   cases g4:F9 a.2.1 t.2.2.2[i].1.2<;>rw[g4]at hp
   .cases hp
   cases hp;rw[xm];exact Amd.rowOut k t i _ hk hri (wB.1 g3) (wB.1 g4)
 .have hri:t.2.2.2[i]? =some t.2.2.2[i]:=iP hi;simp only[pr];rw[J9 hri,o6,I9,hri,D5,qm hri,D5];unfold rU;simp only;cases x9 t.2.2.2[i].2.1 a.2.2.2.2.2.2.2.2.2.2.2.2.1
  .rfl
  cases x9 t.2.2.2[i].2.2.1 a.2.2.2.2.2.2.2.2.2.2.2.2.2.1
  .rfl
  cases F9 t.2.2.2[i].1.1 a.2.1
  .rfl
  cases F9 a.2.1 t.2.2.2[i].1.2
  .rfl
  rw[o6,o6,o6,D5,o6,D5,D5,D5,xm i];rfl
end
end Go.GP
namespace Go.GP
open Gt
set_option maxRecDepth 100000
theorem yG{α:Type} :∀(l p:List α),l.foldl (λb a=>b++[a]) p=p++l
 |[],p=>by simp|a::l,p=>by rw[ak,yG l];simp
theorem zS{α:Type}{l:List α}(h:l.length<=1000000):kF l=some l:=by unfold kF;rw[uF az,F6]
theorem Rf{a:List cZ}(h:a.length<=1000000)(h2:∀e∈a,e.2.length<=1000000):ru a=some a:=by
 unfold ru;refine gJ a (λ(b:List cZ) x=>b++[x]) (λb i=>(b,i)) (λb=>b) (λi b=>b.length=i) [] h rfl (λi x b hx hi hb=>⟨?_,by simp[hb]⟩) (λb hb=>?_) (λhb=>?_)
 .simp only[J9 hx,o6,I9,hx,D5];rw[zS (h2 x (kW hx)),D5,mW _ o5,D5,dL o5]
 .simp only[J8,o7]
 .rw[yG,F6]
theorem Qc{a:List Z7}(h:a.length<=1000000)(h2:∀e∈a,e.2.2.2.length<=1000000):uI a=some a:=by
 unfold uI;refine gJ a (λ(b:List Z7) x=>b++[x]) (λb i=>(b,i)) (λb=>b) (λi b=>b.length=i) [] h rfl (λi x b hx hi hb=>⟨?_,by simp[hb]⟩) (λb hb=>?_) (λhb=>?_)
 .simp only[J9 hx,o6,I9,hx,D5];rw[zS (h2 x (kW hx)),D5,mW _ o5,D5,dL o5]
 .simp only[J8,o7]
 .rw[yG,F6]
variable {l:P8}
theorem Rh(h:LenL l):Ef l=some l:=by
 unfold Ef;rw[Rf h.e.1 h.e.2,D5,Qc h.t.1 h.t.2,D5];refine gJ l.2.2 (λ(b:List O8) x=>b++[x]) (λb i=>((l.1,l.2.1,b),i)) (λb=>(l.1,l.2.1,b)) (λi b=>b.length=i) [] h.s.1 rfl (λi x b hx hi hb=>⟨?_,by simp[hb]⟩) (λb hb=>?_) (λhb=>?_)
 .obtain⟨g1,g2,g3,g4⟩:=h.s.2 x (kW hx);simp only[J9 hx,o6,I9,hx,D5];rw[zS g1,D5,zS g2,D5];refine gJ x.2.2.2.2 (λ(b:List bC) x=>b++[x]) (λb i=>((x.1,x.2.1,x.2.2.1,x.2.2.2.1,b),i)) (λb=>(x.1,x.2.1,x.2.2.1,x.2.2.2.1,b)) (λi b=>b.length=i) [] g3 rfl (λi y b hy hi hb=>⟨?_,by simp[hb]⟩) (λb hb=>?_) (λhb=>?_)
  .obtain⟨k1,k2⟩:=g4 y (kW hy);simp only[J9 hy,o6,I9,hy,D5];rw[zS k1,D5,zS k2,D5,mW _ o5,D5,dL o5]
  .simp only[J8,o7]
  .rw[yG,F6,mW _ o5,D5,dL o5]
 .simp only[J8,o7]
 .rw[yG,F6]
theorem a2F{l m:P8}{a:I5}(h:Amd l a m)(hS:SmL l)(hF:AmF a)(hw:AmW a):SwL m:=by
 have hW:=hS.w;cases h with
 |ruleIn k s d p hk=>
  refine⟨⟨hW.few.1,hW.few.2.1,by show(l.2.2.set k _).length<=_;rw[iR];exact hW.few.2.2⟩,hW.en,hW.tb,λs' hs' =>?_⟩;rcases au hs' with hs'|rfl
  .exact hW.sc s' hs'
  have hs:=kW hk;have hm:=hW.sc s hs;have hr:=(hS.sc s hs).nr;refine⟨hm.nm,hm.ni,hm.nd,?_,hm.fo,λr hr=>?_⟩
  .show(s.2.2.2.2++_).length<=_;rw[N8];simp only[List.length_singleton];omega
  .rcases H5.1 hr with hr|hr
   .exact hm.ro r hr
   .rw[dR.1 hr];exact⟨hw.n,by have:=hF.s;show a.2.2.2.2.2.2.2.2.2.1.length<=1000000;omega,hw.g,hw.v⟩
 |ruleOut k s i r hk hi g1 g2=>
  refine⟨⟨hW.few.1,hW.few.2.1,by show(l.2.2.set k _).length<=_;rw[iR];exact hW.few.2.2⟩,hW.en,hW.tb,λs' hs' =>?_⟩;rcases au hs' with hs'|rfl
  .exact hW.sc s' hs'
  have hs:=kW hk;have hm:=hW.sc s hs;refine⟨hm.nm,hm.ni,hm.nd,by show(s.2.2.2.2.set i _).length<=_;rw[iR];exact hm.nr,hm.fo,λr' hr=>?_⟩;rcases au hr with hr|rfl
  .exact hm.ro r' hr
  .exact hm.ro r (kW hi)
 |rowIn k t hk=>
  refine⟨⟨hW.few.1,by show(l.2.1.set k _).length<=_;rw[iR];exact hW.few.2.1,hW.few.2.2⟩,hW.en,λt' ht' =>?_,hW.sc⟩;rcases au ht' with ht'|rfl
  .exact hW.tb t' ht'
  .exact hW.tb t (kW hk)
 |rowOut k t i r hk hi g1 g2=>
  refine⟨⟨hW.few.1,by show(l.2.1.set k _).length<=_;rw[iR];exact hW.few.2.1,hW.few.2.2⟩,hW.en,λt' ht' =>?_,hW.sc⟩;rcases au ht' with ht'|rfl
  .exact hW.tb t' ht'
  .exact hW.tb t (kW hk)
theorem a2E{l m:P8}{a:I5}(h:Amd l a m)(hT:∀t∈l.2.1,EE t)(hw:AmW a)(hv:(dV m).1=0):∀t∈m.2.1,EE t:=by
 have key:∀t∈m.2.1,∀r∈t.2.2.2,a2A r:=by
  cases h with
  |ruleIn k s d p hk=>exact λt ht=>(hT t ht).2
  |ruleOut k s i r hk hi g1 g2=>exact λt ht=>(hT t ht).2|rowIn k t hk=>
   intro t' ht';rcases au ht' with ht'|rfl
   .exact(hT t' ht').2
   intro r hr;rcases H5.1 hr with hr|hr
   .exact(hT t (kW hk)).2 r hr
   .rw[dR.1 hr];exact⟨hw.lo,hw.hi,hw.rn⟩
  |rowOut k t i r hk hi g1 g2=>
   intro t' ht';rcases au ht' with ht'|rfl
   .exact(hT t' ht').2
   intro r' hr;have hT:=hT t (kW hk);rcases au hr with hr|rfl
   .exact hT.2 r' hr
   .exact hT.2 r (kW hi)
 intro t ht;obtain⟨i,hi⟩:=a8a ht;have:=((a2t hv).2 i t hi).le;exact⟨o5,key t ht⟩
end Go.GP
namespace Go.GP
open Gt
set_option maxRecDepth 100000
theorem TA{s:O8}(n:c2f)(h:s.2.2.2.2.length<=1000000):sV s n=some (nmI s.2.2.2.2 (λ(r:bC)=>r.1) n):=by unfold sV;refine Cc s.2.2.2.2 (λ(r:bC)=>r.1) n h (λi a ha=>?_) (by rw[J8];rfl);simp only[J9 ha,o6,I9,ha,D5];cases seq a.1 n<;>rfl
theorem a2a{s:O8}(n:c2f)(h:s.2.2.2.1.length<=1000000):Cm s n=some (nmI s.2.2.2.1 (λ(r:dY)=>r.1) n):=by unfold Cm;refine Cc s.2.2.2.1 (λ(r:dY)=>r.1) n h (λi a ha=>?_) (by rw[J8];rfl);simp only[J9 ha,o6,I9,ha,D5];cases seq a.1 n<;>rfl
theorem NQ{α:Type}{L:List α}{k:Nat}{x:α}(h:L[k]? =some x):ay L k x=L:=by
 unfold ay;apply aI;intro j;rw[I7];split
 .rename_i e;subst e;rw[if_pos (aF.1 h).1];exact h.symm
 .rfl
theorem a0M{α:Type}(L:List α):U4 (o8 L) (L.length:Int)=true:=by unfold U4 o8;exact decide_eq_true (oH _)
theorem XP(i:Nat):GH (i:Int)=((i+1:Nat):Int):=by unfold GH;omega
theorem a4j{l:P8}(h:LenL l):sQ l=some l:=by
 have h1:=h.t.1;have h2:=h.s.1;unfold sQ;rw[uF az,D5,F6];refine gJ l.2.2 (λ(b:List O8×Int) (_:O8)=>(b.1,GH b.2)) (λb i=>((l.1,l.2.1,b.1,b.2),i)) (λb=>(l.1,l.2.1,b.1)) (λi b=>b=(l.2.2,(i:Int))) (l.2.2,0) h2 rfl (λi x b hx hi hb=>?_) (λb hb=>?_) (λhb=>?_)
 .subst hb;have g3:=(h.s.2 x (kW hx)).2.2.1;have hg:=qm hx;refine⟨?_,by rw[XP]⟩;simp only[J9 hx,o6,I9,hx,D5,hg,zY];rw[uF az,D5,F6];simp only[Prod.eta];rw[xm,NQ hx,dL o5]
 .subst hb;simp only[J8,o7,a0M,o6]
 .rw[hb];simp only;rw[uF az,D5,F6];refine gJ l.2.1 (λ(b:List Z7×Int) (_:Z7)=>(b.1,GH b.2)) (λb i=>((l.1,(b.1,b.2),l.2.2),i)) (λb=>(l.1,b.1,l.2.2)) (λi b=>b=(l.2.1,(i:Int))) (l.2.1,0) h1 rfl (λi x b hx hi hb=>?_) (λb hb=>?_) (λhb=>?_)
  .subst hb;have g3:=h.t.2 x (kW hx);have hg:=qm hx;refine⟨?_,by rw[XP]⟩;simp only[J9 hx,o6,I9,hx,D5,hg,zY];rw[uF az,D5,F6];simp only[Prod.eta];rw[xm,NQ hx,dL o5]
  .subst hb;simp only[J8,o7,a0M,o6]
  .rw[hb]
section
variable {l:P8} {a:I5} (h1:l.2.1.length<=100000) (h2:l.2.2.length<=100000) (hs:∀s∈l.2.2,s.2.2.2.1.length<=100000/\s.2.2.2.2.length<=100000) (ht:∀t∈l.2.1,t.2.2.2.length<=100000) (hF:AmF a)
include h2 hs hF in
theorem XM:∃e m m',rQ l a=some (e,m)/\sS l a=some (e,m')/\(e=0->m' =m/\Amd l a m):=by
 have f1:=hF.g;have f2:=hF.v;unfold rQ sS;rw[JL _ o5,D5,PR _ o5,D5];rcases zZ l.2.2 (λ(s:O8)=>s.1) a.2.2.1 with h|⟨k,s,h,hk,-,-,hm⟩
 .rw[h,iM I8,o6,o6];exact⟨_,_,_,rfl,rfl,λh=>absurd h I8⟩
 obtain⟨s1,s2⟩:=hs s hm;have hg:=qm hk;have hi:=Ja hk;have hno:∀e:Int,e=6->∀m m',(e=0->m' =m/\Amd l a m):=λe he m m' h=>absurd (he.symm.trans h) I8;have hu:∀d p:Int,((0:Int)=0->(l.1,l.2.1,ay l.2.2 (P6 (k:Int)) (s.1,s.2.1,s.2.2.1,s.2.2.2.1,s.2.2.2.2++[(a.2.2.2.1,d,p,a.2.2.2.2.2.2.1,(a.2.1,109573),a.2.2.2.2.2.2.2.1,a.2.2.2.2.2.2.2.2.1,a.2.2.2.2.2.2.2.2.2.1)]))=(l.1,l.2.1,ay l.2.2 (P6 (k:Int)) (s.1,s.2.1,s.2.2.1,s.2.2.2.1,s.2.2.2.2++[(a.2.2.2.1,d,p,a.2.2.2.2.2.2.1,(a.2.1,109573),a.2.2.2.2.2.2.2.1,a.2.2.2.2.2.2.2.2.1,a.2.2.2.2.2.2.2.2.2.1)]))/\Amd l a (l.1,l.2.1,ay l.2.2 (P6 (k:Int)) (s.1,s.2.1,s.2.2.1,s.2.2.2.1,s.2.2.2.2++[(a.2.2.2.1,d,p,a.2.2.2.2.2.2.1,(a.2.1,109573),a.2.2.2.2.2.2.2.1,a.2.2.2.2.2.2.2.2.1,a.2.2.2.2.2.2.2.2.2.1)]))):=λd p _=>by refine⟨rfl,?_⟩;rw[xm];exact Amd.ruleIn k s d p hk
 simp only[h,gX (show(0:Int)<=(k:Int) by omega),o7,hi,o6,hg,D5,QI (L:=s.2.2.2.1) _ o5,Prod.eta,a2a (s:=s) _ o5,Ju (L:=s.2.2.2.2) _ o5,TA (s:=s) _ o5,zY,uF (show(([]:List A7)).length+a.2.2.2.2.2.2.2.1.length<=1073741824 by simp;omega),uF (show(([]:List A7)).length+a.2.2.2.2.2.2.2.2.1.length<=1073741824 by simp;omega),mW _ (show s.2.2.2.2.length<=1000000 by omega),F6];generalize nmI s.2.2.2.1 (λ(f:dY)=>f.1) a.2.2.2.2.1=d;cases seq a.2.2.2.2.2.1 []
 .simp only[dO,o6,D5];generalize nmI s.2.2.2.2 (λ(f:bC)=>f.1) a.2.2.2.2.2.1=p;cases F9 d 0
  case true=>simp only[o6,D5];exact⟨_,_,_,rfl,rfl,hno _ rfl _ _⟩
  simp only[o7,o6];cases F9 p 0
  case true=>simp only[o6,D5];exact⟨_,_,_,rfl,rfl,hno _ rfl _ _⟩
  simp only[o7,D5];exact⟨_,_,_,rfl,rfl,hu _ _⟩
 .simp only[P7,o7,D5];cases F9 d 0
  case true=>simp only[o6,D5];exact⟨_,_,_,rfl,rfl,hno _ rfl _ _⟩
  simp only[o7,D5];exact⟨_,_,_,rfl,rfl,hu _ _⟩
include h2 hs in
theorem Yy:∃e m m',rV l a=some (e,m)/\sU l a=some (e,m')/\(e=0->m' =m/\Amd l a m):=by
 unfold rV sU;rw[JL _ o5,D5,PR _ o5,D5];rcases zZ l.2.2 (λ(s:O8)=>s.1) a.2.2.1 with h|⟨k,s,h,hk,-,-,hm⟩
 .rw[h,iM I8,o6,o6];exact⟨_,_,_,rfl,rfl,λh=>absurd h I8⟩
 obtain⟨s1,s2⟩:=hs s hm;have hg:=qm hk;have hi:=Ja hk;simp only[h,gX (show(0:Int)<=(k:Int) by omega),o7,hi,o6,hg,D5,Ju (L:=s.2.2.2.2) _ o5,Prod.eta,TA (s:=s) _ o5,zY];rcases zZ s.2.2.2.2 (λ(s:bC)=>s.1) a.2.2.2.1 with h|⟨i,r,h,hri,-,-,hm⟩
 .simp only[h,iM (show(-1:Int)<0 by decide),o6,D5];exact⟨_,_,_,rfl,rfl,λh=>absurd h I8⟩
 have hrg:=qm hri;simp only[h,gX (show(0:Int)<=(i:Int) by omega),o7,I9,hri,D5,hrg];unfold rU wQ;cases g1:F9 r.2.2.2.2.1.1 a.2.1
 .simp only[o7,D5,dO,o6];exact⟨_,_,_,rfl,rfl,λh=>absurd h I8⟩
 cases g2:F9 a.2.1 r.2.2.2.2.1.2
 .simp only[o7,D5,dO,o6];exact⟨_,_,_,rfl,rfl,λh=>absurd h I8⟩
 simp only[o6,D5,P7,o7];refine⟨_,_,_,rfl,rfl,λ_=>⟨rfl,?_⟩⟩;rw[xm,xm];exact Amd.ruleOut k s i r hk hri (wB.1 g1) (wB.1 g2)
include h1 ht in
theorem ZN(h3:a.1=3):∃e m m',uy l a=some (e,m)/\kX l a=some (e,m')/\(e=0->m' =m/\Amd l a m):=by
 unfold uy kX;rw[Dz _ o5,D5,PS _ o5,D5,iw h3];rcases zZ l.2.1 (λ(s:Z7)=>s.1) a.2.2.2.2.2.2.2.2.2.2.1 with h|⟨k,t,h,hk,-,-,hm⟩
 .rw[h,iM I8,o6,o6];exact⟨_,_,_,rfl,rfl,λh=>absurd h I8⟩
 have t1:=ht t hm;have hg:=qm hk;have hi:=Ja hk;simp only[h,gX (show(0:Int)<=(k:Int) by omega),o7,hi,o6,hg,D5,zY,mW _ (show t.2.2.2.length<=1000000 by omega)];refine⟨_,_,_,rfl,rfl,λ_=>⟨rfl,?_⟩⟩;rw[xm];exact Amd.rowIn k t hk
end
end Go.GP
namespace Go.GP
open Gt
set_option maxRecDepth 100000
variable {l:P8}
theorem Ql(hL:SwL l){i:Nat}{s:O8}(hs:l.2.2[i]? =some s):sK l (i:Int)=some (l7 (x9 (wV l i s).1 0) (0,0,0,0) (Qb i (wV l i s))):=by
 have hi:=(aF.1 hs).1;have hS:=hL.sc s (kW hs);have hf:=hL.few;have hf1:=hf.1;have hf2:=hf.2.1;have hf3:=hf.2.2;have n1:=hS.ni;have n2:=hS.nd;have n3:=hS.nr;unfold sK wV;rw[I9,hs,D5,lS hS.nm,D5];cases qZ s.1
 .rfl
 simp only[P7,o7,o6];rw[a2o hf,D5];cases uw l 3 i s.1
 case true=>rfl
 simp only[o7];have hm:(l7 (E5 (x9 s.2.1 (-1))) (l7 (F9 s.2.1 0) (some (Sum.inr ((6:Int),(3:Int),(i:Int),(0:Int)))) (l7 (U4 (i:Int) s.2.1) (some (.inr (6,3,(i:Int),0))) (l9 (J7 l.2.2 s.2.1) λ(x:O8)=>l7 (E5 (x9 x.2.1 (-1))) (some (.inr (6,3,(i:Int),0))) (some (.inl (((0:Int),(0:Int),(0:Int),(0:Int)),(0:Int),(3:Int),(i:Int),(0:Int))))))) (some (.inl ((0,0,0,0),0,3,(i:Int),0))))=
   some (l7 (AX l i s.2.1) (.inr (6,3,(i:Int),0)) (.inl ((0,0,0,0),0,3,(i:Int),0))):=by
  unfold AX;cases x9 s.2.1 (-1)
  case true=>rfl
  simp only[dO,o6,o7];cases h0:F9 s.2.1 0
  case true=>rfl
  cases h1:U4 (i:Int) s.2.1
  case true=>rfl
  rw[iV]at h0;rw[EX]at h1;obtain⟨q,hq,_⟩:=yY (l:=l.2.2) h0 (by simp only[o8];omega);rw[hq];simp only[o7,D5];cases x9 q.2.1 (-1)<;>rfl
 rw[hm,D5];cases AX l i s.2.1
 case true=>rfl
 simp only[o7,Z9];cases g1:F9 12 (o8 s.2.2.1)
 case true=>rfl
 cases g2:F9 12 (o8 s.2.2.2.1)
 case true=>rfl
 have m1:s.2.2.1.length<=12:=by have:=iV.1 g1;unfold o8 at this;omega
 have m2:s.2.2.2.1.length<=12:=by have:=iV.1 g2;unfold o8 at this;omega
 simp only[o7];rw[SY hs o5 o5 hS.fo,D5];unfold NV;cases hfs:uC l s with
 |some r=>have hc:=Hf hfs;simp only[Qb];rw[kJ hc];rfl|none=>
  simp only[iw (rfl:(0:Int)=0),P7,o7];refine Y3 (jX (p:=λk=>(CJ l s k).map (Qb i)) s.2.2.2.2.length o5 _ (0,0,0,0) (λk hk=>?_) ?_) ?_
  rotate_left 2
  .rw[BU];cases hfr:Y0 s.2.2.2.2.length (CJ l s)with
   |some r=>
    obtain⟨k,_,hk⟩:=eG hfr;have hc:r.1≠0:=by
     unfold CJ at hk;split at hk
     .exact IX hk
     .cases hk
    simp only[bP,D5,xe];rw[kJ hc];rfl
   |none=>
    have hS:=TJ hS m1 m2 hfr;simp only[Option.map_none,D5,Z9];refine Y3 (jX (p:=λk=>(XA s k).map (Qb i)) s.2.2.2.1.length o5 _ (0,0,0,0) (λk hk=>?_) ?_) ?_
    rotate_left 2
    .rw[BU];cases hfc:Y0 s.2.2.2.1.length (XA s)with
     |some r=>
      obtain⟨k,_,hk⟩:=eG hfc;have hc:r.1≠0:=by
       unfold XA at hk;cases hq:(vC s (k:Int)).any λx=>x9 (k:Int) x<;>rw[hq]at hk
       .cases hk
       .cases hk;show(9:Int)≠0;decide
      simp only[bP,D5,xe];rw[kJ hc];rfl
     |none=>rfl
    .have e:=iP hk;have htl:=EY hS (OH s (k:Int)).1 (λx hx=>Za hx);simp only[J9 e,o6];rw[Td hS,D5,show(200:Int)=((200:Nat):Int)from rfl,Pm o5 o5];have hcy:O6 (λ(x_6:I4×Int)=>l7 (F9 x_6.2 (o8 (vC s (k:Int)))) (l9 (J7 (vC s (k:Int)) x_6.2) λ(x:Int)=>l7 (x9 x (k:Int)) (some (Out.rt ((9:Int),(3:Int),(i:Int),((200+k:Nat):Int)))) (some (.nx (x_6.1,D7 .i64 x_6.2 1)))) (some (.ex x_6.1))) (((0:Int),(0:Int),(0:Int),(0:Int)),(0:Int))=
       some (l7 ((vC s (k:Int)).any λx=>x9 (k:Int) x) (.inr (9,3,(i:Int),((200+k:Nat):Int))) (.inl (0,0,0,0))):=by
      have h1:=Kv (vC s (k:Int)) (λ(b:Int×Int×Int×Int) x=>l7 (x9 x (k:Int)) (.inr ((9:Int),(3:Int),(i:Int),((200+k:Nat):Int))) (.inl b)) (λb i=>(b,i)) (λb=>b) (λ_ _=>True) (b:=((0,0,0,0):Int×Int×Int×Int)) (f:=λ(x_6:I4×Int)=>l7 (F9 x_6.2 (o8 (vC s (k:Int)))) (l9 (J7 (vC s (k:Int)) x_6.2) λ(x:Int)=>l7 (x9 x (k:Int)) (some (Out.rt ((9:Int),(3:Int),(i:Int),((200+k:Nat):Int)))) (some (.nx (x_6.1,D7 .i64 x_6.2 1)))) (some (.ex x_6.1))) o5 trivial (λj x b hx hj _=>by refine⟨?_,λ_ _=>trivial⟩;simp only[J9 hx,o6,I9,hx,D5];rw[dL o5];cases x9 x (k:Int)<;>rfl) (λb _=>by simp only[J8];rfl)
      refine h1.1.trans ?_;have hfo:∀(l:c2g) (b:Int×Int×Int×Int),qj (λ(b:Int×Int×Int×Int) x=>l7 (x9 x (k:Int)) (.inr ((9:Int),(3:Int),(i:Int),((200+k:Nat):Int))) (.inl b)) l b=l7 (l.any λx=>x9 (k:Int) x) (.inr (9,3,(i:Int),((200+k:Nat):Int))) (.inl b):=by
       intro l;induction l with
       |nil=>intro b;rfl|cons a l ih=>
        intro b;unfold qj;rw[pR,show x9 (k:Int) a=x9 a (k:Int) by unfold x9;by_cases h:a=(k:Int)<;>simp[h,eq_comm]];cases x9 a (k:Int)
        .simp only[o7,jG];exact ih b
        .rfl
      rw[hfo];cases (vC s (k:Int)).any λx=>x9 (k:Int) x<;>rfl
     refine Y3 hcy ?_;unfold XA;cases (vC s (k:Int)).any λx=>x9 (k:Int) x<;>rfl
    .simp only[J8];rfl
  .have e:=iP hk;have hr:=hS.ro _ (L8 hk);simp only[J9 e,o6];rw[Uz hL.scopes hs e hr,D5,show(300:Int)=((300:Nat):Int)from rfl,Pm o5 o5];simp only[CJ,e,Jo];cases x9 (Bi s (KI l s) k s.2.2.2.2[k]) 0<;>rfl
  .simp only[J8];rfl
theorem JE(hL:SwL l):kC l=some (dV l):=by
 have hf1:=hL.few.1;have hf2:=hL.few.2.1;have hf3:=hL.few.2.2;unfold kC dV yT;cases F9 8 (o8 l.1)
 case true=>rfl
 simp only[o7];refine Y3 (jX (p:=GY l) l.1.length o5 _ (0,0,0,0) (λi hi=>?_) ?_) ?_
 rotate_left 2
 .cases hfe:Y0 l.1.length (GY l)with
  |some r=>
   obtain⟨k,_,hk⟩:=eG hfe;have hc:r.1≠0:=by
    unfold GY at hk;split at hk
    .exact IY hk
    .cases hk
   simp only[D5,xe,kJ hc,o7]
  |none=>
   simp only[D5,Z9,iw (rfl:(0:Int)=0),o6];unfold xk;cases F9 8 (o8 l.2.1)
   case true=>rfl
   simp only[o7];refine Y3 (jX (p:=DC l) l.2.1.length o5 _ (0,0,0,0) (λi hi=>?_) ?_) ?_
   rotate_left 2
   .cases hft:Y0 l.2.1.length (DC l)with
    |some r=>
     obtain⟨k,_,hk⟩:=eG hft;have hc:r.1≠0:=by
      unfold DC at hk;split at hk
      .exact IY hk
      .cases hk
     simp only[D5,xe,kJ hc,o7]
    |none=>
     simp only[D5,Z9,iw (rfl:(0:Int)=0),o6];unfold FO;cases F9 4 (o8 l.2.2)
     case true=>rfl
     simp only[o7];refine Y3 (jX (p:=zh l) l.2.2.length o5 _ (0,0,0,0) (λi hi=>?_) ?_) ?_
     rotate_left 2
     .cases Y0 l.2.2.length (zh l)<;>rfl
     .have e:=iP hi;simp only[J9 e,o6,Ql hL e,D5,zh,e,Jp];cases hc:x9 (wV l i l.2.2[i]).1 0
      .simp only[o7,Qb,hc];rfl
      .simp only[o6,iw (rfl:(0:Int)=0)];rfl
     .simp only[J8];rfl
   .have e:=iP hi;simp only[J9 e,o6,Tc hL.few e (hL.tb _ (L8 hi)),D5,DC,e,Jp,Jn];cases hc:x9 (OE l i l.2.1[i]).1 0
    .simp only[o7,hc];rfl
    .simp only[o6,iw (rfl:(0:Int)=0)];rfl
   .simp only[J8];rfl
 .have e:=iP hi;have hm:=hL.en _ (L8 hi);simp only[J9 e,o6,Uy hL.few e hm.1 hm.2,D5,GY,e,Jp,Jn];cases hc:x9 (OV l i l.1[i]).1 0
  .simp only[o7,hc];rfl
  .simp only[o6,iw (rfl:(0:Int)=0)];rfl
 .simp only[J8];rfl
theorem WB(hL:SwL l):yu l=some (x9 (dV l).1 0):=by unfold yu;rw[JE hL,D5]
theorem a6D(h:(dV l).1=0):dV l=(0,0,0,0):=by
 unfold dV at h ⊢;cases h1:x9 (yT l).1 0<;>rw[h1]at h
 .simp only[o7]at h;rw[iw h]at h1;cases h1
 cases h2:x9 (xk l).1 0<;>rw[h2]at h
 .simp only[o6,o7]at h;rw[iw h]at h2;cases h2
 simp only[o6]at h ⊢;unfold FO at h ⊢;cases h3:F9 4 (o8 l.2.2)<;>rw[h3]at h
 case true=>exact absurd (show(4:Int)=0 from h) I8
 simp only[o7]at h ⊢;cases hf:Y0 l.2.2.length (zh l)with
 |none=>rfl|some r=>
  rw[hf]at h;simp only at h;obtain⟨j,hj,hp⟩:=eG hf;unfold zh at hp;cases hq:l.2.2[j]? with
  |none=>rw[hq]at hp;cases hp|some q=>
   rw[hq]at hp;simp only at hp;unfold Jp at hp;exact absurd h (by cases he:x9 (wV l j q).1 0<;>rw[he]at hp<;>cases hp;simp only;intro h4;rw[iw h4]at he;cases he)
theorem a6C(l:P8):eY (x9 (dV l).1 0) (eY (x9 (dV l).2.1 0) (eY (x9 (dV l).2.2.1 0) (x9 (dV l).2.2.2 0)))=x9 (dV l).1 0:=by
 cases h:x9 (dV l).1 0
 .rfl
 .rw[a6D (gW.1 h)];rfl
theorem oid{α:Type}(o:Option α):(l9 o λx=>some x)=o:=by cases o<;>rfl
section
variable {l:P8} {a:I5} (h1:l.2.1.length<=100000) (ht:∀t∈l.2.1,t.2.2.2.length<=100000)
def MQ(l:P8)(a:I5)(k:Nat)(t:Z7)(i:Nat):Option (Int×P8):=match t.2.2.2[i]? with
  |some r=>l7 (x9 r.2.1 a.2.2.2.2.2.2.2.2.2.2.2.2.1) (l7 (x9 r.2.2.1 a.2.2.2.2.2.2.2.2.2.2.2.2.2.1) (l7 (l7 (F9 r.1.1 a.2.1) (F9 a.2.1 r.1.2) false) (some (0,l.1,ay l.2.1 (P6 (k:Int)) (t.1,t.2.1,t.2.2.1,ay t.2.2.2 i ((r.1.1,a.2.1),r.2)),l.2.2)) none) none) none|none=>none
include h1 ht in
theorem WN:∃(k:Nat) (t:Z7),kS l a=(if nmI l.2.1 (λ(s:Z7)=>s.1) a.2.2.2.2.2.2.2.2.2.2.1=-1 then some (6,l)else match Y0 t.2.2.2.length (MQ l a k t)with|some r=>some r|none=>some (6,l.1,ay l.2.1 (P6 (k:Int)) (t.1,t.2.1,t.2.2.1,t.2.2.2),l.2.2))/\
  (nmI l.2.1 (λ(s:Z7)=>s.1) a.2.2.2.2.2.2.2.2.2.2.1=-1\/(nmI l.2.1 (λ(s:Z7)=>s.1) a.2.2.2.2.2.2.2.2.2.2.1=(k:Int)/\l.2.1[k]? =some t)):=by
 unfold kS;rw[Dz _ o5,D5];rcases zZ l.2.1 (λ(s:Z7)=>s.1) a.2.2.2.2.2.2.2.2.2.2.1 with h|⟨k,t,h,hk,-,-,hm⟩
 .refine⟨0,([],(0,0),(0,0),[]),?_,.inl h⟩;rw[h,iM I8,o6,if_pos rfl]
 have t1:=ht t hm;have hg:=qm hk;refine⟨k,t,?_,.inr ⟨h,hk⟩⟩;rw[h,if_neg o5,gX (show(0:Int)<=(k:Int) by omega),o7,Ja hk,o6,hg,D5];rw[xK (p:=MQ l a k t) t.2.2.2.length o5 PUnit.unit (λi hi=>?_) (by rw[J8];rfl)]
 .rw[D5];cases hf:Y0 t.2.2.2.length (MQ l a k t)with
  |none=>simp only[Z9,D5]|some x=>simp only[xe]
 .have hri:t.2.2.2[i]? =some t.2.2.2[i]:=iP hi;simp only[MQ];rw[J9 hri,o6,I9,hri,D5,qm hri,D5];unfold rU;simp only;cases x9 t.2.2.2[i].2.1 a.2.2.2.2.2.2.2.2.2.2.2.2.1
  .rfl
  cases x9 t.2.2.2[i].2.2.1 a.2.2.2.2.2.2.2.2.2.2.2.2.2.1
  .rfl
  cases F9 t.2.2.2[i].1.1 a.2.1
  .rfl
  cases F9 a.2.1 t.2.2.2[i].1.2
  .rfl
  rw[o6,o6,o6,D5,o6,D5,D5,D5,xm i];rfl
include h1 ht in
theorem VR(h3:x9 a.1 3=false){k:Nat}{t:Z7}(hk' :nmI l.2.1 (λ(s:Z7)=>s.1) a.2.2.2.2.2.2.2.2.2.2.1=-1\/(nmI l.2.1 (λ(s:Z7)=>s.1) a.2.2.2.2.2.2.2.2.2.2.1=(k:Int)/\l.2.1[k]? =some t)):
  kX l a=(if nmI l.2.1 (λ(s:Z7)=>s.1) a.2.2.2.2.2.2.2.2.2.2.1=-1 then some (6,l)else match Y0 t.2.2.2.length (MQ l a k t)with|some r=>some r|none=>some (6,l)):=by
 unfold kX;rw[PS _ o5,D5,h3];rcases hk' with h|⟨h,hk⟩
 .rw[h,iM I8,o6,if_pos rfl]
 have t1:=ht t (kW hk);have hg:=qm hk;have hsame:(l.1,ay l.2.1 (P6 (k:Int)) (t.1,t.2.1,t.2.2.1,t.2.2.2),l.2.2)=l:=by rw[xm,show((t.1,t.2.1,t.2.2.1,t.2.2.2):Z7)=t from rfl,NQ hk]
 rw[h,if_neg o5,gX (show(0:Int)<=(k:Int) by omega),o7,Ja hk,o6,o7,zY,o6];rw[jX (p:=MQ l a k t) t.2.2.2.length o5 l l (λi hi=>?_) (by simp only[hg,D5];rw[J8];simp only[o7];rw[hsame])]
 .rw[D5];cases hf:Y0 t.2.2.2.length (MQ l a k t)with
  |none=>simp only[Z9]|some x=>simp only[xe]
 .have hri:t.2.2.2[i]? =some t.2.2.2[i]:=iP hi;have hrg:=qm hri;simp only[MQ,hg,D5,J9 hri,o6,I9,hri,hrg];unfold wQ;simp only[hsame];cases x9 t.2.2.2[i].2.1 a.2.2.2.2.2.2.2.2.2.2.2.2.1
  .rfl
  cases x9 t.2.2.2[i].2.2.1 a.2.2.2.2.2.2.2.2.2.2.2.2.2.1
  .rfl
  cases F9 t.2.2.2[i].1.1 a.2.1
  .rfl
  cases F9 a.2.1 t.2.2.2[i].1.2
  .rfl
  simp only[o6,D5,xm]
include h1 ht in
theorem n_(h3:x9 a.1 3=false):∃e m m',kS l a=some (e,m)/\kX l a=some (e,m')/\(e=0->m' =m/\Amd l a m):=by
 obtain⟨e,m,q1,q2⟩:=WO (a:=a) h1 ht;obtain⟨k,t,e1,e2⟩:=WN (a:=a) h1 ht;have e3:=VR h1 ht h3 e2;rw[e1]at q1;rw[e1,e3];by_cases hn:nmI l.2.1 (λ(s:Z7)=>s.1) a.2.2.2.2.2.2.2.2.2.2.1=-1
 .rw[if_pos hn]at q1 ⊢;rw[if_pos hn];exact⟨_,_,_,rfl,rfl,λh=>absurd h I8⟩
 rw[if_neg hn]at q1 ⊢;rw[if_neg hn];cases hf:Y0 t.2.2.2.length (MQ l a k t)with
 |none=>exact⟨_,_,_,rfl,rfl,λh=>absurd h I8⟩|some r=>rw[hf]at q1;simp only at q1;cases q1;exact⟨_,_,_,rfl,rfl,λh=>⟨rfl,q2 h⟩⟩
end
theorem a6F{z:Int}(h1:1<=z)(h2:z<=4)(e1:z≠1)(e2:z≠2)(e3:z≠3):z=4:=o5
variable {a:I5}
theorem a2G(hS:SmL l)(hl:(dV l).1=0->LenL l)(hT:∀t∈l.2.1,EE t)(hF:AmF a)(hw:AmW a):
  ∃m e,vG l a=some (m,e)/\yL l a=some (m,e)/\((e≠0/\m=([],[],[]))\/(e=0/\(dV l).1=0/\Amd l a m/\(dV m).1=0)):=by
 have hno:∀e:Int,e≠0->∀m:P8,m=([],[],[])->((e≠0/\m=([],[],[]))\/(e=0/\(dV l).1=0/\Amd l a m/\(dV m).1=0)):=λe he m h=> .inl ⟨he,h⟩;unfold vG yL;rw[Nj hS.w,D5,a6C,WB hS.w,D5];cases hz:x9 (dV l).1 0
 .exact⟨_,_,rfl,rfl,hno _ I8 _ rfl⟩
 have hv:(dV l).1=0:=gW.1 hz;simp only[P7,o7,oid];unfold xE;cases g1:F9 a.1 1
 case true=>exact⟨_,_,rfl,rfl,hno _ I8 _ rfl⟩
 cases g2:F9 4 a.1
 case true=>exact⟨_,_,rfl,rfl,hno _ I8 _ rfl⟩
 simp only[o7,D5,Z9];cases g3:F9 a.2.1 0
 case true=>exact⟨_,_,rfl,rfl,hno _ I8 _ rfl⟩
 cases g4:F9 109572 a.2.1
 case true=>exact⟨_,_,rfl,rfl,hno _ I8 _ rfl⟩
 simp only[o7,D5,Z9];rw[Rh (hl hv),D5,a4j (hl hv),D5];have h1:l.2.1.length<=100000:=hS.few.2.1;have h2:l.2.2.length<=100000:=hS.few.2.2;have hs:∀s∈l.2.2,s.2.2.2.1.length<=100000/\s.2.2.2.2.length<=100000:=λs h=>⟨by have:=(hS.sc s h).nd;omega,by have:=(hS.sc s h).nr;omega⟩;have ht:∀t∈l.2.1,t.2.2.2.length<=100000:=λt h=>by have:=(hT t h).1;omega
 have fin:∀(P R:Option (Int×P8)),(∃e m m',P=some (e,m)/\R=some (e,m')/\(e=0->m' =m/\Amd l a m))->
   ∃m e,(l9 (l9 P λ(x:Int×P8)=>some (x.2,x.1)) λ(x:P8×Int)=>
        l7 (x9 x.2 0)
         (l9 (lJ x.1) λ(x_1:I4)=>
          l7 (E5 (x9 x_1.1 0)) (some (([],[],[]),x_1.1)) (some (x.1,0)))
         (l7 (E5 (x9 x.2 0)) (some (([],[],[]),x.2)) (some (x.1,0))))=some (m,e)/\
    (l9 R λ(x:Int×P8)=>
         l7 (x9 x.1 0)
          (l9 (kC x.2) λ(x_1:I4)=>
           l7 (E5 (x9 x_1.1 0)) (some (([],[],[]),x_1.1)) (some (x.2,0)))
          (l7 (E5 (x9 x.1 0)) (some (([],[],[]),x.1)) (some (x.2,0))))=some (m,e)/\((e≠0/\m=([],[],[]))\/(e=0/\(dV l).1=0/\Amd l a m/\(dV m).1=0)):=by
  rintro P R ⟨e,m,m',rfl,rfl,hA⟩;simp only[D5];cases k:x9 e 0
  .simp only[dO,o6,o7];exact⟨_,_,rfl,rfl,hno _ (λh=>by rw[iw h]at k;cases k) _ rfl⟩
  obtain⟨hmm,hA⟩:=hA (gW.1 k);subst hmm;simp only[o6];have hM:=a2F hA hS hF hw;rw[Nj hM,D5,JE hM,D5];cases kv:x9 (dV m').1 0
  .simp only[dO,o6];exact⟨_,_,rfl,rfl,hno _ (λh=>by rw[iw h]at kv;cases kv) _ rfl⟩
  simp only[P7,o7];exact⟨_,_,rfl,rfl,.inr ⟨rfl,hv,hA,gW.1 kv⟩⟩
 cases k1:x9 a.1 1
 case true=>simp only[o6,oid];exact fin _ _ (XM h2 hs hF)
 cases k2:x9 a.1 2
 case true=>simp only[o6,o7,oid];exact fin _ _ (Yy h2 hs)
 cases k3:x9 a.1 3
 case true=>simp only[o6,o7,oid];exact fin _ _ (ZN h1 ht (gW.1 k3))
 cases k4:x9 a.1 4
 case true=>simp only[o6,o7,oid];exact fin _ _ (n_ h1 ht k3)
 exfalso;have e1:a.1≠1:=λh=>by rw[iw h]at k1;cases k1
 have e2:a.1≠2:=λh=>by rw[iw h]at k2;cases k2
 have e3:a.1≠3:=λh=>by rw[iw h]at k3;cases k3
 have e4:a.1≠4:=λh=>by rw[iw h]at k4;cases k4
 rw[iV]at g1 g2;generalize a.1=z at*;have z1:(1:Int)<=z:=g1;have z2:z<=(4:Int):=g2;clear g1 g2;exact e4 (a6F z1 z2 e1 e2 e3)
theorem XW(h:smL l=true)(hW:WfL l):LenL l:=by
 obtain⟨hL,hT⟩:=H_ h hW;unfold smL at h;obtain⟨h1,h⟩:=GG h;obtain⟨h2,h⟩:=GG h;obtain⟨h3,h⟩:=GG h;obtain⟨h4,h⟩:=GG h;refine⟨⟨by have:=hL.few.1;omega,λe he=>?_⟩,⟨by have:=hL.few.2.1;omega,λt ht=>by have:=(hT t ht).1;omega⟩,⟨by have:=hL.few.2.2;omega,λs hs=>⟨by have:=(hL.sc s hs).ni;omega,by have:=(hL.sc s hs).nd;omega,by have:=(hL.sc s hs).nr;omega,λr hr=>⟨by have:=((hL.sc s hs).ro r hr).2.1;omega,by have:=((hL.sc s hs).ro r hr).2.2;omega⟩⟩⟩⟩;have hl:=UJ h4 e he;unfold Vl at hl;cases g1:F9 80 (o8 e.1)<;>rw[g1]at hl
 case true=>cases hl
 cases g2:F9 20 (o8 e.2)<;>rw[g2]at hl
 case true=>cases hl
 have:=gq (n:=20) g2;omega
theorem XV:LenL ([],[],[]):=⟨⟨A8,A8⟩,⟨A8,A8⟩,⟨A8,A8⟩⟩
theorem ZP(hv:(dV l).1=0)(hL:SmL l)(hT:∀t∈l.2.1,EE t):LenL l where
 e:=⟨by have:=hL.few.1;omega,λe he=>by have:=a0j hv e he;omega⟩
 t:=⟨by have:=hL.few.2.1;omega,λt ht=>by have:=(hT t ht).1;omega⟩
 s:=⟨by have:=hL.few.2.2;omega,λs hs=>⟨by have:=(hL.sc s hs).ni;omega,by have:=(hL.sc s hs).nd;omega,by have:=(hL.sc s hs).nr;omega,λr hr=>⟨by have:=((hL.sc s hs).ro r hr).2.1;omega,by have:=((hL.sc s hs).ro r hr).2.2;omega⟩⟩⟩
theorem a0t{l m:P8}(hS:SmL l)(hT:∀t∈l.2.1,EE t)(hF:AmF a)(hw:AmW a)(hA:Amd l a m)(hv:(dV m).1=0):SmL m/\(∀t∈m.2.1,EE t)/\LenL m:=by have h1:=c1A (a2F hA hS hF hw) hv;have h2:=a2E hA hT hw hv;exact⟨h1,h2,ZP hv h1 h2⟩
theorem QL(hW:WfL l)(hw:AmW a):xN l a=some true:=by
 unfold xN;rw[PV,D5];simp only[QQ,D5];cases h1:smL l
 case false=>rfl
 obtain⟨hL,hT⟩:=H_ h1 hW;simp only[P7,o7];obtain⟨b,hb,hb2⟩:=a2V [a];rw[hb,D5];cases b with
 |false=>rfl|true=>
  have hF:=(hb2 rfl).2 a (dR.2 rfl);simp only[P7,o7];obtain⟨m,e,hA,hR,hc⟩:=a2G hL (λ_=>XW h1 hW) hT hF hw;have hlen:LenL m:=by
   rcases hc with⟨-,rfl⟩|⟨-,hv,hAm,hv'⟩
   .exact XV
   .exact(a0t hL hT hF hw hAm hv').2.2
  rw[hA,D5,hR,D5];simp only;rw[JK hlen,D5,iw rfl];rfl
theorem a1p{act:List I5}(hS:SmL l)(hT:∀t∈l.2.1,EE t)(hl:LenL l)(hn:act.length<=8)(hF:∀a∈act,AmF a)(hw:∀a∈act,AmW a):
  Ag (λ(x y:P8×Int×Int)=>x=y/\LenL x.1) (qM l act) (wP l act):=by
 unfold qM wP;refine Ag.left (Rh hl) ?_;refine Ag.bind (R:=a6G (λ(a b:P8×P8)=>a.2=b.1/\LenL a.2) (λ(a b:P8×Int×Int)=>a=b/\LenL a.1)) ?_ (λa b _ _ h=>?_)
 .refine ZQ (λk (s t:P8×P8×Int)=>∃(i:Nat) (b:P8),s=(([],[],[]),b,(i:Int))/\t=(b,([],[],[]),(i:Int))/\k=act.length -i/\i<=act.length/\SmL b/\(∀t∈b.2.1,EE t)/\LenL b) _ _ act.length o5 ⟨0,l,rfl,rfl,o5,o5,hS,hT,hl⟩ ?_;rintro k s t ⟨i,b,rfl,rfl,rfl,hi,g1,g2,g3⟩;simp only;by_cases hlt:i<act.length
  .have e:=iP hlt;have hm:=L8 hlt;simp only[J9 e,o6,I9,e,D5];obtain⟨m,c,hA,hR,hc⟩:=a2G (a:=act[i]) g1 (λ_=>g3) g2 (hF _ hm) (hw _ hm);rw[hA,D5,hR,D5];simp only;rcases hc with⟨hne,rfl⟩|⟨rfl,hv,hAm,hv'⟩
   .rw[kJ hne];exact Ag.mk ⟨rfl,XV⟩
   .obtain⟨q1,q2,q3⟩:=a0t g1 g2 (hF _ hm) (hw _ hm) hAm hv';rw[iw rfl,dL o5];exact Ag.mk ⟨act.length -(i+1),o5,i+1,m,rfl,rfl,rfl,hlt,q1,q2,q3⟩
  .have:i=act.length:=o5;subst this;simp only[J8,o7];exact Ag.mk ⟨rfl,g3⟩
 .refine Ag.sum h (λa b h=>?_) (λa b h=>?_)
  .obtain⟨h1,h2⟩:=h;exact Ag.mk ⟨by rw[h1],h2⟩
  .exact Ag.mk h
theorem Ue{act:List I5}(hW:WfL l)(hw:∀a∈act,AmW a):yZ l act=some true:=by
 unfold yZ;rw[PV,D5];simp only[QQ,D5];cases h1:smL l
 case false=>rfl
 obtain⟨hL,hT⟩:=H_ h1 hW;simp only[P7,o7];obtain⟨b,hb,hb2⟩:=a2V act;rw[hb,D5];cases b with
 |false=>rfl|true=>obtain⟨hn,hF⟩:=hb2 rfl;simp only[P7,o7];obtain⟨x,y,hA,hR,rfl,hlen⟩:=a1p hL hT (XW h1 hW) hn hF hw;rw[hA,D5,hR,D5,JK hlen,D5,iw rfl,iw rfl];rfl
end Go.GP
namespace Go.GP
open Gt
theorem Qk:∀x,Ub Gt.ps3 x->(Gt.s3.fn x:c2j)=some true:=λx h=>QL (l:=x.1) (a:=x.2) (a8v h.1) (c1C h.2)
theorem SV:∀x,Ub Gt.ps4 x->(Gt.s4.fn x:c2j)=some true:=λx h=>Ue (l:=x.1) (act:=x.2) (a8v h.1) (c1E h.2)
end Go.GP
