import Derived.Test.YtbnndcenjpgdpaaGreatDoorV5
import Derived.Test.YtbnndcenjpgdpaaGreatDoorV2
import Derived.Test.YtbnndcenjpgdpaaGreatDoorV3
import Derived.Lib.ItoaLen
set_option linter.all false
namespace Go.GP
variable {a:Int}{b:Int}{n:Int}
section
variable {α β σ ε ρ:Type}
@[simp] theorem o9 (x:α) (f:α->Option β):o5 (some x) f=f x:=rfl
@[simp] theorem b6D (f:α->Option β):o5 none f=none:=rfl
theorem a1g{o:Option α}{x:α}(h:o=some x)(f:α->Option β):o5 o f=f x:=by rw[h];rfl
theorem V6{o o' :Option α}(h:o=o'){K:α->Option β}{r:Option β}(h2:o5 o' K=r):o5 o K=r:=by rw[h];exact h2
theorem bb(a b:Bool):l7 a (some b) (some false)=some (a&&b):=by cases a<;>rfl
theorem vC(o:Option α):o5 o (λx=>some x)=o:=by cases o<;>rfl
@[simp] theorem o7 (x y:α):l7 true x y=x:=rfl
@[simp] theorem o6 (x y:α):l7 false x y=y:=rfl
theorem sU(b:Bool)(x y:α):l7 b x y=if b=true then x else y:=by cases b<;>rfl
theorem og{b:Bool}(h:b=true)(x y:α):l7 b x y=x:=by rw[h];rfl
theorem sK{b:Bool}(h:b=false)(x y:α):l7 b x y=y:=by rw[h];rfl
@[simp] theorem ae (s:σ) (f:σ->α) (g:ε->α):dU (.inl s) f g=f s:=rfl
@[simp] theorem lU (s:ε) (f:σ->α) (g:ε->α):dU (.inr s) f g=g s:=rfl
@[simp] theorem F5:I5 true=false:=rfl
@[simp] theorem af:I5 false=true:=rfl
theorem dE(h:a<b):J4 a b=true:=by simp[J4,h]
theorem Y0(h:b<=a):J4 a b=false:=by simp[J4];omega
theorem Y7(h:a<=b):U7 a b=true:=by simp[U7,h]
theorem dA(h:b<a):U7 a b=false:=by simp[U7];omega
theorem O0(h:a=b):D8 a b=true:=by simp[D8,h]
theorem J8(h:a≠b):D8 a b=false:=by simp[D8,h]
theorem wz :J4 a b=true↔a<b:=by simp[J4]
theorem iM :U7 a b=true↔a<=b:=by simp[U7]
theorem eF :D8 a b=true↔a=b:=by simp[D8]
theorem mf :J4 a b=false↔b<=a:=by simp[J4]
theorem Nl :U7 a b=false↔b<a:=by simp[U7]
theorem vV :D8 a b=false↔a≠b:=by simp[D8]
theorem gm{a b:c5v} :seq a b=true↔a=b:=by simp[seq]
theorem pM{a b:c5v} :seq a b=false↔a≠b:=by simp[seq]
theorem uk(h:0<=a):a.tdiv b=a / b:=Int.tdiv_eq_ediv_of_nonneg h
theorem BD(h:0<=a):iE a b=a % b:=Int.tmod_eq_emod_of_nonneg h
def fP(n:Int):Prop:=-9223372036854775808<=n/\n<=9223372036854775807
theorem lm{p:Int}(h:fP p:=by unfold fP;omega):fP p:=h
def U64(n:Int):Prop:=0<=n/\n<=18446744073709551615
theorem Es(h:fP n):IntKind.wrap .i64 n=n:=by unfold fP at h;unfold IntKind.wrap;simp[IntKind.signed,IntKind.bits];omega
theorem PX(h:U64 n):IntKind.wrap .u64 n=n:=by unfold U64 at h;unfold IntKind.wrap;simp[IntKind.signed,IntKind.bits];omega
theorem cZ(h:fP (a+b)):I8 .i64 a b=a+b:=Es h
theorem bI(h:fP (a -b)):L6 .i64 a b=a -b:=Es h
theorem Jv(h:fP (a*b)):Qw .i64 a b=a*b:=Es h
theorem OD(h:fP (a.tdiv b)):dh .i64 a b=a.tdiv b:=Es h
theorem a0M(h:U64 (a+b)):I8 .u64 a b=a+b:=PX h
theorem a8T(h:U64 (a.tdiv b)):dh .u64 a b=a.tdiv b:=PX h
theorem WW(h:(Lit.int .i64 n).wf=true):fP n:=by simp[Lit.wf,IntKind.min,IntKind.max,IntKind.signed,IntKind.bits]at h;unfold fP;omega
theorem a0U(l:List α):0<=x9 l:=by simp[x9]
theorem O5(l:List α)(i:Nat):P8 l (i:Int)=l[i]?:=by simp[P8]
theorem ng{l:List α}{i:Int}{x:α}(h:P8 l i=some x):0<=i/\i<x9 l/\x∈l/\l[i.toNat]? =some x:=by
 unfold P8 at h;split at h
 .rename_i h0;obtain⟨h1,h2⟩:=aJ.1 h;refine⟨h0,by simp[x9];omega,?_,h⟩;rw[←h2];exact aK h1
 .cases h
theorem tH{l:List α}{i:Int}(h0:0<=i)(h:i<x9 l):∃x,P8 l i=some x/\x∈l:=by
 unfold x9 at h;refine⟨l[i.toNat]'l9,?_,aK _⟩;unfold P8
 rw[if_pos h0,qC]
theorem yx(l:c5v)(i:Nat):sat l (i:Int)=(l[i]?).map λc=>(c.toNat:Int):=by simp[sat]
theorem N9{a b:c5v}(h:a.length+b.length<=4611686018427387904):ak a b=some (a++b):=by simp[ak,h]
theorem uM{a b:List α}(h:a.length+b.length<=1073741824):iy a b=some (a++b):=by simp[iy,h]
theorem TL{l:List α}{lo hi:Int}(h0:0<=lo)(h1:lo<=hi)(h2:hi<=l.length):dM l lo hi=some ((l.take hi.toNat).drop lo.toNat):=by simp[dM,h0,h1,h2]
theorem zO{l:List α}{hi:Int}(h1:0<=hi)(h2:hi<=l.length):dM l 0 hi=some (l.take hi.toNat):=by rw[TL l9 h1 h2];simp
theorem qm{l:List α}{lo:Int}(h1:0<=lo)(h2:lo<=l.length):dM l lo (x9 l)=some (l.drop lo.toNat):=by rw[TL h1 (by simp[x9];omega) (by simp[x9])];simp[x9]
end
section
variable {σ ε ρ:Type}
theorem RF{f:σ->Option (σ⊕ε)}(Inv:σ->Prop)(Q:ε->Prop)(meas:σ->Nat)
  (h:∀s,Inv s->(∃s',f s=some (.inl s')/\Inv s' /\meas s' <meas s)\/(∃e,f s=some (.inr e)/\Q e)):
  ∀n s,Inv s->meas s<n->∃e,wW f n s=some e/\Q e
 |0,_,_,h=>by omega|n+1,s,hi,hm=>by
  unfold wW;rcases h s hi with⟨s',e,hi',hm'⟩|⟨x,e,hx⟩
  .rw[e];exact RF Inv Q meas h n s' hi' l9
  .rw[e];exact⟨x,rfl,hx⟩
theorem su{f:σ->Option (σ⊕ε)}{s:σ}(Inv:σ->Prop)(Q:ε->Prop)(meas:σ->Nat)(hi:Inv s)(hm:meas s<18446744073709551616)
  (h:∀s,Inv s->(∃s',f s=some (.inl s')/\Inv s' /\meas s' <meas s)\/(∃e,f s=some (.inr e)/\Q e)):∃e,fF f s=some e/\Q e:=
 RF Inv Q meas h _ s hi hm
theorem Vw{f:σ->Option (Out σ ε ρ)}(Inv:σ->Prop)(Q:ε->Prop)(Qr:ρ->Prop)(meas:σ->Nat)
  (h:∀s,Inv s->(∃s',f s=some (.nx s')/\Inv s' /\meas s' <meas s)\/(∃e,f s=some (.ex e)/\Q e)\/(∃r,f s=some (.rt r)/\Qr r)):
  ∀n s,Inv s->meas s<n->(∃e,fQ f n s=some (.inl e)/\Q e)\/(∃r,fQ f n s=some (.inr r)/\Qr r)
 |0,_,_,h=>by omega|n+1,s,hi,hm=>by
  unfold fQ;rcases h s hi with⟨s',e,hi',hm'⟩|⟨x,e,hx⟩|⟨x,e,hx⟩
  .rw[e];exact Vw Inv Q Qr meas h n s' hi' l9
  .rw[e];exact .inl ⟨x,rfl,hx⟩
  .rw[e];exact .inr ⟨x,rfl,hx⟩
theorem DY{f:σ->Option (Out σ ε ρ)}{s:σ}(Inv:σ->Prop)(Q:ε->Prop)(Qr:ρ->Prop)(meas:σ->Nat)(hi:Inv s)(hm:meas s<18446744073709551616)
  (h:∀s,Inv s->(∃s',f s=some (.nx s')/\Inv s' /\meas s' <meas s)\/(∃e,f s=some (.ex e)/\Q e)\/(∃r,f s=some (.rt r)/\Qr r)):
  (∃e,X5 f s=some (.inl e)/\Q e)\/(∃r,X5 f s=some (.inr r)/\Qr r):=
 Vw Inv Q Qr meas h _ s hi hm
end
section
variable {α β ε ρ:Type}
open Classical in
theorem Yi(l:List α)(p:Nat->α->Bool)(r:ρ)(e:ε)(f:Int->Option (Out Int ε ρ))(hl:l.length<18446744073709551616)
  (hin:∀(i:Nat) (a:α),l[i]? =some a->f (i:Int)=if p i a=true then some (.nx ((i+1:Nat):Int))else some (.rt r))
  (hend:f (l.length:Int)=some (.ex e)):
  X5 f 0=if(∀i a,l[i]? =some a->p i a=true)then some (.inl e)else some (.inr r):=by
 have key:∀(n i:Nat),i<=l.length->l.length -i<n->(∀j a,j<i->l[j]? =some a->p j a=true)->fQ f n (i:Int)=if(∀i a,l[i]? =some a->p i a=true)then some (.inl e)else some (.inr r):=by
  intro n;induction n with
  |zero=>intro i _ h;omega|succ n ih=>
   intro i hi hn hp;unfold fQ;by_cases h:i<l.length
   .have e' :=qC h;rw[hin i _ e'];by_cases hpi:p i l[i]=true
    .rw[if_pos hpi];exact ih (i+1) l9 l9 λj a hj ha=>by
      by_cases hji:j=i
      .subst hji;rw[e']at ha;cases ha;exact hpi
      .exact hp j a l9 ha
    .rw[if_neg hpi,if_neg];intro hall;exact hpi (hall i _ e')
   .have:i=l.length:=l9;subst this;rw[hend,if_pos];intro j a ha;exact hp j a (aJ.1 ha).1 ha
 exact key _ 0 (iF _) hl λj a hj=>by omega
end
end Go.GP
namespace Go.GP
section
variable {α β α' β' σ τ ε ε' ρ ρ' :Type}
theorem JB{p:Nat->Option ρ}(n:Nat)(hn:n<18446744073709551616)(e:ε){f:Int->Option (Out Int ε ρ)}
  (h1:∀i,i<n->f (i:Int)=some (match p i with|some r=> .rt r|none=> .nx ((i+1:Nat):Int))) (h2:f (n:Int)=some (.ex e)):
  X5 f 0=some (match(List.range n).findSome? p with|some r=> .inr r|none=> .inl e):=by
 have key:∀m i,i+m=n->∀k,m<k->fQ f k (i:Int)=some (match(List.range' i m).findSome? p with|some r=> .inr r|none=> .inl e):=by
  intro m;induction m with
  |zero=>intro i hi k hk;obtain⟨k,rfl⟩:∃k',k=k' +1:=⟨k -1,l9⟩;have:i=n:=l9;subst this;unfold fQ;rw[h2];rfl
  |succ m ih=>
   intro i hi k hk;obtain⟨k,rfl⟩:∃k',k=k' +1:=⟨k -1,l9⟩;unfold fQ;rw[h1 i l9,mO,List.findSome?_cons];cases hp:p i with
   |some r=>rfl|none=>exact ih (i+1) l9 k l9
 have:=key n 0 l9 au hn;rw[qP];exact this
end
end Go.GP
namespace Go.GP
open Gt
set_option maxRecDepth 100000
variable {i:Nat}
theorem bY(h:i<=9000000000000000000):I8 .i64 (i:Int) 1=((i+1:Nat):Int):=by
 grind [cZ,fP]
def IU(c:UInt8):Bool:=decide (97<=c.toNat)&&decide (c.toNat<=122)
def xY(c:UInt8):Bool:=IU c || (decide (48<=c.toNat)&&decide (c.toNat<=57)) || decide (c.toNat=95)
def LH:List c5v:=JP.getD []
def gq(s:c5v):Bool:=match s with|[]=>false|c::r=>decide (s.length<=16)&&IU c&&s.all xY&&!(LH.any λw=>seq s w)
theorem AL(c:UInt8)(r:c5v):gq (c::r)=(decide ((c::r).length<=16)&&IU c&&(c::r).all xY&&!(LH.any λw=>seq (c::r) w)):=rfl
theorem Gj(c:UInt8):lw (c.toNat:Int)=some (IU c):=by
 unfold lw IU;cases h:decide (97<=c.toNat)<;>simp at h
 .rw[dA l9];rfl
 grind [o7,U7]
def wO(c:UInt8):Bool:=decide (48<=c.toNat)&&decide (c.toNat<=57)
theorem Jj(c:UInt8):iG (c.toNat:Int)=some (wO c):=by
 unfold iG wO;cases h:decide (48<=c.toNat)<;>simp at h
 .rw[dA l9];rfl
 grind [o7,U7]
theorem b4O(c:UInt8):D8 (c.toNat:Int) 95=decide (c.toNat=95):=by
 grind [D8]
variable {s:c5v}
theorem Xm(h:s.length<=4611686018427387904):∃k,ny s=some k/\(k=x9 s↔s.all xY=true):=by
 unfold ny;have:=su (f:=λ(x:Int)=>l7 (J4 x (x9 s)) (o5 (sat s x) λx_1=>o5 (lw x_1) λx_2=>l7 x_2 (some (Sum.inl (I8 IntKind.i64 x 1)))
   (o5 (sat s x) λx_3=>o5 (iG x_3) λx_4=>l7 x_4 (some (Sum.inl (I8 IntKind.i64 x 1))) (o5 (sat s x) λx_5=>l7 (D8 x_5 95) (some (Sum.inl (I8 IntKind.i64 x 1))) (some (Sum.inr x))))) (some (Sum.inr x)))
  (λx=>∃i:Nat,x=i/\i<=s.length/\(s.take i).all xY=true) (λk=>k=x9 s↔s.all xY=true) (λx=>s.length -x.toNat) ⟨0,rfl,l9,rfl⟩ l9 ?_
 .simp_all [vC]
 .rintro x ⟨i,rfl,hi,hall⟩;by_cases hl:i<s.length
  .have e:=qC hl;simp only[dE (show(i:Int)<x9 s by simp_all [x9]),o7,yx,e,ah,o9,Gj,Jj,b4O];have hst:(s.take (i+1)).all xY=((s.take i).all xY&&xY s[i]):=by grind [List.take_succ_eq_append_getElem]
   have hw:xY s[i]=(IU s[i] || wO s[i] || decide (s[i].toNat=95)):=rfl;cases hwb:xY s[i]with
   |true=>left;refine⟨((i+1:Nat):Int),?_,⟨i+1,rfl,hl,by simp_all⟩,l9⟩;rw[bY l9];rw[hw]at hwb;cases h1:IU s[i]<;>cases h2:wO s[i]<;>cases h3:decide (s[i].toNat=95)<;>rw[h2]at hwb<;>first|rfl|grind
   |false=>
    right;refine⟨(i:Int),?_,?_⟩
    .simp_all
    grind [x9]
  .have:i=s.length:=l9;simp_all [Y0,x9]
theorem a7G{a:c5v}{w:c5v}{r:c5z}{x:Bool}(h:r=some x):l7 (seq a w) (some (seq a w)) r=some (seq a w || x):=by rw[h];cases seq a w<;>rfl
theorem a1C(s:c5v):DV s=some (LH.any λw=>seq s w):=by refine V6 (o' :=some (LH.any λw=>seq s w)) ?_ (by cases LH.any λw=>seq s w<;>rfl);simp[LH,JP,a7G]
theorem FB(h:s.length<=4611686018427387904):bG s=some (gq s):=by
 unfold bG;cases s with
 |nil=>rfl|cons c r=>
  have h1:seq (c::r) []=false:=by simp[seq]
  obtain⟨k,h2,h3⟩:=Xm h;rw[show sat (c::r) 0=some (c.toNat:Int)from rfl,o9,Gj,h2,o9,a1C,o9];have h4:D8 k (x9 (c::r))=(c::r).all xY:=by
   grind [eF]
  have h5:U7 (x9 (c::r)) 16=decide ((c::r).length<=16):=by grind [U7,x9]
  rw[h4,h5,AL];cases IU c<;>cases (c::r).all xY<;>cases decide ((c::r).length<=16)<;>rfl
theorem qV(h:s.length<=1000000):bG s=some (gq s):=FB l9
theorem uV(t:Int×Int)(en:List U2):bg t en=aN t en:=by
 grind [bg,aN,D8,o9,og,Y7,sK,dA]
theorem KI(t:Int×Int)(en:List U2):jC t en=di t en:=by simp[jC,di,uV]
def vty(t:Int×Int)(en:List U2):Bool:=l7 (D8 t.1 6) (l7 (U7 0 t.2) (J4 t.2 (x9 en)) false) (l7 (U7 1 t.1) (l7 (U7 t.1 5) (D8 t.2 0) false) false)
theorem nR(t:Int×Int)(en:List U2):aN t en=some (vty t en):=by unfold aN vty;cases D8 t.1 6<;>cases U7 0 t.2<;>cases U7 1 t.1<;>cases U7 t.1 5<;>rfl
theorem rU(t:Int×Int)(en:List U2):bg t en=some (vty t en):=(uV t en).trans (nR t en)
theorem ZZ(t:Int×Int)(en:List U2):∃b:Int×Int,di t en=some b:=by
 unfold di;rw[nR];cases hv:vty t en
 .simp
 cases h1:D8 t.1 1<;>simp only[o7,o6]
 .cases h2:D8 t.1 2<;>simp only[o7,o6]
  .cases h3:D8 t.1 3<;>simp only[o7,o6]
   .cases h4:D8 t.1 4<;>simp only[o7,o6]
    .cases h5:D8 t.1 5<;>simp only[o7,o6]
     .have h6:D8 t.1 6=true/\U7 0 t.2=true/\J4 t.2 (x9 en)=true:=by
       unfold vty at hv;rw[vV]at h1 h2 h3 h4 h5;cases h6:D8 t.1 6<;>rw[h6]at hv
       .cases h7:U7 1 t.1<;>rw[h7]at hv
        .cases hv
        cases h8:U7 t.1 5<;>rw[h8]at hv
        .cases hv
        grind [iM]
       .cases h7:U7 0 t.2<;>rw[h7]at hv
        all_goals simp_all
      obtain⟨x,hx,_⟩:=tH (iM.1 h6.2.1) (wz.1 h6.2.2)<;>simp_all
     .simp
    .simp
   .simp
  .simp
 .simp
def bnd(t:Int×Int)(en:List U2):Int×Int:=(di t en).getD (0,0)
theorem NJ(t:Int×Int)(en:List U2):di t en=some (bnd t en):=by obtain⟨b,h⟩:=ZZ t en<;>simp_all [bnd]
theorem CY(t:Int×Int)(en:List U2):jC t en=some (bnd t en):=(KI t en).trans (NJ t en)
def inB(n:Int)(b:Int×Int):Bool:=l7 (U7 b.1 n) (U7 n b.2) false
def EZ(r:Int×Int):Bool:=l7 (U7 0 r.1) (l7 (U7 r.1 r.2) (U7 r.2 109573) false) false
theorem Qo(r:Int×Int):uX r=some (EZ r):=by unfold uX EZ;cases U7 0 r.1<;>cases U7 r.1 r.2<;>rfl
def a4T(a b:Int×Int):(Int×Int)×Bool:=l7 (EZ a) (l7 (EZ b) (l7 (U7 (IR a.2 b.2) (Fh a.1 b.1)) ((0,0),false) ((Fh a.1 b.1,IR a.2 b.2),true)) ((0,0),false)) ((0,0),false)
theorem b3V(a b:Int×Int):sO a b=some (a4T a b):=by
 unfold sO wu a4T;rw[Qo,Qo];cases EZ a
 .rfl
 cases h1:J4 a.1 a.2
 .rw[mf]at h1;rw[Y7 (by grind [IR,Fh])];cases EZ b<;>rfl
 cases EZ b
 .rfl
 cases h2:J4 b.1 b.2
 .rw[mf]at h2;rw[Y7 (by grind [IR,Fh])];rfl
 .cases U7 (IR a.2 b.2) (Fh a.1 b.1)<;>rfl
def DC(a b:zq):Bool:=l7 (a4T a.1 b.1).2 (J4 (Fh a.2.1 b.2.1) (IR a.2.2.1 b.2.2.1)) false
theorem a0r(a b:zq):Af a b=some (DC a b):=by unfold Af DC;rw[b3V,o9];cases (a4T a.1 b.1).2<;>rfl
theorem a8J{l:List zq}(r:zq)(h:l.length<=1000000):∃k:Int,sS l r=some (k,l.any λy=>DC y r):=by
 unfold sS;have key:=DY (f:=λ(x:Int)=>l7 (J4 x (x9 l)) (o5 (P8 l x) λx_1=>o5 (uj x_1 r) λx_2=>l7 x_2 (some (Out.rt (x,true))) (some (Out.nx (I8 IntKind.i64 x 1)))) (some (Out.ex PUnit.unit)))
   (s:=0) (λx=>∃i:Nat,x=i/\i<=l.length/\(l.take i).any (λy=>DC y r)=false) (λ_=>(l.any λy=>DC y r)=false) (λk=>k.2=true/\(l.any λy=>DC y r)=true) (λx=>l.length -x.toNat) ⟨0,rfl,l9,rfl⟩ l9 ?_
 .rcases key with⟨e,h1,h2⟩|⟨k,h1,h2,h3⟩
  .simp_all
  .refine⟨k.1,?_⟩;rw[h1,h3,←h2];rfl
 .rintro x ⟨i,rfl,hi,hall⟩;by_cases hl:i<l.length
  .have e:=qC hl;have hst:(l.take (i+1)).any (λy=>DC y r)=((l.take i).any (λy=>DC y r) || DC l[i] r):=by grind [List.take_succ_eq_append_getElem]
   have hv:uj l[i] r=some (DC l[i] r):=by simp[uj,a0r]
   simp only[dE (show(i:Int)<x9 l by simp_all [x9]),o7,O5,e,o9,hv];cases hc:DC l[i] r with
   |true=>exact .inr (.inr ⟨_,rfl,rfl,vX.2 ⟨l[i],aK hl,hc⟩⟩)|false=>exact .inl ⟨((i+1:Nat):Int),by rw[bY l9];rfl,⟨i+1,rfl,hl,by simp_all⟩,l9⟩
  .have:i=l.length:=l9;simp_all [Y0,x9]
def Oc(x:zq)(bl br:Int×Int):Bool:=
 l7 (EZ x.1) (l7 (D8 x.1.1 x.1.2) true (l7 (U7 x.2.2.1 x.2.1) true (l7 (inB x.2.1 bl) (l7 (inB (L6 .i64 x.2.2.1 1) bl) (I5 (inB x.2.2.2 br)) true) true))) true
def Xu(t:aP)(en:List U2)(i:Nat):Option (Int×Int):=match t.2.2.2[i]? with
 |some x=>l7 (Oc x (bnd t.2.1 en) (bnd t.2.2.1 en)) (some ((i:Int),3)) (l7 ((t.2.2.2.take i).any λy=>DC y x) (some ((i:Int),11)) none)|none=>none
def Tu(t:aP)(en:List U2):Int×Int:=
 l7 (J4 64 (x9 t.2.2.2)) (64,4) (l7 (vty t.2.1 en) (l7 (vty t.2.2.1 en) (match(List.range t.2.2.2.length).findSome? (Xu t en)with|some r=>r|none=>(0,0)) (-1,8)) (-1,8))
theorem EF(a b:Int):J4 a b= !U7 b a:=by
 grind [J4,U7]
variable {α:Type}
theorem yV{l:List α}(h:i<=l.length):dM l 0 (i:Int)=some (l.take i):=by simp_all [zO]
theorem b1I(t:aP)(en:List U2):Ae t en=some (Tu t en):=by
 unfold Ae Tu;rw[rU,rU];cases h64:J4 64 (x9 t.2.2.2)
 case true=>rfl
 cases vty t.2.1 en
 .rfl
 cases vty t.2.2.1 en
 .rfl
 simp[F5,o6,o9,ae,o7,CY];have hlen:t.2.2.2.length<=64:=by grind [mf,x9]
 refine V6 (JB (p:=Xu t en) t.2.2.2.length l9 PUnit.unit (λi hi=>?_) ?_) ?_
 rotate_left 2
 .cases (List.range t.2.2.2.length).findSome? (Xu t en)<;>rfl
 .have e:=qC hi;simp[dE (show(i:Int)<x9 t.2.2.2 by simp_all [x9]),o7,O5,e,o9,Xu,Qo,yV (show i<=t.2.2.2.length by omega)];obtain⟨k,hk⟩:=a8J (l:=t.2.2.2.take i) t.2.2.2[i] (by grind);rw[hk,bY l9];unfold Oc inB;simp[EF];generalize bnd t.2.1 en=bl;generalize bnd t.2.2.1 en=br;cases EZ t.2.2.2[i].1
  .rfl
  cases D8 t.2.2.2[i].1.1 t.2.2.2[i].1.2
  case true=>rfl
  cases U7 t.2.2.2[i].2.2.1 t.2.2.2[i].2.1
  case true=>rfl
  cases U7 bl.1 t.2.2.2[i].2.1
  .rfl
  cases U7 t.2.2.2[i].2.1 bl.2
  .rfl
  cases U7 bl.1 (L6 IntKind.i64 t.2.2.2[i].2.2.1 1)
  .rfl
  cases U7 (L6 IntKind.i64 t.2.2.2[i].2.2.1 1) bl.2
  .rfl
  cases U7 br.1 t.2.2.2[i].2.2.2
  .rfl
  cases U7 t.2.2.2[i].2.2.2 br.2
  .rfl
  cases (t.2.2.2.take i).any λy=>DC y t.2.2.2[i]<;>rfl
 simp[Y0,x9]
section
variable {α ε ρ:Type}
theorem Tz(l:List α)(p:α->Bool)(r:ρ)(e:ε){f:Int->Option (Out Int ε ρ)}(hl:l.length<=1000000)
  (hin:∀(i:Nat) (a:α),l[i]? =some a->f (i:Int)=some (bif p a then .rt r else .nx (I8 .i64 (i:Int) 1))) (hend:f (l.length:Int)=some (.ex e)):
  X5 f 0=some (bif l.any p then .inr r else .inl e):=by
 rw[Yi l (λi a=> !p a) r e f l9 (λi a ha=>?_) hend]
 all_goals grind [List.getElem_of_mem,bY]
theorem AC(l:List α)(p:α->Bool){f:Int->Option (Out Int PUnit Int)}(hl:l.length<=1000000)
  (hin:∀(i:Nat) (a:α),l[i]? =some a->f (i:Int)=some (bif p a then .rt (i:Int)else .nx (I8 .i64 (i:Int) 1))) (hend:f (l.length:Int)=some (.ex PUnit.unit)):
  o5 (o5 (X5 f 0) λo=>dU o (λ_=>some (-1)) λr=>some r) (λx=>some (U7 0 x))=some (l.any p):=by
 have key:=DY (f:=f) (s:=0) (λx=>∃i:Nat,x=i/\i<=l.length/\(l.take i).any p=false) (λ_=>l.any p=false) (λk=>0<=k/\l.any p=true) (λx=>l.length -x.toNat) ⟨0,rfl,l9,rfl⟩ l9 ?_
 .rcases key with⟨e,h1,h2⟩|⟨k,h1,h2,h3⟩
  .rw[h1,h2];rfl
  simp_all [Y7]
 .rintro x ⟨i,rfl,hi,hall⟩;by_cases h:i<l.length
  .have e:=qC h;have hst:(l.take (i+1)).any p=((l.take i).any p || p l[i]):=by grind [List.take_succ_eq_append_getElem]
   rw[hin i _ e];cases hc:p l[i]with
   |true=>exact .inr (.inr ⟨_,rfl,l9,vX.2 ⟨l[i],aK h,hc⟩⟩)|false=>exact .inl ⟨((i+1:Nat):Int),by grind [bY],⟨i+1,rfl,h,by simp_all⟩,l9⟩
  grind
theorem U0{l:List α}{a:α}(h:l[i]? =some a):J4 (i:Int) (x9 l)=true:=dE (by grind [x9])
theorem Y1(l:List α):J4 (l.length:Int) (x9 l)=false:=Y0 (by simp[x9])
end
theorem Nj{l:List U2}(n:c5v)(h:l.length<=1000000):yU l n=some (l.any λx=>seq x.1 n):=by unfold yU jy kN;rw[vC];refine AC l (λx=>seq x.1 n) h (λi a ha=>?_) (by rw[Y1];rfl);rw[U0 ha,O5,ha,o9];unfold Fj;cases seq a.1 n<;>rfl
theorem Ry{l:List aP}(n:c5v)(h:l.length<=1000000):zK l n=some (l.any λx=>seq x.1 n):=by unfold zK iU jJ;rw[vC];refine AC l (λx=>seq x.1 n) h (λi a ha=>?_) (by rw[Y1];rfl);rw[U0 ha,O5,ha,o9];unfold DU;cases seq a.1 n<;>rfl
theorem a0K{l:List H6}(s:H6)(h:l.length<=1000000):iT l s=some (l.any λx=>seq x.1 s.1):=by refine AC l (λx=>seq x.1 s.1) h (λi a ha=>?_) (by rw[Y1];rfl);rw[U0 ha,O5,ha,o9];unfold AP;cases seq a.1 s.1<;>rfl
theorem a2Y{l:List U3}(s:U3)(h:l.length<=1000000):jA l s=some (l.any λx=>seq x.1 s.1):=by refine AC l (λx=>seq x.1 s.1) h (λi a ha=>?_) (by rw[Y1];rfl);rw[U0 ha,O5,ha,o9];unfold Cb;cases seq a.1 s.1<;>rfl
theorem Rx{l:List dO}(s:dO)(h:l.length<=1000000):eG l s=some (l.any λx=>seq x.1 s.1):=by refine AC l (λx=>seq x.1 s.1) h (λi a ha=>?_) (by rw[Y1];rfl);rw[U0 ha,O5,ha,o9];unfold AO;cases seq a.1 s.1<;>rfl
theorem a6P{l:List c5v}(s:c5v)(h:l.length<=1000000):nY l s=some (l.any λx=>seq s x):=by refine AC l (λx=>seq s x) h (λi a ha=>?_) (by rw[Y1];rfl);rw[U0 ha,O5,ha,o9];cases seq s a<;>rfl
theorem a6O{l:c5w}(s:Int)(h:l.length<=1000000):uh l s=some (l.any λx=>D8 s x):=by refine AC l (λx=>D8 s x) h (λi a ha=>?_) (by rw[Y1];rfl);rw[U0 ha,O5,ha,o9];cases D8 s a<;>rfl
theorem a5k(i k:Nat):J4 (i:Int) (k:Int)=decide (i<k):=by simp[J4]
def zl(l:O6)(kind:Nat)(k:Nat)(n:c5v):Bool:=
 match kind with
 |1=>(l.1.take k).any λx=>seq x.1 n|2=>(l.1.any λx=>seq x.1 n) || ((l.2.1.take k).any λx=>seq x.1 n)|_=>(l.1.any λx=>seq x.1 n) || (l.2.1.any λx=>seq x.1 n) || ((l.2.2.take k).any λx=>seq x.1 n)
def Few(l:O6):Prop:=l.1.length<=100000/\l.2.1.length<=100000/\l.2.2.length<=100000
def Tf(ms:List c5v)(i:Nat):Option (Int×Int):=match ms[i]? with
 |some m=>l7 (gq m) (l7 ((ms.take i).any λx=>seq m x) (some (7,((100+i:Nat):Int))) none) (some (2,((100+i:Nat):Int)))|none=>none
def XN(l:O6)(i:Nat)(e:U2):Int×Int:=
 l7 (gq e.1) (l7 (zl l 1 i e.1) (7,0) (l7 (D8 (x9 e.2) 0) (5,0) (l7 (J4 16 (x9 e.2)) (4,116) (match(List.range e.2.length).findSome? (Tf e.2)with|some r=>r|none=>(0,0))))) (2,0)
theorem b2J(h:i<=1000000):I8 .i64 100 (i:Int)=((100+i:Nat):Int):=by
 grind [cZ,fP]
variable {l:O6}
theorem Zd(h:Few l)(hi:i<=l.1.length)(e:U2)(h1:e.1.length<=1000000)(h2:∀m∈e.2,m.length<=1000000):
  Bj l (i:Int) e=some (XN l i e):=by
 unfold Bj XN zl;rw[qV h1,o9,yV hi,o9,Nj _ (by have:=h.1;grind)];cases gq e.1
 .rfl
 cases (l.1.take i).any λx=>seq x.1 e.1
 case true=>rfl
 cases D8 (x9 e.2) 0
 case true=>rfl
 cases h16:J4 16 (x9 e.2)
 case true=>rfl
 have hlen:e.2.length<=16:=by grind [mf,x9]
 refine V6 (JB (p:=Tf e.2) e.2.length l9 PUnit.unit (λj hj=>?_) ?_) ?_
 rotate_left 2
 .cases (List.range e.2.length).findSome? (Tf e.2)<;>rfl
 .have e' :=qC hj;rw[U0 e',O5,e',o9,qV (h2 _ (aK hj)),o9,yV l9,o9,a6P _ (by grind),b2J l9,bY l9];simp[Tf,e'];cases gq e.2[j]
  .rfl
  cases (e.2.take j).any λx=>seq e.2[j] x<;>rfl
 simp[Y1]
variable {β:Type}
theorem a8M{p:Nat->Option β}{n j:Nat}{c:β}(h0:(List.range j).findSome? p=none)(h1:p j=some c)(hj:j<n):(List.range n).findSome? p=some c:=by induction n<;>grind [List.range_succ]
theorem b2H{p:Nat->Option β}{j:Nat}(h0:(List.range j).findSome? p=none)(h1:p j=none):(List.range (j+1)).findSome? p=none:=by
 grind
variable {ρ:Type}
def cO(n:Nat)(p:Nat->Option ρ):Option ρ:=(List.range n).findSome? p
theorem Jr{σ ε ρ:Type}{p:Nat->Option ρ}(n:Nat)(hn:n<=1000000)(a:σ)(e:ε){f:σ×Int->Option (Out (σ×Int) ε ρ)}
  (h1:∀i,i<n->f (a,(i:Int))=some (match p i with|some r=> .rt r|none=> .nx (a,I8 .i64 (i:Int) 1))) (h2:f (a,(n:Int))=some (.ex e)):
  X5 f (a,0)=some (match cO n p with|some r=> .inr r|none=> .inl e):=by
 have key:=DY (f:=f) (λx=>∃i:Nat,x=(a,(i:Int))/\i<=n/\cO i p=none) (λx=>x=e/\cO n p=none) (λr=>cO n p=some r) (λx=>n -x.2.toNat) ⟨0,rfl,l9,rfl⟩ l9 ?_
 .grind
 .rintro x ⟨i,rfl,hi,hnone⟩;by_cases h:i<n
  .rw[h1 i h];cases hp:p i with
   |some r=>exact .inr (.inr ⟨_,rfl,a8M hnone hp h⟩)|none=>exact .inl ⟨(a,((i+1:Nat):Int)),by grind [bY],⟨i+1,rfl,h,b2H hnone hp⟩,l9⟩
  grind
def MX(kind i:Int)(r:Int×Int):Option (Int×Int×Int×Int):=l7 (D8 r.1 0) none (some (r.1,kind,i,r.2))
def Ot(l:O6)(i:Nat):Option (Int×Int×Int×Int):=match l.1[i]? with|some e=>MX 1 i (XN l i e)|none=>none
def Az(l:O6):Int×Int×Int×Int:=l7 (J4 8 (x9 l.1)) (4,1,8,0) (match cO l.1.length (Ot l)with|some r=>r|none=>(0,0,0,0))
def YO(l:O6):Prop:=∀e∈l.1,e.1.length<=1000000/\∀m∈e.2,m.length<=1000000
theorem Xd(h:Few l)(hE:YO l):zI l=some (Az l):=by
 unfold zI Az;cases J4 8 (x9 l.1)
 case true=>rfl
 refine V6 (Jr (p:=Ot l) l.1.length (by have:=h.1;omega) _ (0,0,0,0) (λi hi=>?_) ?_) ?_
 rotate_left 2
 .cases cO l.1.length (Ot l)<;>rfl
 .have e:=qC hi;have hm:=hE _ (aK hi);simp[U0 e,o7,O5,e,o9,Zd h (show i<=l.1.length by omega) _ hm.1 hm.2,Ot,MX];cases D8 (XN l i l.1[i]).1 0<;>rfl
 simp[Y1]
variable {n:Nat}{p:Nat->Option ρ}
theorem nN{r:ρ}(h:cO n p=some r):∃i,i<n/\p i=some r:=by obtain⟨i,hi,hp⟩:=List.exists_of_findSome?_eq_some h<;>grind
theorem rC(h:cO n p=none):∀i,i<n->p i=none:=by simp_all [cO]
theorem b1H(t:aP)(en:List U2):(Tu t en).1=-1\/0<=(Tu t en).1:=by
 unfold Tu;cases J4 64 (x9 t.2.2.2)
 case true=>simp
 cases vty t.2.1 en
 .simp
 cases vty t.2.2.1 en
 .simp
 cases hf:(List.range t.2.2.2.length).findSome? (Xu t en)with
 |none=>simp|some r=>
  obtain⟨i,hi,hp⟩:=nN hf;unfold Xu at hp;split at hp
  .rename_i x hx;cases hw:Oc x (bnd t.2.1 en) (bnd t.2.2.1 en)<;>rw[hw]at hp
   .cases ha:(t.2.2.2.take i).any λy=>DC y x<;>rw[ha]at hp
    .cases hp
    .cases hp<;>simp_all
   .cases hp<;>simp_all
  grind
def F_(l:O6)(i:Nat)(t:aP):Int×Int:=
 l7 (gq t.1) (l7 (zl l 2 i t.1) (7,0) (l7 (D8 (Tu t l.1).2 0) (0,0) ((Tu t l.1).2,l7 (U7 0 (Tu t l.1).1) (I8 .i64 100 (Tu t l.1).1) 0))) (2,0)
def Iu(l:O6)(i:Nat):Option (Int×Int×Int×Int):=match l.2.1[i]? with|some t=>MX 2 i (F_ l i t)|none=>none
def yz(l:O6):Int×Int×Int×Int:=l7 (J4 8 (x9 l.2.1)) (4,2,8,0) (match cO l.2.1.length (Iu l)with|some r=>r|none=>(0,0,0,0))
def Uh(l:O6):Prop:=∀t∈l.2.1,t.1.length<=1000000
theorem UE(h:Few l)(hT:Uh l):yl l=some (yz l):=by
 unfold yl yz;cases J4 8 (x9 l.2.1)
 case true=>rfl
 simp only[o6];refine V6 (Jr (p:=Iu l) l.2.1.length (by have:=h.2.1;omega) _ (0,0,0,0) (λi hi=>?_) ?_) ?_
 rotate_left 2
 .cases cO l.2.1.length (Iu l)<;>rfl
 .have e:=qC hi;have hm:=hT _ (aK hi);simp only[U0 e,o7,O5,e,o9,b1I,qV hm,Nj _ (show l.1.length<=1000000 by have:=h.1;omega),yV (show i<=l.2.1.length by omega),
   Ry _ (show(l.2.1.take i).length<=1000000 by have:=h.2.1;grind),Iu,F_,zl]
  cases gq l.2.1[i].1
  .rfl
  cases l.1.any λx=>seq x.1 l.2.1[i].1<;>grind [F5,o6,o7,o9,af,MX,b1H,O0,dA,J8,Y7]
 .rw[Y1];rfl
variable {ε:Type}
theorem a2W(l:List α)(g:α->β)(hl:l.length<=1000000){f:List β×Int->Option ((List β×Int)⊕ε)}{F:List β->ε}
  (hin:∀(i:Nat) (a:α) (acc:List β),l[i]? =some a->acc.length=i->f (acc,(i:Int))=some (.inl (acc++[g a],I8 .i64 (i:Int) 1))) (hend:∀acc,f (acc,(l.length:Int))=some (.inr (F acc))):
  fF f ([],0)=some (F (l.map g)):=by
 obtain⟨e,h1,h2⟩:=su (f:=f) (s:=([],0)) (λx=>∃i:Nat,x=((l.take i).map g,(i:Int))/\i<=l.length) (λe=>e=F (l.map g)) (λx=>l.length -x.2.toNat) ⟨0,rfl,l9⟩ H7 (by
  rintro x ⟨i,rfl,hi⟩;by_cases h:i<l.length
  .have e:=qC h;refine .inl ⟨((l.take (i+1)).map g,((i+1:Nat):Int)),?_,⟨i+1,rfl,h⟩,by simp;omega⟩;rw[hin i _ _ e H7,bY l9,aO h,rF];rfl
  .have:i=l.length:=l9;subst this;refine .inr ⟨_,hend _,?_⟩;rw[iL])
 rw[h1,h2]
theorem Fe{l:List dO}(h:l.length<=1000000):tK l=some (l.map (·.2)):=by
 unfold tK;rw[vC];refine a2W (F:=id) l (λx=>x.2) h (λi a acc ha hacc=>?_) (λacc=>?_)
 .grind [U0,o7,O5,o9,uM]
 .simp[Y1]
def a0b(l:O6):Prop:=∀s∈l.2.2,s.1.length<=1000000/\s.2.2.1.length<=100000/\s.2.2.2.1.length<=100000/\s.2.2.2.2.length<=100000
def ug(l:O6)(s:H6):List U2×List aP×List (Int×Int)×List (Int×Int)×List (Int×Int)×Bool:=
 match(if 0<=s.2.1 then l.2.2[s.2.1.toNat]? else none)with
 |some k=>(l.1,l.2.1,s.2.2.1.map (·.2),s.2.2.2.1.map (·.2),k.2.2.2.1.map (·.2),true)|none=>(l.1,l.2.1,s.2.2.1.map (·.2),s.2.2.2.1.map (·.2),[],false)
theorem NR(h:a0b l){s:H6}(hs:l.2.2[i]? =some s):sQ l (i:Int)=some (ug l s):=by
 have hm:=h s (rD hs);unfold sQ ug;rw[O5,hs,o9,Fe l9,o9,Fe l9,o9];by_cases h0:0<=s.2.1
 .rw[Y7 h0,if_pos h0,o7];by_cases h1:s.2.1<x9 l.2.2
  .obtain⟨k,hk,hkm⟩:=tH h0 h1;have hk' :=(ng hk).2.2.2;rw[dE h1,o7,hk,o9,Fe (by have:=h k hkm;omega),o9,hk']
  simp_all [x9,Y0]
 .have h0' :=uY.1 h0;rw[dA h0',if_neg h0];rfl
abbrev SI(l:c5w):Prop:=l.Pairwise (·< ·)
theorem a3Y:∀{a b:c5w},SI a->SI b->(∀x,x∈a↔x∈b)->a=b
 |[],[],_,_,_=>rfl|[],y::b,_,_,h=>absurd ((h y).2 x8) x8|x::a,[],_,_,h=>absurd ((h x).1 x8) x8|x::a,y::b,ha,hb,h=>by
  have ha' :=V8.1 ha;have hb' :=V8.1 hb;have hxy:x=y:=by
   rcases D7.1 ((h x).1 x8)with h1|h1
   .omega
   .rcases D7.1 ((h y).2 x8)with h2|h2<;>grind
  congr 1;refine a3Y ha'.2 hb'.2 λz=>⟨λhz=>?_,λhz=>?_⟩<;>grind
def ins(n:Int):c5w->c5w
 |[]=>[n]|a::l=>if n<=a then(if n<a then n::a::l else a::l)else a::ins n l
theorem ZI(n x:Int):∀l,x∈ins n l↔x=n\/x∈l
 |[]=>by simp[ins]|a::l=>by
  unfold ins;by_cases h:n<=a
  .rw[if_pos h];by_cases h2:n<a
   .rw[if_pos h2];simp
   .have:n=a:=l9;subst this;simp
  .rw[if_neg h,D7,ZI n x l,D7];constructor
   .rintro(h|h|h)<;>simp[h]
   .rintro(h|h|h)<;>simp[h]
theorem b0V(n:Int):∀{l},SI l->SI (ins n l)
 |[],_=>List.pairwise_singleton _ _|a::l,h=>by
  have h' :=V8.1 h;unfold ins;by_cases h1:n<=a
  .rw[if_pos h1];by_cases h2:n<a
   .rw[if_pos h2];refine V8.2 ⟨λx hx=>?_,h⟩<;>grind
   grind
  .rw[if_neg h1];refine V8.2 ⟨λx hx=>?_,b0V n h'.2⟩<;>grind [ZI]
def Vl(ns:c5w)(l:c5w):c5w:=ns.foldl (λacc n=>ins n acc) l
theorem VB(x:Int):∀ns l,x∈Vl ns l↔x∈ns\/x∈l
 |[],l=>by simp[Vl]|n::ns,l=>by
  show x∈Vl ns (ins n l)↔_;rw[VB x ns,ZI,D7];constructor
  .rintro(h|h|h)<;>simp[h]
  .rintro((h|h)|h)<;>simp[h]
theorem w_:∀ns {l},SI l->SI (Vl ns l)
 |[],_,h=>h|n::ns,_,h=>w_ ns (b0V n h)
def NT(l:c5w):c5w:=Vl l []
theorem a0Y(x:Int)(l:c5w):x∈NT l↔x∈l:=by simp[NT,VB]
theorem a5Q(l:c5w):SI (NT l):=w_ l List.Pairwise.nil
theorem Vs(n:Int):∀l,(ins n l).length<=l.length+1
 |[]=>by simp[ins]|a::l=>by
  unfold ins;by_cases h1:n<=a
  .rw[if_pos h1];by_cases h2:n<a
   .rw[if_pos h2];simp
   .rw[if_neg h2];simp
  .rw[if_neg h1];have:=Vs n l;simp;omega
theorem RD:∀ns l,(Vl ns l).length<=l.length+ns.length
 |[],l=>by simp[Vl]|n::ns,l=>by have h1:=RD ns (ins n l);have h2:=Vs n l;show(Vl ns (ins n l)).length<=_;simp;omega
theorem a0R(l:c5w):(NT l).length<=l.length:=by grind [RD,NT]
theorem a3Z{l:c5w}(n:Nat)(h:SI l)(h2:∀x∈l,0<=x/\x<n):l.length<=n:=by
 have key:∀(l:c5w) (lo:Int),SI l->(∀x∈l,lo<=x/\x<n)->lo<=n->(l.length:Int)<=n -lo:=by
  intro l;induction l with
  |nil=>intro lo _ _ hlo;simp;omega|cons a l ih=>intro lo hs hb hlo;have h' :=V8.1 hs;have ha:=hb a x8;have:=ih (a+1) h'.2 (λx hx=>⟨by have:=h'.1 x hx;omega,(hb x (by simp[hx])).2⟩) l9;simp only[A8];omega
 have:=key l 0 h (λx hx=>h2 x hx) l9;omega
theorem UH(x:Int):∀(l:c5w) (p:Int),(p::l).Pairwise (·<=·)->SI (p::ddp p l)/\(x∈p::ddp p l↔x∈p::l)
 |[],p,_=>⟨List.pairwise_singleton _ _,Iff.rfl⟩|a::l,p,h=>by
  have h1:=V8.1 h;obtain⟨i1,i2⟩:=UH x l a h1.2;have hpa:=h1.1 a x8;unfold ddp;cases hq:D8 a p
  .rw[vV]at hq;refine⟨V8.2 ⟨λy hy=>?_,i1⟩,?_⟩
   .rcases D7.1 hy with rfl|hy
    .omega
    .have:=(V8.1 i1).1 y hy;omega
   simp_all
  simp_all [eF]
theorem a8y(l:c5w):dd (Jw l)=NT l:=by
 have hs:=Hl l;have hp:=Hg l;refine a3Y ?_ (a5Q l) λx=>?_
 .cases he:Jw l with
  |nil=>exact List.Pairwise.nil|cons a r=>rw[he]at hs;exact(UH a r a hs).1
 .rw[a0Y,←hp.mem_iff];cases he:Jw l with
  |nil=>exact Iff.rfl|cons a r=>rw[he]at hs;exact(UH x r a hs).2
theorem a6T(l:c5w):(Jw l).length=l.length:=(Hg l).length_eq
theorem b4j{l:c5w}(h:l.length<=1000000):o5 (Dt l) (λx=>wJ x)=some (NT l):=by unfold Dt wJ;rw[show Nat.blt l.length 4611686018427387904=true from by simp;omega];simp;rw[show Nat.blt (Jw l).length 4611686018427387904=true from by rw[a6T];simp;omega];rw[cond_true,a8y]
def hg(l:c5w)(i:Nat):Int:=l.getD i 0
theorem b1J{l:List α}{a:α}(h:(l.take n)[i]? =some a):i<n/\l[i]? =some a:=by
 grind
def Fb(en:List U2)(f:dO)(a b:List dO):Int:=
 l7 (gq f.1) (l7 (a.any λx=>seq x.1 f.1) 7 (l7 (b.any λx=>seq x.1 f.1) 7 (l7 (vty f.2 en) 0 8))) 2
theorem LW{f:dO}{a b:List dO}(h:f.1.length<=1000000)(ha:a.length<=1000000)(hb:b.length<=1000000):wU l f a b=some (Fb l.1 f a b):=by
 unfold wU Fb;rw[qV h,Rx _ ha,Rx _ hb,rU];cases gq f.1
 .rfl
 cases a.any λx=>seq x.1 f.1
 case true=>rfl
 cases b.any λx=>seq x.1 f.1
 case true=>rfl
 cases vty f.2 l.1<;>rfl
def SY(c e:Int):Option (Int×Int):=l7 (D8 c 0) none (some (c,e))
def inP(l:O6)(s:H6)(i:Nat):Option (Int×Int):=match s.2.2.1[i]? with|some f=>SY (Fb l.1 f (s.2.2.1.take i) []) (100+i:Nat)|none=>none
def a0s(l:O6)(s:H6)(i:Nat):Option (Int×Int):=match s.2.2.2.1[i]? with|some f=>SY (Fb l.1 f s.2.2.1 (s.2.2.2.1.take i)) (200+i:Nat)|none=>none
def W_(s:H6):Prop:=(∀f∈s.2.2.1,f.1.length<=1000000)/\(∀f∈s.2.2.2.1,f.1.length<=1000000)
theorem a5e{c i:Nat}(hc:c<=1000)(h:i<=1000000):I8 .i64 (c:Int) (i:Int)=((c+i:Nat):Int):=by
 grind [cZ,fP]
def zD(l:O6)(s:H6):Option (Int×Int):=match cO s.2.2.1.length (inP l s)with|some r=>some r|none=>cO s.2.2.2.1.length (a0s l s)
def arF(op:Int):Int:=(qf op).getD 0
variable {op:Int}
theorem VP(h:1<=op/\op<=39):∃k:Fin 40,op=(k.val:Int):=⟨⟨op.toNat,l9⟩,by grind⟩
theorem b9w:∀k:Fin 40,1<=k.val->(lD (k.val:Int)=qf (k.val:Int))/\(qf (k.val:Int)=some 0\/qf (k.val:Int)=some 1\/qf (k.val:Int)=some 2\/qf (k.val:Int)=some 3):=by decide+kernel
theorem Zz(h:¬(1<=op/\op<=39))(k:Int)(h1:1<=k)(h2:k<=39):D8 op k=false:=J8 l9
theorem ZY(h:¬(1<=op/\op<=39)):qf op=some (-1):=by
 unfold qf;by_cases h1:1<=op
 .rw[Y7 h1,dA l9,dA (show(39:Int)<op by omega),dA (show(30:Int)<op by omega)];simp[Zz h];cases U7 35 op<;>cases U7 11 op<;>rfl
 .rw[dA l9,o6,dA l9,dA (show op<11 by omega)];simp[Zz h]
theorem b6g(h:¬(1<=op/\op<=39)):lD op=some (-1):=by simp_all [lD,Zz]
theorem Oi(op:Int):lD op=some (arF op)/\qf op=some (arF op)/\(arF op=-1\/arF op=0\/arF op=1\/arF op=2\/arF op=3):=by unfold arF;by_cases h:1<=op/\op<=39<;>grind [VP,b9w,b6g,ZY]
theorem a8h(op:Int):lD op=some (arF op):=(Oi op).1
inductive XT where
 |l0 (n:Int×Int)|l1 (n:Int×Int) (a:XT)|l2 (n:Int×Int) (a b:XT)|l3 (n:Int×Int) (a b c:XT)
def XT.size:XT->Nat
 | .l0 _=>1| .l1 _ a=>a.size+1| .l2 _ a b=>a.size+b.size+1| .l3 _ a b c=>a.size+b.size+c.size+1
def XT.post:XT->List (Int×Int)
 | .l0 n=>[n]| .l1 n a=>a.post++[n]| .l2 n a b=>a.post++b.post++[n]| .l3 n a b c=>a.post++b.post++c.post++[n]
def XT.sts(o:Nat):XT->c5w
 | .l0 _=>[(o:Int)]| .l1 _ a=>a.sts o++[(o:Int)]| .l2 _ a b=>a.sts o++b.sts (o+a.size)++[(o:Int)]| .l3 _ a b c=>a.sts o++b.sts (o+a.size)++c.sts (o+a.size+b.size)++[(o:Int)]
theorem XT.size_pos(t:XT):0<t.size:=by cases t<;>simp[XT.size]
theorem XT.post_len(t:XT):t.post.length=t.size:=by induction t<;>grind [XT.post,XT.size]
theorem XT.sts_len(t:XT):∀o,(t.sts o).length=t.size:=by induction t<;>grind [XT.sts,XT.size]
def lT:List XT->Nat
 |[]=>0|t::r=>lT r+t.size
def MC:List XT->List (Int×Int)
 |[]=>[]|t::r=>MC r++t.post
def stR:List XT->c5w
 |[]=>[]|t::r=>stR r++t.sts (lT r)
def uQ:List XT->c5w
 |[]=>[]|t::r=>uQ r++[(lT r:Int)]
theorem zQ:∀ts,(uQ ts).length=ts.length
 |[]=>rfl|t::r=>by simp[uQ,zQ r]
theorem PQ:∀ts,(stR ts).length=lT ts
 |[]=>rfl|t::r=>by simp[stR,lT,PQ r,XT.sts_len]
theorem Lh:∀ts,(MC ts).length=lT ts
 |[]=>rfl|t::r=>by simp[MC,lT,Lh r,XT.post_len]
def push(n:Int×Int)(ts:List XT):Int⊕List XT:=
 if arF n.1=0 then .inr (.l0 n::ts)
 else if arF n.1=1 then(match ts with|a::r=> .inr (.l1 n a::r)|_=> .inl 5)
 else if arF n.1=2 then(match ts with|b::a::r=> .inr (.l2 n a b::r)|_=> .inl 5)
 else if arF n.1=3 then(match ts with|c::b::a::r=> .inr (.l3 n a b c::r)|_=> .inl 5)
 else .inl 2
def xN:Nat->List (Int×Int)->List XT->(Int×Int)⊕List XT
 |_,[],ts=> .inr ts
 |i,n::es,ts=>match push n ts with
  | .inl c=> .inl ((i:Int),c)| .inr ts' =>if 12<ts'.length then .inl ((i:Int),16)else xN (i+1) es ts'
def mJ(e:List (Int×Int)):(Int×Int)⊕XT:=
 if 48<e.length then .inl (0,4)else if e.length=0 then .inl (0,5)else
  match xN 0 e []with
  | .inl x=> .inl x| .inr [t]=> .inr t| .inr _=> .inl ((e.length:Int),4)
theorem Yu{n:Int×Int}{ts ts' :List XT}(h:push n ts= .inr ts'):MC ts' =MC ts++[n]/\ts' ≠[]:=by unfold push at h<;>grind [MC,XT.post]
theorem Ll{n:Int×Int}{ts ts' :List XT}(h:push n ts= .inr ts'):lT ts' =lT ts+1:=by rw[←Lh,←Lh,(Yu h).1];simp
theorem Hz:∀(es:List (Int×Int)) (i:Nat) (ts ts' :List XT),xN i es ts= .inr ts' ->MC ts' =MC ts++es/\(ts≠[]\/es≠[]->ts' ≠[])
 |[],i,ts,ts',h=>by cases h<;>simp_all|n::es,i,ts,ts',h=>by
  unfold xN at h;cases hp:push n ts with
  |inl c=>rw[hp]at h;cases h|inr t2=>
   rw[hp]at h;simp at h;split at h
   .cases h
   .obtain⟨h1,h2⟩:=Hz es (i+1) t2 ts' h;obtain⟨h3,h4⟩:=Yu hp;exact⟨by rw[h1,h3];simp,λ_=>h2 (.inl h4)⟩
theorem qi{e:List (Int×Int)}{t:XT}(h:mJ e= .inr t):e=t.post/\e.length<=48:=by
 unfold mJ at h;split at h
 .grind
 split at h
 .grind
 split at h
 .grind
 .rename_i t' hp;cases h;have:=(Hz e 0 [] [t] hp).1;simp_all [MC]
 grind
theorem a1Z{σ ε ρ:Type}(e:List (Int×Int))(he:e.length<=48)(g:List XT->σ)(fin:List XT->ε)(rt:Int×Int->ρ){f:σ->Option (Out σ ε ρ)}
  (hs:∀(i:Nat) (n:Int×Int) (ts:List XT),e[i]? =some n->i=lT ts->ts.length<=12->f (g ts)=some (match push n ts with
   | .inl c=> .rt (rt ((i:Int),c))
   | .inr ts' =>if 12<ts'.length then .rt (rt ((i:Int),16))else .nx (g ts')))
  (hend:∀ts,lT ts=e.length->f (g ts)=some (.ex (fin ts))):
  X5 f (g [])=some (match xN 0 e []with| .inl x=> .inr (rt x)| .inr ts=> .inl (fin ts)):=by
 have key:∀(es:List (Int×Int)) (i:Nat) (ts:List XT) (k:Nat),e.drop i=es->i=lT ts->ts.length<=12->i<=e.length->es.length<k->
   fQ f k (g ts)=some (match xN i es ts with| .inl x=> .inr (rt x)| .inr ts=> .inl (fin ts)):=by
  intro es;induction es with
  |nil=>
   intro i ts k hd hi hl hle hk;obtain⟨k,rfl⟩:∃k',k=k' +1:=⟨k -1,l9⟩;have:i=e.length:=by have:=congrArg List.length hd;simp at this;omega
   unfold fQ;rw[hend ts l9];rfl
  |cons n es ih=>
   intro i ts k hd hi hl hle hk;obtain⟨k,rfl⟩:∃k',k=k' +1:=⟨k -1,l9⟩;have hn:e[i]? =some n:=by
    have:(e.drop i)[0]? =some n:=by rw[hd];rfl
    simpa using this
   have hlt:=(aJ.1 hn).1;unfold fQ;rw[hs i n ts hn hi hl];unfold xN;cases hp:push n ts with
   |inl c=>rfl|inr ts' =>
    simp only;by_cases h12:12<ts'.length
    .rw[if_pos h12,if_pos h12]
    .rw[if_neg h12,if_neg h12];exact ih (i+1) ts' k (by rw[←lX,hd];rfl) (by rw[Ll hp,hi]) l9 l9 (by simp at hk;omega)
 exact key e 0 [] au rfl rfl x8 l9 (by unfold au;omega)
theorem a1h:∀(p r:List XT),∃X,uQ (p++r)=uQ r++X/\X.length=p.length/\(p≠[]->X.head?=some (lT r:Int))
 |[],r=>⟨[],x8,rfl,λh=>absurd rfl h⟩|a::p,r=>by
  obtain⟨X,h1,h2,h3⟩:=a1h p r;refine⟨X++[(lT (p++r):Int)],?_,by grind,λ_=>?_⟩
  .simp_all [uQ]
  .cases p<;>simp_all
theorem a3x(p r:List XT)(k:Int)(hk:k=(p.length:Int))(h:p.length+r.length<=100)(hp:p≠[]):
  L6 .i64 (x9 (uQ (p++r))) k=(r.length:Int)/\P8 (uQ (p++r)) (r.length:Int)=some (lT r:Int)/\jg (uQ (p++r)) (dV (r.length:Int))=some (lT r:Int)
  /\nK 0 (r.length:Int) (x9 (uQ (p++r)))=true/\lq (uQ (p++r)) (dV 0) (dV (r.length:Int))=uQ r:=by
 obtain⟨X,h1,h2,h3⟩:=a1h p r;have hl:(uQ (p++r)).length=r.length+p.length:=by simp_all [zQ]
 have hg:(uQ (p++r))[r.length]? =some (lT r:Int):=by simp_all [F7,List.head?_eq_getElem?]
 refine⟨?_,?_,?_,?_,?_⟩
 .grind [x9,bI,fP]
 .simp[O5,hg]
 .exact hg
 .grind [nK,x9]
 .show((uQ (p++r)).take r.length).drop 0=_;simp_all
theorem a5j(ts:List XT):J4 12 (x9 (uQ ts))=decide (12<ts.length):=by rw[show x9 (uQ ts)=((ts.length:Nat):Int) by simp[x9,zQ]];exact a5k 12 ts.length
theorem Ak{l:List α}(x:α)(h:l.length<=1000000):iy l [x]=some (l++[x]):=uM (by grind)
theorem Vh(ts:List XT)(k:Nat):J4 (x9 (uQ ts)) (k:Int)=decide (ts.length<k):=by simp[x9,zQ,a5k]
def Bz(e:List (Int×Int)):c5w×Int×Int:=match mJ e with| .inl x=>([],x)| .inr t=>(t.sts 0,0,0)
theorem a7t{e:List (Int×Int)}(h0:e.length≠0){K:c5w×Int×Int->c5w×Int×Int}(h48:¬48<e.length)
  {r:c5w×Int×Int} (h:∀ts,xN 0 e []= .inr ts->r=l7 (J4 1 (x9 (uQ ts))) ([],x9 e,4) (stR ts,0,0)) (hi:∀x,xN 0 e []= .inl x->r=([],x)):r=Bz e:=by
 unfold Bz mJ;rw[if_neg h48,if_neg h0];cases hp:xN 0 e []with
 |inl x=>simp_all|inr ts=>
  rw[h ts hp];have:=(Hz e 0 [] ts hp).2 (.inr (by simp_all));match ts,this with
  |[t],_=>simp[uQ,x9,J4,stR,lT]|a::b::ts,_=>rw[dE (by grind [x9,zQ])];rfl
def pd(l:c5w)(k:Nat):c5w:=l++List.replicate k 0
theorem a9L(l:c5w)(m:Nat):P8 (pd l (m+1)) (l.length:Int)=some 0:=by simp[O5,pd]
theorem b3m(l:c5w)(m:Nat):jg (pd l (m+1)) (dV (l.length:Int))=some 0:=by have:=a9L l m;exact this
theorem b6K(l:c5w)(m:Nat)(v:Int):mQ (pd l (m+1)) (dV (l.length:Int)) v=pd (l++[v]) m:=by show(l++List.replicate (m+1) 0).set l.length v=_;simp[jY,pd]
theorem TP(l:c5w)(m:Nat)(v w:Int):mQ (pd (l++[v]) m) (dV (l.length:Int)) w=pd (l++[w]) m:=by show(l++[v]++List.replicate m 0).set l.length w=_;simp[pd]
theorem Pg(l:c5w)(m:Nat)(v:Int):P8 (pd (l++[v]) m) (l.length:Int)=some v:=by simp[O5,pd]
theorem Ph(l:c5w)(m:Nat)(v:Int):jg (pd (l++[v]) m) (dV (l.length:Int))=some v:=by have:=Pg l m v;exact this
theorem Ir(e:List (Int×Int)):wP e=some (Bz e):=by
 unfold wP;by_cases h48:48<e.length
 .rw[dE (by simp[x9];omega),o7];unfold Bz mJ;rw[if_pos h48]
 by_cases h0:e.length=0
 .rw[Y0 (by simp[x9];omega),o6,O0 (by simp[x9,h0]),o7];unfold Bz mJ;rw[if_neg h48,if_pos h0]
 rw[Y0 (by simp[x9];omega),o6,J8 (by simp[x9];intro h;exact h0 (by simp[h])),o6];rw[show Ny (x9 e) (0:Int)=some (pd (stR []) (e.length -lT [])) by simp[Ny,x9,pd,stR,lT];omega,o9];refine V6 (a1Z e l9 (λts=>(pd (stR ts) (e.length -lT ts),uQ ts,(lT ts:Int))) (λts=>(pd (stR ts) (e.length -lT ts),uQ ts)) (λx=>(([]:c5w),x)) (λi n ts hn hi hl=>?_) (λts hsz=>?_)) ?_
 rotate_left 2
 .rw[←a7t h0 h48 (K:=id) (r:=match xN 0 e []with| .inl x=>([],x)| .inr ts=>l7 (J4 1 (x9 (uQ ts))) ([],x9 e,4) (stR ts,0,0)) (λts h=>by rw[h]) (λx h=>by rw[h])];cases hp:xN 0 e []with
  |inl x=>rfl|inr ts=>
   have:=(Hz e 0 [] ts hp).1;have hz:e.length -lT ts=0:=by have:=congrArg List.length this;rw[Lh]at this;simp[MC]at this;omega
   simp only[o9,ae,hz,pd,List.replicate_zero,E9];cases J4 1 (x9 (uQ ts))<;>rfl
 .subst hi;have hlt:=(aJ.1 hn).1;have hst:=PQ ts;have hof:=zQ ts;obtain⟨m,hm⟩:∃m,e.length -lT ts=m+1:=⟨e.length -lT ts -1,l9⟩;simp only[U0 hn,o7,O5 e,hn,o9,a8h,hm];rw[←hst];simp only[a9L,b3m,o9,b6K,Pg,Ph,TP];rw[hst];rcases(Oi n.1).2.2 with h|h|h|h|h
  .rw[show push n ts= .inl 2 by simp[push,h],h];rfl
  .have e0:L6 .i64 (x9 (uQ ts)) 0=((uQ ts).length:Int):=by rw[bI (by unfold fP x9;omega)];simp[x9]
   rw[show push n ts= .inr (.l0 n::ts) by simp[push,h],h,Y0 l9,o6,Y0 (a0U _),o6,o6,e0,show nK 0 ((uQ ts).length:Int) (x9 (uQ ts))=true by simp[nK,x9],o7,
    show lq (uQ ts) (dV 0) (dV ((uQ ts).length:Int))=uQ ts by simp[lq,dV],Ak _ l9,o9,bY l9]
   rw[show uQ ts++[(lT ts:Int)]=uQ (.l0 n::ts)from rfl,a5j];by_cases hc:12<(XT.l0 n::ts).length
   .simp only[hc,decide_true,if_true,o7]
   .simp only[hc,decide_false,if_false,o6,lT,XT.size,stR,XT.sts,show e.length -(lT ts+1)=m by omega]
  .match ts with
   |[]=>rw[show push n []= .inl 5 by simp[push,h],h];rfl|a::r=>
    obtain⟨p1,p2,p3,p4,p5⟩:=a3x [a] r 1 rfl (by simp at hl ⊢;omega) x8;simp only[G9,G8]at p1 p2 p3 p4 p5;have:=PQ (a::r);have:=zQ r;simp only[A8]at hl;rw[show push n (a::r)= .inr (.l1 n a::r) by simp[push,h],h,Y0 l9,o6,show(1:Int)=((1:Nat):Int)from rfl,Vh,show decide ((a::r).length<1)=false by simp];simp only[Int.natCast_one]at p1 ⊢;rw[o6,dE l9,o7,p1,p2,o9,p3,o9,p4,o7,p5];rw[←hst]
    try simp only[TP,Pg,Ph,o9]
    rw[hst,Ak _ l9,o9,bY l9];rw[show uQ r++[(lT r:Int)]=uQ (.l1 n a::r)from rfl,a5j];have hz:=Ll (show push n (a::r)= .inr (.l1 n a::r) by simp[push,h]);by_cases hc:12<(XT.l1 n a::r).length
    .simp only[hc,decide_true,if_true,o7]
    .simp only[hc,decide_false,if_false,o6,hz,show e.length -(lT (a::r)+1)=m by omega,stR,XT.sts,E8]
  .match ts with
   |[]=>rw[show push n []= .inl 5 by simp[push,h],h];rfl|[a]=>rw[show push n [a]= .inl 5 by simp[push,h],h];rfl|b::a::r=>
    obtain⟨p1,p2,p3,p4,p5⟩:=a3x [b,a] r 2 rfl (by simp at hl ⊢;omega) x8;simp only[G9,G8]at p1 p2 p3 p4 p5;have:=PQ (b::a::r);have:=zQ r;simp only[A8]at hl;rw[show push n (b::a::r)= .inr (.l2 n a b::r) by simp[push,h],h,Y0 l9,o6,show(2:Int)=((2:Nat):Int)from rfl,Vh,show decide ((b::a::r).length<2)=false by simp];rw[o6,dE l9,o7,show((2:Nat):Int)=2 from rfl,p1,p2,o9,p3,o9,p4,o7,p5];rw[←hst]
    try simp only[TP,Pg,Ph,o9]
    rw[hst,Ak _ l9,o9,bY l9];rw[show uQ r++[(lT r:Int)]=uQ (.l2 n a b::r)from rfl,a5j];have hz:=Ll (show push n (b::a::r)= .inr (.l2 n a b::r) by simp[push,h]);by_cases hc:12<(XT.l2 n a b::r).length
    .simp only[hc,decide_true,if_true,o7]
    .rw[hz,show e.length -(lT (b::a::r)+1)=m by omega,show stR (.l2 n a b::r)=stR (b::a::r)++[(lT r:Int)] by simp only[stR,XT.sts,E8,lT]];simp only[hc,decide_false,if_false,o6]
  .match ts with
   |[]=>rw[show push n []= .inl 5 by simp[push,h],h];rfl|[a]=>rw[show push n [a]= .inl 5 by simp[push,h],h];rfl|[b,a]=>rw[show push n [b,a]= .inl 5 by simp[push,h],h];rfl|c::b::a::r=>
    obtain⟨p1,p2,p3,p4,p5⟩:=a3x [c,b,a] r 3 rfl (by simp at hl ⊢;omega) x8;simp only[G9,G8]at p1 p2 p3 p4 p5;have:=PQ (c::b::a::r);have:=zQ r;simp only[A8]at hl;rw[show push n (c::b::a::r)= .inr (.l3 n a b c::r) by simp[push,h],h,Y0 l9,o6,show(3:Int)=((3:Nat):Int)from rfl,Vh,show decide ((c::b::a::r).length<3)=false by simp];rw[o6,dE l9,o7,show((3:Nat):Int)=3 from rfl,p1,p2,o9,p3,o9,p4,o7,p5];rw[←hst]
    try simp only[TP,Pg,Ph,o9]
    rw[hst,Ak _ l9,o9,bY l9];rw[show uQ r++[(lT r:Int)]=uQ (.l3 n a b c::r)from rfl,a5j];have hz:=Ll (show push n (c::b::a::r)= .inr (.l3 n a b c::r) by simp[push,h]);by_cases hc:12<(XT.l3 n a b c::r).length
    .simp only[hc,decide_true,if_true,o7]
    .rw[hz,show e.length -(lT (c::b::a::r)+1)=m by omega,show stR (.l3 n a b c::r)=stR (c::b::a::r)++[(lT r:Int)] by simp only[stR,XT.sts,E8,lT]];simp only[hc,decide_false,if_false,o6]
 .simp only[hsz,Y1];rfl
end Go.GP
namespace Go.GP
open Gt
set_option maxRecDepth 100000
def VT(t:Int×Int):Prop:=t=(1,0)\/t=(2,0)\/t=(3,0)\/t=(4,0)\/t=(5,0)\/∃e,t=(6,e)
theorem Kw{t:Int×Int}{en:List U2}(h:vty t en=true):VT t:=by
 grind [vty,o6,o7,eF,iM,VT]
def EN(n:Int×Int)(ops:List (Int×Int))(sg:O8):Option ((Int×Int)×Int):=
 l7 (I5 (D8 n.2 0)) (o5 (dw n.1) λu=>l7 (I5 u) (some ((0,0),2)) (bi n ops sg)) (bi n ops sg)
def uy(n:Int×Int)(ops:List (Int×Int))(sg:O8):Prop:=∃r:(Int×Int)×Int,xE n ops sg=some r/\EN n ops sg=some r/\(r.2=0->VT r.1)
variable {k:Int}
theorem VT.lit(h:1<=k/\k<=5):VT (k,0):=by
 grind [VT]
theorem TF(a b:Int):U7 a b= !J4 b a:=by
 grind [J4,U7]
theorem EO{α β:Type}(o:Option β)(f:α->Option β):o5 (o5 o λx=>some (Sum.inr x)) (λq=>dU q f λr=>some r)=o:=by cases o<;>rfl
theorem VT.enum(e:Int):VT (6,e):=.inr (.inr (.inr (.inr (.inr ⟨e,rfl⟩))))
theorem Eb{R E:Option ((Int×Int)×Int)}{c:Int}(hc:c≠0)(h1:R=some ((0,0),c))(h2:E=some ((0,0),c)):∃r:(Int×Int)×Int,R=some r/\E=some r/\(r.2=0->VT r.1):=⟨_,h1,h2,λh=>absurd h hc⟩
theorem nok{R E:Option ((Int×Int)×Int)}{t:Int×Int}(hv:VT t)(h1:R=some (t,0))(h2:E=some (t,0)):∃r:(Int×Int)×Int,R=some r/\E=some r/\(r.2=0->VT r.1):=⟨_,h1,h2,λ_=>hv⟩
def RR(a0:Int×Int)(a1:List (Int×Int))(a2:O8):Option ((Int×Int)×Int):=
 o5 (lM a0 a2) λ(x:Bool)=>l7 (I5 x) (some ((0,0),3)) (o5 (qg a0 a2) λ(x:Bool)=>l7 (I5 x) (some ((0,0),6))
  (l7 (D8 (x9 a1) 0) (o5 (oO a0 a2) λ(x:L9×Bool)=>l7 (I5 x.2) (some ((0,0),8)) (some (x.1,0)))
  (l7 (D8 (x9 a1) 1) (o5 (P8 a1 0) λ(x:L9)=>o5 (xF a0 x a2) λ(x:L9×Bool)=>l7 (I5 x.2) (some ((0,0),8)) (some (x.1,0)))
  (l7 (D8 (x9 a1) 2) (o5 (P8 a1 0) λ(x:L9)=>o5 (P8 a1 1) λ(x_1:L9)=>o5 (zW a0.1 x x_1) λ(x:L9×Bool)=>l7 (I5 x.2) (some ((0,0),8)) (some (x.1,0)))
  (o5 (P8 a1 1) λ(x:L9)=>o5 (P8 a1 0) λ(x_1:L9)=>l7 (D8 x_1.1 1) (o5 (P8 a1 1) λ(x_2:L9)=>o5 (P8 a1 2) λ(x_3:L9)=>
   l7 (I5 (qM (D8 x_2.1 x_3.1) (D8 x_2.2 x_3.2))) (some ((0,0),8)) (some (x,0))) (l7 (I5 false) (some ((0,0),8)) (some (x,0))))))))
theorem b9m(n:Int×Int)(ops:List (Int×Int))(sg:O8):xE n ops sg=l7 (I5 (D8 n.2 0)) (o5 (dZ n.1) λx=>l7 x (RR n ops sg) (some ((0,0),2))) (RR n ops sg):=by
 unfold xE;cases D8 n.2 0
 .cases dZ n.1 with
  |none=>rfl|some b=>cases b<;>rfl
 .rfl
theorem JI{op N:Int}{ops:List (Int×Int)}{sg:O8}(h1:dw op=some true)(h2:dZ op=some true)
  (h:∃r:(Int×Int)×Int,RR (op,N) ops sg=some r/\bi (op,N) ops sg=some r/\(r.2=0->VT r.1)):uy (op,N) ops sg:=by
 unfold uy;rw[b9m];unfold EN;rw[h1,h2];cases D8 N 0<;>exact h
theorem QC{op N:Int}{ops:List (Int×Int)}{sg:O8}(h1:dw op=some false)(h2:dZ op=some false)
  (h:∃r:(Int×Int)×Int,RR (op,0) ops sg=some r/\bi (op,0) ops sg=some r/\(r.2=0->VT r.1)):uy (op,N) ops sg:=by
 unfold uy;rw[b9m];unfold EN;cases hz:D8 N 0<;>simp_all [eF]
section
variable (N:Int) (sg:O8)
theorem a9u(hk:k=1\/k=2\/k=3\/k=4\/k=5):uy (k,N) [] sg:=by
 have hv:vty (k,0) sg.1=true:=by rcases hk with rfl|rfl|rfl|rfl|rfl<;>rfl
 have hm:dw k=some true/\dZ k=some true:=by rcases hk with rfl|rfl|rfl|rfl|rfl<;>exact⟨rfl,rfl⟩
 refine JI hm.1 hm.2 ?_;have key:bi (k,N) [] sg=kQ N k sg:=by rcases hk with rfl|rfl|rfl|rfl|rfl<;>exact EO _ _
 have key2:RR (k,N) [] sg=o5 (o5 (di (k,0) sg.1) λ(x:L9)=>l7 (U7 x.1 N) (some (U7 N x.2)) (some false)) λ(x:Bool)=>l7 (I5 x) (some ((0,0),3)) (some ((k,0),0)):=by rcases hk with rfl|rfl|rfl|rfl|rfl<;>rfl
 rw[key,key2];unfold kQ;rw[CY,NJ,o9,o9,EF,EF];cases U7 (bnd (k,0) sg.1).1 N
 .simp
 cases U7 N (bnd (k,0) sg.1).2
 .simp
 .exact nok (Kw hv) rfl rfl
theorem a7g(hN:fP N):uy (6,N) [] sg:=by
 have hq:0<=N->dh .i64 N 16=N / 16:=λh=>by rw[OD (by grind [fP]),uk h]
 refine JI rfl rfl ?_;have hf:qg (6,N) sg=l7 (J4 (dh .i64 N 16) (x9 sg.1)) (o5 (P8 sg.1 (dh .i64 N 16)) λ(x:U2)=>some (J4 (iE N 16) (x9 x.2))) (some false):=rfl;have hl:oO (6,N) sg=some ((6,dh .i64 N 16),vty (6,dh .i64 N 16) sg.1):=by unfold oO;simp[nR];rfl
 rw[show bi (6,N) [] sg=Bi N sg from EO _ _];unfold RR Bi;rw[hf,show lM (6,N) sg=some (U7 0 N)from rfl,hl];by_cases h0:0<=N
 .rw[Y0 h0,Y7 h0,hq h0];by_cases h1:N / 16<x9 sg.1
  .obtain⟨x,hx,_⟩:=tH l9 h1;rw[dE h1,dA h1,hx,show vty (6,N / 16) sg.1=true by unfold vty;simp[Y7 (show 0<=N / 16 by omega),dE h1];rfl];simp only[o9,EF];cases U7 (x9 x.2) (iE N 16)
   .exact nok (VT.enum (N / 16)) rfl rfl
   .simp
  simp_all [Y0,Y7]
 simp_all [dE,dA]
theorem qU(ts:List (Int×Int))(en:O8):(∃x,P8 ts N=some x/\U7 0 N=true/\J4 N (x9 ts)=true/\kG N ts en=some (l7 (vty x en.1) (x,0) ((0,0),8)))\/((U7 0 N=false\/U7 0 N=true/\J4 N (x9 ts)=false)/\kG N ts en=some ((0,0),6)):=by
 unfold kG;rw[EF N 0,TF (x9 ts) N];cases h0:U7 0 N
 .exact .inr ⟨.inl x8,rfl⟩
 cases h1:J4 N (x9 ts)
 .exact .inr ⟨.inr x8,rfl⟩
 rw[iM]at h0;rw[wz]at h1;obtain⟨x,hx,_⟩:=tH h0 h1;rw[hx];simp only[qF,Bool.not_false,o6,o7,o9,rU];exact .inl ⟨x,rfl,x8,x8,by cases vty x en.1<;>rfl⟩
theorem b2W:uy (7,N) [] sg:=by
 refine JI rfl rfl ?_;rw[show bi (7,N) [] sg=kG N sg.2.2.1 sg from EO _ _];have hf:qg (7,N) sg=l7 (U7 0 N) (some (J4 N (x9 sg.2.2.1))) (some false):=rfl;unfold RR;rw[hf,show lM (7,N) sg=some true from rfl];rcases qU N sg.2.2.1 sg with⟨x,h1,h2,h3,h4⟩|⟨h1|⟨h1,h2⟩,h4⟩
 .have hl:oO (7,N) sg=some (x,vty x sg.1):=by
   unfold oO;rw[h1];simp[nR];rfl
  rw[h2,h3,h4,hl];cases hv:vty x sg.1
  .exact Eb C9 rfl rfl
  .exact nok (Kw hv) rfl rfl
 all_goals simp_all
theorem a9t:uy (8,N) [] sg:=by
 refine JI rfl rfl ?_;rw[show bi (8,N) [] sg=kG N sg.2.2.2.1 sg from EO _ _];have hf:qg (8,N) sg=l7 (U7 0 N) (some (J4 N (x9 sg.2.2.2.1))) (some false):=rfl;unfold RR;rw[hf,show lM (8,N) sg=some true from rfl];rcases qU N sg.2.2.2.1 sg with⟨x,h1,h2,h3,h4⟩|⟨h1|⟨h1,h2⟩,h4⟩
 .have hl:oO (8,N) sg=some (x,vty x sg.1):=by
   unfold oO;rw[h1];simp[nR];rfl
  rw[h2,h3,h4,hl];cases hv:vty x sg.1
  .exact Eb C9 rfl rfl
  .exact nok (Kw hv) rfl rfl
 all_goals simp_all
theorem a7f:uy (9,N) [] sg:=QC rfl rfl (nok (VT.lit l9) rfl rfl)
theorem a3m:uy (35,N) [] sg:=by
 refine QC rfl rfl ?_;rw[show bi (35,0) [] sg=qW (35,0) sg from EO _ _];unfold RR qW;simp only[lM,qg,oO,nR,o9];cases sg.2.2.2.2.2
 .exact Eb C9 rfl rfl
 .exact nok (VT.lit l9) rfl rfl
theorem a9v(hk:k=36\/k=37\/k=38\/k=39):uy (k,N) [] sg:=by
 have hm:dw k=some true/\dZ k=some true/\D8 k 35=false:=by rcases hk with rfl|rfl|rfl|rfl<;>exact⟨rfl,rfl,rfl⟩
 refine JI hm.1 hm.2.1 ?_;rw[show bi (k,N) [] sg=qW (k,N) sg by rcases hk with rfl|rfl|rfl|rfl<;>exact EO _ _];have hr:RR (k,N) [] sg=o5 (l7 sg.2.2.2.2.2 (l7 (U7 0 N) (some (J4 N (x9 sg.2.2.2.2.1))) (some false)) (some false)) λ(x:Bool)=>l7 (I5 x) (some ((0,0),6))
   (o5 (oO (k,N) sg) λ(x:L9×Bool)=>l7 (I5 x.2) (some ((0,0),8)) (some (x.1,0))):=by rcases hk with rfl|rfl|rfl|rfl<;>rfl
 rw[hr];unfold qW;rw[hm.2.2];cases sg.2.2.2.2.2
 .simp
 rcases qU N sg.2.2.2.2.1 sg with⟨x,h1,h2,h3,h4⟩|⟨h1|⟨h1,h2⟩,h4⟩
 .rw[h2,h3,h4];have hl:oO (k,N) sg=o5 (some (l7 (D8 k 36) (l7 (vty x sg.1) (l7 (D8 x.1 2) true (D8 x.1 3)) false) (l7 (D8 k 39) (l7 (vty x sg.1) (l7 (D8 x.1 2) true (l7 (D8 x.1 3) true (l7 (D8 x.1 4) true (D8 x.1 5)))) false) (l7 (vty x sg.1) (D8 x.1 1) false)))) λb=>some (x,b):=by
   unfold oO;simp[nR,vM,zX];rcases hk with rfl|rfl|rfl|rfl<;>(rw[h1];simp[D8,Int.reduceEq,decide_true,decide_false,o7,o6,o9];cases vty x sg.1<;>cases decide (x.1=2)<;>cases decide (x.1=3)<;>cases decide (x.1=4)<;>rfl)
  rw[hl];cases hv:vty x sg.1
  .rcases hk with rfl|rfl|rfl|rfl<;>exact Eb C9 rfl rfl
  .have hx:=Kw hv;rcases hk with rfl|rfl|rfl|rfl<;>rcases hx with rfl|rfl|rfl|rfl|rfl|⟨e,rfl⟩ <;>
    first
    |exact nok (Kw hv) rfl rfl
    |exact Eb C9 rfl rfl
 .rw[h1,h4];exact Eb C9 rfl rfl
 .rw[h1,h2,h4];exact Eb C9 rfl rfl
end
end Go.GP
namespace Go.GP
open Gt
set_option maxRecDepth 100000
variable {a:Int×Int}{k:Int}{b:Int×Int}
section
variable (N:Int) (sg:O8)
theorem b2X(hk:k=10\/k=25\/k=31\/k=32)(ha:VT a):uy (k,N) [a] sg:=by
 have hm:dw k=some false/\dZ k=some false:=by rcases hk with rfl|rfl|rfl|rfl<;>exact⟨rfl,rfl⟩
 refine QC hm.1 hm.2 ?_;rcases hk with rfl|rfl|rfl|rfl<;>rcases ha with rfl|rfl|rfl|rfl|rfl|⟨e,rfl⟩ <;>
  first
  |exact nok (VT.lit l9) rfl rfl
  |exact nok (VT.lit l9) rfl rfl
  |exact nok (VT.lit l9) rfl rfl
  |exact nok (VT.lit l9) rfl rfl
  |exact Eb C9 rfl rfl
theorem a9s(hk:k=13\/k=23\/k=24\/k=27\/k=28\/k=29\/k=30)(ha:VT a)(hb:VT b):uy (k,N) [a,b] sg:=by
 have hm:dw k=some false/\dZ k=some false:=by rcases hk with rfl|rfl|rfl|rfl|rfl|rfl|rfl<;>exact⟨rfl,rfl⟩
 refine QC hm.1 hm.2 ?_;rcases hk with rfl|rfl|rfl|rfl|rfl|rfl|rfl<;>rcases ha with rfl|rfl|rfl|rfl|rfl|⟨e,rfl⟩<;>rcases hb with rfl|rfl|rfl|rfl|rfl|⟨f,rfl⟩ <;>
  first
  |exact Eb C9 rfl rfl
  |exact nok (VT.lit l9) rfl rfl
  |exact nok (VT.lit l9) rfl rfl
  |exact nok (VT.lit l9) rfl rfl
  |exact nok (VT.lit l9) rfl rfl
  |exact nok (VT.lit l9) rfl rfl
theorem a7h(hk:k=14\/k=15\/k=16)(ha:VT a)(hb:VT b):uy (k,N) [a,b] sg:=by
 have hm:dw k=some true/\dZ k=some true:=by rcases hk with rfl|rfl|rfl<;>exact⟨rfl,rfl⟩
 refine JI hm.1 hm.2 ?_;have hr:RR (k,N) [a,b] sg=o5 (l7 (U7 0 N) (some (U7 N 5)) (some false)) λx=>l7 (I5 x) (some ((0,0),3)) (o5 (zW k a b) λx=>l7 (I5 x.2) (some ((0,0),8)) (some (x.1,0))):=by rcases hk with rfl|rfl|rfl<;>rfl
 have he:bi (k,N) [a,b] sg=o5 (l7 (U7 0 N) (some (U7 N 5)) (some false)) λx=>l7 (I5 x) (some ((0,0),3)) (o5 (oM k [a,b]) λx=>l7 (I5 x.2) (some ((0,0),8)) (some (x.1,0))):=by
  rcases hk with rfl|rfl|rfl <;>
   (show o5 (o5 (nT N) λx=>l7 (I5 x) (some (Sum.inr (((0:Int),(0:Int)),(3:Int)))) (some (.inl ((0:Int),(0:Int))))) _=_
    unfold nT;cases U7 0 N<;>cases U7 N 5<;>rfl)
 rw[hr,he];cases U7 0 N
 .simp
 cases U7 N 5
 .simp
 rcases hk with rfl|rfl|rfl<;>rcases ha with rfl|rfl|rfl|rfl|rfl|⟨e,rfl⟩<;>rcases hb with rfl|rfl|rfl|rfl|rfl|⟨f,rfl⟩ <;>
  first
  |exact Eb C9 rfl rfl
  |exact nok (VT.lit l9) rfl rfl
  |exact nok (VT.lit l9) rfl rfl
  |exact nok (VT.lit l9) rfl rfl
theorem a7i(hk:k=11\/k=12\/k=17\/k=18\/k=19\/k=20\/k=21\/k=22)(ha:VT a):uy (k,N) [a,b] sg:=by
 have hm:dw k=some false/\dZ k=some false:=by rcases hk with rfl|rfl|rfl|rfl|rfl|rfl|rfl|rfl<;>exact⟨rfl,rfl⟩
 refine QC hm.1 hm.2 ?_;have hr:RR (k,0) [a,b] sg=o5 (zW k a b) λx=>l7 (I5 x.2) (some ((0,0),8)) (some (x.1,0)):=by rcases hk with rfl|rfl|rfl|rfl|rfl|rfl|rfl|rfl<;>rfl
 have he:bi (k,0) [a,b] sg=o5 (oM k [a,b]) λx=>l7 (I5 x.2) (some ((0,0),8)) (some (x.1,0)):=by rcases hk with rfl|rfl|rfl|rfl|rfl|rfl|rfl|rfl<;>rfl
 rw[hr,he];unfold zW oM;simp only[show P8 [a,b] 0=some a from rfl,show P8 [a,b] 1=some b from rfl,o9,zX,vM,jI,pX];cases h1:D8 a.1 b.1
 .rcases hk with rfl|rfl|rfl|rfl|rfl|rfl|rfl|rfl<;>exact Eb C9 rfl rfl
 cases h2:D8 a.2 b.2
 .rcases hk with rfl|rfl|rfl|rfl|rfl|rfl|rfl|rfl<;>exact Eb C9 rfl rfl
 have ha' :=ha;rcases hk with rfl|rfl|rfl|rfl|rfl|rfl|rfl|rfl<;>rcases ha with rfl|rfl|rfl|rfl|rfl|⟨e,rfl⟩ <;>
  first
  |exact nok ha' rfl rfl
  |exact nok (VT.lit l9) rfl rfl
  |exact Eb C9 rfl rfl
theorem b2V{a b c:Int×Int}(ha:VT a)(hb:VT b):uy (26,N) [a,b,c] sg:=by
 refine QC rfl rfl ?_;have hr:RR (26,0) [a,b,c] sg=l7 (D8 a.1 1) (l7 (I5 (qM (D8 b.1 c.1) (D8 b.2 c.2))) (some ((0,0),8)) (some (b,0))) (some ((0,0),8)):=rfl;have he:bi (26,0) [a,b,c] sg=o5 (oM 26 [a,b,c]) λx=>l7 (I5 x.2) (some ((0,0),8)) (some (x.1,0)):=rfl;have he2:oM 26 [a,b,c]=o5 (l7 (D8 a.1 1) (some (Sum.inr (b,qM (D8 b.1 c.1) (D8 b.2 c.2)))) (some (Sum.inr (b,false)))) λ(o:L9⊕L9×Bool)=>dU o (λ(x:L9)=>some ((0,0),false)) λ(r:L9×Bool)=>some r:=rfl;rw[hr,he,he2];cases D8 a.1 1
 .simp
 cases D8 b.1 c.1
 .exact Eb C9 rfl rfl
 cases D8 b.2 c.2
 .exact Eb C9 rfl rfl
 .exact nok hb rfl rfl
theorem a1e(ha:VT a):uy (33,N) [a] sg:=by
 refine JI rfl rfl ?_;have he:bi (33,N) [a] sg=sW (33,N) a sg:=EO _ _;have hr:RR (33,N) [a] sg=o5 (l7 (U7 0 N) (some (J4 N (x9 sg.2.1))) (some false)) λx=>l7 (I5 x) (some ((0,0),6)) (o5 (xF (33,N) a sg) λx=>l7 (I5 x.2) (some ((0,0),8)) (some (x.1,0))):=rfl;have hs:xF (33,N) a sg=o5 (P8 sg.2.1 N) λ(x:aP)=>o5 (aN x.2.1 sg.1) λ(x_1:Bool)=>l7 x_1 (o5 (aN x.2.2.1 sg.1) λ(x_2:Bool)=>l7 x_2 (some (x.2.2.1,qM (D8 a.1 x.2.1.1) (D8 a.2 x.2.1.2))) (some (x.2.2.1,false))) (some (x.2.2.1,false)):=rfl;rw[he,hr,hs];unfold sW;simp only[D8,Int.reduceEq,decide_false,o6,o9,ae,EF N 0,TF (x9 sg.2.1) N];cases h0:U7 0 N
 .simp
 cases h1:J4 N (x9 sg.2.1)
 .simp
 rw[iM]at h0;rw[wz]at h1;obtain⟨x,hx,_⟩:=tH h0 h1;simp only[o9,ae,qF,o6,hx,rU,nR,af,o7];cases vty x.2.1 sg.1
 .simp
 cases hv:vty x.2.2.1 sg.1
 .simp
 cases qM (decide (a.1=x.2.1.1)) (decide (a.2=x.2.1.2))
 .simp
 .exact nok (Kw hv) rfl rfl
theorem Xn(hN:fP N)(ha:VT a):uy (34,N) [a] sg:=by
 refine JI rfl rfl ?_;have he:bi (34,N) [a] sg=sW (34,N) a sg:=EO _ _;have hr:RR (34,N) [a] sg=o5 (l7 (U7 0 N) (some (U7 (iE N 8) 5)) (some false)) λx=>l7 (I5 x) (some ((0,0),3)) (l7 (I5 (J4 (dh .i64 N 8) (x9 sg.2.1))) (some ((0,0),6)) (o5 (xF (34,N) a sg) λx=>l7 (I5 x.2) (some ((0,0),8)) (some (x.1,0)))):=rfl;have hs:xF (34,N) a sg=o5 (P8 sg.2.1 (dh .i64 N 8)) λ(x:aP)=>l7 (D8 a.1 3) (l7 (qM (D8 x.2.1.1 3) (D8 x.2.1.2 0)) (some (a,qM (D8 x.2.2.1.1 4) (D8 x.2.2.1.2 0))) (some (a,false))) (some (a,false)):=rfl;rw[he,hr,hs];unfold sW nT;by_cases h0:0<=N
 case neg=>rw[dA l9,dE (show N<0 by omega)];exact Eb C9 rfl rfl
 have hq:dh .i64 N 8=N / 8:=by rw[OD (by grind [fP]),uk h0]
 rw[Y7 h0,Y0 h0,hq,BD h0];simp only[D8,Int.reduceEq,decide_true,o7,o6,Y7 (show 0<=N % 8 by omega),o9];cases U7 (N % 8) 5
 .simp
 simp only[F5,o6,o9,ae,Y0 (show 0<=N / 8 by omega),TF];cases h1:J4 (N / 8) (x9 sg.2.1)
 .simp
 rw[wz]at h1;obtain⟨x,hx,_⟩:=tH l9 h1;simp only[hx,qF,o6,o9,ae,rU,F5];obtain⟨nm,⟨k1,k2⟩,⟨v1,v2⟩,rows⟩:=x;by_cases hK:k1=3/\k2=0
 .obtain⟨rfl,rfl⟩:=hK;by_cases hV:v1=4/\v2=0
  .obtain⟨rfl,rfl⟩:=hV;rcases ha with rfl|rfl|rfl|rfl|rfl|⟨e,rfl⟩ <;>
    first
    |exact nok (VT.lit l9) rfl rfl
    |exact Eb C9 rfl rfl
  .have hE:vty (v1,v2) sg.1=true->v1≠4:=λhv h=>by
    subst h;rcases Kw hv with h|h|h|h|h|⟨e,h⟩<;>cases h;simp_all
   have hR:qM (decide (v1=4)) (decide (v2=0))=false:=by simp_all [qM]
   rw[hR];cases hv:vty (v1,v2) sg.1
   .rcases ha with rfl|rfl|rfl|rfl|rfl|⟨e,rfl⟩<;>exact Eb (c:=8) C9 rfl rfl
   .rw[show decide (v1=4)=false by grind];rcases ha with rfl|rfl|rfl|rfl|rfl|⟨e,rfl⟩<;>exact Eb C9 rfl rfl
 .have hR:qM (decide (k1=3)) (decide (k2=0))=false:=by
   simp_all [qM]
  rw[hR];cases hv:vty (k1,k2) sg.1
  .rcases ha with rfl|rfl|rfl|rfl|rfl|⟨e,rfl⟩<;>exact Eb C9 rfl rfl
  cases hw:vty (v1,v2) sg.1
  .rcases ha with rfl|rfl|rfl|rfl|rfl|⟨e,rfl⟩<;>exact Eb C9 rfl rfl
  have h3:k1≠3:=λh=>by subst h;rcases Kw hv with h|h|h|h|h|⟨e,h⟩<;>cases h;simp_all
  simp only[show decide (k1=3)=false by grind,F5,o6,o7,o9];cases qM (decide (a.1=k1)) (decide (a.2=k2))
  .cases decide (a.1=3)<;>exact Eb C9 rfl rfl
  .cases decide (a.1=3)<;>exact Eb C9 rfl rfl
theorem ZN(n:Int×Int)(hN:fP n.2)(ops:List (Int×Int))(hv:∀t∈ops,VT t)(hl:x9 ops=arF n.1):uy n ops sg:=by
 obtain⟨op,N⟩:=n;have hr:1<=op/\op<=39:=by
  grind [arF,ZY,x9]
 have hc:op=1\/op=2\/op=3\/op=4\/op=5\/op=6\/op=7\/op=8\/op=9\/op=10\/op=11\/op=12\/op=13\/op=14\/op=15\/op=16\/op=17\/op=18\/op=19\/op=20\/op=21\/op=22\/op=23\/op=24\/op=25\/op=26\/op=27\/op=28\/op=29\/op=30\/op=31\/op=32\/op=33\/op=34\/op=35\/op=36\/op=37\/op=38\/op=39:=l9;have L0:arF op=0->ops=[]:=λh=>by simp_all [x9]
 have L1:arF op=1->∃a,ops=[a]/\VT a:=λh=>by
  simp[x9]at hl;match ops,hl,hv with
  |[a],_,hv=>simp_all|[],hl,_=>simp_all|a::b::r,hl,_=>grind
 have L2:arF op=2->∃a b,ops=[a,b]/\VT a/\VT b:=λh=>by
  simp[x9]at hl;match ops,hl,hv with
  |[a,b],_,hv=>grind|[],hl,_=>simp_all|[a],hl,_=>simp_all|a::b::c::r,hl,_=>grind
 have L3:arF op=3->∃a b c,ops=[a,b,c]/\VT a/\VT b:=λh=>by
  simp[x9]at hl;match ops,hl,hv with
  |[a,b,c],_,hv=>grind|[],hl,_=>simp_all|[a],hl,_=>simp_all|[a,b],hl,_=>simp_all|a::b::c::d::r,hl,_=>grind
 rcases hc with rfl|rfl|rfl|rfl|rfl|rfl|rfl|rfl|rfl|rfl|rfl|rfl|rfl|rfl|rfl|rfl|rfl|rfl|rfl|rfl|rfl|rfl|rfl|rfl|rfl|rfl|rfl|rfl|rfl|rfl|rfl|rfl|rfl|rfl|rfl|rfl|rfl|rfl|rfl <;>
  first
  |(rw[L0 rfl];first|exact a9u N sg l9|exact a7g N sg hN|exact b2W N sg|exact a9t N sg|exact a7f N sg|exact a3m N sg|exact a9v N sg l9)
  |(obtain⟨a,rfl,ha⟩:=L1 rfl;first|exact b2X N sg l9 ha|exact a1e N sg ha|simp_all [Xn])
  |(obtain⟨a,b,rfl,ha,hb⟩:=L2 rfl;first|exact a9s N sg l9 ha hb|exact a7h N sg l9 ha hb|exact a7i N sg l9 ha)
  |(obtain⟨a,b,c,rfl,ha,hb⟩:=L3 rfl<;>simp_all [b2V])
end
end Go.GP
namespace Go.GP
open Gt
set_option maxRecDepth 100000
def XT.wf:XT->Prop
 | .l0 n=>arF n.1=0| .l1 n a=>arF n.1=1/\a.wf| .l2 n a b=>arF n.1=2/\a.wf/\b.wf| .l3 n a b c=>arF n.1=3/\a.wf/\b.wf/\c.wf
theorem b3r{n:Int×Int}{ts ts' :List XT}(h:push n ts= .inr ts')(hw:∀t∈ts,t.wf):∀t∈ts',t.wf:=by
 unfold push at h;split at h
 .cases h;intro t ht;rcases D7.1 ht with rfl|ht
  .assumption
  simp_all
 split at h
 .split at h
  .cases h;intro t ht;rcases D7.1 ht with rfl|ht
   .exact⟨l9,hw _ x8⟩
   simp_all
  grind
 split at h
 .split at h
  .cases h;intro t ht;rcases D7.1 ht with rfl|ht
   .exact⟨l9,hw _ x8,hw _ x8⟩
   simp_all
  grind
 split at h
 .split at h
  .cases h;intro t ht;rcases D7.1 ht with rfl|ht
   .exact⟨l9,hw _ x8,hw _ x8,hw _ x8⟩
   simp_all
  grind
 grind
theorem a1m:∀(es:List (Int×Int)) (i:Nat) (ts ts' :List XT),xN i es ts= .inr ts' ->(∀t∈ts,t.wf)->∀t∈ts',t.wf
 |[],i,ts,ts',h,hw=>by cases h;omega|n::es,i,ts,ts',h,hw=>by
  unfold xN at h;cases hp:push n ts with
  |inl c=>rw[hp]at h;cases h|inr t2=>
   rw[hp]at h;simp at h;split at h
   .cases h
   .exact a1m es (i+1) t2 ts' h (b3r hp hw)
variable {e:List (Int×Int)}
theorem Gx{t:XT}(h:mJ e= .inr t):t.wf:=by
 grind [mJ,a1m]
def a1B(n:Int×Int)(ops:List (Int×Int))(sg:O8):(Int×Int)×Int:=(xE n ops sg).getD ((0,0),0)
def Ed(sg:O8)(n:Int×Int)(ops:List (Int×Int))(i:Nat):(Int×Int)⊕(Int×Int):=if(a1B n ops sg).2=0 then .inr (a1B n ops sg).1 else .inl ((i:Int),(a1B n ops sg).2)
def lu(sg:O8):XT->Nat->(Int×Int)⊕(Int×Int)
 | .l0 n,o=>Ed sg n [] o
 | .l1 n a,o=>match lu sg a o with
  | .inl x=> .inl x| .inr ta=>Ed sg n [ta] (o+a.size)
 | .l2 n a b,o=>match lu sg a o with
  | .inl x=> .inl x
  | .inr ta=>match lu sg b (o+a.size)with
   | .inl x=> .inl x| .inr tb=>Ed sg n [ta,tb] (o+a.size+b.size)
 | .l3 n a b c,o=>match lu sg a o with
  | .inl x=> .inl x
  | .inr ta=>match lu sg b (o+a.size)with
   | .inl x=> .inl x
   | .inr tb=>match lu sg c (o+a.size+b.size)with
    | .inl x=> .inl x| .inr tc=>Ed sg n [ta,tb,tc] (o+a.size+b.size+c.size)
variable {t:Int×Int}
theorem BH{sg:O8}{n:Int×Int}{ops:List (Int×Int)}{i:Nat}(hN:fP n.2)(hv:∀t∈ops,VT t)(hl:x9 ops=arF n.1)(h:Ed sg n ops i= .inr t):VT t:=by obtain⟨r,h1,h2,h3⟩:=ZN sg n hN ops hv hl<;>grind [Ed,a1B]
section
variable (e:List (Int×Int)) (sg:O8) (z:Int×Int)
def b4A(f:(Int×Int)×List (Int×Int)×Int->Option (Out ((Int×Int)×List (Int×Int)×Int) ((Int×Int)×List (Int×Int)) ((Int×Int)×Int×Int))):Prop:=
 ∀(i:Nat) (n:Int×Int) (s ops:List (Int×Int)),e[i]? =some n->i<=100->x9 ops=arF n.1->(∀t∈ops,VT t)->s.length+ops.length<=100->
  f (z,s++ops,(i:Int))=some (match Ed sg n ops i with| .inl x=> .rt ((0,0),x)| .inr t=> .nx (z,s++[t],((i+1:Nat):Int)))
theorem a7S{f:(Int×Int)×List (Int×Int)×Int->Option (Out ((Int×Int)×List (Int×Int)×Int) ((Int×Int)×List (Int×Int)) ((Int×Int)×Int×Int))}
  (he:e.length<=48) (hI:∀n∈e,fP n.2) (hs:b4A e sg z f):∀(t:XT),t.wf->∀(pre suf s:List (Int×Int)) (k:Nat),e=pre++t.post++suf->s.length<=pre.length->
  fQ f (k+t.size) (z,s,(pre.length:Int))=(match lu sg t pre.length with| .inl x=>some (.inr ((0,0),x))| .inr r=>fQ f k (z,s++[r],((pre.length+t.size:Nat):Int)))/\∀r,lu sg t pre.length= .inr r->VT r:=by
 intro t;have step:∀(i k:Nat) (n:Int×Int) (s ops:List (Int×Int)),e[i]? =some n->x9 ops=arF n.1->(∀t∈ops,VT t)->s.length+ops.length<=100->
   fQ f (k+1) (z,s++ops,(i:Int))=(match Ed sg n ops i with| .inl x=>some (.inr ((0,0),x))| .inr r=>fQ f k (z,s++[r],((i+1:Nat):Int))):=by
  intro i k n s ops h1 h2 h3 h4;rw[fQ,hs i n s ops h1 (by have:=(aJ.1 h1).1;omega) h2 h3 h4];cases Ed sg n ops i<;>rfl
 have getn:∀(pre suf:List (Int×Int)) (n:Int×Int),e=pre++[n]++suf->e[pre.length]? =some n:=by intro pre suf n h;rw[h,E8,F7 l9,aT];rfl
 have mem:∀(i:Nat) (n:Int×Int),e[i]? =some n->fP n.2:=λi n h=>hI n (rD h);induction t with
 |l0 n=>
  intro hw pre suf s k hd hl;have hn:=getn pre suf n hd;have hlen:pre.length<e.length:=(aJ.1 hn).1;have hz:x9 ([]:List (Int×Int))=arF n.1:=by rw[show arF n.1=0 from hw];rfl
  have h:=step pre.length k n s [] hn hz x8 H7;rw[E9]at h;exact⟨h,λr hr=>BH (mem _ n hn) x8 hz hr⟩
 |l1 n a iha=>
  intro hw pre suf s k hd hl;simp only[XT.post,E8]at hd;have hpa:(pre++a.post).length=pre.length+a.size:=by simp[XT.post_len]
  have hn:=getn (pre++a.post) suf n (by simpa using hd);rw[hpa]at hn;have hlen:=(aJ.1 hn).1;obtain⟨i1,i2⟩:=iha hw.2 pre ([n]++suf) s (k+1) (by simpa using hd) hl;simp only[XT.size,lu];rw[show k+(a.size+1)=(k+1)+a.size by omega,i1];cases ht:lu sg a pre.length with
  |inl x=>exact⟨rfl,λr hr=>by cases hr⟩|inr ta=>
   have hz:x9 [ta]=arF n.1:=by rw[show arF n.1=1 from hw.1];rfl
   have hv:∀t∈[ta],VT t:=by simpa using i2 ta ht
   exact⟨step _ k n s [ta] hn hz hv H7,λr hr=>BH (mem _ n hn) hv hz hr⟩
 |l2 n a b iha ihb=>
  intro hw pre suf s k hd hl;simp only[XT.post,E8]at hd;have hpa:(pre++a.post).length=pre.length+a.size:=by simp[XT.post_len]
  have hpb:(pre++a.post++b.post).length=pre.length+a.size+b.size:=by simp[XT.post_len];omega
  have hn:=getn (pre++a.post++b.post) suf n (by simpa using hd);rw[hpb]at hn;have hlen:=(aJ.1 hn).1;obtain⟨i1,i2⟩:=iha hw.2.1 pre (b.post++[n]++suf) s (k+1+b.size) (by simpa using hd) hl;simp only[XT.size,lu];rw[show k+(a.size+b.size+1)=(k+1+b.size)+a.size by omega,i1];cases ht:lu sg a pre.length with
  |inl x=>exact⟨rfl,λr hr=>by cases hr⟩|inr ta=>
   have hsa:=a.size_pos;obtain⟨j1,j2⟩:=ihb hw.2.2 (pre++a.post) ([n]++suf) (s++[ta]) (k+1) (by simpa using hd) (by simp[XT.post_len];omega);rw[hpa]at j1 j2;simp only;rw[j1];cases hu:lu sg b (pre.length+a.size)with
   |inl x=>exact⟨rfl,λr hr=>by cases hr⟩|inr tb=>
    have hz:x9 [ta,tb]=arF n.1:=by rw[show arF n.1=2 from hw.1];rfl
    have hv:∀t∈[ta,tb],VT t:=by simp_all
    have:=step _ k n s [ta,tb] hn hz hv (by grind);simp only[E8,G9,G8];rw[show pre.length+(a.size+b.size+1)=pre.length+a.size+b.size+1 by omega];exact⟨this,λr hr=>BH (mem _ n hn) hv hz hr⟩
 |l3 n a b c iha ihb ihc=>
  intro hw pre suf s k hd hl;simp only[XT.post,E8]at hd;have hpa:(pre++a.post).length=pre.length+a.size:=by simp[XT.post_len]
  have hpb:(pre++a.post++b.post).length=pre.length+a.size+b.size:=by grind [XT.post_len]
  have hpc:(pre++a.post++b.post++c.post).length=pre.length+a.size+b.size+c.size:=by grind [XT.post_len]
  have hn:=getn (pre++a.post++b.post++c.post) suf n (by simp_all);rw[hpc]at hn;have hlen:=(aJ.1 hn).1;obtain⟨i1,i2⟩:=iha hw.2.1 pre (b.post++(c.post++([n]++suf))) s (k+1+c.size+b.size) (by simp_all) hl;simp only[XT.size,lu];rw[show k+(a.size+b.size+c.size+1)=(k+1+c.size+b.size)+a.size by omega,i1];have hsa:=a.size_pos;have hsb:=b.size_pos;cases ht:lu sg a pre.length with
  |inl x=>simp|inr ta=>
   obtain⟨j1,j2⟩:=ihb hw.2.2.1 (pre++a.post) (c.post++([n]++suf)) (s++[ta]) (k+1+c.size) (by simp_all) (by grind);rw[hpa]at j1 j2;simp only;rw[j1];cases hu:lu sg b (pre.length+a.size)with
   |inl x=>simp|inr tb=>
    obtain⟨q1,q2⟩:=ihc hw.2.2.2 (pre++a.post++b.post) ([n]++suf) (s++[ta]++[tb]) (k+1) (by simp_all) (by grind);rw[hpb]at q1 q2;simp only;rw[q1];cases hc:lu sg c (pre.length+a.size+b.size)with
    |inl x=>simp|inr tc=>
     have hz:x9 [ta,tb,tc]=arF n.1:=by rw[show arF n.1=3 from hw.1];rfl
     have hv:∀t∈[ta,tb,tc],VT t:=by simp_all
     have:=step _ k n s [ta,tb,tc] hn hz hv (by grind);simp only[E8,G9,G8];rw[show pre.length+(a.size+b.size+c.size+1)=pre.length+a.size+b.size+c.size+1 by omega];exact⟨this,λr hr=>BH (mem _ n hn) hv hz hr⟩
end
def yA(e:List (Int×Int))(sg:O8):(Int×Int)×Int×Int:=match mJ e with
 | .inl x=>((0,0),x)
 | .inr t=>match lu sg t 0 with
  | .inl x=>((0,0),x)| .inr r=>(r,0,0)
variable {α:Type}
theorem a4u(s ops:List α)(k:Int)(hk:x9 ops=k)(h:s.length+ops.length<=100):
  L6 .i64 (x9 (s++ops)) k=(s.length:Int)/\nK (s.length:Int) (x9 (s++ops)) (x9 (s++ops))=true/\lq (s++ops) (dV (s.length:Int)) (dV (x9 (s++ops)))=ops
  /\nK 0 (s.length:Int) (x9 (s++ops))=true/\lq (s++ops) (dV 0) (dV (s.length:Int))=s:=by
 refine⟨?_,?_,?_,?_,?_⟩
 .grind [bI,fP,x9]
 .grind [nK,x9]
 .show((s++ops).take (((s++ops).length:Nat):Int).toNat).drop s.length=ops
  grind [Int.toNat_natCast]
 .grind [nK,x9]
 simp[lq,dV]
theorem a4t{sg:O8}{f:(Int×Int)×List (Int×Int)×Int->Option (Out ((Int×Int)×List (Int×Int)×Int) ((Int×Int)×List (Int×Int)) ((Int×Int)×Int×Int))}
  (hI:∀n∈e,fP n.2) (hs:b4A e sg (0,0) f) (hend:∀s,f ((0,0),s,(e.length:Int))=some (.ex ((0,0),s))) (hcode:∀x,mJ e= .inl x->x.2≠0):
  l7 (I5 (D8 (Bz e).2.2 0)) (some ((((0:Int),(0:Int)),(Bz e).2):(Int×Int)×Int×Int)) (o5 (X5 f (((0:Int),(0:Int)),([]:List (Int×Int)),(0:Int))) λ(o:(Int×Int)×List (Int×Int)⊕(Int×Int)×Int×Int)=>
   dU o (λ(y:(Int×Int)×List (Int×Int))=>o5 (P8 y.2 0) λ(x:Int×Int)=>o5 (jg y.2 (dV 0)) λ(x:Int×Int)=>some (x,0,0)) λ(r:(Int×Int)×Int×Int)=>some r)=some (yA e sg):=by
 unfold Bz yA;cases h:mJ e with
 |inl x=>simp_all [J8]|inr t=>
  obtain⟨hp,h48⟩:=qi h;have hw:=Gx h;obtain⟨l1,_⟩:=a7S e sg (0,0) h48 hI hs t hw [] [] [] (au -t.size) (by simp_all) x8;have hsz:e.length=t.size:=by rw[hp,XT.post_len]
  have hlo:X5 f (((0:Int),(0:Int)),([]:List (Int×Int)),(0:Int))=fQ f (au -t.size+t.size) ((0,0),[],(([]:List (Int×Int)).length:Int)):=by
   grind [X5,au]
  rw[hlo,l1];simp;cases lu sg t 0 with
  |inl x=>rfl|inr r=>obtain⟨k,hk⟩:∃k,au -t.size=k+1:=⟨au -t.size -1,by grind [au]⟩;simp;rw[hk,fQ,←hsz,hend];rfl
theorem zk{x:Int×Int}(h:mJ e= .inl x):x.2≠0:=by
 have key:∀(es:List (Int×Int)) (i:Nat) (ts:List XT) (x:Int×Int),xN i es ts= .inl x->x.2≠0:=by
  intro es;induction es with
  |nil=>intro i ts x h;cases h|cons n es ih=>
   intro i ts x h;unfold xN at h;cases hp:push n ts with
   |inl c=>rw[hp]at h;unfold push at hp<;>grind|inr t2=>
    grind
 grind [mJ]
theorem a7R(sg:O8)(hI:∀n∈e,fP n.2):EC e sg=some (yA e sg):=by
 unfold EC;rw[Ir,o9];refine a4t hI (λi n s ops hn hi2 hl hv hlen=>?_) (λs=>?_) (λx h=>zk h)
 .obtain⟨r,h1,h2,h3⟩:=ZN sg n (hI n (rD hn)) ops hv hl;obtain⟨v1,v2,v3,v4,v5⟩:=a4u s ops _ hl hlen;have e' :a1B n ops sg=r:=by simp_all [a1B]
  have hi:=(aJ.1 hn).1;simp only[U0 hn,o7,O5,hn,o9,a8h,v1,v2,v3,v4,v5];unfold Ed;rw[e'];unfold EN at h2;have fin:bi n ops sg=some r->(o5 (bi n ops sg) λ(x_3:L9×Int)=>l7 (I5 (D8 x_3.2 0)) (some (Out.rt ((((0:Int),(0:Int)),((i:Int),x_3.2)):(Int×Int)×Int×Int)))
    (o5 (iy s [x_3.1]) λ(x_4:List L9)=>some (Out.nx (((0:Int),(0:Int)),x_4,I8 .i64 (i:Int) 1))))=
    some (match if r.2=0 then(.inr r.1:(Int×Int)⊕(Int×Int))else .inl ((i:Int),r.2)with| .inl x=>Out.rt ((0,0),x)| .inr t=>(Out.nx ((0,0),s++[t],((i+1:Nat):Int)):Out ((Int×Int)×List (Int×Int)×Int) ((Int×Int)×List (Int×Int)) ((Int×Int)×Int×Int))):=by
   intro hr;rw[hr,o9];by_cases h0:r.2=0
   .grind [O0,F5,o6,Ak,o9,bY]
   simp_all [J8]
  cases hz:D8 n.2 0
  .rw[hz]at h2;simp[af,o7]at h2 ⊢;cases hu:dw n.1 with
   |none=>simp_all|some u=>
    rw[hu]at h2;simp only[o9]at h2 ⊢;cases u
    .grind [af,o7]
    simp_all
  simp_all
 simp[Y1]
section
variable {α β σ ε ρ:Type}
theorem Nu(l:List α)(G:β->α->β)(mk:β->Int->σ)(fin:β->ε)(Inv:Nat->β->Prop){f:σ->Option (σ⊕ε)}{b:β}(hl:l.length<=1000000)(h0:Inv 0 b)
  (hin:∀(i:Nat) (a:α) (b:β),l[i]? =some a->i<=1000000->Inv i b->f (mk b (i:Int))=some (.inl (mk (G b a) ((i+1:Nat):Int)))/\Inv (i+1) (G b a))
  (hend:∀b,Inv l.length b->f (mk b (l.length:Int))=some (.inr (fin b))):
  fF f (mk b 0)=some (fin (l.foldl G b))/\Inv l.length (l.foldl G b):=by
 have key:∀(n i:Nat) (b:β),i<=l.length->l.length -i<n->Inv i b->wW f n (mk b (i:Int))=some (fin ((l.drop i).foldl G b))/\Inv l.length ((l.drop i).foldl G b):=by
  intro n;induction n with
  |zero=>intro i b _ h _;omega|succ n ih=>
   intro i b hi hn hI;unfold wW;by_cases h:i<l.length
   .have e:=qC h;obtain⟨h1,h2⟩:=hin i _ b e l9 hI;rw[h1,jo h];exact ih (i+1) _ l9 l9 h2
   .have:i=l.length:=l9;subst this;rw[hend b hI,Aj];exact⟨rfl,hI⟩
 have:=key au 0 b l9 (by unfold au;omega) h0;exact this
theorem kL{γ:Type}(l:List α)(G:β->α->β)(mk:β->Int->σ)(fin:β->ε)(Inv:Nat->β->Prop)(b:β){f:σ->Option (σ⊕ε)}{K:ε->Option γ}{r:Option γ}(hl:l.length<=1000000)(h0:Inv 0 b)
  (hin:∀(i:Nat) (a:α) (b:β),l[i]? =some a->i<=1000000->Inv i b->f (mk b (i:Int))=some (.inl (mk (G b a) ((i+1:Nat):Int)))/\Inv (i+1) (G b a))
  (hend:∀b,Inv l.length b->f (mk b (l.length:Int))=some (.inr (fin b))) (hk:Inv l.length (l.foldl G b)->K (fin (l.foldl G b))=r):o5 (fF f (mk b 0)) K=r:=by
 obtain⟨h1,h2⟩:=Nu l G mk fin Inv hl h0 hin hend<;>simp_all
def ww(G:β->α->β⊕ρ):List α->β->β⊕ρ
 |[],b=> .inl b
 |a::l,b=>match G b a with| .inl b' =>ww G l b'| .inr r=> .inr r
theorem a3g(l:List α)(G:β->α->β⊕ρ)(mk:β->Int->σ)(fin:β->ε)(Inv:Nat->β->Prop){f:σ->Option (Out σ ε ρ)}{b:β}(hl:l.length<=1000000)(h0:Inv 0 b)
  (hin:∀(i:Nat) (a:α) (b:β),l[i]? =some a->i<=1000000->Inv i b->f (mk b (i:Int))=some (match G b a with| .inl b' => .nx (mk b' ((i+1:Nat):Int))| .inr r=> .rt r)/\∀b',G b a= .inl b' ->Inv (i+1) b')
  (hend:∀b,Inv l.length b->f (mk b (l.length:Int))=some (.ex (fin b))):
  X5 f (mk b 0)=some (match ww G l b with| .inl b' => .inl (fin b')| .inr r=> .inr r)/\∀b',ww G l b= .inl b' ->Inv l.length b' :=by
 have key:∀(n i:Nat) (b:β),i<=l.length->l.length -i<n->Inv i b->fQ f n (mk b (i:Int))=some (match ww G (l.drop i) b with| .inl b' => .inl (fin b')| .inr r=> .inr r)/\∀b',ww G (l.drop i) b= .inl b' ->Inv l.length b' :=by
  intro n;induction n with
  |zero=>simp|succ n ih=>
   intro i b hi hn hI;unfold fQ;by_cases h:i<l.length
   .have e:=qC h
    grind [List.drop_eq_getElem_cons,ww]
   .have:i=l.length:=l9;subst this;rw[hend b hI,Aj];exact⟨rfl,λb' hb=>by cases hb;omega⟩
 have:=key au 0 b l9 (by grind [au]) h0;exact this
theorem Nw{γ:Type}(l:List α)(G:β->α->β⊕ρ)(mk:β->Int->σ)(fin:β->ε)(Inv:Nat->β->Prop)(b:β){f:σ->Option (Out σ ε ρ)}{K:ε⊕ρ->Option γ}{r:Option γ}(hl:l.length<=1000000)(h0:Inv 0 b)
  (hin:∀(i:Nat) (a:α) (b:β),l[i]? =some a->i<=1000000->Inv i b->f (mk b (i:Int))=some (match G b a with| .inl b' => .nx (mk b' ((i+1:Nat):Int))| .inr r=> .rt r)/\∀b',G b a= .inl b' ->Inv (i+1) b')
  (hend:∀b,Inv l.length b->f (mk b (l.length:Int))=some (.ex (fin b)))
  (hk:(∀b',ww G l b= .inl b' ->Inv l.length b')->K (match ww G l b with| .inl b' => .inl (fin b')| .inr r=> .inr r)=r):o5 (X5 f (mk b 0)) K=r:=by
 obtain⟨h1,h2⟩:=a3g l G mk fin Inv hl h0 hin hend<;>simp_all
end
def Xx(c:UInt8):Bool:=decide (32<=c.toNat)&&decide (c.toNat<=126)&&decide (c.toNat≠34)
def QY(s:c5v):Bool:=decide (s.length<=64)&&s.all Xx
theorem a5i(c:UInt8):∀s:c5v,decide (0<=Lib.indexByte s c)=s.any λx=>decide (x.toNat=c.toNat)
 |[]=>by simp[Lib.indexByte]|b::l=>by
  have ih:=a5i c l;have e:Lib.indexByte (b::l) c=if b=c then 0 else if Lib.indexByte l c=-1 then -1 else Lib.indexByte l c+1:=by simp[Lib.indexByte]
  by_cases h:b=c
  .simp_all
  .have h2:=λhh=>h (UInt8.toNat_inj.1 hh)
   grind
theorem b1E(c:UInt8):Xx c=(!J4 (c.toNat:Int) 32&&!J4 126 (c.toNat:Int)&&!D8 (c.toNat:Int) 34):=by
 grind [Xx,J4,D8]
theorem a4F(s:c5v)(p:UInt8->Bool):(∀(i:Nat) (a:UInt8),s[i]? =some a->p a=true)↔s.all p=true:=by rw[ax];exact⟨λh x hx=>by obtain⟨i,hi,rfl⟩:=bP hx;exact h i _ (qC hi),λh i a hi=>h a (rD hi)⟩
theorem WS{s:c5v}(h:s.length<=1000000):yu s=some (QY s):=by
 unfold yu;have h5:J4 64 (x9 s)= !decide (s.length<=64):=by grind [J4,x9]
 rw[h5,show xQ s [34]=some (s.any λx=>decide (x.toNat=(34:UInt8).toNat))from congrArg some (a5i 34 s)];unfold QY;cases decide (s.length<=64)
 .rfl
 simp only[qF,o6,o9,Bool.true_and];cases h34:s.any λx=>decide (x.toNat=(34:UInt8).toNat)
 case true=>
  obtain⟨x,hx,hx2⟩:=vX.1 h34;have:s.all Xx=false:=by
   grind [Xx]
  simp_all
 refine V6 (Yi s (λi a=>Xx a) false PUnit.unit _ l9 (λi x hx=>?_) ?_) ?_
 rotate_left 2
 .by_cases hw:s.all Xx=true
  .rw[if_pos ((a4F s Xx).2 hw),hw];rfl
  .rw[if_neg (λh=>hw ((a4F s Xx).1 h))];simp_all
 .have hi:=(aJ.1 hx).1;have hne:D8 (x.toNat:Int) 34=false:=by
   grind [J8]
  simp[U0 hx,o7,yx,hx,ah,o9];rw[bY l9,b1E,hne];cases J4 (x.toNat:Int) 32<;>cases J4 126 (x.toNat:Int)<;>rfl
 simp[Y1]
def Cj(e:List (Int×Int))(sg:O8)(t:Int×Int):Int:=l7 (D8 (yA e sg).2.2 0) (l7 (qM (D8 (yA e sg).1.1 t.1) (D8 (yA e sg).1.2 t.2)) 0 8) (yA e sg).2.2
theorem Oo(sg:O8)(t:Int×Int)(hI:∀n∈e,fP n.2):vJ e sg t=some (Cj e sg t):=by
 unfold vJ Cj;rw[a7R sg hI,o9];cases D8 (yA e sg).2.2 0
 .rfl
 cases qM (D8 (yA e sg).1.1 t.1) (D8 (yA e sg).1.2 t.2)<;>rfl
def a2n(r:U3):Prop:=r.1.length<=4611686018427387904/\r.2.2.2.2.2.2.2.length<=1000000/\(∀n∈r.2.2.2.2.2.1,fP n.2)/\(∀n∈r.2.2.2.2.2.2.1,fP n.2)
def a0q(rs:List U3)(d:Int):Nat:=rs.countP λo=>D8 o.2.1 d
def Jn(r:U3)(sg:O8)(t:Int×Int):Int:=
 l7 (J4 0 (x9 r.2.2.2.2.2.1)) (l7 (D8 (Cj r.2.2.2.2.2.1 sg (1,0)) 0) (Cj r.2.2.2.2.2.2.1 sg t) (Cj r.2.2.2.2.2.1 sg (1,0))) (Cj r.2.2.2.2.2.2.1 sg t)
def EP(s:H6)(sg:O8)(k:Nat)(r:U3):Int:=
 l7 (gq r.1) (l7 ((s.2.2.2.2.take k).any λx=>seq x.1 r.1) 7 (match P8 s.2.2.2.1 r.2.1 with
  |none=>6|some d=>l7 (l7 (D8 r.2.2.1 (-1)) false (l7 (J4 r.2.2.1 0) true (l7 (U7 k r.2.2.1) true (match P8 s.2.2.2.2 r.2.2.1 with|some q=>I5 (D8 q.2.1 r.2.1)|none=>true)))) 9
   (l7 (J4 r.2.2.2.1 0) 3 (l7 (J4 9 r.2.2.2.1) 3 (l7 (EZ r.2.2.2.2.1) (l7 (D8 r.2.2.2.2.1.1 r.2.2.2.2.1.2) 3
    (l7 (U7 8 (a0q (s.2.2.2.2.take k) r.2.1)) 4 (l7 (QY r.2.2.2.2.2.2.2) (Jn r sg d.2) 2))) 3))))) 2
theorem FZ{l:List α}{i:Int}(h:U7 0 i=false\/J4 i (x9 l)=false):P8 l i=none:=by
 grind [P8,Nl,mf,x9]
variable {s:H6}{r:U3}{k:Nat}
theorem Ze(sg:O8)(hr:s.2.2.2.2[k]? =some r)(hl:s.2.2.2.2.length<=100000)(h:a2n r):Bl s (k:Int) sg=some (EP s sg k r):=by
 have hk:=(aJ.1 hr).1;unfold Bl;rw[O5,hr,o9,yV l9,o9];refine V6 (Nu (s.2.2.2.2.take k) (λ(c:Nat) (o:U3)=>l7 (D8 o.2.1 r.2.1) (c+1) c) (λc i=>((c:Int),i)) (λc=>(c:Int)) (λi c=>c<=i) (b:=0) (by grind) l9 (λi a c ha hi hc=>?_) (λc hc=>?_)).1 ?_
 rotate_left 2
 .have hf:∀(l:List U3) (c:Nat),l.foldl (λ(c:Nat) (o:U3)=>l7 (D8 o.2.1 r.2.1) (c+1) c) c=c+a0q l r.2.1:=by
   intro l;induction l with
   |nil=>intro c;rfl|cons a l ih=>intro c;rw[aF,ih];unfold a0q;rw[List.countP_cons];cases D8 a.2.1 r.2.1<;>simp<;>omega
  rw[hf,bC,o9,FB h.1,o9,o9,a2Y _ (by grind),o9];unfold EP;cases gq r.1
  .rfl
  cases (s.2.2.2.2.take k).any λx=>seq x.1 r.1
  case true=>rfl
  rw[EF r.2.1 0,TF (x9 s.2.2.2.1) r.2.1];cases h0:U7 0 r.2.1
  .simp_all [FZ]
  cases h1:J4 r.2.1 (x9 s.2.2.2.1)
  .simp_all [FZ]
  obtain⟨d,hd,_⟩:=tH (iM.1 h0) (wz.1 h1);rw[hd];simp only[qF,o6,o9,WS h.2.1];have hpar:(l7 (I5 (D8 r.2.2.1 (-1))) (l7 (J4 r.2.2.1 0) (some true) (l7 (U7 (k:Int) r.2.2.1) (some true) (o5 (P8 s.2.2.2.2 r.2.2.1) λ(x_6:U3)=>some (I5 (D8 x_6.2.1 r.2.1))))) (some false))=
    some (l7 (D8 r.2.2.1 (-1)) false (l7 (J4 r.2.2.1 0) true (l7 (U7 k r.2.2.1) true (match P8 s.2.2.2.2 r.2.2.1 with|some q=>I5 (D8 q.2.1 r.2.1)|none=>true)))):=by
   cases D8 r.2.2.1 (-1)
   case true=>rfl
   cases hp0:J4 r.2.2.1 0
   case true=>rfl
   cases hp1:U7 (k:Int) r.2.2.1
   case true=>rfl
   rw[mf]at hp0;rw[Nl]at hp1;obtain⟨q,hq,_⟩:=tH (l:=s.2.2.2.2) hp0 (by grind [x9]);simp_all
  rw[hpar,o9];cases (l7 (D8 r.2.2.1 (-1)) false (l7 (J4 r.2.2.1 0) true (l7 (U7 k r.2.2.1) true (match P8 s.2.2.2.2 r.2.2.1 with|some q=>I5 (D8 q.2.1 r.2.1)|none=>true))))
  case true=>rfl
  cases J4 r.2.2.2.1 0
  case true=>rfl
  cases J4 9 r.2.2.2.1
  case true=>rfl
  have hval:∀(A B:Option (U3⊕Int)),l7 (J4 r.2.2.2.2.1.1 0) A (l7 (U7 r.2.2.2.2.1.2 r.2.2.2.2.1.1) A (l7 (J4 109573 r.2.2.2.2.1.2) A B))=l7 (EZ r.2.2.2.2.1) (l7 (D8 r.2.2.2.2.1.1 r.2.2.2.2.1.2) A B) A:=by
   intro A B;unfold EZ;by_cases v0:r.2.2.2.2.1.1<(0:Int)
   .simp_all [dE,dA]
   rw[Y0 (Int.not_lt.1 v0),Y7 (Int.not_lt.1 v0)];by_cases v1:(r.2.2.2.2.1.2:Int)<=r.2.2.2.2.1.1
   .rw[Y7 v1];by_cases v2:(r.2.2.2.2.1.1:Int)<=r.2.2.2.2.1.2
    .rw[Y7 v2,O0 (Int.le_antisymm v2 v1)];cases U7 r.2.2.2.2.1.2 109573<;>rfl
    simp_all [dA]
   .have v1' :=uY.1 v1;rw[dA v1',Y7 (Int.le_of_lt v1'),J8 (λhh=>by omega),EF];cases U7 r.2.2.2.2.1.2 109573<;>rfl
  rw[hval];cases EZ r.2.2.2.2.1
  .rfl
  cases D8 r.2.2.2.2.1.1 r.2.2.2.2.1.2
  case true=>rfl
  cases U7 8 ((a0q (s.2.2.2.2.take k) r.2.1:Nat):Int)
  case true=>rfl
  cases QY r.2.2.2.2.2.2.2
  .rfl
  simp only[F5,o6,o7,o9,ae,Jn,hd,Oo sg _ h.2.2.1,Oo sg _ h.2.2.2];cases J4 0 (x9 r.2.2.2.2.2.1)
  .rfl
  cases D8 (Cj r.2.2.2.2.2.1 sg (1,0)) 0<;>rfl
 .simp only[U0 ha,o7,O5,ha,o9];rw[bY (show i<=9000000000000000000 by omega),bY (show c<=9000000000000000000 by omega)];cases D8 a.2.1 r.2.1
  .exact⟨rfl,by show c<=i+1;omega⟩
  simp_all
 .simp only[Y1];rfl
structure SmS (s:H6):Prop where
 nm:s.1.length<=1000000
 ni:s.2.2.1.length<=14
 nd:s.2.2.2.1.length<=14
 nr:s.2.2.2.2.length<=96
 fo:W_ s
 ro:∀r∈s.2.2.2.2,a2n r/\r.2.2.2.2.2.1.length<=50/\r.2.2.2.2.2.2.1.length<=50
def isM(op:Int):Bool:=l7 (U7 36 op) (U7 op 39) false
theorem b6u(op:Int):isM op=l7 (D8 op 36) true (l7 (D8 op 37) true (l7 (D8 op 38) true (D8 op 39))):=by
 unfold isM;by_cases h1:36<=op
 .rw[Y7 h1];by_cases h2:op<=39
  .have:op=36\/op=37\/op=38\/op=39:=l9;rcases this with rfl|rfl|rfl|rfl<;>rfl
  .rw[dA l9,J8 l9,J8 l9,J8 l9,J8 l9];rfl
 .rw[dA l9,J8 l9,J8 l9,J8 l9,J8 l9];rfl
def Tj(p:Int->Bool)(e:List (Int×Int)):c5w:=(e.filter λn=>p n.1).map (·.2)
def VY(e:List (Int×Int)):c5w×c5w×c5w:=(NT (Tj (λo=>D8 o 7) e),NT (Tj (λo=>D8 o 8) e),NT (Tj isM e))
def b3w(g:c5w->Int->c5w)(b:c5w×c5w×c5w)(n:Int×Int):c5w×c5w×c5w:=
 (l7 (D8 n.1 7) (g b.1 n.2) b.1,l7 (D8 n.1 8) (g b.2.1 n.2) b.2.1,l7 (isM n.1) (g b.2.2 n.2) b.2.2)
theorem Yx(g:c5w->Int->c5w):∀(e:List (Int×Int)) (b:c5w×c5w×c5w),e.foldl (b3w g) b=((Tj (λo=>D8 o 7) e).foldl g b.1,(Tj (λo=>D8 o 8) e).foldl g b.2.1,(Tj isM e).foldl g b.2.2)
 |[],b=>rfl|n::e,b=>by
  have hn:∀p,Tj p (n::e)=l7 (p n.1) (n.2::Tj p e) (Tj p e):=λp=>by unfold Tj;rw[qL];cases p n.1<;>rfl
  rw[aF,Yx g e,hn,hn,hn];unfold b3w;cases D8 n.1 7<;>cases D8 n.1 8<;>cases isM n.1<;>rfl
theorem XX:∀(l b:c5w),l.foldl (λacc n=>acc++[n]) b=b++l
 |[],b=>by simp|a::l,b=>by rw[aF,XX l];simp
theorem Hf{a k:Int}(h:a=k)(m:Int)(hm:k≠m):D8 a m=false:=J8 l9
theorem Ez{l:c5w}(hl:l.length<=1000000):vI l=some (NT l):=by
 grind [vI,b4j,vC]
theorem MF(h:e.length<=1000000):yg e=some (VY e):=by
 refine kL e (b3w (λacc n=>acc++[n])) (λb i=>(b.1,b.2.1,b.2.2,i)) (λb=>b) (λi b=>b.1.length<=i/\b.2.1.length<=i/\b.2.2.length<=i) (([],[],[]):c5w×c5w×c5w) h x8 (λi a b ha hi hI=>?_) (λb hI=>?_) (λh2=>?_)
 .obtain⟨b1,b2,b3⟩:=b;simp at hI;simp[U0 ha,o7,O5,ha,o9,Ak a.2 (show b1.length<=1000000 by omega),Ak a.2 (show b2.length<=1000000 by omega),Ak a.2 (show b3.length<=1000000 by omega),b3w,b6u];rw[bY l9];by_cases h7:a.1=7
  .rw[O0 h7,Hf h7 8 C9,Hf h7 36 C9,Hf h7 37 C9,Hf h7 38 C9,Hf h7 39 C9];exact⟨rfl,by simp_all,by simp<;>omega,by simp<;>omega⟩
  rw[J8 h7];by_cases h8:a.1=8
  .rw[O0 h8,Hf h8 36 C9,Hf h8 37 C9,Hf h8 38 C9,Hf h8 39 C9];exact⟨rfl,by simp<;>omega,by simp_all,by simp<;>omega⟩
  rw[J8 h8];cases D8 a.1 36<;>cases D8 a.1 37<;>cases D8 a.1 38<;>cases D8 a.1 39<;>exact⟨rfl,by simp<;>omega,by simp<;>omega,by simp<;>omega⟩
 .simp[Y1]
 .rw[Yx]at h2 ⊢;simp only[XX,G8]at h2 ⊢;rw[Ez l9,Ez l9,Ez l9];rfl
theorem a9w(p:Int->Bool)(e:List (Int×Int)):(Tj p e).length<=e.length:=by simp[Tj,wS]
theorem QJ(e:List (Int×Int)):(VY e).2.1.length<=e.length:=V9 (a0R _) (a9w _ e)
def inD(n d:Int):Bool:=l7 (U7 0 d) (J4 d n) false
def JL(n:Int)(r:U3):c5w:=(VY r.2.2.2.2.2.1).2.1.filter (inD n)++(VY r.2.2.2.2.2.2.1).2.1.filter (inD n)
theorem UZ(p:Int->Bool):∀(l b:c5w),l.foldl (λacc x=>l7 (p x) (acc++[x]) acc) b=b++l.filter p
 |[],b=>by simp|a::l,b=>by rw[aF,UZ p l,qL];cases p a<;>simp
theorem XV{f:c5w×Int->Option ((c5w×Int)⊕c5w)}(l b:c5w)(n:Int)(hl:l.length<=1000)(hb:b.length<=1000)
  (hin:∀(i:Nat) (a:Int) (acc:c5w),l[i]? =some a->i<=1000000->f (acc,(i:Int))=l7 (U7 0 a) (l7 (J4 a n) (o5 (iy acc [a]) λx=>some (.inl (x,I8 .i64 (i:Int) 1))) (some (.inl (acc,I8 .i64 (i:Int) 1)))) (some (.inl (acc,I8 .i64 (i:Int) 1))))
  (hend:∀acc,f (acc,(l.length:Int))=some (.inr acc)):fF f (b,0)=some (b++l.filter (inD n)):=by
 have key:=Nu l (λ(acc:c5w) x=>l7 (inD n x) (acc++[x]) acc) (λb i=>(b,i)) (λb=>b) (λi acc=>acc.length<=1000+i) (f:=f) l9 l9 ?_ ?_
 .rw[key.1,UZ]
 .intro i a acc ha hi hI;have:=(aJ.1 ha).1;rw[hin i a acc ha hi,bY l9,Ak _ l9];unfold inD;cases U7 0 a
  .exact⟨rfl,by show acc.length<=_;omega⟩
  cases J4 a n
  .exact⟨rfl,by show acc.length<=_;omega⟩
  .exact⟨rfl,by simp;omega⟩
 simp_all
theorem Qk(n:Int)(h1:r.2.2.2.2.2.1.length<=50)(h2:r.2.2.2.2.2.2.1.length<=50):uF r n=some (JL n r):=by
 have g1:=QJ r.2.2.2.2.2.1;have g2:=QJ r.2.2.2.2.2.2.1;unfold uF JL;rw[MF l9,MF l9];refine V6 (XV (VY r.2.2.2.2.2.1).2.1 [] n l9 x8 (λi a acc ha hi=>?_) (λacc=>?_)) ?_
 rotate_left 2
 .rw[o9,vC,G8];have:=wS (inD n) (VY r.2.2.2.2.2.1).2.1;refine XV (VY r.2.2.2.2.2.2.1).2.1 _ n l9 l9 (λi a acc ha hi=>?_) (λacc=>?_)<;>simp_all [U0,O5,jg,dV,Y1]
 .simp_all [U0,O5,jg,dV]
 .simp[Y1]
def nD(s:H6):Int:=x9 s.2.2.2.1
def dl(n:Int)(rs:List U3)(d:Int):c5w:=rs.flatMap λr=>l7 (D8 r.2.1 d) (JL n r) []
def Ey(s:H6)(d:Int):c5w:=l7 (inD (nD s) d) (NT (dl (nD s) s.2.2.2.2 d)) []
theorem Yw(h:SmS s)(hr:r∈s.2.2.2.2)(n:Int):(JL n r).length<=100:=by obtain⟨_,h1,h2⟩:=h.ro r hr<;>grind [QJ,JL]
theorem a4R(n:Int)(rs:List U3)(r:U3)(d:Int):dl n (rs++[r]) d=dl n rs d++l7 (D8 r.2.1 d) (JL n r) []:=by simp[dl]
theorem b2w(n:Int)(rs:List U3)(r:U3)(d:Int):dl n (r::rs) d=l7 (D8 r.2.1 d) (JL n r) []++dl n rs d:=rfl
theorem a2K{s:H6}(h:SmS s)(n d:Int):∀(rs:List U3),(∀r∈rs,r∈s.2.2.2.2)->(dl n rs d).length<=100*rs.length
 |[],_=>by simp[dl]|r::rs,hm=>by
  have ih:=a2K h n d rs λr hr=>hm r (by grind);have h1:=Yw h (hm r x8) n;rw[b2w,A7]
  grind [D8,o6,o7]
variable {d:Int}{x:Int}
theorem b6y{n:Int}{rs:List U3} :x∈dl n rs d↔∃r∈rs,r.2.1=d/\x∈JL n r:=by
 unfold dl;rw[jW];constructor
 .rintro⟨r,hr,hx⟩;cases hq:D8 r.2.1 d<;>rw[hq]at hx
  .simp_all
  .exact⟨r,hr,eF.1 hq,hx⟩
 .rintro⟨r,hr,hq,hx⟩;exact⟨r,hr,by simp_all [O0]⟩
theorem b0j{n:Int}(h:x∈JL n r):0<=x/\x<n:=by
 have key:inD n x=true:=by
  grind [JL]
 unfold inD at key;cases h0:U7 0 x<;>rw[h0]at key
 .cases key
 .exact⟨iM.1 h0,wz.1 key⟩
theorem Qn(s:H6)(d:Int):SI (Ey s d):=by unfold Ey;cases inD (nD s) d<;>simp_all [a5Q]
theorem Qm(h:x∈Ey s d):0<=x/\x<nD s:=by
 unfold Ey at h;cases hq:inD (nD s) d<;>rw[hq]at h
 .simp at h
 .obtain⟨r,_,_,hx⟩:=b6y.1 ((a0Y _ _).1 h);exact b0j hx
theorem a5q(m k:Nat)(f:Nat->α)(v:α):((List.range m).map f).set k v=(List.range m).map λd=>if d=k then v else f d:=by apply aS<;>grind
def Ur(m:Nat)(rs:List U3):List c5w:=(List.range m).map λ(d:Nat)=>dl (m:Int) rs (d:Int)
theorem B_{l:c5w}(hl:l.length<=1000000):DJ l=some (NT l):=Ez hl
theorem ZH(m:Nat)(f:Nat->α)(h:k<m):((List.range m).map f)[k]? =some (f k):=by simp_all
theorem YX(h:SmS s):zA s=some ((List.range s.2.2.2.1.length).map λ(d:Nat)=>Ey s (d:Int)):=by
 have hnr:=h.nr;have hnd:=h.nd;unfold zA;generalize hm:s.2.2.2.1.length=m at*;have hn:nD s=(m:Int):=by unfold nD x9;rw[hm]
 rw[show x9 s.2.2.2.1=(m:Int)from hn,show Ny (m:Int) ([]:c5w)=some (Ur m []) by unfold Ny Ur dl;rw[if_pos l9];simp[List.map_const'],o9];refine kL s.2.2.2.2 (λ(b:List c5w) r=>l7 (inD m r.2.1) (b.set r.2.1.toNat ((b.getD r.2.1.toNat [])++JL m r)) b) (λb i=>(b,i)) (λb=>b) (λi b=>b=Ur m (s.2.2.2.2.take i)) (Ur m []) l9 x8 (λi r b ha hi hI=>?_) (λb hI=>?_) (λh2=>?_)
 .have hlt:=(aJ.1 ha).1;obtain⟨_,h1,h2⟩:=h.ro r (rD ha);have hst:s.2.2.2.2.take (i+1)=s.2.2.2.2.take i++[r]:=by
   rw[aO hlt,(aJ.1 ha).2]
  have hlb:x9 b=(m:Int):=by rw[hI];simp[x9,Ur]
  obtain⟨rd,hrd⟩:∃rd:Int,r.2.1=rd:=⟨r.2.1,rfl⟩;simp only[U0 ha,o7,O5,ha,o9,hlb,hrd];rw[bY l9,hst];by_cases hd:0<=rd/\rd<(m:Int)
  .obtain⟨d0,d1⟩:=hd;have hk:rd.toNat<m:=l9;have hkk:((rd.toNat:Nat):Int)=rd:=l9;have hg:b[rd.toNat]? =some (dl m (s.2.2.2.2.take i) rd):=by rw[hI];unfold Ur;rw[ZH m _ hk,hkk]
   have hll:=a2K h m rd (s.2.2.2.2.take i) λr hr=>jE hr;have hrl:=Yw h (rD ha) m;have htl:(s.2.2.2.2.take i).length<=96:=by simp;omega
   rw[Y7 d0,dE d1,show inb rd (m:Int)=true by unfold inb;simp;omega,show jg b (dV rd)=some (dl m (s.2.2.2.2.take i) rd)from hg,Qk _ h1 h2];simp only[o7,o9];rw[uM l9,show Ht (dV rd) (dV rd)=true by simp[Ht]];simp only[o7,o9];have hin:inD m rd=true:=by unfold inD;rw[Y7 d0,dE d1];rfl
   rw[hin,show b.getD rd.toNat []=dl m (s.2.2.2.2.take i) rd by rw[ZC,hg];rfl];refine⟨rfl,?_⟩;show b.set rd.toNat _=_;rw[hI];unfold Ur;rw[a5q];apply nP;intro d hdm;rw[a4R,hrd];by_cases hq:d=rd.toNat
   .subst hq;rw[if_pos rfl,hkk,O0 rfl];rfl
   .rw[if_neg hq,J8 l9];simp
  .have hin:inD m rd=false:=by
    unfold inD;by_cases d0:0<=rd
    .rw[Y7 d0,Y0 l9];rfl
    .rw[dA l9];rfl
   rw[hin];refine⟨?_,?_⟩
   .unfold inD at hin;cases q0:U7 0 rd
    .rfl
    .rw[q0]at hin;simp only[o7]at hin ⊢;rw[hin];rfl
   .show b=_;rw[hI];unfold Ur;apply nP;intro d hdm;have:=List.mem_range.1 hdm;rw[a4R,hrd,J8 l9];simp
 .simp only[Y1];rfl
 .rw[iL]at h2;rw[h2];generalize hA:Ur m s.2.2.2.2=A;have hAl:x9 A=(m:Int):=by rw[←hA];simp[x9,Ur]
  refine kL (List.range m) (λ(b:List c5w) d=>b.set d (NT (b.getD d []))) (λb i=>(b,i)) (λb=>b) (λi b=>b=(List.range m).map λ(d:Nat)=>if d<i then NT (dl m s.2.2.2.2 (d:Int))else dl m s.2.2.2.2 (d:Int)) A H7 (by rw[←hA];unfold Ur;simp) (λi d b ha hi hI=>?_) (λb hI=>?_) (λh3=>?_)
  .have hlt:=(aJ.1 ha).1;simp only[lG]at hlt;have hdi:d=i:=by rw[List.getElem?_range hlt]at ha;exact(fE ha).symm
   subst hdi;have hlb:x9 b=(m:Int):=by rw[hI];simp[x9]
   have hg:b[d]? =some (dl m s.2.2.2.2 (d:Int)):=by rw[hI,ZH m _ hlt,if_neg l9]
   have hll:=a2K h m d s.2.2.2.2 λr hr=>hr;simp only[hAl,hlb];rw[dE (show(d:Int)<(m:Int) by omega),show inb (d:Int) (m:Int)=true by unfold inb;simp;omega,show jg b (dV (d:Int))=some (dl m s.2.2.2.2 (d:Int))from hg];simp only[o7,o9];rw[B_ l9,show Ht (dV (d:Int)) (dV (d:Int))=true by simp[Ht],bY l9];simp only[o7,o9];rw[show b.getD d []=dl m s.2.2.2.2 (d:Int) by rw[ZC,hg];rfl];refine⟨rfl,?_⟩;rw[hI,a5q];apply nP;intro e he;by_cases hq:e=d
   .subst hq;rw[if_pos rfl,if_pos l9]
   .rw[if_neg hq];by_cases hq2:e<d
    .rw[if_pos hq2,if_pos l9]
    .rw[if_neg hq2,if_neg l9]
  .simp only[lG,hAl,Y0 (show(m:Int)<=(m:Int) by omega)];rfl
  .rw[h3];apply congrArg some;apply nP;intro d hd;have:=List.mem_range.1 hd;simp only[lG];rw[if_pos this];unfold Ey;rw[hn,show inD (m:Int) (d:Int)=true by unfold inD;rw[Y7 l9,dE l9];rfl];rfl
def Rch(D:Int->c5w)(d:Int)(L:c5w):Prop:=SI L/\(∀x∈D d,x∈L)/\(∀x∈L,∀y∈D x,y∈L)/\∀C:Int->Prop,(∀x∈D d,C x)->(∀x,C x->∀y∈D x,C y)->∀x∈L,C x
theorem Rch.unique{D:Int->c5w}{L M:c5w}(h:Rch D d L)(k:Rch D d M):L=M:=
 a3Y h.1 k.1 λx=>⟨λhx=>h.2.2.2 (λy=>y∈M) k.2.1 k.2.2.1 x hx,λhx=>k.2.2.2 (λy=>y∈L) h.2.1 h.2.2.1 x hx⟩
theorem E_:∀{B A:c5w},SI A->SI B->(∀x∈A,x∈B)->A=B\/A.length<B.length
 |[],A,_,_,h=>by
  cases A with
  |nil=>simp|cons a A=>exact absurd (h a x8) x8
 |b::B,[],_,_,_=> .inr x8|b::B,a::A,hA,hB,h=>by
  have hA' :=V8.1 hA;have hB' :=V8.1 hB;rcases D7.1 (h a x8)with hab|hab
  .rcases E_ hA'.2 hB'.2 (λx hx=>by
    grind)with h1|h1
   all_goals simp_all
  .rcases E_ hA hB'.2 (λx hx=>by
    grind)with h1|h1
   all_goals grind
def VK(D:Int->c5w)(L:c5w):c5w:=L.foldl (λacc x=>Vl (D x) acc) L
theorem Gl(D:Int->c5w)(x:Int):∀(l acc:c5w),x∈l.foldl (λacc x=>Vl (D x) acc) acc↔x∈acc\/∃y∈l,x∈D y
 |[],acc=>by simp|a::l,acc=>by
  rw[aF,Gl D x l,VB]
  grind
theorem a5v(D:Int->c5w):∀(l:c5w) {acc:c5w},SI acc->SI (l.foldl (λacc x=>Vl (D x) acc) acc)
 |[],_,h=>h|a::l,_,h=>by exact a5v D l (w_ _ h)
theorem VL(D:Int->c5w){L:c5w}(h:SI L):SI (VK D L):=a5v D L h
def itS(D:Int->c5w)(d:Int):Nat->c5w
 |0=>D d|k+1=>VK D (itS D d k)
section
variable {D:Int->c5w} {n:Nat} (hsi:∀x,SI (D x)) (hin:∀x,∀y∈D x,0<=y/\y<(n:Int))
include hsi hin
theorem a0O(d:Int):∀k,SI (itS D d k)
 |0=>hsi d|k+1=>VL D (a0O d k)
theorem a8V(d:Int):∀k,∀x∈itS D d k,0<=x/\x<(n:Int)
 |0,x,hx=>hin d x hx|k+1,x,hx=>by
  rcases(Gl D x _ _).1 hx with h|⟨y,_,h⟩
  .exact a8V d k x h
  grind
theorem a5l(d:Int)(k:Nat):VK D (itS D d k)=itS D d k\/(itS D d k).length<(VK D (itS D d k)).length:=by rcases E_ (a0O hsi hin d k) (VL D (a0O hsi hin d k)) (λx hx=>(Gl D x _ _).2 (.inl hx))with h|h<;>grind
theorem Yf(d:Int):∀k,VK D (itS D d k)=itS D d k\/k<(VK D (itS D d k)).length
 |0=>by rcases a5l hsi hin d 0 with h|h<;>grind
 |k+1=>by
  rcases Yf d k with h|h
  .simp_all [itS]
  .rcases a5l hsi hin d (k+1)with h2|h2<;>grind [itS]
theorem b6v(d:Int):Rch D d (itS D d n):=by
 have hst:VK D (itS D d n)=itS D d n:=by
  rcases Yf hsi hin d n with h|h
  .omega
  .have:=a3Z n (VL D (a0O hsi hin d n)) (a8V hsi hin d (n+1));omega
 refine⟨a0O hsi hin d n,?_,?_,?_⟩
 .intro x hx;have:∀k,x∈itS D d k:=by
   intro k;induction k with
   |zero=>exact hx|succ k ih=>exact(Gl D x _ _).2 (.inl ih)
  simp_all
 .intro x hx y hy;rw[←hst];exact(Gl D y _ _).2 (.inr ⟨x,hx,hy⟩)
 .intro C h1 h2;have:∀k,∀x∈itS D d k,C x:=by
   intro k;induction k with
   |zero=>exact h1
   |succ k ih=>intro x hx;rcases(Gl D x _ _).1 hx with h|⟨y,hy,h⟩<;>grind
  grind
end
def WO(s:H6)(d:Int):c5w:=itS (Ey s) d s.2.2.2.1.length
theorem YJ(s:H6)(d:Int):Rch (Ey s) d (WO s d):=
 b6v (n:=s.2.2.2.1.length) (Qn s) (λx y hy=>Qm hy) d
theorem b1S(h:x∈WO s d):0<=x/\x<nD s:=a8V (n:=s.2.2.2.1.length) (Qn s) (λx y hy=>Qm hy) d _ x h
theorem a3d(h:SmS s){l:c5w}(hs:SI l)(hi:∀x∈l,0<=x/\x<nD s):l.length<=14:=V9 (a3Z s.2.2.2.1.length hs hi) h.nd
def mk(S:List Bool)(x:Int):Bool:=if 0<=x then S.getD x.toNat false else false
def unm(S:List Bool):Nat:=S.count false
def rG(b:List Bool×c5w)(e:Int):List Bool×c5w:=l7 (mk b.1 e) b (b.1.set e.toNat true,b.2++[e])
variable {S:List Bool}
theorem a9k(h0:0<=x)(h1:x<x9 S):S[x.toNat]? =some (mk S x):=by simp_all [mk,x9]
theorem a9l{e:Int}(h0:0<=e)(h1:e<x9 S)(x:Int):mk (S.set e.toNat true) x=l7 (D8 x e) true (mk S x):=by
 unfold mk;have hl:e.toNat<S.length:=by simp_all [x9]
 by_cases hx:0<=x
 .rw[if_pos hx,if_pos hx,ZC,lF];by_cases hq:x=e
  .simp_all [O0]
  .rw[if_neg l9,J8 hq];rfl
 .rw[if_neg hx,if_neg hx,J8 l9];rfl
theorem b4s{e:Int}(h0:0<=e)(h1:e<x9 S)(hm:mk S e=false):unm (S.set e.toNat true)+1=unm S:=by
 have hg:=a9k h0 h1
 grind [unm]
structure RInv (n:Nat) (S:List Bool) (Q:c5w) (l:c5w) (S' :List Bool) (Q' :c5w):Prop where
 len:S'.length=n
 seen:∀x:Int,0<=x->x<(n:Int)->(mk S' x=true↔mk S x=true\/x∈l)
 sum:Q'.length+unm S' =Q.length+unm S
 le:unm S' <=unm S
 old:∀x∈Q,x∈Q'
 new:∀x∈Q',x∈Q\/x∈l
 got:∀x,mk S' x=true->mk S x=true\/x∈Q'
theorem b0t{n:Nat} :∀(l:c5w) (S:List Bool) (Q:c5w),S.length=n->(∀x∈l,0<=x/\x<(n:Int))->RInv n S Q l (l.foldl rG (S,Q)).1 (l.foldl rG (S,Q)).2
 |[],S,Q,hl,_=>⟨hl,λx _ _=>by simp,rfl,E5 _,λx hx=>hx,λx hx=> .inl hx,λx hx=> .inl hx⟩|e::l,S,Q,hl,hi=>by
  have he:=hi e x8;have hel:e<x9 S:=by simp_all [x9]
  rw[aF];cases hm:mk S e with
  |true=>
   rw[show rG (S,Q) e=(S,Q) by simp_all [rG]];have ih:=b0t l S Q hl λx hx=>hi x (by grind);refine⟨ih.len,λx h0 h1=>?_,ih.sum,ih.le,ih.old,λx hx=>?_,ih.got⟩
   .rw[ih.seen x h0 h1]
    grind
   .rcases ih.new x hx with h|h<;>simp_all
  |false=>
   rw[show rG (S,Q) e=(S.set e.toNat true,Q++[e]) by simp_all [rG]];have ih:=b0t l (S.set e.toNat true) (Q++[e]) (by grind) λx hx=>hi x (by grind);have hu:=b4s he.1 hel hm;refine⟨ih.len,λx h0 h1=>?_,?_,?_,λx hx=>ih.old x (by grind),λx hx=>?_,λx hx=>?_⟩
   .rw[ih.seen x h0 h1,a9l he.1 hel];cases hq:D8 x e<;>simp_all [vV,eF]
   .have:=ih.sum;grind
   .have:=ih.le;omega
   .rcases ih.new x hx with h|h<;>grind
   .rcases ih.got x hx with h|h
    .rw[a9l he.1 hel]at h;cases hq:D8 x e
     .simp_all
     .rw[eF]at hq;subst hq;exact .inr (ih.old _ x8)
    simp_all
def RG(S:List Bool):c5w:=((List.range S.length).filter λi=>S.getD i false).map λ(i:Nat)=>(i:Int)
theorem KY(x:Int):x∈RG S↔mk S x=true:=by
 grind [RG,mk]
theorem a9f(S:List Bool):SI (RG S):=by
 grind [RG,List.pairwise_lt_range]
theorem a3i{f:c5w×Int->Option ((c5w×Int)⊕c5w)}(S:List Bool)(hS:S.length<=100)
  (hin:∀(i:Nat) (a:Bool) (acc:c5w),S[i]? =some a->i<=1000000->acc.length<=i->f (acc,(i:Int))=l7 a (o5 (iy acc [(i:Int)]) λx=>some (.inl (x,I8 .i64 (i:Int) 1))) (some (.inl (acc,I8 .i64 (i:Int) 1))))
  (hend:∀acc,f (acc,(S.length:Int))=some (.inr acc)):fF f ([],0)=some (RG S):=by
 have mk2:∀i,i<=S.length->((List.range i).filter λi=>S.getD i false).length<=i:=λi _=>by
  grind
 obtain⟨e,h1,h2⟩:=su (f:=f) (λx=>∃i:Nat,x=(((List.range i).filter λi=>S.getD i false).map λ(i:Nat)=>(i:Int),(i:Int))/\i<=S.length) (λe=>e=RG S) (λx=>S.length -x.2.toNat) ⟨0,rfl,l9⟩ l9 (by
  rintro x ⟨i,rfl,hi⟩;by_cases h:i<S.length
  .have e:=qC h;have hst:(List.range (i+1)).filter (λi=>S.getD i false)=(List.range i).filter (λi=>S.getD i false)++l7 S[i] [i] []:=by
    rw[BF,List.filter_append];rw[qL,ZC,e];cases S[i]<;>rfl
   have hl:=mk2 i hi;refine .inl ⟨(((List.range (i+1)).filter λi=>S.getD i false).map λ(i:Nat)=>(i:Int),((i+1:Nat):Int)),?_,⟨i+1,rfl,h⟩,l9⟩;rw[hin i _ _ e l9 (by simp_all),bY l9,hst,Ak _ (by grind)];cases S[i]<;>simp_all
  .have:i=S.length:=l9;subst this;exact .inr ⟨_,hend _,rfl⟩)
 grind
theorem a3B{D:Int->c5w}{n:Nat}(hn:n<=14)(hsi:∀x,SI (D x))(hin:∀x,∀y∈D x,0<=y/\y<(n:Int))(h0:0<=d)(h1:d<(n:Int)):
  ∃L,CJ ((List.range n).map λ(x:Nat)=>D (x:Int)) d=some L/\Rch D d L:=by
 have hA:x9 ((List.range n).map λ(x:Nat)=>D (x:Int))=(n:Int):=by simp[x9]
 have hget:∀x:Int,0<=x->x<n->P8 ((List.range n).map λ(x:Nat)=>D (x:Int)) x=some (D x):=λx a b=>by
  have:x.toNat<n:=l9;unfold P8
  rw[if_pos a,ZH n _ this,fM a]
 unfold CJ;generalize (List.range n).map (λ(x:Nat)=>D (x:Int))=A at*;rw[hA,show Ny (n:Int) false=some (List.replicate n false) by unfold Ny;rw[if_pos l9];simp,o9];have hD14:∀x,(D x).length<=14:=λx=>V9 (a3Z n (hsi x) (hin x)) hn;have key:=su (f:=λ(x:List Bool×c5w)=>l7 (J4 0 (x9 x.2)) (o5 (P8 x.2 0) λ(x_1:Int)=>o5 (jg x.2 (dV 0)) λ(x_2:Int)=>l7 (nK 1 (x9 x.2) (x9 x.2)) (o5 (P8 A x_2) λ(x_3:c5w)=>
   o5 (fF (λ(x:List Bool×c5w×Int)=>l7 (J4 x.2.2 (x9 x_3)) (o5 (P8 x_3 x.2.2) λ(x_4:Int)=>o5 (P8 x.1 x_4) λ(x_5:Bool)=>o5 (jg x.1 (dV x_4)) λ(x_6:Bool)=>
     l7 (I5 x_6) (o5 (P8 x.1 x_4) λ(x_7:Bool)=>o5 (jg x.1 (dV x_4)) λ(x_8:Bool)=>o5 (iy x.2.1 [x_4]) λ(x_9:c5w)=>some (.inl (mQ x.1 (dV x_4) true,x_9,I8 .i64 x.2.2 1)))
      (some (.inl (x.1,x.2.1,I8 .i64 x.2.2 1)))) (some (.inr (x.1,x.2.1)))) (x.1,lq x.2 (dV 1) (dV (x9 x.2)),0)) λ(y:List Bool×c5w)=>some (.inl y)) none) (some (.inr x.1)))
  (s:=(List.replicate n false,[d]))
  (λx=>x.1.length=n/\(∀q∈x.2,0<=q/\q<(n:Int))/\x.2.length+unm x.1<=n+1/\(∀q∈x.2,q=d\/mk x.1 q=true)/\(∀v,v=d\/mk x.1 v=true->v∈x.2\/∀y∈D v,mk x.1 y=true)/\
   (∀C:Int->Prop,(∀x∈D d,C x)->(∀x,C x->∀y∈D x,C y)->∀v,mk x.1 v=true->C v)/\(∀v,mk x.1 v=true->0<=v/\v<(n:Int)))
  (λS=>S.length=n/\Rch D d (RG S)) (λx=>2*unm x.1+x.2.length) ?_ ?_ ?_
 .obtain⟨S,k1,k2,k3⟩:=key;refine⟨RG S,?_,k3⟩;refine(a1g k1 _).trans ?_;rw[vC];refine a3i S l9 (λi a acc ha hi hacc=>?_) (λacc=>?_)
  .simp only[U0 ha,o7,O5,ha,o9];rw[show jg S (dV (i:Int))=some a from ha,o9]
  .simp only[Y1];rfl
 .have hnone:∀v,mk (List.replicate n false) v=false:=λv=>by
   unfold mk;split
   .rw[ZC,List.getElem?_replicate];split<;>rfl
   .rfl
  refine⟨x8,λq hq=>by simp at hq;omega,?_,λq hq=> .inl (by simpa using hq),λv hv=>?_,λC _ _ v hv=>(by rw[hnone]at hv;cases hv),λv hv=>(by rw[hnone]at hv;cases hv)⟩
  .simp[unm,List.count_replicate];omega
  .rcases hv with rfl|hv
   .exact .inl x8
   .rw[hnone]at hv;cases hv
 .simp[unm,List.count_replicate];omega
 .rintro⟨S,Q⟩ ⟨i1,i2,i3,i4,i5,i6,i7⟩;simp only at i1 i2 i3 i4 i5 i6 i7;cases Q with
  |nil=>
   right;refine⟨S,rfl,i1,a9f S,λx hx=>?_,λx hx y hy=>?_,λC c1 c2 x hx=>i6 C c1 c2 x ((KY x).1 hx)⟩
   .rcases i5 d (.inl rfl)with h|h
    .cases h
    .exact(KY x).2 (h x hx)
   .rcases i5 x (.inr ((KY x).1 hx))with h|h
    .cases h
    .exact(KY y).2 (h y hy)
  |cons q Q=>
   left;have hq:=i2 q x8;have hfold:=b0t (n:=n) (D q) S Q i1 (λx hx=>hin q x hx);refine⟨(D q).foldl rG (S,Q),?_,?_,?_⟩
   .simp only[dE (show(0:Int)<x9 (q::Q) by simp[x9]<;>omega),o7,show P8 (q::Q) 0=some q from rfl,show jg (q::Q) (dV 0)=some q from rfl,o9,hget q hq.1 hq.2,
     show nK 1 (x9 (q::Q)) (x9 (q::Q))=true by simp[nK,x9]<;>omega,show lq (q::Q) (dV 1) (dV (x9 (q::Q)))=Q by simp[lq,dV,x9]]
    refine kL (D q) rG (λb i=>(b.1,b.2,i)) (λb=>b) (λi b=>b.1.length=n/\b.2.length<=100+i) (S,Q) (by have:=hD14 q;omega) ⟨i1,by simp at i3;show Q.length<=100+0;omega⟩ (λi e b he hi hI=>?_) (λb hI=>?_) (λh2=>rfl)
    .obtain⟨S1,Q1⟩:=b;simp only at hI;have hee:=hin q e (rD he);have hlt:=(aJ.1 he).1;have hdl:=hD14 q;have hg:=a9k (S:=S1) hee.1 (by simp only[x9];omega);have hla:P8 S1 e=some (mk S1 e):=by unfold P8;rw[if_pos hee.1];exact hg
     have hlg:jg S1 (dV e)=some (mk S1 e):=hg;simp only[U0 he,o7,O5 (D q),he,o9,hla,hlg];rw[bY l9,Ak _ l9];unfold rG;simp only;cases mk S1 e
     .exact⟨rfl,by simp[hI.1],by simp<;>omega⟩
     .exact⟨rfl,hI.1,by show Q1.length<=_;omega⟩
    .simp only[Y1];rfl
   .obtain⟨j1,j2,j3,j4,j5,j6,j7⟩:=hfold;generalize (D q).foldl rG (S,Q)=b at*;obtain⟨S',Q'⟩:=b;simp only at j1 j2 j3 j4 j5 j6 j7 ⊢;have hrange:∀v,mk S' v=true->0<=v/\v<(n:Int):=λv hv=>by
     rcases j7 v hv with h|h
     .exact i7 v h
     .rcases j6 v h with h|h
      .exact i2 v (by simp[h])
      .grind
    refine⟨j1,λx hx=>?_,?_,λx hx=>?_,λv hv=>?_,λC c1 c2 v hv=>?_,hrange⟩
    .grind
    .grind
    .grind
    .grind
    .by_cases hS:mk S v=true
     .exact i6 C c1 c2 v hS
     .have hr:=hrange v hv;rcases(j2 v hr.1 hr.2).1 hv with h|h
      .grind
      .rcases i4 q x8 with h2|h2
       .grind
       .exact c2 q (i6 C c1 c2 q h2) v h
   .have:=hfold.sum;have:=hfold.le
    grind
theorem Xy(h:SmS s)(h0:0<=d)(h1:d<nD s):BX s d=some (WO s d):=by have hn:nD s=((s.2.2.2.1.length:Nat):Int):=rfl;change l7 (J4 d 0) _ (l7 (U7 (nD s) d) _ _)=_;rw[Y0 h0,o6,dA h1,o6,YX h,o9,vC];obtain⟨L,k1,k2⟩:=a3B h.nd (Qn s) (λx y hy=>Qm hy) h0 l9<;>grind [Rch.unique,YJ]
structure SmL (l:O6):Prop where
 few:Few l
 en:YO l
 tb:Uh l
 sc:∀s∈l.2.2,SmS s
 fs:l.2.2.length<=100
structure SwS (s:H6):Prop where
 nm:s.1.length<=1000000
 ni:s.2.2.1.length<=100000
 nd:s.2.2.2.1.length<=100000
 nr:s.2.2.2.2.length<=100000
 fo:W_ s
 ro:∀r∈s.2.2.2.2,a2n r
structure SwL (l:O6):Prop where
 few:Few l
 en:YO l
 tb:Uh l
 sc:∀s∈l.2.2,SwS s
variable {l:O6}
theorem SwL.scopes(h:SwL l):a0b l:=λs hs=>by have hm:=h.sc s hs;exact⟨hm.nm,hm.ni,hm.nd,hm.nr⟩
theorem SmL.w(h:SmL l):SwL l:=⟨h.few,h.en,h.tb,λs hs=>by have hm:=h.sc s hs;exact⟨hm.nm,by have:=hm.ni;omega,by have:=hm.nd;omega,by have:=hm.nr;omega,hm.fo,λr hr=>(hm.ro r hr).1⟩⟩
theorem KT{ε ρ:Type}{p:Nat->Option ρ}(n:Nat)(hn:n<=1000000)(e:ε){f:Int->Option (Out Int ε ρ)}
  (h1:∀i,i<n->f (i:Int)=some (match p i with|some r=> .rt r|none=> .nx (I8 .i64 (i:Int) 1))) (h2:f (n:Int)=some (.ex e)):
  X5 f 0=some (match cO n p with|some r=> .inr r|none=> .inl e):=
 JB n l9 e (λi hi=>by grind [bY]) h2
def PK(l:O6)(s:H6)(k:Nat):Option (Int×Int):=match s.2.2.2.2[k]? with|some r=>SY (EP s (ug l s) k r) (300+k:Nat)|none=>none
def b2u(s:H6)(d:Nat):Option (Int×Int):=l7 ((WO s d).any λx=>D8 (d:Int) x) (some (9,((200+d:Nat):Int))) none
def JF(l:O6)(i:Nat)(m:Int):Bool:=l7 (D8 m (-1)) false (l7 (J4 m 0) true (l7 (U7 (i:Int) m) true (match P8 l.2.2 m with|some q=>I5 (D8 q.2.1 (-1))|none=>true)))
def QE(l:O6)(s:H6):Int×Int:=match zD l s with
 |some r=>r
 |none=>match cO s.2.2.2.2.length (PK l s)with
  |some r=>r
  |none=>match cO s.2.2.2.1.length (b2u s)with
   |some r=>r|none=>(0,0)
def En(l:O6)(i:Nat)(s:H6):Int×Int:=
 l7 (gq s.1) (l7 (zl l 3 i s.1) (7,0) (l7 (JF l i s.2.1) (6,0) (l7 (J4 12 (x9 s.2.2.1)) (4,112) (l7 (J4 12 (x9 s.2.2.2.1)) (4,212) (QE l s))))) (2,0)
theorem WV{sg:O8}(h:Cj e sg t=0):e.length<=50:=by
 unfold Cj yA at h;cases hs:mJ e with
 |inl x=>
  rw[hs]at h;cases hc:D8 x.2 0<;>rw[hc]at h
  .exact absurd h (vV.1 hc)
  .exact absurd (eF.1 hc) (zk hs)
 |inr x=>have:=(qi hs).2;omega
theorem b2t{m:Nat} :∀(D:c5w),(∀x∈D,0<=x/\x<(m:Int))->(∀d:Int,D.countP (λo=>D8 o d)<=8)->D.length<=m*8:=by
 induction m with
 |zero=>
  intro D h _;cases D with
  |nil=>simp|cons a D=>have:=h a x8;omega
 |succ m ih=>
  intro D h h8;have h1:=ih (D.filter λo=>I5 (D8 o (m:Int))) (λx hx=>by
   obtain⟨hx,hn⟩:=List.mem_filter.1 hx;have:=h x hx;have hn:x≠(m:Int):=λe=>by simp_all [O0]
   omega) (λd=>by rw[List.countP_filter];refine V9 (List.countP_mono_left λx _ hx=>?_) (h8 d)<;>simp_all)
  have h2:=h8 (m:Int);have h3:∀D:c5w,D.length=D.countP (λo=>D8 o (m:Int))+(D.filter λo=>I5 (D8 o (m:Int))).length:=by
   intro D;induction D with
   |nil=>rfl|cons a D ih=>rw[List.countP_cons,qL,A8];cases D8 a (m:Int)<;>simp<;>omega
  grind
theorem Wq{sg:O8}(h:EP s sg k r=0):(∃d,P8 s.2.2.2.1 r.2.1=some d/\Jn r sg d.2=0)/\a0q (s.2.2.2.2.take k) r.2.1<8:=by
 unfold EP at h;cases g1:gq r.1<;>rw[g1]at h
 .simp_all
 cases g2:(s.2.2.2.2.take k).any λx=>seq x.1 r.1<;>rw[g2]at h
 case true=>simp_all
 simp at h;cases g3:P8 s.2.2.2.1 r.2.1 with
 |none=>simp_all|some d=>
  generalize (l7 (D8 r.2.2.1 (-1)) false (l7 (J4 r.2.2.1 0) true (l7 (U7 (k:Int) r.2.2.1) true (match P8 s.2.2.2.2 r.2.2.1 with|some q=>I5 (D8 q.2.1 r.2.1)|none=>true))))=g4 at h;cases g4
  case true=>simp_all
  cases g5:J4 r.2.2.2.1 0<;>rw[g5]at h
  case true=>simp_all
  cases g6:J4 9 r.2.2.2.1<;>rw[g6]at h
  case true=>simp_all
  cases g7:EZ r.2.2.2.2.1<;>rw[g7]at h
  .simp_all
  cases g8:D8 r.2.2.2.2.1.1 r.2.2.2.2.1.2<;>rw[g8]at h
  case true=>simp_all
  cases g9:U7 8 (a0q (s.2.2.2.2.take k) r.2.1:Int)<;>rw[g9]at h
  case true=>simp_all
  cases g10:QY r.2.2.2.2.2.2.2<;>rw[g10]at h
  .simp_all
  simp at h;have:=Nl.1 g9
  grind
theorem a6I{sg:O8}(h:Jn r sg t=0):r.2.2.2.2.2.1.length<=50/\r.2.2.2.2.2.2.1.length<=50:=by
 unfold Jn at h;cases g:J4 0 (x9 r.2.2.2.2.2.1)<;>rw[g]at h
 .have:=mf.1 g;unfold x9 at this;exact⟨l9,WV h⟩
 .cases g2:D8 (Cj r.2.2.2.2.2.1 sg (1,0)) 0<;>rw[g2]at h
  .exact absurd h (vV.1 g2)
  .exact⟨WV (eF.1 g2),WV h⟩
theorem b0X(hw:SwS s)(h1:s.2.2.1.length<=12)(h2:s.2.2.2.1.length<=12)(h:cO s.2.2.2.2.length (PK l s)=none):SmS s:=by
 have hz:∀(k:Nat) (r:U3),s.2.2.2.2[k]? =some r->EP s (ug l s) k r=0:=λk r hr=>by
  have:=rC h k (aJ.1 hr).1;unfold PK at this;rw[hr]at this;unfold SY at this;simp only at this;cases g:D8 (EP s (ug l s) k r) 0<;>rw[g]at this
  .simp_all
  .exact eF.1 g
 have hk:∀k,k<=s.2.2.2.2.length->∀d:Int,((s.2.2.2.2.take k).map λ(o:U3)=>o.2.1).countP (λo=>D8 o d)<=8:=by
  intro k;induction k with
  |zero=>simp|succ k ih=>
   intro hk d;have e:=qC (show k<s.2.2.2.2.length by omega);have h3:=(Wq (hz k _ e)).2;unfold a0q at h3;have h4:=ih l9 d;rw[aO l9,rF,List.countP_append];rw[List.countP_map]at h4 ⊢;by_cases hd:(s.2.2.2.2[k]).2.1=d
   .have e5:List.countP ((λ(o:Int)=>D8 o d)∘λ(o:U3)=>o.2.1) (s.2.2.2.2.take k)=(s.2.2.2.2.take k).countP λ(o:U3)=>D8 o.2.1 (s.2.2.2.2[k]).2.1:=by rw[hd];rfl
    grind
   grind [J8]
 have h8:=hk s.2.2.2.2.length (E5 _);rw[iL]at h8;have hc:=b2t (m:=12) (s.2.2.2.2.map λ(o:U3)=>o.2.1) (λx hx=>by obtain⟨r,hr,rfl⟩:=P9.1 hx;obtain⟨k,hk,e⟩:=bP hr;obtain⟨⟨d,hd,-⟩,-⟩:=Wq (hz k r (by simp_all));obtain⟨a,b,-⟩:=ng hd<;>grind [x9]) h8
 rw[jd]at hc;refine⟨hw.nm,l9,l9,l9,hw.fo,λr hr=>⟨hw.ro r hr,?_⟩⟩;obtain⟨k,hk,e⟩:=bP hr;obtain⟨⟨d,-,hd⟩,-⟩:=Wq (hz k r (by simp_all));exact a6I hd
theorem Xe(hL:SwL l){i:Nat}(hs:l.2.2[i]? =some s):zJ l (i:Int)=some (En l i s):=by
 have hi:=(aJ.1 hs).1;have hS:=hL.sc s (rD hs);have hf:=hL.few;have hf1:=hf.1;have hf2:=hf.2.1;have hf3:=hf.2.2;have n3:=hS.nr;unfold zJ En zl;rw[O5,hs,o9,yV l9,o9,Nj _ l9,o9,Ry _ l9,o9,a0K _ H7,o9];have hb:(l7 (l.1.any λx=>seq x.1 s.1) (some (s,true)) (l7 (l.2.1.any λx=>seq x.1 s.1) (some (s,true)) (some (s,(l.2.2.take i).any λx=>seq x.1 s.1))))=
   some (s,(l.1.any λx=>seq x.1 s.1) || (l.2.1.any λx=>seq x.1 s.1) || (l.2.2.take i).any λx=>seq x.1 s.1):=by
  cases l.1.any λx=>seq x.1 s.1
  .cases l.2.1.any λx=>seq x.1 s.1<;>rfl
  .rfl
 rw[hb,o9];rw[qV hS.nm,o9];cases gq s.1
 .rfl
 cases (l.1.any λx=>seq x.1 s.1) || (l.2.1.any λx=>seq x.1 s.1) || (l.2.2.take i).any λx=>seq x.1 s.1
 case true=>rfl
 have hm:(l7 (I5 (D8 s.2.1 (-1))) (l7 (J4 s.2.1 0) (some true) (l7 (U7 (i:Int) s.2.1) (some true) (o5 (P8 (l.2.2.take i) s.2.1) λ(x:H6)=>some (I5 (D8 x.2.1 (-1)))))) (some false))=some (JF l i s.2.1):=by
  unfold JF;cases D8 s.2.1 (-1)
  case true=>rfl
  cases h0:J4 s.2.1 0
  case true=>rfl
  cases h1:U7 (i:Int) s.2.1
  case true=>rfl
  rw[mf]at h0;rw[Nl]at h1;obtain⟨q,hq,_⟩:=tH (l:=l.2.2.take i) h0 (by simp only[x9,fV];omega);have hq2:P8 l.2.2 s.2.1=some q:=by have:=(ng hq).2.2.2;unfold P8;rw[if_pos h0];exact(b1J this).2
  rw[hq,hq2];rfl
 rw[hm,o9];cases JF l i s.2.1
 case true=>rfl
 cases g12:J4 12 (x9 s.2.2.1)
 case true=>rfl
 cases g13:J4 12 (x9 s.2.2.2.1)
 case true=>rfl
 have m1:s.2.2.1.length<=12:=by have:=mf.1 g12;unfold x9 at this;omega
 have m2:s.2.2.2.1.length<=12:=by have:=mf.1 g13;unfold x9 at this;omega
 unfold QE zD;refine V6 (KT (p:=inP l s) s.2.2.1.length l9 PUnit.unit (λk hk=>?_) ?_) ?_
 rotate_left 2
 .cases cO s.2.2.1.length (inP l s)
  case some r=>rfl
  refine V6 (KT (p:=a0s l s) s.2.2.2.1.length l9 PUnit.unit (λk hk=>?_) ?_) ?_
  rotate_left 2
  .cases cO s.2.2.2.1.length (a0s l s)
   case some r=>rfl
   rw[NR hL.scopes hs,o9];refine V6 (KT (p:=PK l s) s.2.2.2.2.length l9 PUnit.unit (λk hk=>?_) ?_) ?_
   rotate_left 2
   .cases hfr:cO s.2.2.2.2.length (PK l s)
    case some r=>rfl
    have hS:=b0X hS m1 m2 hfr;refine V6 (KT (p:=b2u s) s.2.2.2.1.length l9 PUnit.unit (λk hk=>?_) ?_) ?_
    rotate_left 2
    .cases cO s.2.2.2.1.length (b2u s)<;>rfl
    .have e:=qC hk;simp only[U0 e,o7];rw[Xy hS l9 (by show(k:Int)<x9 s.2.2.2.1;simp only[x9];omega),o9,a6O _ (by
      have:=a3d hS (YJ s (k:Int)).1 (λx hx=>b1S hx);omega),o9,show(200:Int)=((200:Nat):Int)from rfl,a5e l9 l9]
     unfold b2u;cases (WO s (k:Int)).any λx=>D8 (k:Int) x<;>rfl
    .rw[Y1];rfl
   .have e:=qC hk;have hr:=hS.ro _ (aK hk);simp only[U0 e,o7];rw[Ze _ e l9 hr,o9,show(300:Int)=((300:Nat):Int)from rfl,a5e l9 l9];simp only[PK,e,SY];cases D8 (EP s (ug l s) k s.2.2.2.2[k]) 0<;>rfl
   .rw[Y1];rfl
  .have e:=qC hk;have hm:=hS.fo.2 _ (aK hk);simp only[U0 e,o7,O5,e,o9];rw[yV l9,o9,LW hm l9 H7,o9,show(200:Int)=((200:Nat):Int)from rfl,a5e l9 l9];simp only[a0s,e,SY];cases D8 (Fb l.1 s.2.2.2.1[k] s.2.2.1 (s.2.2.2.1.take k)) 0<;>rfl
  .rw[Y1];rfl
 .have e:=qC hk;have hm:=hS.fo.1 _ (aK hk);simp only[U0 e,o7,O5,e,o9];rw[yV l9,o9,LW hm (by grind) x8,o9,show(100:Int)=((100:Nat):Int)from rfl,a5e l9 l9];simp only[inP,e,SY];cases D8 (Fb l.1 s.2.2.1[k] (s.2.2.1.take k) []) 0<;>rfl
 .rw[Y1];rfl
theorem XQ{c e:Int}{r:Int×Int}(h:SY c e=some r):r.1≠0:=by
 unfold SY at h;cases hc:D8 c 0<;>rw[hc]at h
 .cases h;exact vV.1 hc
 .cases h
theorem Jp{r:Int×Int}(h:zD l s=some r):r.1≠0:=by
 grind [zD,nN,inP,XQ,a0s]
def Io(l:O6)(i:Nat):Option (Int×Int×Int×Int):=match l.2.2[i]? with|some s=>MX 3 i (En l i s)|none=>none
def Lr(l:O6):Int×Int×Int×Int:=l7 (J4 4 (x9 l.2.2)) (4,3,4,0) (match cO l.2.2.length (Io l)with|some r=>r|none=>(0,0,0,0))
def gQ(l:O6):Int×Int×Int×Int:=l7 (D8 (Az l).1 0) (l7 (D8 (yz l).1 0) (Lr l) (yz l)) (Az l)
theorem UD(hL:SwL l):yj l=some (Lr l):=by
 have hf:=hL.few.2.2;unfold yj Lr;cases J4 4 (x9 l.2.2)
 case true=>rfl
 refine V6 (Jr (p:=Io l) l.2.2.length l9 _ (0,0,0,0) (λi hi=>?_) ?_) ?_
 rotate_left 2
 .cases cO l.2.2.length (Io l)<;>rfl
 .have e:=qC hi;simp[U0 e,o7,Xe hL e,o9,Io,e,MX];cases D8 (En l i l.2.2[i]).1 0<;>rfl
 simp[Y1]
theorem K_(hL:SwL l):uN l=some (gQ l):=by
 unfold uN gQ;rw[Xd hL.few hL.en,o9];cases D8 (Az l).1 0
 .rfl
 rw[UE hL.few hL.tb,o9];cases D8 (yz l).1 0<;>simp_all [UD]
theorem SK(hL:SmL l):uN l=some (gQ l):=K_ hL.w
theorem KQ{k i:Int}{c:Int×Int}{r:Int×Int×Int×Int}(h:MX k i c=some r):r.1≠0:=by
 unfold MX at h;cases hc:D8 c.1 0<;>rw[hc]at h
 .cases h;exact vV.1 hc
 .cases h
def hw(W:c5w)(d:Int):Int:=W.getD d.toNat 0
end Go.GP
namespace Gt
open Go Go.GP
def il(y:Int):Bool:=if y % 4=0 then(if y % 100≠0 then true else decide (y % 400=0))else false
def ys(y:Int):Int:=(y -1900)*365+((y -1) / 4 -(y -1) / 100+(y -1) / 400) -460
def diy(y:Int):Int:=if il y then 366 else 365
theorem EW(y:Int):ys (y+1)=ys y+diy y:=by
 grind [ys,diy,il]
theorem c5c(a b:Int):a<b\/b<=a:=l9
theorem a2J(y:Int):365<=diy y/\diy y<=366:=by grind [diy]
theorem Ub{y y' :Int}(h:y<=y'):ys y<=ys y' :=by
 obtain⟨n,rfl⟩:∃n:Nat,y' =y+n:=⟨(y' -y).toNat,l9⟩;induction n with
 |zero=>simp|succ n ih=>
  have:=EW (y+n);have:=a2J (y+n)
  grind
variable {y:Int}
theorem YN(h:1900<=y):0<=ys y:=by
 grind [ys]
theorem a7X{y y' d:Int}(h1:ys y<=d)(h2:d<ys (y+1))(h3:ys y' <=d)(h4:d<ys (y' +1)):y=y' :=by
 rcases Int.lt_trichotomy y y' with h|h|h
 .have:=Ub (y:=y+1) (y' :=y') l9;omega
 .omega
 .have:=Ub (y:=y' +1) (y' :=y) l9;omega
def dim(y m:Int):Int:=
 if m=2 then(if il y then 29 else 28)else if m=4\/m=6\/m=9\/m=11 then 30 else 31
theorem MV(y m:Int):28<=dim y m/\dim y m<=31:=by
 grind [dim]
theorem Jf(h:0<=y):Eu y=some (il y):=by
 unfold Eu il;simp[BD h];by_cases h4:y % 4=0
 .by_cases h100:y % 100=0<;>simp_all [D8]
 simp_all [J8]
theorem IM(h:0<=y):Ie y=some (il y):=Jf h
theorem LG(h:0<=y):qo y=some (diy y):=by unfold qo diy;rw[IM h];cases il y<;>rfl
variable {m:Int}
theorem m12(h:1<=m/\m<=12):m=1\/m=2\/m=3\/m=4\/m=5\/m=6\/m=7\/m=8\/m=9\/m=10\/m=11\/m=12:=l9
theorem xM(h:0<=y)(hm:1<=m/\m<=12):kP y m=some (dim y m):=by
 unfold kP;rcases m12 hm with rfl|rfl|rfl|rfl|rfl|rfl|rfl|rfl|rfl|rfl|rfl|rfl
 all_goals first|rfl|(rw[Jf h];unfold dim;cases il y<;>rfl)
theorem JM(h:0<=y)(hm:1<=m/\m<=12):oD y m=some (dim y m):=by
 unfold oD;rcases m12 hm with rfl|rfl|rfl|rfl|rfl|rfl|rfl|rfl|rfl|rfl|rfl|rfl
 all_goals first|rfl|(rw[IM h];unfold dim;cases il y<;>rfl)
theorem Ew(h:0<=y)(h2:y<=1000000):wM y=some (y / 4 -y / 100+y / 400):=by
 grind [wM,dh,Es,fP,bI,cZ]
theorem zy(h:1<=y)(h2:y<=1000000):qy y=some (ys y):=by unfold qy;have e1:L6 .i64 y 1900=y -1900:=bI (by grind [fP]);have e2:Qw .i64 (y -1900) 365=(y -1900)*365:=Jv (by grind [fP]);rw[bI (by grind [fP]),Ew l9 l9,o9,Ew l9 l9,o9,e1,e2,cZ (by grind [fP]),bI (by grind [fP])];simp[ys]
def mo(y:Int):Nat->Int->Int×Int
 |0,d=>(d,13)|n+1,d=>if d<dim y (12 -n)then(d,12 -n)else mo y n (d -dim y (12 -n))
theorem ZK(y:Int)(n:Nat)(d:Int):mo y (n+1) d=if d<dim y (12 -(n:Int))then(d,12 -(n:Int))else mo y n (d -dim y (12 -(n:Int))):=rfl
def rem(y:Int):Nat->Int
 |0=>0|n+1=>dim y (12 -n)+rem y n
theorem a1y(y:Int):rem y 12=diy y:=by unfold diy;cases h:il y<;>simp[rem,dim,h]
theorem a5t(y:Int):∀(n:Nat) (d:Int),n<=12->0<=d->d<rem y n->1<=(mo y n d).2/\(mo y n d).2<=12/\0<=(mo y n d).1/\(mo y n d).1<dim y (mo y n d).2
 |0,d,_,h0,h=>by grind [rem]|n+1,d,hn,h0,h=>by
  unfold mo;by_cases hd:d<dim y (12 -n)
  .grind
  .rw[if_neg hd];refine a5t y n _ l9 l9 ?_<;>grind [rem]
def yOf(d:Int):Int:=((((List.range 300).find? (λ(k:Nat)=>decide (d<ys (1900+(k:Int)+1)))).getD 0:Nat):Int)+1900
variable {d:Int}
theorem KC(h0:0<=d)(h:d<=109572):1900<=yOf d/\yOf d<=2199/\ys (yOf d)<=d/\d<ys (yOf d+1):=by
 unfold yOf;cases hf:(List.range 300).find? (λ(k:Nat)=>decide (d<ys (1900+(k:Int)+1)))with
 |none=>
  have:=List.find?_eq_none.1 hf 299 x8
  grind [ys]
 |some k=>
  have h2:=List.mem_of_find?_eq_some hf;simp at h2;simp;refine⟨l9,l9,?_,?_⟩
  .cases k with
   |zero=>simp_all [ys]|succ j=>
    have h3:=List.find?_range_eq_some.1 hf
    grind
  grind
def ymd(d:Int):Int×Int×Int:=let y:=yOf d;let r:=mo y 12 (d -ys y);(y,r.2,r.1+1)
theorem Xg(h0:0<=d)(h:d<=109572):GR d=some (ymd d):=by
 obtain⟨y1,y2,y3,y4⟩:=KC h0 h;have y0:=YN y1;unfold GR DI;rw[og (Y7 h0),o9,Y7 h,F5,o6];have e0:I8 .i64 1900 (dh .i64 d 366)=1900+d / 366:=by
  have e:dh .i64 d 366=d / 366:=by rw[OD (by grind [fP]),uk h0]
  grind [cZ,fP]
 rw[e0];obtain⟨y,hy,hq⟩:=su (f:=λ(x:Int)=>o5 (qy (I8 IntKind.i64 x 1)) λ(x_1:Int)=>l7 (U7 x_1 d) (some (Sum.inl (I8 IntKind.i64 x 1))) (some (Sum.inr x))) (s:=1900+d / 366)
  (λy=>1900<=y/\y<=yOf d) (λy=>y=yOf d) (λy=>(2200 -y).toNat) (by
   refine⟨l9,?_⟩;have e:∀n:Nat,ys (1900+n)<=366*n:=by
    intro n;induction n with
    |zero=>decide+kernel|succ n ih=>
     have:=EW (1900+n);have:=a2J (1900+n)
     grind
   have e1:=e (d / 366).toNat
   have e2:((d / 366).toNat:Int)=d / 366:=l9;rw[e2]at e1;rcases c5c (yOf d) (1900+d / 366)with hlt|hge
   .have:=Ub (y:=yOf d+1) (y' :=1900+d / 366) l9;omega
   omega) l9 (by
   intro y ⟨hy1,hy2⟩
   try simp only
   rw[cZ (by grind [fP]),zy l9 l9,o9]
   grind [ys,og,Y7,sK,dA])
 rw[hy,o9,zy l9 l9,o9,bI (by grind [fP])];have hs:=EW (yOf d);have hr:=a1y (yOf d);rcases DY (f:=λ(x:Int×Int)=>l7 (J4 x.2 12) (o5 (kP (yOf d) (I8 IntKind.i64 x.2 1)) λ(x_1:Int)=>l7 (J4 x.1 x_1) (some (Out.rt (yOf d,I8 IntKind.i64 x.2 1,I8 IntKind.i64 x.1 1))) (some (Out.nx (L6 IntKind.i64 x.1 x_1,I8 IntKind.i64 x.2 1)))) (some (Out.ex PUnit.unit))) (s:=(d -ys (yOf d),0))
  (λs=>∃n:Nat,n<=12/\s.2=12 -n/\mo (yOf d) n s.1=mo (yOf d) 12 (d -ys (yOf d))/\0<=s.1/\s.1<rem (yOf d) n/\s.1<=400) (λ_=>False) (λr=>r=ymd d) (λs=>(12 -s.2).toNat)
  ⟨12,l9,x8,rfl,l9,l9,by grind [ys]⟩ x8 (by
   rintro⟨r,i⟩ ⟨n,hn,hi,hm,hr0,hrn,hr4⟩;cases n with
   |zero=>grind [rem]|succ n=>
    have ei:i+1=12 -n:=l9;rw[og (dE l9),cZ (by grind [fP]),ei,xM l9 l9,o9];have hb:=MV (yOf d) (12 -n);rw[ZK (yOf d) n r]at hm;by_cases hlt:r<dim (yOf d) (12 -n)
    .grind [og,dE,cZ,fP,ymd]
    .rw[if_neg hlt]at hm;refine .inl ⟨_,by rw[sK (Y0 l9),bI lm],⟨n,l9,x8,hm,?_,?_,?_⟩,?_⟩<;>grind [rem])with⟨_,_,hf⟩|⟨r,he,hr⟩
 .grind
 simp_all
theorem VX(h0:0<=d)(h:d<=109572):JO d=some (ymd d):=by
 obtain⟨y1,y2,y3,y4⟩:=KC h0 h;have y0:=YN y1;unfold JO EK;rw[og (Y7 h0),o9,Y7 h,F5,o6];obtain⟨⟨r,y⟩,hy,hq⟩:=su (f:=λ(x:Int×Int)=>o5 (qo x.2) λ(x_1:Int)=>l7 (U7 x_1 x.1) (o5 (qo x.2) λ(x_2:Int)=>some (Sum.inl (L6 IntKind.i64 x.1 x_2,I8 IntKind.i64 x.2 1))) (some (Sum.inr x))) (s:=(d,1900))
  (λs=>1900<=s.2/\s.2<=yOf d/\s.1=d -ys s.2) (λs=>s=(d -ys (yOf d),yOf d)) (λs=>(2200 -s.2).toNat)
  ⟨x8,l9,by simp[ys]⟩ x8 (by
   rintro⟨r,y⟩ ⟨h1,h2,h3⟩;simp only at h1 h2 h3 ⊢;have hb:=a2J y;have hs:=EW y;have hm:=Ub h2;have hpos:0<=ys y:=by grind [ys]
   rw[LG l9,o9];by_cases hle:diy y<=r
   .grind [og,Y7,o9,bI,fP,cZ]
   .refine .inr ⟨_,by rw[sK (dA l9)],?_⟩;have e:y=yOf d:=a7X (d:=d) l9 l9 y3 y4;simp_all)
 rw[hy,o9,hq]
 try simp only
 have hs:=EW (yOf d);have hr:=a1y (yOf d);obtain⟨⟨r,m⟩,he,hq2⟩:=su (f:=λ(x:Int×Int)=>o5 (oD (yOf d) x.2) λ(x_1:Int)=>l7 (U7 x_1 x.1) (o5 (oD (yOf d) x.2) λ(x_2:Int)=>some (Sum.inl (L6 IntKind.i64 x.1 x_2,I8 IntKind.i64 x.2 1))) (some (Sum.inr x))) (s:=(d -ys (yOf d),1))
  (λs=>∃n:Nat,n<=12/\s.2=13 -n/\mo (yOf d) n s.1=mo (yOf d) 12 (d -ys (yOf d))/\0<=s.1/\s.1<rem (yOf d) n/\s.1<=400) (λs=>s=mo (yOf d) 12 (d -ys (yOf d))) (λs=>(13 -s.2).toNat)
  ⟨12,l9,x8,rfl,l9,l9,by grind [ys]⟩ x8 (by
   rintro⟨r,i⟩ ⟨n,hn,hi,hm,hr0,hrn,hr4⟩;cases n with
   |zero=>grind [rem]|succ n=>
    have ei:i=12 -n:=l9;subst ei;rw[JM l9 l9,o9];have hb:=MV (yOf d) (12 -n);rw[ZK (yOf d) n r]at hm;by_cases hlt:r<dim (yOf d) (12 -n)
    .simp_all [dA]
    .rw[if_neg hlt]at hm;refine .inl ⟨(r -dim (yOf d) (12 -n),12 -n+1),by grind [og,Y7,o9,bI,fP,cZ],⟨n,l9,l9,hm,?_,?_,?_⟩,?_⟩
     all_goals grind [rem])
 rw[he,o9,hq2];have hb:=a5t (yOf d) 12 (d -ys (yOf d)) l9 l9 l9;have hb2:=MV (yOf d) (mo (yOf d) 12 (d -ys (yOf d))).2;rw[cZ (by grind [fP])];rfl
theorem WX(h0:0<=d)(h:d<=109572):1900<=(ymd d).1/\(ymd d).1<=2199/\1<=(ymd d).2.1/\(ymd d).2.1<=12/\1<=(ymd d).2.2/\(ymd d).2.2<=31:=by
 obtain⟨y1,y2,y3,y4⟩:=KC h0 h;have hs:=EW (yOf d);have hb:=a5t (yOf d) 12 (d -ys (yOf d)) l9 l9 (by grind [a1y]);have hb2:=MV (yOf d) (mo (yOf d) 12 (d -ys (yOf d))).2
 grind [ymd]
end Gt
namespace Go.GP
open Gt
set_option maxRecDepth 100000
def Hr(y:Int):Nat->Int
 |0=>0|k+1=>Hr y k+dim y ((k:Int)+1)
def b9C(y m d:Int):Int:=ys y+Hr y (m -1).toNat+d -1
theorem ZL(y:Int):∀k:Nat,k<=12->28*k<=Hr y k/\Hr y k<=31*k
 |0,_=>by simp[Hr]|k+1,h=>by
  have:=ZL y k l9;have:=MV y ((k:Int)+1)
  grind [Hr]
theorem c4R{y:Int}(h:1900<=y)(h2:y<=2200):0<=ys y/\ys y<=109573:=by
 grind [ys]
theorem a2V{y m d:Int}(hy:1900<=y/\y<=2199)(hm:1<=m/\m<=12)(h1:1<=d)(h2:d<=dim y m):zx y m d=some (b9C y m d,0):=by
 have hyb:=c4R hy.1 l9;have hdb:=MV y m;unfold zx;rw[Y0 hy.1,o6,Y0 hy.2,o6,Y0 hm.1,o6,Y0 hm.2,o6,Y0 h1,o6,xM l9 hm,o9,Y0 h2,o6,o9,zy l9 l9];have hs:L6 .i64 m 1=m -1:=bI (by grind [fP]);obtain⟨e,k1,k2⟩:=su (f:=λ(x:Int×Int)=>l7 (J4 x.2 (L6 .i64 m 1)) (o5 (kP y (I8 .i64 x.2 1)) λ(x_1:Int)=>some (.inl (I8 .i64 x.1 x_1,I8 .i64 x.2 1))) (some (.inr x.1)))
  (s:=(ys y,0)) (λx=>∃i:Nat,x=(ys y+Hr y i,(i:Int))/\(i:Int)<=m -1) (λe=>e=ys y+Hr y (m -1).toNat) (λx=>(m -1 -x.2).toNat) ⟨0,by simp[Hr],l9⟩ l9 (by
  rintro x ⟨i,rfl,hi⟩;by_cases hlt:(i:Int)<m -1
  .have hb:=ZL y i l9;have hd:=MV y ((i:Int)+1);left;refine⟨(ys y+Hr y (i+1),((i+1:Nat):Int)),?_,⟨i+1,rfl,l9⟩,l9⟩<;>grind [Hr,dE,o7,xM,o9,cZ,fP]
  .have:i=(m -1).toNat:=l9;simp_all [Y0])
 refine(a1g k1 _).trans ?_;have hb:=ZL y (m -1).toNat l9;rw[k2,cZ (by grind [fP]),bI (by grind [fP])];rfl
def q1(q:Int)(u:Bool):Int:=l7 u (q+1) q
def sg(q:Int)(neg:Bool):Int:=l7 neg (-q) q
def a8b(r:zq):Prop:=fP r.2.1/\fP r.2.2.1/\fP r.2.2.2
def b6a(t:aP):Prop:=t.2.2.2.length<=200/\∀r∈t.2.2.2,a8b r
abbrev V3:Type:=Int×Int×Int
theorem Qv{α β ρ:Type}(G:β->α->β⊕ρ)(P:ρ->Prop)(hG:∀b a r,G b a= .inr r->P r):∀(l:List α) (b:β) (r:ρ),ww G l b= .inr r->P r
 |[],b,r,h=>by cases h|a::l,b,r,h=>by
  unfold ww at h;cases hg:G b a with
  |inr r' =>rw[hg]at h;simp only at h;cases h;exact hG _ _ _ hg|inl b' =>rw[hg]at h;exact Qv G P hG l b' r h
theorem b6e:∀i:Fin 40,(arF ((i.1:Nat):Int)=0->i.1∈[1,2,3,4,5,6,7,8,9,35,36,37,38,39])/\(arF ((i.1:Nat):Int)=1->i.1∈[10,25,31,32,33,34])/\(arF ((i.1:Nat):Int)=2->i.1∈[11,12,13,14,15,16,17,18,19,20,21,22,23,24,27,28,29,30])/\(arF ((i.1:Nat):Int)=3->i.1=26):=by decide+kernel
variable {k:Int}
theorem b9v(h:k<1\/39<k):arF k=-1:=by
 unfold arF qf;rw[J8 l9,J8 l9,J8 (show k≠31 by omega),J8 l9,J8 (show k≠33 by omega),J8 (show k≠34 by omega),J8 l9];rcases h with h|h
 .rw[dA l9,dA (show k<35 by omega),dA (show k<11 by omega)];rfl
 .rw[Y7 l9,dA l9,Y7 l9,dA l9,Y7 l9,dA l9];rfl
theorem c4T(h:arF k≠-1):∃i:Fin 40,k=((i.1:Nat):Int):=by
 by_cases g:1<=k/\k<=39
 .exact⟨⟨k.toNat,l9⟩,by grind⟩
 grind [b9v]
def XT.node:XT->Int×Int
 | .l0 n=>n| .l1 n _=>n| .l2 n _ _=>n| .l3 n _ _ _=>n
def rtI(t:XT)(o:Nat):Nat:=o+t.size -1
def At(e:List (Int×Int))(S:c5w)(t:XT)(o:Nat):Prop:=∃pre suf S1 S2,e=pre++t.post++suf/\S=S1++t.sts o++S2/\pre.length=o/\S1.length=o
variable {n:Nat}
theorem a6W{σ ε:Type}{f:σ->Option (σ⊕ε)}{s s' :σ}(h:f s=some (.inl s')):wW f (n+1) s=wW f n s' :=by rw[wW,h]
theorem QA{σ ε:Type}{f:σ->Option (σ⊕ε)}{s:σ}{e:ε}(h:f s=some (.inr e)):wW f (n+1) s=some e:=by rw[wW,h]
abbrev VSt:Type:=V3×List V3×Int
structure VStep (ops:c5w) (ev:Int->Option (V3×Int)) (pad:List V3->List V3) (f:VSt->Option (Out VSt (V3×List V3) (V3×Int))):Prop where
 step:∀(l:List V3) (c:Int) (r:V3×Int),ops[l.length]? =some c->ev c=some r->f ((0,0,0),pad l,(l.length:Int))=some (l7 (D8 r.2 0) (.nx ((0,0,0),pad (l++[r.1]),((l.length+1:Nat):Int))) (.rt ((0,0,0),r.2)))
 stop:∀(l:List V3),l.length=ops.length->f ((0,0,0),pad l,(l.length:Int))=some (.ex ((0,0,0),l))
section
variable {ev:Int->Option (V3×Int)} {pad:List V3->List V3} {f:VSt->Option (Out VSt (V3×List V3) (V3×Int))}
theorem v0(h:VStep [] ev pad f):X5 f ((0,0,0),pad [],0)=some (.inl ((0,0,0),[])):=by obtain⟨k,hk⟩:∃k,au=k+1:=⟨au -1,by unfold au;omega⟩;unfold X5;rw[hk,fQ,show f ((0,0,0),pad [],0)=some (.ex ((0,0,0),[]))from h.stop [] rfl]
theorem v1{c:Int}{r:V3×Int}(h:VStep [c] ev pad f)(h1:ev c=some r):X5 f ((0,0,0),pad [],0)=some (l7 (D8 r.2 0) (.inl ((0,0,0),[r.1])) (.inr ((0,0,0),r.2))):=by
 obtain⟨k,hk⟩:∃k,au=k+1+1:=⟨au -2,by unfold au;omega⟩;unfold X5;rw[hk,fQ,show f ((0,0,0),pad [],0)=_ from h.step [] c r rfl h1];cases D8 r.2 0
 .rfl
 .simp only[o7];rw[fQ,show f ((0,0,0),pad ([]++[r.1]),(([].length+1:Nat):Int))=_ from h.stop [r.1] rfl]
theorem v2{c d:Int}{r q:V3×Int}(h:VStep [c,d] ev pad f)(h1:ev c=some r)(h2:ev d=some q):X5 f ((0,0,0),pad [],0)=some (l7 (D8 r.2 0) (l7 (D8 q.2 0) (.inl ((0,0,0),[r.1,q.1])) (.inr ((0,0,0),q.2))) (.inr ((0,0,0),r.2))):=by
 obtain⟨k,hk⟩:∃k,au=k+1+1+1:=⟨au -3,by unfold au;omega⟩;unfold X5;rw[hk,fQ,show f ((0,0,0),pad [],0)=_ from h.step [] c r rfl h1];cases D8 r.2 0
 .rfl
 .simp only[o7];rw[fQ,show f ((0,0,0),pad ([]++[r.1]),(([].length+1:Nat):Int))=_ from h.step [r.1] d q rfl h2];cases D8 q.2 0
  .rfl
  .simp only[o7];rw[fQ,show f ((0,0,0),pad ([r.1]++[q.1]),(([r.1].length+1:Nat):Int))=_ from h.stop [r.1,q.1] rfl]
end
theorem b6f(h:arF k=3):k=26:=by obtain⟨i,rfl⟩:=c4T (by rw[h];decide);rw[(b6e i).2.2.2 h];rfl
theorem a8j{e:List (Int×Int)}{t:XT}(h:mJ e= .inr t):At e (t.sts 0) t 0/\e.length<=48/\e.length=t.size/\L6 .i64 (x9 e) 1=(rtI t 0:Int):=by
 obtain⟨hp,h48⟩:=qi h;have hsz:e.length=t.size:=by rw[hp,XT.post_len]
 have hpos:=t.size_pos;refine⟨⟨[],[],[],[],by simp[←hp],x8,rfl,rfl⟩,h48,hsz,?_⟩;rw[bI (by unfold fP x9;omega)];unfold x9 rtI;omega
variable {l:O6}{i:Nat}{s:H6}
theorem WT(h:(gQ l).1=0)(hs:l.2.2[i]? =some s):(En l i s).1=0:=by
 unfold gQ at h;cases h1:D8 (Az l).1 0<;>rw[h1]at h
 .simp only[o6]at h;rw[O0 h]at h1;cases h1
 cases h2:D8 (yz l).1 0<;>rw[h2]at h
 .simp only[o7,o6]at h;rw[O0 h]at h2;cases h2
 simp only[o7]at h;unfold Lr at h;cases h3:J4 4 (x9 l.2.2)<;>rw[h3]at h
 case true=>exact absurd (show(4:Int)=0 from h) C9
 simp only[o6]at h;have hi:=(aJ.1 hs).1;cases hf:cO l.2.2.length (Io l)with
 |some r=>
  rw[hf]at h;simp only at h;obtain⟨j,hj,hp⟩:=nN hf;unfold Io at hp;cases hq:l.2.2[j]? with
  |none=>rw[hq]at hp;cases hp|some q=>
   rw[hq]at hp;simp only at hp;unfold MX at hp;exact absurd h (by cases he:D8 (En l j q).1 0<;>rw[he]at hp<;>cases hp;simp only;intro h4;rw[O0 h4]at he;cases he)
 |none=>
  have hn:=rC hf i hi;unfold Io at hn;rw[hs]at hn;simp only at hn;unfold MX at hn;cases he:D8 (En l i s).1 0<;>rw[he]at hn
  .cases hn
  exact eF.1 he
theorem YK(h:(gQ l).1=0)(hs:l.2.2[i]? =some s):JF l i s.2.1=false/\(QE l s).1=0:=by
 have he:=WT h hs;unfold En at he;cases g1:gq s.1<;>rw[g1]at he
 .exact absurd (show(2:Int)=0 from he) C9
 cases g2:zl l 3 i s.1<;>rw[g2]at he
 case true=>exact absurd (show(7:Int)=0 from he) C9
 cases g3:JF l i s.2.1<;>rw[g3]at he
 case true=>exact absurd (show(6:Int)=0 from he) C9
 cases g4:J4 12 (x9 s.2.2.1)<;>rw[g4]at he
 case true=>exact absurd (show(4:Int)=0 from he) C9
 cases g5:J4 12 (x9 s.2.2.2.1)<;>rw[g5]at he
 case true=>exact absurd (show(4:Int)=0 from he) C9
 exact⟨rfl,he⟩
theorem eY{α:Type}{l:List α}(h:J4 (n:Int) (x9 l)=false):l.length<=n:=by rw[mf]at h;unfold x9 at h;omega
def Mc(r:U3):Bool:=l7 (J4 80 (x9 r.1)) true (l7 (J4 80 (x9 r.2.2.2.2.2.2.2)) true (l7 (J4 50 (x9 r.2.2.2.2.2.1)) true (J4 50 (x9 r.2.2.2.2.2.2.1))))
def smS(s:H6):Bool:=l7 (J4 80 (x9 s.1)) false (l7 (J4 14 (x9 s.2.2.1)) false (l7 (J4 14 (x9 s.2.2.2.1)) false (l7 (J4 60 (x9 s.2.2.2.2)) false
 (l7 (s.2.2.1.any λf=>J4 80 (x9 f.1)) false (l7 (s.2.2.2.1.any λf=>J4 80 (x9 f.1)) false (I5 (s.2.2.2.2.any Mc)))))))
theorem UT{fs:List dO}(h:fs.length<=1000000):X5 (λ(x:Int)=>l7 (J4 x (x9 fs)) (o5 (P8 fs x) λ(x_1:dO)=>l7 (J4 80 (x9 x_1.1)) (some (Out.rt false)) (some (Out.nx (I8 IntKind.i64 x 1)))) (some (Out.ex PUnit.unit))) 0=some (bif fs.any (λf=>J4 80 (x9 f.1))then .inr false else .inl PUnit.unit):=by
 refine Tz fs (λf=>J4 80 (x9 f.1)) false PUnit.unit h (λi a ha=>?_) ?_
 .simp only[U0 ha,o7,O5,ha,o9];cases J4 80 (x9 a.1)<;>rfl
 .rw[Y1];rfl
theorem Xw(s:H6):yw s=some (smS s):=by
 unfold yw smS;cases h1:J4 80 (x9 s.1)
 case true=>rfl
 cases h2:J4 14 (x9 s.2.2.1)
 case true=>rfl
 cases h3:J4 14 (x9 s.2.2.2.1)
 case true=>rfl
 cases h4:J4 60 (x9 s.2.2.2.2)
 case true=>rfl
 have l2:=eY (n:=14) h2;have l3:=eY (n:=14) h3;have l4:=eY (n:=60) h4;simp only[o6,o9,ae];rw[UT l9,UT l9,o9];cases s.2.2.1.any λf=>J4 80 (x9 f.1)
 case true=>rfl
 simp only[cond_false,ae,o6,o9];cases s.2.2.2.1.any λf=>J4 80 (x9 f.1)
 case true=>rfl
 simp only[cond_false,ae,o6];refine V6 (Tz s.2.2.2.2 Mc false PUnit.unit l9 (λi a ha=>?_) ?_) ?_
 rotate_left 2
 .cases s.2.2.2.2.any Mc<;>rfl
 .simp only[U0 ha,o7,O5,ha,o9];unfold Mc;cases J4 80 (x9 a.1)<;>cases J4 80 (x9 a.2.2.2.2.2.2.2)<;>cases J4 50 (x9 a.2.2.2.2.2.1)<;>cases J4 50 (x9 a.2.2.2.2.2.2.1)<;>rfl
 .rw[Y1];rfl
def ScI(s:H6):Prop:=∀r∈s.2.2.2.2,(∀n∈r.2.2.2.2.2.1,fP n.2)/\∀n∈r.2.2.2.2.2.2.1,fP n.2
theorem FM{a b:Bool}(h:l7 a false b=true):a=false/\b=true:=by cases a<;>cases b<;>first|exact⟨rfl,rfl⟩|cases h
theorem LK{α:Type}{l:List α}{p:α->Bool}(h:l.any p=false):∀a∈l,p a=false:=by
 intro a ha;rw[bM]at h;have:=h a ha;cases hp:p a
 .rfl
 .exact absurd hp this
theorem b7x(h:smS s=true)(hI:ScI s):SmS s:=by
 unfold smS at h;obtain⟨h1,h⟩:=FM h;obtain⟨h2,h⟩:=FM h;obtain⟨h3,h⟩:=FM h;obtain⟨h4,h⟩:=FM h;obtain⟨h5,h⟩:=FM h;obtain⟨h6,h⟩:=FM h;have h7:s.2.2.2.2.any Mc=false:=by cases hq:s.2.2.2.2.any Mc<;>rw[hq]at h<;>first|rfl|cases h
 refine⟨by have:=eY (n:=80) h1;omega,eY (n:=14) h2,eY (n:=14) h3,V9 (eY (n:=60) h4) l9,⟨λf hf=>?_,λf hf=>?_⟩,λr hr=>?_⟩
 .have:=eY (n:=80) (LK h5 f hf);omega
 .have:=eY (n:=80) (LK h6 f hf);omega
 .have hl:=LK h7 r hr;unfold Mc at hl;cases g1:J4 80 (x9 r.1)<;>rw[g1]at hl
  case true=>cases hl
  cases g2:J4 80 (x9 r.2.2.2.2.2.2.2)<;>rw[g2]at hl
  case true=>cases hl
  cases g3:J4 50 (x9 r.2.2.2.2.2.1)<;>rw[g3]at hl
  case true=>cases hl
  have k1:=eY (n:=80) g1;have k2:=eY (n:=80) g2;exact⟨⟨l9,l9,(hI r hr).1,(hI r hr).2⟩,eY (n:=50) g3,eY (n:=50) hl⟩
def Yh(e:U2):Bool:=l7 (J4 80 (x9 e.1)) true (l7 (J4 20 (x9 e.2)) true (e.2.any λm=>J4 80 (x9 m)))
def tG(b:Int)(t:aP):Int⊕Bool:=l7 (J4 80 (x9 t.1)) (.inr false) (l7 (J4 150 (I8 .i64 b (x9 t.2.2.2))) (.inr false) (.inl (I8 .i64 b (x9 t.2.2.2))))
def sG(b:Int)(s:H6):Int⊕Bool:=l7 (J4 60 (I8 .i64 b (x9 s.2.2.2.2))) (.inr false) (l7 (smS s) (.inl (I8 .i64 b (x9 s.2.2.2.2))) (.inr false))
def smL(l:O6):Bool:=l7 (J4 9 (x9 l.1)) false (l7 (J4 9 (x9 l.2.1)) false (l7 (J4 5 (x9 l.2.2)) false (l7 (l.1.any Yh) false
 (match ww tG l.2.1 0 with| .inr _=>false| .inl _=>match ww sG l.2.2 0 with| .inr _=>false| .inl _=>true))))
theorem b9a:∀(b:Int) (t:aP) (r:Bool),tG b t= .inr r->r=false:=by intro b t r h;unfold tG at h;cases g0:J4 80 (x9 t.1)<;>cases g:J4 150 (I8 .i64 b (x9 t.2.2.2))<;>simp only[g0,g,o7,o6]at h<;>cases h<;>rfl
theorem b7u:∀(b:Int) (s:H6) (r:Bool),sG b s= .inr r->r=false:=by intro b s r h;unfold sG at h;cases g:J4 60 (I8 .i64 b (x9 s.2.2.2.2))<;>cases g2:smS s<;>simp only[g,g2,o7,o6]at h<;>cases h<;>rfl
theorem a1P(l:O6):Bq l=some (smL l):=by
 unfold Bq smL;cases h1:J4 9 (x9 l.1)
 case true=>rfl
 cases h2:J4 9 (x9 l.2.1)
 case true=>rfl
 cases h3:J4 5 (x9 l.2.2)
 case true=>rfl
 have l1:=eY (n:=9) h1;have l2:=eY (n:=9) h2;have l3:=eY (n:=5) h3;simp only[o6,o9,ae];refine V6 (Tz l.1 Yh false PUnit.unit l9 (λi a ha=>?_) ?_) ?_
 .simp only[U0 ha,o7,O5,ha,o9];unfold Yh;cases J4 80 (x9 a.1)
  case true=>rfl
  cases h5:J4 20 (x9 a.2)
  case true=>rfl
  have l5:=eY (n:=20) h5;simp only[o6];refine V6 (Tz a.2 (λm=>J4 80 (x9 m)) false PUnit.unit l9 (λj m hm=>?_) ?_) ?_
  .simp only[U0 hm,o7,O5,hm,o9];cases J4 80 (x9 m)<;>rfl
  .rw[Y1];rfl
  .cases a.2.any λm=>J4 80 (x9 m)<;>rfl
 .rw[Y1];rfl
 cases l.1.any Yh
 case true=>rfl
 simp only[cond_false,ae,o6];apply Nw l.2.1 tG (λb i=>((b,i):Int×Int)) (λ_=>PUnit.unit) (λ_ _=>True) 0 l9 trivial
 .intro i t b hi hi' _;refine⟨?_,λ_ _=>trivial⟩;simp only[U0 hi,o7,O5,hi,o9];unfold tG;rw[bY l9];cases J4 80 (x9 t.1)<;>cases J4 150 (I8 .i64 b (x9 t.2.2.2))<;>rfl
 .intro b _;rw[Y1];rfl
 .intro _;cases ht:ww tG l.2.1 0 with
  |inr r=>rw[Qv tG (λr=>r=false) b9a _ _ _ ht];rfl|inl b=>
   simp only[ae];apply Nw l.2.2 sG (λb i=>((b,i):Int×Int)) (λ_=>PUnit.unit) (λ_ _=>True) 0 l9 trivial
   .intro i s b hi hi' _;refine⟨?_,λ_ _=>trivial⟩;simp only[U0 hi,o7,O5,hi,o9,Xw];unfold sG;rw[bY l9];cases J4 60 (I8 .i64 b (x9 s.2.2.2.2))<;>cases smS s<;>rfl
   .intro b _;rw[Y1];rfl
   .intro _;cases hs:ww sG l.2.2 0 with
    |inr r=>rw[Qv sG (λr=>r=false) b7u _ _ _ hs];rfl|inl b=>rfl
structure WfL (l:O6):Prop where
 rl:∀t∈l.2.1,t.2.2.2.length<=4611686018427387904
 ri:∀t∈l.2.1,∀r∈t.2.2.2,a8b r
 sl:∀s∈l.2.2,s.2.2.2.2.length<=4611686018427387904
 si:∀s∈l.2.2,ScI s
theorem a4n:∀(L:List aP) (b b' :Int),0<=b->b<=150->(∀t∈L,t.2.2.2.length<=4611686018427387904)->ww tG L b= .inl b' ->∀t∈L,t.1.length<=80/\t.2.2.2.length<=150
 |[],_,_,_,_,_,_=>by simp|t::L,b,b',h0,h1,hw,h=>by
  have hwt:=hw t x8;have ha:I8 .i64 b (x9 t.2.2.2)=b+x9 t.2.2.2:=cZ (by unfold fP x9;omega);unfold ww tG at h;rw[ha]at h;cases g0:J4 80 (x9 t.1)<;>rw[g0]at h
  case true=>cases h
  cases g1:J4 150 (b+x9 t.2.2.2)<;>rw[g1]at h
  case true=>cases h
  rw[mf]at g1;intro x hx;rcases D7.1 hx with rfl|hx
  .exact⟨eY (n:=80) g0,by unfold x9 at g1;omega⟩
  .exact a4n L (b+x9 t.2.2.2) b' (by unfold x9;omega) g1 (λq hq=>hw q (by simp[hq])) h x hx
theorem a3W:∀(L:List H6) (b b' :Int),0<=b->b<=60->(∀s∈L,s.2.2.2.2.length<=4611686018427387904)->ww sG L b= .inl b' ->∀s∈L,smS s=true
 |[],_,_,_,_,_,_=>by simp|s::L,b,b',h0,h1,hw,h=>by
  have hwt:=hw s x8;have ha:I8 .i64 b (x9 s.2.2.2.2)=b+x9 s.2.2.2.2:=cZ (by unfold fP x9;omega);unfold ww sG at h;rw[ha]at h;cases g1:J4 60 (b+x9 s.2.2.2.2)<;>rw[g1]at h
  case true=>cases h
  cases g2:smS s<;>rw[g2]at h
  case false=>cases h
  rw[mf]at g1;intro x hx;rcases D7.1 hx with rfl|hx
  .exact g2
  .exact a3W L (b+x9 s.2.2.2.2) b' (by unfold x9;omega) g1 (λq hq=>hw q (by simp[hq])) h x hx
theorem b7w(h:smL l=true)(hW:WfL l):SmL l/\∀t∈l.2.1,b6a t:=by
 unfold smL at h;obtain⟨h1,h⟩:=FM h;obtain⟨h2,h⟩:=FM h;obtain⟨h3,h⟩:=FM h;obtain⟨h4,h⟩:=FM h;have l1:=eY (n:=9) h1;have l2:=eY (n:=9) h2;have l3:=eY (n:=5) h3;cases ht:ww tG l.2.1 0 with
 |inr r=>rw[ht]at h;cases h|inl b=>
  rw[ht]at h;simp only at h;cases hs:ww sG l.2.2 0 with
  |inr r=>rw[hs]at h;cases h|inl b' =>
   have T:=a4n l.2.1 0 b l9 l9 hW.rl ht;have S:=a3W l.2.2 0 b' l9 l9 hW.sl hs;refine⟨⟨⟨l9,l9,l9⟩,λe he=>?_,λt ht=>by have:=(T t ht).1;omega,λs hs=>b7x (S s hs) (hW.si s hs),l9⟩,λt ht=>⟨by have:=(T t ht).2;omega,hW.ri t ht⟩⟩;have hl:=LK h4 e he;unfold Yh at hl;cases g1:J4 80 (x9 e.1)<;>rw[g1]at hl
   case true=>cases hl
   cases g2:J4 20 (x9 e.2)<;>rw[g2]at hl
   case true=>cases hl
   have k1:=eY (n:=80) g1;exact⟨l9,λm hm=>by have:=eY (n:=80) (LK hl m hm);omega⟩
theorem a1q:reachBytes<=4611686018427387904:=by decide
theorem c4O(h:wf c5u l):WfL l:=by
 refine⟨λt ht=>?_,λt ht r hr=>?_,λs hs=>?_,λs hs r hr=>⟨λn hn=>?_,λn hn=>?_⟩⟩
 .have:=(h.2.1.2 t ht).2.2.2.1;exact V9 this a1q
 .have:=(h.2.1.2 t ht).2.2.2.2 r hr;exact⟨WW this.2.1,WW this.2.2.1,WW this.2.2.2⟩
 .have:=(h.2.2.2 s hs).2.2.2.2.1;exact V9 this a1q
 .have:=(h.2.2.2 s hs).2.2.2.2.2 r hr;exact WW (this.2.2.2.2.2.1.2 n hn).2
 .have:=(h.2.2.2 s hs).2.2.2.2.2 r hr;exact WW (this.2.2.2.2.2.2.1.2 n hn).2
theorem Hu{sg:O8}{n:Int×Int}{ops:List (Int×Int)}{x:Int×Int}(h:Ed sg n ops i= .inl x):x.2≠0:=by
 grind [Ed]
theorem Be{sg:O8} :∀(t:XT) (o:Nat) {x:Int×Int},lu sg t o= .inl x->x.2≠0
 | .l0 n,o,x,h=>Hu h| .l1 n a,o,x,h=>by
  unfold lu at h;cases ha:lu sg a o with
  |inl e=>rw[ha]at h;cases h;exact Be a o ha|inr ta=>rw[ha]at h;exact Hu h
 | .l2 n a b,o,x,h=>by
  unfold lu at h;cases ha:lu sg a o with
  |inl e=>rw[ha]at h;cases h;exact Be a o ha|inr ta=>
   rw[ha]at h;cases hb:lu sg b (o+a.size)with
   |inl e=>rw[hb]at h;cases h;exact Be b _ hb|inr tb=>rw[hb]at h;exact Hu h
 | .l3 n a b c,o,x,h=>by
  unfold lu at h;cases ha:lu sg a o with
  |inl e=>rw[ha]at h;cases h;exact Be a o ha|inr ta=>
   rw[ha]at h;cases hb:lu sg b (o+a.size)with
   |inl e=>rw[hb]at h;cases h;exact Be b _ hb|inr tb=>
    rw[hb]at h;cases hc:lu sg c (o+a.size+b.size)with
    |inl e=>rw[hc]at h;cases h;exact Be c _ hc|inr tc=>rw[hc]at h;exact Hu h
theorem NZ(h:(gQ l).1=0)(hs:l.2.2[i]? =some s){k:Nat}{r:U3}(hr:s.2.2.2.2[k]? =some r):EP s (ug l s) k r=0:=by
 have hp:=(YK h hs).2;unfold QE at hp;cases h1:zD l s with
 |some q=>rw[h1]at hp;exact absurd hp (Jp h1)|none=>
  rw[h1]at hp;simp only at hp;cases h2:cO s.2.2.2.2.length (PK l s)with
  |some q=>
   rw[h2]at hp;obtain⟨j,hj,hq⟩:=nN h2;unfold PK at hq;cases h3:s.2.2.2.2[j]? with
   |none=>rw[h3]at hq;cases hq|some q2=>rw[h3]at hq;exact absurd hp (XQ hq)
  |none=>
   have hn:=rC h2 k (aJ.1 hr).1;unfold PK at hn;rw[hr]at hn;simp only at hn;unfold SY at hn;cases he:D8 (EP s (ug l s) k r) 0<;>rw[he]at hn
   .cases hn
   .exact eF.1 he
theorem Nb{ρ:Type}{p:Nat->Option ρ}(h:∀r,cO n p≠some r):∀i,i<n->p i=none:=by cases hf:cO n p<;>simp_all [cO]
theorem XR{k i:Int}{r:Int×Int}(h:MX k i r=none):r.1=0:=by
 unfold MX at h;cases he:D8 r.1 0<;>rw[he]at h
 .cases h
 .exact eF.1 he
end Go.GP
namespace Gt
open Go Go.GP
variable {n:Int}
theorem b2N(h:fP n):FD n=some (Lib.itoa n):=by unfold FD;rw[if_pos (show -9223372036854775808<=n/\n<=9223372036854775807 from h)]
theorem YA{s:c5v}{c:Nat}(h:c<=1000000)(hs:s.length<=1000000):uw s (c:Int)=some (Lib.repeatL s c):=by
 unfold uw
 have:s.length*c<=1000000*1000000:=Nat.mul_le_mul hs h;rw[if_pos ⟨l9,l9,by rw[I9];omega⟩,I9]
theorem c2g(x:UInt8)(c:Nat):Lib.repeatL [x] c=List.replicate c x:=by have:=Lib.repeatL_replicate x 1 c;simpa using this
theorem a2g{d:Int}(h0:0<=d)(h:d<10):b4r (wrap .u8 (I8 .u64 48 d))=UInt8.ofNat (48+d.toNat):=by
 rw[a0M (by unfold U64;omega)];have e:wrap .u8 (48+d)=((48+d.toNat:Nat):Int):=by unfold wrap IntKind.wrap;simp[IntKind.signed,IntKind.bits];omega
 rw[e];unfold b4r;rw[I9]
theorem b4D(n:Int):a8m [n]=[b4r n]:=rfl
theorem a0u:∀(k u:Nat),u<k->u<18446744073709551616->xB k (u:Int)=some (Lib.decDigits u)
 |0,u,h,_=>by omega|k+1,u,h,hu=>by
  show zU (xB k) (u:Int)=_;unfold zU;by_cases h10:u<10
  .try simp only[b4D]
   rw[og (dE l9),a2g l9 l9,Lib.decDigits,dif_pos h10,I9]
  .have e1:(u:Int).tdiv 10=((u / 10:Nat):Int):=by rw[uk l9];omega
   have e2:iE (u:Int) 10=((u % 10:Nat):Int):=by rw[BD l9];omega
   try simp only[b4D]
   rw[sK (Y0 l9),a8T (by rw[e1];unfold U64;omega)];rw[e1,a0u k (u / 10) l9 l9,o9,e2,a2g l9 l9,N9,o9,I9]
   .congr 1
    conv=>rhs;rw[Lib.decDigits,dif_neg h10]
   .have:=Lib.nDigits_le20 (u / 10) l9;rw[Lib.decDigits_length];simp;omega
theorem IK(h:U64 n):Ib n=some (Lib.decDigits n.toNat):=by unfold U64 at h;have:=a0u au n.toNat (by unfold au;omega) l9;rw[fM h.1]at this;exact this
theorem Jy(h:fP n):(Lib.itoa n).length<=21:=Lib.itoa_length_le n h.1 h.2
variable {u:Nat}
theorem pV(h:u<18446744073709551616):1<=(Lib.decDigits u).length/\(Lib.decDigits u).length<=20:=by rw[Lib.decDigits_length];exact⟨Lib.nDigits_pos u,Lib.nDigits_le20 u h⟩
theorem uS(h:fP n):qZ n=some (Lib.itoa n):=by
 unfold fP at h;unfold qZ Lib.itoa;by_cases hn:n<0
 .rw[og (dE hn),if_pos hn,cZ lm,bI lm];rw[show wrap .u64 (0 -(n+1))=0 -(n+1)from PX (by unfold U64;omega),a0M (by unfold U64;omega),IK (by unfold U64;omega),o9];have e:(0 -(n+1)+1).toNat=n.natAbs:=l9;rw[e,N9,o9]
  .rfl
  .have:=(pV (u:=n.natAbs) l9).2;simp;omega
 .rw[sK (Y0 l9),if_neg hn,show wrap .u64 n=n from PX (by unfold U64;omega),IK (by unfold U64;omega),o9]
theorem jh(h:fP n):fH n=some (Lib.itoa n):=by unfold fH;rw[b2N h];rfl
def uH(u k:Nat):c5v:=
 let d:=List.replicate (k+1 -(Lib.decDigits u).length) 48++Lib.decDigits u
 d.take (d.length -k)++46::d.drop (d.length -k)
def oU(n:Int)(k:Nat):c5v:=if n<0 then 45::uH n.natAbs k else uH n.natAbs k
variable {k:Nat}
theorem a2S(hu:u<18446744073709551616)(hk:k<=9):(uH u k).length<=31:=by have:=pV hu;unfold uH;simp;omega
theorem Dh(h:fP n)(hk:k<=9):(oU n k).length<=32:=by unfold fP at h;have:=a2S (u:=n.natAbs) (k:=k) l9 hk;unfold oU;split<;>simp<;>omega
variable {d:c5v}
theorem a8w(h1:k<d.length)(h2:d.length<=100):
  dM d 0 (L6 .i64 (x9 d) (k:Int))=some (d.take (d.length -k))/\dM d (L6 .i64 (x9 d) (k:Int)) (x9 d)=some (d.drop (d.length -k)):=by
 have e:L6 .i64 (x9 d) (k:Int)=((d.length -k:Nat):Int):=by rw[bI (by unfold fP x9;omega)];unfold x9;omega
 rw[e];exact⟨by rw[zO l9 l9];simp,by rw[qm l9 l9];simp⟩
theorem a6e{d p:c5v}(h1:k<d.length)(h2:d.length<=100)(hp:p.length<=100):
  (o5 (dM d 0 (L6 .i64 (x9 d) (k:Int))) λx=>o5 (ak p x) λy=>o5 (ak y [46]) λz=>o5 (dM d (L6 .i64 (x9 d) (k:Int)) (x9 d)) λt=>o5 (ak z t) λx=>some x)
   =some (p++(d.take (d.length -k)++46::d.drop (d.length -k))):=by
 obtain⟨c1,c2⟩:=a8w h1 h2;rw[c1,o9,N9 H7,o9,N9 H7,o9,c2,o9,N9 H7,o9];simp
theorem fG(h:fP n)(hk:1<=k/\k<=9):aV n (k:Int)=some (oU n k):=by
 have hI:=h;unfold fP at h;have ek:Fh 0 (IR (k:Int) 9)=(k:Int):=by unfold Fh IR;split<;>split<;>omega
 unfold aV iJ;rw[o9,ek,jh hI,o9,sK (J8 l9)];have hd:=pV (u:=n.natAbs) l9;have rest:∀(d p:c5v),1<=d.length->d.length<=20->p.length<=1->
   l7 (U7 (x9 d) (k:Int))
    (o5 (uw [48] (L6 .i64 (I8 .i64 (k:Int) 1) (x9 d))) λx3=>o5 (ak x3 d) λx4=>o5 (dM x4 0 (L6 .i64 (x9 x4) (k:Int))) λx5=>o5 (ak p x5) λx6=>o5 (ak x6 [46]) λx7=>
     o5 (dM x4 (L6 .i64 (x9 x4) (k:Int)) (x9 x4)) λx=>o5 (ak x7 x) λx=>some x)
    (o5 (dM d 0 (L6 .i64 (x9 d) (k:Int))) λx=>o5 (ak p x) λy=>o5 (ak y [46]) λz=>o5 (dM d (L6 .i64 (x9 d) (k:Int)) (x9 d)) λt=>o5 (ak z t) λx=>some x)
   =some (p++(let e:=List.replicate (k+1 -d.length) 48++d;e.take (e.length -k)++46::e.drop (e.length -k))):=by
  intro d p h1 h2 h3;by_cases hle:d.length<=k
  .rw[og (Y7 (by unfold x9;omega))];have e:L6 .i64 (I8 .i64 (k:Int) 1) (x9 d)=((k+1 -d.length:Nat):Int):=by
    rw[cZ lm,bI (by unfold fP x9;omega)];unfold x9;omega
   rw[e,YA l9 x8,c2g,o9,N9 H7,o9];exact a6e H7 H7 l9
  .rw[sK (dA (by unfold x9;omega)),a6e l9 l9 l9];have:k+1 -d.length=0:=l9;rw[this];simp
 unfold Lib.itoa oU uH;by_cases hn:n<0
 .rw[if_pos hn,if_pos hn,og (dE hn)];have e:dM (45::Lib.decDigits n.natAbs) 1 (x9 (45::Lib.decDigits n.natAbs))=some (Lib.decDigits n.natAbs):=by
   rw[qm l9 H7];simp
  rw[e,o9];exact rest (Lib.decDigits n.natAbs) [45] hd.1 hd.2 x8
 .rw[if_neg hn,if_neg hn,sK (Y0 l9)];have e:n.toNat=n.natAbs:=l9;rw[e];exact rest (Lib.decDigits n.natAbs) [] hd.1 hd.2 x8
theorem b2m :∀(h:d=Lib.decDigits u),∀c∈d,48<=c.toNat/\c.toNat<=57:=by intro h c hc;subst h;rw[Lib.decDigits_eq]at hc;obtain⟨t,_,rfl⟩:=P9.1 hc;unfold Lib.dg;have:u / 10^(Lib.nDigits u -1 -t) % 10<10:=Nat.mod_lt _ l9;generalize u / 10^(Lib.nDigits u -1 -t) % 10=r at this;simp;omega
theorem Jh{c:UInt8}(hc:c∈Lib.decDigits u):48<=c.toNat/\c.toNat<=57:=b2m rfl c hc
theorem VV(h:∀c∈d,48<=c.toNat/\c.toNat<=57)(h1:1<=d.length):Eg d=some (d,false):=by
 unfold Eg;rw[og (dE (by unfold x9;omega))];match d,h1 with
 |c::r,_=>have e:sat (c::r) 0=some (c.toNat:Int):=rfl;have:=h c x8;rw[e,o9,sK (J8 l9)]
theorem VW :Eg (45::d)=some (d,true):=by unfold Eg;rw[og (dE (by unfold x9;simp))];have e:sat (45::d) 0=some (45:Int):=rfl;rw[e,o9,og (O0 rfl),qm l9 H7,o9];simp
theorem b3i(hk:k<=100)(hd:d.length<=100):
  fF (λ(x_3:c5v)=>l7 (U7 (x9 x_3) (k:Int)) (o5 (ak [48] x_3) λ(x:c5v)=>some (Sum.inl x)) (some (Sum.inr x_3))) d=some (List.replicate (k+1 -d.length) 48++d):=by
 obtain⟨e,h1,h2⟩:=su (f:=λ(x_3:c5v)=>l7 (U7 (x9 x_3) (k:Int)) (o5 (ak [48] x_3) λ(x:c5v)=>some (Sum.inl x)) (some (Sum.inr x_3))) (s:=d)
  (λs=>s.length<=102/\List.replicate (k+1 -s.length) 48++s=List.replicate (k+1 -d.length) 48++d) (λe=>e=List.replicate (k+1 -d.length) 48++d) (λs=>k+1 -s.length) ⟨l9,rfl⟩ l9 (by
   intro s ⟨hs,he⟩;by_cases hle:s.length<=k
   .refine .inl ⟨48::s,?_,⟨by simp;omega,?_⟩,by simp;omega⟩
    .rw[og (Y7 (by unfold x9;omega)),N9 H7];rfl
    .rw[←he];have e1:k+1 -s.length=(k+1 -(48::s).length)+1:=by simp;omega
     rw[e1,qQ];simp
   .refine .inr ⟨s,?_,?_⟩
    .rw[sK (dA (by unfold x9;omega))]
    .rw[←he,show k+1 -s.length=0 by omega];simp)
 rw[h1,h2]
theorem rO(h:fP n)(hk:1<=k/\k<=9):jU n (k:Int)=some (oU n k):=by
 have hI:=h;unfold fP at h;have ek:IR (Fh (k:Int) 0) 9=(k:Int):=by unfold Fh IR;split<;>split<;>omega
 unfold jU Sj;have hd:=pV (u:=n.natAbs) l9;rw[o9,ek,sK (J8 l9),uS hI,o9];have rest:∀(d:c5v) (b:Bool),1<=d.length->d.length<=20->
   (o5 (fF (λ(x_3:c5v)=>l7 (U7 (x9 x_3) (k:Int)) (o5 (ak [48] x_3) λ(x:c5v)=>some (Sum.inl x)) (some (Sum.inr x_3))) (d,b).1) λ(y:c5v)=>
    o5 (dM y 0 (L6 .i64 (x9 y) (k:Int))) λ(x_3:c5v)=>o5 (ak x_3 [46]) λ(x_4:c5v)=>o5 (dM y (L6 .i64 (x9 y) (k:Int)) (x9 y)) λ(x:c5v)=>
     o5 (ak x_4 x) λ(x:c5v)=>l7 (d,b).2 (o5 (ak [45] x) λ(x:c5v)=>some x) (some x))
   =some ((if b then[45]else[])++(let e:=List.replicate (k+1 -d.length) 48++d;e.take (e.length -k)++46::e.drop (e.length -k))):=by
  intro d b h1 h2;rw[b3i (d:=d) l9 l9,o9];generalize he:List.replicate (k+1 -d.length) 48++d=e;have hl:k<e.length/\e.length<=40:=by subst he;simp;omega
  obtain⟨c1,c2⟩:=a8w hl.1 l9;rw[c1,o9,N9 H7,o9,c2,o9,N9 H7,o9];cases b
  .simp
  .show o5 (ak [45] _) _=_;rw[N9 H7,o9];simp
 unfold Lib.itoa oU uH;by_cases hn:n<0
 .rw[if_pos hn,if_pos hn,VW,o9];exact rest (Lib.decDigits n.natAbs) true hd.1 hd.2
 .rw[if_neg hn,if_neg hn];have e:n.toNat=n.natAbs:=l9;rw[e,VV (λc hc=>Jh hc) hd.1,o9];exact rest (Lib.decDigits n.natAbs) false hd.1 hd.2
def Gn(n:Int)(w:Nat):c5v:=List.replicate (w -(Lib.itoa n).length) 48++Lib.itoa n
variable {w:Nat}
theorem zS(h:fP n)(hw:w<=4):(Gn n w).length<=25:=by have:=Jy h;unfold Gn;simp;omega
theorem Jg(h:fP n)(hw:w<=4):DF n (w:Int)=some (Gn n w):=by
 have hl:=Jy h;unfold DF;rw[jh h,o9];have e:Fh 0 (L6 .i64 (w:Int) (x9 (Lib.itoa n)))=((w -(Lib.itoa n).length:Nat):Int):=by rw[bI (by unfold fP x9;omega)];unfold Fh x9;split<;>omega
 rw[e,YA l9 x8,c2g,o9,N9 H7,o9];rfl
theorem Ig(h:fP n)(hw:w<=4):Dl n (w:Int)=some (Gn n w):=by
 have hl:=Jy h;unfold Dl;rw[uS h,o9];show _=some (List.replicate (w -(Lib.itoa n).length) 48++Lib.itoa n);generalize Lib.itoa n=d at hl ⊢;obtain⟨e,h1,h2⟩:=su (f:=λ(x:c5v)=>l7 (J4 (x9 x) (w:Int)) (o5 (ak [48] x) λ(x:c5v)=>some (Sum.inl x)) (some (Sum.inr x))) (s:=d)
  (λs=>s.length<=30/\List.replicate (w -s.length) 48++s=List.replicate (w -d.length) 48++d) (λe=>e=List.replicate (w -d.length) 48++d) (λs=>w -s.length) ⟨l9,rfl⟩ l9 (by
   intro s ⟨hs,he⟩;by_cases hle:s.length<w
   .refine .inl ⟨48::s,?_,⟨by simp;omega,?_⟩,by simp;omega⟩
    .rw[og (dE (by unfold x9;omega)),N9 H7];rfl
    .rw[←he];have e1:w -s.length=(w -(48::s).length)+1:=by simp;omega
     rw[e1,qQ];simp
   .refine .inr ⟨s,?_,?_⟩
    .rw[sK (Y0 (by unfold x9;omega))]
    .rw[←he,show w -s.length=0 by omega];simp)
 rw[h1,o9,h2]
def aY(d:Int):c5v:=if 0<=d/\d<=109572 then Gn (ymd d).1 4++45::Gn (ymd d).2.1 2++45::Gn (ymd d).2.2 2 else[]
theorem b4T{a b c:c5v}(ha:a.length<=100)(hb:b.length<=100)(hc:c.length<=100){A C B:Option c5v}(eb:B=some b)(ec:C=some c):
  (o5 (ak a [45]) λx2=>o5 B λx3=>o5 (ak x2 x3) λx4=>o5 (ak x4 [45]) λx5=>o5 C λx=>o5 (ak x5 x) λx=>some x)=some (a++45::b++45::c):=by
 rw[N9 H7,o9,eb,o9,N9 H7,o9,N9 H7,o9,ec,o9,N9 H7,o9];simp
theorem xx(h1:-1000000<=n)(h2:n<=1000000):fP n:=by unfold fP;omega
theorem qx(d:Int):ut d=some (aY d):=by
 unfold ut DI aY;by_cases h0:0<=d
 .rw[og (Y7 h0),o9];by_cases h:d<=109572
  .rw[Y7 h,F5,o6,Xg h0 h,o9,if_pos ⟨h0,h⟩];have hb:=WX h0 h;have p1:=xx (n:=(ymd d).1) l9 l9;have p2:=xx (n:=(ymd d).2.1) l9 l9;have p3:=xx (n:=(ymd d).2.2) l9 l9;rw[show DF (ymd d).1 4=_ from Jg (w:=4) p1 l9,o9];have l1:=zS (w:=4) p1 l9;have l2:=zS (w:=2) p2 l9;have l3:=zS (w:=2) p3 l9;exact b4T (A:=none) l9 l9 l9 (Jg (w:=2) p2 l9) (Jg (w:=2) p3 l9)
  .rw[dA l9,af,o7,if_neg l9]
 .rw[sK (dA l9),o9,af,o7,if_neg l9]
theorem IL(d:Int):Ic d=some (aY d):=by
 unfold Ic EK aY;by_cases h0:0<=d
 .rw[og (Y7 h0),o9];by_cases h:d<=109572
  .rw[Y7 h,F5,o6,VX h0 h,o9,if_pos ⟨h0,h⟩];have hb:=WX h0 h;have p1:=xx (n:=(ymd d).1) l9 l9;have p2:=xx (n:=(ymd d).2.1) l9 l9;have p3:=xx (n:=(ymd d).2.2) l9 l9;rw[show Dl (ymd d).1 4=_ from Ig (w:=4) p1 l9,o9];have l1:=zS (w:=4) p1 l9;have l2:=zS (w:=2) p2 l9;have l3:=zS (w:=2) p3 l9;exact b4T (A:=none) l9 l9 l9 (Ig (w:=2) p2 l9) (Ig (w:=2) p3 l9)
  .rw[dA l9,af,o7,if_neg l9]
 .rw[sK (dA l9),o9,af,o7,if_neg l9]
theorem CG(d:Int):(aY d).length<=100:=by
 unfold aY;split
 .rename_i h;have hb:=WX h.1 h.2;have l1:=zS (w:=4) (xx (n:=(ymd d).1) l9 l9) l9;have l2:=zS (w:=2) (xx (n:=(ymd d).2.1) l9 l9) l9;have l3:=zS (w:=2) (xx (n:=(ymd d).2.2) l9 l9) l9;simp;omega
 .simp
theorem uV(t:Int×Int)(en:List U2):bg t en=aN t en:=by
 grind [bg,aN,D8,o9,og,Y7,sK,dA]
theorem KI(t:Int×Int)(en:List U2):jC t en=di t en:=by simp[jC,di,uV]
theorem a7V(n:Int)(t:Int×Int)(en:List U2):iw n t en=Pn n t en:=by unfold iw Pn;rw[KI]
theorem vG{v:GH}(en:List U2)(h:fP v.2.2):fK v en=xC v en:=by
 unfold fK xC yI;rw[o9,uV];cases hv:aN (v.1,v.2.1) en with
 |none=>rfl|some b=>
  rw[o9,o9];cases b with
  |false=>rfl|true=>
   rw[F5,o6,o6];have e:EL v en=iw v.2.2 (v.1,v.2.1) en:=by unfold EL yI;rw[o9,hv,o9,o7,o9,vC,a7V]
   rw[e,jh h,uS h,show aV v.2.2 2=_ from fG (k:=2) h l9,show jU v.2.2 2=_ from rO (k:=2) h l9,
    show aV v.2.2 4=_ from fG (k:=4) h l9,show jU v.2.2 4=_ from rO (k:=4) h l9,qx,IL]
theorem Cf{B:Nat}(hB:100<=B)(hB2:B<=200000000000000){v:Int×Int×Int}{en:List U2}(h:fP v.2.2)(hm:∀e∈en,e.2.length<=B/\∀m∈e.2,m.length<=B):∃t,fK v en=some t/\t.1.length<=B:=by
 unfold fK
 cases hv:bg (v.1,v.2.1) en with
 |none=>
  exfalso;rw[uV]at hv;unfold aN at hv;simp only[sU]at hv
  repeat' split at hv
  all_goals cases hv
 |some b=>
  rw[o9];cases b with
  |false=>exact⟨_,rfl,x8⟩|true=>
   rw[F5,o6];unfold iw jC;rw[hv];simp only[o9,F5,o6];have f1:=Jy h;have f2:=Dh (k:=2) h l9;have f4:=Dh (k:=4) h l9;have f5:=CG v.2.2;rw[jh h,show aV v.2.2 2=_ from fG (k:=2) h l9,show aV v.2.2 4=_ from fG (k:=4) h l9,qx];simp only[o9];rw[N9 (a:=oU v.2.2 4) H7];simp only[o9];by_cases h1:v.1=1
   .simp only[O0 h1,o7,o9];simp only[bb,o9];simp only[sU];repeat' split
    all_goals exact⟨_,rfl,by first|omega|(simp<;>omega)⟩
   by_cases h2:v.1=2
   .simp only[J8 h1,O0 h2,o7,o6,o9];simp only[bb,o9];simp only[sU];repeat' split
    all_goals exact⟨_,rfl,by first|omega|(simp<;>omega)⟩
   by_cases h3:v.1=3
   .simp only[J8 h1,J8 h2,O0 h3,o7,o6,o9];simp only[bb,o9];simp only[sU];repeat' split
    all_goals exact⟨_,rfl,by first|omega|(simp<;>omega)⟩
   by_cases h4:v.1=4
   .simp only[J8 h1,J8 h2,J8 h3,O0 h4,o7,o6,o9];simp only[bb,o9];simp only[sU];repeat' split
    all_goals exact⟨_,rfl,by first|omega|(simp<;>omega)⟩
   by_cases h5:v.1=5
   .simp only[J8 h1,J8 h2,J8 h3,J8 h4,O0 h5,o7,o6,o9];simp only[bb,o9];simp only[sU];repeat' split
    all_goals exact⟨_,rfl,by first|omega|(simp<;>omega)⟩
   .simp only[J8 h1,J8 h2,J8 h3,J8 h4,J8 h5,o6];have hk:v.1=6/\0<=v.2.1/\v.2.1<x9 en:=by
     unfold bg at hv;simp only[J8 h1,J8 h2,J8 h3,J8 h4,J8 h5,o6,o9]at hv;simp only[sU,eF,iM]at hv;split at hv
     .split at hv
      .simp only[G6,wz]at hv;exact⟨by assumption,by assumption,hv⟩
      .cases hv
     .cases hv
    obtain⟨e,he,hmem⟩:=tH hk.2.1 hk.2.2;rw[he];simp only[o9];have hle:=(hm e hmem).1;have hll:x9 e.2=(e.2.length:Int):=rfl;rw[bI lm];by_cases hw0:0<=v.2.2
    .by_cases hw1:v.2.2<=x9 e.2 -1
     .rw[Y7 hw0,o7,Y7 hw1,o9,F5,o6];obtain⟨m,hm1,hm2⟩:=tH (l:=e.2) hw0 l9;rw[hm1];exact⟨_,rfl,(hm e hmem).2 m hm2⟩
     .rw[Y7 hw0,o7,dA (uY.1 hw1),o9,af,o7];exact⟨_,rfl,x8⟩
    .rw[dA (uY.1 hw0),o6];exact⟨_,rfl,x8⟩
end Gt
namespace Go.GP
open Gt
theorem Xh(l:List dO):tJ l=nH l:=by unfold tJ nH;rfl
theorem a2C{α:Type}{l:List α}(h:l.length<=1000000):CW l=some l:=by unfold CW;rw[uM H7,G8]
theorem WI{l:O6}(hc:wV l.1=some l.1)(k:Int):jm l k=wF l k:=by unfold jm wF;simp only[hc,Xh];rfl
end Go.GP
namespace Go.GP
open Gt
set_option maxRecDepth 100000
def gtN(l:List c5v)(i:Int):c5v:=(P8 l i).getD []
def dC(k:Int):c5v:=(yJ k).getD []
def jT(k:Int):c5v:=(dL k).getD []
def jB(k:Int):c5v×Int:=(lN k).getD ([],0)
def AX(k:Int):Bool:=l7 (D8 k 2) true (l7 (D8 k 3) true (D8 k 4))
variable {b:Bool}
theorem b6j{x y:Option c5v}(hx:∃s,x=some s/\s.length<=10)(hy:∃s,y=some s/\s.length<=10):∃s,l7 b x y=some s/\s.length<=10:=by cases b<;>assumption
theorem a6k(k:Int):∃s,yJ k=some s/\s.length<=10:=by
 unfold yJ
 repeat (refine b6j ⟨_,rfl,C9⟩ ?_)
 exact⟨_,rfl,C9⟩
theorem b9j(k:Int):yJ k=some (dC k):=by obtain⟨s,h,-⟩:=a6k k;unfold dC;rw[h];rfl
theorem uq(k:Int):gU k=some (dC k):=(show gU k=yJ k from rfl).trans (b9j k)
theorem RI(k:Int):dL k=some (jT k):=by
 unfold jT;have:∃s,dL k=some s:=by
  unfold dL;simp only[sU];repeat' split
  all_goals exact⟨_,rfl⟩
 obtain⟨s,h⟩:=this;rw[h];rfl
theorem b8Y(k:Int):lN k=some (jB k):=by
 unfold jB;have:∃s,lN k=some s:=by
  unfold lN;simp only[sU];repeat' split
  all_goals exact⟨_,rfl⟩
 obtain⟨s,h⟩:=this;rw[h];rfl
theorem b3X(k:Int):iK k=some (jB k):=(show iK k=lN k from rfl).trans (b8Y k)
theorem xh(k:Int):(dC k).length<=10:=by obtain⟨s,h,h2⟩:=a6k k;unfold dC;rw[h];exact h2
theorem OM(k:Int):(jT k).length<=10:=by
 unfold jT dL;simp only[sU];repeat' split
 all_goals simp
theorem a6d(k:Int):(jB k).1.length<=10:=by
 unfold jB lN;simp only[sU];repeat' split
 all_goals simp
structure NmOk (N:D9):Prop where
 e:∀e∈N.1,e.1.length<=1000/\∀m∈e.2,m.length<=1000
 t:∀s∈N.2.1,s.length<=1000
 i:∀s∈N.2.2.1,s.length<=1000
 d:∀s∈N.2.2.2.1,s.length<=1000
 m:∀s∈N.2.2.2.2,s.length<=1000
abbrev Tx:Type:=c5v×Int
def wiS(p:Tx)(c:Int):c5v:=l7 (J4 p.2 c) ([40]++p.1++[41]) p.1
def vg(n:Int×Int)(N:D9):Tx:=
 l7 (U7 n.1 5) (((xC (n.1,0,n.2) []).getD ([],0)).1,l7 (J4 n.2 0) 6 7)
 (l7 (D8 n.1 6) (((P8 N.1 (dh .i64 n.2 16)).getD ([],[])).1++[58]++gtN ((P8 N.1 (dh .i64 n.2 16)).getD ([],[])).2 (iE n.2 16),7)
 (l7 (D8 n.1 7) (gtN N.2.2.1 n.2,7)
 (l7 (D8 n.1 8) (gtN N.2.2.2.1 n.2,7)
 (l7 (D8 n.1 9) ([116,111,100,97,121],7)
 (l7 (D8 n.1 35) ([99,111,117,110,116,40,41],7) (dC n.1++[40]++gtN N.2.2.2.2 n.2++[41],7))))))
def NF(n:Int×Int)(N:D9)(num:Bool)(a:Tx):Tx:=
 l7 (D8 n.1 33) (dC n.1++[40]++gtN N.2.1 n.2++[44,32]++a.1++[41],7)
 (l7 (D8 n.1 34) (dC n.1++[40]++gtN N.2.1 (dh .i64 n.2 8)++[44,32]++a.1++[44,32]++jT (iE n.2 8)++[41],7)
 (l7 (D8 n.1 25) ([110,111,116,32]++wiS a 6,6)
 (l7 (D8 n.1 10) ([45]++l7 num ([40]++a.1++[41]) (wiS a 6),6) (dC n.1++[40]++a.1++[41],7))))
def SS(k:Int):Bool:=l7 (D8 k 17) true (l7 (D8 k 18) true (l7 (D8 k 27) true (l7 (D8 k 28) true (l7 (D8 k 29) true (D8 k 30)))))
def Xt(k:Int):Bool:=l7 (D8 k 14) true (l7 (D8 k 15) true (D8 k 16))
def Iy(n:Int×Int)(a b:Tx):Tx:=
 l7 (SS n.1) (dC n.1++[40]++a.1++[44,32]++b.1++[41],7)
 (l7 (Xt n.1) (dC n.1++[40]++a.1++[44,32]++b.1++[44,32]++jT n.2++[41],7)
 (wiS a (l7 (D8 (jB n.1).2 3) 4 (jB n.1).2)++[32]++(jB n.1).1++[32]++wiS b ((jB n.1).2+1),(jB n.1).2))
def ifX(a b c:Tx):Tx:=([105,102,32]++a.1++[32,116,104,101,110,32]++b.1++[32,101,108,115,101,32]++c.1,0)
def txT(N:D9):XT->Tx
 | .l0 n=>vg n N| .l1 n a=>NF n N (AX a.node.1) (txT N a)| .l2 n a b=>Iy n (txT N a) (txT N b)| .l3 n a b c=>ifX (txT N a) (txT N b) (txT N c)
def pcT(N:D9)(t:XT):I4:=((txT N t).1,(txT N t).2,AX t.node.1)
def EX(n:Int×Int)(args:List I4)(N:D9)(p:Tx):Prop:=
 ∃c,U6 n N=some c/\W9 n args N=some (l7 (D8 c 0) ((p.1,p.2,AX n.1),0) (([],0,false),c))
variable {α:Type}
theorem lx0(a:α)(l:List α):P8 (a::l) 0=some a:=rfl
theorem lx1(a b:α)(l:List α):P8 (a::b::l) 1=some b:=rfl
theorem lx2(a b c:α)(l:List α):P8 (a::b::c::l) 2=some c:=rfl
theorem Gy(p:I4)(c:Int)(h:p.1.length<=1000000000):eP p c=some (wiS (p.1,p.2.1) c):=by unfold eP wiS;rw[N9 H7,o9,N9 H7,o9];cases J4 p.2.1 c<;>rfl
theorem Ob(p:Tx)(c:Int):(wiS p c).length<=p.1.length+2:=by unfold wiS;cases J4 p.2 c<;>simp
theorem arN(k:Int):1<=k/\k<=39\/arF k=-1:=by
 by_cases h:1<=k/\k<=39
 .exact .inl h
 .refine .inr ?_;unfold arF;rw[ZY h];rfl
variable {k:Int}
theorem ar0(h:arF k=0):k=1\/k=2\/k=3\/k=4\/k=5\/k=6\/k=7\/k=8\/k=9\/k=35\/k=36\/k=37\/k=38\/k=39:=by
 rcases arN k with h1|h1
 .obtain⟨j,rfl⟩:=VP h1;revert h;revert j;decide
 .omega
theorem ar1(h:arF k=1):k=10\/k=25\/k=31\/k=32\/k=33\/k=34:=by
 rcases arN k with h1|h1
 .obtain⟨j,rfl⟩:=VP h1;revert h;revert j;decide
 .omega
theorem ar2(h:arF k=2):k=11\/k=12\/k=13\/k=14\/k=15\/k=16\/k=17\/k=18\/k=19\/k=20\/k=21\/k=22\/k=23\/k=24\/k=27\/k=28\/k=29\/k=30:=by
 rcases arN k with h1|h1
 .obtain⟨j,rfl⟩:=VP h1;revert h;revert j;decide
 .omega
theorem ar3(h:arF k=3):k=26:=b6f h
variable {N:D9}{n:Int×Int}
theorem a5I{args:List I4}{p:Tx}(c:Int)(h1:U6 n N=some c)(h2:W9 n args N=some (l7 (D8 c 0) ((p.1,p.2,AX n.1),0) (([],0,false),c))):EX n args N p:=⟨c,h1,h2⟩
variable {m:Int}
theorem b2S(hk:k=1\/k=2\/k=3\/k=4\/k=5)(hm:fP m)(N:D9):∃c s,U6 (k,m) N=some c/\fK (k,0,m) []=some (s,c):=by
 have b1:∀lo hi:Int,di (k,0) []=some (lo,hi)->aN (k,0) []=some true->∃c s,U6 (k,m) N=some c/\fK (k,0,m) []=some (s,c):=by
  intro lo hi hb hv;have hf:U6 (k,m) N=some (l7 (J4 m lo) 3 (l7 (J4 hi m) 3 0)):=by
   unfold U6 vN;simp only[Y7 (show 1<=k by omega),Y7 (show k<=5 by omega),o7,o9,hb];cases J4 m lo
   .cases J4 hi m<;>rfl
   .rfl
  have hw:iw m (k,0) []=some (l7 (U7 lo m) (U7 m hi) false):=by unfold iw;rw[KI,hb,o9];cases U7 lo m<;>rfl
  rw[hf];obtain⟨t,ht,-⟩:=Cf (B:=100) l9 l9 (v:=(k,0,m)) (en:=[]) hm (λe h=>by cases h);unfold fK at ht ⊢;simp only[uV,hv,hw,o9,F5,o6]at ht ⊢;by_cases h1:lo<=m
  .by_cases h2:m<=hi
   .rw[Y7 h1,Y7 h2,o7,F5,o6]at ht ⊢;rw[Y0 h1,Y0 h2,o6,o6];refine⟨0,t.1,rfl,?_⟩;rw[ht];have e:t.2=0:=by
     rcases hk with rfl|rfl|rfl|rfl|rfl
     .simp (disch:=decide) only[O0,o7]at ht;revert ht;cases D8 m 1<;>cases D8 m 0<;>intro ht<;>cases ht<;>rfl
     .simp (disch:=decide) only[O0,J8,o7,o6,jh hm,o9,G6]at ht;rw[←ht]
     .simp (disch:=decide) only[O0,J8,o7,o6]at ht;rw[show aV m 2=_ from fG (k:=2) hm l9]at ht;simp only[o9,G6]at ht;rw[←ht]
     .simp (disch:=decide) only[O0,J8,o7,o6]at ht;have f4:=Dh (k:=4) hm l9;rw[show aV m 4=_ from fG (k:=4) hm l9,o9,N9 H7]at ht;simp only[o9,G6]at ht;rw[←ht]
     .simp (disch:=decide) only[O0,J8,o7,o6,qx,o9,G6]at ht;rw[←ht]
    rw[←e]
   .rw[Y7 h1,dA l9,o7,af,o7,Y0 h1,dE l9,o6,o7];exact⟨3,[],rfl,rfl⟩
  .rw[dA l9,o6,af,o7,dE l9,o7];exact⟨3,[],rfl,rfl⟩
 rcases hk with rfl|rfl|rfl|rfl|rfl
 .exact b1 0 1 rfl rfl
 .exact b1 _ _ rfl rfl
 .exact b1 _ _ rfl rfl
 .exact b1 _ _ rfl rfl
 .exact b1 _ _ rfl rfl
theorem Eh(hk:k=1\/k=2\/k=3\/k=4\/k=5)(hm:fP m)(N:D9):EX (k,m) [] N (vg (k,m) N):=by
 obtain⟨c,s,h1,h2⟩:=b2S hk hm N;refine a5I c h1 ?_;have e:vg (k,m) N=(s,l7 (J4 m 0) 6 7):=by unfold vg;rw[Y7 (show k<=5 by omega),o7,←vG [] hm,h2];rfl
 have hc:c=0\/c=3:=by
  unfold U6 vN at h1;have h:=h1;simp only[Y7 (show 1<=k by omega),Y7 (show k<=5 by omega),o7,o9]at h;cases hb:di (k,0) []with
  |none=>rw[hb]at h;cases h|some b=>rw[hb,o9]at h;cases hx:J4 m b.1<;>cases hy:J4 b.2 m<;>simp only[hx,hy,o7,o6,G6]at h<;>omega
 have hr:pz (k,m)=some (l7 (D8 c 0) ((s,l7 (l7 (AX k) (J4 m 0) false) 6 7,AX k),0) (([],0,false),c)):=by
  unfold pz AX;simp only[h2,o9];rcases hc with rfl|rfl
  .simp only[O0 (rfl:(0:Int)=0),F5,o6,o7,aC,o9];cases J4 m 0<;>cases D8 k 2<;>cases D8 k 3<;>cases D8 k 4<;>rfl
  .rfl
 rw[e];unfold W9;rw[hr];have hneg:c=0->l7 (l7 (AX k) (J4 m 0) false) (6:Int) 7=l7 (J4 m 0) 6 7:=by
  intro h0;subst h0;cases hg:J4 m 0
  .cases AX k<;>rfl
  rcases hk with rfl|rfl|rfl|rfl|rfl
  .exfalso;unfold U6 vN at h1;simp only[show di (1,0) []=some (0,1)from rfl,Y7 (show(1:Int)<=1 by omega),Y7 (show(1:Int)<=5 by omega),o7,o9,hg,G6]at h1;omega
  .rfl
  .rfl
  .rfl
  .exfalso;unfold U6 vN at h1;simp only[show di (5,0) []=some (0,109572)from rfl,Y7 (show(1:Int)<=5 by omega),Y7 (show(5:Int)<=5 by omega),o7,o9,hg,G6]at h1;omega
 rcases hc with rfl|rfl
 .rw[hneg rfl];rcases hk with rfl|rfl|rfl|rfl|rfl<;>rfl
 .rcases hk with rfl|rfl|rfl|rfl|rfl<;>rfl
theorem Nq{l:List c5v}{i:Int}(h0:0<=i)(h:i<x9 l):P8 l i=some (gtN l i)/\gtN l i∈l:=by obtain⟨x,h1,h2⟩:=tH h0 h;unfold gtN;rw[h1];exact⟨rfl,h2⟩
theorem Nh{l:List c5v}{B:Nat}(h:∀s∈l,s.length<=B)(i:Int):(gtN l i).length<=B:=by
 unfold gtN;cases hl:P8 l i with
 |none=>simp|some x=>exact h x (ng hl).2.2.1
theorem Sz(k m:Int)(args:List I4)(N:D9)(hk:k=6\/k=7\/k=8\/k=36\/k=37\/k=38\/k=39):W9 (k,m) args N=dY (k,m) N:=by unfold W9;generalize hq:dY (k,m) N=q;rcases hk with rfl|rfl|rfl|rfl|rfl|rfl|rfl<;>simp (disch:=decide) only[O0,J8,o7,o6,o9,hq]<;>cases q<;>rfl
theorem zh(hk:k=7\/k=8\/k=36\/k=37\/k=38\/k=39)(hN:NmOk N):EX (k,m) [] N (vg (k,m) N):=by
 have key:∀(l:List c5v) (before after:c5v),(∀s∈l,s.length<=1000)->before.length<=100->after.length<=100->
   U6 (k,m) N=l7 (J4 m 0) (some 6) (l7 (U7 (x9 l) m) (some 6) (some 0))->
   dY (k,m) N=l7 (J4 m 0) (some (([],0,false),6))
    (l7 (U7 (x9 l) m) (some (([],0,false),6))
     (o5 (P8 l m) λ(x_1:c5v)=>
      o5 (ak before x_1) λ(x_2:c5v)=>
       o5 (ak x_2 after) λ(x:c5v)=>some ((x,7,false),0)))->
   vg (k,m) N=(before++gtN l m++after,7)->EX (k,m) [] N (vg (k,m) N):=by
  intro l before after hl hb ha hf0 hr he;have hf:U6 (k,m) N=some (l7 (J4 m 0) 6 (l7 (U7 (x9 l) m) 6 0)):=by rw[hf0];cases J4 m 0<;>cases U7 (x9 l) m<;>rfl
  refine a5I _ hf ?_;have hnum:AX k=false:=by rcases hk with rfl|rfl|rfl|rfl|rfl|rfl<;>rfl
  rw[Sz _ _ _ _ l9,hr,he,hnum];by_cases h0:m<0
  .rw[dE h0];rfl
  by_cases h1:x9 l<=m
  .simp only[Y0 (show 0<=m by omega),Y7 h1];rfl
  .have:=Nq (l:=l) (i:=m) l9 l9;have h2:=hl _ this.2;simp only[Y0 (show 0<=m by omega),dA (show m<x9 l by omega),o6,this.1,o9];rw[N9 l9,o9,N9 H7,o9];rfl
 have mem:∀k:Int,(k=36\/k=37\/k=38\/k=39)->dY (k,m) N=l7 (J4 m 0) (some (([],0,false),6))
    (l7 (U7 (x9 N.2.2.2.2) m) (some (([],0,false),6))
     (o5 (P8 N.2.2.2.2 m) λ(x_1:c5v)=>
      o5 (ak (dC k++[40]) x_1) λ(x_2:c5v)=>
       o5 (ak x_2 [41]) λ(x:c5v)=>some ((x,7,false),0))):=by
  intro k hk;have hw:=xh k;unfold dY aC;simp only[J8 (show k≠6 by omega),J8 (show k≠7 by omega),J8 (show k≠8 by omega),o6,uq,o9,N9 (a:=dC k) (b:=[40]) H7,ae]
 have lf:∀k:Int,(k=36\/k=37\/k=38\/k=39)->vg (k,m) N=(dC k++[40]++gtN N.2.2.2.2 m++[41],7):=by intro k hk;unfold vg;simp only[dA (show 5<k by omega),J8 (show k≠6 by omega),J8 (show k≠7 by omega),J8 (show k≠8 by omega),J8 (show k≠9 by omega),J8 (show k≠35 by omega),o6]
 have wl:=λk=>xh k;rcases hk with rfl|rfl|rfl|rfl|rfl|rfl
 .refine key N.2.2.1 [] [] hN.i x8 x8 rfl ?_ ?_
  .unfold dY aC;simp (disch:=decide) only[O0,J8,o7,o6,o9,ae]
  .unfold vg;simp (disch:=decide) only[O0,J8,dA,o7,o6];simp
 .refine key N.2.2.2.1 [] [] hN.d x8 x8 rfl ?_ ?_
  .unfold dY aC;simp (disch:=decide) only[O0,J8,o7,o6,o9,ae]
  .unfold vg;simp (disch:=decide) only[O0,J8,dA,o7,o6];simp
 .exact key N.2.2.2.2 (dC 36++[40]) [41] hN.m C9 C9 rfl (mem _ l9) (lf _ l9)
 .exact key N.2.2.2.2 (dC 37++[40]) [41] hN.m C9 C9 rfl (mem _ l9) (lf _ l9)
 .exact key N.2.2.2.2 (dC 38++[40]) [41] hN.m C9 C9 rfl (mem _ l9) (lf _ l9)
 .exact key N.2.2.2.2 (dC 39++[40]) [41] hN.m C9 C9 rfl (mem _ l9) (lf _ l9)
theorem Pj(h:fP m)(d:Int)(hd:d=8\/d=16):dh .i64 m d=m.tdiv d:=by
 refine OD ?_;unfold fP at h ⊢;rcases hd with rfl|rfl
 all_goals
  rcases Int.lt_or_le m 0 with h0|h0
  .have e:=Int.neg_tdiv (a:=-m) (b:=8);have e' :=Int.neg_tdiv (a:=-m) (b:=16);rw[Int.neg_neg]at e e';have q1:=uk (a:=-m) (b:=8) l9;have q2:=uk (a:=-m) (b:=16) l9;omega
  .have q1:=uk (a:=m) (b:=8) l9;have q2:=uk (a:=m) (b:=16) l9;omega
theorem a1A(hm:fP m)(hN:NmOk N):EX (6,m) [] N (vg (6,m) N):=by
 have hf:U6 (6,m) N=(l7 (J4 m 0) (some 6)
    (l7 (U7 (x9 N.1) (dh .i64 m 16)) (some 6)
     (o5 (P8 N.1 (dh .i64 m 16)) λ(x:U2)=>
      l7 (U7 (x9 x.2) (iE m 16)) (some 6) (some 0)))):=rfl
 have hr:dY (6,m) N=o5 (l7 (J4 m 0) (some (Sum.inr (([],0,false),6)))
   (l7 (U7 (x9 N.1) (dh IntKind.i64 m 16)) (some (Sum.inr (([],0,false),6)))
    (o5 (P8 N.1 (dh IntKind.i64 m 16)) λ(x:U2)=>
     o5 (ak x.1 [58]) λ(x_1:c5v)=>some (Sum.inl (([],0,false),x.2,iE m 16,x_1,[]))))) λ(o:I4×List c5v×Int×c5v×c5v⊕I4×Int)=>
 dU o
  (λ(x:I4×List c5v×Int×c5v×c5v)=>
   l7 (J4 x.2.2.1 0) (some (([],0,false),6))
    (l7 (U7 (x9 x.2.1) x.2.2.1) (some (([],0,false),6))
     (o5 (P8 x.2.1 x.2.2.1) λ(x_1:c5v)=>
      o5 (ak x.2.2.2.1 x_1) λ(x_2:c5v)=>
       o5 (ak x_2 x.2.2.2.2) λ(x:c5v)=>
        o5 (aC x) λ(x:I4)=>some (x,0))))
  λ(r:I4×Int)=>some r:=rfl
 have hl:vg (6,m) N=(((P8 N.1 (dh .i64 m 16)).getD ([],[])).1++[58]++gtN ((P8 N.1 (dh .i64 m 16)).getD ([],[])).2 (iE m 16),7):=rfl;unfold EX;rw[hf,Sz _ _ _ _ l9,hr,hl];by_cases h0:m<0
 .rw[dE h0];exact⟨6,rfl,rfl⟩
 rw[Y0 l9,o6,o6];by_cases h1:x9 N.1<=dh .i64 m 16
 .rw[Y7 h1];exact⟨6,rfl,rfl⟩
 rw[dA l9,o6,o6];have hq:0<=dh .i64 m 16:=by rw[Pj hm 16 (.inr rfl),uk l9];omega
 obtain⟨e,he,hmem⟩:=tH (l:=N.1) hq l9;have hb:=hN.e e hmem;have hr0:iE m 16=m % 16:=BD l9;simp only[he,o9,X8,N9 (a:=e.1) (b:=[58]) H7,ae];rw[Y0 (show 0<=iE m 16 by omega),o6];by_cases h2:x9 e.2<=iE m 16
 .rw[Y7 h2];exact⟨6,rfl,rfl⟩
 rw[dA l9,o6,o6];have hg:=Nq (l:=e.2) (i:=iE m 16) l9 l9;have h3:=hb.2 _ hg.2;refine⟨0,rfl,?_⟩;rw[hg.1,o9,N9 H7,o9,N9 H7,o9];simp only[aC,o9,E9];rfl
theorem b0q :EX (9,0) [] N (vg (9,0) N):=⟨0,rfl,rfl⟩
theorem a7E :EX (35,0) [] N (vg (35,0) N):=⟨0,rfl,rfl⟩
theorem b3y(hN:NmOk N)(hm:fP m)(ha:arF k=0)(hu:m=0\/dw k=some true):EX (k,m) [] N (vg (k,m) N):=by
 have hz:(k=9\/k=35)->m=0:=by
  intro h;rcases hu with h1|h1
  .exact h1
  .exfalso;rcases h with rfl|rfl<;>exact absurd h1 C9
 rcases ar0 ha with rfl|rfl|rfl|rfl|rfl|rfl|rfl|rfl|rfl|rfl|rfl|rfl|rfl|rfl
 .exact Eh l9 hm N
 .exact Eh l9 hm N
 .exact Eh l9 hm N
 .exact Eh l9 hm N
 .exact Eh l9 hm N
 .exact a1A hm hN
 .exact zh l9 hN
 .exact zh l9 hN
 .rw[hz l9];exact b0q
 .rw[hz l9];exact a7E
 .exact zh l9 hN
 .exact zh l9 hN
 .exact zh l9 hN
 .exact zh l9 hN
theorem a3J(hm:fP m)(hN:NmOk N)(a:I4)(h1:a.1.length<=1000000000):EX (33,m) [a] N (NF (33,m) N b (a.1,a.2.1)):=by
 have hf:U6 (33,m) N=l7 (J4 m 0) (some 6) (l7 (U7 (x9 N.2.1) m) (some 6) (some 0)):=rfl;have hr:W9 (33,m) [a] N=gW (33,m) a N:=by unfold W9;generalize hq:gW (33,m) a N=q;simp (disch:=decide) only[O0,J8,o7,o6,o9,lx0,hq];cases q<;>rfl
 have hx:NF (33,m) N b (a.1,a.2.1)=(dC 33++[40]++gtN N.2.1 m++[44,32]++a.1++[41],7):=rfl;unfold EX;rw[hf,hr,hx];unfold gW aC;simp (disch:=decide) only[O0,J8,o7,o6,o9,uq];by_cases h0:m<0
 .rw[dE h0];exact⟨6,rfl,rfl⟩
 rw[Y0 l9,o6,o6];by_cases h2:x9 N.2.1<=m
 .rw[Y7 h2];exact⟨6,rfl,rfl⟩
 rw[dA l9,o6,o6];have hg:=Nq (l:=N.2.1) (i:=m) l9 l9;have h3:=hN.t _ hg.2;have hw:=xh 33;refine⟨0,rfl,?_⟩;rw[o9,ae,N9 H7,o9,hg.1,o9,N9 H7,o9,N9 H7,o9,N9 H7,o9,N9 H7,o9];rfl
theorem a0Z(h:0<=m):seq (jT m) []=J4 5 m:=by
 by_cases h5:m<=5
 .rw[Y0 h5];obtain⟨k,rfl⟩:∃k:Fin 6,m=(k.val:Int):=⟨⟨m.toNat,l9⟩,by simp;omega⟩;revert k;decide
 .rw[dE l9];unfold jT dL;simp only[J8 (show m≠0 by omega),J8 (show m≠1 by omega),J8 (show m≠2 by omega),J8 (show m≠3 by omega),J8 (show m≠4 by omega),J8 (show m≠5 by omega),o6];rfl
theorem a9m(h:m<0):seq (jT m) []=true:=by unfold jT dL;simp only[J8 (show m≠0 by omega),J8 (show m≠1 by omega),J8 (show m≠2 by omega),J8 (show m≠3 by omega),J8 (show m≠4 by omega),J8 (show m≠5 by omega),o6];rfl
theorem a1z(hm:fP m)(hN:NmOk N)(a:I4)(h1:a.1.length<=1000000000):EX (34,m) [a] N (NF (34,m) N b (a.1,a.2.1)):=by
 have hf:U6 (34,m) N=l7 (J4 m 0) (some 6) (l7 (U7 (x9 N.2.1) (dh .i64 m 8)) (some 6) (l7 (J4 5 (iE m 8)) (some 3) (some 0))):=rfl;have hr:W9 (34,m) [a] N=gW (34,m) a N:=by unfold W9;generalize hq:gW (34,m) a N=q;simp (disch:=decide) only[O0,J8,o7,o6,o9,lx0,hq];cases q<;>rfl
 have hx:NF (34,m) N b (a.1,a.2.1)=(dC 34++[40]++gtN N.2.1 (dh .i64 m 8)++[44,32]++a.1++[44,32]++jT (iE m 8)++[41],7):=rfl;unfold EX;rw[hf,hr,hx];unfold gW aC;simp (disch:=decide) only[O0,J8,o7,o6,o9,uq,RI];by_cases h0:m<0
 .rw[dE h0,Y0 (show m<=0 by omega)];simp only[o7,o6,o9,dE h0,lU];exact⟨6,rfl,rfl⟩
 have hq:dh .i64 m 8=m / 8:=by rw[Pj hm 8 (.inl rfl),uk l9]
 have hi:(l7 (J4 0 m) (some (dh .i64 m 8)) (some m):c5A)=some (dh .i64 m 8):=by
  by_cases h:0<m
  .rw[dE h];rfl
  .rw[Y0 l9,o6,show dh .i64 m 8=m by omega]
 rw[hi,o9,Y0 (show 0<=m by omega),o6,Y0 (show 0<=dh .i64 m 8 by omega),o6];by_cases h2:x9 N.2.1<=dh .i64 m 8
 .rw[Y7 h2];exact⟨6,rfl,rfl⟩
 rw[dA l9,o6,o6];have hg:=Nq (l:=N.2.1) (i:=dh .i64 m 8) l9 l9;have h3:=hN.t _ hg.2;have hw:=xh 34;have hm:=OM (iE m 8);have hr0:iE m 8=m % 8:=BD l9;rw[o9,ae,N9 H7,o9,hg.1,o9,N9 H7,o9,N9 H7,o9,N9 H7,o9,a0Z (show 0<=iE m 8 by omega)];cases J4 5 (iE m 8)
 .refine⟨0,rfl,?_⟩;rw[o6,N9 H7,o9,N9 H7,o9,N9 H7,o9];simp[l7];rfl
 .exact⟨3,rfl,rfl⟩
theorem b3z(hN:NmOk N)(hm:fP m)(ha:arF k=1)(hu:m=0\/dw k=some true)(a:I4)(h1:a.1.length<=1000000000):EX (k,m) [a] N (NF (k,m) N a.2.2 (a.1,a.2.1)):=by
 have hz:(k=10\/k=25\/k=31\/k=32)->m=0:=by
  intro h;rcases hu with h1|h1
  .exact h1
  .exfalso;rcases h with rfl|rfl|rfl|rfl<;>exact absurd h1 C9
 have hw:=Ob (a.1,a.2.1) 6;simp only at hw;rcases ar1 ha with rfl|rfl|rfl|rfl|rfl|rfl
 .rw[hz l9];refine⟨0,rfl,?_⟩;unfold W9 NF;simp (disch:=decide) only[O0,J8,o7,o6,o9,lx0,Gy a 6 h1];cases h:a.2.2
  .simp only[o6,o7];rw[N9 H7,o9,o9,lU];rfl
  .simp only[o7];rw[N9 H7,o9,N9 H7,o9,N9 H7,o9,o9,lU];rfl
 .rw[hz l9];refine⟨0,rfl,?_⟩;unfold W9 NF;simp (disch:=decide) only[O0,J8,o7,o6,o9,lx0,Gy a 6 h1];rw[N9 H7,o9,o9,lU];rfl
 .rw[hz l9];refine⟨0,rfl,?_⟩;have hl:=xh 31;unfold W9 NF aC;simp (disch:=decide) only[O0,J8,o7,o6,o9,lx0,uq];rw[N9 H7,o9,N9 H7,o9,N9 H7,o9,o9,lU];rfl
 .rw[hz l9];refine⟨0,rfl,?_⟩;have hl:=xh 32;unfold W9 NF aC;simp (disch:=decide) only[O0,J8,o7,o6,o9,lx0,uq];rw[N9 H7,o9,N9 H7,o9,N9 H7,o9,o9,lU];rfl
 .exact a3J hm hN a h1
 .exact a1z hm hN a h1
theorem a3H(hk:k=17\/k=18\/k=27\/k=28\/k=29\/k=30)(a b:I4)(h1:a.1.length<=1000000000)(h2:b.1.length<=1000000000):EX (k,0) [a,b] N (Iy (k,0) (a.1,a.2.1) (b.1,b.2.1)):=by
 have hl:=xh k;rcases hk with rfl|rfl|rfl|rfl|rfl|rfl
 all_goals
  refine⟨0,rfl,?_⟩;unfold W9 Iy aC SS;simp (disch:=decide) only[O0,J8,o7,o6,o9,lx0,lx1,uq];rw[N9 H7,o9,N9 H7,o9,N9 H7,o9,N9 H7,o9,N9 H7,o9,o9,lU];rfl
theorem a3I(hk:k=14\/k=15\/k=16)(a b:I4)(h1:a.1.length<=1000000000)(h2:b.1.length<=1000000000):EX (k,m) [a,b] N (Iy (k,m) (a.1,a.2.1) (b.1,b.2.1)):=by
 have hl:=xh k;have hm:=OM m;have hf:U6 (k,m) N=some (l7 (seq (jT m) []) 3 0):=by
  have:U6 (k,m) N=l7 (J4 m 0) (some 3) (l7 (J4 5 m) (some 3) (some 0)):=by rcases hk with rfl|rfl|rfl<;>rfl
  rw[this];by_cases h0:m<0
  .rw[dE h0,a9m h0];rfl
  .rw[Y0 l9,a0Z l9];cases J4 5 m<;>rfl
 refine a5I _ hf ?_;rcases hk with rfl|rfl|rfl
 all_goals
  unfold W9 Iy aC SS Xt;simp (disch:=decide) only[O0,J8,o7,o6,o9,lx0,lx1,uq,RI];cases seq (jT m) []
  .rw[o6,N9 H7,o9,N9 H7,o9,N9 H7,o9,N9 H7,o9,N9 H7,o9,N9 H7,o9,N9 H7,o9,o9,lU];rfl
  .rfl
theorem a3G(hk:k=11\/k=12\/k=13\/k=19\/k=20\/k=21\/k=22\/k=23\/k=24)(a b:I4)(h1:a.1.length<=100000000)(h2:b.1.length<=100000000):EX (k,0) [a,b] N (Iy (k,0) (a.1,a.2.1) (b.1,b.2.1)):=by
 have hl:=a6d k;have hc:1<=(jB k).2/\(jB k).2<=5:=by rcases hk with rfl|rfl|rfl|rfl|rfl|rfl|rfl|rfl|rfl<;>decide
 have w1:=Ob (a.1,a.2.1) 4;have w2:=Ob (a.1,a.2.1) (jB k).2;have w3:=Ob (b.1,b.2.1) ((jB k).2+1);simp only at w1 w2 w3;have hx:W9 (k,0) [a,b] N=o5 (iK k) λ(x:c5v×Int)=>
    l7 (D8 x.2 3)
     (o5 (eP a 4) λ(x_2:c5v)=>
       o5 (ak x_2 [32]) λ(x_3:c5v)=>
        o5 (ak x_3 x.1) λ(x_4:c5v)=>
         o5 (ak x_4 [32]) λ(x_5:c5v)=>
           o5 (eP b (I8 IntKind.i64 x.2 1)) λ(x_7:c5v)=>
            o5 (ak x_5 x_7) λ(x_8:c5v)=>some ((x_8,x.2,false),0))
     (o5 (eP a x.2) λ(x_2:c5v)=>
       o5 (ak x_2 [32]) λ(x_3:c5v)=>
        o5 (ak x_3 x.1) λ(x_4:c5v)=>
         o5 (ak x_4 [32]) λ(x_5:c5v)=>
           o5 (eP b (I8 IntKind.i64 x.2 1)) λ(x_7:c5v)=>
            o5 (ak x_5 x_7) λ(x_8:c5v)=>some ((x_8,x.2,false),0)):=by
  rcases hk with rfl|rfl|rfl|rfl|rfl|rfl|rfl|rfl|rfl<;>rfl
 have hf:U6 (k,0) N=some 0:=by rcases hk with rfl|rfl|rfl|rfl|rfl|rfl|rfl|rfl|rfl<;>rfl
 have hn:AX k=false:=by rcases hk with rfl|rfl|rfl|rfl|rfl|rfl|rfl|rfl|rfl<;>rfl
 have hb:SS k=false/\Xt k=false:=by rcases hk with rfl|rfl|rfl|rfl|rfl|rfl|rfl|rfl|rfl<;>exact⟨rfl,rfl⟩
 refine a5I _ hf ?_;rw[hx,b3X,o9];unfold Iy;simp only[hb.1,hb.2,hn,o6,cZ (show fP ((jB k).2+1) by unfold fP;omega)];rw[Gy a 4 l9,Gy a _ l9,Gy b _ l9];simp only[o9];cases D8 (jB k).2 3
 .simp only[o6];rw[N9 H7,o9,N9 H7,o9,N9 H7,o9,N9 H7,o9];rfl
 .simp only[o7];rw[N9 H7,o9,N9 H7,o9,N9 H7,o9,N9 H7,o9];rfl
theorem b3A(ha:arF k=2)(hu:m=0\/dw k=some true)(a b:I4)(h1:a.1.length<=100000000)(h2:b.1.length<=100000000):EX (k,m) [a,b] N (Iy (k,m) (a.1,a.2.1) (b.1,b.2.1)):=by
 have hz:¬(k=14\/k=15\/k=16)->m=0:=by
  intro h;rcases hu with h1|h1
  .exact h1
  .exfalso;rcases ar2 ha with rfl|rfl|rfl|rfl|rfl|rfl|rfl|rfl|rfl|rfl|rfl|rfl|rfl|rfl|rfl|rfl|rfl|rfl<;>first|omega|exact absurd h1 C9
 by_cases h:k=14\/k=15\/k=16
 .exact a3I h a b l9 l9
 rw[hz h];by_cases h' :k=17\/k=18\/k=27\/k=28\/k=29\/k=30
 .exact a3H h' a b l9 l9
 .exact a3G (by have:=ar2 ha;omega) a b h1 h2
theorem b3B(hu:m=0\/dw 26=some true)(a b c:I4)(h1:a.1.length<=100000000)(h2:b.1.length<=100000000)(h3:c.1.length<=100000000):EX (26,m) [a,b,c] N (ifX (a.1,a.2.1) (b.1,b.2.1) (c.1,c.2.1)):=by
 have hz:m=0:=by
  rcases hu with h1|h1
  .exact h1
  .exact absurd h1 C9
 rw[hz];refine⟨0,rfl,?_⟩;unfold W9 ifX;simp (disch:=decide) only[O0,J8,o7,o6,o9,lx0,lx1,lx2];rw[N9 H7,o9,N9 H7,o9,N9 H7,o9,N9 H7,o9,N9 H7,o9,o9,lU];rfl
def flS(n:Int×Int)(N:D9):Int:=(U6 n N).getD 0
theorem Zp{c:Int}(h:U6 n N=some c):flS n N=c:=by unfold flS;rw[h];rfl
theorem b4t(h:0<=arF k):dw k=some true\/dw k=some false:=by
 rcases arN k with h1|h1
 .obtain⟨j,rfl⟩:=VP h1;revert h;revert j;decide
 .omega
theorem b4Y(ha:0<=arF k)(hm:m≠0)(hu:dw k=some false):U6 (k,m) N=some 2:=by
 have h3:arF k=0\/arF k=1\/arF k=2\/arF k=3:=by have:=(Oi k).2.2;omega
 have key:U6 (k,m) N=l7 (I5 (D8 m 0)) (some 2) (some 0)->U6 (k,m) N=some 2:=by intro h;rw[h,J8 hm];rfl
 rcases h3 with h|h|h|h
 .rcases ar0 h with rfl|rfl|rfl|rfl|rfl|rfl|rfl|rfl|rfl|rfl|rfl|rfl|rfl|rfl<;>first|exact absurd hu C9|exact key rfl
 .rcases ar1 h with rfl|rfl|rfl|rfl|rfl|rfl<;>first|exact absurd hu C9|exact key rfl
 .rcases ar2 h with rfl|rfl|rfl|rfl|rfl|rfl|rfl|rfl|rfl|rfl|rfl|rfl|rfl|rfl|rfl|rfl|rfl|rfl<;>first|exact absurd hu C9|exact key rfl
 .have:=ar3 h;subst this;exact key rfl
def fmF(a0:List (Int×Int))(a1:D9)(x:List I4×Int):Option (Out (List I4×Int) (List I4) (c5v×Int)):=
     l7 (J4 x.2 (x9 a0))
      (o5 (P8 a0 x.2) λ(x_1:Int×Int)=>
       l7 (I5 (D8 x_1.2 0))
        (o5 (dw x_1.1) λ(x_2:Bool)=>
         l7 (I5 x_2) (some (Out.rt ([],2)))
          (o5 (lD x_1.1) λ(x_3:Int)=>
           l7 (nK (L6 IntKind.i64 (x9 x.1) x_3) (x9 x.1) (x9 x.1))
            (o5
             (W9 x_1 (lq x.1 (dV (L6 IntKind.i64 (x9 x.1) x_3)) (dV (x9 x.1))) a1)
             λ(x_4:I4×Int)=>
             l7 (I5 (D8 x_4.2 0)) (some (Out.rt ([],x_4.2)))
              (l7 (nK 0 (L6 IntKind.i64 (x9 x.1) x_3) (x9 x.1))
               (o5 (iy (lq x.1 (dV 0) (dV (L6 IntKind.i64 (x9 x.1) x_3))) [x_4.1])
                λ(x_5:List I4)=>some (Out.nx (x_5,I8 IntKind.i64 x.2 1)))
               none))
            none))
        (o5 (lD x_1.1) λ(x_2:Int)=>
         l7 (nK (L6 IntKind.i64 (x9 x.1) x_2) (x9 x.1) (x9 x.1))
          (o5 (W9 x_1 (lq x.1 (dV (L6 IntKind.i64 (x9 x.1) x_2)) (dV (x9 x.1))) a1)
           λ(x_3:I4×Int)=>
           l7 (I5 (D8 x_3.2 0)) (some (Out.rt ([],x_3.2)))
            (l7 (nK 0 (L6 IntKind.i64 (x9 x.1) x_2) (x9 x.1))
             (o5 (iy (lq x.1 (dV 0) (dV (L6 IntKind.i64 (x9 x.1) x_2))) [x_3.1])
              λ(x_4:List I4)=>some (Out.nx (x_4,I8 IntKind.i64 x.2 1)))
             none))
          none))
      (some (Out.ex x.1))
def fmG(N:D9)(n:Int×Int)(p:List I4)(x:Tx)(i:Nat):Option (Out (List I4×Int) (List I4) (c5v×Int)):=
 some (l7 (D8 (flS n N) 0) (.nx (p++[(x.1,x.2,AX n.1)],((i+1:Nat):Int))) (.rt ([],flS n N)))
variable {i:Nat}{e:List (Int×Int)}
theorem b2E{p args:List I4}{x:Tx}(hn:e[i]? =some n)(hi:i<=1000)(hp:p.length<=1000)(hl:args.length<=3)(ha:arF n.1=(args.length:Int))
  (hr:(n.2=0\/dw n.1=some true)->EX n args N x):fmF e N (p++args,(i:Int))=fmG N n p x i:=by
 have hx:L6 .i64 (x9 (p++args)) (arF n.1)=(p.length:Int):=by rw[bI (by unfold fP x9;simp;omega),ha];unfold x9;simp
 have r1:nK (p.length:Int) (x9 (p++args)) (x9 (p++args))=true:=by unfold nK x9;simp<;>omega
 have r2:nK 0 (p.length:Int) (x9 (p++args))=true:=by unfold nK x9;simp<;>omega
 have v1:lq (p++args) (dV (p.length:Int)) (dV (x9 (p++args)))=args:=by unfold lq dV x9;rw[I9,I9,aH (E5 _),Y6]
 have v2:lq (p++args) (dV 0) (dV (p.length:Int))=p:=by unfold lq dV;rw[I9,bJ];rfl
 have main:(n.2=0\/dw n.1=some true)->(o5 (lD n.1) λ(x_2:Int)=>
         l7 (nK (L6 IntKind.i64 (x9 (p++args)) x_2) (x9 (p++args)) (x9 (p++args)))
          (o5 (W9 n (lq (p++args) (dV (L6 IntKind.i64 (x9 (p++args)) x_2)) (dV (x9 (p++args)))) N)
           λ(x_3:I4×Int)=>
           l7 (I5 (D8 x_3.2 0)) (some (Out.rt ([],x_3.2)))
            (l7 (nK 0 (L6 IntKind.i64 (x9 (p++args)) x_2) (x9 (p++args)))
             (o5 (iy (lq (p++args) (dV 0) (dV (L6 IntKind.i64 (x9 (p++args)) x_2))) [x_3.1])
              λ(x_4:List I4)=>some (Out.nx (x_4,I8 IntKind.i64 (i:Int) 1)))
             none))
          none)=fmG N n p x i:=by
  intro hu;obtain⟨c,h1,h2⟩:=hr hu;rw[a8h,o9,hx,r1,o7,v1,h2,o9,r2,v2];unfold fmG;rw[Zp h1];cases hc:D8 c 0
  .rw[o6];simp only[hc,af,o7];rfl
  .rw[o7];simp only[O0 (rfl:(0:Int)=0),F5,o6,o7];rw[Ak _ l9,o9,bY l9]
 unfold fmF;simp only[U0 hn,o7,O5,hn,o9];by_cases h0:n.2=0
 .rw[O0 h0,F5,o6];exact main (.inl h0)
 .rw[J8 h0,af,o7];rcases b4t (k:=n.1) l9 with hu|hu
  .rw[hu,o9,F5,o6];exact main (.inr hu)
  .rw[hu,o9,af,o7];unfold fmG;rw[Zp (b4Y (k:=n.1) (m:=n.2) l9 h0 hu)];rfl
def ffS(N:D9):List (Int×Int)->Int
 |[]=>0|n::l=>l7 (D8 (flS n N) 0) (ffS N l) (flS n N)
theorem MZ(N:D9):∀a b,ffS N (a++b)=l7 (D8 (ffS N a) 0) (ffS N b) (ffS N a)
 |[],b=>by rw[show ffS N []=0 from rfl,O0 rfl];rfl|n::a,b=>by
  show l7 (D8 (flS n N) 0) (ffS N (a++b)) (flS n N)=l7 (D8 (l7 (D8 (flS n N) 0) (ffS N a) (flS n N)) 0) (ffS N b) (l7 (D8 (flS n N) 0) (ffS N a) (flS n N));rw[MZ N a b];cases h:D8 (flS n N) 0
  .simp only[o6,h]
  .simp only[o7]
theorem a8Z(hN:NmOk N)(hI:fP n.2):(vg n N).1.length<=3000:=by
 unfold vg;have hw:=xh n.1;have g1:=Nh hN.i n.2;have g2:=Nh hN.d n.2;have g3:=Nh hN.m n.2;have hv:((xC (n.1,0,n.2) []).getD ([],0)).1.length<=100:=by obtain⟨t,ht,hl⟩:=Cf (B:=100) l9 l9 (v:=(n.1,0,n.2)) (en:=[]) hI (λe h=>by cases h);rw[←vG [] hI,ht];exact hl
 have he:((P8 N.1 (dh .i64 n.2 16)).getD ([],[])).1.length<=1000/\(gtN ((P8 N.1 (dh .i64 n.2 16)).getD ([],[])).2 (iE n.2 16)).length<=1000:=by
  cases hx:P8 N.1 (dh .i64 n.2 16)with
  |none=>exact⟨x8,Nh (B:=1000) (λs h=>by cases h) _⟩|some e=>have:=hN.e e (ng hx).2.2.1;exact⟨this.1,Nh this.2 _⟩
 cases U7 n.1 5
 case true=>simp only[o7];omega
 cases D8 n.1 6
 case true=>simp only[o7,o6];simp;omega
 cases D8 n.1 7
 case true=>simp only[o7,o6];omega
 cases D8 n.1 8
 case true=>simp only[o7,o6];omega
 cases D8 n.1 9
 case true=>simp[l7]
 cases D8 n.1 35
 case true=>simp[l7]
 .simp only[o6];simp;omega
theorem b2Z(hN:NmOk N)(b:Bool)(a:Tx):(NF n N b a).1.length<=a.1.length+3000:=by
 unfold NF;have hw:=xh n.1;have hm:=OM (iE n.2 8);have g1:=Nh hN.t n.2;have g2:=Nh hN.t (dh .i64 n.2 8);have w:=Ob a 6;cases D8 n.1 33
 case true=>simp only[o7];simp;omega
 cases D8 n.1 34
 case true=>simp only[o7,o6];simp;omega
 cases D8 n.1 25
 case true=>simp only[o7,o6];simp;omega
 cases D8 n.1 10
 case true=>simp only[o7,o6];cases b<;>simp<;>omega
 .simp only[o6];simp;omega
theorem b4q(a b:Tx):(Iy n a b).1.length<=a.1.length+b.1.length+3000:=by
 unfold Iy;have hw:=xh n.1;have hm:=OM n.2;have hs:=a6d n.1;have w1:=Ob a (l7 (D8 (jB n.1).2 3) 4 (jB n.1).2);have w2:=Ob b ((jB n.1).2+1);cases SS n.1
 case true=>simp only[o7];simp;omega
 cases Xt n.1
 case true=>simp only[o7,o6];simp;omega
 .simp only[o6];simp;omega
theorem Bd{N:D9}(hN:NmOk N):∀(t:XT),(∀n∈t.post,fP n.2)->(txT N t).1.length<=3000*t.size
 | .l0 n,h=>a8Z hN (h n (by simp[XT.post]))| .l1 n a,h=>by have h1:=Bd hN a (λm hm=>h m (by simp[XT.post,hm]));have h2:=b2Z (n:=n) hN (AX a.node.1) (txT N a);simp only[txT,XT.size];omega| .l2 n a b,h=>by have h1:=Bd hN a (λm hm=>h m (by simp[XT.post,hm]));have h2:=Bd hN b (λm hm=>h m (by simp[XT.post,hm]));have h3:=b4q (n:=n) (txT N a) (txT N b);simp only[txT,XT.size];omega| .l3 n a b c,h=>by have h1:=Bd hN a (λm hm=>h m (by simp[XT.post,hm]));have h2:=Bd hN b (λm hm=>h m (by simp[XT.post,hm]));have h3:=Bd hN c (λm hm=>h m (by simp[XT.post,hm]));simp only[txT,XT.size,ifX];simp;omega
theorem bU{σ ε ρ:Type}(f:σ->Option (Out σ ε ρ))(n:Nat)(s:σ):fQ f (n+1) s=match f s with|some (.nx s')=>fQ f n s'|some (.ex e)=>some (.inl e)|some (.rt r)=>some (.inr r)|none=>none:=by rw[fQ]<;>rfl
theorem b2F(he:e.length<=48)(hN:NmOk N)(hI:∀n∈e,fP n.2):∀(t:XT) (pre suf:List (Int×Int)) (p:List I4) (m:Nat),e=pre++t.post++suf->t.wf->p.length+t.size<=60->
  fQ (fmF e N) (m+t.size) (p,(pre.length:Int))=l7 (D8 (ffS N t.post) 0) (fQ (fmF e N) m (p++[pcT N t],((pre.length+t.size:Nat):Int))) (some (.inr ([],ffS N t.post))):=by
 have stepN:∀(n:Int×Int) (pre suf:List (Int×Int)) (p args:List I4) (x:Tx) (m:Nat),e=pre++[n]++suf->p.length<=60->args.length<=3->arF n.1=(args.length:Int)->((n.2=0\/dw n.1=some true)->EX n args N x)->
   fQ (fmF e N) (m+1) (p++args,(pre.length:Int))=l7 (D8 (flS n N) 0) (fQ (fmF e N) m (p++[(x.1,x.2,AX n.1)],((pre.length+1:Nat):Int))) (some (.inr ([],flS n N))):=by
  intro n pre suf p args x m h1 h2 h3 h4 h5;have hn:e[pre.length]? =some n:=by rw[h1,E8,F7 (E5 _),aT];rfl
  have hlt:=(aJ.1 hn).1;rw[bU,b2E hn l9 l9 h3 h4 h5];unfold fmG;cases D8 (flS n N) 0<;>rfl
 intro t;induction t with
 |l0 n=>
  intro pre suf p m h hw hs;have hI1:=hI n (by rw[h];simp[XT.post]);have:=stepN n pre suf p [] (vg n N) m h l9 x8 hw (λhu=>b3y hN hI1 hw hu);rw[E9]at this;rw[show(XT.l0 n).size=1 from rfl,this];unfold XT.post ffS ffS;cases hf:D8 (flS n N) 0
  .simp only[o6,hf]
  .simp only[o7,O0 (rfl:(0:Int)=0)];rfl
 |l1 n a iha=>
  intro pre suf p m h hw hs;simp only[XT.post,XT.size]at h hs ⊢;have hI1:=hI n (by rw[h];simp);have hIa:∀n∈a.post,fP n.2:=λq hq=>hI q (by rw[h];simp[hq]);have hl:=Bd hN a hIa;rw[show m+(a.size+1)=(m+1)+a.size by omega,iha pre ([n]++suf) p (m+1) (by rw[h];simp) hw.2 l9,MZ];cases hf:D8 (ffS N a.post) 0
  .simp only[o6,hf]
  have:=stepN n (pre++a.post) suf p [pcT N a] (NF n N (AX a.node.1) (txT N a)) m (by rw[h];simp) l9 x8 hw.1 (λhu=>b3z hN hI1 hw.1 hu (pcT N a) (by simp only[pcT];omega));rw[show(pre++a.post).length=pre.length+a.size by simp[XT.post_len]]at this;simp only[o7];rw[this];unfold ffS ffS;cases hg:D8 (flS n N) 0
  .simp only[o6,hg]
  .simp only[o7,O0 (rfl:(0:Int)=0)];rfl
 |l2 n a b iha ihb=>
  intro pre suf p m h hw hs;simp only[XT.post,XT.size]at h hs ⊢;have hI1:=hI n (by rw[h];simp);have hIa:∀n∈a.post,fP n.2:=λq hq=>hI q (by rw[h];simp[hq]);have hIb:∀n∈b.post,fP n.2:=λq hq=>hI q (by rw[h];simp[hq]);have hla:=Bd hN a hIa;have hlb:=Bd hN b hIb;have s1:=a.size_pos;have s2:=b.size_pos;rw[show m+(a.size+b.size+1)=(m+1+b.size)+a.size by omega,iha pre (b.post++[n]++suf) p (m+1+b.size) (by rw[h];simp) hw.2.1 l9,MZ,MZ];cases hf:D8 (ffS N a.post) 0
  .simp only[o6,hf]
  have i2:=ihb (pre++a.post) ([n]++suf) (p++[pcT N a]) (m+1) (by rw[h];simp) hw.2.2 H7;rw[show(pre++a.post).length=pre.length+a.size by simp[XT.post_len]]at i2;simp only[o7];rw[i2];cases hf2:D8 (ffS N b.post) 0
  .simp only[o6,hf2]
  have:=stepN n (pre++a.post++b.post) suf p [pcT N a,pcT N b] (Iy n (txT N a) (txT N b)) m (by rw[h];simp) l9 x8 hw.1 (λhu=>b3A hw.1 hu (pcT N a) (pcT N b) (by simp only[pcT];omega) (by simp only[pcT];omega));rw[show(pre++a.post++b.post).length=pre.length+a.size+b.size by simp[XT.post_len];omega,show pre.length+a.size+b.size+1=pre.length+(a.size+b.size+1) by omega]at this;simp only[o7];rw[show p++[pcT N a]++[pcT N b]=p++[pcT N a,pcT N b] by simp,this];unfold ffS ffS;cases hg:D8 (flS n N) 0
  .simp only[o6,hg]
  .simp only[o7,O0 (rfl:(0:Int)=0)];rfl
 |l3 n a b c iha ihb ihc=>
  intro pre suf p m h hw hs;simp only[XT.post,XT.size]at h hs ⊢;have hI1:=hI n (by rw[h];simp);have hIa:∀n∈a.post,fP n.2:=λq hq=>hI q (by rw[h];simp[hq]);have hIb:∀n∈b.post,fP n.2:=λq hq=>hI q (by rw[h];simp[hq]);have hIc:∀n∈c.post,fP n.2:=λq hq=>hI q (by rw[h];simp[hq]);have hla:=Bd hN a hIa;have hlb:=Bd hN b hIb;have hlc:=Bd hN c hIc;have s1:=a.size_pos;have s2:=b.size_pos;have s3:=c.size_pos;have h26:=ar3 hw.1;rw[show m+(a.size+b.size+c.size+1)=(m+1+c.size+b.size)+a.size by omega,iha pre (b.post++c.post++[n]++suf) p (m+1+c.size+b.size) (by rw[h];simp) hw.2.1 l9,MZ,MZ,MZ];cases hf:D8 (ffS N a.post) 0
  .simp only[o6,hf]
  have i2:=ihb (pre++a.post) (c.post++[n]++suf) (p++[pcT N a]) (m+1+c.size) (by rw[h];simp) hw.2.2.1 H7;rw[show(pre++a.post).length=pre.length+a.size by simp[XT.post_len]]at i2;simp only[o7];rw[i2];cases hf2:D8 (ffS N b.post) 0
  .simp only[o6,hf2]
  have i3:=ihc (pre++a.post++b.post) ([n]++suf) (p++[pcT N a]++[pcT N b]) (m+1) (by rw[h];simp) hw.2.2.2 H7;rw[show(pre++a.post++b.post).length=pre.length+a.size+b.size by simp[XT.post_len];omega]at i3;simp only[o7];rw[i3];cases hf3:D8 (ffS N c.post) 0
  .simp only[o6,hf3]
  have:=stepN n (pre++a.post++b.post++c.post) suf p [pcT N a,pcT N b,pcT N c] (ifX (txT N a) (txT N b) (txT N c)) m (by rw[h];simp) l9 x8 hw.1 (λhu=>by obtain⟨k,v⟩:=n;simp only at h26 hu;subst h26;exact b3B hu (pcT N a) (pcT N b) (pcT N c) (by simp only[pcT];omega) (by simp only[pcT];omega) (by simp only[pcT];omega))
  rw[show(pre++a.post++b.post++c.post).length=pre.length+a.size+b.size+c.size by simp[XT.post_len];omega,show pre.length+a.size+b.size+c.size+1=pre.length+(a.size+b.size+c.size+1) by omega]at this;simp only[o7];rw[show p++[pcT N a]++[pcT N b]++[pcT N c]=p++[pcT N a,pcT N b,pcT N c] by simp,this];unfold ffS ffS;cases hg:D8 (flS n N) 0
  .simp only[o6,hg]
  .simp only[o7,O0 (rfl:(0:Int)=0)];rfl
def BC(e:List (Int×Int))(N:D9):c5v×Int:=match mJ e with
 | .inl x=>([],x.2)| .inr t=>l7 (D8 (ffS N e) 0) ((txT N t).1,0) ([],ffS N e)
theorem a2T(hN:NmOk N)(hI:∀n∈e,fP n.2):oN e N=some (BC e N):=by
 unfold oN BB BC;rw[Ir];unfold Bz;cases h:mJ e with
 |inl x=>simp only[o9,J8 (zk h)];rfl|inr t=>
  obtain⟨h1,h2,h3,h4⟩:=a8j h;obtain⟨hp,-⟩:=qi h;simp only[o9,O0 (rfl:(0:Int)=0),F5,o6];have hl:X5 (fmF e N) ([],0)=some (l7 (D8 (ffS N e) 0) (.inl [pcT N t]) (.inr ([],ffS N e))):=by
   unfold X5;rw[show au=(au -t.size)+t.size by unfold au;omega];have:=b2F h2 hN hI t [] [] [] (au -t.size) (by simp[←hp]) (Gx h) H7;rw[show(([]:List (Int×Int)).length:Int)=0 from rfl]at this;rw[this,←hp];cases D8 (ffS N e) 0
   .rfl
   .simp only[o7];rw[show au -t.size=(au -t.size -1)+1 by unfold au;omega];rw[bU];unfold fmF;simp only[F6,bC];rw[←h3,show J4 ((e.length:Nat):Int) (x9 e)=false from Y1 e];rfl
  refine V6 hl ?_;rw[o9];cases D8 (ffS N e) 0<;>rfl
theorem ED{l:List c5v}(hf:U6 n N=l7 (J4 n.2 0) (some 6) (l7 (U7 (x9 l) n.2) (some 6) (some 0)))(h:flS n N=0):P8 l n.2=some (gtN l n.2):=by
 unfold flS at h;rw[hf]at h;by_cases h0:n.2<0
 .rw[dE h0]at h;cases h
 by_cases h1:x9 l<=n.2
 .rw[Y0 l9,Y7 h1]at h;cases h
 exact(Nq l9 l9).1
theorem a4W(hm:fP m)(h:flS (34,m) N=0):P8 N.2.1 (dh .i64 m 8)=some (gtN N.2.1 (dh .i64 m 8))/\0<=iE m 8/\iE m 8<=5:=by
 have hf:U6 (34,m) N=l7 (J4 m 0) (some 6) (l7 (U7 (x9 N.2.1) (dh .i64 m 8)) (some 6) (l7 (J4 5 (iE m 8)) (some 3) (some 0))):=rfl;unfold flS at h;rw[hf]at h;by_cases h0:m<0
 .rw[dE h0]at h;cases h
 by_cases h1:x9 N.2.1<=dh .i64 m 8
 .rw[Y0 l9,Y7 h1]at h;cases h
 by_cases h2:5<iE m 8
 .rw[Y0 l9,dA l9,dE h2]at h;cases h
 have hq:dh .i64 m 8=m / 8:=by rw[Pj hm 8 (.inl rfl),uk l9]
 have hr0:iE m 8=m % 8:=BD l9;exact⟨(Nq l9 l9).1,l9,l9⟩
theorem a8K(hk:k=14\/k=15\/k=16)(h:flS (k,m) N=0):0<=m/\m<=5:=by
 have hf:U6 (k,m) N=l7 (J4 m 0) (some 3) (l7 (J4 5 m) (some 3) (some 0)):=by rcases hk with rfl|rfl|rfl<;>rfl
 unfold flS at h;rw[hf]at h;by_cases h0:m<0
 .rw[dE h0]at h;cases h
 by_cases h2:5<m
 .rw[Y0 l9,dE h2]at h;cases h
 omega
theorem Zo{N:D9} :∀{l:List (Int×Int)},ffS N l=0->∀n∈l,flS n N=0
 |[],_,n,h=>by cases h|a::l,h,n,hn=>by
  unfold ffS at h;cases hf:D8 (flS a N) 0
  .rw[hf]at h;rw[o6]at h;exact absurd h (vV.1 hf)
  .rw[hf]at h;rw[o7]at h;rcases D7.1 hn with rfl|hn
   .exact eF.1 hf
   .exact Zo h n hn
theorem a4X(hN:NmOk N)(hI:∀n∈e,fP n.2):(BC e N).1.length<=150000:=by
 unfold BC;cases h:mJ e with
 |inl x=>simp|inr t=>
  obtain⟨hp,h48⟩:=qi h;have:=Bd hN t (by rw[←hp];exact hI);rw[←t.post_len,←hp]at this;simp only;cases D8 (ffS N e) 0
  .simp[l7]
  .simp only[o7];omega
theorem a8q{a:List U2}(h:a.length<=1000000)(h2:∀e∈a,e.2.length<=1000000):wV a=some a:=by
 unfold wV;refine V6 (a2W a (λe=>e) h (F:=λx=>x) (λi e acc he hi=>?_) (λacc=>?_)) ?_
 rotate_left 2
 .rw[o9,List.map_id']
 .have hlt:=(aJ.1 he).1;simp only[U0 he,o7,O5,he,o9,a2C (h2 e (rD he))];rw[Ak _ l9];rfl
 .simp only[Y1 a,o6]
theorem a2U{l:List dO}(h:l.length<=1000000):nH l=some (l.map (·.1)):=by
 unfold nH;refine V6 (a2W l (λ(f:dO)=>f.1) h (F:=λx=>x) (λi e acc he hi=>?_) (λacc=>?_)) ?_
 rotate_left 2
 .rfl
 .have hlt:=(aJ.1 he).1;simp only[U0 he,o7,O5,he,o9];rw[Ak _ l9];rfl
 .simp only[Y1 l,o6]
def nmS(l:O6)(s:H6):D9:=(l.1,l.2.1.map (·.1),s.2.2.1.map (·.1),s.2.2.2.1.map (·.1),l7 (U7 0 s.2.1) (match P8 l.2.2 s.2.1 with|some q=>q.2.2.2.1.map (·.1)|none=>[]) [])
structure NmL (l:O6):Prop where
 ne:l.1.length<=9
 nt:l.2.1.length<=9
 e:∀e∈l.1,e.2.length<=20/\e.1.length<=80/\∀m∈e.2,m.length<=80
 t:∀t∈l.2.1,t.1.length<=80
 s:∀s∈l.2.2,s.2.2.1.length<=14/\s.2.2.2.1.length<=14/\s.2.2.2.2.length<=96/\(∀f∈s.2.2.1,f.1.length<=80)/\(∀f∈s.2.2.2.1,f.1.length<=80)/\∀r∈s.2.2.2.2,r.1.length<=80
variable {l:O6}
theorem b6C(h:smL l=true)(hW:WfL l):NmL l:=by
 unfold smL at h;obtain⟨h1,h⟩:=FM h;obtain⟨h2,h⟩:=FM h;obtain⟨h3,h⟩:=FM h;obtain⟨h4,h⟩:=FM h;cases ht:ww tG l.2.1 0 with
 |inr r=>rw[ht]at h;cases h|inl b=>
  rw[ht]at h;simp only at h;cases hs:ww sG l.2.2 0 with
  |inr r=>rw[hs]at h;cases h|inl b' =>
   have T:=a4n l.2.1 0 b l9 l9 hW.rl ht;have S:=a3W l.2.2 0 b' l9 l9 hW.sl hs;refine⟨eY (n:=9) h1,eY (n:=9) h2,λe he=>?_,λt ht=>(T t ht).1,λs hs=>?_⟩
   .have hl:=LK h4 e he;unfold Yh at hl;cases g1:J4 80 (x9 e.1)<;>rw[g1]at hl
    case true=>cases hl
    cases g2:J4 20 (x9 e.2)<;>rw[g2]at hl
    case true=>cases hl
    refine⟨eY (n:=20) g2,eY (n:=80) g1,λm hm=>?_⟩;have:=LK (p:=λm=>J4 80 (x9 m)) hl m hm;exact eY (n:=80) this
   .have h:=S s hs;unfold smS at h;obtain⟨a1,h⟩:=FM h;obtain⟨a2,h⟩:=FM h;obtain⟨a3,h⟩:=FM h;obtain⟨a4,h⟩:=FM h;obtain⟨a5,h⟩:=FM h;obtain⟨a6,h⟩:=FM h;have a7:s.2.2.2.2.any Mc=false:=by revert h;cases s.2.2.2.2.any Mc<;>intro h<;>first|rfl|cases h
    refine⟨eY (n:=14) a2,eY (n:=14) a3,V9 (eY (n:=60) a4) l9,λf hf=>eY (n:=80) (LK a5 f hf),λf hf=>eY (n:=80) (LK a6 f hf),λr hr=>?_⟩;have hl:=LK a7 r hr;unfold Mc at hl;cases g1:J4 80 (x9 r.1)<;>rw[g1]at hl
    case true=>cases hl
    exact eY (n:=80) g1
theorem c5d(h:NmL l){s:H6}(hs:s∈l.2.2):NmOk (nmS l s):=by
 obtain⟨s1,s2,s3,s4,s5,s6⟩:=h.s s hs;refine⟨λe he=>?_,λx hx=>?_,λx hx=>?_,λx hx=>?_,λx hx=>?_⟩
 .have:=h.e e he;exact⟨l9,λm hm=>by have:=this.2.2 m hm;omega⟩
 .obtain⟨t,ht,rfl⟩:=P9.1 hx;have:=h.t t ht;omega
 .obtain⟨f,hf,rfl⟩:=P9.1 hx;have:=s4 f hf;omega
 .obtain⟨f,hf,rfl⟩:=P9.1 hx;have:=s5 f hf;omega
 .unfold nmS at hx;simp only at hx;cases g:U7 0 s.2.1<;>rw[g]at hx
  .cases hx
  .simp only[o7]at hx;split at hx
   .rename_i q hq;obtain⟨f,hf,rfl⟩:=P9.1 hx;have:=(h.s q (ng hq).2.2.1).2.2.2.2.1 f hf;omega
   .cases hx
theorem a7z(h:NmL l){s:H6}(hs:P8 l.2.2 k=some s):wF l k=some (nmS l s):=by
 obtain⟨k0,k1,hm,-⟩:=ng hs;obtain⟨s1,s2,-⟩:=h.s s hm;have nt:=h.nt;unfold wF;rw[Y0 k0,dA k1,o6,o6,o9,ae,hs,o9,a2U l9,o9,a2U l9,o9];refine kL l.2.1 (λ(b:D9) (t:aP)=>((b.1,b.2.1++[t.1],b.2.2):D9)) (λb i=>(b,i)) (λb=>b) (λi b=>b.2.1.length=i) (l.1,[],s.2.2.1.map (·.1),s.2.2.2.1.map (·.1),[]) l9 rfl (λi t b hx hi hI=>?_) (λb _=>?_) (λ_=>?_)
 .have hlt:=(aJ.1 hx).1;simp only[U0 hx,o7,O5,hx,o9];rw[Ak _ l9,o9,bY l9];exact⟨rfl,by simp;omega⟩
 .simp only[Y1 l.2.1,o6]
 .have e:∀(L:List aP) (b:D9),L.foldl (λ(b:D9) (t:aP)=>((b.1,b.2.1++[t.1],b.2.2):D9)) b=(b.1,b.2.1++L.map (·.1),b.2.2):=by
   intro L;induction L with
   |nil=>intro b;simp|cons t L ih=>intro b;rw[aF,ih];simp
  rw[e];unfold nmS;cases g:U7 0 s.2.1
  .simp[l7]
  .by_cases g2:s.2.1<x9 l.2.2
   .obtain⟨q,hq,hmq⟩:=tH (iM.1 g) g2;have:=(h.s q hmq).2.1;rw[dE g2,hq];simp only[o7,o9];rw[a2U l9,o9];simp
   .rw[Y0 (Int.not_lt.1 g2)];have:P8 l.2.2 s.2.1=none:=by
     cases hq:P8 l.2.2 s.2.1 with
     |none=>rfl|some q=>exact absurd (ng hq).2.1 g2
    rw[this];simp[l7]
theorem a1b(h:NmL l){s:H6}(hs:P8 l.2.2 k=some s):jm l k=some (nmS l s):=by rw[WI (a8q (by have:=h.ne;omega) (λe he=>by have:=(h.e e he).1;omega)) k];exact a7z h hs
theorem c5s(h:(gQ l).1=0):gQ l=(0,0,0,0):=by
 unfold gQ at h ⊢;cases h1:D8 (Az l).1 0<;>rw[h1]at h
 .simp only[o6]at h;rw[O0 h]at h1;cases h1
 cases h2:D8 (yz l).1 0<;>rw[h2]at h
 .simp only[o7,o6]at h;rw[O0 h]at h2;cases h2
 simp only[o7]at h ⊢;unfold Lr at h ⊢;cases h3:J4 4 (x9 l.2.2)<;>rw[h3]at h
 case true=>exact absurd (show(4:Int)=0 from h) C9
 simp only[o6]at h ⊢;cases hf:cO l.2.2.length (Io l)with
 |none=>rfl|some r=>
  rw[hf]at h;simp only at h;obtain⟨j,hj,hp⟩:=nN hf;unfold Io at hp;cases hq:l.2.2[j]? with
  |none=>rw[hq]at hp;cases hp|some q=>
   rw[hq]at hp;simp only at hp;unfold MX at hp;exact absurd h (by cases he:D8 (En l j q).1 0<;>rw[he]at hp<;>cases hp;simp only;intro h4;rw[O0 h4]at he;cases he)
variable {s:c5v}
theorem Vx(P:UInt8->Bool){f:Int->Option (Int⊕Int)}(hl:s.length<=1000000)
  (h1:∀(i:Nat) (c:UInt8),s[i]? =some c->f (i:Int)=some (l7 (P c) (.inl ((i+1:Nat):Int)) (.inr (i:Int)))) (h2:∀i:Nat,s.length<=i->f (i:Int)=some (.inr (i:Int))) (a:Nat):
  fF f (a:Int)=some (((a+((s.drop a).takeWhile P).length:Nat)):Int):=by
 have key:∀(n a k:Nat),s.length -a<=n->n<k->wW f k (a:Int)=some (((a+((s.drop a).takeWhile P).length:Nat)):Int):=by
  intro n;induction n with
  |zero=>intro a k h hk;obtain⟨k,rfl⟩:∃m,k=m+1:=⟨k -1,l9⟩;rw[QA (h2 a l9),dG l9];rfl
  |succ n ih=>
   intro a k h hk;obtain⟨k,rfl⟩:∃m,k=m+1:=⟨k -1,l9⟩;by_cases hlt:a<s.length
   .have hc:=qC hlt;have:=h1 a _ hc;rw[jo hlt];cases hp:P s[a]
    .rw[hp,o6]at this;rw[QA this,List.takeWhile_cons_of_neg (by rw[hp];simp)];rfl
    .rw[hp,o7]at this;rw[a6W this,ih (a+1) k l9 l9,List.takeWhile_cons_of_pos hp];congr 2;simp only[A8];omega
   .rw[QA (h2 a l9),dG l9];rfl
 exact key (s.length -a) a au l9 (by unfold au;omega)
theorem a3k(h:s.length<=1000000):ny s=some ((s.takeWhile xY).length:Int):=by
 unfold ny;have:=Vx xY h (f:=λ(x:Int)=>l7 (J4 x (x9 s)) (o5 (sat s x) λx_1=>o5 (lw x_1) λx_2=>l7 x_2 (some (Sum.inl (I8 IntKind.i64 x 1)))
   (o5 (sat s x) λx_3=>o5 (iG x_3) λx_4=>l7 x_4 (some (Sum.inl (I8 IntKind.i64 x 1))) (o5 (sat s x) λx_5=>l7 (D8 x_5 95) (some (Sum.inl (I8 IntKind.i64 x 1))) (some (Sum.inr x))))) (some (Sum.inr x)))
  (λi c hc=>by have hlt:=(aJ.1 hc).1;simp only[U0 hc,o7,yx,hc,ah,o9,Gj,Jj,b4O];rw[bY l9];have hw:xY c=(IU c || wO c || decide (c.toNat=95)):=rfl;rw[hw];cases IU c<;>cases wO c<;>cases decide (c.toNat=95)<;>rfl)
  (λi hi=>by rw[Y0 (by unfold x9;omega)];rfl) 0
 rw[vC];rw[show((0:Nat):Int)=0 from rfl]at this;rw[this];simp
theorem pW(h:s.length<=1000000)(a:Nat)(ha:a<=1000000):kC s (a:Int)=some (((s.drop a).takeWhile wO).length:Int):=by
 unfold kC;have:=Vx wO h (f:=λ(x:Int)=>
   l7 (J4 x (x9 s))
    (o5 (sat s x) λ(x_1:Int)=>
     o5 (iG x_1) λ(x_2:Bool)=>
      l7 x_2 (some (Sum.inl (I8 IntKind.i64 x 1))) (some (Sum.inr x)))
    (some (Sum.inr x)))
  (λi c hc=>by have hlt:=(aJ.1 hc).1;simp only[U0 hc,o7,yx,hc,ah,o9,Jj];rw[bY l9];cases wO c<;>rfl)
  (λi hi=>by rw[Y0 (by unfold x9;omega)];rfl) a
 refine V6 this ?_;have hl:((s.drop a).takeWhile wO).length<=1000000:=by have:=(List.takeWhile_sublist wO (l:=s.drop a)).length_le;simp at this;omega
 rw[o9,bI lm];congr 1;omega
def HdN(P:UInt8->Bool)(r:c5v):Prop:=∀c t,r=c::t->P c=false
variable {r:c5v}{w:c5v}
theorem Iw{P:UInt8->Bool}(hw:∀c∈w,P c=true)(hr:HdN P r):(w++r).takeWhile P=w:=by
 induction w with
 |nil=>
  cases r with
  |nil=>rfl|cons c t=>rw[G8,List.takeWhile_cons_of_neg (by rw[hr c t rfl];simp)]
 |cons c w ih=>rw[G9,List.takeWhile_cons_of_pos (hw c x8),ih (λd hd=>hw d (by simp[hd]))]
def Qe(c:UInt8):Bool:=decide (c=32) || decide (c=9) || decide (c=35)
theorem NY(c:UInt8)(k:Nat)(hk:k<256):D8 (c.toNat:Int) (k:Int)=decide (c=UInt8.ofNat k):=by
 unfold D8;rw[decide_eq_decide];constructor
 .intro h;apply UInt8.toNat_inj.1;rw[UInt8.toNat_ofNat'];omega
 .intro h;have:=congrArg UInt8.toNat h;rw[UInt8.toNat_ofNat']at this;omega
theorem YF(hl:s.length<=1000000)(h:HdN Qe (s.drop i))(hi:i<=s.length):∀k,fQ (λ(x:Int×Bool)=>
   l7 (J4 x.1 (x9 s))
    (o5 (sat s x.1) λ(x_1:Int)=>
     l7 x.2 (l7 (D8 x_1 10) (some (Out.rt x.1)) (some (Out.nx (I8 IntKind.i64 x.1 1,x.2))))
      (l7 (D8 x_1 35) (some (Out.nx (I8 IntKind.i64 x.1 1,true)))
       (l7 (I5 (D8 x_1 32))
        (l7 (I5 (D8 x_1 9)) (some (Out.rt x.1)) (some (Out.nx (I8 IntKind.i64 x.1 1,x.2))))
        (some (Out.nx (I8 IntKind.i64 x.1 1,x.2))))))
    (some (Out.ex x.1))) (k+1) ((i:Int),false)=some (.inl (i:Int))\/fQ (λ(x:Int×Bool)=>
   l7 (J4 x.1 (x9 s))
    (o5 (sat s x.1) λ(x_1:Int)=>
     l7 x.2 (l7 (D8 x_1 10) (some (Out.rt x.1)) (some (Out.nx (I8 IntKind.i64 x.1 1,x.2))))
      (l7 (D8 x_1 35) (some (Out.nx (I8 IntKind.i64 x.1 1,true)))
       (l7 (I5 (D8 x_1 32))
        (l7 (I5 (D8 x_1 9)) (some (Out.rt x.1)) (some (Out.nx (I8 IntKind.i64 x.1 1,x.2))))
        (some (Out.nx (I8 IntKind.i64 x.1 1,x.2))))))
    (some (Out.ex x.1))) (k+1) ((i:Int),false)=(some (.inr (i:Int)):Option (Int⊕Int)):=by
 intro k;rw[bU];by_cases hlt:i<s.length
 .right;have hc:=qC hlt;have hb:=h s[i] (s.drop (i+1)) (jo hlt);unfold Qe at hb;simp only[Z9,decide_eq_false_iff_not]at hb;simp only[U0 hc,o7,yx,hc,ah,o9,o6];rw[show D8 ((s[i].toNat:Nat):Int) 35=false from(NY _ 35 l9).trans (decide_eq_false hb.2),show D8 ((s[i].toNat:Nat):Int) 32=false from(NY _ 32 l9).trans (decide_eq_false hb.1.1),show D8 ((s[i].toNat:Nat):Int) 9=false from(NY _ 9 l9).trans (decide_eq_false hb.1.2)];rfl
 .left;rw[Y0 (by unfold x9;simp only;omega)];rfl
theorem WC(hl:s.length<=1000000)(h:HdN Qe (s.drop i))(hi:i<=s.length):rZ s (i:Int)=some (i:Int):=by unfold rZ X5;rw[show au=(au -1)+1 by unfold au;omega];rcases YF hl h hi (au -1)with h|h<;>refine V6 h ?_<;>rfl
theorem b0W(hl:s.length<=1000000)(h0:s[i]? =some 32)(h:HdN Qe (s.drop (i+1))):rZ s (i:Int)=some ((i+1:Nat):Int):=by
 have hlt:=(aJ.1 h0).1;unfold rZ X5;rw[show au=(au -2)+1+1 by unfold au;omega];rcases YF hl h l9 (au -2)with h|h
 all_goals
  rw[bU];simp only[U0 h0,o7,yx,h0,ah,o9,o6,show D8 (((32:UInt8).toNat:Nat):Int) 35=false from rfl,show D8 (((32:UInt8).toNat:Nat):Int) 32=true from rfl,F5];rw[bY l9];refine V6 h ?_;rfl
abbrev V5:Type:=Int×c5v×Int
def uz(k:V5)(w r:c5v):Prop:=rY (w++r)=some ((k.1,k.2.1,k.2.2,0),((w.length:Nat):Int),0)
variable {c:UInt8}
theorem a9d(h:IU c=true):97<=c.toNat/\c.toNat<=122:=by unfold IU at h;simp at h;omega
theorem Ji(h:wO c=true):48<=c.toNat/\c.toNat<=57:=by unfold wO at h;simp at h;omega
theorem a7J(h0:∃c t,w=c::t/\IU c=true)(hw:∀c∈w,xY c=true)(h16:w.length<=16)(hr:HdN xY r)(hl:(w++r).length<=1000000):uz (1,w,0) w r:=by obtain⟨c,t,rfl,hc⟩:=h0;have hb:=a9d hc;unfold uz rY;rw[show sat (c::t++r) 0=some (c.toNat:Int)from rfl,o9,J8 l9,o6,Gj,hc,o9,o7];unfold DW;rw[a3k hl,o9,Iw hw hr,Y0 l9,o6,zO l9 H7,o9,o9];rw[I9,bJ]
theorem a1L(hc:c=40\/c=41\/c=44\/c=58\/c=43\/c=45\/c=42)(r:c5v):uz (7,[c],0) [c] r:=by
 unfold uz;have hs:dM ([c]++r) 0 1=some [c]:=by rw[zO l9 H7];rfl
 rcases hc with rfl|rfl|rfl|rfl|rfl|rfl|rfl
 all_goals
  unfold rY;generalize hx:dM _ 0 1=q at hs;subst hs;rfl
theorem Wy(hc:c=60\/c=61\/c=33)(r:c5v)(hl:r.length<=1000000):uz (7,[c,61],0) [c,61] r:=by
 unfold uz;have h1:dM ([c,61]++r) 1 (x9 ([c,61]++r))=some (61::r):=by rw[qm l9 H7];rfl
 have h2:dM ([c,61]++r) 0 2=some [c,61]:=by rw[zO l9 H7];rfl
 have h3:P6 (61::r) [61]=some true:=by unfold P6 iD Lib.hasPrefix;simp[List.isPrefixOf]
 rcases hc with rfl|rfl|rfl
 all_goals
  unfold rY;rw[h1,h2];simp only[o9,h3];rfl
theorem b3U(r:c5v)(hl:r.length<=1000000)(hr:HdN (λc=>decide (c=61)) r):uz (7,[60],0) [60] r:=by
 unfold uz;have h1:dM ([60]++r) 1 (x9 ([60]++r))=some r:=by rw[qm l9 H7];rfl
 have h2:dM ([60]++r) 0 1=some [60]:=by rw[zO l9 H7];rfl
 have h3:P6 r [61]=some false:=by
  unfold P6 iD Lib.hasPrefix;cases r with
  |nil=>rfl
  |cons c t=>have:=hr c t rfl;simp only[decide_eq_false_iff_not]at this;simp[List.isPrefixOf];exact λh=>this h.symm
 unfold rY;rw[h1,h2];simp only[o9,h3];rfl
def nS(v:Nat)(l:c5v):Nat:=l.foldl (λa c=>10*a+(c.toNat -48)) v
theorem PU:∀(l:c5v) (v:Nat),v<=nS v l
 |[],v=>E5 _|c::l,v=>by have:=PU l (10*v+(c.toNat -48));unfold nS at this ⊢;rw[aF];omega
theorem BQ(a b:c5v)(v:Nat):nS v (a++b)=nS (nS v a) b:=by unfold nS;rw[uJ]
theorem BR(u:Nat):nS 0 (Lib.decDigits u)=u:=by
 induction u using Nat.strongRecOn with
 |_ u ih=>
  rw[Lib.decDigits];by_cases h:u<10
  .rw[dif_pos h];show 10*0+((UInt8.ofNat (48+u)).toNat -48)=u;simp;omega
  .rw[dif_neg h,BQ,ih (u / 10) l9];unfold nS;simp;omega
theorem Zi(u:Nat):∀c r,Lib.decDigits u=c::r->10<=u->c≠48:=by
 induction u using Nat.strongRecOn with
 |_ u ih=>
  intro c r e h;rw[Lib.decDigits,dif_neg l9]at e;by_cases h2:u / 10<10
  .rw[Lib.decDigits,dif_pos h2]at e;simp only[G9,G8,H8]at e;rw[←e.1];intro e3;have:=congrArg UInt8.toNat e3;simp at this;omega
  .cases hd:Lib.decDigits (u / 10)with
   |nil=>have:=(Lib.decDigits_length (u / 10)).symm.trans (congrArg List.length hd);have:=Lib.nDigits_pos (u / 10);simp_all|cons c' r' =>rw[hd]at e;simp only[G9,H8]at e;rw[←e.1];exact ih (u / 10) l9 c' r' hd l9
def Dg(l:c5v):Prop:=∀c∈l,wO c=true
theorem Aw(u:Nat):Dg (Lib.decDigits u):=λc hc=>by have:=Jh hc;unfold wO;simp;omega
theorem Dn(h:s[i]? =some c)(hc:c.toNat<128):sJ s (i:Int)=(c.toNat:Int)/\ui s (i:Int)=((i+1:Nat):Int):=by
 have hlt:=(aJ.1 h).1;have hg:(ByteArray.mk s.toArray).get! i=c:=by
  unfold ByteArray.get!;have:(s.toArray)[i]! =c:=by simp[h]
  exact this
 have hd:Utf8.decode ⟨s.toArray⟩ i=(c.toNat,1):=by unfold Utf8.decode;simp only[jO,hg];rw[if_pos l9]
 unfold sJ ui;rw[I9,hd];refine⟨rfl,x8⟩
def npF(p:Int)(x:Int×Bool×c5v×Int):Option (Out (Int×Bool×c5v×Int) (Int×Bool) (Int×Int)):=
        l7 (J4 x.2.2.2 (x9 x.2.2.1))
         (l7 (D8 x.2.2.2 p)
          (l7 (I5 (D8 (sJ x.2.2.1 x.2.2.2) 46)) (some (Out.rt (0,2)))
           (some (Out.nx (x.1,x.2.1,x.2.2.1,ui x.2.2.1 x.2.2.2))))
          (o5 (vz (sJ x.2.2.1 x.2.2.2)) λ(x_3:Bool)=>
           l7 (I5 x_3) (some (Out.rt (0,2)))
            (l7 x.2.1 (some (Out.nx (x.1,true,x.2.2.1,ui x.2.2.1 x.2.2.2)))
             (l7 (J4 461168601842738790 x.1)
              (some (Out.nx (x.1,true,x.2.2.1,ui x.2.2.1 x.2.2.2)))
              (some
               (Out.nx
                (I8 IntKind.i64 (Qw IntKind.i64 x.1 10)
                  (wrap IntKind.i64 (L6 IntKind.i32 (sJ x.2.2.1 x.2.2.2) 48)),
                 J4 4611686018427387904
                  (I8 IntKind.i64 (Qw IntKind.i64 x.1 10)
                   (wrap IntKind.i64 (L6 IntKind.i32 (sJ x.2.2.1 x.2.2.2) 48))),
                 x.2.2.1,ui x.2.2.1 x.2.2.2)))))))
         (some (Out.ex (x.1,x.2.1)))
theorem AV{s:c5v}{p:Nat} :∀(g pre suf:c5v) (v m:Nat),s=pre++g++suf->Dg g->(p<pre.length\/pre.length+g.length<=p)->nS v g<=100000000000000000->
  fQ (npF (p:Int)) (m+g.length) ((v:Int),false,s,(pre.length:Int))=fQ (npF (p:Int)) m ((nS v g:Int),false,s,((pre.length+g.length:Nat):Int))
 |[],pre,suf,v,m,h,hg,hp,hv=>rfl|c::g,pre,suf,v,m,h,hg,hp,hv=>by
  have hc:s[pre.length]? =some c:=by rw[h,E8,F7 (E5 _),aT];rfl
  have hd:=hg c x8;have hb:=Ji hd;obtain⟨r1,r2⟩:=Dn hc l9;have hv1:=PU g (10*v+(c.toNat -48));rw[show nS v (c::g)=nS (10*v+(c.toNat -48)) g from rfl]at hv;have hw:wrap .i64 (L6 .i32 (c.toNat:Int) 48)=((c.toNat -48:Nat):Int):=by
   have h1:L6 .i32 (c.toNat:Int) 48=((c.toNat -48:Nat):Int):=by unfold L6 IntKind.wrap;simp[IntKind.signed,IntKind.bits];omega
   rw[h1];exact Es lm
  have hnd:vz (c.toNat:Int)=some true:=by unfold vz;rw[Y7 l9,Y7 l9];rfl
  have st:npF (p:Int) ((v:Int),false,s,(pre.length:Int))=some (.nx (((10*v+(c.toNat -48):Nat):Int),false,s,((pre.length+1:Nat):Int))):=by unfold npF;simp only[U0 hc,o7,r1,r2,hnd,o9,F5,o6,hw];rw[J8 (by simp at hp;omega),o6,Y0 l9,o6,Jv lm,cZ lm,Y0 l9];congr 3;omega
  rw[A8,show m+(g.length+1)=(m+g.length)+1 by omega,bU,st];have:=AV (s:=s) (p:=p) g (pre++[c]) suf (10*v+(c.toNat -48)) m (by rw[h];simp) (λd hd=>hg d (by simp[hd])) (by simp at hp ⊢;omega) hv;rw[show(pre++[c]).length=pre.length+1 by simp]at this;rw[show pre.length+(g.length+1)=pre.length+1+g.length by omega];exact this
theorem b4F{b:UInt8}(h:HdN (λc=>decide (c=b)) w):oI w [b]=some (w,false):=by
 unfold oI oq iD Lib.hasPrefix;cases w with
 |nil=>rfl|cons c t=>
  have:=h c t rfl;simp only[decide_eq_false_iff_not]at this;have e:[b].isPrefixOf (c::t)=false:=by simp[List.isPrefixOf];exact λh=>this h.symm
  rw[e];rfl
variable {d:c5v}
theorem b4H{b:UInt8}(hd:Dg d)(h:d≠[])(hb:wO b=false):HdN (λc=>decide (c=b)) (d++r):=by
 cases d with
 |nil=>exact absurd rfl h|cons c t=>intro x y e;simp only[G9,H8]at e;have:=hd c x8;rw[decide_eq_false_iff_not];intro hx;rw[←hx,←e.1,this]at hb;cases hb
def NoZ(d:c5v):Prop:=1<d.length->∀c t,d=c::t->c≠48
theorem ND(hz:NoZ d)(h:d≠[])(a b:α):(l7 (J4 1 (d.length:Int)) (o5 (sat (d++r) 0) λ(x:Int)=>l7 (D8 x 48) (some a) (some b)) (some b))=some b:=by
 by_cases h1:1<d.length
 .cases d with
  |nil=>exact absurd rfl h|cons c t=>have:=hz h1 c t rfl;rw[dE l9,o7,show sat (c::t++r) 0=some (c.toNat:Int)from rfl,o9];rw[show D8 (c.toNat:Int) 48=false from(NY c 48 l9).trans (decide_eq_false this)];rfl
 .rw[Y0 l9];rfl
theorem ZO{p:Int}{v:Int}(m:Nat):fQ (npF p) (m+1) (v,false,s,(s.length:Int))=some (.inl (v,false)):=by rw[bU];unfold npF;simp only[Y1 s,o6]
theorem a9J(hd:Dg d)(h1:d≠[])(hz:NoZ d)(hv:nS 0 d<=100000000000000000)(hl:d.length<=1000):kD d 0=some ((nS 0 d:Int),0):=by
 have hne:1<=d.length:=by cases d with|nil=>exact absurd rfl h1|cons c t=>simp
 have hc:=b4H (r:=[]) hd h1 (show wO 45=false by decide);rw[E9]at hc;unfold kD;rw[b4F hc,o9];simp only[Y0 (show(0:Int)<=0 by omega),o6,o9];rw[show x9 d=(d.length:Int)from rfl,Y0 l9,o6];have hz2:=ND (r:=[]) hz h1 (Sum.inr (0,2):PUnit⊕(Int×Int)) (Sum.inl PUnit.unit);rw[E9]at hz2;refine V6 hz2 ?_;rw[o9,ae];have lp:X5 (npF (d.length:Int)) (0,false,d,0)=some (.inl ((nS 0 d:Int),false)):=by unfold X5;rw[show au=(au -1 -d.length)+1+d.length by unfold au;omega];have:=AV (s:=d) (p:=d.length) d [] [] 0 (au -1 -d.length+1) x8 hd (.inr x8) hv;rw[show(([]:c5v).length:Int)=0 from rfl,show((0:Nat):Int)=0 from rfl]at this;rw[this];have:=ZO (s:=d) (p:=(d.length:Int)) (v:=(nS 0 d:Int)) (au -1 -d.length);rw[show(([]:c5v).length+d.length)=d.length by simp];exact this
 refine V6 lp ?_;rfl
theorem a3s{d f:c5v}(hd:Dg d)(hf:Dg f)(h1:d≠[])(hz:NoZ d)(hk:1<=f.length)(hv:nS 0 (d++f)<=100000000000000000)(hl:d.length+f.length<=1000):kD (d++46::f) (f.length:Int)=some ((nS 0 (d++f):Int),0):=by
 have hne:1<=d.length:=by cases d with|nil=>exact absurd rfl h1|cons c t=>simp
 have hc:=b4H (r:=46::f) hd h1 (show wO 45=false by decide);unfold kD;rw[b4F hc,o9];have hp:(l7 (J4 0 (f.length:Int)) (some (L6 IntKind.i64 (x9 (d++46::f)) (I8 IntKind.i64 (f.length:Int) 1))) (some (x9 (d++46::f))))=some (d.length:Int):=by rw[dE l9,o7,cZ lm,bI (by unfold fP x9;simp;omega)];congr 1;unfold x9;simp<;>omega
 refine V6 hp ?_;rw[o9,Y0 l9,o6];refine V6 (ND hz h1 (Sum.inr (0,2):PUnit⊕(Int×Int)) (Sum.inl PUnit.unit)) ?_;rw[o9,ae];have hv1:nS 0 d<=nS 0 (d++f):=by rw[BQ];exact PU _ _
 have lp:X5 (npF (d.length:Int)) (0,false,d++46::f,0)=some (.inl ((nS 0 (d++f):Int),false)):=by
  unfold X5;rw[show au=(au -2 -d.length -f.length)+1+f.length+1+d.length by unfold au;omega];have a1:=AV (s:=d++46::f) (p:=d.length) d [] (46::f) 0 (au -2 -d.length -f.length+1+f.length+1) x8 hd (.inr x8) l9;rw[show(([]:c5v).length:Int)=0 from rfl,show((0:Nat):Int)=0 from rfl,show(([]:c5v).length+d.length)=d.length by simp]at a1;rw[a1,bU];have h46:(d++46::f)[d.length]? =some 46:=by rw[F7 (E5 _),aT];rfl
  obtain⟨r1,r2⟩:=Dn h46 C9;have st:npF (d.length:Int) ((nS 0 d:Int),false,d++46::f,(d.length:Int))=some (.nx ((nS 0 d:Int),false,d++46::f,((d.length+1:Nat):Int))):=by unfold npF;simp only[U0 h46,o7,r1,r2,O0 (rfl:(d.length:Int)=(d.length:Int))];rfl
  rw[st];have a2:=AV (s:=d++46::f) (p:=d.length) f (d++[46]) [] (nS 0 d) (au -2 -d.length -f.length+1) x8 hf (.inl x8) (by rw[←BQ];exact hv);rw[←BQ]at a2;simp only[A7,lH]at a2;simp only;rw[a2];have:=ZO (s:=d++46::f) (p:=(d.length:Int)) (v:=(nS 0 (d++f):Int)) (au -2 -d.length -f.length);rw[show(d++46::f).length=d.length+1+f.length by simp;omega]at this;exact this
 refine V6 lp ?_;rfl
def UN(c:UInt8):Bool:=IU c || (decide (65<=c.toNat)&&decide (c.toNat<=90)) || wO c || decide (c=95) || decide (c=46)
theorem VN(hd:Dg d)(hr:HdN wO r)(hr2:HdN (λc=>decide (c=45)) r)(hl:(d++r).length<=1000000):ql (d++r)=some false:=by
 unfold ql;have e0:=pW hl 0 l9;rw[iI,Iw hd hr]at e0;rw[show((0:Nat):Int)=0 from rfl]at e0;rw[e0,o9];by_cases h4:d.length=4
 .rw[O0 l9,o7];have e5:=pW hl 5 l9;have e8:=pW hl 8 l9;rw[show((5:Nat):Int)=5 from rfl]at e5;rw[show((8:Nat):Int)=8 from rfl]at e8;rw[e5,o9];cases D8 ((((d++r).drop 5).takeWhile wO).length:Int) 2
  .rfl
  rw[o7,e8,o9];by_cases h8:2<=(((d++r).drop 8).takeWhile wO).length
  .rw[Y7 l9,o7];have hlen:=(List.takeWhile_sublist wO (l:=(d++r).drop 8)).length_le;rw[mM,A7]at hlen;cases r with
   |nil=>simp only[F6]at hlen;omega|cons c t=>
    have h4b:sat (d++c::t) 4=some (c.toNat:Int):=by rw[show(4:Int)=((4:Nat):Int)from rfl,yx,F7 l9,h4];rfl
    have:=hr2 c t rfl;rw[h4b,o9,show D8 (c.toNat:Int) 45=false from(NY c 45 l9).trans this];rfl
  .rw[dA l9];rfl
 .rw[J8 l9];rfl
theorem TM{k n:Int}(hr:HdN UN r)(hl:(w++r).length<=1000000)(hn:jw k w=some (n,0)):
  (o5
    (l7 (J4 (w.length:Int) (x9 (w++r)))
     (o5 (sat (w++r) (w.length:Int)) λ(x_1:Int)=>
      o5 (lw x_1) λ(x_2:Bool)=>
       l7 x_2 (some (Sum.inr ((0,[],0,0),0,2)))
        (l7 (U7 65 x_1)
         (l7 (U7 x_1 90) (some (Sum.inr ((0,[],0,0),0,2)))
          (o5 (iG x_1) λ(x_3:Bool)=>
           l7 x_3 (some (Sum.inr ((0,[],0,0),0,2)))
            (l7 (D8 x_1 95) (some (Sum.inr ((0,[],0,0),0,2)))
             (l7 (D8 x_1 46) (some (Sum.inr ((0,[],0,0),0,2))) (some (Sum.inl (0,[],0,0)))))))
         (o5 (iG x_1) λ(x_3:Bool)=>
          l7 x_3 (some (Sum.inr ((0,[],0,0),0,2)))
           (l7 (D8 x_1 95) (some (Sum.inr ((0,[],0,0),0,2)))
            (l7 (D8 x_1 46) (some (Sum.inr ((0,[],0,0),0,2))) (some (Sum.inl (0,[],0,0))))))))
     (some (Sum.inl (0,[],0,0))))
    λ(o:bD⊕bD×L9)=>
    dU o
     (λ(x_1:bD)=>
      o5 (dM (w++r) 0 (w.length:Int)) λ(x_2:c5v)=>
       o5 (jw k x_2) λ(x_3:L9)=>
        l7 (I5 (D8 x_3.2 0)) (some ((0,[],0,0),0,3))
         (o5 (dM (w++r) 0 (w.length:Int)) λ(x_4:c5v)=>some ((k,x_4,x_3.1,0),(w.length:Int),0)))
     λ(r:bD×L9)=>some r)=some ((k,w,n,0),(w.length:Int),0):=by
 have hs:dM (w++r) 0 (w.length:Int)=some w:=by rw[zO l9 H7,I9,bJ]
 have fin:(λ(o:bD⊕bD×L9)=>
    dU o
     (λ(x_1:bD)=>
      o5 (dM (w++r) 0 (w.length:Int)) λ(x_2:c5v)=>
       o5 (jw k x_2) λ(x_3:L9)=>
        l7 (I5 (D8 x_3.2 0)) (some ((0,[],0,0),0,3))
         (o5 (dM (w++r) 0 (w.length:Int)) λ(x_4:c5v)=>some ((k,x_4,x_3.1,0),(w.length:Int),0)))
     λ(r:bD×L9)=>some r) (Sum.inl (0,[],0,0))=(some ((k,w,n,0),(w.length:Int),0):Option (bD×L9)):=by
  simp only[ae];rw[hs,o9,hn,o9];rfl
 cases r with
 |nil=>rw[E9]at fin ⊢;rw[show x9 w=(w.length:Int)from rfl,Y0 l9,o6,o9];exact fin|cons c t=>
  have hb:sat (w++c::t) (w.length:Int)=some (c.toNat:Int):=by rw[yx,F7 (E5 _),aT];rfl
  have he:=hr c t rfl;unfold UN at he;simp only[Z9]at he;obtain⟨⟨⟨⟨e1,e2⟩,e3⟩,e4⟩,e5⟩:=he;rw[show J4 (w.length:Int) (x9 (w++c::t))=true from dE (by unfold x9;simp;omega),o7,hb,o9,Gj,e1,o9,o6,Jj,e3];rw[show D8 (c.toNat:Int) 95=false from(NY c 95 l9).trans e4,show D8 (c.toNat:Int) 46=false from(NY c 46 l9).trans e5];simp only[o9,o6];by_cases h65:65<=c.toNat
  .have:¬c.toNat<=90:=by
    intro h;rw[Bool.and_eq_false_iff]at e2;simp at e2;omega
   rw[Y7 l9,o7,dA l9,o6];simp only[o9];exact fin
  .rw[dA l9,o6];simp only[o9];exact fin
theorem b4G(hd:Dg d)(h:d≠[]):∃c t,d++r=c::t/\wO c=true/\sat (d++r) 0=some (c.toNat:Int):=by
 cases d with
 |nil=>exact absurd rfl h|cons c t=>exact⟨c,t++r,rfl,hd c x8,rfl⟩
theorem PN(hd:Dg d)(h:d≠[]):rY (d++r)=nz (d++r):=by
 obtain⟨c,t,-,hc,hs⟩:=b4G (r:=r) hd h;have hb:=Ji hc;have hlow:IU c=false:=by unfold IU;simp;omega
 unfold rY;rw[hs,o9,J8 l9,o6,Gj,hlow,o9,o6,Jj,hc,o9,o7,vC]
variable {u:Nat}
theorem b7v(hu:u<=1000000000000)(hr:HdN UN r)(hr2:HdN (λc=>decide (c=45)) r)(hl:(Lib.decDigits u++r).length<=1000000):uz (2,Lib.decDigits u,(u:Int)) (Lib.decDigits u) r:=by
 have hd:=Aw u;have hlen:=pV (u:=u) l9;have hne:Lib.decDigits u≠[]:=by intro e;rw[e]at hlen;simp at hlen
 have hz:NoZ (Lib.decDigits u):=by
  intro h1 c t e;refine Zi u c t e ?_;rcases jP u 10 with h|h
  .rw[Lib.decDigits,dif_pos h]at h1;simp at h1
  .exact h
 have hv:=BR u;generalize Lib.decDigits u=d at*;have hrd:HdN wO r:=λc t e=>by have:=hr c t e;unfold UN at this;simp only[Z9]at this;exact this.1.1.2
 have hr46:HdN (λc=>decide (c=46)) r:=λc t e=>by have:=hr c t e;unfold UN at this;simp only[Z9]at this;exact this.2
 unfold uz;rw[PN hd hne];unfold nz;rw[VN hd hrd hr2 hl,o9,af,o7];have e0:=pW hl 0 l9;rw[iI,Iw hd hrd,show((0:Nat):Int)=0 from rfl]at e0;have hs:dM (d++r) (d.length:Int) (x9 (d++r))=some r:=by rw[qm l9 H7,I9,Y6]
 have hdec:∀k,lL r k=some false:=by
  intro k;unfold lL P6 iD Lib.hasPrefix;have:[46].isPrefixOf r=false:=by
   cases r with
   |nil=>rfl
   |cons c t=>have:=hr46 c t rfl;simp only[decide_eq_false_iff_not]at this;simp[List.isPrefixOf];exact λh=>this h.symm
  rw[this];rfl
 rw[e0,o9,hs,o9,hdec,o9,o6,o9,hdec,o9,o6,o9];refine V6 (ND hz hne _ _) ?_;rw[o9,ae];have hn:jw 2 d=some ((u:Int),0):=by unfold jw nC;simp (disch:=decide) only[J8,o6];rw[a9J hd hne hz l9 l9,o9,o9,hv,O0 rfl,o7,Y0 (by simp only;omega)];rfl
 exact TM hr hl hn
theorem pY{u k:Nat}(hu:u<18446744073709551616)(hk:1<=k/\k<=9):∃d f,uH u k=d++46::f/\Dg d/\Dg f/\d≠[]/\NoZ d/\f.length=k/\nS 0 (d++f)=u/\d.length<=20:=by
 have hl:=pV hu;generalize hD:List.replicate (k+1 -(Lib.decDigits u).length) 48++Lib.decDigits u=D;have hDl:k+1<=D.length/\D.length<=31:=by rw[←hD];simp;omega
 have hDg:Dg D:=by
  rw[←hD];intro c hc;rcases F9.1 hc with hc|hc
  .have:=List.eq_of_mem_replicate hc;subst this;decide
  .exact Aw u c hc
 refine⟨D.take (D.length -k),D.drop (D.length -k),?_,λc hc=>hDg c (jE hc),λc hc=>hDg c (List.mem_of_mem_drop hc),?_,?_,by simp;omega,?_,?_⟩
 .unfold uH;simp only[hD]
 .intro e;have:=congrArg List.length e;simp at this;omega
 .intro h1 c t e;have h1' :k+1<D.length:=by simp at h1;omega
  have hz0:k+1 -(Lib.decDigits u).length=0:=by rw[←hD]at h1';simp at h1';omega
  rw[hz0,List.replicate_zero,G8]at hD;have h10:10<=u:=by
   rcases jP u 10 with h|h
   .rw[←hD,Lib.decDigits,dif_pos h]at h1';simp at h1'
   .exact h
  cases hDD:D with
  |nil=>rw[hDD]at h1';simp at h1'|cons c' t' =>
   rw[hDD]at e;have:c' =c:=by rw[show(c' ::t').length -k=((c' ::t').length -k -1)+1 by rw[hDD]at h1';omega,List.take_succ_cons]at e;exact(Y8 e).1
   rw[←this];exact Zi u c' t' (hD.trans hDD) h10
 .rw[gB,←hD,BQ];have:∀z,nS 0 (List.replicate z 48)=0:=by
   intro z;induction z with
   |zero=>rfl|succ z ih=>rw[jY];show nS (10*0+0) (List.replicate z 48)=0;exact ih
  rw[this,BR]
 .simp;rw[←hD];simp;omega
theorem b9T(x:c5v):P6 (46::x) [46]=some true:=by unfold P6 iD Lib.hasPrefix;simp[List.isPrefixOf]
theorem a2I{f r:c5v}(hf:Dg f)(hr:HdN wO r)(k:Int)(hl:(46::(f++r)).length<=1000000):lL (46::(f++r)) k=some (D8 (f.length:Int) k):=by unfold lL;have e:=pW hl 1 l9;rw[show(46::(f++r)).drop 1=f++r from rfl,Iw hf hr,show((1:Nat):Int)=1 from rfl]at e;rw[b9T,o9,o7,e,o9]
theorem b0T(hu:u<=1000000000000000)(hr:HdN UN r)(hl:(uH u 2++r).length<=1000000):uz (3,uH u 2,(u:Int)) (uH u 2) r:=by
 obtain⟨d,f,e,hd,hf,hne,hz,hfl,hv,hdl⟩:=pY (u:=u) (k:=2) l9 l9;rw[e]at hl ⊢;have hrd:HdN wO r:=λc t e=>by have:=hr c t e;unfold UN at this;simp only[Z9]at this;exact this.1.1.2
 have hs46:HdN wO (46::f++r):=λc t e=>by cases e;rfl
 have hs45:HdN (λc=>decide (c=45)) (46::f++r):=λc t e=>by cases e;rfl
 have hl' :(d++(46::f++r)).length<=1000000:=by rw[←E8];exact hl
 unfold uz;rw[E8,PN hd hne];unfold nz;rw[VN hd hs46 hs45 hl',o9,af,o7];have e0:=pW hl' 0 l9;rw[iI,Iw hd hs46,show((0:Nat):Int)=0 from rfl]at e0;have hs:dM (d++(46::f++r)) (d.length:Int) (x9 (d++(46::f++r)))=some (46::(f++r)):=by rw[qm l9 H7,I9,Y6];rfl
 have hl2:(46::(f++r)).length<=1000000:=by simp at hl' ⊢;omega
 rw[e0,o9,hs,o9,a2I hf hrd 2 hl2,o9,hfl,show D8 ((2:Nat):Int) 2=true from rfl,o7,o9];refine V6 (ND hz hne _ _) ?_;rw[o9,ae];have hn:jw 3 (d++46::f)=some ((u:Int),0):=by unfold jw dP;simp (disch:=decide) only[J8,O0,o6,o7];have hp:=a3s hd hf hne hz l9 l9 l9;rw[hfl,hv]at hp;rw[show iJ 2=some ((2:Nat):Int)from rfl,o9,hp,o9,o9,O0 rfl,o7,Y0 (by simp only;omega)];rfl
 have hlen:I8 .i64 (d.length:Int) 3=((d++46::f).length:Int):=by rw[cZ lm];simp;omega
 have:=TM (w:=d++46::f) hr hl hn;rw[E8]at this;simp only[hlen];exact this
theorem b3T(hu:u<=1000000000)(hr:HdN UN r)(hl:(uH u 4++[37]++r).length<=1000000):uz (4,uH u 4++[37],(u:Int)) (uH u 4++[37]) r:=by
 obtain⟨d,f,e,hd,hf,hne,hz,hfl,hv,hdl⟩:=pY (u:=u) (k:=4) l9 l9;rw[e]at hl ⊢;have hs46:HdN wO (46::f++[37]++r):=λc t e=>by cases e;rfl
 have hs45:HdN (λc=>decide (c=45)) (46::f++[37]++r):=λc t e=>by cases e;rfl
 have hre:HdN wO ([37]++r):=λc t e=>by cases e;rfl
 have hq:d++46::f++[37]++r=d++(46::f++[37]++r):=x8;have hl' :(d++(46::f++[37]++r)).length<=1000000:=by rw[←hq];exact hl
 unfold uz;rw[hq,PN hd hne];unfold nz;rw[VN hd hs46 hs45 hl',o9,af,o7];have e0:=pW hl' 0 l9;rw[iI,Iw hd hs46,show((0:Nat):Int)=0 from rfl]at e0;have hs:dM (d++(46::f++[37]++r)) (d.length:Int) (x9 (d++(46::f++[37]++r)))=some (46::(f++([37]++r))):=by rw[qm l9 H7,I9,Y6];simp
 have hs5:dM (d++(46::f++[37]++r)) (I8 .i64 (d.length:Int) 5) (x9 (d++(46::f++[37]++r)))=some (37::r):=by rw[show I8 .i64 (d.length:Int) 5=((d.length+5:Nat):Int) by rw[cZ lm];omega];rw[qm l9 H7,I9,show d.length+5=(d++46::f).length by simp;omega,show d++(46::f++[37]++r)=(d++46::f)++(37::r) by simp,Y6]
 have hl2:(46::(f++([37]++r))).length<=1000000:=by simp at hl' ⊢;omega
 have h37:P6 (37::r) [37]=some true:=by unfold P6 iD Lib.hasPrefix;simp[List.isPrefixOf]
 rw[e0,o9,hs,o9,a2I hf hre 2 hl2,o9,hfl,show D8 ((4:Nat):Int) 2=false from rfl,o6,o9,a2I hf hre 4 hl2,o9,hfl,show D8 ((4:Nat):Int) 4=true from rfl,o7,hs5,o9,h37,o9,o7,o9];refine V6 (ND hz hne _ _) ?_;rw[o9,ae];have hn:jw 4 (d++46::f++[37])=some ((u:Int),0):=by
  unfold jw dP;simp (disch:=decide) only[J8,O0,o6,o7];have hp:=a3s hd hf hne hz l9 l9 l9;rw[hfl,hv]at hp;have hcut:dM (d++46::f++[37]) 0 (L6 .i64 (x9 (d++46::f++[37])) 1)=some (d++46::f):=by rw[bI (by unfold fP x9;simp;omega),zO (by unfold x9;simp;omega) (by unfold x9;simp;omega)];congr 1;rw[show(x9 (d++46::f++[37]) -1).toNat=(d++46::f).length by unfold x9;simp;omega,bJ]
  rw[hcut,o9,show iJ 4=some ((4:Nat):Int)from rfl,o9,hp,o9,o9,O0 rfl,o7,Y0 (by simp only;omega)];rfl
 have hlen:I8 .i64 (d.length:Int) 6=((d++46::f++[37]).length:Int):=by rw[cZ lm];simp;omega
 have:=TM (w:=d++46::f++[37]) hr hl hn;rw[hq]at this;simp only[hlen];exact this
theorem b4W(y:Int):∀(n:Nat) (d:Int),n<=12->0<=d->d<rem y n->
  Hr y (12 -n)+d=Hr y ((mo y n d).2 -1).toNat+(mo y n d).1
 |0,d,_,h0,h=>by simp[rem]at h;omega|n+1,d,hn,h0,h=>by
  have e:dim y (12 -(n:Int))=dim y (((12 -(n+1):Nat):Int)+1):=by congr 1;omega
  have hs:Hr y (12 -n)=Hr y (12 -(n+1))+dim y (12 -(n:Int)):=by rw[e,show 12 -n=(12 -(n+1))+1 by omega];rfl
  rw[ZK];by_cases hd:d<dim y (12 -(n:Int))
  .rw[if_pos hd];show Hr y (12 -(n+1))+d=Hr y (12 -(n:Int) -1).toNat+d;congr 2;omega
  .rw[if_neg hd];have h2:d -dim y (12 -(n:Int))<rem y n:=by
    have e2:rem y (n+1)=dim y (12 -(n:Int))+rem y n:=rfl;omega
   have:=b4W y n (d -dim y (12 -(n:Int))) l9 l9 h2;omega
theorem b9k{d:Int}(h0:0<=d)(h:d<=109572):(ymd d).2.2<=dim (ymd d).1 (ymd d).2.1:=by
 have hy:=KC h0 h;have hr:d -ys (yOf d)<rem (yOf d) 12:=by rw[a1y];have:=EW (yOf d);omega
 have:=a5t (yOf d) 12 (d -ys (yOf d)) l9 l9 hr;show(mo (yOf d) 12 (d -ys (yOf d))).1+1<=dim (yOf d) (mo (yOf d) 12 (d -ys (yOf d))).2;omega
theorem b2x{d:Int}(h0:0<=d)(h:d<=109572):b9C (ymd d).1 (ymd d).2.1 (ymd d).2.2=d:=by
 have hy:=KC h0 h;have hr:d -ys (yOf d)<rem (yOf d) 12:=by rw[a1y];have:=EW (yOf d);omega
 have:=b4W (yOf d) 12 (d -ys (yOf d)) l9 l9 hr;have e0:Hr (yOf d) (12 -12)=0:=rfl;show ys (yOf d)+Hr (yOf d) ((mo (yOf d) 12 (d -ys (yOf d))).2 -1).toNat+((mo (yOf d) 12 (d -ys (yOf d))).1+1) -1=d;omega
theorem ZB{n:Int}(h:0<=n):Lib.itoa n=Lib.decDigits n.toNat:=by unfold Lib.itoa;rw[if_neg l9]
theorem b9f:∀k:Fin 32,(Lib.decDigits k.val).length=if k.val<10 then 1 else 2:=by
 intro k;rcases jP k.val 10 with h|h
 .rw[Lib.decDigits,dif_pos h,if_pos h];rfl
 .rw[Lib.decDigits,dif_neg l9,if_neg l9,Lib.decDigits,dif_pos (show k.val / 10<10 by omega)];rfl
theorem b2G(u:Nat)(h1:1000<=u)(h2:u<10000):(Lib.decDigits u).length=4:=by rw[Lib.decDigits,dif_neg l9,Lib.decDigits,dif_neg l9,Lib.decDigits,dif_neg l9,Lib.decDigits,dif_pos l9];rfl
theorem c5q(z:Nat)(l:c5v):nS 0 (List.replicate z 48++l)=nS 0 l:=by
 induction z with
 |zero=>rfl|succ z ih=>rw[jY,G9];show nS (10*0+0) _=_;exact ih
theorem Ld{n:Int}(w:Nat)(h0:0<=n):nS 0 (Gn n w)=n.toNat/\Dg (Gn n w):=by
 unfold Gn;rw[ZB h0];refine⟨by rw[c5q,BR],λc hc=>?_⟩;rcases F9.1 hc with hc|hc
 .have:=List.eq_of_mem_replicate hc;subst this;decide
 .exact Aw _ c hc
theorem a5y{n:Int}(h0:0<=n)(h1:n<=31):(Gn n 2).length=2:=by unfold Gn;rw[ZB h0];have hl:=b9f ⟨n.toNat,l9⟩;dsimp only at hl;rw[A7,List.length_replicate,hl];split<;>omega
theorem b4Z{n:Int}(h0:1000<=n)(h1:n<10000):(Gn n 4).length=4:=by unfold Gn;rw[ZB l9];rw[A7,List.length_replicate,b2G _ l9 l9]
def ddF(x:Int×c5v×Int):Option (Out (Int×c5v×Int) Int (Int×Bool)):=
   l7 (J4 x.2.2 (x9 x.2.1))
    (l7 (J4 (sJ x.2.1 x.2.2) 48) (some (Out.rt (0,false)))
     (l7 (J4 57 (sJ x.2.1 x.2.2)) (some (Out.rt (0,false)))
      (some
       (Out.nx
        (I8 IntKind.i64 (Qw IntKind.i64 x.1 10)
          (wrap IntKind.i64 (L6 IntKind.i32 (sJ x.2.1 x.2.2) 48)),
         x.2.1,ui x.2.1 x.2.2)))))
    (some (Out.ex x.1))
theorem a8z{s:c5v} :∀(g pre:c5v) (v m:Nat),s=pre++g->Dg g->nS v g<=100000000000000000->fQ ddF (m+1+g.length) ((v:Int),s,(pre.length:Int))=some (.inl (nS v g:Int))
 |[],pre,v,m,h,hg,hv=>by rw[E9]at h;subst h;rw[F6,jO,bU];unfold ddF;simp only[Y1 s,o6];rfl|c::g,pre,v,m,h,hg,hv=>by
  have hc:s[pre.length]? =some c:=by rw[h,F7 (E5 _),aT];rfl
  have hb:=Ji (hg c x8);obtain⟨r1,r2⟩:=Dn hc l9;have hv1:=PU g (10*v+(c.toNat -48));rw[show nS v (c::g)=nS (10*v+(c.toNat -48)) g from rfl]at hv;have hw:wrap .i64 (L6 .i32 (c.toNat:Int) 48)=((c.toNat -48:Nat):Int):=by
   have h1:L6 .i32 (c.toNat:Int) 48=((c.toNat -48:Nat):Int):=by unfold L6 IntKind.wrap;simp[IntKind.signed,IntKind.bits];omega
   rw[h1];exact Es lm
  have st:ddF ((v:Int),s,(pre.length:Int))=some (.nx (((10*v+(c.toNat -48):Nat):Int),s,((pre.length+1:Nat):Int))):=by unfold ddF;simp only[U0 hc,o7,r1,r2,hw];rw[Y0 l9,o6,Y0 l9,o6,Jv lm,cZ lm];congr 3;omega
  rw[A8,show m+1+(g.length+1)=(m+1+g.length)+1 by omega,bU,st];have:=a8z (s:=s) g (pre++[c]) (10*v+(c.toNat -48)) m (by rw[h];simp) (λd hd=>hg d (by simp[hd])) hv;rw[show(pre++[c]).length=pre.length+1 by simp]at this;exact this
theorem Ql{g:c5v}(hg:Dg g)(hv:nS 0 g<=100000000000000000)(hl:g.length<=1000):yR g=some ((nS 0 g:Int),true):=by
 unfold yR;have:X5 ddF (0,g,0)=some (.inl (nS 0 g:Int)):=by unfold X5;rw[show au=(au -1 -g.length)+1+g.length by unfold au;omega];exact a8z (s:=g) g [] 0 _ rfl hg hv
 refine V6 this ?_;rfl
theorem xu{d:Int}(h0:0<=d)(h:d<=109572):yE (aY d)=some (d,0):=by
 have hb:=WX h0 h;have l1:=b4Z (n:=(ymd d).1) l9 l9;have l2:=a5y (n:=(ymd d).2.1) l9 l9;have l3:=a5y (n:=(ymd d).2.2) l9 l9;obtain⟨v1,g1⟩:=Ld (n:=(ymd d).1) 4 l9;obtain⟨v2,g2⟩:=Ld (n:=(ymd d).2.1) 2 l9;obtain⟨v3,g3⟩:=Ld (n:=(ymd d).2.2) 2 l9;unfold aY;rw[if_pos ⟨h0,h⟩];have hfr:zx (ymd d).1 (ymd d).2.1 (ymd d).2.2=some (d,0):=by rw[a2V l9 l9 l9 (b9k h0 h),b2x h0 h]
 generalize Gn (ymd d).1 4=A at*;generalize Gn (ymd d).2.1 2=B at*;generalize Gn (ymd d).2.2 2=C at*;unfold yE;have hs:A++45::B++45::C=A++(45::(B++(45::C))):=x8;rw[hs];have e4:sat (A++(45::(B++(45::C)))) 4=some 45:=by rw[show(4:Int)=((4:Nat):Int)from rfl,yx,F7 l9,l1];rfl
 have e7:sat (A++(45::(B++(45::C)))) 7=some 45:=by rw[show(7:Int)=((7:Nat):Int)from rfl,yx,F7 l9,l1,show 7 -4=2+1 from rfl,kJ,F7 l9,l2];rfl
 have q1:dM (A++(45::(B++(45::C)))) 0 4=some A:=by rw[zO l9 H7,show(4:Int).toNat=A.length by omega,bJ]
 have q2:dM (A++(45::(B++(45::C)))) 5 7=some B:=by rw[TL l9 l9 H7];rw[show A++(45::(B++(45::C)))=(A++[45])++(B++(45::C)) by simp,show(7:Int).toNat=(A++[45]).length+B.length by simp;omega,List.take_length_add_append,show(5:Int).toNat=(A++[45]).length by simp;omega,Y6,bJ]
 have q3:dM (A++(45::(B++(45::C)))) 8 (x9 (A++(45::(B++(45::C)))))=some C:=by rw[qm l9 H7];rw[show A++(45::(B++(45::C)))=(A++[45]++B++[45])++C by simp,show(8:Int).toNat=(A++[45]++B++[45]).length by simp;omega,Y6]
 rw[show D8 (x9 (A++(45::(B++(45::C))))) 10=true from O0 (by unfold x9;simp;omega),F5,o6,e4,o9,O0 rfl,F5,o6,e7,o9,O0 rfl,F5,o6,o9,ae];rw[q1,o9,Ql g1 l9 l9,o9,q2,o9,Ql g2 l9 l9,o9,q3,o9,Ql g3 l9 l9,o9,F5,o6,o6,o6,v1,v2,v3];rw[show(((ymd d).1.toNat:Nat):Int)=(ymd d).1 by omega,show(((ymd d).2.1.toNat:Nat):Int)=(ymd d).2.1 by omega,show(((ymd d).2.2.toNat:Nat):Int)=(ymd d).2.2 by omega,hfr,o9]
theorem KL{d:Int}(h0:0<=d)(h:d<=109572):∃A B C:c5v,aY d=A++(45::(B++(45::C)))/\A.length=4/\B.length=2/\C.length=2/\Dg A/\Dg B/\Dg C:=by have hb:=WX h0 h;refine⟨Gn (ymd d).1 4,Gn (ymd d).2.1 2,Gn (ymd d).2.2 2,?_,b4Z l9 l9,a5y l9 l9,a5y l9 l9,(Ld 4 l9).2,(Ld 2 l9).2,(Ld 2 l9).2⟩;unfold aY;rw[if_pos ⟨h0,h⟩];simp
theorem b3S{n:Int}(h0:0<=n)(h:n<=109572)(hr:HdN UN r)(hl:(aY n++r).length<=1000000):uz (5,aY n,n) (aY n) r:=by
 obtain⟨A,B,C,e,a1,a2,a3,a4,a5,a6⟩:=KL h0 h;have hp:=xu h0 h;rw[e]at hl hp ⊢;have hne:A≠[]:=by intro e;rw[e]at a1;simp at a1
 have hrd:HdN wO r:=λc t e=>by have:=hr c t e;unfold UN at this;simp only[Z9]at this;exact this.1.1.2
 have hq:A++(45::(B++(45::C)))++r=A++(45::(B++(45::(C++r)))):=x8;unfold uz;have hl' :(A++(45::(B++(45::(C++r))))).length<=1000000:=by rw[←hq];exact hl
 rw[hq,PN a4 hne];unfold nz;have hdf:ql (A++(45::(B++(45::(C++r)))))=some true:=by
  unfold ql;have e0:=pW hl' 0 l9;rw[iI,Iw a4 (λc t e=>by cases e;rfl),show((0:Nat):Int)=0 from rfl]at e0;have d5:(A++(45::(B++(45::(C++r))))).drop 5=B++(45::(C++r)):=by rw[show A++(45::(B++(45::(C++r))))=(A++[45])++(B++(45::(C++r))) by simp];exact List.drop_left' H7
  have d8:(A++(45::(B++(45::(C++r))))).drop 8=C++r:=by rw[show A++(45::(B++(45::(C++r))))=(A++[45]++B++[45])++(C++r) by simp];exact List.drop_left' H7
  have e5:kC (A++(45::(B++(45::(C++r))))) 5=some (B.length:Int):=by have t:=pW hl' 5 l9;rw[d5,Iw a5 (λc t e=>by cases e;rfl)]at t;exact t
  have e8:kC (A++(45::(B++(45::(C++r))))) 8=some (C.length:Int):=by have t:=pW hl' 8 l9;rw[d8,Iw a6 hrd]at t;exact t
  have s4:sat (A++(45::(B++(45::(C++r))))) 4=some 45:=by rw[show(4:Int)=((4:Nat):Int)from rfl,yx,F7 l9,a1];rfl
  have s7:sat (A++(45::(B++(45::(C++r))))) 7=some 45:=by rw[show(7:Int)=((7:Nat):Int)from rfl,yx,F7 l9,a1,show 7 -4=2+1 from rfl,kJ,F7 l9,a2];rfl
  rw[e0,o9,a1,show D8 ((4:Nat):Int) 4=true from rfl,o7,e5,o9,a2,show D8 ((2:Nat):Int) 2=true from rfl,o7,e8,o9,a3,show U7 2 ((2:Nat):Int)=true from rfl,o7,s4,o9,O0 rfl,o7,s7,o9,O0 rfl]
 rw[hdf,o9,F5,o6,o9,ae];have hn:jw 5 (A++(45::(B++(45::C))))=some (n,0):=by unfold jw;simp (disch:=decide) only[O0,o7];rw[hp,o9,O0 rfl,o7,Y0 (by simp only;omega)];rfl
 have:=TM (w:=A++(45::(B++(45::C)))) hr hl hn;rw[hq]at this;have hlen:((A++(45::(B++(45::C)))).length:Int)=10:=by simp;omega
 rw[hlen]at this ⊢;exact this
abbrev It:Type:=Option V5
def bH:List It->c5v
 |[]=>[]|none::L=>32::bH L|some k::L=>k.2.1++bH L
theorem oV:∀A B:List It,bH (A++B)=bH A++bH B
 |[],B=>rfl|none::A,B=>by rw[G9];simp only[bH];rw[oV A B];rfl|some k::A,B=>by rw[G9];simp only[bH];rw[oV A B,E8]
def xg(L:List It):List V5:=L.filterMap id
theorem fJ(A B:List It):xg (A++B)=xg A++xg B:=List.filterMap_append
def b3W(c:UInt8):Bool:=decide (c=32) || decide (c=40) || decide (c=41) || decide (c=44) || decide (c=58)
def HdS(r:c5v):Prop:=∀c t,r=c::t->b3W c=true
theorem a7K(h:b3W c=true):c=32\/c=40\/c=41\/c=44\/c=58:=by unfold b3W at h;simp only[rE,decide_eq_true_eq]at h;rcases h with(((h|h)|h)|h)|h<;>simp[h]
theorem a5c{P:UInt8->Bool}(h:HdS r)(h1:P 32=false)(h2:P 40=false)(h3:P 41=false)(h4:P 44=false)(h5:P 58=false):HdN P r:=by intro c t e;rcases a7K (h c t e)with rfl|rfl|rfl|rfl|rfl<;>assumption
theorem a8P(h:HdS r):HdN xY r:=a5c h C9 C9 C9 C9 C9
theorem TE(h:HdS r):HdN UN r:=a5c h C9 C9 C9 C9 C9
theorem b6s(h:HdS r):HdN (λc=>decide (c=45)) r:=a5c h C9 C9 C9 C9 C9
theorem b6t(h:HdS r):HdN (λc=>decide (c=61)) r:=a5c h C9 C9 C9 C9 C9
def a0H(k:V5):Prop:=∃c:UInt8,(c=40\/c=41\/c=44\/c=58\/c=43\/c=45\/c=42)/\k=(7,[c],0)
def prB(c:UInt8):Bool:=decide (32<=c.toNat)&&decide (c.toNat<=126)
structure TokOk (k:V5):Prop where
 pr:∀c∈k.2.1,prB c=true
 ne:∃c t,k.2.1=c::t/\Qe c=false
 sc:a0H k\/∀r,HdS r->(k.2.1++r).length<=1000000->uz k k.2.1 r
def WSR:List It->c5v->Prop
 |[],_=>True|none::L,R=>HdN Qe (bH L++R)/\WSR L R|some k::L,R=>TokOk k/\(a0H k\/HdS (bH L++R))/\WSR L R
theorem P_:∀(A B:List It) (R:c5v),WSR A (bH B++R)->WSR B R->WSR (A++B) R
 |[],B,R,_,h=>h|none::A,B,R,h,h2=>by refine⟨?_,P_ A B R h.2 h2⟩;show HdN Qe (bH (A++B)++R);rw[oV,E8];exact h.1|some k::A,B,R,h,h2=>by refine⟨h.1,?_,P_ A B R h.2.2 h2⟩;show a0H k\/HdS (bH (A++B)++R);rw[oV,E8];exact h.2.1
def xO:Nat->List It->List bD
 |_,[]=>[]|o,none::L=>xO (o+1) L|o,some k::L=>(k.1,k.2.1,k.2.2,(o:Int))::xO (o+k.2.1.length) L
theorem EJ:∀(L:List It) (o:Nat),(xO o L).map (λx=>((x.1,x.2.1,x.2.2.1):V5))=xg L
 |[],o=>rfl|none::L,o=>by show(xO (o+1) L).map _=_;rw[EJ L (o+1)];rfl|some k::L,o=>by show _::(xO (o+k.2.1.length) L).map _=_;rw[EJ L];rfl
theorem a7w:∀(L:List It) (o:Nat),(xO o L).length=(xg L).length:=λL o=>by rw[←EJ L o,jd]
def tkF(a0:c5v)(x:List bD×Int):Option (Out (List bD×Int) (List bD) (List bD×Int×Int)):=
     l7 (J4 x.2 (x9 a0))
      (o5 (dM a0 x.2 (x9 a0)) λ(x_1:c5v)=>
       o5 (rY x_1) λ(x_2:bD×L9)=>
        l7 (I5 (D8 x_2.2.2 0)) (some (Out.rt ([],x.2,x_2.2.2)))
         (o5 (iy x.1 [(x_2.1.1,x_2.1.2.1,x_2.1.2.2.1,x.2)]) λ(x_3:List bD)=>
          o5 (rZ a0 (I8 IntKind.i64 x.2 x_2.2.1)) λ(x:Int)=>some (Out.nx (x_3,x))))
      (some (Out.ex x.1))
variable {L:List It}
theorem a6l(h:WSR L [])(hn:∀M,L≠none::M):HdN Qe (bH L):=by
 cases L with
 |nil=>intro c t e;cases e|cons a L=>
  cases a with
  |none=>exact absurd rfl (hn L)|some k=>obtain⟨c,t,e,hb⟩:=h.1.ne;intro x y e2;simp only[bH,e,G9,H8]at e2;rw[←e2.1];exact hb
theorem b1R{k:V5}(h:TokOk k)(h2:a0H k\/HdS r)(hl:(k.2.1++r).length<=1000000):uz k k.2.1 r:=by
 rcases h.sc with⟨c,hc,rfl⟩|hs
 .exact a1L hc r
 .rcases h2 with⟨c,hc,rfl⟩|h2
  .exact a1L hc r
  .exact hs r h2 hl
theorem PS{s:c5v}(hs:s.length<=65536):∀(L:List It) (pre:c5v) (acc:List bD) (m:Nat),s=pre++bH L->WSR L []->(∀M,L≠none::M)->acc.length+L.length<=1000000->
  fQ (tkF s) (m+L.length+1) (acc,(pre.length:Int))=some (.inl (acc++xO pre.length L))
 |[],pre,acc,m,h,hw,hn,ha=>by rw[bH,E9]at h;subst h;rw[bU];unfold tkF;simp only[Y1 s,o6];rw[show xO s.length []=[]from rfl,E9]|none::L,pre,acc,m,h,hw,hn,ha=>absurd rfl (hn L)|some k::L,pre,acc,m,h,hw,hn,ha=>by
  have hlen:=congrArg List.length h;simp only[bH,A7]at hlen;obtain⟨h1,h2,h3⟩:=hw;rw[E9]at h2;have hkl:1<=k.2.1.length:=by obtain⟨c,t,e,-⟩:=h1.ne;rw[e];simp
  have hsc:=b1R h1 h2 H7;unfold uz at hsc;have hsub:dM s (pre.length:Int) (x9 s)=some (k.2.1++bH L):=by rw[qm l9 l9,I9,h,Y6];rfl
  simp only[A8]at ha;have hat:I8 .i64 (pre.length:Int) (k.2.1.length:Int)=((pre.length+k.2.1.length:Nat):Int):=by rw[cZ lm];omega
  rw[show m+(some k::L).length+1=(m+L.length+1)+1 by simp;omega,bU];have key:∀j:Nat,rZ s ((pre.length+k.2.1.length:Nat):Int)=some (j:Int)->tkF s (acc,(pre.length:Int))=some (.nx (acc++[(k.1,k.2.1,k.2.2,(pre.length:Int))],(j:Int))):=by intro j hj;unfold tkF;simp only[dE (show(pre.length:Int)<x9 s by unfold x9;omega),o7,hsub,o9,hsc,O0 (rfl:(0:Int)=0),F5,o6];rw[Ak _ l9,o9,hat,hj,o9]
  have hfin:∀M:List It,xO pre.length (some k::L)=(k.1,k.2.1,k.2.2,(pre.length:Int))::xO (pre.length+k.2.1.length) L:=λ_=>rfl;rw[hfin L];have hpk:s=(pre++k.2.1)++bH L:=by rw[h];simp[bH]
  cases L with
  |nil=>
   rw[key (pre.length+k.2.1.length) (WC l9 (by rw[hpk,←A7,Y6];intro c t e;cases e) l9)]
   have:=PS hs [] (pre++k.2.1) (acc++[(k.1,k.2.1,k.2.2,(pre.length:Int))]) m (by rw[hpk]) trivial (λM e=>by cases e) H7;rw[A7]at this;simp only;rw[show m+([]:List It).length+1=m+([]:List It).length+1 from rfl,this];simp
  |cons a L=>
   cases a with
   |some k' =>
    rw[key (pre.length+k.2.1.length) (WC l9 (by rw[hpk,←A7,Y6];exact a6l h3 (λM e=>by cases e)) l9)]
    have:=PS hs (some k' ::L) (pre++k.2.1) (acc++[(k.1,k.2.1,k.2.2,(pre.length:Int))]) m hpk h3 (λM e=>by cases e) (by simp at ha ⊢;omega);rw[A7]at this;simp only;rw[this];simp
   |none=>
    have hb:HdN Qe (bH L):=by have:=h3.1;rw[E9]at this;exact this
    have hnb:∀M,L≠none::M:=λM e=>by rw[e]at hb;have:=hb 32 (bH M) rfl;revert this;decide
    have hp2:s=(pre++k.2.1++[32])++bH L:=by rw[hpk];simp[bH]
    have hpl:(pre++k.2.1++[32]).length=pre.length+k.2.1.length+1:=by simp;omega
    rw[key (pre.length+k.2.1.length+1) (b0W l9 (by
     rw[hpk,F7 x8,←A7,aT];rfl) (by
     rw[←hpl,hp2,Y6];exact hb))]
    have:=PS hs L (pre++k.2.1++[32]) (acc++[(k.1,k.2.1,k.2.2,(pre.length:Int))]) (m+1) hp2 h3.2 hnb (by simp at ha ⊢;omega);rw[hpl]at this;simp only;rw[show m+(none::L).length+1=m+1+L.length+1 by simp;omega,this];simp[xO]
theorem a2e(hs:(bH L).length<=65536)(h:WSR L [])(hn:∀M,L≠none::M)(hl:L.length<=1000000):zM (bH L)=some (xO 0 L,0,0):=by unfold zM;have h0:rZ (bH L) ((0:Nat):Int)=some ((0:Nat):Int):=WC l9 (by rw[iI];exact a6l h hn) l9;rw[show((0:Nat):Int)=0 from rfl]at h0;rw[Y0 (show x9 (bH L)<=65536 by unfold x9;omega),o6,h0,o9];have:=PS hs L [] [] (au -L.length -1) rfl h hn H7;rw[show au -L.length -1+L.length+1=au by unfold au;omega]at this;rw[G8]at this;refine V6 (show X5 (tkF (bH L)) ([],0)=_ from this) ?_;rfl
def nm(w:c5v):It:=some (1,w,0)
def sy(c:UInt8):It:=some (7,[c],0)
def IV(k:Int)(u:Nat):c5v:=l7 (D8 k 2) (Lib.decDigits u) (l7 (D8 k 3) (uH u 2) (uH u 4++[37]))
def OJ(k m:Int):List It:=
 l7 (D8 k 1) [nm (l7 (D8 m 0) [102,97,108,115,101] [116,114,117,101])]
 (l7 (D8 k 5) [some (5,aY m,m)] (l7 (J4 m 0) [sy 45,some (k,IV k m.natAbs,(m.natAbs:Int))] [some (k,IV k m.natAbs,(m.natAbs:Int))]))
def Gg(n:Int×Int)(N:D9):List It:=
 l7 (U7 n.1 5) (OJ n.1 n.2)
 (l7 (D8 n.1 6) [nm ((P8 N.1 (dh .i64 n.2 16)).getD ([],[])).1,sy 58,nm (gtN ((P8 N.1 (dh .i64 n.2 16)).getD ([],[])).2 (iE n.2 16))]
 (l7 (D8 n.1 7) [nm (gtN N.2.2.1 n.2)]
 (l7 (D8 n.1 8) [nm (gtN N.2.2.2.1 n.2)]
 (l7 (D8 n.1 9) [nm [116,111,100,97,121]]
 (l7 (D8 n.1 35) [nm [99,111,117,110,116],sy 40,sy 41] [nm (dC n.1),sy 40,nm (gtN N.2.2.2.2 n.2),sy 41])))))
def wiI(L:List It)(cls c:Int):List It:=l7 (J4 cls c) ([sy 40]++L++[sy 41]) L
def a7k(n:Int×Int)(N:D9)(num:Bool)(L:List It)(cls:Int):List It:=
 l7 (D8 n.1 33) ([nm (dC n.1),sy 40,nm (gtN N.2.1 n.2),sy 44,none]++L++[sy 41])
 (l7 (D8 n.1 34) ([nm (dC n.1),sy 40,nm (gtN N.2.1 (dh .i64 n.2 8)),sy 44,none]++L++[sy 44,none,nm (jT (iE n.2 8)),sy 41])
 (l7 (D8 n.1 25) ([nm [110,111,116],none]++wiI L cls 6)
 (l7 (D8 n.1 10) ([sy 45]++l7 num ([sy 40]++L++[sy 41]) (wiI L cls 6)) ([nm (dC n.1),sy 40]++L++[sy 41]))))
def opK(k:Int):V5:=(l7 (D8 k 24) 1 (l7 (D8 k 23) 1 7),(jB k).1,0)
def Ku(n:Int×Int)(A:List It)(ca:Int)(B:List It)(cb:Int):List It:=
 l7 (SS n.1) ([nm (dC n.1),sy 40]++A++[sy 44,none]++B++[sy 41])
 (l7 (Xt n.1) ([nm (dC n.1),sy 40]++A++[sy 44,none]++B++[sy 44,none,nm (jT n.2),sy 41])
 (wiI A ca (l7 (D8 (jB n.1).2 3) 4 (jB n.1).2)++[none,some (opK n.1),none]++wiI B cb ((jB n.1).2+1)))
def a6R(A B C:List It):List It:=[nm [105,102],none]++A++[none,nm [116,104,101,110],none]++B++[none,nm [101,108,115,101],none]++C
def itT(N:D9):XT->List It
 | .l0 n=>Gg n N| .l1 n a=>a7k n N (AX a.node.1) (itT N a) (txT N a).2| .l2 n a b=>Ku n (itT N a) (txT N a).2 (itT N b) (txT N b).2| .l3 n a b c=>a6R (itT N a) (itT N b) (itT N c)
theorem DX{k m lo hi:Int}(hk:1<=k/\k<=5)(hb:di (k,0) []=some (lo,hi))(h:flS (k,m) N=0):lo<=m/\m<=hi:=by
 unfold flS U6 vN at h;simp only[Y7 hk.1,Y7 hk.2,o7,o9,hb]at h;by_cases h1:m<lo
 .rw[dE h1]at h;cases h
 by_cases h2:hi<m
 .rw[Y0 l9,dE h2]at h;cases h
 omega
theorem b2T(hk:k=1\/k=2\/k=3\/k=4\/k=5)(hm:fP m)(h:flS (k,m) N=0):fK (k,0,m) []=some (bH (OJ k m),0):=by
 have f4:=Dh (k:=4) hm l9;have key:∀lo hi:Int,di (k,0) []=some (lo,hi)->aN (k,0) []=some true->fK (k,0,m) []=(l7 (D8 k 1) (l7 (D8 m 0) (some ([102,97,108,115,101],0)) (some ([116,114,117,101],0)))
   (l7 (D8 k 2) (some (Lib.itoa m,0)) (l7 (D8 k 3) (some (oU m 2,0)) (l7 (D8 k 4) (some (oU m 4++[37],0)) (some (aY m,0)))))):=by
  intro lo hi hb hv;obtain⟨h1,h2⟩:=DX l9 hb h;rw[vG [] hm];unfold xC yI EL Pn;simp only[yI,o9,hv,F5,o6,o7,hb,Y7 h1,Y7 h2];rw[uS hm,show jU m 2=_ from rO (k:=2) hm l9,show jU m 4=_ from rO (k:=4) hm l9,IL];simp only[o9];rw[N9 H7,o9];rcases hk with rfl|rfl|rfl|rfl|rfl<;>rfl
 rcases hk with rfl|rfl|rfl|rfl|rfl
 .rw[key 0 1 rfl rfl];simp (disch:=decide) only[O0,o7,OJ,nm,bH,E9];cases D8 m 0<;>rfl
 .rw[key _ _ rfl rfl];simp (disch:=decide) only[O0,J8,o7,o6,OJ,IV];unfold Lib.itoa;by_cases h0:m<0
  .rw[if_pos h0,dE h0];simp[bH,sy,l7]
  .rw[if_neg h0,Y0 l9];simp only[o6,bH,E9];rw[show m.toNat=m.natAbs by omega]
 .rw[key _ _ rfl rfl];simp (disch:=decide) only[O0,J8,o7,o6,OJ,IV];unfold oU;by_cases h0:m<0
  .rw[if_pos h0,dE h0];simp[bH,sy,l7]
  .rw[if_neg h0,Y0 l9];simp only[o6,bH,E9]
 .rw[key _ _ rfl rfl];simp (disch:=decide) only[O0,J8,o7,o6,OJ,IV];unfold oU;by_cases h0:m<0
  .rw[if_pos h0,dE h0];simp[bH,sy,l7]
  .rw[if_neg h0,Y0 l9];simp only[o6,bH,E9]
 .rw[key _ _ rfl rfl];simp (disch:=decide) only[O0,J8,o7,o6,OJ,bH,E9]
theorem a6V(ha:arF n.1=0)(hm:fP n.2)(h:flS n N=0):bH (Gg n N)=(vg n N).1:=by
 obtain⟨k,m⟩:=n;have lit:(k=1\/k=2\/k=3\/k=4\/k=5)->bH (Gg (k,m) N)=(vg (k,m) N).1:=by intro hk;have:=b2T hk hm h;unfold Gg vg;simp only[Y7 (show k<=5 by omega),o7];rw[←vG [] hm,this];rfl
 rcases ar0 ha with rfl|rfl|rfl|rfl|rfl|rfl|rfl|rfl|rfl|rfl|rfl|rfl|rfl|rfl
 .exact lit l9
 .exact lit l9
 .exact lit l9
 .exact lit l9
 .exact lit l9
 all_goals
  unfold Gg vg;simp (disch:=decide) only[O0,J8,dA,o7,o6,nm,sy,bH];simp
theorem N_(L:List It)(t:Tx)(c:Int)(h:bH L=t.1):bH (wiI L t.2 c)=wiS t c:=by
 unfold wiI wiS;cases J4 t.2 c
 .exact h
 .simp only[o7];rw[oV,oV,h];rfl
theorem CP{N:D9} :∀(t:XT),t.wf->(∀n∈t.post,fP n.2)->(∀n∈t.post,flS n N=0)->bH (itT N t)=(txT N t).1
 | .l0 n,hw,hI,hz=>a6V hw (hI n (by simp[XT.post])) (hz n (by simp[XT.post]))| .l1 n a,hw,hI,hz=>by
  have ia:=CP a hw.2 (λm hm=>hI m (by simp[XT.post,hm])) (λm hm=>hz m (by simp[XT.post,hm]));have w:=N_ (itT N a) (txT N a) 6 ia;show bH (a7k n N (AX a.node.1) (itT N a) (txT N a).2)=(NF n N (AX a.node.1) (txT N a)).1;unfold a7k NF;cases D8 n.1 33
  case true=>simp only[o7,oV,ia];simp[bH,nm,sy]
  cases D8 n.1 34
  case true=>simp only[o7,o6,oV,ia];simp[bH,nm,sy]
  cases D8 n.1 25
  case true=>simp only[o7,o6,oV,w];simp[bH,nm,sy]
  cases D8 n.1 10
  case true=>
   simp only[o7,o6,oV];cases AX a.node.1
   .simp only[o6,w];simp[bH,nm,sy]
   .simp only[o7,oV,ia];simp[bH,nm,sy]
  .simp only[o6,oV,ia];simp[bH,nm,sy]
 | .l2 n a b,hw,hI,hz=>by
  have ia:=CP a hw.2.1 (λm hm=>hI m (by simp[XT.post,hm])) (λm hm=>hz m (by simp[XT.post,hm]));have ib:=CP b hw.2.2 (λm hm=>hI m (by simp[XT.post,hm])) (λm hm=>hz m (by simp[XT.post,hm]));have w1:=N_ (itT N a) (txT N a) (l7 (D8 (jB n.1).2 3) 4 (jB n.1).2) ia;have w2:=N_ (itT N b) (txT N b) ((jB n.1).2+1) ib;show bH (Ku n (itT N a) (txT N a).2 (itT N b) (txT N b).2)=(Iy n (txT N a) (txT N b)).1;unfold Ku Iy;cases SS n.1
  case true=>simp only[o7,oV,ia,ib];simp[bH,nm,sy]
  cases Xt n.1
  case true=>simp only[o7,o6,oV,ia,ib];simp[bH,nm,sy]
  .simp only[o6,oV,w1,w2];simp[bH,opK]
 | .l3 n a b c,hw,hI,hz=>by have ia:=CP a hw.2.1 (λm hm=>hI m (by simp[XT.post,hm])) (λm hm=>hz m (by simp[XT.post,hm]));have ib:=CP b hw.2.2.1 (λm hm=>hI m (by simp[XT.post,hm])) (λm hm=>hz m (by simp[XT.post,hm]));have ic:=CP c hw.2.2.2 (λm hm=>hI m (by simp[XT.post,hm])) (λm hm=>hz m (by simp[XT.post,hm]));show bH (a6R (itT N a) (itT N b) (itT N c))=(ifX (txT N a) (txT N b) (txT N c)).1;unfold a6R ifX;simp only[oV,ia,ib,ic];simp[bH,nm]
def wOk(w:c5v):Bool:=match w with|[]=>false|c::t=>IU c&&(c::t).all xY&&decide ((c::t).length<=16)
theorem Ky(h:gq s=true):wOk s=true:=by
 cases s with
 |nil=>cases h|cons c r=>rw[AL]at h;simp only[D5]at h;unfold wOk;simp only[D5];exact⟨⟨h.1.1.2,h.1.2⟩,h.1.1.1⟩
theorem a6j(h:xY c=true):prB c=true:=by unfold xY IU at h;unfold prB;simp only[rE,D5,decide_eq_true_eq]at h ⊢;omega
theorem yF(h:wO c=true):prB c=true:=by have:=Ji h;unfold prB;simp only[D5,decide_eq_true_eq];omega
theorem uA{a b:c5v}(ha:∀c∈a,prB c=true)(hb:∀c∈b,prB c=true):∀c∈a++b,prB c=true:=by
 intro c hc;rcases F9.1 hc with h|h
 .exact ha c h
 .exact hb c h
theorem xq{x:UInt8}{b:c5v}(ha:prB x=true)(hb:∀c∈b,prB c=true):∀c∈x::b,prB c=true:=by
 intro c hc;rcases D7.1 hc with rfl|h
 .exact ha
 .exact hb c h
theorem lV(h:wOk w=true):TokOk (1,w,0):=by
 cases w with
 |nil=>cases h|cons c t=>unfold wOk at h;simp only[D5]at h;obtain⟨⟨h1,h2⟩,h3⟩:=h;have hb:=a9d h1;refine⟨λx hx=>a6j (ax.1 h2 x hx),⟨c,t,rfl,?_⟩,.inr λr hr hl=>a7J ⟨c,t,rfl,h1⟩ (ax.1 h2) (by simpa using h3) (a8P hr) hl⟩;unfold Qe;simp only[Z9,decide_eq_false_iff_not];refine⟨⟨?_,?_⟩,?_⟩<;>rintro rfl<;>revert hb<;>decide
theorem BP(hc:c=40\/c=41\/c=44\/c=58\/c=43\/c=45\/c=42):TokOk (7,[c],0):=by
 refine⟨λx hx=>?_,⟨c,[],rfl,?_⟩,.inl ⟨c,hc,rfl⟩⟩
 .simp at hx;subst hx;rcases hc with rfl|rfl|rfl|rfl|rfl|rfl|rfl<;>decide
 rcases hc with rfl|rfl|rfl|rfl|rfl|rfl|rfl<;>decide
theorem Zk(hd:Dg d)(h:d≠[]):∃c t,d++r=c::t/\Qe c=false:=by obtain⟨c,t,e,hc,-⟩:=b4G (r:=r) hd h;refine⟨c,t,e,?_⟩;have:=Ji hc;unfold Qe;simp only[Z9,decide_eq_false_iff_not];refine⟨⟨?_,?_⟩,?_⟩<;>rintro rfl<;>revert this<;>decide
theorem b4o(h:(k=2/\u<=1000000000000)\/(k=3/\u<=1000000000000000)\/(k=4/\u<=1000000000)):TokOk (k,IV k u,(u:Int)):=by
 rcases h with⟨rfl,hu⟩|⟨rfl,hu⟩|⟨rfl,hu⟩
 .have e:IV 2 u=Lib.decDigits u:=rfl;have hlen:=pV (u:=u) l9;refine⟨by rw[e];exact λc hc=>yF (Aw u c hc),?_,.inr λr hr hl=>?_⟩
  .rw[e];have:=Zk (r:=[]) (Aw u) (by intro e;rw[e]at hlen;simp at hlen);rw[E9]at this;exact this
  .simp only[e]at hl ⊢;exact b7v hu (TE hr) (b6s hr) hl
 .have e:IV 3 u=uH u 2:=rfl;refine⟨by
   rw[e];obtain⟨d,f,e2,hd,hf,hne,-⟩:=pY (u:=u) (k:=2) l9 l9;rw[e2];exact uA (λc hc=>yF (hd c hc)) (xq C9 (λc hc=>yF (hf c hc))),?_,.inr λr hr hl=>?_⟩
  .rw[e];obtain⟨d,f,e2,hd,hf,hne,-⟩:=pY (u:=u) (k:=2) l9 l9;simp only[e2];exact Zk hd hne
  .simp only[e]at hl ⊢;exact b0T hu (TE hr) hl
 .have e:IV 4 u=uH u 4++[37]:=rfl;refine⟨by
   rw[e];obtain⟨d,f,e2,hd,hf,hne,-⟩:=pY (u:=u) (k:=4) l9 l9;rw[e2];exact uA (uA (λc hc=>yF (hd c hc)) (xq C9 (λc hc=>yF (hf c hc)))) (xq C9 (λc hc=>by cases hc)),?_,.inr λr hr hl=>?_⟩
  .rw[e];obtain⟨d,f,e2,hd,hf,hne,-⟩:=pY (u:=u) (k:=4) l9 l9;simp only[e2,E8];exact Zk hd hne
  .simp only[e]at hl ⊢;exact b3T hu (TE hr) hl
theorem b1Q{n:Int}(h0:0<=n)(h:n<=109572):TokOk (5,aY n,n):=by
 refine⟨?_,?_,.inr λr hr hl=>b3S h0 h (TE hr) hl⟩
 .obtain⟨A,B,C,e,a1,a2,a3,a4,a5,a6⟩:=KL h0 h;rw[e];exact uA (λc hc=>yF (a4 c hc)) (xq C9 (uA (λc hc=>yF (a5 c hc)) (xq C9 (λc hc=>yF (a6 c hc)))))
 obtain⟨A,B,C,e,a1,a2,a3,a4,a5,a6⟩:=KL h0 h;simp only[e];exact Zk a4 (by intro e;rw[e]at a1;simp at a1)
theorem b9c(hk:k=11\/k=12\/k=13\/k=19\/k=20\/k=21\/k=22\/k=23\/k=24):TokOk (opK k):=by
 rcases hk with rfl|rfl|rfl|rfl|rfl|rfl|rfl|rfl|rfl
 .exact BP (c:=43) x8
 .exact BP (c:=45) x8
 .exact BP (c:=42) x8
 .exact⟨C9,⟨61,[61],rfl,C9⟩,.inr λr hr hl=>Wy (c:=61) x8 r (by simp[opK,jB,lN,D8,l7]at hl;omega)⟩
 .exact⟨C9,⟨33,[61],rfl,C9⟩,.inr λr hr hl=>Wy (c:=33) x8 r (by simp[opK,jB,lN,D8,l7]at hl;omega)⟩
 .exact⟨C9,⟨60,[],rfl,C9⟩,.inr λr hr hl=>b3U r (by simp[opK,jB,lN,D8,l7]at hl;omega) (b6t hr)⟩
 .exact⟨C9,⟨60,[61],rfl,C9⟩,.inr λr hr hl=>Wy (c:=60) x8 r (by simp[opK,jB,lN,D8,l7]at hl;omega)⟩
 .exact lV (w:=[97,110,100]) C9
 .exact lV (w:=[111,114]) C9
theorem a4z:∀(L:List It) (R:c5v),WSR L R->∀c∈bH L,prB c=true
 |[],_,_=>λc hc=>by cases hc|none::L,R,h=>xq C9 (a4z L R h.2)|some k::L,R,h=>uA h.1.pr (a4z L R h.2.2)
def StI(L:List It):Prop:=∃k L',L=some k::L' /\TokOk k
theorem b8W(h:StI L)(R:c5v):HdN Qe (bH L++R):=by obtain⟨k,L',rfl,hk⟩:=h;obtain⟨c,t,e,hb⟩:=hk.ne;intro x y e2;simp only[bH,e,G9,H8]at e2;rw[←e2.1];exact hb
theorem NU{L M:List It}(h:StI L):StI (L++M):=by obtain⟨k,L',rfl,hk⟩:=h;exact⟨k,L' ++M,rfl,hk⟩
theorem c4G(h:StI L):∀M,L≠none::M:=by obtain⟨k,L',rfl,-⟩:=h;intro M e;cases e
theorem qN(h:b3W c=true)(x:c5v):HdS (c::x):=λa t e=>by cases e;exact h
theorem a5d:HdS []:=λa t e=>by cases e
variable {R:c5v}
theorem jD(hc:c=40\/c=41\/c=44\/c=58\/c=43\/c=45\/c=42)(h:WSR L R):WSR (sy c::L) R:=⟨BP hc,.inl ⟨c,hc,rfl⟩,h⟩
theorem zo(hw:wOk w=true)(h:WSR L R)(hs:HdS (bH L++R)):WSR (nm w::L) R:=⟨lV hw,.inr hs,h⟩
theorem EU(h:WSR L R)(hs:StI L):WSR (none::L) R:=⟨b8W hs R,h⟩
structure WsT (L:List It):Prop where
 st:StI L
 ws:∀R,HdS R->WSR L R
theorem MM(h:WsT L){M:List It}(hm:WSR M R)(hs:HdS (bH M++R)):WSR (L++M) R:=P_ L M R (h.ws _ hs) hm
theorem a2k(h:WsT L)(cls c:Int):WsT (wiI L cls c):=by
 unfold wiI;cases J4 cls c
 .exact h
 .refine⟨⟨_,_,rfl,BP x8⟩,λR hR=>?_⟩;exact jD x8 (MM h (jD x8 trivial) (qN C9 _))
structure NmI (N:D9):Prop where
 e:∀e∈N.1,gq e.1=true/\∀m∈e.2,gq m=true
 t:∀s∈N.2.1,gq s=true
 i:∀s∈N.2.2.1,gq s=true
 d:∀s∈N.2.2.2.1,gq s=true
 m:∀s∈N.2.2.2.2,gq s=true
theorem wE{l:List α}{i:Int}{x:α}(h:P8 l i=some x):x∈l:=(ng h).2.2.1
theorem Zq(hm:fP m)(h:flS (6,m) N=0):∃e,P8 N.1 (dh .i64 m 16)=some e/\P8 e.2 (iE m 16)=some (gtN e.2 (iE m 16))/\0<=dh .i64 m 16/\0<=iE m 16/\iE m 16<16/\m=16*dh .i64 m 16+iE m 16:=by
 have hff:U6 (6,m) N=(l7 (J4 m 0) (some 6)
    (l7 (U7 (x9 N.1) (dh .i64 m 16)) (some 6)
     (o5 (P8 N.1 (dh .i64 m 16)) λ(x:U2)=>
      l7 (U7 (x9 x.2) (iE m 16)) (some 6) (some 0)))):=rfl
 unfold flS at h;rw[hff]at h;by_cases h0:m<0
 .rw[dE h0]at h;cases h
 by_cases h1:x9 N.1<=dh .i64 m 16
 .rw[Y0 l9,Y7 h1]at h;cases h
 have hq:dh .i64 m 16=m / 16:=by rw[Pj hm 16 (.inr rfl),uk l9]
 have hr0:iE m 16=m % 16:=BD l9;obtain⟨en,he,hmem⟩:=tH (l:=N.1) (i:=dh .i64 m 16) l9 l9;rw[Y0 l9,dA l9,o6,o6,he,o9]at h;by_cases h2:x9 en.2<=iE m 16
 .rw[Y7 h2]at h;cases h
 exact⟨en,he,(Nq l9 l9).1,l9,l9,l9,l9⟩
theorem b2R(hN:NmI N)(ha:arF n.1=0)(hm:fP n.2)(h:flS n N=0):WsT (Gg n N):=by
 obtain⟨k,m⟩:=n;have one:∀w,wOk w=true->WsT [nm w]:=λw hw=>⟨⟨_,_,rfl,lV hw⟩,λR hR=>zo hw trivial hR⟩;have num:∀k:Int,∀m:Int,(k=2/\m.natAbs<=1000000000000)\/(k=3/\m.natAbs<=1000000000000000)\/(k=4/\m.natAbs<=1000000000)->WsT (OJ k m):=by
  intro k m hk;have ht:=b4o hk;have e:OJ k m=l7 (J4 m 0) [sy 45,some (k,IV k m.natAbs,(m.natAbs:Int))] [some (k,IV k m.natAbs,(m.natAbs:Int))]:=by unfold OJ;rw[J8 (show k≠1 by omega),J8 (show k≠5 by omega)];rfl
  rw[e];cases J4 m 0
  .exact⟨⟨_,_,rfl,ht⟩,λR hR=>⟨ht,.inr hR,trivial⟩⟩
  .exact⟨⟨_,_,rfl,BP x8⟩,λR hR=>jD x8 ⟨ht,.inr hR,trivial⟩⟩
 have call:(k=36\/k=37\/k=38\/k=39)->WsT (Gg (k,m) N):=by
  intro hk;have hg:P8 N.2.2.2.2 m=some (gtN N.2.2.2.2 m):=by rcases hk with rfl|rfl|rfl|rfl<;>exact ED rfl h
  have hw:wOk (dC k)=true:=by rcases hk with rfl|rfl|rfl|rfl<;>decide
  have e:Gg (k,m) N=[nm (dC k),sy 40,nm (gtN N.2.2.2.2 m),sy 41]:=by rcases hk with rfl|rfl|rfl|rfl<;>rfl
  rw[e];exact⟨⟨_,_,rfl,lV hw⟩,λR hR=>zo hw (jD x8 (zo (Ky (hN.m _ (wE hg))) (jD x8 trivial) (qN C9 _))) (qN C9 _)⟩
 rcases ar0 ha with rfl|rfl|rfl|rfl|rfl|rfl|rfl|rfl|rfl|rfl|rfl|rfl|rfl|rfl
 .show WsT [nm (l7 (D8 m 0) [102,97,108,115,101] [116,114,117,101])];cases D8 m 0
  .exact one _ C9
  .exact one _ C9
 .have hb:=DX (k:=2) l9 rfl h;exact num 2 m l9
 .have hb:=DX (k:=3) l9 rfl h;exact num 3 m l9
 .have hb:=DX (k:=4) l9 rfl h;exact num 4 m l9
 .have hb:=DX (k:=5) l9 rfl h;have ht:=b1Q hb.1 hb.2;exact⟨⟨_,_,rfl,ht⟩,λR hR=>⟨ht,.inr hR,trivial⟩⟩
 .obtain⟨e,h1,h2,-⟩:=Zq hm h;have ee:=hN.e e (wE h1);have eq:Gg (6,m) N=[nm e.1,sy 58,nm (gtN e.2 (iE m 16))]:=by
   show[nm ((P8 N.1 (dh .i64 m 16)).getD ([],[])).1,sy 58,nm (gtN ((P8 N.1 (dh .i64 m 16)).getD ([],[])).2 (iE m 16))]=_;rw[h1];rfl
  rw[eq];exact⟨⟨_,_,rfl,lV (Ky ee.1)⟩,λR hR=>zo (Ky ee.1) (jD x8 (zo (Ky (ee.2 _ (wE h2))) trivial hR)) (qN C9 _)⟩
 .exact one _ (Ky (hN.i _ (wE (ED (n:=(7,m)) (l:=N.2.2.1) rfl h))))
 .exact one _ (Ky (hN.d _ (wE (ED (n:=(8,m)) (l:=N.2.2.2.1) rfl h))))
 .exact one _ C9
 .exact⟨⟨_,_,rfl,lV (w:=[99,111,117,110,116]) C9⟩,λR hR=>zo C9 (jD x8 (jD x8 trivial)) (qN C9 _)⟩
 .exact call l9
 .exact call l9
 .exact call l9
 .exact call l9
theorem b6z:∀j:Fin 6,wOk (jT (j.val:Int))=true:=by decide
theorem a1a(h:0<=m/\m<=5):wOk (jT m)=true:=by obtain⟨j,rfl⟩:∃j:Fin 6,m=(j.val:Int):=⟨⟨m.toNat,l9⟩,by simp;omega⟩;exact b6z j
theorem b6F(hN:NmI N)(ha:arF n.1=1)(hm:fP n.2)(h:flS n N=0)(num:Bool)(hL:WsT L)(cls:Int):WsT (a7k n N num L cls):=by
 obtain⟨k,m⟩:=n;have cl:∀R,WSR (L++[sy 41]) R:=λR=>MM hL (jD x8 trivial) (qN C9 _);rcases ar1 ha with rfl|rfl|rfl|rfl|rfl|rfl
 .show WsT ([sy 45]++l7 num ([sy 40]++L++[sy 41]) (wiI L cls 6));cases num
  .exact⟨⟨_,_,rfl,BP x8⟩,λR hR=>jD x8 ((a2k hL cls 6).ws R hR)⟩
  .exact⟨⟨_,_,rfl,BP x8⟩,λR hR=>jD x8 (jD x8 (cl R))⟩
 .show WsT ([nm [110,111,116],none]++wiI L cls 6);exact⟨⟨_,_,rfl,lV (w:=[110,111,116]) C9⟩,λR hR=>zo C9 (EU ((a2k hL cls 6).ws R hR) (a2k hL cls 6).st) (qN C9 _)⟩
 .exact⟨⟨_,_,rfl,lV (w:=dC 31) C9⟩,λR hR=>zo (w:=dC 31) C9 (jD x8 (cl R)) (qN C9 _)⟩
 .exact⟨⟨_,_,rfl,lV (w:=dC 32) C9⟩,λR hR=>zo (w:=dC 32) C9 (jD x8 (cl R)) (qN C9 _)⟩
 .have hg:=ED (n:=(33,m)) (l:=N.2.1) rfl h;exact⟨⟨_,_,rfl,lV (w:=dC 33) C9⟩,λR hR=>zo (w:=dC 33) C9 (jD x8 (zo (Ky (hN.t _ (wE hg))) (jD x8 (EU (cl R) (NU hL.st))) (qN C9 _))) (qN C9 _)⟩
 .obtain⟨hg,g1,g2⟩:=a4W hm h;have hmo:wOk (jT (iE m 8))=true:=a1a ⟨g1,g2⟩;exact⟨⟨_,_,rfl,lV (w:=dC 34) C9⟩,λR hR=>zo (w:=dC 34) C9 (jD x8 (zo (Ky (hN.t _ (wE hg))) (jD x8 (EU (MM hL (jD x8 (EU (zo hmo (jD x8 trivial) (qN C9 _)) ⟨_,_,rfl,lV hmo⟩)) (qN C9 _)) (NU hL.st))) (qN C9 _))) (qN C9 _)⟩
theorem b9g(ha:arF n.1=2)(h:flS n N=0){A B:List It}(hA:WsT A)(hB:WsT B)(ca cb:Int):WsT (Ku n A ca B cb):=by
 obtain⟨k,m⟩:=n;by_cases h1:k=17\/k=18\/k=27\/k=28\/k=29\/k=30
 .have hw:wOk (dC k)=true:=by rcases h1 with rfl|rfl|rfl|rfl|rfl|rfl<;>decide
  have e:Ku (k,m) A ca B cb=nm (dC k)::sy 40::(A++(sy 44::none::(B++[sy 41]))):=by
   have:Ku (k,m) A ca B cb=[nm (dC k),sy 40]++A++[sy 44,none]++B++[sy 41]:=by rcases h1 with rfl|rfl|rfl|rfl|rfl|rfl<;>rfl
   rw[this];simp
  rw[e];exact⟨⟨_,_,rfl,lV hw⟩,λR hR=>zo hw (jD x8 (MM hA (jD x8 (EU (MM hB (jD x8 trivial) (qN C9 _)) (NU hB.st))) (qN C9 _))) (qN C9 _)⟩
 by_cases h2:k=14\/k=15\/k=16
 .have hw:wOk (dC k)=true:=by rcases h2 with rfl|rfl|rfl<;>decide
  have hr:=a8K h2 h;have hmo:wOk (jT m)=true:=a1a hr;have e:Ku (k,m) A ca B cb=nm (dC k)::sy 40::(A++(sy 44::none::(B++(sy 44::none::nm (jT m)::[sy 41])))):=by
   have:Ku (k,m) A ca B cb=[nm (dC k),sy 40]++A++[sy 44,none]++B++[sy 44,none,nm (jT m),sy 41]:=by rcases h2 with rfl|rfl|rfl<;>rfl
   rw[this];simp
  rw[e];exact⟨⟨_,_,rfl,lV hw⟩,λR hR=>zo hw (jD x8 (MM hA (jD x8 (EU (MM hB (jD x8 (EU (zo hmo (jD x8 trivial) (qN C9 _)) ⟨_,_,rfl,lV hmo⟩)) (qN C9 _)) (NU hB.st))) (qN C9 _))) (qN C9 _)⟩
 have hk:k=11\/k=12\/k=13\/k=19\/k=20\/k=21\/k=22\/k=23\/k=24:=by have:=ar2 ha;omega
 have hb:SS k=false/\Xt k=false:=by rcases hk with rfl|rfl|rfl|rfl|rfl|rfl|rfl|rfl|rfl<;>exact⟨rfl,rfl⟩
 have ho:=b9c hk;unfold Ku;simp only[hb.1,hb.2,o6];have wA:=a2k hA ca (l7 (D8 (jB k).2 3) 4 (jB k).2);have wB:=a2k hB cb ((jB k).2+1);rw[E8];refine⟨NU wA.st,λR hR=>?_⟩;refine MM wA ?_ (qN C9 _);exact EU ⟨ho,.inr (qN C9 _),EU (wB.ws R hR) wB.st⟩ ⟨_,_,rfl,ho⟩
theorem b9J{A B C:List It}(hA:WsT A)(hB:WsT B)(hC:WsT C):WsT (a6R A B C):=by
 have e:a6R A B C=nm [105,102]::none::(A++(none::nm [116,104,101,110]::none::(B++(none::nm [101,108,115,101]::none::C)))):=by unfold a6R;simp
 rw[e];have t1:TokOk (1,[116,104,101,110],0):=lV C9;have t2:TokOk (1,[101,108,115,101],0):=lV C9;refine⟨⟨_,_,rfl,lV (w:=[105,102]) C9⟩,λR hR=>?_⟩;exact zo C9 (EU (MM hA (EU (zo C9 (EU (MM hB (EU (zo C9 (EU (hC.ws R hR) hC.st) (qN C9 _)) ⟨_,_,rfl,t2⟩) (qN C9 _)) (NU hB.st)) (qN C9 _)) ⟨_,_,rfl,t1⟩) (qN C9 _)) (NU hA.st)) (qN C9 _)
theorem OE{N:D9}(hN:NmI N):∀(t:XT),t.wf->(∀n∈t.post,fP n.2)->(∀n∈t.post,flS n N=0)->WsT (itT N t)
 | .l0 n,hw,hI,hz=>b2R hN hw (hI n (by simp[XT.post])) (hz n (by simp[XT.post]))| .l1 n a,hw,hI,hz=>b6F hN hw.1 (hI n (by simp[XT.post])) (hz n (by simp[XT.post])) _ (OE hN a hw.2 (λm hm=>hI m (by simp[XT.post,hm])) (λm hm=>hz m (by simp[XT.post,hm]))) _| .l2 n a b,hw,hI,hz=>b9g hw.1 (hz n (by simp[XT.post])) (OE hN a hw.2.1 (λm hm=>hI m (by simp[XT.post,hm])) (λm hm=>hz m (by simp[XT.post,hm]))) (OE hN b hw.2.2 (λm hm=>hI m (by simp[XT.post,hm])) (λm hm=>hz m (by simp[XT.post,hm]))) _ _| .l3 n a b c,hw,hI,hz=>b9J (OE hN a hw.2.1 (λm hm=>hI m (by simp[XT.post,hm])) (λm hm=>hz m (by simp[XT.post,hm]))) (OE hN b hw.2.2.1 (λm hm=>hI m (by simp[XT.post,hm])) (λm hm=>hz m (by simp[XT.post,hm]))) (OE hN c hw.2.2.2 (λm hm=>hI m (by simp[XT.post,hm])) (λm hm=>hz m (by simp[XT.post,hm])))
def SH(x:bD):V5:=(x.1,x.2.1,x.2.2.1)
abbrev pS(T:List bD)(E:Int)(N:D9)(i:Nat)(nd:List (Int×Int)):D6:=(T,(i:Int),E,N,nd,0,0)
def pk(T:List bD)(i:Nat):bD:=(T[i]?).getD (0,[],0,0)
def At3(T:List bD)(i:Nat)(L:List V5):Prop:=(T.map SH).drop i=L/\T.length<=1000000/\i<=T.length
def hd3(L:List V5):V5:=L.headD (0,[],0)
variable {T:List bD}
theorem Aq{L:List V5}(h:At3 T i L):SH (pk T i)=hd3 L:=by
 obtain⟨h1,h2,h3⟩:=h;unfold pk hd3;by_cases hi:i<T.length
 .rw[←h1,jo (by simpa using hi),qC hi];simp
 .rw[←h1,dG H7,List.getElem?_eq_none l9];rfl
theorem eU{k:V5}{L:List V5}(h:At3 T i (k::L)):At3 T (i+1) L:=by
 obtain⟨h1,h2,h3⟩:=h;have hi:i<T.length:=by
  rcases jP i T.length with h|h
  .exact h
  .rw[dG H7]at h1;cases h1
 refine⟨?_,h2,l9⟩;rw[←lX,h1];rfl
theorem vZ{A L:List V5}(h:At3 T i (A++L)):At3 T (i+A.length) L:=by
 induction A generalizing i with
 |nil=>exact h|cons k A ih=>have:=ih (eU h);rw[show i+(k::A).length=i+1+A.length by simp;omega];exact this
theorem MP{k:V5}{L:List V5}(h:At3 T i (k::L)):i<T.length:=by have:=(eU h).2.2;omega
variable {nd:List (Int×Int)}
section
variable {T:List bD} {E:Int} {N:D9}
theorem Le(i a:Nat)(nd:List (Int×Int))(hT:T.length<=1000000)(hi:i<=T.length)(ha:a<=10):U1 (pS T E N i nd) (a:Int)=some (pk T (i+a),pS T E N i nd):=by
 unfold U1 pk;have e:I8 .i64 (i:Int) (a:Int)=((i+a:Nat):Int):=by rw[cZ lm];omega
 simp only[e];by_cases h:i+a<T.length
 .rw[dE (by unfold x9;omega),o7,O5,qC h];rfl
 .rw[Y0 (by unfold x9;omega),o6,List.getElem?_eq_none l9];rfl
theorem II{L:List V5}(h:At3 T i L):U1 (pS T E N i nd) 0=some (pk T i,pS T E N i nd):=Le i 0 nd h.2.1 h.2.2 l9
theorem Ja{L:List V5}(h:At3 T i L)(k:Int)(w:c5v):jb (pS T E N i nd) k w=some (l7 (D8 (hd3 L).1 k) (seq (hd3 L).2.1 w) false,pS T E N i nd):=by
 have hs:=Aq h;unfold jb
 rw[II h,o9,←hs];unfold SH;cases D8 (pk T i).1 k<;>rfl
theorem oh(hn:nd.length<=1000000)(op n:Int):G7 (pS T E N i nd) op n=some (true,pS T E N i (nd++[(op,n)])):=by unfold G7;simp only;rw[Ak _ hn];rfl
theorem Qq{k:V5}{L:List V5}(h:At3 T i (k::L)):dF (pS T E N i nd) k.1 k.2.1=some (true,pS T E N (i+1) nd):=by
 unfold dF;rw[Ja h,o9];have hi:=MP h;have hT:=h.2.1;rw[show(l7 (D8 (hd3 (k::L)).1 k.1) (seq (hd3 (k::L)).2.1 k.2.1) false)=true by rw[show hd3 (k::L)=k from rfl,O0 rfl,o7];exact gm.2 rfl]
 simp only[F5,o6];rw[bY l9]
theorem xJ{n:Int}{L:List V5}(h:At3 T i ((7,[c],n)::L)):O9 (pS T E N i nd) [c]=some (true,pS T E N (i+1) nd):=by unfold O9;rw[show dF (pS T E N i nd) 7 [c]=_ from Qq (k:=(7,[c],n)) h];rfl
end
def Vt(k:Int):Int:=l7 (D8 k 2) 2 (l7 (D8 k 3) 3 (l7 (D8 k 4) 4 0))
theorem KX(t:bD):kK t=some (Vt t.1):=by unfold kK Vt;cases D8 t.1 2<;>cases D8 t.1 3<;>cases D8 t.1 4<;>rfl
def a6v(k:Int):Prop:=k=11\/k=12\/k=13\/k=19\/k=20\/k=21\/k=22\/k=23\/k=24
def b1F(t:V5):Prop:=t=(0,[],0)\/t=(7,[41],0)\/t=(7,[44],0)\/t=(1,[116,104,101,110],0)\/t=(1,[101,108,115,101],0)
theorem b3e{t:bD}(h:b1F (SH t)):lW t=some (0,0):=by
 obtain⟨a,b,c,d⟩:=t;unfold SH at h;have key:∀(a:Int) (b:c5v),(a,b)∈([(0,[]),(7,[41]),(7,[44]),(1,[116,104,101,110]),(1,[101,108,115,101])]:List (Int×c5v))->lW (a,b,c,d)=some (0,0):=by intro a b h;simp only[D7,mZ,List.mem_nil_iff,or_false]at h;rcases h with⟨rfl,rfl⟩|⟨rfl,rfl⟩|⟨rfl,rfl⟩|⟨rfl,rfl⟩|⟨rfl,rfl⟩<;>rfl
 apply key;rcases h with h|h|h|h|h<;>cases h<;>decide
theorem a9y{t:bD}(hk:a6v k)(h:SH t=opK k):lW t=some (k,(jB k).2):=by obtain⟨a,b,c,d⟩:=t;unfold SH at h;rcases hk with rfl|rfl|rfl|rfl|rfl|rfl|rfl|rfl|rfl<;>cases h<;>rfl
def FK(R:List V5)(c:Int):Prop:=b1F (hd3 R)\/∃k,a6v k/\hd3 R=opK k/\(jB k).2<c
def FI(R:List V5):Prop:=b1F (hd3 R)\/∃k,a6v k/\hd3 R=opK k
theorem a5H{R:List V5}{c:Int}(h:FK R c):FI R:=by
 rcases h with h|⟨k,h1,h2,-⟩
 .exact .inl h
 .exact .inr ⟨k,h1,h2⟩
theorem a1D{R:List V5}(h:FI R):¬((hd3 R).1=7/\(hd3 R).2.1=[58])/\¬((hd3 R).1=7/\(hd3 R).2.1=[40]):=by
 rcases h with h|⟨k,h1,h2⟩
 .rcases h with h|h|h|h|h<;>rw[h]<;>decide
 .rw[h2];rcases h1 with rfl|rfl|rfl|rfl|rfl|rfl|rfl|rfl|rfl<;>decide
end Go.GP
namespace Go.GP
open Gt
set_option maxRecDepth 100000
variable {w:c5v}
theorem Zx(h:gq w=true):w.length<=16/\w≠[]/\(LH.any λs=>seq w s)=false:=by
 cases w with
 |nil=>cases h|cons c r=>rw[AL]at h;simp only[D5,decide_eq_true_eq,fC]at h;exact⟨h.1.1.1,x8,h.2⟩
theorem a5g{w s:c5v}(h:gq w=true)(hs:(LH.any λx=>seq s x)=true):w≠s:=by rintro rfl;have:=(Zx h).2.2;rw[hs]at this;cases this
theorem a3c{w s:c5v}(h:gq w=true)(hs:(LH.any λx=>seq s x)=true):seq w s=false:=pM.2 (a5g h hs)
theorem TJ(h:gq w=true):bG w=some true:=by rw[qV (by have:=(Zx h).1;omega),h]
theorem a4y:∀x:Fin 40,seq (dC (x.val:Int)) []=true\/(LH.any λs=>seq (dC (x.val:Int)) s)=true:=by decide+kernel
def cwF(w:c5v)(x:Int):Option (Out Int PUnit Int):=
   l7 (U7 x 39)
    (l7 (I5 (seq w []))
     (o5 (gU x) λ(x_1:c5v)=>
      l7 (seq x_1 w) (some (Out.rt x)) (some (Out.nx (I8 IntKind.i64 x 1))))
     (some (Out.nx (I8 IntKind.i64 x 1))))
    (some (Out.ex PUnit.unit))
theorem a6y(h:gq w=true):lY w=some 0:=by
 have key:∀(d x k:Nat),x+d=40->10<=x->d<k->fQ (cwF w) k (x:Int)=(some (.inl PUnit.unit):Option (PUnit⊕Int)):=by
  intro d;induction d with
  |zero=>
   intro x k hx h10 hk;obtain⟨k,rfl⟩:∃m,k=m+1:=⟨k -1,l9⟩;have st:cwF w (x:Int)=some (.ex PUnit.unit):=by unfold cwF;rw[dA l9];rfl
   rw[bU,st]
  |succ d ih=>
   intro x k hx h10 hk;obtain⟨k,rfl⟩:∃m,k=m+1:=⟨k -1,l9⟩;have hne:seq w []=false:=pM.2 (Zx h).2.1;have hs:seq (dC (x:Int)) w=false:=by
    rw[pM];intro e;rcases a4y ⟨x,l9⟩with g|g
    .rw[gm]at g;simp only at g;exact(Zx h).2.1 (e.symm.trans g)
    .exact a5g h g e.symm
   have st:cwF w (x:Int)=some (.nx ((x+1:Nat):Int)):=by unfold cwF;rw[Y7 l9,o7,hne,af,o7,uq,o9,hs,o6,bY l9]
   rw[bU,st];exact ih (x+1) k l9 l9 l9
 unfold lY;refine V6 (show X5 (cwF w) 10=_ from key 30 10 au l9 l9 (by unfold au;omega)) ?_;rfl
theorem a6x{k:Int}(h:k=14\/k=15\/k=16\/k=17\/k=18\/k=27\/k=28\/k=29\/k=30\/k=31\/k=32\/k=33\/k=34\/k=35\/k=36\/k=37\/k=38\/k=39):lY (dC k)=some k:=by rcases h with rfl|rfl|rfl|rfl|rfl|rfl|rfl|rfl|rfl|rfl|rfl|rfl|rfl|rfl|rfl|rfl|rfl|rfl<;>rfl
theorem a7a:∀m:Fin 6,yh (jT (m.val:Int))=some (m.val:Int):=by decide+kernel
theorem a7b{m:Int}(h:0<=m/\m<=5):yh (jT m)=some m:=by obtain⟨j,rfl⟩:∃j:Fin 6,m=(j.val:Int):=⟨⟨m.toNat,l9⟩,by simp;omega⟩;exact a7a j
def X_(l:List c5v)(j:Nat)(w:c5v):Prop:=l[j]? =some w/\∀x∈l.take j,x≠w
theorem a0N{α:Type}(l:List α)(p:α->Bool)(hl:l.length<=1000000){f:Int->Option (Out Int PUnit Int)}
  (h1:∀(i:Nat) (a:α),l[i]? =some a->f (i:Int)=some (l7 (p a) (.rt (i:Int)) (.nx ((i+1:Nat):Int)))) (h2:f (l.length:Int)=some (.ex PUnit.unit)):
  (∀j a,l[j]? =some a->p a=true->(∀x∈l.take j,p x=false)->X5 f 0=some (.inr (j:Int)))/\((∀x∈l,p x=false)->X5 f 0=some (.inl PUnit.unit)):=by
 have step:∀(j i k:Nat),i<=j->j<=l.length->(∀x∈l.take j,p x=false)->fQ f (k+(j -i)) (i:Int)=fQ f k (j:Int):=by
  intro j i k hij hj hp;induction h:j -i generalizing i k with
  |zero=>rw[show i=j by omega];rfl|succ n ih=>
   have hi:i<l.length:=l9;have hg:=qC hi;have:=h1 i _ hg;rw[hp l[i] (by rw[List.mem_take_iff_getElem];exact⟨i,l9,rfl⟩),o6]at this
   rw[show k+(n+1)=(k+n)+1 by omega,bU,this];exact ih (i+1) k l9 l9
 constructor
 .intro j a ha hpa hp;have hj:=(aJ.1 ha).1;have:=step j 0 (au -j) l9 l9 hp;rw[show au -j+(j -0)=au by unfold au;omega]at this;unfold X5;rw[show(0:Int)=((0:Nat):Int)from rfl,this,show au -j=(au -j -1)+1 by unfold au;omega,bU,h1 j a ha,hpa];rfl
 .intro hp;have:=step l.length 0 (au -l.length) l9 l9 (λx hx=>hp x (jE hx));rw[show au -l.length+(l.length -0)=au by unfold au;omega]at this;unfold X5;rw[show(0:Int)=((0:Nat):Int)from rfl,this,show au -l.length=(au -l.length -1)+1 by unfold au;omega,bU,h2]
theorem Zy{l:List c5v}(hl:l.length<=1000000)(w:c5v):(∀j,X_ l j w->dR l w=some (j:Int))/\((∀x∈l,x≠w)->dR l w=some (-1)):=by
 unfold dR;obtain⟨k1,k2⟩:=a0N l (λx=>seq w x) hl (f:=λ(x:Int)=>l7 (J4 x (x9 l)) (o5 (P8 l x) λ(x_1:c5v)=>l7 (seq w x_1) (some (Out.rt x)) (some (Out.nx (I8 IntKind.i64 x 1)))) (some (Out.ex PUnit.unit)))
  (λi a ha=>by have:=(aJ.1 ha).1;simp only[U0 ha,o7,O5,ha,o9];rw[bY l9];cases seq w a<;>rfl) (by rw[Y1];rfl)
 constructor
 .intro j hj;refine V6 (k1 j w hj.1 (gm.2 rfl) (λx hx=>pM.2 (λe=>hj.2 x hx e.symm))) ?_;rfl
 .intro h;refine V6 (k2 (λx hx=>pM.2 (λe=>h x hx e.symm))) ?_;rfl
variable {j:Nat}
theorem a8Q{l:List U2}(hl:l.length<=1000000)(t:bD){e:U2}(he:l[j]? =some e)(hw:e.1=t.2.1)(hf:∀x∈l.take j,x.1≠t.2.1):fO l t=some (j:Int):=by
 unfold fO uG;obtain⟨k1,-⟩:=a0N l (λx=>seq x.1 t.2.1) hl (f:=λ(x:Int)=>l7 (J4 x (x9 l)) (o5 (P8 l x) λ(x_1:U2)=>o5 (some (seq x_1.1 t.2.1)) λ(x_2:Bool)=>l7 x_2 (some (Out.rt x)) (some (Out.nx (I8 IntKind.i64 x 1)))) (some (Out.ex PUnit.unit)))
  (λi a ha=>by have:=(aJ.1 ha).1;simp only[U0 ha,o7,O5,ha,o9];rw[bY l9];cases seq a.1 t.2.1<;>rfl) (by rw[Y1];rfl)
 refine V6 (k1 j e he (gm.2 hw) (λx hx=>pM.2 (hf x hx))) ?_;rfl
variable {i:Nat}{R:List V5}{nd:List (Int×Int)}{n:Int}
section
variable {T:List bD} {E:Int} {N:D9}
theorem Oz(h:At3 T i ((1,w,n)::R))(hw:gq w=true){l:List c5v}(hl:l.length<=1000000)(hj:X_ l j w):eX (pS T E N i nd) l=some ((j:Int),true,pS T E N (i+1) nd):=by have hs:=Aq h;have hi:=MP h;have hT:=h.2.1;unfold eX;rw[II h,o9];have e1:(pk T i).1=1:=congrArg (λx:V5=>x.1) hs;have e2:(pk T i).2.1=w:=congrArg (λx:V5=>x.2.1) hs;simp only[e1,e2,O0 (rfl:(1:Int)=1),F5,o6,TJ hw,o9];rw[(Zy hl w).1 j hj,o9,Y0 l9,o6,bY l9]
theorem a5u{m n:Int}(h:At3 T i ((1,jT m,n)::R))(hm:0<=m/\m<=5):dI (pS T E N i nd)=some (m,true,pS T E N (i+1) nd):=by have hs:=Aq h;have hi:=MP h;have hT:=h.2.1;unfold dI;rw[II h,o9];have e1:(pk T i).1=1:=congrArg (λx:V5=>x.1) hs;have e2:(pk T i).2.1=jT m:=congrArg (λx:V5=>x.2.1) hs;simp only[e1,e2,O0 (rfl:(1:Int)=1),F5,o6,a7b hm,o9];rw[Y0 l9,o6,bY l9]
theorem Pi{k:V5}(h:At3 T i (k::R)):SH (pk T (i+1))=hd3 R:=Aq (eU h)
theorem b2U(hnd:nd.length<=1000000)(h:At3 T i ((1,w,n)::R))(hR:FI R)(hw:gq w=true)(hl:N.2.2.1.length<=1000000)(hj:X_ N.2.2.1 j w):dJ (pS T E N i nd)=some (true,pS T E N (i+1) (nd++[(7,(j:Int))])):=by
 have hs:=Aq h;have hn:=Pi h;have hi:=MP h;have hT:=h.2.1;unfold dJ;rw[II h,o9];simp only;rw[show U1 (pS T E N i nd) 1=_ from Le i 1 nd hT h.2.2 l9,o9];have e1:(pk T i).1=1:=congrArg (λx:V5=>x.1) hs;have e2:(pk T i).2.1=w:=congrArg (λx:V5=>x.2.1) hs;have e3:(l7 (D8 (pk T (i+1)).1 7) (some (seq (pk T (i+1)).2.1 [58])) (some false))=some false:=by
  have q1:(pk T (i+1)).1=(hd3 R).1:=congrArg (λx:V5=>x.1) hn;have q2:(pk T (i+1)).2.1=(hd3 R).2.1:=congrArg (λx:V5=>x.2.1) hn;rw[q1,q2];by_cases g:(hd3 R).1=7
  .rw[O0 g,o7];congr 1;exact pM.2 (λe=>(a1D hR).1 ⟨g,e⟩)
  .rw[J8 g];rfl
 simp only[e2,TJ hw,o9,F5,o6,e3];rw[(Zy hl w).1 j hj,o9,Y7 l9,o7,bY l9];rw[show G7 (T,((i+1:Nat):Int),E,N,nd,0,0) 7 (j:Int)=_ from oh (i:=i+1) hnd 7 (j:Int),o9]
theorem a9o(hnd:nd.length<=1000000)(h:At3 T i ((1,w,n)::R))(hR:FI R)(hw:gq w=true)(hl:N.2.2.1.length<=1000000)(hl2:N.2.2.2.1.length<=1000000)(hno:∀x∈N.2.2.1,x≠w)(hj:X_ N.2.2.2.1 j w):dJ (pS T E N i nd)=some (true,pS T E N (i+1) (nd++[(8,(j:Int))])):=by
 have hs:=Aq h;have hn:=Pi h;have hi:=MP h;have hT:=h.2.1;unfold dJ;rw[II h,o9];simp only;rw[show U1 (pS T E N i nd) 1=_ from Le i 1 nd hT h.2.2 l9,o9];have e2:(pk T i).2.1=w:=congrArg (λx:V5=>x.2.1) hs;have e3:(l7 (D8 (pk T (i+1)).1 7) (some (seq (pk T (i+1)).2.1 [58])) (some false))=some false:=by
  have q1:(pk T (i+1)).1=(hd3 R).1:=congrArg (λx:V5=>x.1) hn;have q2:(pk T (i+1)).2.1=(hd3 R).2.1:=congrArg (λx:V5=>x.2.1) hn;rw[q1,q2];by_cases g:(hd3 R).1=7
  .rw[O0 g,o7];congr 1;exact pM.2 (λe=>(a1D hR).1 ⟨g,e⟩)
  .rw[J8 g];rfl
 simp only[e2,TJ hw,o9,F5,o6,e3];rw[(Zy hl w).2 hno,o9,dA l9,o6,show eX (T,(i:Int),E,N,nd,0,0) N.2.2.2.1=_ from Oz h hw hl2 hj,o9];simp only[o7];rw[oh hnd,o9]
theorem a7c(hnd:nd.length<=1000000){w v:c5v}{n n2 n3:Int}(h:At3 T i ((1,w,n)::(7,[58],n2)::(1,v,n3)::R))(hw:gq w=true)(hv:gq v=true)(hl:N.1.length<=1000000)
  {j k:Nat} {e:U2} (he:N.1[j]? =some e) (hj:e.1=w) (hf:∀x∈N.1.take j,x.1≠w) (hl2:e.2.length<=1000000) (hk:X_ e.2 k v):dJ (pS T E N i nd)=some (true,pS T E N (i+3) (nd++[(6,16*(j:Int)+(k:Int))])):=by
 have hs:=Aq h;have hn:=Pi h;have hi:=MP h;have hT:=h.2.1;have hjl:=(aJ.1 he).1;have hkl:=(aJ.1 hk.1).1;unfold dJ;rw[II h,o9];simp only;rw[show U1 (pS T E N i nd) 1=_ from Le i 1 nd hT h.2.2 l9,o9];have e2:(pk T i).2.1=w:=congrArg (λx:V5=>x.2.1) hs;have q1:(pk T (i+1)).1=7:=congrArg (λx:V5=>x.1) hn;have q2:(pk T (i+1)).2.1=[58]:=congrArg (λx:V5=>x.2.1) hn;simp only[e2,TJ hw,o9,F5,o6,q1,q2,O0 (rfl:(7:Int)=7),o7,show seq ([58]:c5v) [58]=true from rfl];rw[a8Q hl (pk T i) he (hj.trans e2.symm) (λx hx=>by rw[e2];exact hf x hx),o9,Y0 l9,o6,O5,he,o9];have hp2:I8 .i64 (i:Int) 2=((i+2:Nat):Int):=by rw[cZ lm];omega
 rw[hp2,show eX (T,((i+2:Nat):Int),E,N,nd,0,0) e.2=_ from Oz (i:=i+2) (eU (eU h)) hv hl2 hk,o9];simp only[o7];rw[Jv lm,cZ lm,oh hnd,o9]
end
end Go.GP
