import Derived.Test.YtgmlbmcajglngaaGreatDoorV3
import Derived.Test.YtgmlbmcajglngaaGreatDoorV1
set_option linter.all false
namespace Go.GP
variable {a:Int}{b:Int}{n:Int}
section
variable {α β σ ε ρ:Type}
@[simp] theorem o8 (x:α) (f:α->Option β):o5 (some x) f=f x:=rfl
@[simp] theorem c4I (f:α->Option β):o5 none f=none:=rfl
theorem wJ{o:Option α}{x:α}(h:o=some x)(f:α->Option β):o5 o f=f x:=by rw[h];rfl
theorem cZ{o o' :Option α}(h:o=o'){K:α->Option β}{r:Option β}(h2:o5 o' K=r):o5 o K=r:=by rw[h];exact h2
theorem dL(o:Option α):o5 o (λx=>some x)=o:=by cases o<;>rfl
@[simp] theorem o7 (x y:α):l9 true x y=x:=rfl
@[simp] theorem o6 (x y:α):l9 false x y=y:=rfl
theorem Gy{b:Bool}(h:b=true)(x y:α):l9 b x y=x:=by rw[h];rfl
theorem Iw{b:Bool}(h:b=false)(x y:α):l9 b x y=y:=by rw[h];rfl
@[simp] theorem V4 (s:σ) (f:σ->α) (g:ε->α):bn (.inl s) f g=f s:=rfl
@[simp] theorem Hw (s:ε) (f:σ->α) (g:ε->α):bn (.inr s) f g=g s:=rfl
@[simp] theorem E8:G6 true=false:=rfl
@[simp] theorem bY:G6 false=true:=rfl
theorem U0{a b:Int}(h:a<b):F7 a b=true:=by simp[F7,h]
theorem L6{a b:Int}(h:b<=a):F7 a b=false:=by simp[F7];omega
theorem ae{a b:Int}(h:a<=b):S9 a b=true:=by simp[S9,h]
theorem aC{a b:Int}(h:b<a):S9 a b=false:=by simp[S9];omega
theorem L8{a b:Int}(h:a=b):x8 a b=true:=by simp[x8,h]
theorem I4{a b:Int}(h:a≠b):x8 a b=false:=by simp[x8,h]
theorem jV :F7 a b=true↔a<b:=by simp[F7]
theorem pF :S9 a b=true↔a<=b:=by simp[S9]
theorem U4 :x8 a b=true↔a=b:=by simp[x8]
theorem jW :F7 a b=false↔b<=a:=by simp[F7]
theorem LH :S9 a b=false↔b<a:=by simp[S9]
theorem zN :x8 a b=false↔a≠b:=by simp[x8]
theorem jw(h:0<=a):a.tdiv b=a / b:=Int.tdiv_eq_ediv_of_nonneg h
theorem zq(h:0<=a):fC a b=a % b:=ig h
def iq(n:Int):Prop:=-9223372036854775808<=n/\n<=9223372036854775807
theorem O6{p:Int}(h:iq p:=by unfold iq;omega):iq p:=h
def U64(n:Int):Prop:=0<=n/\n<=18446744073709551615
theorem lY(h:iq n):IntKind.wrap .i64 n=n:=by unfold iq at h;unfold IntKind.wrap;simp[IntKind.signed,IntKind.bits];omega
theorem a1n(h:U64 n):IntKind.wrap .u64 n=n:=by unfold U64 at h;unfold IntKind.wrap;simp[IntKind.signed,IntKind.bits];omega
theorem U5(h:iq (a+b)):A8 .i64 a b=a+b:=lY h
theorem U7(h:iq (a -b)):I8 .i64 a b=a -b:=lY h
theorem oH(h:iq (a*b)):aP .i64 a b=a*b:=lY h
theorem zo(h:iq (a.tdiv b)):eH .i64 a b=a.tdiv b:=lY h
theorem a1l(h:(Lit.int .i64 n).wf=true):iq n:=by simp[Lit.wf,IntKind.min,IntKind.max,IntKind.signed,IntKind.bits]at h;unfold iq;omega
theorem a6E(l:List α):0<=o9 l:=by simp[o9]
theorem G8(l:List α)(i:Nat):H9 l (i:Int)=l[i]?:=by simp[H9]
theorem bQ{l:List α}{i:Int}{x:α}(h:H9 l i=some x):0<=i/\i<o9 l/\x∈l/\l[i.toNat]? =some x:=by
 unfold H9 at h;split at h
 .rename_i h0;obtain⟨h1,h2⟩:=U8.1 h;refine⟨h0,by simp[o9];omega,?_,h⟩;rw[←h2];exact P8 h1
 .cases h
theorem qA{l:List α}{i:Int}(h0:0<=i)(h:i<o9 l):∃x,H9 l i=some x/\x∈l:=by
 unfold o9 at h;refine⟨l[i.toNat]'l7,?_,P8 _⟩;unfold H9
 rw[if_pos h0,dE]
theorem b2w(l:d4C)(i:Nat):sat l (i:Int)=(l[i]?).map λc=>(c.toNat:Int):=by simp[sat]
theorem vG{a b:List α}(h:a.length+b.length<=1073741824):fE a b=some (a++b):=by simp[fE,h]
theorem a4j{l:List α}{lo hi:Int}(h0:0<=lo)(h1:lo<=hi)(h2:hi<=l.length):LK l lo hi=some ((l.take hi.toNat).drop lo.toNat):=by simp[LK,h0,h1,h2]
theorem b1K{l:List α}{hi:Int}(h1:0<=hi)(h2:hi<=l.length):LK l 0 hi=some (l.take hi.toNat):=by rw[a4j l7 h1 h2];simp
theorem b3D{l:List α}{lo:Int}(h1:0<=lo)(h2:lo<=l.length):LK l lo (o9 l)=some (l.drop lo.toNat):=by rw[a4j h1 (by simp[o9];omega) (by simp[o9])];simp[o9]
end
section
variable {σ ε ρ:Type}
theorem XN{f:σ->Option (σ⊕ε)}(Inv:σ->Prop)(Q:ε->Prop)(meas:σ->Nat)
  (h:∀s,Inv s->(∃s',f s=some (.inl s')/\Inv s' /\meas s' <meas s)\/(∃e,f s=some (.inr e)/\Q e)):
  ∀n s,Inv s->meas s<n->∃e,qC f n s=some e/\Q e
 |0,_,_,h=>by omega|n+1,s,hi,hm=>by
  unfold qC;rcases h s hi with⟨s',e,hi',hm'⟩|⟨x,e,hx⟩
  .rw[e];exact XN Inv Q meas h n s' hi' l7
  .rw[e];exact⟨x,rfl,hx⟩
theorem cu{f:σ->Option (σ⊕ε)}{s:σ}(Inv:σ->Prop)(Q:ε->Prop)(meas:σ->Nat)(hi:Inv s)(hm:meas s<18446744073709551616)
  (h:∀s,Inv s->(∃s',f s=some (.inl s')/\Inv s' /\meas s' <meas s)\/(∃e,f s=some (.inr e)/\Q e)):∃e,X8 f s=some e/\Q e:=
 XN Inv Q meas h _ s hi hm
theorem N_{f:σ->Option (Out σ ε ρ)}(Inv:σ->Prop)(Q:ε->Prop)(Qr:ρ->Prop)(meas:σ->Nat)
  (h:∀s,Inv s->(∃s',f s=some (.nx s')/\Inv s' /\meas s' <meas s)\/(∃e,f s=some (.ex e)/\Q e)\/(∃r,f s=some (.rt r)/\Qr r)):
  ∀n s,Inv s->meas s<n->(∃e,qi f n s=some (.inl e)/\Q e)\/(∃r,qi f n s=some (.inr r)/\Qr r)
 |0,_,_,h=>by omega|n+1,s,hi,hm=>by
  unfold qi;rcases h s hi with⟨s',e,hi',hm'⟩|⟨x,e,hx⟩|⟨x,e,hx⟩
  .rw[e];exact N_ Inv Q Qr meas h n s' hi' l7
  .rw[e];exact .inl ⟨x,rfl,hx⟩
  .rw[e];exact .inr ⟨x,rfl,hx⟩
theorem AO{f:σ->Option (Out σ ε ρ)}{s:σ}(Inv:σ->Prop)(Q:ε->Prop)(Qr:ρ->Prop)(meas:σ->Nat)(hi:Inv s)(hm:meas s<18446744073709551616)
  (h:∀s,Inv s->(∃s',f s=some (.nx s')/\Inv s' /\meas s' <meas s)\/(∃e,f s=some (.ex e)/\Q e)\/(∃r,f s=some (.rt r)/\Qr r)):
  (∃e,bD f s=some (.inl e)/\Q e)\/(∃r,bD f s=some (.inr r)/\Qr r):=
 N_ Inv Q Qr meas h _ s hi hm
end
section
variable {α β ε ρ:Type}
open Classical in
theorem WP(l:List α)(p:Nat->α->Bool)(r:ρ)(e:ε)(f:Int->Option (Out Int ε ρ))(hl:l.length<18446744073709551616)
  (hin:∀(i:Nat) (a:α),l[i]? =some a->f (i:Int)=if p i a=true then some (.nx ((i+1:Nat):Int))else some (.rt r))
  (hend:f (l.length:Int)=some (.ex e)):
  bD f 0=if(∀i a,l[i]? =some a->p i a=true)then some (.inl e)else some (.inr r):=by
 have key:∀(n i:Nat),i<=l.length->l.length -i<n->(∀j a,j<i->l[j]? =some a->p j a=true)->qi f n (i:Int)=if(∀i a,l[i]? =some a->p i a=true)then some (.inl e)else some (.inr r):=by
  intro n;induction n with
  |zero=>intro i _ h;omega|succ n ih=>
   intro i hi hn hp;unfold qi;by_cases h:i<l.length
   .have e' :=dE h;rw[hin i _ e'];by_cases hpi:p i l[i]=true
    .rw[if_pos hpi];exact ih (i+1) l7 l7 λj a hj ha=>by
      by_cases hji:j=i
      .subst hji;rw[e']at ha;cases ha;exact hpi
      .exact hp j a l7 ha
    .rw[if_neg hpi,if_neg];intro hall;exact hpi (hall i _ e')
   .have:i=l.length:=l7;subst this;rw[hend,if_pos];intro j a ha;exact hp j a (U8.1 ha).1 ha
 exact key _ 0 (lU _) hl λj a hj=>by omega
end
end Go.GP
namespace Go.GP
section
variable {α β α' β' σ τ ε ε' ρ ρ' :Type}
theorem Qe{p:Nat->Option ρ}(n:Nat)(hn:n<18446744073709551616)(e:ε){f:Int->Option (Out Int ε ρ)}
  (h1:∀i,i<n->f (i:Int)=some (match p i with|some r=> .rt r|none=> .nx ((i+1:Nat):Int))) (h2:f (n:Int)=some (.ex e)):
  bD f 0=some (match(List.range n).findSome? p with|some r=> .inr r|none=> .inl e):=by
 have key:∀m i,i+m=n->∀k,m<k->qi f k (i:Int)=some (match(List.range' i m).findSome? p with|some r=> .inr r|none=> .inl e):=by
  intro m;induction m with
  |zero=>intro i hi k hk;obtain⟨k,rfl⟩:∃k',k=k' +1:=⟨k -1,l7⟩;have:i=n:=l7;subst this;unfold qi;rw[h2];rfl
  |succ m ih=>
   intro i hi k hk;obtain⟨k,rfl⟩:∃k',k=k' +1:=⟨k -1,l7⟩;unfold qi;rw[h1 i l7,iR,List.findSome?_cons];cases hp:p i with
   |some r=>rfl|none=>exact ih (i+1) l7 k l7
 have:=key n 0 l7 kK hn;rw[lX];exact this
end
end Go.GP
namespace Go.GP
open Gt
set_option maxRecDepth 100000
section
variable {i:Nat}
theorem ja(h:i<=9000000000000000000):A8 .i64 (i:Int) 1=((i+1:Nat):Int):=by
 grind [U5,iq]
def a4i(c:UInt8):Bool:=decide (97<=c.toNat)&&decide (c.toNat<=122)
def Pg(c:UInt8):Bool:=a4i c || (decide (48<=c.toNat)&&decide (c.toNat<=57)) || decide (c.toNat=95)
def a1H:List d4C:=JS.getD []
def Ko(s:d4C):Bool:=match s with|[]=>false|c::r=>decide (s.length<=16)&&a4i c&&s.all Pg&&!(a1H.any λw=>seq s w)
theorem b3y(c:UInt8)(r:d4C):Ko (c::r)=(decide ((c::r).length<=16)&&a4i c&&(c::r).all Pg&&!(a1H.any λw=>seq (c::r) w)):=rfl
theorem a6I(c:UInt8):zH (c.toNat:Int)=some (a4i c):=by
 unfold zH a4i;cases h:decide (97<=c.toNat)<;>simp at h
 .rw[aC l7];rfl
 grind [o7,S9]
def b5C(c:UInt8):Bool:=decide (48<=c.toNat)&&decide (c.toNat<=57)
theorem b5D(c:UInt8):CG (c.toNat:Int)=some (b5C c):=by
 unfold CG b5C;cases h:decide (48<=c.toNat)<;>simp at h
 .rw[aC l7];rfl
 grind [o7,S9]
theorem c8i(c:UInt8):x8 (c.toNat:Int) 95=decide (c.toNat=95):=by
 grind [x8]
variable {s:d4C}
theorem a1A(h:s.length<=4611686018427387904):∃k,BH s=some k/\(k=o9 s↔s.all Pg=true):=by
 unfold BH;have:=cu (f:=λ(x:Int)=>l9 (F7 x (o9 s)) (o5 (sat s x) λx_1=>o5 (zH x_1) λx_2=>l9 x_2 (some (Sum.inl (A8 IntKind.i64 x 1)))
   (o5 (sat s x) λx_3=>o5 (CG x_3) λx_4=>l9 x_4 (some (Sum.inl (A8 IntKind.i64 x 1))) (o5 (sat s x) λx_5=>l9 (x8 x_5 95) (some (Sum.inl (A8 IntKind.i64 x 1))) (some (Sum.inr x))))) (some (Sum.inr x)))
  (λx=>∃i:Nat,x=i/\i<=s.length/\(s.take i).all Pg=true) (λk=>k=o9 s↔s.all Pg=true) (λx=>s.length -x.toNat) ⟨0,rfl,l7,rfl⟩ l7 ?_
 .simp_all [dL]
 .rintro x ⟨i,rfl,hi,hall⟩;by_cases hl:i<s.length
  .have e:=dE hl;simp only[U0 (show(i:Int)<o9 s by simp_all [o9]),o7,b2w,e,iC,o8,a6I,b5D,c8i];have hst:(s.take (i+1)).all Pg=((s.take i).all Pg&&Pg s[i]):=by grind [List.take_succ_eq_append_getElem]
   have hw:Pg s[i]=(a4i s[i] || b5C s[i] || decide (s[i].toNat=95)):=rfl;cases hwb:Pg s[i]with
   |true=>left;refine⟨((i+1:Nat):Int),?_,⟨i+1,rfl,hl,by simp_all⟩,l7⟩;rw[ja l7];rw[hw]at hwb;cases h1:a4i s[i]<;>cases h2:b5C s[i]<;>cases h3:decide (s[i].toNat=95)<;>rw[h2]at hwb<;>first|rfl|grind
   |false=>
    right;refine⟨(i:Int),?_,?_⟩
    .simp_all
    grind [o9]
  .have:i=s.length:=l7;simp_all [L6,o9]
theorem b4p{a:d4C}{w:d4C}{r:d4G}{x:Bool}(h:r=some x):l9 (seq a w) (some (seq a w)) r=some (seq a w || x):=by rw[h];cases seq a w<;>rfl
theorem a7y(s:d4C):EK s=some (a1H.any λw=>seq s w):=by refine cZ (o' :=some (a1H.any λw=>seq s w)) ?_ (by cases a1H.any λw=>seq s w<;>rfl);simp[a1H,JS,b4p]
theorem LW(h:s.length<=4611686018427387904):jo s=some (Ko s):=by
 unfold jo;cases s with
 |nil=>rfl|cons c r=>
  have h1:seq (c::r) []=false:=by simp[seq]
  obtain⟨k,h2,h3⟩:=a1A h;rw[show sat (c::r) 0=some (c.toNat:Int)from rfl,o8,a6I,h2,o8,a7y,o8];have h4:x8 k (o9 (c::r))=(c::r).all Pg:=by
   grind [U4]
  have h5:S9 (o9 (c::r)) 16=decide ((c::r).length<=16):=by grind [S9,o9]
  rw[h4,h5,b3y];cases a4i c<;>cases (c::r).all Pg<;>cases decide ((c::r).length<=16)<;>rfl
theorem zh(h:s.length<=1000000):jo s=some (Ko s):=LW l7
theorem IU(t:Int×Int)(en:List gX):iJ t en=iI t en:=by
 grind [iJ,iI,x8,o8,Gy,ae,Iw,aC]
theorem a2d(t:Int×Int)(en:List gX):pV t en=pR t en:=by simp[pV,pR,IU]
def vty(t:Int×Int)(en:List gX):Bool:=l9 (x8 t.1 6) (l9 (S9 0 t.2) (F7 t.2 (o9 en)) false) (l9 (S9 1 t.1) (l9 (S9 t.1 5) (x8 t.2 0) false) false)
theorem iD(t:Int×Int)(en:List gX):iI t en=some (vty t en):=by unfold iI vty;cases x8 t.1 6<;>cases S9 0 t.2<;>cases S9 1 t.1<;>cases S9 t.1 5<;>rfl
theorem zg(t:Int×Int)(en:List gX):iJ t en=some (vty t en):=(IU t en).trans (iD t en)
theorem a4G(t:Int×Int)(en:List gX):∃b:Int×Int,pR t en=some b:=by
 unfold pR;rw[iD];cases hv:vty t en
 .simp
 cases h1:x8 t.1 1<;>simp only[o7,o6]
 .cases h2:x8 t.1 2<;>simp only[o7,o6]
  .cases h3:x8 t.1 3<;>simp only[o7,o6]
   .cases h4:x8 t.1 4<;>simp only[o7,o6]
    .cases h5:x8 t.1 5<;>simp only[o7,o6]
     .have h6:x8 t.1 6=true/\S9 0 t.2=true/\F7 t.2 (o9 en)=true:=by
       unfold vty at hv;rw[zN]at h1 h2 h3 h4 h5;cases h6:x8 t.1 6<;>rw[h6]at hv
       .cases h7:S9 1 t.1<;>rw[h7]at hv
        .cases hv
        cases h8:S9 t.1 5<;>rw[h8]at hv
        .cases hv
        grind [pF]
       .cases h7:S9 0 t.2<;>rw[h7]at hv
        all_goals simp_all
      obtain⟨x,hx,_⟩:=qA (pF.1 h6.2.1) (jV.1 h6.2.2)<;>simp_all
     .simp
    .simp
   .simp
  .simp
 .simp
def bnd(t:Int×Int)(en:List gX):Int×Int:=(pR t en).getD (0,0)
theorem a0x(t:Int×Int)(en:List gX):pR t en=some (bnd t en):=by obtain⟨b,h⟩:=a4G t en<;>simp_all [bnd]
theorem QW(t:Int×Int)(en:List gX):pV t en=some (bnd t en):=(a2d t en).trans (a0x t en)
def inB(n:Int)(b:Int×Int):Bool:=l9 (S9 b.1 n) (S9 n b.2) false
def Ny(r:Int×Int):Bool:=l9 (S9 0 r.1) (l9 (S9 r.1 r.2) (S9 r.2 109573) false) false
theorem Rf(r:Int×Int):vP r=some (Ny r):=by unfold vP Ny;cases S9 0 r.1<;>cases S9 r.1 r.2<;>rfl
def b1z(a b:Int×Int):(Int×Int)×Bool:=l9 (Ny a) (l9 (Ny b) (l9 (S9 (ww a.2 b.2) (qX a.1 b.1)) ((0,0),false) ((qX a.1 b.1,ww a.2 b.2),true)) ((0,0),false)) ((0,0),false)
theorem c1B(a b:Int×Int):xy a b=some (b1z a b):=by
 unfold xy zT b1z;rw[Rf,Rf];cases Ny a
 .rfl
 cases h1:F7 a.1 a.2
 .rw[jW]at h1;rw[ae (by grind [ww,qX])];cases Ny b<;>rfl
 cases Ny b
 .rfl
 cases h2:F7 b.1 b.2
 .rw[jW]at h2;rw[ae (by grind [ww,qX])];rfl
 .cases S9 (ww a.2 b.2) (qX a.1 b.1)<;>rfl
def Js(a b:zi):Bool:=l9 (b1z a.1 b.1).2 (F7 (qX a.2.1 b.2.1) (ww a.2.2.1 b.2.2.1)) false
theorem a5Y(a b:zi):Ff a b=some (Js a b):=by unfold Ff Js;rw[c1B,o8];cases (b1z a.1 b.1).2<;>rfl
theorem b5J{l:List zi}(r:zi)(h:l.length<=1000000):∃k:Int,xC l r=some (k,l.any λy=>Js y r):=by
 unfold xC;have key:=AO (f:=λ(x:Int)=>l9 (F7 x (o9 l)) (o5 (H9 l x) λx_1=>o5 (xZ x_1 r) λx_2=>l9 x_2 (some (Out.rt (x,true))) (some (Out.nx (A8 IntKind.i64 x 1)))) (some (Out.ex PUnit.unit)))
   (s:=0) (λx=>∃i:Nat,x=i/\i<=l.length/\(l.take i).any (λy=>Js y r)=false) (λ_=>(l.any λy=>Js y r)=false) (λk=>k.2=true/\(l.any λy=>Js y r)=true) (λx=>l.length -x.toNat) ⟨0,rfl,l7,rfl⟩ l7 ?_
 .rcases key with⟨e,h1,h2⟩|⟨k,h1,h2,h3⟩
  .simp_all
  .refine⟨k.1,?_⟩;rw[h1,h3,←h2];rfl
 .rintro x ⟨i,rfl,hi,hall⟩;by_cases hl:i<l.length
  .have e:=dE hl;have hst:(l.take (i+1)).any (λy=>Js y r)=((l.take i).any (λy=>Js y r) || Js l[i] r):=by grind [List.take_succ_eq_append_getElem]
   have hv:xZ l[i] r=some (Js l[i] r):=by simp[xZ,a5Y]
   simp only[U0 (show(i:Int)<o9 l by simp_all [o9]),o7,G8,e,o8,hv];cases hc:Js l[i] r with
   |true=>exact .inr (.inr ⟨_,rfl,rfl,mV.2 ⟨l[i],P8 hl,hc⟩⟩)|false=>exact .inl ⟨((i+1:Nat):Int),by rw[ja l7];rfl,⟨i+1,rfl,hl,by simp_all⟩,l7⟩
  .have:i=l.length:=l7;simp_all [L6,o9]
def Xv(x:zi)(bl br:Int×Int):Bool:=
 l9 (Ny x.1) (l9 (x8 x.1.1 x.1.2) true (l9 (S9 x.2.2.1 x.2.1) true (l9 (inB x.2.1 bl) (l9 (inB (I8 .i64 x.2.2.1 1) bl) (G6 (inB x.2.2.2 br)) true) true))) true
def a0K(t:dM)(en:List gX)(i:Nat):Option (Int×Int):=match t.2.2.2[i]? with
 |some x=>l9 (Xv x (bnd t.2.1 en) (bnd t.2.2.1 en)) (some ((i:Int),3)) (l9 ((t.2.2.2.take i).any λy=>Js y x) (some ((i:Int),11)) none)|none=>none
def VU(t:dM)(en:List gX):Int×Int:=
 l9 (F7 64 (o9 t.2.2.2)) (64,4) (l9 (vty t.2.1 en) (l9 (vty t.2.2.1 en) (match(List.range t.2.2.2.length).findSome? (a0K t en)with|some r=>r|none=>(0,0)) (-1,8)) (-1,8))
theorem wu(a b:Int):F7 a b= !S9 b a:=by
 grind [F7,S9]
variable {α:Type}
theorem Ea{l:List α}(h:i<=l.length):LK l 0 (i:Int)=some (l.take i):=by simp_all [b1K]
theorem b9q(t:dM)(en:List gX):Fe t en=some (VU t en):=by
 unfold Fe VU;rw[zg,zg];cases h64:F7 64 (o9 t.2.2.2)
 case true=>rfl
 cases vty t.2.1 en
 .rfl
 cases vty t.2.2.1 en
 .rfl
 simp[E8,o6,o8,V4,o7,QW];have hlen:t.2.2.2.length<=64:=by grind [jW,o9]
 refine cZ (Qe (p:=a0K t en) t.2.2.2.length l7 PUnit.unit (λi hi=>?_) ?_) ?_
 rotate_left 2
 .cases (List.range t.2.2.2.length).findSome? (a0K t en)<;>rfl
 .have e:=dE hi;simp[U0 (show(i:Int)<o9 t.2.2.2 by simp_all [o9]),o7,G8,e,o8,a0K,Rf,Ea (show i<=t.2.2.2.length by omega)];obtain⟨k,hk⟩:=b5J (l:=t.2.2.2.take i) t.2.2.2[i] (by grind);rw[hk,ja l7];unfold Xv inB;simp[wu];generalize bnd t.2.1 en=bl;generalize bnd t.2.2.1 en=br;cases Ny t.2.2.2[i].1
  .rfl
  cases x8 t.2.2.2[i].1.1 t.2.2.2[i].1.2
  case true=>rfl
  cases S9 t.2.2.2[i].2.2.1 t.2.2.2[i].2.1
  case true=>rfl
  cases S9 bl.1 t.2.2.2[i].2.1
  .rfl
  cases S9 t.2.2.2[i].2.1 bl.2
  .rfl
  cases S9 bl.1 (I8 IntKind.i64 t.2.2.2[i].2.2.1 1)
  .rfl
  cases S9 (I8 IntKind.i64 t.2.2.2[i].2.2.1 1) bl.2
  .rfl
  cases S9 br.1 t.2.2.2[i].2.2.2
  .rfl
  cases S9 t.2.2.2[i].2.2.2 br.2
  .rfl
  cases (t.2.2.2.take i).any λy=>Js y t.2.2.2[i]<;>rfl
 simp[L6,o9]
section
variable {α ε ρ:Type}
theorem Kq(l:List α)(p:α->Bool)(r:ρ)(e:ε){f:Int->Option (Out Int ε ρ)}(hl:l.length<=1000000)
  (hin:∀(i:Nat) (a:α),l[i]? =some a->f (i:Int)=some (bif p a then .rt r else .nx (A8 .i64 (i:Int) 1))) (hend:f (l.length:Int)=some (.ex e)):
  bD f 0=some (bif l.any p then .inr r else .inl e):=by
 rw[WP l (λi a=> !p a) r e f l7 (λi a ha=>?_) hend]
 all_goals grind [List.getElem_of_mem,ja]
theorem DW(l:List α)(p:α->Bool){f:Int->Option (Out Int PUnit Int)}(hl:l.length<=1000000)
  (hin:∀(i:Nat) (a:α),l[i]? =some a->f (i:Int)=some (bif p a then .rt (i:Int)else .nx (A8 .i64 (i:Int) 1))) (hend:f (l.length:Int)=some (.ex PUnit.unit)):
  o5 (o5 (bD f 0) λo=>bn o (λ_=>some (-1)) λr=>some r) (λx=>some (S9 0 x))=some (l.any p):=by
 have key:=AO (f:=f) (s:=0) (λx=>∃i:Nat,x=i/\i<=l.length/\(l.take i).any p=false) (λ_=>l.any p=false) (λk=>0<=k/\l.any p=true) (λx=>l.length -x.toNat) ⟨0,rfl,l7,rfl⟩ l7 ?_
 .rcases key with⟨e,h1,h2⟩|⟨k,h1,h2,h3⟩
  .rw[h1,h2];rfl
  simp_all [ae]
 .rintro x ⟨i,rfl,hi,hall⟩;by_cases h:i<l.length
  .have e:=dE h;have hst:(l.take (i+1)).any p=((l.take i).any p || p l[i]):=by grind [List.take_succ_eq_append_getElem]
   rw[hin i _ e];cases hc:p l[i]with
   |true=>exact .inr (.inr ⟨_,rfl,l7,mV.2 ⟨l[i],P8 h,hc⟩⟩)|false=>exact .inl ⟨((i+1:Nat):Int),by grind [ja],⟨i+1,rfl,h,by simp_all⟩,l7⟩
  grind
theorem au{l:List α}{a:α}(h:l[i]? =some a):F7 (i:Int) (o9 l)=true:=U0 (by grind [o9])
theorem ak(l:List α):F7 (l.length:Int) (o9 l)=false:=L6 (by simp[o9])
end
theorem TT{l:List gX}(n:d4C)(h:l.length<=1000000):DY l n=some (l.any λx=>seq x.1 n):=by unfold DY lW nZ;rw[dL];refine DW l (λx=>seq x.1 n) h (λi a ha=>?_) (by rw[ak];rfl);rw[au ha,G8,ha,o8];unfold LJ;cases seq a.1 n<;>rfl
theorem XI{l:List dM}(n:d4C)(h:l.length<=1000000):EJ l n=some (l.any λx=>seq x.1 n):=by unfold EJ kQ mO;rw[dL];refine DW l (λx=>seq x.1 n) h (λi a ha=>?_) (by rw[ak];rfl);rw[au ha,G8,ha,o8];unfold JD;cases seq a.1 n<;>rfl
theorem a6s{l:List F9}(s:F9)(h:l.length<=1000000):iY l s=some (l.any λx=>seq x.1 s.1):=by refine DW l (λx=>seq x.1 s.1) h (λi a ha=>?_) (by rw[ak];rfl);rw[au ha,G8,ha,o8];unfold Gf;cases seq a.1 s.1<;>rfl
theorem a8W{l:List iT}(s:iT)(h:l.length<=1000000):jv l s=some (l.any λx=>seq x.1 s.1):=by refine DW l (λx=>seq x.1 s.1) h (λi a ha=>?_) (by rw[ak];rfl);rw[au ha,G8,ha,o8];unfold Ie;cases seq a.1 s.1<;>rfl
theorem XH{l:List oZ}(s:oZ)(h:l.length<=1000000):fO l s=some (l.any λx=>seq x.1 s.1):=by refine DW l (λx=>seq x.1 s.1) h (λi a ha=>?_) (by rw[ak];rfl);rw[au ha,G8,ha,o8];unfold FZ;cases seq a.1 s.1<;>rfl
theorem b3w{l:List d4C}(s:d4C)(h:l.length<=1000000):mQ l s=some (l.any λx=>seq s x):=by refine DW l (λx=>seq s x) h (λi a ha=>?_) (by rw[ak];rfl);rw[au ha,G8,ha,o8];cases seq s a<;>rfl
variable {l:d4D}
theorem b3v(s:Int)(h:l.length<=1000000):sW l s=some (l.any λx=>x8 s x):=by refine DW l (λx=>x8 s x) h (λi a ha=>?_) (by rw[ak];rfl);rw[au ha,G8,ha,o8];cases x8 s a<;>rfl
theorem b1E(i k:Nat):F7 (i:Int) (k:Int)=decide (i<k):=by simp[F7]
def VV(l:aZ)(kind:Nat)(k:Nat)(n:d4C):Bool:=
 match kind with
 |1=>(l.1.take k).any λx=>seq x.1 n|2=>(l.1.any λx=>seq x.1 n) || ((l.2.1.take k).any λx=>seq x.1 n)|_=>(l.1.any λx=>seq x.1 n) || (l.2.1.any λx=>seq x.1 n) || ((l.2.2.take k).any λx=>seq x.1 n)
def Few(l:aZ):Prop:=l.1.length<=100000/\l.2.1.length<=100000/\l.2.2.length<=100000
def c0E(ms:List d4C)(i:Nat):Option (Int×Int):=match ms[i]? with
 |some m=>l9 (Ko m) (l9 ((ms.take i).any λx=>seq m x) (some (7,((100+i:Nat):Int))) none) (some (2,((100+i:Nat):Int)))|none=>none
def a6i(l:aZ)(i:Nat)(e:gX):Int×Int:=
 l9 (Ko e.1) (l9 (VV l 1 i e.1) (7,0) (l9 (x8 (o9 e.2) 0) (5,0) (l9 (F7 16 (o9 e.2)) (4,116) (match(List.range e.2.length).findSome? (c0E e.2)with|some r=>r|none=>(0,0))))) (2,0)
theorem c0w(h:i<=1000000):A8 .i64 100 (i:Int)=((100+i:Nat):Int):=by
 grind [U5,iq]
theorem a3O{l:aZ}(h:Few l)(hi:i<=l.1.length)(e:gX)(h1:e.1.length<=1000000)(h2:∀m∈e.2,m.length<=1000000):
  GL l (i:Int) e=some (a6i l i e):=by
 unfold GL a6i VV;rw[zh h1,o8,Ea hi,o8,TT _ (by have:=h.1;grind)];cases Ko e.1
 .rfl
 cases (l.1.take i).any λx=>seq x.1 e.1
 case true=>rfl
 cases x8 (o9 e.2) 0
 case true=>rfl
 cases h16:F7 16 (o9 e.2)
 case true=>rfl
 have hlen:e.2.length<=16:=by grind [jW,o9]
 refine cZ (Qe (p:=c0E e.2) e.2.length l7 PUnit.unit (λj hj=>?_) ?_) ?_
 rotate_left 2
 .cases (List.range e.2.length).findSome? (c0E e.2)<;>rfl
 .have e' :=dE hj;rw[au e',G8,e',o8,zh (h2 _ (P8 hj)),o8,Ea l7,o8,b3w _ (by grind),c0w l7,ja l7];simp[c0E,e'];cases Ko e.2[j]
  .rfl
  cases (e.2.take j).any λx=>seq e.2[j] x<;>rfl
 simp[ak]
variable {n:Nat}{j:Nat}{β:Type}
theorem a6r{p:Nat->Option β}{c:β}(h0:(List.range j).findSome? p=none)(h1:p j=some c)(hj:j<n):(List.range n).findSome? p=some c:=by induction n<;>grind [List.range_succ]
theorem c0t{p:Nat->Option β}(h0:(List.range j).findSome? p=none)(h1:p j=none):(List.range (j+1)).findSome? p=none:=by
 grind
variable {ρ:Type}
def fH(n:Nat)(p:Nat->Option ρ):Option ρ:=(List.range n).findSome? p
theorem Qb{σ ε ρ:Type}{p:Nat->Option ρ}(n:Nat)(hn:n<=1000000)(a:σ)(e:ε){f:σ×Int->Option (Out (σ×Int) ε ρ)}
  (h1:∀i,i<n->f (a,(i:Int))=some (match p i with|some r=> .rt r|none=> .nx (a,A8 .i64 (i:Int) 1))) (h2:f (a,(n:Int))=some (.ex e)):
  bD f (a,0)=some (match fH n p with|some r=> .inr r|none=> .inl e):=by
 have key:=AO (f:=f) (λx=>∃i:Nat,x=(a,(i:Int))/\i<=n/\fH i p=none) (λx=>x=e/\fH n p=none) (λr=>fH n p=some r) (λx=>n -x.2.toNat) ⟨0,rfl,l7,rfl⟩ l7 ?_
 .grind
 .rintro x ⟨i,rfl,hi,hnone⟩;by_cases h:i<n
  .rw[h1 i h];cases hp:p i with
   |some r=>exact .inr (.inr ⟨_,rfl,a6r hnone hp h⟩)|none=>exact .inl ⟨(a,((i+1:Nat):Int)),by grind [ja],⟨i+1,rfl,h,c0t hnone hp⟩,l7⟩
  grind
def WI(kind i:Int)(r:Int×Int):Option (Int×Int×Int×Int):=l9 (x8 r.1 0) none (some (r.1,kind,i,r.2))
def f_(l:aZ)(i:Nat):Option (Int×Int×Int×Int):=match l.1[i]? with|some e=>WI 1 i (a6i l i e)|none=>none
def Lt(l:aZ):Int×Int×Int×Int:=l9 (F7 8 (o9 l.1)) (4,1,8,0) (match fH l.1.length (f_ l)with|some r=>r|none=>(0,0,0,0))
def a3E(l:aZ):Prop:=∀e∈l.1,e.1.length<=1000000/\∀m∈e.2,m.length<=1000000
theorem a1r{l:aZ}(h:Few l)(hE:a3E l):EH l=some (Lt l):=by
 unfold EH Lt;cases F7 8 (o9 l.1)
 case true=>rfl
 refine cZ (Qb (p:=f_ l) l.1.length (by have:=h.1;omega) _ (0,0,0,0) (λi hi=>?_) ?_) ?_
 rotate_left 2
 .cases fH l.1.length (f_ l)<;>rfl
 .have e:=dE hi;have hm:=hE _ (P8 hi);simp[au e,o7,G8,e,o8,a3O h (show i<=l.1.length by omega) _ hm.1 hm.2,f_,WI];cases x8 (a6i l i l.1[i]).1 0<;>rfl
 simp[ak]
variable {p:Nat->Option ρ}
theorem je{r:ρ}(h:fH n p=some r):∃i,i<n/\p i=some r:=by obtain⟨i,hi,hp⟩:=List.exists_of_findSome?_eq_some h<;>grind
theorem vZ(h:fH n p=none):∀i,i<n->p i=none:=by simp_all [fH]
theorem b9p(t:dM)(en:List gX):(VU t en).1=-1\/0<=(VU t en).1:=by
 unfold VU;cases F7 64 (o9 t.2.2.2)
 case true=>simp
 cases vty t.2.1 en
 .simp
 cases vty t.2.2.1 en
 .simp
 cases hf:(List.range t.2.2.2.length).findSome? (a0K t en)with
 |none=>simp|some r=>
  obtain⟨i,hi,hp⟩:=je hf;unfold a0K at hp;split at hp
  .rename_i x hx;cases hw:Xv x (bnd t.2.1 en) (bnd t.2.2.1 en)<;>rw[hw]at hp
   .cases ha:(t.2.2.2.take i).any λy=>Js y x<;>rw[ha]at hp
    .cases hp
    .cases hp<;>simp_all
   .cases hp<;>simp_all
  grind
def b0E(l:aZ)(i:Nat)(t:dM):Int×Int:=
 l9 (Ko t.1) (l9 (VV l 2 i t.1) (7,0) (l9 (x8 (VU t l.1).2 0) (0,0) ((VU t l.1).2,l9 (S9 0 (VU t l.1).1) (A8 .i64 100 (VU t l.1).1) 0))) (2,0)
def Um(l:aZ)(i:Nat):Option (Int×Int×Int×Int):=match l.2.1[i]? with|some t=>WI 2 i (b0E l i t)|none=>none
def IR(l:aZ):Int×Int×Int×Int:=l9 (F7 8 (o9 l.2.1)) (4,2,8,0) (match fH l.2.1.length (Um l)with|some r=>r|none=>(0,0,0,0))
def Zk(l:aZ):Prop:=∀t∈l.2.1,t.1.length<=1000000
theorem ZM{l:aZ}(h:Few l)(hT:Zk l):Dp l=some (IR l):=by
 unfold Dp IR;cases F7 8 (o9 l.2.1)
 case true=>rfl
 simp only[o6];refine cZ (Qb (p:=Um l) l.2.1.length (by have:=h.2.1;omega) _ (0,0,0,0) (λi hi=>?_) ?_) ?_
 rotate_left 2
 .cases fH l.2.1.length (Um l)<;>rfl
 .have e:=dE hi;have hm:=hT _ (P8 hi);simp only[au e,o7,G8,e,o8,b9q,zh hm,TT _ (show l.1.length<=1000000 by have:=h.1;omega),Ea (show i<=l.2.1.length by omega),
   XI _ (show(l.2.1.take i).length<=1000000 by have:=h.2.1;grind),Um,b0E,VV]
  cases Ko l.2.1[i].1
  .rfl
  cases l.1.any λx=>seq x.1 l.2.1[i].1<;>grind [E8,o6,o7,o8,bY,WI,b9p,L8,aC,I4,ae]
 .rw[ak];rfl
variable {ε:Type}
theorem b5K(l:List α)(g:α->β)(hl:l.length<=1000000){f:List β×Int->Option ((List β×Int)⊕ε)}{F:List β->ε}
  (hin:∀(i:Nat) (a:α) (acc:List β),l[i]? =some a->acc.length=i->f (acc,(i:Int))=some (.inl (acc++[g a],A8 .i64 (i:Int) 1))) (hend:∀acc,f (acc,(l.length:Int))=some (.inr (F acc))):
  X8 f ([],0)=some (F (l.map g)):=by
 obtain⟨e,h1,h2⟩:=cu (f:=f) (s:=([],0)) (λx=>∃i:Nat,x=((l.take i).map g,(i:Int))/\i<=l.length) (λe=>e=F (l.map g)) (λx=>l.length -x.2.toNat) ⟨0,rfl,l7⟩ U3 (by
  rintro x ⟨i,rfl,hi⟩;by_cases h:i<l.length
  .have e:=dE h;refine .inl ⟨((l.take (i+1)).map g,((i+1:Nat):Int)),?_,⟨i+1,rfl,h⟩,by simp;omega⟩;rw[hin i _ _ e U3,ja l7,P9 h,aY];rfl
  .have:i=l.length:=l7;subst this;refine .inr ⟨_,hend _,?_⟩;rw[V7])
 rw[h1,h2]
theorem Lu{l:List oZ}(h:l.length<=1000000):xP l=some (l.map (·.2)):=by
 unfold xP;rw[dL];refine b5K (F:=id) l (λx=>x.2) h (λi a acc ha hacc=>?_) (λacc=>?_)
 .grind [au,o7,G8,o8,vG]
 .simp[ak]
def a5A(l:aZ):Prop:=∀s∈l.2.2,s.1.length<=1000000/\s.2.2.1.length<=100000/\s.2.2.2.1.length<=100000/\s.2.2.2.2.length<=100000
def yV(l:aZ)(s:F9):List gX×List dM×List (Int×Int)×List (Int×Int)×List (Int×Int)×Bool:=
 match(if 0<=s.2.1 then l.2.2[s.2.1.toNat]? else none)with
 |some k=>(l.1,l.2.1,s.2.2.1.map (·.2),s.2.2.2.1.map (·.2),k.2.2.2.1.map (·.2),true)|none=>(l.1,l.2.1,s.2.2.1.map (·.2),s.2.2.2.1.map (·.2),[],false)
theorem Uk{l:aZ}(h:a5A l){s:F9}(hs:l.2.2[i]? =some s):xB l (i:Int)=some (yV l s):=by
 have hm:=h s (lM hs);unfold xB yV;rw[G8,hs,o8,Lu l7,o8,Lu l7,o8];by_cases h0:0<=s.2.1
 .rw[ae h0,if_pos h0,o7];by_cases h1:s.2.1<o9 l.2.2
  .obtain⟨k,hk,hkm⟩:=qA h0 h1;have hk' :=(bQ hk).2.2.2;rw[U0 h1,o7,hk,o8,Lu (by have:=h k hkm;omega),o8,hk']
  simp_all [o9,L6]
 .have h0' :=nO.1 h0;rw[aC h0',if_neg h0];rfl
abbrev SI(l:d4D):Prop:=l.Pairwise (·< ·)
theorem b0j:∀{a b:d4D},SI a->SI b->(∀x,x∈a↔x∈b)->a=b
 |[],[],_,_,_=>rfl|[],y::b,_,_,h=>absurd ((h y).2 x9) x9|x::a,[],_,_,h=>absurd ((h x).1 x9) x9|x::a,y::b,ha,hb,h=>by
  have ha' :=ah.1 ha;have hb' :=ah.1 hb;have hxy:x=y:=by
   rcases C9.1 ((h x).1 x9)with h1|h1
   .omega
   .rcases C9.1 ((h y).2 x9)with h2|h2<;>grind
  congr 1;refine b0j ha'.2 hb'.2 λz=>⟨λhz=>?_,λhz=>?_⟩<;>grind
def ins(n:Int):d4D->d4D
 |[]=>[n]|a::l=>if n<=a then(if n<a then n::a::l else a::l)else a::ins n l
theorem a4m(n x:Int):∀l,x∈ins n l↔x=n\/x∈l
 |[]=>by simp[ins]|a::l=>by
  unfold ins;by_cases h:n<=a
  .rw[if_pos h];by_cases h2:n<a
   .rw[if_pos h2];simp
   .have:n=a:=l7;subst this;simp
  .rw[if_neg h,C9,a4m n x l,C9];constructor
   .rintro(h|h|h)<;>simp[h]
   .rintro(h|h|h)<;>simp[h]
theorem b8p(n:Int):∀{l},SI l->SI (ins n l)
 |[],_=>List.pairwise_singleton _ _|a::l,h=>by
  have h' :=ah.1 h;unfold ins;by_cases h1:n<=a
  .rw[if_pos h1];by_cases h2:n<a
   .rw[if_pos h2];refine ah.2 ⟨λx hx=>?_,h⟩<;>grind
   grind
  .rw[if_neg h1];refine ah.2 ⟨λx hx=>?_,b8p n h'.2⟩<;>grind [a4m]
def C_(ns:d4D)(l:d4D):d4D:=ns.foldl (λacc n=>ins n acc) l
theorem W_(x:Int):∀ns l,x∈C_ ns l↔x∈ns\/x∈l
 |[],l=>by simp[C_]|n::ns,l=>by
  show x∈C_ ns (ins n l)↔_;rw[W_ x ns,a4m,C9];constructor
  .rintro(h|h|h)<;>simp[h]
  .rintro((h|h)|h)<;>simp[h]
theorem a4X:∀ns {l},SI l->SI (C_ ns l)
 |[],_,h=>h|n::ns,_,h=>a4X ns (b8p n h)
def Py(l:d4D):d4D:=C_ l []
theorem Hf(x:Int)(l:d4D):x∈Py l↔x∈l:=by simp[Py,W_]
theorem a4Y(l:d4D):SI (Py l):=a4X l List.Pairwise.nil
theorem L_(n:Int):∀l,(ins n l).length<=l.length+1
 |[]=>by simp[ins]|a::l=>by
  unfold ins;by_cases h1:n<=a
  .rw[if_pos h1];by_cases h2:n<a
   .rw[if_pos h2];simp
   .rw[if_neg h2];simp
  .rw[if_neg h1];have:=L_ n l;simp;omega
theorem XK:∀ns l,(C_ ns l).length<=l.length+ns.length
 |[],l=>by simp[C_]|n::ns,l=>by have h1:=XK ns (ins n l);have h2:=L_ n l;show(C_ ns (ins n l)).length<=_;simp;omega
theorem XL(l:d4D):(Py l).length<=l.length:=by grind [XK,Py]
theorem a0R(n:Nat)(h:SI l)(h2:∀x∈l,0<=x/\x<n):l.length<=n:=by
 have key:∀(l:d4D) (lo:Int),SI l->(∀x∈l,lo<=x/\x<n)->lo<=n->(l.length:Int)<=n -lo:=by
  intro l;induction l with
  |nil=>intro lo _ _ hlo;simp;omega|cons a l ih=>intro lo hs hb hlo;have h' :=ah.1 hs;have ha:=hb a x9;have:=ih (a+1) h'.2 (λx hx=>⟨by have:=h'.1 x hx;omega,(hb x (by simp[hx])).2⟩) l7;simp only[H7];omega
 have:=key l 0 h (λx hx=>h2 x hx) l7;omega
theorem ZR(x:Int):∀(l:d4D) (p:Int),(p::l).Pairwise (·<=·)->SI (p::ddp p l)/\(x∈p::ddp p l↔x∈p::l)
 |[],p,_=>⟨List.pairwise_singleton _ _,Iff.rfl⟩|a::l,p,h=>by
  have h1:=ah.1 h;obtain⟨i1,i2⟩:=ZR x l a h1.2;have hpa:=h1.1 a x9;unfold ddp;cases hq:x8 a p
  .rw[zN]at hq;refine⟨ah.2 ⟨λy hy=>?_,i1⟩,?_⟩
   .rcases C9.1 hy with rfl|hy
    .omega
    .have:=(ah.1 i1).1 y hy;omega
   simp_all
  simp_all [U4]
theorem b5z(l:d4D):dd (MK l)=Py l:=by
 have hs:=EG l;have hp:=FY l;refine b0j ?_ (a4Y l) λx=>?_
 .cases he:MK l with
  |nil=>exact List.Pairwise.nil|cons a r=>rw[he]at hs;exact(ZR a r a hs).1
 .rw[Hf,←hp.mem_iff];cases he:MK l with
  |nil=>exact Iff.rfl|cons a r=>rw[he]at hs;exact(ZR x r a hs).2
theorem b3z(l:d4D):(MK l).length=l.length:=(FY l).length_eq
theorem c1R(h:l.length<=1000000):o5 (Cf l) (λx=>vV x)=some (Py l):=by unfold Cf vV;rw[show Nat.blt l.length 4611686018427387904=true from by simp;omega];simp;rw[show Nat.blt (MK l).length 4611686018427387904=true from by rw[b3z];simp;omega];rw[cond_true,b5z]
def hg(l:d4D)(i:Nat):Int:=l.getD i 0
def swp(l:d4D)(i j:Nat):d4D:=(l.set i (hg l j)).set j (hg l i)
theorem BD(h:i<l.length):l[i]? =some (hg l i):=by simp_all [hg]
theorem Ot(l:d4D)(i j:Nat):(swp l i j).length=l.length:=by simp[swp]
theorem a4d(hi:i<l.length)(hj:j<l.length)(k:Nat):hg (swp l i j) k=if k=j then hg l i else if k=i then hg l j else hg l k:=by
 grind [hg,swp]
theorem QL(hi:i<l.length)(hj:j<l.length):(swp l i j).Perm l:=by simp_all [hg,swp,List.set_set_perm]
def Pz(l:d4D)(n:Nat):Prop:=∀k,0<k->k<n->hg l ((k -1) / 2)<=hg l k
def Wi(l:d4D)(j:Nat):Prop:=(∀k,0<k->k<l.length->k≠j->hg l ((k -1) / 2)<=hg l k)/\(0<j->∀k,0<k->k<l.length->(k -1) / 2=j->hg l ((j -1) / 2)<=hg l k)
def LV(l:d4D)(n i:Nat):Prop:=(∀k,0<k->k<n->(k -1) / 2≠i->hg l ((k -1) / 2)<=hg l k)/\(0<i->∀k,0<k->k<n->(k -1) / 2=i->hg l ((i -1) / 2)<=hg l k)
theorem a6t(h:Wi l j)(h0:0<j)(hj:j<l.length)(hlt:hg l j<hg l ((j -1) / 2)):Wi (swp l ((j -1) / 2) j) ((j -1) / 2):=by
 have hi:(j -1) / 2<l.length:=l7;generalize hp:(j -1) / 2=i at*;have G:=a4d hi hj;refine⟨λk k0 k1 k2=>?_,λi0 k k0 k1 k2=>?_⟩
 .rw[Ot]at k1;rw[G k,G];by_cases a:k=j
  .omega
  rw[if_neg a,if_neg k2];by_cases b:(k -1) / 2=j
  .have:=h.2 h0 k k0 k1 b;simp_all
  rw[if_neg b];by_cases c:(k -1) / 2=i
  .have:=h.1 k k0 k1 a
   grind
  rw[if_neg c];exact h.1 k k0 k1 a
 .rw[Ot]at k1;rw[G,G,if_neg l7];have e1:=h.1 i i0 hi l7;by_cases a:k=j
  .omega
  .have:=h.1 k k0 k1 a
   grind
theorem w_(h:Wi l j)(he:j=0\/hg l ((j -1) / 2)<=hg l j):Pz l l.length:=λk k0 k1=>by
 by_cases a:k=j
 .grind
 .exact h.1 k k0 k1 a
theorem LG(h:LV l n i)(hn:n<=l.length)(hj:(j -1) / 2=i)(hj0:0<j)(hjn:j<n)(hmin:∀k,0<k->k<n->(k -1) / 2=i->hg l j<=hg l k)(hlt:hg l j<hg l i):LV (swp l i j) n j:=by
 have G:=a4d (l:=l) (i:=i) (j:=j) l7 l7;refine⟨λk k0 k1 k2=>?_,λj0 k k0 k1 k2=>?_⟩
 .rw[G k,G,if_neg k2];by_cases a:k=j
  .omega
  rw[if_neg a];by_cases b:k=i
  .rw[if_pos b,if_neg l7];rw[b];exact h.2 l7 j hj0 hjn hj
  rw[if_neg b];by_cases c:(k -1) / 2=i
  .simp_all
  .rw[if_neg c];exact h.1 k k0 k1 c
 .rw[G,G,if_neg l7,if_pos hj,if_neg l7,if_neg l7];have:=h.1 k k0 k1 l7;simp_all
theorem IC(h:LV l n i)(he:∀k,0<k->k<n->(k -1) / 2=i->hg l i<=hg l k):Pz l n:=λk k0 k1=>by
 by_cases a:(k -1) / 2=i
 .simp_all
 .exact h.1 k k0 k1 a
theorem b5M(h:Pz l n):∀k,k<n->hg l 0<=hg l k:=by
 intro k;induction k using Nat.strongRecOn with
 |ind k ih=>
  intro hk;by_cases h0:k=0
  .simp_all
  .have h1:=h k l7 hk
   grind
theorem a8Z(h:Pz l l.length)(hn:n+1=l.length):LV (swp l 0 n) n 0:=by have G:=a4d (l:=l) (i:=0) (j:=n) l7 l7;refine⟨λk k0 k1 k2=>?_,λh0=>by omega⟩;rw[G k,G,if_neg l7,if_neg k2,if_neg l7,if_neg l7];exact h k k0 l7
theorem a7W{l:List α}{a:α}(h:(l.take n)[i]? =some a):i<n/\l[i]? =some a:=by
 grind
def PZ(en:List gX)(f:oZ)(a b:List oZ):Int:=
 l9 (Ko f.1) (l9 (a.any λx=>seq x.1 f.1) 7 (l9 (b.any λx=>seq x.1 f.1) 7 (l9 (vty f.2 en) 0 8))) 2
theorem SS{l:aZ}{f:oZ}{a b:List oZ}(h:f.1.length<=1000000)(ha:a.length<=1000000)(hb:b.length<=1000000):AL l f a b=some (PZ l.1 f a b):=by
 unfold AL PZ;rw[zh h,XH _ ha,XH _ hb,zg];cases Ko f.1
 .rfl
 cases a.any λx=>seq x.1 f.1
 case true=>rfl
 cases b.any λx=>seq x.1 f.1
 case true=>rfl
 cases vty f.2 l.1<;>rfl
def g_(c e:Int):Option (Int×Int):=l9 (x8 c 0) none (some (c,e))
def inP(l:aZ)(s:F9)(i:Nat):Option (Int×Int):=match s.2.2.1[i]? with|some f=>g_ (PZ l.1 f (s.2.2.1.take i) []) (100+i:Nat)|none=>none
def b3i(l:aZ)(s:F9)(i:Nat):Option (Int×Int):=match s.2.2.2.1[i]? with|some f=>g_ (PZ l.1 f s.2.2.1 (s.2.2.2.1.take i)) (200+i:Nat)|none=>none
def a5u(s:F9):Prop:=(∀f∈s.2.2.1,f.1.length<=1000000)/\(∀f∈s.2.2.2.1,f.1.length<=1000000)
theorem b1B{c i:Nat}(hc:c<=1000)(h:i<=1000000):A8 .i64 (c:Int) (i:Int)=((c+i:Nat):Int):=by
 grind [U5,iq]
def KD(l:aZ)(s:F9):Option (Int×Int):=match fH s.2.2.1.length (inP l s)with|some r=>some r|none=>fH s.2.2.2.1.length (b3i l s)
def lG(op:Int):Int:=(qm op).getD 0
variable {op:Int}
theorem c4R(h:1<=op/\op<=39):∃k:Fin 40,op=(k.val:Int):=⟨⟨op.toNat,l7⟩,by grind⟩
theorem c7X:∀k:Fin 40,1<=k.val->(jU (k.val:Int)=qm (k.val:Int))/\(qm (k.val:Int)=some 0\/qm (k.val:Int)=some 1\/qm (k.val:Int)=some 2\/qm (k.val:Int)=some 3):=by decide+kernel
theorem a4e(h:¬(1<=op/\op<=39))(k:Int)(h1:1<=k)(h2:k<=39):x8 op k=false:=I4 l7
theorem a4F(h:¬(1<=op/\op<=39)):qm op=some (-1):=by
 unfold qm;by_cases h1:1<=op
 .rw[ae h1,aC l7,aC (show(39:Int)<op by omega),aC (show(30:Int)<op by omega)];simp[a4e h];cases S9 35 op<;>cases S9 11 op<;>rfl
 .rw[aC l7,o6,aC l7,aC (show op<11 by omega)];simp[a4e h]
theorem c4c(h:¬(1<=op/\op<=39)):jU op=some (-1):=by simp_all [jU,a4e]
theorem LY(op:Int):jU op=some (lG op)/\qm op=some (lG op)/\(lG op=-1\/lG op=0\/lG op=1\/lG op=2\/lG op=3):=by unfold lG;by_cases h:1<=op/\op<=39<;>grind [c4R,c7X,c4c,a4F]
theorem Kr(op:Int):jU op=some (lG op):=(LY op).1
theorem b7v(op:Int):qm op=some (lG op):=(LY op).2.1
inductive XT where
 |l0 (n:Int×Int)|l1 (n:Int×Int) (a:XT)|l2 (n:Int×Int) (a b:XT)|l3 (n:Int×Int) (a b c:XT)
def XT.size:XT->Nat
 | .l0 _=>1| .l1 _ a=>a.size+1| .l2 _ a b=>a.size+b.size+1| .l3 _ a b c=>a.size+b.size+c.size+1
def XT.post:XT->List (Int×Int)
 | .l0 n=>[n]| .l1 n a=>a.post++[n]| .l2 n a b=>a.post++b.post++[n]| .l3 n a b c=>a.post++b.post++c.post++[n]
def XT.sts(o:Nat):XT->d4D
 | .l0 _=>[(o:Int)]| .l1 _ a=>a.sts o++[(o:Int)]| .l2 _ a b=>a.sts o++b.sts (o+a.size)++[(o:Int)]| .l3 _ a b c=>a.sts o++b.sts (o+a.size)++c.sts (o+a.size+b.size)++[(o:Int)]
theorem XT.size_pos(t:XT):0<t.size:=by cases t<;>simp[XT.size]
theorem XT.post_len(t:XT):t.post.length=t.size:=by induction t<;>grind [XT.post,XT.size]
theorem XT.sts_len(t:XT):∀o,(t.sts o).length=t.size:=by induction t<;>grind [XT.sts,XT.size]
def oU:List XT->Nat
 |[]=>0|t::r=>oU r+t.size
def OW:List XT->List (Int×Int)
 |[]=>[]|t::r=>OW r++t.post
def stR:List XT->d4D
 |[]=>[]|t::r=>stR r++t.sts (oU r)
def yj:List XT->d4D
 |[]=>[]|t::r=>yj r++[(oU r:Int)]
theorem xR:∀ts,(yj ts).length=ts.length
 |[]=>rfl|t::r=>by simp[yj,xR r]
theorem VR:∀ts,(stR ts).length=oU ts
 |[]=>rfl|t::r=>by simp[stR,oU,VR r,XT.sts_len]
theorem RJ:∀ts,(OW ts).length=oU ts
 |[]=>rfl|t::r=>by simp[OW,oU,RJ r,XT.post_len]
def push(n:Int×Int)(ts:List XT):Int⊕List XT:=
 if lG n.1=0 then .inr (.l0 n::ts)
 else if lG n.1=1 then(match ts with|a::r=> .inr (.l1 n a::r)|_=> .inl 5)
 else if lG n.1=2 then(match ts with|b::a::r=> .inr (.l2 n a b::r)|_=> .inl 5)
 else if lG n.1=3 then(match ts with|c::b::a::r=> .inr (.l3 n a b c::r)|_=> .inl 5)
 else .inl 2
def zO:Nat->List (Int×Int)->List XT->(Int×Int)⊕List XT
 |_,[],ts=> .inr ts
 |i,n::es,ts=>match push n ts with
  | .inl c=> .inl ((i:Int),c)| .inr ts' =>if 12<ts'.length then .inl ((i:Int),16)else zO (i+1) es ts'
def kX(e:List (Int×Int)):(Int×Int)⊕XT:=
 if 48<e.length then .inl (0,4)else if e.length=0 then .inl (0,5)else
  match zO 0 e []with
  | .inl x=> .inl x| .inr [t]=> .inr t| .inr _=> .inl ((e.length:Int),4)
theorem a3a{n:Int×Int}{ts ts' :List XT}(h:push n ts= .inr ts'):OW ts' =OW ts++[n]/\ts' ≠[]:=by unfold push at h<;>grind [OW,XT.post]
theorem RN{n:Int×Int}{ts ts' :List XT}(h:push n ts= .inr ts'):oU ts' =oU ts+1:=by rw[←RJ,←RJ,(a3a h).1];simp
theorem NU:∀(es:List (Int×Int)) (i:Nat) (ts ts' :List XT),zO i es ts= .inr ts' ->OW ts' =OW ts++es/\(ts≠[]\/es≠[]->ts' ≠[])
 |[],i,ts,ts',h=>by cases h<;>simp_all|n::es,i,ts,ts',h=>by
  unfold zO at h;cases hp:push n ts with
  |inl c=>rw[hp]at h;cases h|inr t2=>
   rw[hp]at h;simp at h;split at h
   .cases h
   .obtain⟨h1,h2⟩:=NU es (i+1) t2 ts' h;obtain⟨h3,h4⟩:=a3a hp;exact⟨by rw[h1,h3];simp,λ_=>h2 (.inl h4)⟩
theorem wS{e:List (Int×Int)}{t:XT}(h:kX e= .inr t):e=t.post/\e.length<=48:=by
 unfold kX at h;split at h
 .grind
 split at h
 .grind
 split at h
 .grind
 .rename_i t' hp;cases h;have:=(NU e 0 [] [t] hp).1;simp_all [OW]
 grind
theorem a7S{σ ε ρ:Type}(e:List (Int×Int))(he:e.length<=48)(g:List XT->σ)(fin:List XT->ε)(rt:Int×Int->ρ){f:σ->Option (Out σ ε ρ)}
  (hs:∀(i:Nat) (n:Int×Int) (ts:List XT),e[i]? =some n->i=oU ts->ts.length<=12->f (g ts)=some (match push n ts with
   | .inl c=> .rt (rt ((i:Int),c))
   | .inr ts' =>if 12<ts'.length then .rt (rt ((i:Int),16))else .nx (g ts')))
  (hend:∀ts,oU ts=e.length->f (g ts)=some (.ex (fin ts))):
  bD f (g [])=some (match zO 0 e []with| .inl x=> .inr (rt x)| .inr ts=> .inl (fin ts)):=by
 have key:∀(es:List (Int×Int)) (i:Nat) (ts:List XT) (k:Nat),e.drop i=es->i=oU ts->ts.length<=12->i<=e.length->es.length<k->
   qi f k (g ts)=some (match zO i es ts with| .inl x=> .inr (rt x)| .inr ts=> .inl (fin ts)):=by
  intro es;induction es with
  |nil=>
   intro i ts k hd hi hl hle hk;obtain⟨k,rfl⟩:∃k',k=k' +1:=⟨k -1,l7⟩;have:i=e.length:=by have:=congrArg List.length hd;simp at this;omega
   unfold qi;rw[hend ts l7];rfl
  |cons n es ih=>
   intro i ts k hd hi hl hle hk;obtain⟨k,rfl⟩:∃k',k=k' +1:=⟨k -1,l7⟩;have hn:e[i]? =some n:=by
    have:(e.drop i)[0]? =some n:=by rw[hd];rfl
    simpa using this
   have hlt:=(U8.1 hn).1;unfold qi;rw[hs i n ts hn hi hl];unfold zO;cases hp:push n ts with
   |inl c=>rfl|inr ts' =>
    simp only;by_cases h12:12<ts'.length
    .rw[if_pos h12,if_pos h12]
    .rw[if_neg h12,if_neg h12];exact ih (i+1) ts' k (by rw[←bz,hd];rfl) (by rw[RN hp,hi]) l7 l7 (by simp at hk;omega)
 exact key e 0 [] kK rfl rfl x9 l7 (by unfold kK;omega)
theorem a6V:∀(p r:List XT),∃X,yj (p++r)=yj r++X/\X.length=p.length/\(p≠[]->X.head?=some (oU r:Int))
 |[],r=>⟨[],x9,rfl,λh=>absurd rfl h⟩|a::p,r=>by
  obtain⟨X,h1,h2,h3⟩:=a6V p r;refine⟨X++[(oU (p++r):Int)],?_,by grind,λ_=>?_⟩
  .simp_all [yj]
  .cases p<;>simp_all
theorem a9C(p r:List XT)(k:Int)(hk:k=(p.length:Int))(h:p.length+r.length<=100)(hp:p≠[]):
  I8 .i64 (o9 (yj (p++r))) k=(r.length:Int)/\H9 (yj (p++r)) (r.length:Int)=some (oU r:Int)/\P7 (yj (p++r)) (O9 (r.length:Int))=some (oU r:Int)
  /\nG 0 (r.length:Int) (o9 (yj (p++r)))=true/\lJ (yj (p++r)) (O9 0) (O9 (r.length:Int))=yj r:=by
 obtain⟨X,h1,h2,h3⟩:=a6V p r;have hl:(yj (p++r)).length=r.length+p.length:=by simp_all [xR]
 have hg:(yj (p++r))[r.length]? =some (oU r:Int):=by simp_all [F6,List.head?_eq_getElem?]
 refine⟨?_,?_,?_,?_,?_⟩
 .grind [o9,U7,iq]
 .simp[G8,hg]
 .exact hg
 .grind [nG,o9]
 .show((yj (p++r)).take r.length).drop 0=_;simp_all
theorem b1D(ts:List XT):F7 12 (o9 (yj ts))=decide (12<ts.length):=by rw[show o9 (yj ts)=((ts.length:Nat):Int) by simp[o9,xR]];exact b1E 12 ts.length
theorem kU{l:List α}(x:α)(h:l.length<=1000000):fE l [x]=some (l++[x]):=vG (by grind)
theorem z_(ts:List XT)(k:Nat):F7 (o9 (yj ts)) (k:Int)=decide (ts.length<k):=by simp[o9,xR,b1E]
def Fa(e:List (Int×Int)):d4D×Int×Int:=match kX e with| .inl x=>([],x)| .inr t=>(t.sts 0,0,0)
theorem b4a{e:List (Int×Int)}(h0:e.length≠0){K:d4D×Int×Int->d4D×Int×Int}(h48:¬48<e.length)
  {r:d4D×Int×Int} (h:∀ts,zO 0 e []= .inr ts->r=l9 (F7 1 (o9 (yj ts))) ([],o9 e,4) (stR ts,0,0)) (hi:∀x,zO 0 e []= .inl x->r=([],x)):r=Fa e:=by
 unfold Fa kX;rw[if_neg h48,if_neg h0];cases hp:zO 0 e []with
 |inl x=>simp_all|inr ts=>
  rw[h ts hp];have:=(NU e 0 [] ts hp).2 (.inr (by simp_all));match ts,this with
  |[t],_=>simp[yj,o9,F7,stR,oU]|a::b::ts,_=>rw[U0 (by grind [o9,xR])];rfl
def pd(l:d4D)(k:Nat):d4D:=l++List.replicate k 0
theorem a4y(l:d4D)(m:Nat):H9 (pd l (m+1)) (l.length:Int)=some 0:=by simp[G8,pd]
theorem a4z(l:d4D)(m:Nat):P7 (pd l (m+1)) (O9 (l.length:Int))=some 0:=by have:=a4y l m;exact this
theorem a9z(l:d4D)(m:Nat)(v:Int):V8 (pd l (m+1)) (O9 (l.length:Int)) v=pd (l++[v]) m:=by show(l++List.replicate (m+1) 0).set l.length v=_;simp[kz,pd]
theorem Vt(l:d4D)(m:Nat)(v w:Int):V8 (pd (l++[v]) m) (O9 (l.length:Int)) w=pd (l++[w]) m:=by show(l++[v]++List.replicate m 0).set l.length w=_;simp[pd]
theorem RG(l:d4D)(m:Nat)(v:Int):H9 (pd (l++[v]) m) (l.length:Int)=some v:=by simp[G8,pd]
theorem Qq(l:d4D)(m:Nat)(v:Int):P7 (pd (l++[v]) m) (O9 (l.length:Int))=some v:=by have:=RG l m v;exact this
theorem IP(e:List (Int×Int)):Aw e=some (Fa e):=by
 unfold Aw;by_cases h48:48<e.length
 .rw[U0 (by simp[o9];omega),o7];unfold Fa kX;rw[if_pos h48]
 by_cases h0:e.length=0
 .rw[L6 (by simp[o9];omega),o6,L8 (by simp[o9,h0]),o7];unfold Fa kX;rw[if_neg h48,if_pos h0]
 rw[L6 (by simp[o9];omega),o6,I4 (by simp[o9];intro h;exact h0 (by simp[h])),o6];rw[show lI (o9 e) (0:Int)=some (pd (stR []) (e.length -oU [])) by simp[lI,o9,pd,stR,oU];omega,o8];refine cZ (a7S e l7 (λts=>(pd (stR ts) (e.length -oU ts),yj ts,(oU ts:Int))) (λts=>(pd (stR ts) (e.length -oU ts),yj ts)) (λx=>(([]:d4D),x)) (λi n ts hn hi hl=>?_) (λts hsz=>?_)) ?_
 rotate_left 2
 .rw[←b4a h0 h48 (K:=id) (r:=match zO 0 e []with| .inl x=>([],x)| .inr ts=>l9 (F7 1 (o9 (yj ts))) ([],o9 e,4) (stR ts,0,0)) (λts h=>by rw[h]) (λx h=>by rw[h])];cases hp:zO 0 e []with
  |inl x=>rfl|inr ts=>
   have:=(NU e 0 [] ts hp).1;have hz:e.length -oU ts=0:=by have:=congrArg List.length this;rw[RJ]at this;simp[OW]at this;omega
   simp only[o8,V4,hz,pd,List.replicate_zero,G9];cases F7 1 (o9 (yj ts))<;>rfl
 .subst hi;have hlt:=(U8.1 hn).1;have hst:=VR ts;have hof:=xR ts;obtain⟨m,hm⟩:∃m,e.length -oU ts=m+1:=⟨e.length -oU ts -1,l7⟩;simp only[au hn,o7,G8 e,hn,o8,Kr,hm];rw[←hst];simp only[a4y,a4z,o8,a9z,RG,Qq,Vt];rw[hst];rcases(LY n.1).2.2 with h|h|h|h|h
  .rw[show push n ts= .inl 2 by simp[push,h],h];rfl
  .have e0:I8 .i64 (o9 (yj ts)) 0=((yj ts).length:Int):=by rw[U7 (by unfold iq o9;omega)];simp[o9]
   rw[show push n ts= .inr (.l0 n::ts) by simp[push,h],h,L6 l7,o6,L6 (a6E _),o6,o6,e0,show nG 0 ((yj ts).length:Int) (o9 (yj ts))=true by simp[nG,o9],o7,
    show lJ (yj ts) (O9 0) (O9 ((yj ts).length:Int))=yj ts by simp[lJ,O9],kU _ l7,o8,ja l7]
   rw[show yj ts++[(oU ts:Int)]=yj (.l0 n::ts)from rfl,b1D];by_cases hc:12<(XT.l0 n::ts).length
   .simp only[hc,decide_true,if_true,o7]
   .simp only[hc,decide_false,if_false,o6,oU,XT.size,stR,XT.sts,show e.length -(oU ts+1)=m by omega]
  .match ts with
   |[]=>rw[show push n []= .inl 5 by simp[push,h],h];rfl|a::r=>
    obtain⟨p1,p2,p3,p4,p5⟩:=a9C [a] r 1 rfl (by simp at hl ⊢;omega) x9;simp only[cO,P6]at p1 p2 p3 p4 p5;have:=VR (a::r);have:=xR r;simp only[H7]at hl;rw[show push n (a::r)= .inr (.l1 n a::r) by simp[push,h],h,L6 l7,o6,show(1:Int)=((1:Nat):Int)from rfl,z_,show decide ((a::r).length<1)=false by simp];simp only[Int.natCast_one]at p1 ⊢;rw[o6,U0 l7,o7,p1,p2,o8,p3,o8,p4,o7,p5];rw[←hst]
    try simp only[Vt,RG,Qq,o8]
    rw[hst,kU _ l7,o8,ja l7];rw[show yj r++[(oU r:Int)]=yj (.l1 n a::r)from rfl,b1D];have hz:=RN (show push n (a::r)= .inr (.l1 n a::r) by simp[push,h]);by_cases hc:12<(XT.l1 n a::r).length
    .simp only[hc,decide_true,if_true,o7]
    .simp only[hc,decide_false,if_false,o6,hz,show e.length -(oU (a::r)+1)=m by omega,stR,XT.sts,G7]
  .match ts with
   |[]=>rw[show push n []= .inl 5 by simp[push,h],h];rfl|[a]=>rw[show push n [a]= .inl 5 by simp[push,h],h];rfl|b::a::r=>
    obtain⟨p1,p2,p3,p4,p5⟩:=a9C [b,a] r 2 rfl (by simp at hl ⊢;omega) x9;simp only[cO,P6]at p1 p2 p3 p4 p5;have:=VR (b::a::r);have:=xR r;simp only[H7]at hl;rw[show push n (b::a::r)= .inr (.l2 n a b::r) by simp[push,h],h,L6 l7,o6,show(2:Int)=((2:Nat):Int)from rfl,z_,show decide ((b::a::r).length<2)=false by simp];rw[o6,U0 l7,o7,show((2:Nat):Int)=2 from rfl,p1,p2,o8,p3,o8,p4,o7,p5];rw[←hst]
    try simp only[Vt,RG,Qq,o8]
    rw[hst,kU _ l7,o8,ja l7];rw[show yj r++[(oU r:Int)]=yj (.l2 n a b::r)from rfl,b1D];have hz:=RN (show push n (b::a::r)= .inr (.l2 n a b::r) by simp[push,h]);by_cases hc:12<(XT.l2 n a b::r).length
    .simp only[hc,decide_true,if_true,o7]
    .rw[hz,show e.length -(oU (b::a::r)+1)=m by omega,show stR (.l2 n a b::r)=stR (b::a::r)++[(oU r:Int)] by simp only[stR,XT.sts,G7,oU]];simp only[hc,decide_false,if_false,o6]
  .match ts with
   |[]=>rw[show push n []= .inl 5 by simp[push,h],h];rfl|[a]=>rw[show push n [a]= .inl 5 by simp[push,h],h];rfl|[b,a]=>rw[show push n [b,a]= .inl 5 by simp[push,h],h];rfl|c::b::a::r=>
    obtain⟨p1,p2,p3,p4,p5⟩:=a9C [c,b,a] r 3 rfl (by simp at hl ⊢;omega) x9;simp only[cO,P6]at p1 p2 p3 p4 p5;have:=VR (c::b::a::r);have:=xR r;simp only[H7]at hl;rw[show push n (c::b::a::r)= .inr (.l3 n a b c::r) by simp[push,h],h,L6 l7,o6,show(3:Int)=((3:Nat):Int)from rfl,z_,show decide ((c::b::a::r).length<3)=false by simp];rw[o6,U0 l7,o7,show((3:Nat):Int)=3 from rfl,p1,p2,o8,p3,o8,p4,o7,p5];rw[←hst]
    try simp only[Vt,RG,Qq,o8]
    rw[hst,kU _ l7,o8,ja l7];rw[show yj r++[(oU r:Int)]=yj (.l3 n a b c::r)from rfl,b1D];have hz:=RN (show push n (c::b::a::r)= .inr (.l3 n a b c::r) by simp[push,h]);by_cases hc:12<(XT.l3 n a b c::r).length
    .simp only[hc,decide_true,if_true,o7]
    .rw[hz,show e.length -(oU (c::b::a::r)+1)=m by omega,show stR (.l3 n a b c::r)=stR (c::b::a::r)++[(oU r:Int)] by simp only[stR,XT.sts,G7,oU]];simp only[hc,decide_false,if_false,o6]
 .simp only[hsz,ak];rfl
end
section
def VT(t:Int×Int):Prop:=t=(1,0)\/t=(2,0)\/t=(3,0)\/t=(4,0)\/t=(5,0)\/∃e,t=(6,e)
theorem OH{t:Int×Int}{en:List gX}(h:vty t en=true):VT t:=by
 grind [vty,o6,o7,U4,pF,VT]
def EN(n:Int×Int)(ops:List (Int×Int))(sg:L9):Option ((Int×Int)×Int):=
 l9 (G6 (x8 n.2 0)) (o5 (nY n.1) λu=>l9 (G6 u) (some ((0,0),2)) (eY n ops sg)) (eY n ops sg)
def yA(n:Int×Int)(ops:List (Int×Int))(sg:L9):Prop:=∃r:(Int×Int)×Int,IJ n ops sg=some r/\EN n ops sg=some r/\(r.2=0->VT r.1)
variable {k:Int}
theorem VT.lit(h:1<=k/\k<=5):VT (k,0):=by
 grind [VT]
theorem KG(a b:Int):S9 a b= !F7 b a:=by
 grind [F7,S9]
theorem Dv{α β:Type}(o:Option β)(f:α->Option β):o5 (o5 o λx=>some (Sum.inr x)) (λq=>bn q f λr=>some r)=o:=by cases o<;>rfl
theorem VT.enum(e:Int):VT (6,e):=.inr (.inr (.inr (.inr (.inr ⟨e,rfl⟩))))
theorem wI{R E:Option ((Int×Int)×Int)}{c:Int}(hc:c≠0)(h1:R=some ((0,0),c))(h2:E=some ((0,0),c)):∃r:(Int×Int)×Int,R=some r/\E=some r/\(r.2=0->VT r.1):=⟨_,h1,h2,λh=>absurd h hc⟩
theorem nok{R E:Option ((Int×Int)×Int)}{t:Int×Int}(hv:VT t)(h1:R=some (t,0))(h2:E=some (t,0)):∃r:(Int×Int)×Int,R=some r/\E=some r/\(r.2=0->VT r.1):=⟨_,h1,h2,λ_=>hv⟩
def RR(a0:Int×Int)(a1:List (Int×Int))(a2:L9):Option ((Int×Int)×Int):=
 o5 (uF a0 a2) λ(x:Bool)=>l9 (G6 x) (some ((0,0),3)) (o5 (rX a0 a2) λ(x:Bool)=>l9 (G6 x) (some ((0,0),6))
  (l9 (x8 (o9 a1) 0) (o5 (dN a0 a2) λ(x:D7×Bool)=>l9 (G6 x.2) (some ((0,0),8)) (some (x.1,0)))
  (l9 (x8 (o9 a1) 1) (o5 (H9 a1 0) λ(x:D7)=>o5 (nT a0 x a2) λ(x:D7×Bool)=>l9 (G6 x.2) (some ((0,0),8)) (some (x.1,0)))
  (l9 (x8 (o9 a1) 2) (o5 (H9 a1 0) λ(x:D7)=>o5 (H9 a1 1) λ(x_1:D7)=>o5 (wP a0.1 x x_1) λ(x:D7×Bool)=>l9 (G6 x.2) (some ((0,0),8)) (some (x.1,0)))
  (o5 (H9 a1 1) λ(x:D7)=>o5 (H9 a1 0) λ(x_1:D7)=>l9 (x8 x_1.1 1) (o5 (H9 a1 1) λ(x_2:D7)=>o5 (H9 a1 2) λ(x_3:D7)=>
   l9 (G6 (fF (x8 x_2.1 x_3.1) (x8 x_2.2 x_3.2))) (some ((0,0),8)) (some (x,0))) (l9 (G6 false) (some ((0,0),8)) (some (x,0))))))))
theorem b4R(n:Int×Int)(ops:List (Int×Int))(sg:L9):IJ n ops sg=l9 (G6 (x8 n.2 0)) (o5 (fA n.1) λx=>l9 x (RR n ops sg) (some ((0,0),2))) (RR n ops sg):=by
 unfold IJ;cases x8 n.2 0
 .cases fA n.1 with
  |none=>rfl|some b=>cases b<;>rfl
 .rfl
theorem Qn{op N:Int}{ops:List (Int×Int)}{sg:L9}(h1:nY op=some true)(h2:fA op=some true)
  (h:∃r:(Int×Int)×Int,RR (op,N) ops sg=some r/\eY (op,N) ops sg=some r/\(r.2=0->VT r.1)):yA (op,N) ops sg:=by
 unfold yA;rw[b4R];unfold EN;rw[h1,h2];cases x8 N 0<;>exact h
theorem WS{op N:Int}{ops:List (Int×Int)}{sg:L9}(h1:nY op=some false)(h2:fA op=some false)
  (h:∃r:(Int×Int)×Int,RR (op,0) ops sg=some r/\eY (op,0) ops sg=some r/\(r.2=0->VT r.1)):yA (op,N) ops sg:=by
 unfold yA;rw[b4R];unfold EN;cases hz:x8 N 0<;>simp_all [U4]
section
variable (N:Int) (sg:L9)
theorem b6y(hk:k=1\/k=2\/k=3\/k=4\/k=5):yA (k,N) [] sg:=by
 have hv:vty (k,0) sg.1=true:=by rcases hk with rfl|rfl|rfl|rfl|rfl<;>rfl
 have hm:nY k=some true/\fA k=some true:=by rcases hk with rfl|rfl|rfl|rfl|rfl<;>exact⟨rfl,rfl⟩
 refine Qn hm.1 hm.2 ?_;have key:eY (k,N) [] sg=oD N k sg:=by rcases hk with rfl|rfl|rfl|rfl|rfl<;>exact Dv _ _
 have key2:RR (k,N) [] sg=o5 (o5 (pR (k,0) sg.1) λ(x:D7)=>l9 (S9 x.1 N) (some (S9 N x.2)) (some false)) λ(x:Bool)=>l9 (G6 x) (some ((0,0),3)) (some ((k,0),0)):=by rcases hk with rfl|rfl|rfl|rfl|rfl<;>rfl
 rw[key,key2];unfold oD;rw[QW,a0x,o8,o8,wu,wu];cases S9 (bnd (k,0) sg.1).1 N
 .simp
 cases S9 N (bnd (k,0) sg.1).2
 .simp
 .exact nok (OH hv) rfl rfl
theorem b3M(hN:iq N):yA (6,N) [] sg:=by
 have hq:0<=N->eH .i64 N 16=N / 16:=λh=>by rw[zo (by grind [iq]),jw h]
 refine Qn rfl rfl ?_;have hf:rX (6,N) sg=l9 (F7 (eH .i64 N 16) (o9 sg.1)) (o5 (H9 sg.1 (eH .i64 N 16)) λ(x:gX)=>some (F7 (fC N 16) (o9 x.2))) (some false):=rfl;have hl:dN (6,N) sg=some ((6,eH .i64 N 16),vty (6,eH .i64 N 16) sg.1):=by unfold dN;simp[iD];rfl
 rw[show eY (6,N) [] sg=GI N sg from Dv _ _];unfold RR GI;rw[hf,show uF (6,N) sg=some (S9 0 N)from rfl,hl];by_cases h0:0<=N
 .rw[L6 h0,ae h0,hq h0];by_cases h1:N / 16<o9 sg.1
  .obtain⟨x,hx,_⟩:=qA l7 h1;rw[U0 h1,aC h1,hx,show vty (6,N / 16) sg.1=true by unfold vty;simp[ae (show 0<=N / 16 by omega),U0 h1];rfl];simp only[o8,wu];cases S9 (o9 x.2) (fC N 16)
   .exact nok (VT.enum (N / 16)) rfl rfl
   .simp
  simp_all [L6,ae]
 simp_all [U0,aC]
theorem uX(ts:List (Int×Int))(en:L9):(∃x,H9 ts N=some x/\S9 0 N=true/\F7 N (o9 ts)=true/\nJ N ts en=some (l9 (vty x en.1) (x,0) ((0,0),8)))\/((S9 0 N=false\/S9 0 N=true/\F7 N (o9 ts)=false)/\nJ N ts en=some ((0,0),6)):=by
 unfold nJ;rw[wu N 0,KG (o9 ts) N];cases h0:S9 0 N
 .exact .inr ⟨.inl x9,rfl⟩
 cases h1:F7 N (o9 ts)
 .exact .inr ⟨.inr x9,rfl⟩
 rw[pF]at h0;rw[jV]at h1;obtain⟨x,hx,_⟩:=qA h0 h1;rw[hx];simp only[lu,Bool.not_false,o6,o7,o8,zg];exact .inl ⟨x,rfl,x9,x9,by cases vty x en.1<;>rfl⟩
theorem c0I:yA (7,N) [] sg:=by
 refine Qn rfl rfl ?_;rw[show eY (7,N) [] sg=nJ N sg.2.2.1 sg from Dv _ _];have hf:rX (7,N) sg=l9 (S9 0 N) (some (F7 N (o9 sg.2.2.1))) (some false):=rfl;unfold RR;rw[hf,show uF (7,N) sg=some true from rfl];rcases uX N sg.2.2.1 sg with⟨x,h1,h2,h3,h4⟩|⟨h1|⟨h1,h2⟩,h4⟩
 .have hl:dN (7,N) sg=some (x,vty x sg.1):=by
   unfold dN;rw[h1];simp[iD];rfl
  rw[h2,h3,h4,hl];cases hv:vty x sg.1
  .exact wI E5 rfl rfl
  .exact nok (OH hv) rfl rfl
 all_goals simp_all
theorem b6w:yA (8,N) [] sg:=by
 refine Qn rfl rfl ?_;rw[show eY (8,N) [] sg=nJ N sg.2.2.2.1 sg from Dv _ _];have hf:rX (8,N) sg=l9 (S9 0 N) (some (F7 N (o9 sg.2.2.2.1))) (some false):=rfl;unfold RR;rw[hf,show uF (8,N) sg=some true from rfl];rcases uX N sg.2.2.2.1 sg with⟨x,h1,h2,h3,h4⟩|⟨h1|⟨h1,h2⟩,h4⟩
 .have hl:dN (8,N) sg=some (x,vty x sg.1):=by
   unfold dN;rw[h1];simp[iD];rfl
  rw[h2,h3,h4,hl];cases hv:vty x sg.1
  .exact wI E5 rfl rfl
  .exact nok (OH hv) rfl rfl
 all_goals simp_all
theorem b3L:yA (9,N) [] sg:=WS rfl rfl (nok (VT.lit l7) rfl rfl)
theorem a9l:yA (35,N) [] sg:=by
 refine WS rfl rfl ?_;rw[show eY (35,0) [] sg=vT (35,0) sg from Dv _ _];unfold RR vT;simp only[uF,rX,dN,iD,o8];cases sg.2.2.2.2.2
 .exact wI E5 rfl rfl
 .exact nok (VT.lit l7) rfl rfl
theorem b6z(hk:k=36\/k=37\/k=38\/k=39):yA (k,N) [] sg:=by
 have hm:nY k=some true/\fA k=some true/\x8 k 35=false:=by rcases hk with rfl|rfl|rfl|rfl<;>exact⟨rfl,rfl,rfl⟩
 refine Qn hm.1 hm.2.1 ?_;rw[show eY (k,N) [] sg=vT (k,N) sg by rcases hk with rfl|rfl|rfl|rfl<;>exact Dv _ _];have hr:RR (k,N) [] sg=o5 (l9 sg.2.2.2.2.2 (l9 (S9 0 N) (some (F7 N (o9 sg.2.2.2.2.1))) (some false)) (some false)) λ(x:Bool)=>l9 (G6 x) (some ((0,0),6))
   (o5 (dN (k,N) sg) λ(x:D7×Bool)=>l9 (G6 x.2) (some ((0,0),8)) (some (x.1,0))):=by rcases hk with rfl|rfl|rfl|rfl<;>rfl
 rw[hr];unfold vT;rw[hm.2.2];cases sg.2.2.2.2.2
 .simp
 rcases uX N sg.2.2.2.2.1 sg with⟨x,h1,h2,h3,h4⟩|⟨h1|⟨h1,h2⟩,h4⟩
 .rw[h2,h3,h4];have hl:dN (k,N) sg=o5 (some (l9 (x8 k 36) (l9 (vty x sg.1) (l9 (x8 x.1 2) true (x8 x.1 3)) false) (l9 (x8 k 39) (l9 (vty x sg.1) (l9 (x8 x.1 2) true (l9 (x8 x.1 3) true (l9 (x8 x.1 4) true (x8 x.1 5)))) false) (l9 (vty x sg.1) (x8 x.1 1) false)))) λb=>some (x,b):=by
   unfold dN;simp[iD,uM,yP];rcases hk with rfl|rfl|rfl|rfl<;>(rw[h1];simp[x8,Int.reduceEq,decide_true,decide_false,o7,o6,o8];cases vty x sg.1<;>cases decide (x.1=2)<;>cases decide (x.1=3)<;>cases decide (x.1=4)<;>rfl)
  rw[hl];cases hv:vty x sg.1
  .rcases hk with rfl|rfl|rfl|rfl<;>exact wI E5 rfl rfl
  .have hx:=OH hv;rcases hk with rfl|rfl|rfl|rfl<;>rcases hx with rfl|rfl|rfl|rfl|rfl|⟨e,rfl⟩ <;>
    first
    |exact nok (OH hv) rfl rfl
    |exact wI E5 rfl rfl
 .rw[h1,h4];exact wI E5 rfl rfl
 .rw[h1,h2,h4];exact wI E5 rfl rfl
end
end
section
variable {a:Int×Int}{k:Int}{b:Int×Int}
section
variable (N:Int) (sg:L9)
theorem c0J(hk:k=10\/k=25\/k=31\/k=32)(ha:VT a):yA (k,N) [a] sg:=by
 have hm:nY k=some false/\fA k=some false:=by rcases hk with rfl|rfl|rfl|rfl<;>exact⟨rfl,rfl⟩
 refine WS hm.1 hm.2 ?_;rcases hk with rfl|rfl|rfl|rfl<;>rcases ha with rfl|rfl|rfl|rfl|rfl|⟨e,rfl⟩ <;>
  first
  |exact nok (VT.lit l7) rfl rfl
  |exact nok (VT.lit l7) rfl rfl
  |exact nok (VT.lit l7) rfl rfl
  |exact nok (VT.lit l7) rfl rfl
  |exact wI E5 rfl rfl
theorem b6v(hk:k=13\/k=23\/k=24\/k=27\/k=28\/k=29\/k=30)(ha:VT a)(hb:VT b):yA (k,N) [a,b] sg:=by
 have hm:nY k=some false/\fA k=some false:=by rcases hk with rfl|rfl|rfl|rfl|rfl|rfl|rfl<;>exact⟨rfl,rfl⟩
 refine WS hm.1 hm.2 ?_;rcases hk with rfl|rfl|rfl|rfl|rfl|rfl|rfl<;>rcases ha with rfl|rfl|rfl|rfl|rfl|⟨e,rfl⟩<;>rcases hb with rfl|rfl|rfl|rfl|rfl|⟨f,rfl⟩ <;>
  first
  |exact wI E5 rfl rfl
  |exact nok (VT.lit l7) rfl rfl
  |exact nok (VT.lit l7) rfl rfl
  |exact nok (VT.lit l7) rfl rfl
  |exact nok (VT.lit l7) rfl rfl
  |exact nok (VT.lit l7) rfl rfl
theorem b3N(hk:k=14\/k=15\/k=16)(ha:VT a)(hb:VT b):yA (k,N) [a,b] sg:=by
 have hm:nY k=some true/\fA k=some true:=by rcases hk with rfl|rfl|rfl<;>exact⟨rfl,rfl⟩
 refine Qn hm.1 hm.2 ?_;have hr:RR (k,N) [a,b] sg=o5 (l9 (S9 0 N) (some (S9 N 5)) (some false)) λx=>l9 (G6 x) (some ((0,0),3)) (o5 (wP k a b) λx=>l9 (G6 x.2) (some ((0,0),8)) (some (x.1,0))):=by rcases hk with rfl|rfl|rfl<;>rfl
 have he:eY (k,N) [a,b] sg=o5 (l9 (S9 0 N) (some (S9 N 5)) (some false)) λx=>l9 (G6 x) (some ((0,0),3)) (o5 (tH k [a,b]) λx=>l9 (G6 x.2) (some ((0,0),8)) (some (x.1,0))):=by
  rcases hk with rfl|rfl|rfl <;>
   (show o5 (o5 (rF N) λx=>l9 (G6 x) (some (Sum.inr (((0:Int),(0:Int)),(3:Int)))) (some (.inl ((0:Int),(0:Int))))) _=_
    unfold rF;cases S9 0 N<;>cases S9 N 5<;>rfl)
 rw[hr,he];cases S9 0 N
 .simp
 cases S9 N 5
 .simp
 rcases hk with rfl|rfl|rfl<;>rcases ha with rfl|rfl|rfl|rfl|rfl|⟨e,rfl⟩<;>rcases hb with rfl|rfl|rfl|rfl|rfl|⟨f,rfl⟩ <;>
  first
  |exact wI E5 rfl rfl
  |exact nok (VT.lit l7) rfl rfl
  |exact nok (VT.lit l7) rfl rfl
  |exact nok (VT.lit l7) rfl rfl
theorem b3O(hk:k=11\/k=12\/k=17\/k=18\/k=19\/k=20\/k=21\/k=22)(ha:VT a):yA (k,N) [a,b] sg:=by
 have hm:nY k=some false/\fA k=some false:=by rcases hk with rfl|rfl|rfl|rfl|rfl|rfl|rfl|rfl<;>exact⟨rfl,rfl⟩
 refine WS hm.1 hm.2 ?_;have hr:RR (k,0) [a,b] sg=o5 (wP k a b) λx=>l9 (G6 x.2) (some ((0,0),8)) (some (x.1,0)):=by rcases hk with rfl|rfl|rfl|rfl|rfl|rfl|rfl|rfl<;>rfl
 have he:eY (k,0) [a,b] sg=o5 (tH k [a,b]) λx=>l9 (G6 x.2) (some ((0,0),8)) (some (x.1,0)):=by rcases hk with rfl|rfl|rfl|rfl|rfl|rfl|rfl|rfl<;>rfl
 rw[hr,he];unfold wP tH;simp only[show H9 [a,b] 0=some a from rfl,show H9 [a,b] 1=some b from rfl,o8,yP,uM,kJ,qW];cases h1:x8 a.1 b.1
 .rcases hk with rfl|rfl|rfl|rfl|rfl|rfl|rfl|rfl<;>exact wI E5 rfl rfl
 cases h2:x8 a.2 b.2
 .rcases hk with rfl|rfl|rfl|rfl|rfl|rfl|rfl|rfl<;>exact wI E5 rfl rfl
 have ha' :=ha;rcases hk with rfl|rfl|rfl|rfl|rfl|rfl|rfl|rfl<;>rcases ha with rfl|rfl|rfl|rfl|rfl|⟨e,rfl⟩ <;>
  first
  |exact nok ha' rfl rfl
  |exact nok (VT.lit l7) rfl rfl
  |exact wI E5 rfl rfl
theorem c0H{a b c:Int×Int}(ha:VT a)(hb:VT b):yA (26,N) [a,b,c] sg:=by
 refine WS rfl rfl ?_;have hr:RR (26,0) [a,b,c] sg=l9 (x8 a.1 1) (l9 (G6 (fF (x8 b.1 c.1) (x8 b.2 c.2))) (some ((0,0),8)) (some (b,0))) (some ((0,0),8)):=rfl;have he:eY (26,0) [a,b,c] sg=o5 (tH 26 [a,b,c]) λx=>l9 (G6 x.2) (some ((0,0),8)) (some (x.1,0)):=rfl;have he2:tH 26 [a,b,c]=o5 (l9 (x8 a.1 1) (some (Sum.inr (b,fF (x8 b.1 c.1) (x8 b.2 c.2)))) (some (Sum.inr (b,false)))) λ(o:D7⊕D7×Bool)=>bn o (λ(x:D7)=>some ((0,0),false)) λ(r:D7×Bool)=>some r:=rfl;rw[hr,he,he2];cases x8 a.1 1
 .simp
 cases x8 b.1 c.1
 .exact wI E5 rfl rfl
 cases x8 b.2 c.2
 .exact wI E5 rfl rfl
 .exact nok hb rfl rfl
theorem a6T(ha:VT a):yA (33,N) [a] sg:=by
 refine Qn rfl rfl ?_;have he:eY (33,N) [a] sg=xK (33,N) a sg:=Dv _ _;have hr:RR (33,N) [a] sg=o5 (l9 (S9 0 N) (some (F7 N (o9 sg.2.1))) (some false)) λx=>l9 (G6 x) (some ((0,0),6)) (o5 (nT (33,N) a sg) λx=>l9 (G6 x.2) (some ((0,0),8)) (some (x.1,0))):=rfl;have hs:nT (33,N) a sg=o5 (H9 sg.2.1 N) λ(x:dM)=>o5 (iI x.2.1 sg.1) λ(x_1:Bool)=>l9 x_1 (o5 (iI x.2.2.1 sg.1) λ(x_2:Bool)=>l9 x_2 (some (x.2.2.1,fF (x8 a.1 x.2.1.1) (x8 a.2 x.2.1.2))) (some (x.2.2.1,false))) (some (x.2.2.1,false)):=rfl;rw[he,hr,hs];unfold xK;simp only[x8,Int.reduceEq,decide_false,o6,o8,V4,wu N 0,KG (o9 sg.2.1) N];cases h0:S9 0 N
 .simp
 cases h1:F7 N (o9 sg.2.1)
 .simp
 rw[pF]at h0;rw[jV]at h1;obtain⟨x,hx,_⟩:=qA h0 h1;simp only[o8,V4,lu,o6,hx,zg,iD,bY,o7];cases vty x.2.1 sg.1
 .simp
 cases hv:vty x.2.2.1 sg.1
 .simp
 cases fF (decide (a.1=x.2.1.1)) (decide (a.2=x.2.1.2))
 .simp
 .exact nok (OH hv) rfl rfl
theorem a1B(hN:iq N)(ha:VT a):yA (34,N) [a] sg:=by
 refine Qn rfl rfl ?_;have he:eY (34,N) [a] sg=xK (34,N) a sg:=Dv _ _;have hr:RR (34,N) [a] sg=o5 (l9 (S9 0 N) (some (S9 (fC N 8) 5)) (some false)) λx=>l9 (G6 x) (some ((0,0),3)) (l9 (G6 (F7 (eH .i64 N 8) (o9 sg.2.1))) (some ((0,0),6)) (o5 (nT (34,N) a sg) λx=>l9 (G6 x.2) (some ((0,0),8)) (some (x.1,0)))):=rfl;have hs:nT (34,N) a sg=o5 (H9 sg.2.1 (eH .i64 N 8)) λ(x:dM)=>l9 (x8 a.1 3) (l9 (fF (x8 x.2.1.1 3) (x8 x.2.1.2 0)) (some (a,fF (x8 x.2.2.1.1 4) (x8 x.2.2.1.2 0))) (some (a,false))) (some (a,false)):=rfl;rw[he,hr,hs];unfold xK rF;by_cases h0:0<=N
 case neg=>rw[aC l7,U0 (show N<0 by omega)];exact wI E5 rfl rfl
 have hq:eH .i64 N 8=N / 8:=by rw[zo (by grind [iq]),jw h0]
 rw[ae h0,L6 h0,hq,zq h0];simp only[x8,Int.reduceEq,decide_true,o7,o6,ae (show 0<=N % 8 by omega),o8];cases S9 (N % 8) 5
 .simp
 simp only[E8,o6,o8,V4,L6 (show 0<=N / 8 by omega),KG];cases h1:F7 (N / 8) (o9 sg.2.1)
 .simp
 rw[jV]at h1;obtain⟨x,hx,_⟩:=qA l7 h1;simp only[hx,lu,o6,o8,V4,zg,E8];obtain⟨nm,⟨k1,k2⟩,⟨v1,v2⟩,rows⟩:=x;by_cases hK:k1=3/\k2=0
 .obtain⟨rfl,rfl⟩:=hK;by_cases hV:v1=4/\v2=0
  .obtain⟨rfl,rfl⟩:=hV;rcases ha with rfl|rfl|rfl|rfl|rfl|⟨e,rfl⟩ <;>
    first
    |exact nok (VT.lit l7) rfl rfl
    |exact wI E5 rfl rfl
  .have hE:vty (v1,v2) sg.1=true->v1≠4:=λhv h=>by
    subst h;rcases OH hv with h|h|h|h|h|⟨e,h⟩<;>cases h;simp_all
   have hR:fF (decide (v1=4)) (decide (v2=0))=false:=by simp_all [fF]
   rw[hR];cases hv:vty (v1,v2) sg.1
   .rcases ha with rfl|rfl|rfl|rfl|rfl|⟨e,rfl⟩<;>exact wI (c:=8) E5 rfl rfl
   .rw[show decide (v1=4)=false by grind];rcases ha with rfl|rfl|rfl|rfl|rfl|⟨e,rfl⟩<;>exact wI E5 rfl rfl
 .have hR:fF (decide (k1=3)) (decide (k2=0))=false:=by
   simp_all [fF]
  rw[hR];cases hv:vty (k1,k2) sg.1
  .rcases ha with rfl|rfl|rfl|rfl|rfl|⟨e,rfl⟩<;>exact wI E5 rfl rfl
  cases hw:vty (v1,v2) sg.1
  .rcases ha with rfl|rfl|rfl|rfl|rfl|⟨e,rfl⟩<;>exact wI E5 rfl rfl
  have h3:k1≠3:=λh=>by subst h;rcases OH hv with h|h|h|h|h|⟨e,h⟩<;>cases h;simp_all
  simp only[show decide (k1=3)=false by grind,E8,o6,o7,o8];cases fF (decide (a.1=k1)) (decide (a.2=k2))
  .cases decide (a.1=3)<;>exact wI E5 rfl rfl
  .cases decide (a.1=3)<;>exact wI E5 rfl rfl
theorem a4r(n:Int×Int)(hN:iq n.2)(ops:List (Int×Int))(hv:∀t∈ops,VT t)(hl:o9 ops=lG n.1):yA n ops sg:=by
 obtain⟨op,N⟩:=n;have hr:1<=op/\op<=39:=by
  grind [lG,a4F,o9]
 have hc:op=1\/op=2\/op=3\/op=4\/op=5\/op=6\/op=7\/op=8\/op=9\/op=10\/op=11\/op=12\/op=13\/op=14\/op=15\/op=16\/op=17\/op=18\/op=19\/op=20\/op=21\/op=22\/op=23\/op=24\/op=25\/op=26\/op=27\/op=28\/op=29\/op=30\/op=31\/op=32\/op=33\/op=34\/op=35\/op=36\/op=37\/op=38\/op=39:=l7;have L0:lG op=0->ops=[]:=λh=>by simp_all [o9]
 have L1:lG op=1->∃a,ops=[a]/\VT a:=λh=>by
  simp[o9]at hl;match ops,hl,hv with
  |[a],_,hv=>simp_all|[],hl,_=>simp_all|a::b::r,hl,_=>grind
 have L2:lG op=2->∃a b,ops=[a,b]/\VT a/\VT b:=λh=>by
  simp[o9]at hl;match ops,hl,hv with
  |[a,b],_,hv=>grind|[],hl,_=>simp_all|[a],hl,_=>simp_all|a::b::c::r,hl,_=>grind
 have L3:lG op=3->∃a b c,ops=[a,b,c]/\VT a/\VT b:=λh=>by
  simp[o9]at hl;match ops,hl,hv with
  |[a,b,c],_,hv=>grind|[],hl,_=>simp_all|[a],hl,_=>simp_all|[a,b],hl,_=>simp_all|a::b::c::d::r,hl,_=>grind
 rcases hc with rfl|rfl|rfl|rfl|rfl|rfl|rfl|rfl|rfl|rfl|rfl|rfl|rfl|rfl|rfl|rfl|rfl|rfl|rfl|rfl|rfl|rfl|rfl|rfl|rfl|rfl|rfl|rfl|rfl|rfl|rfl|rfl|rfl|rfl|rfl|rfl|rfl|rfl|rfl <;>
  first
  |(rw[L0 rfl];first|exact b6y N sg l7|exact b3M N sg hN|exact c0I N sg|exact b6w N sg|exact b3L N sg|exact a9l N sg|exact b6z N sg l7)
  |(obtain⟨a,rfl,ha⟩:=L1 rfl;first|exact c0J N sg l7 ha|exact a6T N sg ha|simp_all [a1B])
  |(obtain⟨a,b,rfl,ha,hb⟩:=L2 rfl;first|exact b6v N sg l7 ha hb|exact b3N N sg l7 ha hb|exact b3O N sg l7 ha)
  |(obtain⟨a,b,c,rfl,ha,hb⟩:=L3 rfl<;>simp_all [c0H])
end
end
section
def XT.wf:XT->Prop
 | .l0 n=>lG n.1=0| .l1 n a=>lG n.1=1/\a.wf| .l2 n a b=>lG n.1=2/\a.wf/\b.wf| .l3 n a b c=>lG n.1=3/\a.wf/\b.wf/\c.wf
theorem c0X{n:Int×Int}{ts ts' :List XT}(h:push n ts= .inr ts')(hw:∀t∈ts,t.wf):∀t∈ts',t.wf:=by
 unfold push at h;split at h
 .cases h;intro t ht;rcases C9.1 ht with rfl|ht
  .assumption
  simp_all
 split at h
 .split at h
  .cases h;intro t ht;rcases C9.1 ht with rfl|ht
   .exact⟨l7,hw _ x9⟩
   simp_all
  grind
 split at h
 .split at h
  .cases h;intro t ht;rcases C9.1 ht with rfl|ht
   .exact⟨l7,hw _ x9,hw _ x9⟩
   simp_all
  grind
 split at h
 .split at h
  .cases h;intro t ht;rcases C9.1 ht with rfl|ht
   .exact⟨l7,hw _ x9,hw _ x9,hw _ x9⟩
   simp_all
  grind
 grind
theorem a7f:∀(es:List (Int×Int)) (i:Nat) (ts ts' :List XT),zO i es ts= .inr ts' ->(∀t∈ts,t.wf)->∀t∈ts',t.wf
 |[],i,ts,ts',h,hw=>by cases h;omega|n::es,i,ts,ts',h,hw=>by
  unfold zO at h;cases hp:push n ts with
  |inl c=>rw[hp]at h;cases h|inr t2=>
   rw[hp]at h;simp at h;split at h
   .cases h
   .exact a7f es (i+1) t2 ts' h (c0X hp hw)
variable {e:List (Int×Int)}
theorem Jg{t:XT}(h:kX e= .inr t):t.wf:=by
 grind [kX,a7f]
def IL(n:Int×Int)(ops:List (Int×Int))(sg:L9):(Int×Int)×Int:=(IJ n ops sg).getD ((0,0),0)
def Io(sg:L9)(n:Int×Int)(ops:List (Int×Int))(i:Nat):(Int×Int)⊕(Int×Int):=if(IL n ops sg).2=0 then .inr (IL n ops sg).1 else .inl ((i:Int),(IL n ops sg).2)
def fJ(sg:L9):XT->Nat->(Int×Int)⊕(Int×Int)
 | .l0 n,o=>Io sg n [] o
 | .l1 n a,o=>match fJ sg a o with
  | .inl x=> .inl x| .inr ta=>Io sg n [ta] (o+a.size)
 | .l2 n a b,o=>match fJ sg a o with
  | .inl x=> .inl x
  | .inr ta=>match fJ sg b (o+a.size)with
   | .inl x=> .inl x| .inr tb=>Io sg n [ta,tb] (o+a.size+b.size)
 | .l3 n a b c,o=>match fJ sg a o with
  | .inl x=> .inl x
  | .inr ta=>match fJ sg b (o+a.size)with
   | .inl x=> .inl x
   | .inr tb=>match fJ sg c (o+a.size+b.size)with
    | .inl x=> .inl x| .inr tc=>Io sg n [ta,tb,tc] (o+a.size+b.size+c.size)
variable {i:Nat}{t:Int×Int}
theorem AQ{sg:L9}{n:Int×Int}{ops:List (Int×Int)}(hN:iq n.2)(hv:∀t∈ops,VT t)(hl:o9 ops=lG n.1)(h:Io sg n ops i= .inr t):VT t:=by obtain⟨r,h1,h2,h3⟩:=a4r sg n hN ops hv hl<;>grind [Io,IL]
section
variable (e:List (Int×Int)) (sg:L9) (z:Int×Int)
def c2g(f:(Int×Int)×List (Int×Int)×Int->Option (Out ((Int×Int)×List (Int×Int)×Int) ((Int×Int)×List (Int×Int)) ((Int×Int)×Int×Int))):Prop:=
 ∀(i:Nat) (n:Int×Int) (s ops:List (Int×Int)),e[i]? =some n->i<=100->o9 ops=lG n.1->(∀t∈ops,VT t)->s.length+ops.length<=100->
  f (z,s++ops,(i:Int))=some (match Io sg n ops i with| .inl x=> .rt ((0,0),x)| .inr t=> .nx (z,s++[t],((i+1:Nat):Int)))
theorem b4F{f:(Int×Int)×List (Int×Int)×Int->Option (Out ((Int×Int)×List (Int×Int)×Int) ((Int×Int)×List (Int×Int)) ((Int×Int)×Int×Int))}
  (he:e.length<=48) (hI:∀n∈e,iq n.2) (hs:c2g e sg z f):∀(t:XT),t.wf->∀(pre suf s:List (Int×Int)) (k:Nat),e=pre++t.post++suf->s.length<=pre.length->
  qi f (k+t.size) (z,s,(pre.length:Int))=(match fJ sg t pre.length with| .inl x=>some (.inr ((0,0),x))| .inr r=>qi f k (z,s++[r],((pre.length+t.size:Nat):Int)))/\∀r,fJ sg t pre.length= .inr r->VT r:=by
 intro t;have step:∀(i k:Nat) (n:Int×Int) (s ops:List (Int×Int)),e[i]? =some n->o9 ops=lG n.1->(∀t∈ops,VT t)->s.length+ops.length<=100->
   qi f (k+1) (z,s++ops,(i:Int))=(match Io sg n ops i with| .inl x=>some (.inr ((0,0),x))| .inr r=>qi f k (z,s++[r],((i+1:Nat):Int))):=by
  intro i k n s ops h1 h2 h3 h4;rw[qi,hs i n s ops h1 (by have:=(U8.1 h1).1;omega) h2 h3 h4];cases Io sg n ops i<;>rfl
 have getn:∀(pre suf:List (Int×Int)) (n:Int×Int),e=pre++[n]++suf->e[pre.length]? =some n:=by intro pre suf n h;rw[h,G7,F6 l7,aU];rfl
 have mem:∀(i:Nat) (n:Int×Int),e[i]? =some n->iq n.2:=λi n h=>hI n (lM h);induction t with
 |l0 n=>
  intro hw pre suf s k hd hl;have hn:=getn pre suf n hd;have hlen:pre.length<e.length:=(U8.1 hn).1;have hz:o9 ([]:List (Int×Int))=lG n.1:=by rw[show lG n.1=0 from hw];rfl
  have h:=step pre.length k n s [] hn hz x9 U3;rw[G9]at h;exact⟨h,λr hr=>AQ (mem _ n hn) x9 hz hr⟩
 |l1 n a iha=>
  intro hw pre suf s k hd hl;simp only[XT.post,G7]at hd;have hpa:(pre++a.post).length=pre.length+a.size:=by simp[XT.post_len]
  have hn:=getn (pre++a.post) suf n (by simpa using hd);rw[hpa]at hn;have hlen:=(U8.1 hn).1;obtain⟨i1,i2⟩:=iha hw.2 pre ([n]++suf) s (k+1) (by simpa using hd) hl;simp only[XT.size,fJ];rw[show k+(a.size+1)=(k+1)+a.size by omega,i1];cases ht:fJ sg a pre.length with
  |inl x=>exact⟨rfl,λr hr=>by cases hr⟩|inr ta=>
   have hz:o9 [ta]=lG n.1:=by rw[show lG n.1=1 from hw.1];rfl
   have hv:∀t∈[ta],VT t:=by simpa using i2 ta ht
   exact⟨step _ k n s [ta] hn hz hv U3,λr hr=>AQ (mem _ n hn) hv hz hr⟩
 |l2 n a b iha ihb=>
  intro hw pre suf s k hd hl;simp only[XT.post,G7]at hd;have hpa:(pre++a.post).length=pre.length+a.size:=by simp[XT.post_len]
  have hpb:(pre++a.post++b.post).length=pre.length+a.size+b.size:=by simp[XT.post_len];omega
  have hn:=getn (pre++a.post++b.post) suf n (by simpa using hd);rw[hpb]at hn;have hlen:=(U8.1 hn).1;obtain⟨i1,i2⟩:=iha hw.2.1 pre (b.post++[n]++suf) s (k+1+b.size) (by simpa using hd) hl;simp only[XT.size,fJ];rw[show k+(a.size+b.size+1)=(k+1+b.size)+a.size by omega,i1];cases ht:fJ sg a pre.length with
  |inl x=>exact⟨rfl,λr hr=>by cases hr⟩|inr ta=>
   have hsa:=a.size_pos;obtain⟨j1,j2⟩:=ihb hw.2.2 (pre++a.post) ([n]++suf) (s++[ta]) (k+1) (by simpa using hd) (by simp[XT.post_len];omega);rw[hpa]at j1 j2;simp only;rw[j1];cases hu:fJ sg b (pre.length+a.size)with
   |inl x=>exact⟨rfl,λr hr=>by cases hr⟩|inr tb=>
    have hz:o9 [ta,tb]=lG n.1:=by rw[show lG n.1=2 from hw.1];rfl
    have hv:∀t∈[ta,tb],VT t:=by simp_all
    have:=step _ k n s [ta,tb] hn hz hv (by grind);simp only[G7,cO,P6];rw[show pre.length+(a.size+b.size+1)=pre.length+a.size+b.size+1 by omega];exact⟨this,λr hr=>AQ (mem _ n hn) hv hz hr⟩
 |l3 n a b c iha ihb ihc=>
  intro hw pre suf s k hd hl;simp only[XT.post,G7]at hd;have hpa:(pre++a.post).length=pre.length+a.size:=by simp[XT.post_len]
  have hpb:(pre++a.post++b.post).length=pre.length+a.size+b.size:=by grind [XT.post_len]
  have hpc:(pre++a.post++b.post++c.post).length=pre.length+a.size+b.size+c.size:=by grind [XT.post_len]
  have hn:=getn (pre++a.post++b.post++c.post) suf n (by simp_all);rw[hpc]at hn;have hlen:=(U8.1 hn).1;obtain⟨i1,i2⟩:=iha hw.2.1 pre (b.post++(c.post++([n]++suf))) s (k+1+c.size+b.size) (by simp_all) hl;simp only[XT.size,fJ];rw[show k+(a.size+b.size+c.size+1)=(k+1+c.size+b.size)+a.size by omega,i1];have hsa:=a.size_pos;have hsb:=b.size_pos;cases ht:fJ sg a pre.length with
  |inl x=>simp|inr ta=>
   obtain⟨j1,j2⟩:=ihb hw.2.2.1 (pre++a.post) (c.post++([n]++suf)) (s++[ta]) (k+1+c.size) (by simp_all) (by grind);rw[hpa]at j1 j2;simp only;rw[j1];cases hu:fJ sg b (pre.length+a.size)with
   |inl x=>simp|inr tb=>
    obtain⟨q1,q2⟩:=ihc hw.2.2.2 (pre++a.post++b.post) ([n]++suf) (s++[ta]++[tb]) (k+1) (by simp_all) (by grind);rw[hpb]at q1 q2;simp only;rw[q1];cases hc:fJ sg c (pre.length+a.size+b.size)with
    |inl x=>simp|inr tc=>
     have hz:o9 [ta,tb,tc]=lG n.1:=by rw[show lG n.1=3 from hw.1];rfl
     have hv:∀t∈[ta,tb,tc],VT t:=by simp_all
     have:=step _ k n s [ta,tb,tc] hn hz hv (by grind);simp only[G7,cO,P6];rw[show pre.length+(a.size+b.size+c.size+1)=pre.length+a.size+b.size+c.size+1 by omega];exact⟨this,λr hr=>AQ (mem _ n hn) hv hz hr⟩
end
def sZ(e:List (Int×Int))(sg:L9):(Int×Int)×Int×Int:=match kX e with
 | .inl x=>((0,0),x)
 | .inr t=>match fJ sg t 0 with
  | .inl x=>((0,0),x)| .inr r=>(r,0,0)
variable {α:Type}
theorem b0P(s ops:List α)(k:Int)(hk:o9 ops=k)(h:s.length+ops.length<=100):
  I8 .i64 (o9 (s++ops)) k=(s.length:Int)/\nG (s.length:Int) (o9 (s++ops)) (o9 (s++ops))=true/\lJ (s++ops) (O9 (s.length:Int)) (O9 (o9 (s++ops)))=ops
  /\nG 0 (s.length:Int) (o9 (s++ops))=true/\lJ (s++ops) (O9 0) (O9 (s.length:Int))=s:=by
 refine⟨?_,?_,?_,?_,?_⟩
 .grind [U7,iq,o9]
 .grind [nG,o9]
 .show((s++ops).take (((s++ops).length:Nat):Int).toNat).drop s.length=ops
  grind [Int.toNat_natCast]
 .grind [nG,o9]
 simp[lJ,O9]
theorem b0N{sg:L9}{f:(Int×Int)×List (Int×Int)×Int->Option (Out ((Int×Int)×List (Int×Int)×Int) ((Int×Int)×List (Int×Int)) ((Int×Int)×Int×Int))}
  (hI:∀n∈e,iq n.2) (hs:c2g e sg (0,0) f) (hend:∀s,f ((0,0),s,(e.length:Int))=some (.ex ((0,0),s))) (hcode:∀x,kX e= .inl x->x.2≠0):
  l9 (G6 (x8 (Fa e).2.2 0)) (some ((((0:Int),(0:Int)),(Fa e).2):(Int×Int)×Int×Int)) (o5 (bD f (((0:Int),(0:Int)),([]:List (Int×Int)),(0:Int))) λ(o:(Int×Int)×List (Int×Int)⊕(Int×Int)×Int×Int)=>
   bn o (λ(y:(Int×Int)×List (Int×Int))=>o5 (H9 y.2 0) λ(x:Int×Int)=>o5 (P7 y.2 (O9 0)) λ(x:Int×Int)=>some (x,0,0)) λ(r:(Int×Int)×Int×Int)=>some r)=some (sZ e sg):=by
 unfold Fa sZ;cases h:kX e with
 |inl x=>simp_all [I4]|inr t=>
  obtain⟨hp,h48⟩:=wS h;have hw:=Jg h;obtain⟨l1,_⟩:=b4F e sg (0,0) h48 hI hs t hw [] [] [] (kK -t.size) (by simp_all) x9;have hsz:e.length=t.size:=by rw[hp,XT.post_len]
  have hlo:bD f (((0:Int),(0:Int)),([]:List (Int×Int)),(0:Int))=qi f (kK -t.size+t.size) ((0,0),[],(([]:List (Int×Int)).length:Int)):=by
   grind [bD,kK]
  rw[hlo,l1];simp;cases fJ sg t 0 with
  |inl x=>rfl|inr r=>obtain⟨k,hk⟩:∃k,kK -t.size=k+1:=⟨kK -t.size -1,by grind [kK]⟩;simp;rw[hk,qi,←hsz,hend];rfl
theorem Eh{x:Int×Int}(h:kX e= .inl x):x.2≠0:=by
 have key:∀(es:List (Int×Int)) (i:Nat) (ts:List XT) (x:Int×Int),zO i es ts= .inl x->x.2≠0:=by
  intro es;induction es with
  |nil=>intro i ts x h;cases h|cons n es ih=>
   intro i ts x h;unfold zO at h;cases hp:push n ts with
   |inl c=>rw[hp]at h;unfold push at hp<;>grind|inr t2=>
    grind
 grind [kX]
theorem b4D(sg:L9)(hI:∀n∈e,iq n.2):KC e sg=some (sZ e sg):=by
 unfold KC;rw[IP,o8];refine b0N hI (λi n s ops hn hi2 hl hv hlen=>?_) (λs=>?_) (λx h=>Eh h)
 .obtain⟨r,h1,h2,h3⟩:=a4r sg n (hI n (lM hn)) ops hv hl;obtain⟨v1,v2,v3,v4,v5⟩:=b0P s ops _ hl hlen;have e' :IL n ops sg=r:=by simp_all [IL]
  have hi:=(U8.1 hn).1;simp only[au hn,o7,G8,hn,o8,Kr,v1,v2,v3,v4,v5];unfold Io;rw[e'];unfold EN at h2;have fin:eY n ops sg=some r->(o5 (eY n ops sg) λ(x_3:D7×Int)=>l9 (G6 (x8 x_3.2 0)) (some (Out.rt ((((0:Int),(0:Int)),((i:Int),x_3.2)):(Int×Int)×Int×Int)))
    (o5 (fE s [x_3.1]) λ(x_4:List D7)=>some (Out.nx (((0:Int),(0:Int)),x_4,A8 .i64 (i:Int) 1))))=
    some (match if r.2=0 then(.inr r.1:(Int×Int)⊕(Int×Int))else .inl ((i:Int),r.2)with| .inl x=>Out.rt ((0,0),x)| .inr t=>(Out.nx ((0,0),s++[t],((i+1:Nat):Int)):Out ((Int×Int)×List (Int×Int)×Int) ((Int×Int)×List (Int×Int)) ((Int×Int)×Int×Int))):=by
   intro hr;rw[hr,o8];by_cases h0:r.2=0
   .grind [L8,E8,o6,kU,o8,ja]
   simp_all [I4]
  cases hz:x8 n.2 0
  .rw[hz]at h2;simp[bY,o7]at h2 ⊢;cases hu:nY n.1 with
   |none=>simp_all|some u=>
    rw[hu]at h2;simp only[o8]at h2 ⊢;cases u
    .grind [bY,o7]
    simp_all
  simp_all
 simp[ak]
section
variable {α β σ ε ρ:Type}
theorem DF(l:List α)(G:β->α->β)(mk:β->Int->σ)(fin:β->ε)(Inv:Nat->β->Prop){f:σ->Option (σ⊕ε)}{b:β}(hl:l.length<=1000000)(h0:Inv 0 b)
  (hin:∀(i:Nat) (a:α) (b:β),l[i]? =some a->i<=1000000->Inv i b->f (mk b (i:Int))=some (.inl (mk (G b a) ((i+1:Nat):Int)))/\Inv (i+1) (G b a))
  (hend:∀b,Inv l.length b->f (mk b (l.length:Int))=some (.inr (fin b))):
  X8 f (mk b 0)=some (fin (l.foldl G b))/\Inv l.length (l.foldl G b):=by
 have key:∀(n i:Nat) (b:β),i<=l.length->l.length -i<n->Inv i b->qC f n (mk b (i:Int))=some (fin ((l.drop i).foldl G b))/\Inv l.length ((l.drop i).foldl G b):=by
  intro n;induction n with
  |zero=>intro i b _ h _;omega|succ n ih=>
   intro i b hi hn hI;unfold qC;by_cases h:i<l.length
   .have e:=dE h;obtain⟨h1,h2⟩:=hin i _ b e l7 hI;rw[h1,aG h];exact ih (i+1) _ l7 l7 h2
   .have:i=l.length:=l7;subst this;rw[hend b hI,Fz];exact⟨rfl,hI⟩
 have:=key kK 0 b l7 (by unfold kK;omega) h0;exact this
theorem NL{γ:Type}(l:List α)(G:β->α->β)(mk:β->Int->σ)(fin:β->ε)(Inv:Nat->β->Prop)(b:β){f:σ->Option (σ⊕ε)}{K:ε->Option γ}{r:Option γ}(hl:l.length<=1000000)(h0:Inv 0 b)
  (hin:∀(i:Nat) (a:α) (b:β),l[i]? =some a->i<=1000000->Inv i b->f (mk b (i:Int))=some (.inl (mk (G b a) ((i+1:Nat):Int)))/\Inv (i+1) (G b a))
  (hend:∀b,Inv l.length b->f (mk b (l.length:Int))=some (.inr (fin b))) (hk:Inv l.length (l.foldl G b)->K (fin (l.foldl G b))=r):o5 (X8 f (mk b 0)) K=r:=by
 obtain⟨h1,h2⟩:=DF l G mk fin Inv hl h0 hin hend<;>simp_all
def eG(G:β->α->β⊕ρ):List α->β->β⊕ρ
 |[],b=> .inl b
 |a::l,b=>match G b a with| .inl b' =>eG G l b'| .inr r=> .inr r
theorem O_(l:List α)(G:β->α->β⊕ρ)(mk:β->Int->σ)(fin:β->ε)(Inv:Nat->β->Prop){f:σ->Option (Out σ ε ρ)}{b:β}(hl:l.length<=1000000)(h0:Inv 0 b)
  (hin:∀(i:Nat) (a:α) (b:β),l[i]? =some a->i<=1000000->Inv i b->f (mk b (i:Int))=some (match G b a with| .inl b' => .nx (mk b' ((i+1:Nat):Int))| .inr r=> .rt r)/\∀b',G b a= .inl b' ->Inv (i+1) b')
  (hend:∀b,Inv l.length b->f (mk b (l.length:Int))=some (.ex (fin b))):
  bD f (mk b 0)=some (match eG G l b with| .inl b' => .inl (fin b')| .inr r=> .inr r)/\∀b',eG G l b= .inl b' ->Inv l.length b' :=by
 have key:∀(n i:Nat) (b:β),i<=l.length->l.length -i<n->Inv i b->qi f n (mk b (i:Int))=some (match eG G (l.drop i) b with| .inl b' => .inl (fin b')| .inr r=> .inr r)/\∀b',eG G (l.drop i) b= .inl b' ->Inv l.length b' :=by
  intro n;induction n with
  |zero=>simp|succ n ih=>
   intro i b hi hn hI;unfold qi;by_cases h:i<l.length
   .have e:=dE h
    grind [List.drop_eq_getElem_cons,eG]
   .have:i=l.length:=l7;subst this;rw[hend b hI,Fz];exact⟨rfl,λb' hb=>by cases hb;omega⟩
 have:=key kK 0 b l7 (by grind [kK]) h0;exact this
theorem pM{γ:Type}(l:List α)(G:β->α->β⊕ρ)(mk:β->Int->σ)(fin:β->ε)(Inv:Nat->β->Prop)(b:β){f:σ->Option (Out σ ε ρ)}{K:ε⊕ρ->Option γ}{r:Option γ}(hl:l.length<=1000000)(h0:Inv 0 b)
  (hin:∀(i:Nat) (a:α) (b:β),l[i]? =some a->i<=1000000->Inv i b->f (mk b (i:Int))=some (match G b a with| .inl b' => .nx (mk b' ((i+1:Nat):Int))| .inr r=> .rt r)/\∀b',G b a= .inl b' ->Inv (i+1) b')
  (hend:∀b,Inv l.length b->f (mk b (l.length:Int))=some (.ex (fin b)))
  (hk:(∀b',eG G l b= .inl b' ->Inv l.length b')->K (match eG G l b with| .inl b' => .inl (fin b')| .inr r=> .inr r)=r):o5 (bD f (mk b 0)) K=r:=by
 obtain⟨h1,h2⟩:=O_ l G mk fin Inv hl h0 hin hend<;>simp_all
end
def a5e(c:UInt8):Bool:=decide (32<=c.toNat)&&decide (c.toNat<=126)&&decide (c.toNat≠34)
def b0z(s:d4C):Bool:=decide (s.length<=64)&&s.all a5e
theorem b1C(c:UInt8):∀s:d4C,decide (0<=Lib.indexByte s c)=s.any λx=>decide (x.toNat=c.toNat)
 |[]=>by simp[Lib.indexByte]|b::l=>by
  have ih:=b1C c l;have e:Lib.indexByte (b::l) c=if b=c then 0 else if Lib.indexByte l c=-1 then -1 else Lib.indexByte l c+1:=by simp[Lib.indexByte]
  by_cases h:b=c
  .simp_all
  .have h2:=λhh=>h (UInt8.toNat_inj.1 hh)
   grind
theorem b9l(c:UInt8):a5e c=(!F7 (c.toNat:Int) 32&&!F7 126 (c.toNat:Int)&&!x8 (c.toNat:Int) 34):=by
 grind [a5e,F7,x8]
theorem b1f(s:d4C)(p:UInt8->Bool):(∀(i:Nat) (a:UInt8),s[i]? =some a->p a=true)↔s.all p=true:=by rw[kG];exact⟨λh x hx=>by obtain⟨i,hi,rfl⟩:=Y5 hx;exact h i _ (dE hi),λh i a hi=>h a (lM hi)⟩
theorem a1h{s:d4C}(h:s.length<=1000000):Dq s=some (b0z s):=by
 unfold Dq;have h5:F7 64 (o9 s)= !decide (s.length<=64):=by grind [F7,o9]
 rw[h5,show Ce s [34]=some (s.any λx=>decide (x.toNat=(34:UInt8).toNat))from congrArg some (b1C 34 s)];unfold b0z;cases decide (s.length<=64)
 .rfl
 simp only[lu,o6,o8,qO];cases h34:s.any λx=>decide (x.toNat=(34:UInt8).toNat)
 case true=>
  obtain⟨x,hx,hx2⟩:=mV.1 h34;have:s.all a5e=false:=by
   grind [a5e]
  simp_all
 refine cZ (WP s (λi a=>a5e a) false PUnit.unit _ l7 (λi x hx=>?_) ?_) ?_
 rotate_left 2
 .by_cases hw:s.all a5e=true
  .rw[if_pos ((b1f s a5e).2 hw),hw];rfl
  .rw[if_neg (λh=>hw ((b1f s a5e).1 h))];simp_all
 .have hi:=(U8.1 hx).1;have hne:x8 (x.toNat:Int) 34=false:=by
   grind [I4]
  simp[au hx,o7,b2w,hx,iC,o8];rw[ja l7,b9l,hne];cases F7 (x.toNat:Int) 32<;>cases F7 126 (x.toNat:Int)<;>rfl
 simp[ak]
def Fq(e:List (Int×Int))(sg:L9)(t:Int×Int):Int:=l9 (x8 (sZ e sg).2.2 0) (l9 (fF (x8 (sZ e sg).1.1 t.1) (x8 (sZ e sg).1.2 t.2)) 0 8) (sZ e sg).2.2
theorem UE(sg:L9)(t:Int×Int)(hI:∀n∈e,iq n.2):zG e sg t=some (Fq e sg t):=by
 unfold zG Fq;rw[b4D sg hI,o8];cases x8 (sZ e sg).2.2 0
 .rfl
 cases fF (x8 (sZ e sg).1.1 t.1) (x8 (sZ e sg).1.2 t.2)<;>rfl
def a8k(r:iT):Prop:=r.1.length<=4611686018427387904/\r.2.2.2.2.2.2.2.length<=1000000/\(∀n∈r.2.2.2.2.2.1,iq n.2)/\(∀n∈r.2.2.2.2.2.2.1,iq n.2)
def Pi(rs:List iT)(d:Int):Nat:=rs.countP λo=>x8 o.2.1 d
def PY(r:iT)(sg:L9)(t:Int×Int):Int:=
 l9 (F7 0 (o9 r.2.2.2.2.2.1)) (l9 (x8 (Fq r.2.2.2.2.2.1 sg (1,0)) 0) (Fq r.2.2.2.2.2.2.1 sg t) (Fq r.2.2.2.2.2.1 sg (1,0))) (Fq r.2.2.2.2.2.2.1 sg t)
def KX(s:F9)(sg:L9)(k:Nat)(r:iT):Int:=
 l9 (Ko r.1) (l9 ((s.2.2.2.2.take k).any λx=>seq x.1 r.1) 7 (match H9 s.2.2.2.1 r.2.1 with
  |none=>6|some d=>l9 (l9 (x8 r.2.2.1 (-1)) false (l9 (F7 r.2.2.1 0) true (l9 (S9 k r.2.2.1) true (match H9 s.2.2.2.2 r.2.2.1 with|some q=>G6 (x8 q.2.1 r.2.1)|none=>true)))) 9
   (l9 (F7 r.2.2.2.1 0) 3 (l9 (F7 9 r.2.2.2.1) 3 (l9 (Ny r.2.2.2.2.1) (l9 (x8 r.2.2.2.2.1.1 r.2.2.2.2.1.2) 3
    (l9 (S9 8 (Pi (s.2.2.2.2.take k) r.2.1)) 4 (l9 (b0z r.2.2.2.2.2.2.2) (PY r sg d.2) 2))) 3))))) 2
theorem xO{l:List α}{i:Int}(h:S9 0 i=false\/F7 i (o9 l)=false):H9 l i=none:=by
 grind [H9,LH,jW,o9]
variable {s:F9}{r:iT}{k:Nat}
theorem a3P(sg:L9)(hr:s.2.2.2.2[k]? =some r)(hl:s.2.2.2.2.length<=100000)(h:a8k r):GM s (k:Int) sg=some (KX s sg k r):=by
 have hk:=(U8.1 hr).1;unfold GM;rw[G8,hr,o8,Ea l7,o8];refine cZ (DF (s.2.2.2.2.take k) (λ(c:Nat) (o:iT)=>l9 (x8 o.2.1 r.2.1) (c+1) c) (λc i=>((c:Int),i)) (λc=>(c:Int)) (λi c=>c<=i) (b:=0) (by grind) l7 (λi a c ha hi hc=>?_) (λc hc=>?_)).1 ?_
 rotate_left 2
 .have hf:∀(l:List iT) (c:Nat),l.foldl (λ(c:Nat) (o:iT)=>l9 (x8 o.2.1 r.2.1) (c+1) c) c=c+Pi l r.2.1:=by
   intro l;induction l with
   |nil=>intro c;rfl|cons a l ih=>intro c;rw[gm,ih];unfold Pi;rw[List.countP_cons];cases x8 a.2.1 r.2.1<;>simp<;>omega
  rw[hf,gQ,o8,LW h.1,o8,o8,a8W _ (by grind),o8];unfold KX;cases Ko r.1
  .rfl
  cases (s.2.2.2.2.take k).any λx=>seq x.1 r.1
  case true=>rfl
  rw[wu r.2.1 0,KG (o9 s.2.2.2.1) r.2.1];cases h0:S9 0 r.2.1
  .simp_all [xO]
  cases h1:F7 r.2.1 (o9 s.2.2.2.1)
  .simp_all [xO]
  obtain⟨d,hd,_⟩:=qA (pF.1 h0) (jV.1 h1);rw[hd];simp only[lu,o6,o8,a1h h.2.1];have hpar:(l9 (G6 (x8 r.2.2.1 (-1))) (l9 (F7 r.2.2.1 0) (some true) (l9 (S9 (k:Int) r.2.2.1) (some true) (o5 (H9 s.2.2.2.2 r.2.2.1) λ(x_6:iT)=>some (G6 (x8 x_6.2.1 r.2.1))))) (some false))=
    some (l9 (x8 r.2.2.1 (-1)) false (l9 (F7 r.2.2.1 0) true (l9 (S9 k r.2.2.1) true (match H9 s.2.2.2.2 r.2.2.1 with|some q=>G6 (x8 q.2.1 r.2.1)|none=>true)))):=by
   cases x8 r.2.2.1 (-1)
   case true=>rfl
   cases hp0:F7 r.2.2.1 0
   case true=>rfl
   cases hp1:S9 (k:Int) r.2.2.1
   case true=>rfl
   rw[jW]at hp0;rw[LH]at hp1;obtain⟨q,hq,_⟩:=qA (l:=s.2.2.2.2) hp0 (by grind [o9]);simp_all
  rw[hpar,o8];cases (l9 (x8 r.2.2.1 (-1)) false (l9 (F7 r.2.2.1 0) true (l9 (S9 k r.2.2.1) true (match H9 s.2.2.2.2 r.2.2.1 with|some q=>G6 (x8 q.2.1 r.2.1)|none=>true))))
  case true=>rfl
  cases F7 r.2.2.2.1 0
  case true=>rfl
  cases F7 9 r.2.2.2.1
  case true=>rfl
  have hval:∀(A B:Option (iT⊕Int)),l9 (F7 r.2.2.2.2.1.1 0) A (l9 (S9 r.2.2.2.2.1.2 r.2.2.2.2.1.1) A (l9 (F7 109573 r.2.2.2.2.1.2) A B))=l9 (Ny r.2.2.2.2.1) (l9 (x8 r.2.2.2.2.1.1 r.2.2.2.2.1.2) A B) A:=by
   intro A B;unfold Ny;by_cases v0:r.2.2.2.2.1.1<(0:Int)
   .simp_all [U0,aC]
   rw[L6 (jD.1 v0),ae (jD.1 v0)];by_cases v1:(r.2.2.2.2.1.2:Int)<=r.2.2.2.2.1.1
   .rw[ae v1];by_cases v2:(r.2.2.2.2.1.1:Int)<=r.2.2.2.2.1.2
    .rw[ae v2,L8 (Int.le_antisymm v2 v1)];cases S9 r.2.2.2.2.1.2 109573<;>rfl
    simp_all [aC]
   .have v1' :=nO.1 v1;rw[aC v1',ae (Int.le_of_lt v1'),I4 (λhh=>by omega),wu];cases S9 r.2.2.2.2.1.2 109573<;>rfl
  rw[hval];cases Ny r.2.2.2.2.1
  .rfl
  cases x8 r.2.2.2.2.1.1 r.2.2.2.2.1.2
  case true=>rfl
  cases S9 8 ((Pi (s.2.2.2.2.take k) r.2.1:Nat):Int)
  case true=>rfl
  cases b0z r.2.2.2.2.2.2.2
  .rfl
  simp only[E8,o6,o7,o8,V4,PY,hd,UE sg _ h.2.2.1,UE sg _ h.2.2.2];cases F7 0 (o9 r.2.2.2.2.2.1)
  .rfl
  cases x8 (Fq r.2.2.2.2.2.1 sg (1,0)) 0<;>rfl
 .simp only[au ha,o7,G8,ha,o8];rw[ja (show i<=9000000000000000000 by omega),ja (show c<=9000000000000000000 by omega)];cases x8 a.2.1 r.2.1
  .exact⟨rfl,by show c<=i+1;omega⟩
  simp_all
 .simp only[ak];rfl
structure SmS (s:F9):Prop where
 nm:s.1.length<=1000000
 ni:s.2.2.1.length<=14
 nd:s.2.2.2.1.length<=14
 nr:s.2.2.2.2.length<=96
 fo:a5u s
 ro:∀r∈s.2.2.2.2,a8k r/\r.2.2.2.2.2.1.length<=50/\r.2.2.2.2.2.2.1.length<=50
def isM(op:Int):Bool:=l9 (S9 36 op) (S9 op 39) false
theorem c4v(op:Int):isM op=l9 (x8 op 36) true (l9 (x8 op 37) true (l9 (x8 op 38) true (x8 op 39))):=by
 unfold isM;by_cases h1:36<=op
 .rw[ae h1];by_cases h2:op<=39
  .have:op=36\/op=37\/op=38\/op=39:=l7;rcases this with rfl|rfl|rfl|rfl<;>rfl
  .rw[aC l7,I4 l7,I4 l7,I4 l7,I4 l7];rfl
 .rw[aC l7,I4 l7,I4 l7,I4 l7,I4 l7];rfl
def Vh(p:Int->Bool)(e:List (Int×Int)):d4D:=(e.filter λn=>p n.1).map (·.2)
def CU(e:List (Int×Int)):d4D×d4D×d4D:=(Py (Vh (λo=>x8 o 7) e),Py (Vh (λo=>x8 o 8) e),Py (Vh isM e))
def c0Z(g:d4D->Int->d4D)(b:d4D×d4D×d4D)(n:Int×Int):d4D×d4D×d4D:=
 (l9 (x8 n.1 7) (g b.1 n.2) b.1,l9 (x8 n.1 8) (g b.2.1 n.2) b.2.1,l9 (isM n.1) (g b.2.2 n.2) b.2.2)
theorem a3e(g:d4D->Int->d4D):∀(e:List (Int×Int)) (b:d4D×d4D×d4D),e.foldl (c0Z g) b=((Vh (λo=>x8 o 7) e).foldl g b.1,(Vh (λo=>x8 o 8) e).foldl g b.2.1,(Vh isM e).foldl g b.2.2)
 |[],b=>rfl|n::e,b=>by
  have hn:∀p,Vh p (n::e)=l9 (p n.1) (n.2::Vh p e) (Vh p e):=λp=>by unfold Vh;rw[fG];cases p n.1<;>rfl
  rw[gm,a3e g e,hn,hn,hn];unfold c0Z;cases x8 n.1 7<;>cases x8 n.1 8<;>cases isM n.1<;>rfl
theorem a2t:∀(l b:d4D),l.foldl (λacc n=>acc++[n]) b=b++l
 |[],b=>by simp|a::l,b=>by rw[gm,a2t l];simp
theorem NJ{a k:Int}(h:a=k)(m:Int)(hm:k≠m):x8 a m=false:=I4 l7
theorem Ky{l:d4D}(hl:l.length<=1000000):zC l=some (Py l):=by
 grind [zC,c1R,dL]
theorem Tv(h:e.length<=1000000):zn e=some (CU e):=by
 refine NL e (c0Z (λacc n=>acc++[n])) (λb i=>(b.1,b.2.1,b.2.2,i)) (λb=>b) (λi b=>b.1.length<=i/\b.2.1.length<=i/\b.2.2.length<=i) (([],[],[]):d4D×d4D×d4D) h x9 (λi a b ha hi hI=>?_) (λb hI=>?_) (λh2=>?_)
 .obtain⟨b1,b2,b3⟩:=b;simp at hI;simp[au ha,o7,G8,ha,o8,kU a.2 (show b1.length<=1000000 by omega),kU a.2 (show b2.length<=1000000 by omega),kU a.2 (show b3.length<=1000000 by omega),c0Z,c4v];rw[ja l7];by_cases h7:a.1=7
  .rw[L8 h7,NJ h7 8 E5,NJ h7 36 E5,NJ h7 37 E5,NJ h7 38 E5,NJ h7 39 E5];exact⟨rfl,by simp_all,by simp<;>omega,by simp<;>omega⟩
  rw[I4 h7];by_cases h8:a.1=8
  .rw[L8 h8,NJ h8 36 E5,NJ h8 37 E5,NJ h8 38 E5,NJ h8 39 E5];exact⟨rfl,by simp<;>omega,by simp_all,by simp<;>omega⟩
  rw[I4 h8];cases x8 a.1 36<;>cases x8 a.1 37<;>cases x8 a.1 38<;>cases x8 a.1 39<;>exact⟨rfl,by simp<;>omega,by simp<;>omega,by simp<;>omega⟩
 .simp[ak]
 .rw[a3e]at h2 ⊢;simp only[a2t,P6]at h2 ⊢;rw[Ky l7,Ky l7,Ky l7];rfl
theorem b6A(p:Int->Bool)(e:List (Int×Int)):(Vh p e).length<=e.length:=by simp[Vh,dZ]
theorem RU(e:List (Int×Int)):(CU e).2.1.length<=e.length:=ay (XL _) (b6A _ e)
def inD(n d:Int):Bool:=l9 (S9 0 d) (F7 d n) false
def OX(n:Int)(r:iT):d4D:=(CU r.2.2.2.2.2.1).2.1.filter (inD n)++(CU r.2.2.2.2.2.2.1).2.1.filter (inD n)
theorem r_(p:Int->Bool):∀(l b:d4D),l.foldl (λacc x=>l9 (p x) (acc++[x]) acc) b=b++l.filter p
 |[],b=>by simp|a::l,b=>by rw[gm,r_ p l,fG];cases p a<;>simp
theorem a2r{f:d4D×Int->Option ((d4D×Int)⊕d4D)}(l b:d4D)(n:Int)(hl:l.length<=1000)(hb:b.length<=1000)
  (hin:∀(i:Nat) (a:Int) (acc:d4D),l[i]? =some a->i<=1000000->f (acc,(i:Int))=l9 (S9 0 a) (l9 (F7 a n) (o5 (fE acc [a]) λx=>some (.inl (x,A8 .i64 (i:Int) 1))) (some (.inl (acc,A8 .i64 (i:Int) 1)))) (some (.inl (acc,A8 .i64 (i:Int) 1))))
  (hend:∀acc,f (acc,(l.length:Int))=some (.inr acc)):X8 f (b,0)=some (b++l.filter (inD n)):=by
 have key:=DF l (λ(acc:d4D) x=>l9 (inD n x) (acc++[x]) acc) (λb i=>(b,i)) (λb=>b) (λi acc=>acc.length<=1000+i) (f:=f) l7 l7 ?_ ?_
 .rw[key.1,r_]
 .intro i a acc ha hi hI;have:=(U8.1 ha).1;rw[hin i a acc ha hi,ja l7,kU _ l7];unfold inD;cases S9 0 a
  .exact⟨rfl,by show acc.length<=_;omega⟩
  cases F7 a n
  .exact⟨rfl,by show acc.length<=_;omega⟩
  .exact⟨rfl,by simp;omega⟩
 simp_all
theorem WC(n:Int)(h1:r.2.2.2.2.2.1.length<=50)(h2:r.2.2.2.2.2.2.1.length<=50):yD r n=some (OX n r):=by
 have g1:=RU r.2.2.2.2.2.1;have g2:=RU r.2.2.2.2.2.2.1;unfold yD OX;rw[Tv l7,Tv l7];refine cZ (a2r (CU r.2.2.2.2.2.1).2.1 [] n l7 x9 (λi a acc ha hi=>?_) (λacc=>?_)) ?_
 rotate_left 2
 .rw[o8,dL,P6];have:=dZ (inD n) (CU r.2.2.2.2.2.1).2.1;refine a2r (CU r.2.2.2.2.2.2.1).2.1 _ n l7 l7 (λi a acc ha hi=>?_) (λacc=>?_)<;>simp_all [au,G8,P7,O9,ak]
 .simp_all [au,G8,P7,O9]
 .simp[ak]
def nD(s:F9):Int:=o9 s.2.2.2.1
def dl(n:Int)(rs:List iT)(d:Int):d4D:=rs.flatMap λr=>l9 (x8 r.2.1 d) (OX n r) []
def ai(s:F9)(d:Int):d4D:=l9 (inD (nD s) d) (Py (dl (nD s) s.2.2.2.2 d)) []
theorem a3c(h:SmS s)(hr:r∈s.2.2.2.2)(n:Int):(OX n r).length<=100:=by obtain⟨_,h1,h2⟩:=h.ro r hr<;>grind [RU,OX]
theorem b1x(n:Int)(rs:List iT)(r:iT)(d:Int):dl n (rs++[r]) d=dl n rs d++l9 (x8 r.2.1 d) (OX n r) []:=by simp[dl]
theorem c0h(n:Int)(rs:List iT)(r:iT)(d:Int):dl n (r::rs) d=l9 (x8 r.2.1 d) (OX n r) []++dl n rs d:=rfl
theorem a8J{s:F9}(h:SmS s)(n d:Int):∀(rs:List iT),(∀r∈rs,r∈s.2.2.2.2)->(dl n rs d).length<=100*rs.length
 |[],_=>by simp[dl]|r::rs,hm=>by
  have ih:=a8J h n d rs λr hr=>hm r (by grind);have h1:=a3c h (hm r x9) n;rw[c0h,J9]
  grind [x8,o6,o7]
variable {d:Int}{x:Int}
theorem b6j{n:Int}{rs:List iT} :x∈dl n rs d↔∃r∈rs,r.2.1=d/\x∈OX n r:=by
 unfold dl;rw[List.mem_flatMap];constructor
 .rintro⟨r,hr,hx⟩;cases hq:x8 r.2.1 d<;>rw[hq]at hx
  .simp_all
  .exact⟨r,hr,U4.1 hq,hx⟩
 .rintro⟨r,hr,hq,hx⟩;exact⟨r,hr,by simp_all [L8]⟩
theorem b7w{n:Int}(h:x∈OX n r):0<=x/\x<n:=by
 have key:inD n x=true:=by
  grind [OX]
 unfold inD at key;cases h0:S9 0 x<;>rw[h0]at key
 .cases key
 .exact⟨pF.1 h0,jV.1 key⟩
theorem Ja(s:F9)(d:Int):SI (ai s d):=by unfold ai;cases inD (nD s) d<;>simp_all [a4Y]
theorem FO(h:x∈ai s d):0<=x/\x<nD s:=by
 unfold ai at h;cases hq:inD (nD s) d<;>rw[hq]at h
 .simp at h
 .obtain⟨r,_,_,hx⟩:=b6j.1 ((Hf _ _).1 h);exact b7w hx
theorem YO(m k:Nat)(f:Nat->α)(v:α):((List.range m).map f).set k v=(List.range m).map λd=>if d=k then v else f d:=by apply aB<;>grind
def Zx(m:Nat)(rs:List iT):List d4D:=(List.range m).map λ(d:Nat)=>dl (m:Int) rs (d:Int)
theorem a5c{l:d4D}(hl:l.length<=1000000):Jt l=some (Py l):=Ky hl
theorem IG(m:Nat)(f:Nat->α)(h:k<m):((List.range m).map f)[k]? =some (f k):=by simp_all
theorem Uw(h:SmS s):Ar s=some ((List.range s.2.2.2.1.length).map λ(d:Nat)=>ai s (d:Int)):=by
 have hnr:=h.nr;have hnd:=h.nd;unfold Ar;generalize hm:s.2.2.2.1.length=m at*;have hn:nD s=(m:Int):=by unfold nD o9;rw[hm]
 rw[show o9 s.2.2.2.1=(m:Int)from hn,show lI (m:Int) ([]:d4D)=some (Zx m []) by unfold lI Zx dl;rw[if_pos l7];simp[List.map_const'],o8];refine NL s.2.2.2.2 (λ(b:List d4D) r=>l9 (inD m r.2.1) (b.set r.2.1.toNat ((b.getD r.2.1.toNat [])++OX m r)) b) (λb i=>(b,i)) (λb=>b) (λi b=>b=Zx m (s.2.2.2.2.take i)) (Zx m []) l7 x9 (λi r b ha hi hI=>?_) (λb hI=>?_) (λh2=>?_)
 .have hlt:=(U8.1 ha).1;obtain⟨_,h1,h2⟩:=h.ro r (lM ha);have hst:s.2.2.2.2.take (i+1)=s.2.2.2.2.take i++[r]:=by
   rw[P9 hlt,(U8.1 ha).2]
  have hlb:o9 b=(m:Int):=by rw[hI];simp[o9,Zx]
  obtain⟨rd,hrd⟩:∃rd:Int,r.2.1=rd:=⟨r.2.1,rfl⟩;simp only[au ha,o7,G8,ha,o8,hlb,hrd];rw[ja l7,hst];by_cases hd:0<=rd/\rd<(m:Int)
  .obtain⟨d0,d1⟩:=hd;have hk:rd.toNat<m:=l7;have hkk:((rd.toNat:Nat):Int)=rd:=l7;have hg:b[rd.toNat]? =some (dl m (s.2.2.2.2.take i) rd):=by rw[hI];unfold Zx;rw[IG m _ hk,hkk]
   have hll:=a8J h m rd (s.2.2.2.2.take i) λr hr=>List.mem_of_mem_take hr;have hrl:=a3c h (lM ha) m;have htl:(s.2.2.2.2.take i).length<=96:=by simp;omega
   rw[ae d0,U0 d1,show inb rd (m:Int)=true by unfold inb;simp;omega,show P7 b (O9 rd)=some (dl m (s.2.2.2.2.take i) rd)from hg,WC _ h1 h2];simp only[o7,o8];rw[vG l7,show Px (O9 rd) (O9 rd)=true by simp[Px]];simp only[o7,o8];have hin:inD m rd=true:=by unfold inD;rw[ae d0,U0 d1];rfl
   rw[hin,show b.getD rd.toNat []=dl m (s.2.2.2.2.take i) rd by rw[BG,hg];rfl];refine⟨rfl,?_⟩;show b.set rd.toNat _=_;rw[hI];unfold Zx;rw[YO];apply dU;intro d hdm;rw[b1x,hrd];by_cases hq:d=rd.toNat
   .subst hq;rw[if_pos rfl,hkk,L8 rfl];rfl
   .rw[if_neg hq,I4 l7];simp
  .have hin:inD m rd=false:=by
    unfold inD;by_cases d0:0<=rd
    .rw[ae d0,L6 l7];rfl
    .rw[aC l7];rfl
   rw[hin];refine⟨?_,?_⟩
   .unfold inD at hin;cases q0:S9 0 rd
    .rfl
    .rw[q0]at hin;simp only[o7]at hin ⊢;rw[hin];rfl
   .show b=_;rw[hI];unfold Zx;apply dU;intro d hdm;have:=Y7.1 hdm;rw[b1x,hrd,I4 l7];simp
 .simp only[ak];rfl
 .rw[V7]at h2;rw[h2];generalize hA:Zx m s.2.2.2.2=A;have hAl:o9 A=(m:Int):=by rw[←hA];simp[o9,Zx]
  refine NL (List.range m) (λ(b:List d4D) d=>b.set d (Py (b.getD d []))) (λb i=>(b,i)) (λb=>b) (λi b=>b=(List.range m).map λ(d:Nat)=>if d<i then Py (dl m s.2.2.2.2 (d:Int))else dl m s.2.2.2.2 (d:Int)) A U3 (by rw[←hA];unfold Zx;simp) (λi d b ha hi hI=>?_) (λb hI=>?_) (λh3=>?_)
  .have hlt:=(U8.1 ha).1;simp only[Y3]at hlt;have hdi:d=i:=by rw[List.getElem?_range hlt]at ha;exact(F8 ha).symm
   subst hdi;have hlb:o9 b=(m:Int):=by rw[hI];simp[o9]
   have hg:b[d]? =some (dl m s.2.2.2.2 (d:Int)):=by rw[hI,IG m _ hlt,if_neg l7]
   have hll:=a8J h m d s.2.2.2.2 λr hr=>hr;simp only[hAl,hlb];rw[U0 (show(d:Int)<(m:Int) by omega),show inb (d:Int) (m:Int)=true by unfold inb;simp;omega,show P7 b (O9 (d:Int))=some (dl m s.2.2.2.2 (d:Int))from hg];simp only[o7,o8];rw[a5c l7,show Px (O9 (d:Int)) (O9 (d:Int))=true by simp[Px],ja l7];simp only[o7,o8];rw[show b.getD d []=dl m s.2.2.2.2 (d:Int) by rw[BG,hg];rfl];refine⟨rfl,?_⟩;rw[hI,YO];apply dU;intro e he;by_cases hq:e=d
   .subst hq;rw[if_pos rfl,if_pos l7]
   .rw[if_neg hq];by_cases hq2:e<d
    .rw[if_pos hq2,if_pos l7]
    .rw[if_neg hq2,if_neg l7]
  .simp only[Y3,hAl,L6 (show(m:Int)<=(m:Int) by omega)];rfl
  .rw[h3];apply congrArg some;apply dU;intro d hd;have:=Y7.1 hd;simp only[Y3];rw[if_pos this];unfold ai;rw[hn,show inD (m:Int) (d:Int)=true by unfold inD;rw[ae l7,U0 l7];rfl];rfl
def Rch(D:Int->d4D)(d:Int)(L:d4D):Prop:=SI L/\(∀x∈D d,x∈L)/\(∀x∈L,∀y∈D x,y∈L)/\∀C:Int->Prop,(∀x∈D d,C x)->(∀x,C x->∀y∈D x,C y)->∀x∈L,C x
theorem Rch.unique{D:Int->d4D}{L M:d4D}(h:Rch D d L)(k:Rch D d M):L=M:=
 b0j h.1 k.1 λx=>⟨λhx=>h.2.2.2 (λy=>y∈M) k.2.1 k.2.2.1 x hx,λhx=>k.2.2.2 (λy=>y∈L) h.2.1 h.2.2.1 x hx⟩
theorem VS:∀{B A:d4D},SI A->SI B->(∀x∈A,x∈B)->A=B\/A.length<B.length
 |[],A,_,_,h=>by
  cases A with
  |nil=>simp|cons a A=>exact absurd (h a x9) x9
 |b::B,[],_,_,_=> .inr x9|b::B,a::A,hA,hB,h=>by
  have hA' :=ah.1 hA;have hB' :=ah.1 hB;rcases C9.1 (h a x9)with hab|hab
  .rcases VS hA'.2 hB'.2 (λx hx=>by
    grind)with h1|h1
   all_goals simp_all
  .rcases VS hA hB'.2 (λx hx=>by
    grind)with h1|h1
   all_goals grind
def Qm(D:Int->d4D)(L:d4D):d4D:=L.foldl (λacc x=>C_ (D x) acc) L
theorem MQ(D:Int->d4D)(x:Int):∀(l acc:d4D),x∈l.foldl (λacc x=>C_ (D x) acc) acc↔x∈acc\/∃y∈l,x∈D y
 |[],acc=>by simp|a::l,acc=>by
  rw[gm,MQ D x l,W_]
  grind
theorem b1Z(D:Int->d4D):∀(l:d4D) {acc:d4D},SI acc->SI (l.foldl (λacc x=>C_ (D x) acc) acc)
 |[],_,h=>h|a::l,_,h=>by exact b1Z D l (a4X _ h)
theorem a0g(D:Int->d4D){L:d4D}(h:SI L):SI (Qm D L):=b1Z D L h
def itS(D:Int->d4D)(d:Int):Nat->d4D
 |0=>D d|k+1=>Qm D (itS D d k)
section
variable {D:Int->d4D} {n:Nat} (hsi:∀x,SI (D x)) (hin:∀x,∀y∈D x,0<=y/\y<(n:Int))
include hsi hin
theorem a6x(d:Int):∀k,SI (itS D d k)
 |0=>hsi d|k+1=>a0g D (a6x d k)
theorem b5S(d:Int):∀k,∀x∈itS D d k,0<=x/\x<(n:Int)
 |0,x,hx=>hin d x hx|k+1,x,hx=>by
  rcases(MQ D x _ _).1 hx with h|⟨y,_,h⟩
  .exact b5S d k x h
  grind
theorem b1F(d:Int)(k:Nat):Qm D (itS D d k)=itS D d k\/(itS D d k).length<(Qm D (itS D d k)).length:=by rcases VS (a6x hsi hin d k) (a0g D (a6x hsi hin d k)) (λx hx=>(MQ D x _ _).2 (.inl hx))with h|h<;>grind
theorem a2D(d:Int):∀k,Qm D (itS D d k)=itS D d k\/k<(Qm D (itS D d k)).length
 |0=>by rcases b1F hsi hin d 0 with h|h<;>grind
 |k+1=>by
  rcases a2D d k with h|h
  .simp_all [itS]
  .rcases b1F hsi hin d (k+1)with h2|h2<;>grind [itS]
theorem c4w(d:Int):Rch D d (itS D d n):=by
 have hst:Qm D (itS D d n)=itS D d n:=by
  rcases a2D hsi hin d n with h|h
  .omega
  .have:=a0R n (a0g D (a6x hsi hin d n)) (b5S hsi hin d (n+1));omega
 refine⟨a6x hsi hin d n,?_,?_,?_⟩
 .intro x hx;have:∀k,x∈itS D d k:=by
   intro k;induction k with
   |zero=>exact hx|succ k ih=>exact(MQ D x _ _).2 (.inl ih)
  simp_all
 .intro x hx y hy;rw[←hst];exact(MQ D y _ _).2 (.inr ⟨x,hx,hy⟩)
 .intro C h1 h2;have:∀k,∀x∈itS D d k,C x:=by
   intro k;induction k with
   |zero=>exact h1
   |succ k ih=>intro x hx;rcases(MQ D x _ _).1 hx with h|⟨y,hy,h⟩<;>grind
  grind
end
def Cc(s:F9)(d:Int):d4D:=itS (ai s) d s.2.2.2.1.length
theorem Nh(s:F9)(d:Int):Rch (ai s) d (Cc s d):=
 c4w (n:=s.2.2.2.1.length) (Ja s) (λx y hy=>FO hy) d
theorem b9D(h:x∈Cc s d):0<=x/\x<nD s:=b5S (n:=s.2.2.2.1.length) (Ja s) (λx y hy=>FO hy) d _ x h
theorem ZY(h:SmS s)(d:Int):(ai s d).length<=14:=
 ay (a0R s.2.2.2.1.length (Ja s d) (λx hx=>FO hx)) h.nd
theorem D_(h:SmS s){l:d4D}(hs:SI l)(hi:∀x∈l,0<=x/\x<nD s):l.length<=14:=ay (a0R s.2.2.2.1.length hs hi) h.nd
def mk(S:List Bool)(x:Int):Bool:=if 0<=x then S.getD x.toNat false else false
def unm(S:List Bool):Nat:=S.count false
def rG(b:List Bool×d4D)(e:Int):List Bool×d4D:=l9 (mk b.1 e) b (b.1.set e.toNat true,b.2++[e])
variable {S:List Bool}
theorem b6l(h0:0<=x)(h1:x<o9 S):S[x.toNat]? =some (mk S x):=by simp_all [mk,o9]
theorem b6m{e:Int}(h0:0<=e)(h1:e<o9 S)(x:Int):mk (S.set e.toNat true) x=l9 (x8 x e) true (mk S x):=by
 unfold mk;have hl:e.toNat<S.length:=by simp_all [o9]
 by_cases hx:0<=x
 .rw[if_pos hx,if_pos hx,BG,J8];by_cases hq:x=e
  .simp_all [L8]
  .rw[if_neg l7,I4 hq];rfl
 .rw[if_neg hx,if_neg hx,I4 l7];rfl
theorem c1Y{e:Int}(h0:0<=e)(h1:e<o9 S)(hm:mk S e=false):unm (S.set e.toNat true)+1=unm S:=by
 have hg:=b6l h0 h1
 grind [unm]
structure RInv (n:Nat) (S:List Bool) (Q:d4D) (l:d4D) (S' :List Bool) (Q' :d4D):Prop where
 len:S'.length=n
 seen:∀x:Int,0<=x->x<(n:Int)->(mk S' x=true↔mk S x=true\/x∈l)
 sum:Q'.length+unm S' =Q.length+unm S
 le:unm S' <=unm S
 old:∀x∈Q,x∈Q'
 new:∀x∈Q',x∈Q\/x∈l
 got:∀x,mk S' x=true->mk S x=true\/x∈Q'
theorem b7E{n:Nat} :∀(l:d4D) (S:List Bool) (Q:d4D),S.length=n->(∀x∈l,0<=x/\x<(n:Int))->RInv n S Q l (l.foldl rG (S,Q)).1 (l.foldl rG (S,Q)).2
 |[],S,Q,hl,_=>⟨hl,λx _ _=>by simp,rfl,D5 _,λx hx=>hx,λx hx=> .inl hx,λx hx=> .inl hx⟩|e::l,S,Q,hl,hi=>by
  have he:=hi e x9;have hel:e<o9 S:=by simp_all [o9]
  rw[gm];cases hm:mk S e with
  |true=>
   rw[show rG (S,Q) e=(S,Q) by simp_all [rG]];have ih:=b7E l S Q hl λx hx=>hi x (by grind);refine⟨ih.len,λx h0 h1=>?_,ih.sum,ih.le,ih.old,λx hx=>?_,ih.got⟩
   .rw[ih.seen x h0 h1]
    grind
   .rcases ih.new x hx with h|h<;>simp_all
  |false=>
   rw[show rG (S,Q) e=(S.set e.toNat true,Q++[e]) by simp_all [rG]];have ih:=b7E l (S.set e.toNat true) (Q++[e]) (by grind) λx hx=>hi x (by grind);have hu:=c1Y he.1 hel hm;refine⟨ih.len,λx h0 h1=>?_,?_,?_,λx hx=>ih.old x (by grind),λx hx=>?_,λx hx=>?_⟩
   .rw[ih.seen x h0 h1,b6m he.1 hel];cases hq:x8 x e<;>simp_all [zN,U4]
   .have:=ih.sum;grind
   .have:=ih.le;omega
   .rcases ih.new x hx with h|h<;>grind
   .rcases ih.got x hx with h|h
    .rw[b6m he.1 hel]at h;cases hq:x8 x e
     .simp_all
     .rw[U4]at hq;subst hq;exact .inr (ih.old _ x9)
    simp_all
def XO(S:List Bool):d4D:=((List.range S.length).filter λi=>S.getD i false).map λ(i:Nat)=>(i:Int)
theorem Rz(x:Int):x∈XO S↔mk S x=true:=by
 grind [XO,mk]
theorem b6g(S:List Bool):SI (XO S):=by
 grind [XO,List.pairwise_lt_range]
theorem a9e{f:d4D×Int->Option ((d4D×Int)⊕d4D)}(S:List Bool)(hS:S.length<=100)
  (hin:∀(i:Nat) (a:Bool) (acc:d4D),S[i]? =some a->i<=1000000->acc.length<=i->f (acc,(i:Int))=l9 a (o5 (fE acc [(i:Int)]) λx=>some (.inl (x,A8 .i64 (i:Int) 1))) (some (.inl (acc,A8 .i64 (i:Int) 1))))
  (hend:∀acc,f (acc,(S.length:Int))=some (.inr acc)):X8 f ([],0)=some (XO S):=by
 have mk2:∀i,i<=S.length->((List.range i).filter λi=>S.getD i false).length<=i:=λi _=>by
  grind
 obtain⟨e,h1,h2⟩:=cu (f:=f) (λx=>∃i:Nat,x=(((List.range i).filter λi=>S.getD i false).map λ(i:Nat)=>(i:Int),(i:Int))/\i<=S.length) (λe=>e=XO S) (λx=>S.length -x.2.toNat) ⟨0,rfl,l7⟩ l7 (by
  rintro x ⟨i,rfl,hi⟩;by_cases h:i<S.length
  .have e:=dE h;have hst:(List.range (i+1)).filter (λi=>S.getD i false)=(List.range i).filter (λi=>S.getD i false)++l9 S[i] [i] []:=by
    rw[gq,List.filter_append];rw[fG,BG,e];cases S[i]<;>rfl
   have hl:=mk2 i hi;refine .inl ⟨(((List.range (i+1)).filter λi=>S.getD i false).map λ(i:Nat)=>(i:Int),((i+1:Nat):Int)),?_,⟨i+1,rfl,h⟩,l7⟩;rw[hin i _ _ e l7 (by simp_all),ja l7,hst,kU _ (by grind)];cases S[i]<;>simp_all
  .have:i=S.length:=l7;subst this;exact .inr ⟨_,hend _,rfl⟩)
 grind
theorem a9L{D:Int->d4D}{n:Nat}(hn:n<=14)(hsi:∀x,SI (D x))(hin:∀x,∀y∈D x,0<=y/\y<(n:Int))(h0:0<=d)(h1:d<(n:Int)):
  ∃L,IA ((List.range n).map λ(x:Nat)=>D (x:Int)) d=some L/\Rch D d L:=by
 have hA:o9 ((List.range n).map λ(x:Nat)=>D (x:Int))=(n:Int):=by simp[o9]
 have hget:∀x:Int,0<=x->x<n->H9 ((List.range n).map λ(x:Nat)=>D (x:Int)) x=some (D x):=λx a b=>by
  have:x.toNat<n:=l7;unfold H9
  rw[if_pos a,IG n _ this,Y4 a]
 unfold IA;generalize (List.range n).map (λ(x:Nat)=>D (x:Int))=A at*;rw[hA,show lI (n:Int) false=some (List.replicate n false) by unfold lI;rw[if_pos l7];simp,o8];have hD14:∀x,(D x).length<=14:=λx=>ay (a0R n (hsi x) (hin x)) hn;have key:=cu (f:=λ(x:List Bool×d4D)=>l9 (F7 0 (o9 x.2)) (o5 (H9 x.2 0) λ(x_1:Int)=>o5 (P7 x.2 (O9 0)) λ(x_2:Int)=>l9 (nG 1 (o9 x.2) (o9 x.2)) (o5 (H9 A x_2) λ(x_3:d4D)=>
   o5 (X8 (λ(x:List Bool×d4D×Int)=>l9 (F7 x.2.2 (o9 x_3)) (o5 (H9 x_3 x.2.2) λ(x_4:Int)=>o5 (H9 x.1 x_4) λ(x_5:Bool)=>o5 (P7 x.1 (O9 x_4)) λ(x_6:Bool)=>
     l9 (G6 x_6) (o5 (H9 x.1 x_4) λ(x_7:Bool)=>o5 (P7 x.1 (O9 x_4)) λ(x_8:Bool)=>o5 (fE x.2.1 [x_4]) λ(x_9:d4D)=>some (.inl (V8 x.1 (O9 x_4) true,x_9,A8 .i64 x.2.2 1)))
      (some (.inl (x.1,x.2.1,A8 .i64 x.2.2 1)))) (some (.inr (x.1,x.2.1)))) (x.1,lJ x.2 (O9 1) (O9 (o9 x.2)),0)) λ(y:List Bool×d4D)=>some (.inl y)) none) (some (.inr x.1)))
  (s:=(List.replicate n false,[d]))
  (λx=>x.1.length=n/\(∀q∈x.2,0<=q/\q<(n:Int))/\x.2.length+unm x.1<=n+1/\(∀q∈x.2,q=d\/mk x.1 q=true)/\(∀v,v=d\/mk x.1 v=true->v∈x.2\/∀y∈D v,mk x.1 y=true)/\
   (∀C:Int->Prop,(∀x∈D d,C x)->(∀x,C x->∀y∈D x,C y)->∀v,mk x.1 v=true->C v)/\(∀v,mk x.1 v=true->0<=v/\v<(n:Int)))
  (λS=>S.length=n/\Rch D d (XO S)) (λx=>2*unm x.1+x.2.length) ?_ ?_ ?_
 .obtain⟨S,k1,k2,k3⟩:=key;refine⟨XO S,?_,k3⟩;refine(wJ k1 _).trans ?_;rw[dL];refine a9e S l7 (λi a acc ha hi hacc=>?_) (λacc=>?_)
  .simp only[au ha,o7,G8,ha,o8];rw[show P7 S (O9 (i:Int))=some a from ha,o8]
  .simp only[ak];rfl
 .have hnone:∀v,mk (List.replicate n false) v=false:=λv=>by
   unfold mk;split
   .rw[BG,eQ];split<;>rfl
   .rfl
  refine⟨x9,λq hq=>by simp at hq;omega,?_,λq hq=> .inl (by simpa using hq),λv hv=>?_,λC _ _ v hv=>(by rw[hnone]at hv;cases hv),λv hv=>(by rw[hnone]at hv;cases hv)⟩
  .simp[unm,List.count_replicate];omega
  .rcases hv with rfl|hv
   .exact .inl x9
   .rw[hnone]at hv;cases hv
 .simp[unm,List.count_replicate];omega
 .rintro⟨S,Q⟩ ⟨i1,i2,i3,i4,i5,i6,i7⟩;simp only at i1 i2 i3 i4 i5 i6 i7;cases Q with
  |nil=>
   right;refine⟨S,rfl,i1,b6g S,λx hx=>?_,λx hx y hy=>?_,λC c1 c2 x hx=>i6 C c1 c2 x ((Rz x).1 hx)⟩
   .rcases i5 d (.inl rfl)with h|h
    .cases h
    .exact(Rz x).2 (h x hx)
   .rcases i5 x (.inr ((Rz x).1 hx))with h|h
    .cases h
    .exact(Rz y).2 (h y hy)
  |cons q Q=>
   left;have hq:=i2 q x9;have hfold:=b7E (n:=n) (D q) S Q i1 (λx hx=>hin q x hx);refine⟨(D q).foldl rG (S,Q),?_,?_,?_⟩
   .simp only[U0 (show(0:Int)<o9 (q::Q) by simp[o9]<;>omega),o7,show H9 (q::Q) 0=some q from rfl,show P7 (q::Q) (O9 0)=some q from rfl,o8,hget q hq.1 hq.2,
     show nG 1 (o9 (q::Q)) (o9 (q::Q))=true by simp[nG,o9]<;>omega,show lJ (q::Q) (O9 1) (O9 (o9 (q::Q)))=Q by simp[lJ,O9,o9]]
    refine NL (D q) rG (λb i=>(b.1,b.2,i)) (λb=>b) (λi b=>b.1.length=n/\b.2.length<=100+i) (S,Q) (by have:=hD14 q;omega) ⟨i1,by simp at i3;show Q.length<=100+0;omega⟩ (λi e b he hi hI=>?_) (λb hI=>?_) (λh2=>rfl)
    .obtain⟨S1,Q1⟩:=b;simp only at hI;have hee:=hin q e (lM he);have hlt:=(U8.1 he).1;have hdl:=hD14 q;have hg:=b6l (S:=S1) hee.1 (by simp only[o9];omega);have hla:H9 S1 e=some (mk S1 e):=by unfold H9;rw[if_pos hee.1];exact hg
     have hlg:P7 S1 (O9 e)=some (mk S1 e):=hg;simp only[au he,o7,G8 (D q),he,o8,hla,hlg];rw[ja l7,kU _ l7];unfold rG;simp only;cases mk S1 e
     .exact⟨rfl,by simp[hI.1],by simp<;>omega⟩
     .exact⟨rfl,hI.1,by show Q1.length<=_;omega⟩
    .simp only[ak];rfl
   .obtain⟨j1,j2,j3,j4,j5,j6,j7⟩:=hfold;generalize (D q).foldl rG (S,Q)=b at*;obtain⟨S',Q'⟩:=b;simp only at j1 j2 j3 j4 j5 j6 j7 ⊢;have hrange:∀v,mk S' v=true->0<=v/\v<(n:Int):=λv hv=>by
     rcases j7 v hv with h|h
     .exact i7 v h
     .rcases j6 v h with h|h
      .exact i2 v (by simp[h])
      .grind
    refine⟨j1,λx hx=>?_,?_,λx hx=>?_,λv hv=>?_,λC c1 c2 v hv=>?_,hrange⟩
    .grind
    .grind
    .grind
    .grind
    .by_cases hS:mk S v=true
     .exact i6 C c1 c2 v hS
     .have hr:=hrange v hv;rcases(j2 v hr.1 hr.2).1 hv with h|h
      .grind
      .rcases i4 q x9 with h2|h2
       .grind
       .exact c2 q (i6 C c1 c2 q h2) v h
   .have:=hfold.sum;have:=hfold.le
    grind
theorem a1N(h:SmS s)(h0:0<=d)(h1:d<nD s):Dc s d=some (Cc s d):=by have hn:nD s=((s.2.2.2.1.length:Nat):Int):=rfl;change l9 (F7 d 0) _ (l9 (S9 (nD s) d) _ _)=_;rw[L6 h0,o6,aC h1,o6,Uw h,o8,dL];obtain⟨L,k1,k2⟩:=a9L h.nd (Ja s) (λx y hy=>FO hy) h0 l7<;>grind [Rch.unique,Nh]
structure SmL (l:aZ):Prop where
 few:Few l
 en:a3E l
 tb:Zk l
 sc:∀s∈l.2.2,SmS s
 fs:l.2.2.length<=100
structure SwS (s:F9):Prop where
 nm:s.1.length<=1000000
 ni:s.2.2.1.length<=100000
 nd:s.2.2.2.1.length<=100000
 nr:s.2.2.2.2.length<=100000
 fo:a5u s
 ro:∀r∈s.2.2.2.2,a8k r
structure SwL (l:aZ):Prop where
 few:Few l
 en:a3E l
 tb:Zk l
 sc:∀s∈l.2.2,SwS s
variable {l:aZ}
theorem SwL.scopes(h:SwL l):a5A l:=λs hs=>by have hm:=h.sc s hs;exact⟨hm.nm,hm.ni,hm.nd,hm.nr⟩
theorem SmL.w(h:SmL l):SwL l:=⟨h.few,h.en,h.tb,λs hs=>by have hm:=h.sc s hs;exact⟨hm.nm,by have:=hm.ni;omega,by have:=hm.nd;omega,by have:=hm.nr;omega,hm.fo,λr hr=>(hm.ro r hr).1⟩⟩
theorem BC{ε ρ:Type}{p:Nat->Option ρ}(n:Nat)(hn:n<=1000000)(e:ε){f:Int->Option (Out Int ε ρ)}
  (h1:∀i,i<n->f (i:Int)=some (match p i with|some r=> .rt r|none=> .nx (A8 .i64 (i:Int) 1))) (h2:f (n:Int)=some (.ex e)):
  bD f 0=some (match fH n p with|some r=> .inr r|none=> .inl e):=
 Qe n l7 e (λi hi=>by grind [ja]) h2
def QE(l:aZ)(s:F9)(k:Nat):Option (Int×Int):=match s.2.2.2.2[k]? with|some r=>g_ (KX s (yV l s) k r) (300+k:Nat)|none=>none
def a5Z(s:F9)(d:Nat):Option (Int×Int):=l9 ((Cc s d).any λx=>x8 (d:Int) x) (some (9,((200+d:Nat):Int))) none
def Qk(l:aZ)(i:Nat)(m:Int):Bool:=l9 (x8 m (-1)) false (l9 (F7 m 0) true (l9 (S9 (i:Int) m) true (match H9 l.2.2 m with|some q=>G6 (x8 q.2.1 (-1))|none=>true)))
def WX(l:aZ)(s:F9):Int×Int:=match KD l s with
 |some r=>r
 |none=>match fH s.2.2.2.2.length (QE l s)with
  |some r=>r
  |none=>match fH s.2.2.2.1.length (a5Z s)with
   |some r=>r|none=>(0,0)
def Om(l:aZ)(i:Nat)(s:F9):Int×Int:=
 l9 (Ko s.1) (l9 (VV l 3 i s.1) (7,0) (l9 (Qk l i s.2.1) (6,0) (l9 (F7 12 (o9 s.2.2.1)) (4,112) (l9 (F7 12 (o9 s.2.2.2.1)) (4,212) (WX l s))))) (2,0)
theorem a1k{sg:L9}(h:Fq e sg t=0):e.length<=50:=by
 unfold Fq sZ at h;cases hs:kX e with
 |inl x=>
  rw[hs]at h;cases hc:x8 x.2 0<;>rw[hc]at h
  .exact absurd h (zN.1 hc)
  .exact absurd (U4.1 hc) (Eh hs)
 |inr x=>have:=(wS hs).2;omega
theorem c0c{m:Nat} :∀(D:d4D),(∀x∈D,0<=x/\x<(m:Int))->(∀d:Int,D.countP (λo=>x8 o d)<=8)->D.length<=m*8:=by
 induction m with
 |zero=>
  intro D h _;cases D with
  |nil=>simp|cons a D=>have:=h a x9;omega
 |succ m ih=>
  intro D h h8;have h1:=ih (D.filter λo=>G6 (x8 o (m:Int))) (λx hx=>by
   obtain⟨hx,hn⟩:=Y0.1 hx;have:=h x hx;have hn:x≠(m:Int):=λe=>by simp_all [L8]
   omega) (λd=>by rw[List.countP_filter];refine ay (List.countP_mono_left λx _ hx=>?_) (h8 d)<;>simp_all)
  have h2:=h8 (m:Int);have h3:∀D:d4D,D.length=D.countP (λo=>x8 o (m:Int))+(D.filter λo=>G6 (x8 o (m:Int))).length:=by
   intro D;induction D with
   |nil=>rfl|cons a D ih=>rw[List.countP_cons,fG,H7];cases x8 a (m:Int)<;>simp<;>omega
  grind
theorem a0L{sg:L9}(h:KX s sg k r=0):(∃d,H9 s.2.2.2.1 r.2.1=some d/\PY r sg d.2=0)/\Pi (s.2.2.2.2.take k) r.2.1<8:=by
 unfold KX at h;cases g1:Ko r.1<;>rw[g1]at h
 .simp_all
 cases g2:(s.2.2.2.2.take k).any λx=>seq x.1 r.1<;>rw[g2]at h
 case true=>simp_all
 simp at h;cases g3:H9 s.2.2.2.1 r.2.1 with
 |none=>simp_all|some d=>
  generalize (l9 (x8 r.2.2.1 (-1)) false (l9 (F7 r.2.2.1 0) true (l9 (S9 (k:Int) r.2.2.1) true (match H9 s.2.2.2.2 r.2.2.1 with|some q=>G6 (x8 q.2.1 r.2.1)|none=>true))))=g4 at h;cases g4
  case true=>simp_all
  cases g5:F7 r.2.2.2.1 0<;>rw[g5]at h
  case true=>simp_all
  cases g6:F7 9 r.2.2.2.1<;>rw[g6]at h
  case true=>simp_all
  cases g7:Ny r.2.2.2.2.1<;>rw[g7]at h
  .simp_all
  cases g8:x8 r.2.2.2.2.1.1 r.2.2.2.2.1.2<;>rw[g8]at h
  case true=>simp_all
  cases g9:S9 8 (Pi (s.2.2.2.2.take k) r.2.1:Int)<;>rw[g9]at h
  case true=>simp_all
  cases g10:b0z r.2.2.2.2.2.2.2<;>rw[g10]at h
  .simp_all
  simp at h;have:=LH.1 g9
  grind
theorem b3p{sg:L9}(h:PY r sg t=0):r.2.2.2.2.2.1.length<=50/\r.2.2.2.2.2.2.1.length<=50:=by
 unfold PY at h;cases g:F7 0 (o9 r.2.2.2.2.2.1)<;>rw[g]at h
 .have:=jW.1 g;unfold o9 at this;exact⟨l7,a1k h⟩
 .cases g2:x8 (Fq r.2.2.2.2.2.1 sg (1,0)) 0<;>rw[g2]at h
  .exact absurd h (zN.1 g2)
  .exact⟨a1k (U4.1 g2),a1k h⟩
theorem b8t(hw:SwS s)(h1:s.2.2.1.length<=12)(h2:s.2.2.2.1.length<=12)(h:fH s.2.2.2.2.length (QE l s)=none):SmS s:=by
 have hz:∀(k:Nat) (r:iT),s.2.2.2.2[k]? =some r->KX s (yV l s) k r=0:=λk r hr=>by
  have:=vZ h k (U8.1 hr).1;unfold QE at this;rw[hr]at this;unfold g_ at this;simp only at this;cases g:x8 (KX s (yV l s) k r) 0<;>rw[g]at this
  .simp_all
  .exact U4.1 g
 have hk:∀k,k<=s.2.2.2.2.length->∀d:Int,((s.2.2.2.2.take k).map λ(o:iT)=>o.2.1).countP (λo=>x8 o d)<=8:=by
  intro k;induction k with
  |zero=>simp|succ k ih=>
   intro hk d;have e:=dE (show k<s.2.2.2.2.length by omega);have h3:=(a0L (hz k _ e)).2;unfold Pi at h3;have h4:=ih l7 d;rw[P9 l7,aY,List.countP_append];rw[List.countP_map]at h4 ⊢;by_cases hd:(s.2.2.2.2[k]).2.1=d
   .have e5:List.countP ((λ(o:Int)=>x8 o d)∘λ(o:iT)=>o.2.1) (s.2.2.2.2.take k)=(s.2.2.2.2.take k).countP λ(o:iT)=>x8 o.2.1 (s.2.2.2.2[k]).2.1:=by rw[hd];rfl
    grind
   grind [I4]
 have h8:=hk s.2.2.2.2.length (D5 _);rw[V7]at h8;have hc:=c0c (m:=12) (s.2.2.2.2.map λ(o:iT)=>o.2.1) (λx hx=>by obtain⟨r,hr,rfl⟩:=J6.1 hx;obtain⟨k,hk,e⟩:=Y5 hr;obtain⟨⟨d,hd,-⟩,-⟩:=a0L (hz k r (by simp_all));obtain⟨a,b,-⟩:=bQ hd<;>grind [o9]) h8
 rw[J4]at hc;refine⟨hw.nm,l7,l7,l7,hw.fo,λr hr=>⟨hw.ro r hr,?_⟩⟩;obtain⟨k,hk,e⟩:=Y5 hr;obtain⟨⟨d,-,hd⟩,-⟩:=a0L (hz k r (by simp_all));exact b3p hd
theorem a1s(hL:SwL l)(hs:l.2.2[i]? =some s):EI l (i:Int)=some (Om l i s):=by
 have hi:=(U8.1 hs).1;have hS:=hL.sc s (lM hs);have hf:=hL.few;have hf1:=hf.1;have hf2:=hf.2.1;have hf3:=hf.2.2;have n3:=hS.nr;unfold EI Om VV;rw[G8,hs,o8,Ea l7,o8,TT _ l7,o8,XI _ l7,o8,a6s _ U3,o8];have hb:(l9 (l.1.any λx=>seq x.1 s.1) (some (s,true)) (l9 (l.2.1.any λx=>seq x.1 s.1) (some (s,true)) (some (s,(l.2.2.take i).any λx=>seq x.1 s.1))))=
   some (s,(l.1.any λx=>seq x.1 s.1) || (l.2.1.any λx=>seq x.1 s.1) || (l.2.2.take i).any λx=>seq x.1 s.1):=by
  cases l.1.any λx=>seq x.1 s.1
  .cases l.2.1.any λx=>seq x.1 s.1<;>rfl
  .rfl
 rw[hb,o8];rw[zh hS.nm,o8];cases Ko s.1
 .rfl
 cases (l.1.any λx=>seq x.1 s.1) || (l.2.1.any λx=>seq x.1 s.1) || (l.2.2.take i).any λx=>seq x.1 s.1
 case true=>rfl
 have hm:(l9 (G6 (x8 s.2.1 (-1))) (l9 (F7 s.2.1 0) (some true) (l9 (S9 (i:Int) s.2.1) (some true) (o5 (H9 (l.2.2.take i) s.2.1) λ(x:F9)=>some (G6 (x8 x.2.1 (-1)))))) (some false))=some (Qk l i s.2.1):=by
  unfold Qk;cases x8 s.2.1 (-1)
  case true=>rfl
  cases h0:F7 s.2.1 0
  case true=>rfl
  cases h1:S9 (i:Int) s.2.1
  case true=>rfl
  rw[jW]at h0;rw[LH]at h1;obtain⟨q,hq,_⟩:=qA (l:=l.2.2.take i) h0 (by simp only[o9,bH];omega);have hq2:H9 l.2.2 s.2.1=some q:=by have:=(bQ hq).2.2.2;unfold H9;rw[if_pos h0];exact(a7W this).2
  rw[hq,hq2];rfl
 rw[hm,o8];cases Qk l i s.2.1
 case true=>rfl
 cases g12:F7 12 (o9 s.2.2.1)
 case true=>rfl
 cases g13:F7 12 (o9 s.2.2.2.1)
 case true=>rfl
 have m1:s.2.2.1.length<=12:=by have:=jW.1 g12;unfold o9 at this;omega
 have m2:s.2.2.2.1.length<=12:=by have:=jW.1 g13;unfold o9 at this;omega
 unfold WX KD;refine cZ (BC (p:=inP l s) s.2.2.1.length l7 PUnit.unit (λk hk=>?_) ?_) ?_
 rotate_left 2
 .cases fH s.2.2.1.length (inP l s)
  case some r=>rfl
  refine cZ (BC (p:=b3i l s) s.2.2.2.1.length l7 PUnit.unit (λk hk=>?_) ?_) ?_
  rotate_left 2
  .cases fH s.2.2.2.1.length (b3i l s)
   case some r=>rfl
   rw[Uk hL.scopes hs,o8];refine cZ (BC (p:=QE l s) s.2.2.2.2.length l7 PUnit.unit (λk hk=>?_) ?_) ?_
   rotate_left 2
   .cases hfr:fH s.2.2.2.2.length (QE l s)
    case some r=>rfl
    have hS:=b8t hS m1 m2 hfr;refine cZ (BC (p:=a5Z s) s.2.2.2.1.length l7 PUnit.unit (λk hk=>?_) ?_) ?_
    rotate_left 2
    .cases fH s.2.2.2.1.length (a5Z s)<;>rfl
    .have e:=dE hk;simp only[au e,o7];rw[a1N hS l7 (by show(k:Int)<o9 s.2.2.2.1;simp only[o9];omega),o8,b3v _ (by
      have:=D_ hS (Nh s (k:Int)).1 (λx hx=>b9D hx);omega),o8,show(200:Int)=((200:Nat):Int)from rfl,b1B l7 l7]
     unfold a5Z;cases (Cc s (k:Int)).any λx=>x8 (k:Int) x<;>rfl
    .rw[ak];rfl
   .have e:=dE hk;have hr:=hS.ro _ (P8 hk);simp only[au e,o7];rw[a3P _ e l7 hr,o8,show(300:Int)=((300:Nat):Int)from rfl,b1B l7 l7];simp only[QE,e,g_];cases x8 (KX s (yV l s) k s.2.2.2.2[k]) 0<;>rfl
   .rw[ak];rfl
  .have e:=dE hk;have hm:=hS.fo.2 _ (P8 hk);simp only[au e,o7,G8,e,o8];rw[Ea l7,o8,SS hm l7 U3,o8,show(200:Int)=((200:Nat):Int)from rfl,b1B l7 l7];simp only[b3i,e,g_];cases x8 (PZ l.1 s.2.2.2.1[k] s.2.2.1 (s.2.2.2.1.take k)) 0<;>rfl
  .rw[ak];rfl
 .have e:=dE hk;have hm:=hS.fo.1 _ (P8 hk);simp only[au e,o7,G8,e,o8];rw[Ea l7,o8,SS hm (by grind) x9,o8,show(100:Int)=((100:Nat):Int)from rfl,b1B l7 l7];simp only[inP,e,g_];cases x8 (PZ l.1 s.2.2.1[k] (s.2.2.1.take k) []) 0<;>rfl
 .rw[ak];rfl
theorem Rh{c e:Int}{r:Int×Int}(h:g_ c e=some r):r.1≠0:=by
 unfold g_ at h;cases hc:x8 c 0<;>rw[hc]at h
 .cases h;exact zN.1 hc
 .cases h
theorem Qa{r:Int×Int}(h:KD l s=some r):r.1≠0:=by
 grind [KD,je,inP,Rh,b3i]
def Ol(l:aZ)(i:Nat):Option (Int×Int×Int×Int):=match l.2.2[i]? with|some s=>WI 3 i (Om l i s)|none=>none
def VN(l:aZ):Int×Int×Int×Int:=l9 (F7 4 (o9 l.2.2)) (4,3,4,0) (match fH l.2.2.length (Ol l)with|some r=>r|none=>(0,0,0,0))
def eX(l:aZ):Int×Int×Int×Int:=l9 (x8 (Lt l).1 0) (l9 (x8 (IR l).1 0) (VN l) (IR l)) (Lt l)
theorem ZL(hL:SwL l):Dn l=some (VN l):=by
 have hf:=hL.few.2.2;unfold Dn VN;cases F7 4 (o9 l.2.2)
 case true=>rfl
 refine cZ (Qb (p:=Ol l) l.2.2.length l7 _ (0,0,0,0) (λi hi=>?_) ?_) ?_
 rotate_left 2
 .cases fH l.2.2.length (Ol l)<;>rfl
 .have e:=dE hi;simp[au e,o7,a1s hL e,o8,Ol,e,WI];cases x8 (Om l i l.2.2[i]).1 0<;>rfl
 simp[ak]
theorem a5m(hL:SwL l):uz l=some (eX l):=by
 unfold uz eX;rw[a1r hL.few hL.en,o8];cases x8 (Lt l).1 0
 .rfl
 rw[ZM hL.few hL.tb,o8];cases x8 (IR l).1 0<;>simp_all [ZL]
theorem En(hL:SmL l):uz l=some (eX l):=a5m hL.w
theorem a2n{k i:Int}{c:Int×Int}{r:Int×Int×Int×Int}(h:WI k i c=some r):r.1≠0:=by
 unfold WI at h;cases hc:x8 c.1 0<;>rw[hc]at h
 .cases h;exact zN.1 hc
 .cases h
structure SmC (c:kY):Prop where
 ni:c.2.1.length<=1000
 nm:c.2.2.length<=1000
 nv:∀v∈c.2.2,v.length<=1000
def a1Q(en:List gX)(fs:List oZ)(vs:List F5)(i:Nat):Option (Int×Int):=match vs[i]?,fs[i]? with
 |some v,some f=>l9 (x8 v.1 f.2.1) (l9 (x8 v.2.1 f.2.2) (l9 (inB v.2.2 (bnd f.2 en)) none (some ((i:Int),3))) (some ((i:Int),8))) (some ((i:Int),8))|_,_=>none
def Ib(en:List gX)(fs:List oZ)(vs:List F5):Int×Int:=
 l9 (F7 (o9 vs) (o9 fs)) (o9 vs,5) (l9 (F7 (o9 fs) (o9 vs)) (o9 fs,4) (match fH vs.length (a1Q en fs vs)with|some r=>r|none=>(0,0)))
theorem a3x{en:List gX}{fs:List oZ}{vs:List F5}{r:Int×Int}(h:a1Q en fs vs i=some r):r.2≠0:=by
 unfold a1Q at h;split at h
 .rename_i v f _ _;cases h1:x8 v.1 f.2.1<;>rw[h1]at h
  .cases h<;>simp_all
  cases h2:x8 v.2.1 f.2.2<;>rw[h2]at h
  .cases h<;>simp_all
  cases h3:inB v.2.2 (bnd f.2 en)<;>rw[h3]at h
  .cases h<;>simp_all
  .cases h
 grind
theorem PQ(l:aZ){vs:List F5}{fs:List oZ}(hv:vs.length<=1000000):rD l vs fs=some (Ib l.1 fs vs):=by
 unfold rD Ib;cases h1:F7 (o9 vs) (o9 fs)
 case true=>rfl
 cases h2:F7 (o9 fs) (o9 vs)
 case true=>rfl
 have hl:vs.length=fs.length:=by grind [jW,o9]
 refine cZ (BC (p:=a1Q l.1 fs vs) vs.length hv PUnit.unit (λk hk=>?_) ?_) ?_
 rotate_left 2
 .cases fH vs.length (a1Q l.1 fs vs)<;>rfl
 .have e:=dE hk;have e2:=dE (show k<fs.length by omega);simp[au e,o7,G8,e,e2,o8,QW,a1Q,inB,wu];cases x8 vs[k].1 fs[k].2.1
  .rfl
  cases x8 vs[k].2.1 fs[k].2.2
  .rfl
  cases S9 (bnd fs[k].2 l.1).1 vs[k].2.2
  .rfl
  cases S9 vs[k].2.2 (bnd fs[k].2 l.1).2<;>rfl
 simp[ak]
def AP(l:aZ)(s:F9):List oZ×Int:=match H9 l.2.2 s.2.1 with|some q=>(q.2.2.1,8)|none=>([],0)
def a9f(en:List gX)(fs:List oZ)(ms:List (List F5))(i:Nat):Option (Int×Int×Int):=match ms[i]? with
 |some vs=>l9 (x8 (Ib en fs vs).2 0) none (some ((i:Int),Ib en fs vs))|none=>none
def Et(l:aZ)(k:Int)(c:kY):Int×Int×Int:=match H9 l.2.2 k with
 |none=>(-1,-1,6)
 |some s=>l9 (F7 c.1 0) (-1,-1,3) (l9 (F7 109572 c.1) (-1,-1,3) (l9 (x8 (Ib l.1 s.2.2.1 c.2.1).2 0)
   (l9 (F7 (AP l s).2 (o9 c.2.2)) ((AP l s).2,-1,4) (match fH c.2.2.length (a9f l.1 (AP l s).1 c.2.2)with|some r=>r|none=>(0,0,0))) (-1,Ib l.1 s.2.2.1 c.2.1)))
theorem b8l{k:Int}{A B:Option (PUnit⊕(Int×Int×Int))} :(∃s,H9 l.2.2 k=some s/\l9 (F7 k 0) A (l9 (S9 (o9 l.2.2) k) A B)=B/\s∈l.2.2)\/(H9 l.2.2 k=none/\l9 (F7 k 0) A (l9 (S9 (o9 l.2.2) k) A B)=A):=by
 rw[wu k 0,KG (o9 l.2.2) k];cases h0:S9 0 k
 .simp_all [xO]
 cases h1:F7 k (o9 l.2.2)
 .simp_all [xO]
 obtain⟨s,hs,hm⟩:=qA (pF.1 h0) (jV.1 h1)<;>simp_all
theorem UD(l:aZ)(k:Int){c:kY}(hc:SmC c):sJ l k c=some (Et l k c):=by
 unfold sJ Et;rcases b8l with⟨s,hs,hb,_⟩|⟨hs,hb⟩
 .rw[hb,hs];simp;cases F7 c.1 0
  case true=>rfl
  cases F7 109572 c.1
  case true=>rfl
  rw[PQ l (by have:=hc.ni;omega),o8];cases x8 (Ib l.1 s.2.2.1 c.2.1).2 0
  .rfl
  have hm:vz l k=some (AP l s):=by
   unfold vz AP;rw[hs,o8,wu s.2.1 0,KG (o9 l.2.2) s.2.1];cases h0:S9 0 s.2.1
   .simp_all [xO]
   cases h1:F7 s.2.1 (o9 l.2.2)
   .simp_all [xO]
   obtain⟨q,hq,_⟩:=qA (pF.1 h0) (jV.1 h1);simp_all
  rw[hm,o8];cases F7 (AP l s).2 (o9 c.2.2)
  case true=>rfl
  refine cZ (BC (p:=a9f l.1 (AP l s).1 c.2.2) c.2.2.length (by have:=hc.nm;omega) PUnit.unit (λj hj=>?_) ?_) ?_
  rotate_left 2
  .cases fH c.2.2.length (a9f l.1 (AP l s).1 c.2.2)<;>rfl
  .have e:=dE hj;simp[au e,o7,G8,e,o8];rw[PQ l (by have:=hc.nv _ (P8 hj);omega),o8];simp[a9f,e];cases x8 (Ib l.1 (AP l s).1 c.2.2[j]).2 0<;>rfl
  simp[ak]
 simp_all
def Iy(r:Int×Int)(t:Int):Bool:=l9 (Ny r) (l9 (S9 r.1 t) (F7 t r.2) false) false
theorem DR(r:Int×Int)(t:Int):jl r t=some (Iy r t):=by
 unfold jl Iy;rw[Rf];cases Ny r
 .rfl
 cases S9 r.1 t<;>rfl
theorem Vx(r:Int×Int)(t:Int):JR r t=some (Iy r t):=DR r t
section
variable (on:Nat->Bool) (par:Nat->Int)
def b1u(i:Nat):Nat:=((List.range i).filter on).length
def JI(i:Nat):Int:=if on i=true then(b1u on i:Int)else if h:0<=par i/\par i<(i:Int)then JI (par i).toNat else -1
termination_by i
decreasing_by omega
def anc(i:Nat):Int:=if 0<=par i/\par i<(i:Int)then JI on par (par i).toNat else -1
theorem c0G(i:Nat):JI on par i=if on i=true then(b1u on i:Int)else anc on par i:=by
 grind [JI,anc]
def onL(n:Nat):d4F:=(List.range n).filter on
theorem Vo(i:Nat):onL on (i+1)=onL on i++(bif on i then[i]else[]):=by
 grind [onL,List.range_succ]
theorem GN(i:Nat):(onL on i).length<=i:=by
 grind [onL]
theorem a4s{n i:Nat}(h:i∈onL on n):i<n/\on i=true:=by simp_all [onL]
end
def castL(l:d4F):d4D:=l.map λ(i:Nat)=>(i:Int)
theorem QX{l:d4F}{i a:Nat}(h:l[i]? =some a):(castL l)[i]? =some (a:Int):=by simp_all [castL]
theorem a3g{rs:List iT}{on:Nat->Bool}{f:d4D×d4D×d4D×Int->Option ((d4D×d4D×d4D×Int)⊕(d4D×d4D))}(hl:rs.length<=1000)
  (hin:∀(i:Nat) (r:iT) (A B C:d4D),rs[i]? =some r->f (A,B,C,(i:Int))=o5 (l9 (S9 0 r.2.2.1) (l9 (F7 r.2.2.1 (i:Int)) (o5 (H9 C r.2.2.1) λ(x_2:Int)=>o5 (P7 C (O9 r.2.2.1)) λ(x:Int)=>some x) (some (-1))) (some (-1))) λ(x_2:Int)=>
   o5 (H9 C (i:Int)) λ(x_3:Int)=>o5 (P7 C (O9 (i:Int))) λ(x_4:Int)=>l9 (on i) (o5 (H9 (V8 C (O9 (i:Int)) x_2) (i:Int)) λ(x_6:Int)=>o5 (P7 (V8 C (O9 (i:Int)) x_2) (O9 (i:Int))) λ(x_7:Int)=>o5 (fE A [(i:Int)]) λ(x_8:d4D)=>o5 (fE B [x_2]) λ(x_9:d4D)=>
     some (.inl (x_8,x_9,V8 (V8 C (O9 (i:Int)) x_2) (O9 (i:Int)) (o9 A),A8 .i64 (i:Int) 1))) (some (.inl (A,B,V8 C (O9 (i:Int)) x_2,A8 .i64 (i:Int) 1))))
  (hend:∀(A B C:d4D),f (A,B,C,(rs.length:Int))=some (.inr (A,B))):
  X8 f ([],[],List.replicate rs.length 0,0)=some (castL (onL on rs.length),(onL on rs.length).map (anc on λi=>match rs[i]? with|some r=>r.2.2.1|none=>-1)):=by
 obtain⟨par,hpar⟩:∃par:Nat->Int,par=λi=>match rs[i]? with|some r=>r.2.2.1|none=>-1:=⟨_,rfl⟩
 rw[←hpar];obtain⟨e,h1,h2⟩:=cu (f:=f) (s:=([],[],List.replicate rs.length 0,0)) (λx=>∃i:Nat,x=(castL (onL on i),(onL on i).map (anc on par),pd ((List.range i).map (JI on par)) (rs.length -i),(i:Int))/\i<=rs.length)
  (λe=>e=(castL (onL on rs.length),(onL on rs.length).map (anc on par))) (λx=>rs.length -x.2.2.2.toNat) ⟨0,by simp[onL,castL,pd],l7⟩ U3 (by
  rintro x ⟨i,rfl,hi⟩;by_cases h:i<rs.length
  .left;have e:=dE h;have hp:par i=rs[i].2.2.1:=by rw[hpar];simp only[e]
   obtain⟨p,hpp⟩:∃p:Int,p=par i:=⟨_,rfl⟩;have hp' :rs[i].2.2.1=p:=by rw[hpp,hp]
   have hlen:((List.range i).map (JI on par)).length=i:=x9;have hol:=GN on i;obtain⟨m,hm⟩:∃m,rs.length -i=m+1:=⟨rs.length -i -1,l7⟩;have hanc:o5 (l9 (S9 0 p) (l9 (F7 p (i:Int)) (o5 (H9 (pd ((List.range i).map (JI on par)) (m+1)) p) λ(x_2:Int)=>o5 (P7 (pd ((List.range i).map (JI on par)) (m+1)) (O9 p)) λ(x:Int)=>some x) (some (-1))) (some (-1))) (λx=>some x)=some (anc on par i):=by
    unfold anc;rw[←hpp];by_cases h0:0<=p
    .rw[ae h0];by_cases h1:p<(i:Int)
     .have hk:p.toNat<i:=l7;have hg:(pd ((List.range i).map (JI on par)) (m+1))[p.toNat]? =some (JI on par p.toNat):=by
       unfold pd;rw[G5 U3,IG _ _ hk]
      rw[U0 h1,if_pos ⟨h0,h1⟩];simp only[o7];rw[show H9 (pd ((List.range i).map (JI on par)) (m+1)) p=some (JI on par p.toNat) by unfold H9;rw[if_pos h0];exact hg,o8,show P7 (pd ((List.range i).map (JI on par)) (m+1)) (O9 p)=some (JI on par p.toNat)from hg];rfl
     .rw[L6 l7,if_neg l7];rfl
    .rw[aC l7,if_neg l7];rfl
   rw[dL]at hanc;refine⟨(castL (onL on (i+1)),(onL on (i+1)).map (anc on par),pd ((List.range (i+1)).map (JI on par)) (rs.length -(i+1)),((i+1:Nat):Int)),?_,⟨i+1,rfl,h⟩,by simp;omega⟩;rw[hin i _ _ _ _ e,hm,hp',hanc,o8,ja l7,show rs.length -(i+1)=m by omega,Vo,gq,aY];have q1:=a4y ((List.range i).map (JI on par)) m;have q2:=a4z ((List.range i).map (JI on par)) m;have q3:=a9z ((List.range i).map (JI on par)) m (anc on par i);have q4:=RG ((List.range i).map (JI on par)) m (anc on par i);have q5:=Qq ((List.range i).map (JI on par)) m (anc on par i);have q6:=Vt ((List.range i).map (JI on par)) m (anc on par i) (o9 (castL (onL on i)));rw[hlen]at q1 q2 q3 q4 q5 q6;rw[q1,o8,q2,o8,q3];have hna:(List.map (JI on par) (List.range i++[i]))=(List.range i).map (JI on par)++[if on i=true then(b1u on i:Int)else anc on par i]:=by rw[aY,List.map_singleton,c0G]
   rw[hna];cases hon:on i
   .simp[castL]
   .simp only[o7,cond_true];rw[q4,o8,q5,o8,kU _ (by simp[castL];omega),o8,kU _ U3,o8,q6];simp[castL,o9,b1u,onL]
  .right;have:i=rs.length:=l7;subst this;exact⟨_,hend _ _ _,rfl⟩)
 rw[h1,h2]
def onR(s:F9)(d t:Int)(i:Nat):Bool:=match s.2.2.2.2[i]? with|some r=>l9 (x8 r.2.1 d) (Iy r.2.2.2.2.1 t) false|none=>false
def a9v(s:F9)(i:Nat):Int:=match s.2.2.2.2[i]? with|some r=>r.2.2.1|none=>-1
def dB(s:F9)(d t:Int):d4F:=onL (onR s d t) s.2.2.2.2.length
def b6R(s:F9)(i:Nat):Int:=match s.2.2.2.2[i]? with|some r=>r.2.2.2.1|none=>0
def Y2(s:F9)(d t:Int):d4D×d4D×d4D:=(castL (dB s d t),(dB s d t).map (anc (onR s d t) (a9v s)),(dB s d t).map (b6R s))
theorem c4M(h:s.2.2.2.2[i]? =some r)(d t:Int):yE r d t=some (onR s d t i):=by unfold yE onR;rw[h,DR];simp;cases x8 r.2.1 d<;>rfl
theorem VH(h:s.2.2.2.2.length<=1000)(d t:Int):tY s.2.2.2.2 (d,t)=some (castL (dB s d t),(dB s d t).map (anc (onR s d t) (a9v s))):=by
 unfold tY;rw[show lI (o9 s.2.2.2.2) (0:Int)=some (List.replicate s.2.2.2.2.length 0) by grind [lI,o9],o8,dL];refine a3g h (λi r A B C hr=>?_) (λA B C=>?_)
 .simp[au hr,o7,G8,hr,o8];rw[c4M hr];rfl
 .simp[ak]
theorem c1c:yF=tY:=rfl
theorem a9Z(h:s.2.2.2.2.length<=1000)(d t:Int):vX s d t=some (castL (dB s d t)):=by unfold vX;rw[c1c,VH h,o8]
theorem RZ{d t:Int}(h:i∈dB s d t):i<s.2.2.2.2.length/\onR s d t i=true:=a4s _ h
theorem Xt(h:s.2.2.2.2.length<=1000)(d t:Int):qM s d t=some (Y2 s d t):=by
 have hl:=GN (onR s d t) s.2.2.2.2.length;unfold qM;rw[VH h];refine cZ (b5K (castL (dB s d t)) (λ(k:Int)=>b6R s k.toNat) (F:=id) (by grind [castL,dB]) (λi a acc ha hacc=>?_) (λacc=>?_)) ?_
 rotate_left 2
 .simp[Y2,castL]
 .simp[au ha,o7,G8 (castL (dB s d t)),ha,o8];rw[show P7 (castL (dB s d t)) (O9 (i:Int))=some a from ha];obtain⟨k,hk,rfl⟩:∃k,k∈dB s d t/\(k:Int)=a:=by
   grind [castL]
  have hlt:=RZ hk
  grind [castL,G8,o8,kU,dB,b6R]
 .simp[ak]
theorem WU(on:Nat->Bool)(n:Nat):(onL on n).Pairwise (·< ·):=List.Pairwise.filter _ uu
end
section
def a1e(par prio:d4D)(i:Nat):d4H:=match par[i]?,prio[i]? with
 |some p,some q=>l9 (F7 p (-1)) (some 9) (l9 (S9 (i:Int) p) (some 9) (l9 (F7 q 0) (some 3) (l9 (F7 9 q) (some 3) none)))|_,_=>none
def TE(par prio:d4D):Int:=l9 (G6 (x8 (o9 par) (o9 prio))) 2 (l9 (F7 8 (o9 par)) 4 (match fH par.length (a1e par prio)with|some r=>r|none=>0))
theorem b9F(par prio:d4D):Aa par prio=some (TE par prio):=by
 unfold Aa TE;cases h1:x8 (o9 par) (o9 prio)
 .rfl
 cases h2:F7 8 (o9 par)
 case true=>rfl
 have hl:par.length=prio.length:=by grind [U4,o9]
 refine cZ (BC (p:=a1e par prio) par.length (by grind [jW,o9]) PUnit.unit (λk hk=>?_) ?_) ?_
 rotate_left 2
 .cases fH par.length (a1e par prio)<;>rfl
 .have e:=dE hk;have e2:=dE (show k<prio.length by omega);simp[au e,o7,G8,e,e2,o8,a1e];cases F7 par[k] (-1)
  case true=>rfl
  cases S9 (k:Int) par[k]
  case true=>rfl
  cases F7 prio[k] 0
  case true=>rfl
  cases F7 9 prio[k]<;>rfl
 simp[ak]
theorem Nj{par prio:d4D}(h:TE par prio=0):par.length=prio.length/\par.length<=8/\∀(i:Nat) (p:Int),par[i]? =some p->-1<=p/\p<(i:Int):=by
 unfold TE at h;cases h1:x8 (o9 par) (o9 prio)<;>rw[h1]at h
 .cases h
 cases h2:F7 8 (o9 par)<;>rw[h2]at h
 case true=>cases h
 have hl:par.length=prio.length:=by grind [U4,o9]
 refine⟨hl,by grind [jW,o9],λi p hp=>?_⟩;have hi:=(U8.1 hp).1;cases hf:fH par.length (a1e par prio)with
 |some r=>
  rw[hf]at h;obtain⟨k,hk,hr⟩:=je hf;unfold a1e at hr;split at hr
  .subst h;rename_i a b _ _;cases c1:F7 a (-1)<;>rw[c1]at hr<;>try (cases hr)
   cases c2:S9 (k:Int) a<;>rw[c2]at hr<;>try (cases hr)
   cases c3:F7 b 0<;>rw[c3]at hr<;>try (cases hr)
   cases c4:F7 9 b<;>rw[c4]at hr<;>cases hr
  grind
 |none=>
  have:=vZ hf i hi;unfold a1e at this;rw[hp,dE l7]at this;simp at this;cases c1:F7 p (-1)<;>rw[c1]at this;cases c2:S9 (i:Int) p<;>rw[c2]at this
  all_goals simp_all [jW,LH]
def a6A(par:d4D)(at' :Int)(i:Nat):Bool:=match par[i]? with|some p=>x8 p at'|none=>false
def Ic(par:d4D)(at' :Int):d4F:=onL (a6A par at') par.length
variable {par:d4D}
theorem a5T(h:par.length<=1000)(at' :Int):zZ par at' =some (castL (Ic par at')):=by
 unfold zZ;rw[dL];obtain⟨e,h1,h2⟩:=cu (f:=λ(x:d4D×Int)=>l9 (F7 x.2 (o9 par)) (o5 (H9 par x.2) λ(x_1:Int)=>l9 (x8 x_1 at') (o5 (fE x.1 [x.2]) λ(x_2:d4D)=>some (.inl (x_2,A8 .i64 x.2 1))) (some (.inl (x.1,A8 .i64 x.2 1)))) (some (.inr x.1)))
  (s:=([],0)) (λx=>∃i:Nat,x=(castL (onL (a6A par at') i),(i:Int))/\i<=par.length) (λe=>e=castL (Ic par at')) (λx=>par.length -x.2.toNat) ⟨0,rfl,l7⟩ l7 (by
  rintro x ⟨i,rfl,hi⟩;by_cases hlt:i<par.length
  .left;have e:=dE hlt;have hol:=GN (a6A par at') i;refine⟨(castL (onL (a6A par at') (i+1)),((i+1:Nat):Int)),?_,⟨i+1,rfl,hlt⟩,l7⟩;simp[au e,o7,G8,e,o8];rw[ja l7,kU _ (by grind [castL]),Vo];have hon:a6A par at' i=x8 par[i] at' :=by simp_all [a6A]
   rw[hon];cases x8 par[i] at'<;>simp[castL]
  .right;have:i=par.length:=l7;subst this;exact⟨_,by rw[ak];rfl,rfl⟩)
 grind
theorem a4g{at' :Int}{i:Nat}(h:i∈Ic par at'):i<par.length/\par[i]? =some at' :=by obtain⟨h1,h2⟩:=a4s _ h<;>simp_all [a6A,U4]
def bG(oc pr:Int->Int)(acc:d4D)(a:Int):d4D:=l9 (x8 (oc a) (-1)) acc (match acc with
 |[]=>[a]
 |b::r=>l9 (F7 (pr b) (pr a)) [a] (l9 (x8 (pr a) (pr b)) (b::r++[a]) (b::r)))
theorem b5g(oc pr:Int->Int){acc:d4D}{a x:Int}(h:x∈bG oc pr acc a):x∈acc\/x=a:=by unfold bG at h<;>grind [x8,o6,F7,o7]
theorem c4e(oc pr:Int->Int)(acc:d4D)(a:Int):(bG oc pr acc a).length<=acc.length+1:=by
 unfold bG;cases x8 (oc a) (-1)
 case true=>simp
 cases acc with
 |nil=>simp|cons b r=>
  simp;cases F7 (pr b) (pr a)
  .cases x8 (pr a) (pr b)<;>simp
  .simp
def PL(oc pr:Int->Int)(l:d4D):d4D:=l.foldl (bG oc pr) []
theorem a5O(oc pr:Int->Int):∀(l acc:d4D) (x:Int),x∈l.foldl (bG oc pr) acc->x∈acc\/x∈l
 |[],acc,x,h=> .inl h|a::l,acc,x,h=>by
  rcases a5O oc pr l _ x h with h|h
  .rcases b5g oc pr h with h|h
   .exact .inl h
   .exact .inr (by simp[h])
  .exact .inr (by simp[h])
variable {x:Int}
theorem QT{oc pr:Int->Int}{l:d4D}(h:x∈PL oc pr l):x∈l:=by rcases a5O oc pr l [] x h with h|h<;>simp_all
theorem ZA{oc oc' pr:Int->Int} :∀(l acc:d4D),(∀x∈l,oc x=oc' x)->l.foldl (bG oc pr) acc=l.foldl (bG oc' pr) acc
 |[],acc,_=>rfl|a::l,acc,h=>by rw[gm,gm,ZA l _ λx hx=>h x (by simp[hx])];unfold bG;rw[h a x9]
def chF(oc pr:Int->Int)(l:d4D):Int:=match PL oc pr l with|[]=>-1|[b]=>oc b|_=>-2
theorem a2h{oc oc' pr:Int->Int}{l:d4D}(h:∀x∈l,oc x=oc' x):chF oc pr l=chF oc' pr l:=by
 have e:PL oc pr l=PL oc' pr l:=ZA l [] h
 grind [chF,QT]
section
variable (par prio:d4D) (ap:List Bool)
def prF(i:Int):Int:=prio.getD i.toNat 0
def apF(i:Int):Bool:=ap.getD i.toNat false
def ocF:Nat->Int->Int
 |0,_=>-1|k+1,i=>l9 (x8 (chF (ocF k) (prF prio) (castL (Ic par i))) (-1)) (l9 (apF ap i) i (-1)) (chF (ocF k) (prF prio) (castL (Ic par i)))
variable (hv:TE par prio=0)
include hv
theorem H_{i x:Int}(h:x∈castL (Ic par i)):i<x/\x<(par.length:Int)/\0<=x:=by obtain⟨k,hk,rfl⟩:=J6.1 h;obtain⟨h1,h2⟩:=a4g hk;have:=(Nj hv).2.2 k i h2;omega
theorem a2P:∀(k k' :Nat) (i:Int),(par.length:Int) -i<=k->(par.length:Int) -i<=k' ->i<par.length->ocF par prio ap k i=ocF par prio ap k' i
 |0,_,i,h,_,h2=>by omega|_+1,0,i,_,h,h2=>by omega|k+1,k' +1,i,h,h',h2=>by
  unfold ocF;have:chF (ocF par prio ap k) (prF prio) (castL (Ic par i))=chF (ocF par prio ap k') (prF prio) (castL (Ic par i)):=
   a2h λx hx=>by have:=H_ par prio hv hx;exact a2P k k' x l7 l7 l7
  grind
end
end
section
theorem YR{prio:d4D}{i:Int}(h0:0<=i)(h:i<o9 prio):H9 prio i=some (prF prio i):=by obtain⟨x,hx,_⟩:=qA h0 h;have:=(bQ hx).2.2.2;simp_all [prF]
theorem b3a{f:d4D×Int->Option ((d4D×Int)⊕d4D)}(oc:Int->Int)(prio:d4D)(l:d4D)(hl:l.length<=1000)(hr:∀x∈l,0<=x/\x<o9 prio)
  (hin:∀(i:Nat) (a:Int) (acc:d4D),l[i]? =some a->acc.length<=1000->(∀x∈acc,0<=x/\x<o9 prio)->0<=a->a<o9 prio->f (acc,(i:Int))=some (.inl (bG oc (prF prio) acc a,A8 .i64 (i:Int) 1)))
  (hend:∀acc,f (acc,(l.length:Int))=some (.inr acc)):X8 f ([],0)=some (PL oc (prF prio) l):=by
 refine(DF l (bG oc (prF prio)) (λb i=>(b,i)) (λb=>b) (λi acc=>acc.length<=i/\∀x∈acc,0<=x/\x<o9 prio) (b:=[]) l7 ⟨x9,x9⟩ (λi a acc ha hi hI=>?_) (λacc hI=>hend acc)).1;have hlt:=(U8.1 ha).1;have ham:=hr a (lM ha);rw[hin i a acc ha l7 hI.2 ham.1 ham.2,ja l7];refine⟨rfl,by have:=c4e oc (prF prio) acc a;omega,λx hx=>?_⟩;rcases b5g _ _ hx with h|h
 .exact hI.2 x h
 .rw[h];exact ham
section
variable (par prio:d4D) (ap:List Bool) (hv:TE par prio=0) (hap:ap.length=par.length)
def OC(i:Int):Int:=ocF par prio ap (par.length+1) i
def chS(at' :Int):Int:=chF (OC par prio ap) (prF prio) (castL (Ic par at'))
include hv in
theorem c7G{i:Int}(h0:-1<=i)(h:i<par.length):OC par prio ap i=l9 (x8 (chS par prio ap i) (-1)) (l9 (apF ap i) i (-1)) (chS par prio ap i):=by
 unfold OC chS;rw[ocF];have:chF (ocF par prio ap par.length) (prF prio) (castL (Ic par i))=chF (OC par prio ap) (prF prio) (castL (Ic par i)):=
  a2h λx hx=>by have:=H_ par prio hv hx;exact a2P par prio ap hv _ _ x l7 l7 l7
 rw[this]
include hv in
theorem b5T(i:Int):(castL (Ic par i)).length<=8:=by have h1:=GN (a6A par i) par.length;have h2:=(Nj hv).2.1;unfold castL Ic;rw[J4];omega
include hv in
theorem b3A{i x:Int}(h:x∈castL (Ic par i)):0<=x/\x<o9 prio:=by have:=H_ par prio hv h;have h2:=(Nj hv).1;simp only[o9];omega
include hv in
theorem b9s(arr:d4D)(i:Int)(hA:∀x∈castL (Ic par i),H9 arr x=some (OC par prio ap x)):yS (par,prio,arr) i=some (PL (OC par prio ap) (prF prio) (castL (Ic par i))):=by
 unfold yS;rw[a5T (by have:=(Nj hv).2.1;simp only;omega),o8,dL];refine b3a (OC par prio ap) prio _ (by have:=b5T par prio hv i;omega) (λx hx=>b3A par prio hv hx) (λk a acc ha hl hacc h0 h1=>?_) (λacc=>?_)
 .simp only[au ha,o7,G8 (castL (Ic par i)),ha,o8];rw[show P7 (castL (Ic par i)) (O9 (k:Int))=some a from ha,o8,hA a (lM ha),o8];unfold bG;cases x8 (OC par prio ap a) (-1)
  case true=>rfl
  simp only[o6,YR h0 h1,o8];cases acc with
  |nil=>simp only[L6 (show o9 ([]:d4D)<=0 by simp[o9]),o6,o8,L8 (show o9 ([]:d4D)=0 from rfl),o7,kU a (show([]:d4D).length<=1000000 by simp)];rfl|cons b r=>
   have hb:=hacc b x9;simp only[U0 (show(0:Int)<o9 (b::r) by simp[o9]<;>omega),o7,show H9 (b::r) 0=some b from rfl,show P7 (b::r) (O9 0)=some b from rfl,o8,YR hb.1 hb.2];cases F7 (prF prio b) (prF prio a)
   .simp only[o6,o8,I4 (show o9 (b::r)≠0 by simp[o9]<;>omega),show H9 (b::r) 0=some b from rfl,show P7 (b::r) (O9 0)=some b from rfl,YR hb.1 hb.2];cases x8 (prF prio a) (prF prio b)
    .rfl
    .rw[o7,o7,kU _ l7];rfl
   .simp only[o7,show nG 0 0 (o9 (b::r))=true by simp[nG,o9]<;>omega,show lJ (b::r) (O9 0) (O9 0)=[]from rfl,o8,L8 (show o9 ([]:d4D)=0 from rfl),kU a (show([]:d4D).length<=1000000 by simp)];rfl
 .simp only[ak];rfl
include hv in
theorem b2c(arr:d4D)(i:Int)(hA:∀x∈castL (Ic par i),H9 arr x=some (OC par prio ap x)):kD (par,prio,arr) i=some (chS par prio ap i):=by
 unfold kD chS chF;rw[b9s par prio ap hv arr i hA,o8];have hsub:∀x∈PL (OC par prio ap) (prF prio) (castL (Ic par i)),H9 arr x=some (OC par prio ap x):=λx hx=>hA x (QT hx);generalize PL (OC par prio ap) (prF prio) (castL (Ic par i))=b at*;match b,hsub with
 |[],_=>rfl|[x],hsub=>simp only[I4 (show o9 [x]≠0 by simp[o9]),L8 (show o9 [x]=1 from rfl),o6,o7,show H9 [x] 0=some x from rfl,show P7 [x] (O9 0)=some x from rfl,o8,hsub x x9]|x::y::r,_=>rw[I4 (by simp[o9];omega),I4 (by simp[o9];omega)];rfl
include hv hap in
theorem a7b:∃arr,Ac par prio ap=some arr/\∀x,0<=x->x<(par.length:Int)->H9 arr x=some (OC par prio ap x):=by
 have h8:=(Nj hv).2.1;unfold Ac;rw[show lI (o9 par) (0:Int)=some (List.replicate par.length 0) by unfold lI;rw[if_pos (by simp[o9];omega)];simp[o9],o8];have key:=cu (f:=λ(x:pg×Int)=>l9 (S9 0 x.2) (o5 (kD x.1 x.2) λ(x_1:Int)=>o5 (H9 x.1.2.2 x.2) λ(x_2:Int)=>o5 (P7 x.1.2.2 (O9 x.2)) λ(x_3:Int)=>
   o5 (H9 (V8 x.1.2.2 (O9 x.2) x_1) x.2) λ(x_4:Int)=>o5 (P7 (V8 x.1.2.2 (O9 x.2) x_1) (O9 x.2)) λ(x_5:Int)=>l9 (x8 x_5 (-1)) (o5 (H9 ap x.2) λ(x_6:Bool)=>l9 x_6 (o5 (H9 (V8 x.1.2.2 (O9 x.2) x_1) x.2) λ(x_7:Int)=>
    o5 (P7 (V8 x.1.2.2 (O9 x.2) x_1) (O9 x.2)) λ(x_8:Int)=>some (.inl ((x.1.1,x.1.2.1,V8 (V8 x.1.2.2 (O9 x.2) x_1) (O9 x.2) x.2),I8 .i64 x.2 1))) (some (.inl ((x.1.1,x.1.2.1,V8 x.1.2.2 (O9 x.2) x_1),I8 .i64 x.2 1))))
     (some (.inl ((x.1.1,x.1.2.1,V8 x.1.2.2 (O9 x.2) x_1),I8 .i64 x.2 1)))) (some (.inr x.1)))
  (s:=((par,prio,List.replicate par.length 0),I8 .i64 (o9 par) 1)) (λx=>∃(arr:d4D) (i:Int),x=((par,prio,arr),i)/\-1<=i/\i<par.length/\arr.length=par.length/\∀x,i<x->x<(par.length:Int)->H9 arr x=some (OC par prio ap x))
  (λy=>∃arr:d4D,y=(par,prio,arr)/\∀x,0<=x->x<(par.length:Int)->H9 arr x=some (OC par prio ap x)) (λx=>(x.2+1).toNat) ?_ ?_ ?_
 .obtain⟨y,k1,arr,rfl,k3⟩:=key;refine⟨arr,(wJ k1 _).trans rfl,k3⟩
 .exact⟨_,_,rfl,by rw[U7 (by unfold iq o9;omega)];simp[o9];omega,by rw[U7 (by unfold iq o9;omega)];simp only[o9];omega,x9,λx h1 h2=>by rw[U7 (by unfold iq o9;omega)]at h1;simp only[o9]at h1;omega⟩
 .rw[U7 (by unfold iq o9;omega)];simp[o9];omega
 .rintro x ⟨arr,i,rfl,h1,h2,hlen,hA⟩;by_cases h0:0<=i
  .left;obtain⟨k,rfl⟩:∃k:Nat,i=(k:Int):=⟨i.toNat,l7⟩;have hk:k<arr.length:=l7;have hka:k<ap.length:=l7;have e:=dE hk;have ea:=dE hka;have hch:=b2c par prio ap hv arr (k:Int) (λx hx=>by
    have:=H_ par prio hv hx;exact hA x this.1 this.2.1)
   have hs:∀v:Int,H9 (V8 arr (O9 (k:Int)) v) (k:Int)=some v:=λv=>by rw[G8];show(arr.set k v)[k]? =some v;rw[ax hk]
   have hs2:∀v:Int,P7 (V8 arr (O9 (k:Int)) v) (O9 (k:Int))=some v:=λv=>by have:=hs v;rw[G8]at this;exact this
   have hsub:I8 .i64 (k:Int) 1=(k:Int) -1:=U7 O6;have hoc:=c7G par prio ap hv (i:=(k:Int)) l7 l7;have hapk:apF ap (k:Int)=ap[k]:=by unfold apF;rw[D9,BG,ea];rfl
   rw[hapk]at hoc;refine⟨((par,prio,arr.set k (OC par prio ap (k:Int))),(k:Int) -1),?_,⟨_,_,rfl,l7,l7,by simp[hlen],λx hx1 hx2=>?_⟩,by simp<;>omega⟩
   .simp only[ae h0,o7,hch,o8,G8 arr,e,show P7 arr (O9 (k:Int))=some arr[k]from e,hs,hs2,G8 ap,ea,hsub];rw[hoc];cases hq:x8 (chS par prio ap (k:Int)) (-1)
    .simp only[o6];rfl
    .simp only[o7];cases ap[k]
     .rw[U4.1 hq];rfl
     .simp only[o7];show some (Sum.inl ((par,prio,(arr.set k _).set k _),_))=_;rw[List.set_set]
   .unfold H9
    rw[if_pos l7];by_cases hxk:x=(k:Int)
    .rw[hxk,D9,ax hk]
    .have:=hA x l7 hx2;unfold H9 at this;rw[if_pos l7]at this;rw[J8,if_neg l7];exact this
  .right;exact⟨(par,prio,arr),by rw[aC l7];rfl,arr,rfl,λx hx1 hx2=>hA x l7 hx2⟩
end
def Bg(par prio:d4D)(ap:List Bool):Int:=l9 (x8 (TE par prio) 0) (l9 (x8 (o9 ap) (o9 par)) (chS par prio ap (-1)) (-1)) (-1)
theorem Xl(par prio:d4D)(ap:List Bool):qo par prio ap=some (Bg par prio ap):=by
 unfold qo Bg;rw[b9F,o8];cases hv:x8 (TE par prio) 0
 .rfl
 cases hl:x8 (o9 ap) (o9 par)
 .rfl
 have hv' :=U4.1 hv;have hl' :ap.length=par.length:=by grind [U4,o9]
 obtain⟨arr,h1,h2⟩:=a7b par prio ap hv' hl';rw[h1,o8,dL];exact b2c par prio ap hv' arr (-1) λx hx=>by have:=H_ par prio hv' hx;simp_all
variable {l:d4D}{i:Nat}
theorem b3x(h:i<l.length):H9 l (i:Int)=some (hg l i):=by grind [G8,BD]
variable {j:Nat}
theorem a6u(hi:i<l.length)(hj:j<l.length):gK l (i:Int) (j:Int)=some (F7 (hg l i) (hg l j)):=by simp_all [gK,b3x]
theorem a6w(hi:i<l.length)(hj:j<l.length):iH l (i:Int) (j:Int)=some (swp l i j):=by
 unfold iH;have e1:P7 l (O9 (i:Int))=some (hg l i):=BD hi;have e2:P7 l (O9 (j:Int))=some (hg l j):=BD hj;have hj2:j<(V8 l (O9 (i:Int)) (hg l j)).length:=by show j<(l.set i (hg l j)).length;grind
 have e3:P7 (V8 l (O9 (i:Int)) (hg l j)) (O9 (j:Int))=some (hg (V8 l (O9 (i:Int)) (hg l j)) j):=BD hj2;rw[b3x hj,o8,e2,b3x hi,e1,o8,b3x hj2,e3];rfl
theorem a0p{l m:d4D}(h:l.Perm m):l.length=m.length:=h.length_eq
theorem d3S(hl:l.length<=100000)(hj:j<l.length)(h:Wi l j):∃l',zS l (j:Int)=some l' /\Pz l' l'.length/\l'.Perm l:=by
 unfold zS;have key:=cu (f:=λ(x:d4D×Int)=>l9 (x8 (eH .i64 (I8 .i64 x.2 1) 2) x.2) (some (.inr x.1)) (o5 (gK x.1 x.2 (eH .i64 (I8 .i64 x.2 1) 2)) λ(x_1:Bool)=>l9 (G6 x_1) (some (.inr x.1))
   (o5 (iH x.1 (eH .i64 (I8 .i64 x.2 1) 2) x.2) λ(x_2:d4D)=>some (.inl (x_2,eH .i64 (I8 .i64 x.2 1) 2)))))
  (λx=>∃(m:d4D) (k:Nat),x=(m,(k:Int))/\k<m.length/\Wi m k/\m.Perm l) (λm=>Pz m m.length/\m.Perm l) (λx=>x.2.toNat) ⟨l,j,rfl,hj,h,List.Perm.refl _⟩ l7 (by
  rintro x ⟨m,k,rfl,hk,hu,hp⟩;have hm:=a0p hp;by_cases h0:k=0
  .subst h0;exact .inr ⟨m,rfl,w_ hu (.inl rfl),hp⟩
  have hpar:eH .i64 (I8 .i64 (k:Int) 1) 2=(((k -1) / 2:Nat):Int):=by rw[U7 (by grind [iq]),zo (by grind [iq]),jw l7];omega
  simp only[hpar];rw[I4 l7,a6u hk l7,o8];cases hc:F7 (hg m k) (hg m ((k -1) / 2))
  .exact .inr ⟨m,rfl,w_ hu (.inr (by simp_all [jW])),hp⟩
  .rw[a6w l7 hk];exact .inl ⟨(swp m ((k -1) / 2) k,(((k -1) / 2:Nat):Int)),rfl,⟨_,_,rfl,by grind [Ot],a6t hu l7 hk (jV.1 hc),(QL l7 hk).trans hp⟩,l7⟩)
 grind [wJ]
theorem a2x(hl:l.length<=1000)(h:Pz l l.length)(x:Int):∃l',jA l x=some l' /\Pz l' l'.length/\l'.Perm (l++[x]):=by
 unfold jA Ez oz;rw[kU _ l7,o8,o8,o8];have hlen:(l++[x]).length=l.length+1:=x9;have hu:Wi (l++[x]) l.length:=by
  refine⟨λk k0 k1 k2=>?_,λh0 k k0 k1 k2=>by omega⟩;have hk:k<l.length:=l7;have hga:∀i,i<l.length->hg (l++[x]) i=hg l i:=λi hi=>by simp_all [hg,G5]
  rw[hga k hk,hga _ l7];exact h k k0 hk
 obtain⟨m,k1,k2,k3⟩:=d3S l7 l7 hu;refine⟨m,?_,k2,k3⟩;rw[show I8 .i64 (o9 (l++[x])) 1=((l.length:Nat):Int) by grind [U7,iq,o9],k1];rfl
theorem c0j{n i:Nat}(hl:l.length<=100000)(hn:n<=l.length)(hi:i<l.length)(h:LV l n i):∃b l',xw l (i:Int) (n:Int)=some (b,l')/\Pz l' n/\l'.Perm l/\l'.drop n=l.drop n:=by
 unfold xw;have key:=cu (f:=λ(x:d4D×Int)=>l9 (S9 (n:Int) (A8 .i64 (aP .i64 2 x.2) 1)) (some (.inr x)) (l9 (F7 (A8 .i64 (aP .i64 2 x.2) 1) 0) (some (.inr x)) (l9 (F7 (A8 .i64 (A8 .i64 (aP .i64 2 x.2) 1) 1) (n:Int))
   (o5 (gK x.1 (A8 .i64 (A8 .i64 (aP .i64 2 x.2) 1) 1) (A8 .i64 (aP .i64 2 x.2) 1)) λ(x_1:Bool)=>l9 x_1 (o5 (gK x.1 (A8 .i64 (A8 .i64 (aP .i64 2 x.2) 1) 1) x.2) λ(x_2:Bool)=>l9 (G6 x_2) (some (.inr x))
     (o5 (iH x.1 x.2 (A8 .i64 (A8 .i64 (aP .i64 2 x.2) 1) 1)) λ(x_3:d4D)=>some (.inl (x_3,A8 .i64 (A8 .i64 (aP .i64 2 x.2) 1) 1)))) (o5 (gK x.1 (A8 .i64 (aP .i64 2 x.2) 1) x.2) λ(x_2:Bool)=>l9 (G6 x_2) (some (.inr x))
     (o5 (iH x.1 x.2 (A8 .i64 (aP .i64 2 x.2) 1)) λ(x_3:d4D)=>some (.inl (x_3,A8 .i64 (aP .i64 2 x.2) 1)))))
   (o5 (gK x.1 (A8 .i64 (aP .i64 2 x.2) 1) x.2) λ(x_1:Bool)=>l9 (G6 x_1) (some (.inr x)) (o5 (iH x.1 x.2 (A8 .i64 (aP .i64 2 x.2) 1)) λ(x_2:d4D)=>some (.inl (x_2,A8 .i64 (aP .i64 2 x.2) 1)))))))
  (λx=>∃(m:d4D) (k:Nat),x=(m,(k:Int))/\k<m.length/\LV m n k/\m.Perm l/\m.drop n=l.drop n) (λy=>Pz y.1 n/\y.1.Perm l/\y.1.drop n=l.drop n) (λx=>l.length -x.2.toNat) ⟨l,i,rfl,hi,h,List.Perm.refl _,rfl⟩ l7 (by
  rintro x ⟨m,k,rfl,hk,hd,hp,hdr⟩;have hm:=a0p hp;have hc1:A8 .i64 (aP .i64 2 (k:Int)) 1=((2*k+1:Nat):Int):=by rw[oH O6,U5 O6];omega
  have hc2:A8 .i64 (((2*k+1:Nat):Int)) 1=((2*k+2:Nat):Int):=by rw[U5 O6];omega
  have dswp:∀a b,a<n->b<n->(swp m a b).drop n=l.drop n:=λa b ha hb=>by unfold swp;rw[List.drop_set_of_lt hb,List.drop_set_of_lt ha,hdr]
  simp only[hc1,hc2];by_cases h1:n<=2*k+1
  .rw[ae l7,o7];exact .inr ⟨_,rfl,IC hd (λj j0 j1 j2=>by omega),hp,hdr⟩
  rw[aC l7,o6,L6 l7,o6];by_cases h2:2*k+2<n
  .rw[U0 l7,o7,a6u l7 l7,o8];cases hc:F7 (hg m (2*k+2)) (hg m (2*k+1))
   .rw[jW]at hc;rw[o6,a6u l7 hk,o8];cases hq:F7 (hg m (2*k+1)) (hg m k)
    .rw[jW]at hq;exact .inr ⟨_,rfl,IC hd (λj j0 j1 j2=>by have:j=2*k+1\/j=2*k+2:=l7;rcases this with rfl|rfl<;>(dsimp only;omega)),hp,hdr⟩
    .rw[E8,a6w hk l7];exact .inl ⟨(swp m k (2*k+1),((2*k+1:Nat):Int)),rfl,⟨_,_,rfl,by rw[Ot];omega,LG hd l7 l7 l7 l7 (λj j0 j1 j2=>by
      have:j=2*k+1\/j=2*k+2:=l7;rcases this with rfl|rfl
      .exact aW _
      .exact hc) (jV.1 hq),(QL hk l7).trans hp,dswp _ _ l7 l7⟩,l7⟩
   .rw[jV]at hc;rw[o7,a6u l7 hk,o8];cases hq:F7 (hg m (2*k+2)) (hg m k)
    .rw[jW]at hq;exact .inr ⟨_,rfl,IC hd (λj j0 j1 j2=>by
      grind),hp,hdr⟩
    .rw[E8,a6w hk l7];exact .inl ⟨(swp m k (2*k+2),((2*k+2:Nat):Int)),rfl,⟨_,_,rfl,by grind [Ot],LG hd l7 l7 l7 l7 (λj j0 j1 j2=>by
      grind) (jV.1 hq),(QL hk l7).trans hp,dswp _ _ l7 l7⟩,l7⟩
  .rw[L6 l7,o6,a6u l7 hk,o8];cases hq:F7 (hg m (2*k+1)) (hg m k)
   .rw[jW]at hq;exact .inr ⟨_,rfl,IC hd (λj j0 j1 j2=>by
     grind),hp,hdr⟩
   .rw[E8,o6,a6w hk l7];exact .inl ⟨(swp m k (2*k+1),((2*k+1:Nat):Int)),rfl,⟨_,_,rfl,by grind [Ot],LG hd l7 l7 l7 l7 (λj j0 j1 j2=>by
     grind) (jV.1 hq),(QL hk l7).trans hp,dswp _ _ l7 l7⟩,l7⟩)
 obtain⟨y,k1,k2,k3,k4⟩:=key;exact⟨F7 (i:Int) y.2,y.1,(wJ k1 _).trans rfl,k2,k3,k4⟩
theorem b5N(hl:l.length<=1000)(h:Pz l l.length)(h0:0<l.length):∃l',uP l=some (hg l 0,l')/\Pz l' l'.length/\(l' ++[hg l 0]).Perm l:=by
 obtain⟨n,hn⟩:∃n,l.length=n+1:=⟨l.length -1,l7⟩;have hsub:I8 .i64 ((l.length:Nat):Int) 1=((n:Nat):Int):=by grind [U7,iq]
 unfold uP oz;rw[o8,show o9 l=((l.length:Nat):Int)from rfl,hsub,show(0:Int)=((0:Nat):Int)from rfl,a6w l7 l7,o8];have hlen:(swp l 0 n).length=n+1:=by rw[Ot,hn]
 obtain⟨b,m,k1,k2,k3,k4⟩:=c0j (n:=n) l7 l7 l7 (a8Z h l7);rw[k1,o8];have hml:=a0p k3;have hlast:hg m n=hg l 0:=by
  have e1:(m.drop n)[0]? =((swp l 0 n).drop n)[0]?:=by rw[k4]
  grind [BD,a4d]
 unfold FM;dsimp only;have hs2:I8 .i64 (o9 m) 1=((n:Nat):Int):=by simp_all [o9]
 rw[hs2,b3x l7,o8,show P7 m (O9 (n:Int))=some (hg m n)from BD (i:=n) l7,o8,show nG 0 (n:Int) (o9 m)=true by grind [nG,o9],hlast];refine⟨m.take n,rfl,?_,?_⟩
 .have:(m.take n).length=n:=by simp_all
  rw[this];intro k k0 k1';have hga:∀i,i<n->hg (m.take n) i=hg m i:=λi hi=>by grind [hg]
  rw[hga k k1',hga _ l7];exact k2 k k0 k1'
 .have hcat:m.take n++[hg l 0]=m:=by
   have e:m.drop n=[hg m n]:=by apply aB<;>grind [BD]
   grind [List.take_append_drop]
  grind [QL]
def Pj(O:d4D)(x:Int):Bool:=O.any λy=>x8 y x
variable {O:d4D}
theorem JB{x:Int} :Pj O x=true↔x∈O:=by simp[Pj,U4]
def b7x(s:F9)(d:Int)(O:d4D):Bool:=(ai s d).all λx=>Pj O x
def okN(s:F9)(O:d4D)(d:Nat):Bool:=l9 (Pj O (d:Int)) false (b7x s (d:Int) O)
def XQ(s:F9)(O:d4D)(d:Nat):Option Nat:=l9 (okN s O d) (some d) none
def Tm(s:F9)(O:d4D):Option Nat:=fH s.2.2.2.1.length (XQ s O)
variable {s:F9}
theorem b6s{d r:Nat}(h:XQ s O d=some r):r=d/\okN s O d=true:=by
 unfold XQ at h;cases hq:okN s O d<;>rw[hq]at h
 all_goals simp_all
variable {d:Nat}
theorem a0f(h:Tm s O=some d):d<s.2.2.2.1.length/\okN s O d=true:=by obtain⟨i,hi,hp⟩:=je h;obtain⟨rfl,ho⟩:=b6s hp<;>simp_all
theorem a6R(hd:d<s.2.2.2.1.length)(ho:okN s O d=true)(hn:∀j,j<d->okN s O j=false):Tm s O=some d:=by exact a6r (List.findSome?_eq_none_iff.2 λj hj=>by simp_all [XQ]) (by simp_all [XQ]) hd
theorem a9i(hn:∀j,j<s.2.2.2.1.length->okN s O j=false):Tm s O=none:=by simp_all [Tm,fH,XQ]
def a0k(s:F9):Nat->d4D->d4D⊕(d4D×Int)
 |0,O=> .inl O|k+1,O=>if O.length<s.2.2.2.1.length then(match Tm s O with|none=> .inr ([],9)|some d=>a0k s k (O++[(d:Int)]))else .inl O
def qE(s:F9):d4D×Int:=match a0k s 100 []with| .inl O=>(O,0)| .inr x=>x
def sF(s:F9)(e:Int)(i:Nat):d4F:=onL (λd=>decide (e∈ai s (d:Int))) i
def UU(s:F9)(O:d4D)(d:Int):d4D:=(ai s d).filter λx=> !Pj O x
def hw(W:d4D)(d:Int):Int:=W.getD d.toNat 0
variable {W:d4D}
theorem b5O{d:Int}(h0:0<=d)(h:d<o9 W):H9 W d=some (hw W d)/\P7 W (O9 d)=some (hw W d):=by have:=YR h0 h;refine⟨this,?_⟩;unfold H9 at this;rw[if_pos h0]at this;exact this
theorem b5P{d:Int}(h0:0<=d)(h:d<o9 W)(v x:Int)(hx:0<=x):hw (V8 W (O9 d) v) x=if x=d then v else hw W x:=by
 unfold hw;have hl:d.toNat<W.length:=by simp_all [o9]
 show(W.set d.toNat v).getD x.toNat 0=_
 grind
theorem P_(W:d4D)(i:Nat)(v:Int):(V8 W i v).length=W.length:=by show(W.set i v).length=_;simp
theorem WT{n:Nat}(hd:l.Nodup)(hr:∀x∈l,0<=x/\x<(n:Int)):l.length<=n:=by
 have hp:=FY l;have hs:=EG l;have hnd:=hp.nodup_iff.2 hd;have hsi:SI (MK l):=by
  have:=List.Pairwise.and hs hnd
  grind
 have:=a0R n hsi λx hx=>hr x (hp.mem_iff.1 hx);rw[hp.length_eq]at this;exact this
theorem a6o(h:SI l){m:Int}(hm:m∉O):((l.filter λx=> !Pj (O++[m]) x).length:Int)=((l.filter λx=> !Pj O x).length:Int) -(if m∈l then 1 else 0):=by
 have hh:∀x,Pj (O++[m]) x=(Pj O x || x8 m x):=λx=>by unfold Pj;rw[List.any_append];simp
 induction l with
 |nil=>simp|cons a l ih=>
  have h' :=ah.1 h
  grind [Pj,L8,I4]
structure KInv (s:F9) (O W H:d4D):Prop where
 nd:O.Nodup
 rng:∀x∈O,0<=x/\x<nD s
 cl:∀u∈O,∀x∈ai s u,x∈O
 wl:W.length=s.2.2.2.1.length
 w:∀d,0<=d->d<nD s->hw W d=((UU s O d).length:Int)
 hp:Pz H H.length
 hnd:H.Nodup
 hm:∀d,d∈H↔0<=d/\d<nD s/\d∉O/\hw W d=0
theorem a9n :okN s O d=true↔(d:Int)∉O/\UU s O (d:Int)=[]:=by
 unfold okN b7x UU;cases hq:Pj O (d:Int)
 .have h1:(d:Int)∉O:=λh=>by rw[JB.2 h]at hq;grind
  simp_all
 .have h1:=JB.1 hq;simp_all
variable {H:d4D}
theorem KInv.ready(h:KInv s O W H)(hd:d<s.2.2.2.1.length):okN s O d=true↔(d:Int)∈H:=by have hn:nD s=((s.2.2.2.1.length:Nat):Int):=rfl;rw[a9n,h.hm];have:=h.w (d:Int) l7 l7;simp_all
theorem KInv.next_none(h:KInv s O W []):Tm s O=none:=
 a9i λj hj=>by
  cases hq:okN s O j
  .rfl
  .have:=(h.ready hj).1 hq;simp_all
theorem KInv.next_some(h:KInv s O W H)(h0:0<H.length):∃m:Nat,hg H 0=(m:Int)/\Tm s O=some m/\m<s.2.2.2.1.length/\O.length<s.2.2.2.1.length:=by
 have hn:nD s=((s.2.2.2.1.length:Nat):Int):=rfl;have hmem:hg H 0∈H:=by have:=BD h0;grind
 have hmm:=(h.hm _).1 hmem;obtain⟨m,hm⟩:∃m:Nat,hg H 0=(m:Int):=⟨(hg H 0).toNat,l7⟩;rw[hm]at hmem hmm;have hlt:m<s.2.2.2.1.length:=l7;refine⟨m,hm,a6R hlt ((h.ready hlt).2 hmem) λj hj=>?_,hlt,?_⟩
 .cases hq:okN s O j
  .rfl
  .have hjH:=(h.ready l7).1 hq;obtain⟨i,hi,he⟩:=Y5 hjH;have:=b5M h.hp i hi;have e:=BD hi
   grind
 .have hnd:(O++[(m:Int)]).Nodup:=H8.2 ⟨h.nd,x9,λa ha b hb=>by grind⟩;have:=WT hnd λx hx=>by
   rcases D6.1 hx with hx|hx
   .exact h.rng x hx
   simp_all
  grind
structure UInv (s:F9) (W H0:d4D) (us:d4D) (W' H' :d4D):Prop where
 wl:W'.length=s.2.2.2.1.length
 w:∀d,0<=d->d<nD s->hw W' d=hw W d -(if d∈us then 1 else 0)
 hp:Pz H' H'.length
 pm:∃P:d4D,H'.Perm (H0++P)/\P.Sublist us/\∀d,d∈P↔d∈us/\hw W d=1
theorem b0R(hs:SmS s){W H0 us:d4D}(hW:W.length=s.2.2.2.1.length)(hW2:∀d,0<=d->d<nD s->-1000<=hw W d/\hw W d<=1000)(hH:Pz H0 H0.length)(hHl:H0.length<=100)(hus:SI us)(hur:∀u∈us,0<=u/\u<nD s)
  {f:d4D×d4D×Int->Option ((d4D×d4D×Int)⊕(d4D×d4D))}
  (hin:∀(i:Nat) (u:Int) (A B:d4D),us[i]? =some u->f (A,B,(i:Int))=o5 (H9 A u) λ(x_8:Int)=>o5 (P7 A (O9 u)) λ(x_9:Int)=>o5 (H9 A u) λ(x_10:Int)=>o5 (P7 A (O9 u)) λ(x_11:Int)=>
   o5 (H9 (V8 A (O9 u) (I8 .i64 x_9 1)) u) λ(x_12:Int)=>o5 (P7 (V8 A (O9 u) (I8 .i64 x_9 1)) (O9 u)) λ(x_13:Int)=>l9 (x8 x_13 0) (o5 (jA B u) λ(x_14:d4D)=>some (.inl (V8 A (O9 u) (I8 .i64 x_9 1),x_14,A8 .i64 (i:Int) 1)))
    (some (.inl (V8 A (O9 u) (I8 .i64 x_9 1),B,A8 .i64 (i:Int) 1))))
  (hend:∀(A B:d4D),f (A,B,(us.length:Int))=some (.inr (A,B))):∃W' H',X8 f (W,H0,0)=some (W',H')/\UInv s W H0 us W' H' :=by
 have hn:nD s=((s.2.2.2.1.length:Nat):Int):=rfl;have hul:us.length<=14:=D_ hs hus hur;obtain⟨e,h1,h2⟩:=cu (f:=f) (s:=(W,H0,0)) (λx=>∃(i:Nat) (A B:d4D),x=(A,B,(i:Int))/\i<=us.length/\UInv s W H0 (us.take i) A B/\B.length<=H0.length+i) (λe=>UInv s W H0 us e.1 e.2) (λx=>us.length -x.2.2.toNat)
  ⟨0,W,H0,rfl,l7,⟨hW,λd _ _=>by simp,hH,[],x9,x9,λd=>by simp⟩,l7⟩ U3 (by
  rintro x ⟨i,A,B,rfl,hi,hU,hBl⟩;by_cases hlt:i<us.length
  .left;have e:=dE hlt;generalize us[i]=u at e;have hu:=hur u (lM e);have hst:us.take (i+1)=us.take i++[u]:=by rw[P9 hlt,(U8.1 e).2]
   have hnot:u∉us.take i:=λhx=>by obtain⟨j,hj,hq⟩:=Y5 hx;simp only[bH]at hj;have h3:=lQ.1 hus j i l7 hlt l7;rw[List.getElem_take]at hq;have h4:=(U8.1 e).2;omega
   have hAl:=hU.wl;have hAu:=hU.w u hu.1 hu.2;rw[if_neg hnot]at hAu;have hbd:=hW2 u hu.1 hu.2;obtain⟨q1,q2⟩:=b5O (W:=A) hu.1 (by simp only[o9];omega);have hsub:I8 .i64 (hw A u) 1=hw A u -1:=U7 O6;have hA2:∀d,0<=d->d<nD s->hw (V8 A (O9 u) (hw A u -1)) d=hw W d -(if d∈us.take (i+1)then 1 else 0):=λd d0 d1=>by
    rw[b5P hu.1 (by simp only[o9];omega) _ _ d0,hst];have:=hU.w d d0 d1;by_cases hq:d=u
    .subst hq;rw[if_pos rfl,if_pos x9];omega
    .rw[if_neg hq,this];simp[hq]
   obtain⟨q3,q4⟩:=b5O (W:=V8 A (O9 u) (hw A u -1)) (d:=u) hu.1 (by simp only[o9,P_];omega);have hv:hw (V8 A (O9 u) (hw A u -1)) u=hw A u -1:=by rw[b5P hu.1 (by simp only[o9];omega) _ _ hu.1,if_pos rfl]
   rw[hv]at q3 q4;obtain⟨P,p1,p2,p3⟩:=hU.pm;rw[hin i u A B e,q1,o8,q2,o8,o8,o8,hsub,q3,o8,q4,o8,ja l7];by_cases hz:hw A u -1=0
   .obtain⟨B',b1,b2,b3⟩:=a2x (l:=B) l7 hU.hp u;rw[L8 hz,o7,b1,o8];have hB'l:B'.length=B.length+1:=by rw[b3.length_eq];simp
    refine⟨_,rfl,⟨i+1,_,_,rfl,hlt,⟨by rw[P_];exact hAl,hA2,b2,P++[u],?_,?_,λd=>?_⟩,l7⟩,by simp;omega⟩<;>grind
   .rw[I4 hz,o6];refine⟨_,rfl,⟨i+1,_,_,rfl,hlt,⟨by rw[P_];exact hAl,hA2,hU.hp,P,p1,?_,λd=>?_⟩,l7⟩,by simp;omega⟩<;>grind
  .right;have:i=us.length:=l7;simp_all)
 exact⟨e.1,e.2,h1,h2⟩
theorem OB{m:Int}{d:Int} :d∈castL (sF s m s.2.2.2.1.length)↔0<=d/\d<nD s/\m∈ai s d:=by
 have hn:nD s=((s.2.2.2.1.length:Nat):Int):=rfl;unfold castL;rw[J6];constructor
 .rintro⟨k,hk,rfl⟩;obtain⟨h1,h2⟩:=a4s _ hk<;>simp_all
 .rintro⟨h1,h2,h3⟩;refine⟨d.toNat,?_,l7⟩<;>grind [sF,onL]
theorem ZI{l:d4F}(h:l.Pairwise (·< ·)):SI (castL l):=List.Pairwise.map _ (λa b h=>by omega) h
theorem KInv.step(h:KInv s O W H)(h0:0<H.length){m:Nat}(hm:hg H 0=(m:Int)){R:d4D}(hR:Pz R R.length)(hRp:(R++[(m:Int)]).Perm H){W' H' :d4D}(hU:UInv s W R (castL (sF s (m:Int) s.2.2.2.1.length)) W' H'):KInv s (O++[(m:Int)]) W' H' :=by
 have hn:nD s=((s.2.2.2.1.length:Nat):Int):=rfl;have hmem:(m:Int)∈H:=by rw[←hm];have:=BD h0;exact lM this
 have hmm:=(h.hm _).1 hmem;have hleft:UU s O (m:Int)=[]:=by have:=h.w (m:Int) hmm.1 hmm.2.1;rw[hmm.2.2.2]at this;exact P5.1 l7
 have hdeps:∀x∈ai s (m:Int),x∈O:=λx hx=>by have hnil:=oN.1 hleft x hx;simp only[Bool.not_eq_true,Bool.not_eq_false']at hnil;exact JB.1 hnil
 have hndR:(R++[(m:Int)]).Nodup:=hRp.nodup_iff.2 h.hnd;have hmR:(m:Int)∉R:=λhx=>by have:=(H8.1 hndR).2.2 _ hx _ (I7.2 rfl);exact this rfl
 have hRm:∀d,d∈R↔d∈H/\d≠(m:Int):=λd=>by
  rw[←hRp.mem_iff,D6,I7];constructor
  .intro hx;exact⟨.inl hx,λhq=>hmR (hq▸hx)⟩
  .rintro⟨hx|hx,hq⟩
   .exact hx
   .exact absurd hx hq
 obtain⟨P,p1,p2,p3⟩:=hU.pm;have huO:∀u,(m:Int)∈ai s u->u∉O:=λu hu hx=>hmm.2.2.1 (h.cl u hx _ hu);refine⟨?_,?_,?_,hU.wl,λd d0 d1=>?_,hU.hp,?_,λd=>?_⟩
 .exact H8.2 ⟨h.nd,x9,λa ha b hb=>by simp at hb;subst hb;intro hq;subst hq;exact hmm.2.2.1 ha⟩
 .intro x hx;rcases D6.1 hx with hx|hx
  .exact h.rng x hx
  .simp at hx;subst hx;exact⟨hmm.1,hmm.2.1⟩
 .intro u hu x hx;rcases D6.1 hu with hu|hu
  .exact Y6 _ (h.cl u hu x hx)
  .simp at hu;subst hu;exact Y6 _ (hdeps x hx)
 .rw[hU.w d d0 d1,h.w d d0 d1];unfold UU;rw[a6o (Ja s d) hmm.2.2.1];congr 1;have:(d∈castL (sF s (m:Int) s.2.2.2.1.length))↔((m:Int)∈ai s d):=by rw[OB];exact⟨λh=>h.2.2,λh=>⟨d0,d1,h⟩⟩
  by_cases hq:(m:Int)∈ai s d
  .rw[if_pos (this.2 hq),if_pos hq]
  .rw[if_neg (λhx=>hq (this.1 hx)),if_neg hq]
 .rw[p1.nodup_iff];refine H8.2 ⟨(H8.1 hndR).1,?_,λa ha b hb hq=>?_⟩
  .have:(castL (sF s (m:Int) s.2.2.2.1.length)).Nodup:=(ZI (WU _ _)).imp λ{a b} h=>by omega
   exact p2.nodup this
  .subst hq;have h1:=(h.hm a).1 ((hRm a).1 ha).1;have h2:=(p3 a).1 hb;omega
 .rw[p1.mem_iff,D6,hRm,p3,OB,h.hm];have hw' :=λd0 d1=>hU.w d d0 d1;have hmemU:d∈castL (sF s (m:Int) s.2.2.2.1.length)↔0<=d/\d<nD s/\(m:Int)∈ai s d:=OB;constructor
  .rintro(⟨⟨d0,d1,dO,dw⟩,dm⟩|⟨⟨d0,d1,dd⟩,dw⟩)
   .refine⟨d0,d1,λhx=>?_,?_⟩
    .rcases D6.1 hx with hx|hx
     .exact dO hx
     .simp at hx;exact dm hx
    .have hnot:(m:Int)∉ai s d:=λhx=>by
      have h1:=h.w d d0 d1;rw[dw]at h1;have h2:UU s O d=[]:=P5.1 l7;have h3:=oN.1 h2 _ hx;simp only[Bool.not_eq_true,Bool.not_eq_false']at h3;exact hmm.2.2.1 (JB.1 h3)
     rw[hw' d0 d1,dw,if_neg (λhx=>hnot (hmemU.1 hx).2.2)];rfl
   .refine⟨d0,d1,λhx=>?_,?_⟩
    .rcases D6.1 hx with hx|hx
     .exact huO d dd hx
     .simp at hx;rw[hx]at dd;exact hmm.2.2.1 (hdeps _ dd)
    .rw[hw' d0 d1,if_pos (hmemU.2 ⟨d0,d1,dd⟩)];omega
  .rintro⟨d0,d1,dO,dw⟩;rw[hw' d0 d1]at dw;have dO1:d∉O:=λhx=>dO (Y6 _ hx);have dm:d≠(m:Int):=λhx=>dO (by rw[hx];simp);by_cases hq:(m:Int)∈ai s d
   .rw[if_pos (hmemU.2 ⟨d0,d1,hq⟩)]at dw;exact .inr ⟨⟨d0,d1,hq⟩,l7⟩
   .rw[if_neg (λhx=>hq (hmemU.1 hx).2.2)]at dw;exact .inl ⟨⟨d0,d1,dO1,l7⟩,dm⟩
def Gv(s:F9)(i:Nat):List d4D:=(List.range s.2.2.2.1.length).map λ(e:Nat)=>castL (sF s (e:Int) i)
theorem zB(l:d4F):(castL l).length=l.length:=by simp[castL]
theorem b0S(s:F9)(e:Int)(i:Nat):castL (sF s e (i+1))=castL (sF s e i)++(if e∈ai s (i:Int)then[(i:Int)]else[]):=by
 grind [sF,Vo,castL]
theorem b0Q(hs:SmS s)(i:Nat)(hi:i<s.2.2.2.1.length){f:List d4D×Int->Option ((List d4D×Int)⊕List d4D)}
  (hin:∀(k:Nat) (e:Int) (A:List d4D),(ai s (i:Int))[k]? =some e->f (A,(k:Int))=l9 (inb e (o9 A)) (o5 (P7 A (O9 e)) λ(x_7:d4D)=>o5 (fE x_7 [(i:Int)]) λ(x_8:d4D)=>l9 (inb e (o9 A)) (l9 (Px (O9 e) (O9 e)) (o5 (P7 A (O9 e)) λ(x_9:d4D)=>some (.inl (V8 A (O9 e) x_8,A8 .i64 (k:Int) 1))) none) none) none)
  (hend:∀A,f (A,((ai s (i:Int)).length:Int))=some (.inr A)):X8 f (Gv s i,0)=some (Gv s (i+1)):=by
 have hn:nD s=((s.2.2.2.1.length:Nat):Int):=rfl;have hdl:=ZY hs (i:Int);have hnd:=hs.nd;have hsi:=Ja s (i:Int);refine(DF (ai s (i:Int)) (λ(A:List d4D) e=>A.set e.toNat (A.getD e.toNat []++[(i:Int)])) (λb k=>(b,k)) (λb=>b) (λk A=>A=(List.range s.2.2.2.1.length).map λ(e:Nat)=>castL (sF s (e:Int) i)++(if(e:Int)∈(ai s (i:Int)).take k then[(i:Int)]else[])) (b:=Gv s i) l7 (by simp[Gv]) (λk e A he hk hA=>?_) (λA hA=>hend A)).1.trans ?_
 .have hlt:=(U8.1 he).1;have her:=FO (lM he);have hst:(ai s (i:Int)).take (k+1)=(ai s (i:Int)).take k++[e]:=by simp_all [P9]
  have hnot:e∉(ai s (i:Int)).take k:=λhx=>by obtain⟨j,hj,hq⟩:=Y5 hx;simp only[bH]at hj;have h3:=lQ.1 hsi j k l7 hlt l7;simp_all
  have hlA:A.length=s.2.2.2.1.length:=by simp_all
  have hg:A[e.toNat]? =some (castL (sF s e i)):=by
   grind
  have hul:(castL (sF s e i)).length<=i:=by rw[zB];exact GN _ _
  rw[hin k e A he,show inb e (o9 A)=true from decide_eq_true ⟨her.1,by simp_all [o9]⟩,o7,show P7 A (O9 e)=some (castL (sF s e i))from hg,o8,kU _ l7,o8,o7,show Px (O9 e) (O9 e)=true by simp[Px],o7,o8,ja l7];rw[show A.getD e.toNat []=castL (sF s e i) by simp_all];refine⟨rfl,?_⟩;rw[hA,YO]
  grind
 .have h2:=(DF (ai s (i:Int)) (λ(A:List d4D) e=>A.set e.toNat (A.getD e.toNat []++[(i:Int)])) (λb k=>(b,k)) (λb=>b) (λk A=>A=(List.range s.2.2.2.1.length).map λ(e:Nat)=>castL (sF s (e:Int) i)++(if(e:Int)∈(ai s (i:Int)).take k then[(i:Int)]else[])) (f:=f) (b:=Gv s i) l7 (by simp[Gv]) (λk e A he hk hA=>by
   have hlt:=(U8.1 he).1;have her:=FO (lM he);have hst:(ai s (i:Int)).take (k+1)=(ai s (i:Int)).take k++[e]:=by simp_all [P9]
   have hnot:e∉(ai s (i:Int)).take k:=λhx=>by obtain⟨j,hj,hq⟩:=Y5 hx;simp only[bH]at hj;have h3:=lQ.1 hsi j k l7 hlt l7;simp_all
   have hlA:A.length=s.2.2.2.1.length:=by simp_all
   have hg:A[e.toNat]? =some (castL (sF s e i)):=by
    grind
   have hul:(castL (sF s e i)).length<=i:=by rw[zB];exact GN _ _
   rw[hin k e A he,show inb e (o9 A)=true from decide_eq_true ⟨her.1,by simp_all [o9]⟩,o7,show P7 A (O9 e)=some (castL (sF s e i))from hg,o8,kU _ l7,o8,o7,show Px (O9 e) (O9 e)=true by simp[Px],o7,o8,ja l7];rw[show A.getD e.toNat []=castL (sF s e i) by simp_all];refine⟨rfl,?_⟩;rw[hA,YO]
   grind) (λA hA=>hend A)).2
  simp_all [Gv,b0S]
theorem b5I{α β σ:Type}{o:Option α}{x:α}{K:α->Option (σ⊕β)}{Q:σ->Prop}(h:o=some x)(hk:∃s',K x=some (.inl s')/\Q s'):∃s',o5 o K=some (.inl s')/\Q s' :=by simp_all
structure IInv (s:F9) (i:Nat) (U:List d4D) (W H:d4D):Prop where
 u:U=Gv s i
 w:W=pd ((List.range i).map λ(d:Nat)=>((ai s (d:Int)).length:Int)) (s.2.2.2.1.length -i)
 hp:Pz H H.length
 hnd:H.Nodup
 hm:∀d,d∈H↔0<=d/\d<(i:Int)/\ai s d=[]
 hl:H.length<=i
theorem a0l(hs:SmS s):ou s=some (qE s):=by
 have hn:nD s=((s.2.2.2.1.length:Nat):Int):=rfl;have hnd:=hs.nd;unfold ou;rw[Uw hs,o8];have hAl:o9 ((List.range s.2.2.2.1.length).map λ(d:Nat)=>ai s (d:Int))=((s.2.2.2.1.length:Nat):Int):=by simp[o9]
 have hAg:∀i,i<s.2.2.2.1.length->((List.range s.2.2.2.1.length).map λ(d:Nat)=>ai s (d:Int))[i]? =some (ai s (i:Int)):=λi hi=>IG _ _ hi;generalize (List.range s.2.2.2.1.length).map (λ(d:Nat)=>ai s (d:Int))=A at*;rw[hAl,show lI ((s.2.2.2.1.length:Nat):Int) ([]:d4D)=some (Gv s 0) by
  unfold lI Gv sF onL castL;rw[if_pos l7];simp[List.map_const'],o8,show lI ((s.2.2.2.1.length:Nat):Int) (0:Int)=some (pd ((List.range 0).map λ(d:Nat)=>((ai s (d:Int)).length:Int)) (s.2.2.2.1.length -0)) by
  grind [lI,pd],o8]
 obtain⟨e,k1,k2⟩:=cu (f:=λ(x_3:List d4D×d4D×d4D×Int)=>l9 (F7 x_3.2.2.2 ((s.2.2.2.1.length:Nat):Int)) (o5 (H9 A x_3.2.2.2) λ(x:d4D)=>o5 (H9 x_3.2.1 x_3.2.2.2) λ(x_4:Int)=>o5 (P7 x_3.2.1 (O9 x_3.2.2.2)) λ(x_5:Int)=>
   o5 (X8 (λ(x_6:List d4D×Int)=>l9 (F7 x_6.2 (o9 x)) (o5 (H9 x x_6.2) λ(x:Int)=>l9 (inb x (o9 x_6.1)) (o5 (P7 x_6.1 (O9 x)) λ(x_7:d4D)=>o5 (fE x_7 [x_3.2.2.2]) λ(x_8:d4D)=>l9 (inb x (o9 x_6.1)) (l9 (Px (O9 x) (O9 x)) (o5 (P7 x_6.1 (O9 x)) λ(x_9:d4D)=>some (.inl (V8 x_6.1 (O9 x) x_8,A8 .i64 x_6.2 1))) none) none) none) (some (.inr x_6.1))) (x_3.1,0)) λ(y:List d4D)=>
   l9 (x8 (o9 x) 0) (o5 (jA x_3.2.2.1 x_3.2.2.2) λ(x_6:d4D)=>some (.inl (y,V8 x_3.2.1 (O9 x_3.2.2.2) (o9 x),x_6,A8 .i64 x_3.2.2.2 1))) (some (.inl (y,V8 x_3.2.1 (O9 x_3.2.2.2) (o9 x),x_3.2.2.1,A8 .i64 x_3.2.2.2 1)))) (some (.inr (x_3.1,x_3.2.1,x_3.2.2.1))))
  (s:=(Gv s 0,pd ((List.range 0).map λ(d:Nat)=>((ai s (d:Int)).length:Int)) (s.2.2.2.1.length -0),[],0)) (λx=>∃(i:Nat) (U:List d4D) (W H:d4D),x=(U,W,H,(i:Int))/\i<=s.2.2.2.1.length/\IInv s i U W H) (λy=>IInv s s.2.2.2.1.length y.1 y.2.1 y.2.2) (λx=>s.2.2.2.1.length -x.2.2.2.toNat)
  ⟨0,_,_,_,rfl,l7,rfl,rfl,λk k0 k1=>by simp_all,x9,λd=>by grind,x9⟩ l7 (by
  rintro x ⟨i,U,W,H,rfl,hi,hI⟩;by_cases hlt:i<s.2.2.2.1.length
  .left;obtain⟨m,hm⟩:∃m,s.2.2.2.1.length -i=m+1:=⟨s.2.2.2.1.length -i -1,l7⟩;have hlen:((List.range i).map λ(d:Nat)=>((ai s (d:Int)).length:Int)).length=i:=x9;have q1:=a4y ((List.range i).map λ(d:Nat)=>((ai s (d:Int)).length:Int)) m;have q2:=a4z ((List.range i).map λ(d:Nat)=>((ai s (d:Int)).length:Int)) m;have q3:=a9z ((List.range i).map λ(d:Nat)=>((ai s (d:Int)).length:Int)) m (o9 (ai s (i:Int)));rw[hlen]at q1 q2 q3;have hW:=hI.w;rw[hm]at hW;have hl14:=hI.hl;have hus:=b0Q hs i hlt (f:=λ(x_6:List d4D×Int)=>l9 (F7 x_6.2 (o9 (ai s (i:Int)))) (o5 (H9 (ai s (i:Int)) x_6.2) λ(x:Int)=>l9 (inb x (o9 x_6.1)) (o5 (P7 x_6.1 (O9 x)) λ(x_7:d4D)=>o5 (fE x_7 [(i:Int)]) λ(x_8:d4D)=>l9 (inb x (o9 x_6.1)) (l9 (Px (O9 x) (O9 x)) (o5 (P7 x_6.1 (O9 x)) λ(x_9:d4D)=>some (.inl (V8 x_6.1 (O9 x) x_8,A8 .i64 x_6.2 1))) none) none) none) (some (.inr x_6.1)))
    (λk e A he=>by simp_all [au,G8]) (λA=>by simp[ak])
   simp only;rw[U0 l7,o7,G8,hAg i hlt,o8,hW,q1,o8,q2,o8,hI.u];refine b5I hus ?_;rw[q3,ja l7];have hwn:pd ((List.range i).map (λ(d:Nat)=>((ai s (d:Int)).length:Int))++[o9 (ai s (i:Int))]) m=pd ((List.range (i+1)).map λ(d:Nat)=>((ai s (d:Int)).length:Int)) (s.2.2.2.1.length -(i+1)):=by rw[gq,aY,show s.2.2.2.1.length -(i+1)=m by omega];rfl
   rw[hwn];by_cases hz:(ai s (i:Int)).length=0
   .obtain⟨H',b1,b2,b3⟩:=a2x (l:=H) l7 hI.hp (i:Int);have hnil:=P5.1 hz;rw[L8 (by grind [o9]),o7,b1,o8];have hni:(i:Int)∉H:=λhx=>by have:=(hI.hm _).1 hx;omega
    refine⟨_,rfl,⟨i+1,_,_,_,rfl,hlt,rfl,rfl,b2,?_,λd=>?_,by rw[b3.length_eq];simp_all⟩,by grind⟩
    .rw[b3.nodup_iff];exact H8.2 ⟨hI.hnd,x9,λa ha b hb=>by grind⟩
    .rw[b3.mem_iff,D6,hI.hm,I7]
     grind
   .rw[I4 (by simp_all [o9]),o6];refine⟨_,rfl,⟨i+1,_,_,_,rfl,hlt,rfl,rfl,hI.hp,hI.hnd,λd=>?_,l7⟩,by grind⟩;rw[hI.hm]
    grind
  .right;have:i=s.2.2.2.1.length:=l7;simp_all [L6])
 refine(wJ k1 _).trans ?_;obtain⟨U,W,H⟩:=e;simp only at k2 ⊢;have hwd:∀d,0<=d->d<nD s->hw W d=((ai s d).length:Int):=λd d0 d1=>by
  have hd:d.toNat<s.2.2.2.1.length:=l7;rw[k2.w,aU]
  grind [hw,pd]
 have hK:KInv s [] W H:=by
  refine⟨x9,x9,x9,by rw[k2.w];simp[pd],λd d0 d1=>?_,k2.hp,k2.hnd,λd=>?_⟩
  .rw[hwd d d0 d1];have:UU s [] d=ai s d:=List.filter_eq_self.2 λa _=>rfl
   grind
  .rw[k2.hm];simp_all
 have hU:=k2.u;subst hU;have hlatU:∀m:Nat,m<s.2.2.2.1.length->H9 (Gv s s.2.2.2.1.length) (m:Int)=some (castL (sF s (m:Int) s.2.2.2.1.length)):=λm hm=>by rw[G8];exact IG _ _ hm
 have key:∀(k j:Nat) (O W H:d4D),KInv s O W H->s.2.2.2.1.length -O.length<k->k<=j->∃y,qC (λ(x:List d4D×pg)=>o5 (oz x.2.2.1) λ(x_3:Int)=>l9 (F7 0 x_3) (o5 (uP x.2.2.1) λ(x_4:Int×d4D)=>o5 (fE x.2.2.2 [x_4.1]) λ(x_5:d4D)=>o5 (H9 x.1 x_4.1) λ(x_6:d4D)=>
   o5 (X8 (λ(x:d4D×d4D×Int)=>l9 (F7 x.2.2 (o9 x_6)) (o5 (H9 x_6 x.2.2) λ(x_7:Int)=>o5 (H9 x.1 x_7) λ(x_8:Int)=>o5 (P7 x.1 (O9 x_7)) λ(x_9:Int)=>o5 (H9 x.1 x_7) λ(x_10:Int)=>o5 (P7 x.1 (O9 x_7)) λ(x_11:Int)=>o5 (H9 (V8 x.1 (O9 x_7) (I8 .i64 x_9 1)) x_7) λ(x_12:Int)=>o5 (P7 (V8 x.1 (O9 x_7) (I8 .i64 x_9 1)) (O9 x_7)) λ(x_13:Int)=>
     l9 (x8 x_13 0) (o5 (jA x.2.1 x_7) λ(x_14:d4D)=>some (.inl (V8 x.1 (O9 x_7) (I8 .i64 x_9 1),x_14,A8 .i64 x.2.2 1))) (some (.inl (V8 x.1 (O9 x_7) (I8 .i64 x_9 1),x.2.1,A8 .i64 x.2.2 1)))) (some (.inr (x.1,x.2.1)))) (x.2.1,x_4.2,0)) λ(y:d4D×d4D)=>some (.inl (x.1,y.1,y.2,x_5))) (some (.inr x.2.2.2))) j (Gv s s.2.2.2.1.length,W,H,O)=some y/\a0k s k O=(if y.length<s.2.2.2.1.length then .inr ([],9)else .inl y):=by
  intro k;induction k with
  |zero=>simp|succ k ih=>
   intro j O W H hK hk hj;obtain⟨j,rfl⟩:∃j',j=j' +1:=⟨j -1,l7⟩;rw[qC];simp only[oz,o8];cases H with
   |nil=>refine⟨O,rfl,?_⟩;unfold a0k;rw[hK.next_none]|cons h0 H=>
    generalize hHH:h0::H=HH at*;have hpos:0<HH.length:=by grind
    obtain⟨m,hm1,hm2,hm3,hm4⟩:=hK.next_some hpos;have hHl:HH.length<=14:=ay (WT (n:=s.2.2.2.1.length) hK.hnd λx hx=>by have:=(hK.hm x).1 hx;omega) hnd;obtain⟨R,r1,r2,r3⟩:=b5N (l:=HH) l7 hK.hp hpos;rw[hm1]at r1 r3;have hRl:R.length<=14:=by have:=r3.length_eq;grind
    have hOl:O.length<=14:=l7;obtain⟨W',H',u1,u2⟩:=b0R hs (W:=W) (H0:=R) (us:=castL (sF s (m:Int) s.2.2.2.1.length)) hK.wl (λd d0 d1=>by
      have h1:=hK.w d d0 d1
      grind [ZY,UU]) r2 l7 (ZI (WU _ _)) (λu hu=>by have:=OB.1 hu;omega)
     (f:=λ(x:d4D×d4D×Int)=>l9 (F7 x.2.2 (o9 (castL (sF s (m:Int) s.2.2.2.1.length)))) (o5 (H9 (castL (sF s (m:Int) s.2.2.2.1.length)) x.2.2) λ(x_7:Int)=>o5 (H9 x.1 x_7) λ(x_8:Int)=>o5 (P7 x.1 (O9 x_7)) λ(x_9:Int)=>o5 (H9 x.1 x_7) λ(x_10:Int)=>o5 (P7 x.1 (O9 x_7)) λ(x_11:Int)=>o5 (H9 (V8 x.1 (O9 x_7) (I8 .i64 x_9 1)) x_7) λ(x_12:Int)=>o5 (P7 (V8 x.1 (O9 x_7) (I8 .i64 x_9 1)) (O9 x_7)) λ(x_13:Int)=>
     l9 (x8 x_13 0) (o5 (jA x.2.1 x_7) λ(x_14:d4D)=>some (.inl (V8 x.1 (O9 x_7) (I8 .i64 x_9 1),x_14,A8 .i64 x.2.2 1))) (some (.inl (V8 x.1 (O9 x_7) (I8 .i64 x_9 1),x.2.1,A8 .i64 x.2.2 1)))) (some (.inr (x.1,x.2.1))))
     (λi u A B hu=>by simp only[au hu,o7,G8 (castL (sF s (m:Int) s.2.2.2.1.length)),hu,o8]) (λA B=>by simp[ak])
    have hK2:=hK.step hpos hm1 r2 r3 u2;obtain⟨y,y1,y2⟩:=ih j (O++[(m:Int)]) W' H' hK2 (by grind) l7;refine⟨y,?_,?_⟩
    .rw[U0 (show(0:Int)<o9 HH by simp_all [o9]),o7,r1,o8,kU _ l7,o8,hlatU m hm3,o8,u1,o8];exact y1
    simp_all [a0k]
 obtain⟨y,y1,y2⟩:=key 100 kK [] W H hK l7 (by simp[kK]);refine(wJ y1 _).trans ?_;unfold qE;rw[y2];by_cases hl:y.length<s.2.2.2.1.length
 .simp_all [U0,o9]
 .rw[if_neg hl,L6 (by simp_all [o9])];rfl
end
end Go.GP
namespace Gt
open Go Go.GP
def il(y:Int):Bool:=if y % 4=0 then(if y % 100≠0 then true else decide (y % 400=0))else false
def ys(y:Int):Int:=(y -1900)*365+((y -1) / 4 -(y -1) / 100+(y -1) / 400) -460
def diy(y:Int):Int:=if il y then 366 else 365
theorem Ll(y:Int):ys (y+1)=ys y+diy y:=by
 grind [ys,diy,il]
theorem SE(a b:Int):a<b\/b<=a:=l7
theorem WF(y:Int):365<=diy y/\diy y<=366:=by grind [diy]
theorem wU{y y' :Int}(h:y<=y'):ys y<=ys y' :=by
 obtain⟨n,rfl⟩:∃n:Nat,y' =y+n:=⟨(y' -y).toNat,l7⟩;induction n with
 |zero=>simp|succ n ih=>
  have:=Ll (y+n);have:=WF (y+n)
  grind
variable {y:Int}
theorem SB(h:1900<=y):0<=ys y:=by
 grind [ys]
theorem b4K{y y' d:Int}(h1:ys y<=d)(h2:d<ys (y+1))(h3:ys y' <=d)(h4:d<ys (y' +1)):y=y' :=by
 rcases Int.lt_trichotomy y y' with h|h|h
 .have:=wU (y:=y+1) (y' :=y') l7;omega
 .omega
 .have:=wU (y:=y' +1) (y' :=y) l7;omega
def dim(y m:Int):Int:=
 if m=2 then(if il y then 29 else 28)else if m=4\/m=6\/m=9\/m=11 then 30 else 31
theorem FN(y m:Int):28<=dim y m/\dim y m<=31:=by
 grind [dim]
theorem PU(h:0<=y):Kv y=some (il y):=by
 unfold Kv il;simp[zq h];by_cases h4:y % 4=0
 .by_cases h100:y % 100=0<;>simp_all [x8]
 simp_all [I4]
theorem OY(h:0<=y):NZ y=some (il y):=PU h
theorem Ir(h:0<=y):oJ y=some (diy y):=by unfold oJ diy;rw[OY h];cases il y<;>rfl
variable {m:Int}
theorem m12(h:1<=m/\m<=12):m=1\/m=2\/m=3\/m=4\/m=5\/m=6\/m=7\/m=8\/m=9\/m=10\/m=11\/m=12:=l7
theorem xx(h:0<=y)(hm:1<=m/\m<=12):lK y m=some (dim y m):=by
 unfold lK;rcases m12 hm with rfl|rfl|rfl|rfl|rfl|rfl|rfl|rfl|rfl|rfl|rfl|rfl
 all_goals first|rfl|(rw[PU h];unfold dim;cases il y<;>rfl)
theorem wO(h:0<=y)(hm:1<=m/\m<=12):jP y m=some (dim y m):=by
 unfold jP;rcases m12 hm with rfl|rfl|rfl|rfl|rfl|rfl|rfl|rfl|rfl|rfl|rfl|rfl
 all_goals first|rfl|(rw[OY h];unfold dim;cases il y<;>rfl)
theorem Kw(h:0<=y)(h2:y<=1000000):Ap y=some (y / 4 -y / 100+y / 400):=by
 grind [Ap,eH,lY,iq,U7,U5]
theorem Ew(h:1<=y)(h2:y<=1000000):uQ y=some (ys y):=by unfold uQ;have e1:I8 .i64 y 1900=y -1900:=U7 (by grind [iq]);have e2:aP .i64 (y -1900) 365=(y -1900)*365:=oH (by grind [iq]);rw[U7 (by grind [iq]),Kw l7 l7,o8,Kw l7 l7,o8,e1,e2,U5 (by grind [iq]),U7 (by grind [iq])];simp[ys]
def mo(y:Int):Nat->Int->Int×Int
 |0,d=>(d,13)|n+1,d=>if d<dim y (12 -n)then(d,12 -n)else mo y n (d -dim y (12 -n))
theorem b1U(y:Int)(n:Nat)(d:Int):mo y (n+1) d=if d<dim y (12 -(n:Int))then(d,12 -(n:Int))else mo y n (d -dim y (12 -(n:Int))):=rfl
def rem(y:Int):Nat->Int
 |0=>0|n+1=>dim y (12 -n)+rem y n
theorem b7B(y:Int):rem y 12=diy y:=by unfold diy;cases h:il y<;>simp[rem,dim,h]
theorem b6o(y:Int):∀(n:Nat) (d:Int),n<=12->0<=d->d<rem y n->1<=(mo y n d).2/\(mo y n d).2<=12/\0<=(mo y n d).1/\(mo y n d).1<dim y (mo y n d).2
 |0,d,_,h0,h=>by grind [rem]|n+1,d,hn,h0,h=>by
  unfold mo;by_cases hd:d<dim y (12 -n)
  .grind
  .rw[if_neg hd];refine b6o y n _ l7 l7 ?_<;>grind [rem]
def yOf(d:Int):Int:=((((List.range 300).find? (λ(k:Nat)=>decide (d<ys (1900+(k:Int)+1)))).getD 0:Nat):Int)+1900
variable {d:Int}
theorem We(h0:0<=d)(h:d<=109572):1900<=yOf d/\yOf d<=2199/\ys (yOf d)<=d/\d<ys (yOf d+1):=by
 unfold yOf;cases hf:(List.range 300).find? (λ(k:Nat)=>decide (d<ys (1900+(k:Int)+1)))with
 |none=>
  have:=List.find?_eq_none.1 hf 299 x9
  grind [ys]
 |some k=>
  have h2:=List.mem_of_find?_eq_some hf;simp at h2;simp;refine⟨l7,l7,?_,?_⟩
  .cases k with
   |zero=>simp_all [ys]|succ j=>
    have h3:=List.find?_range_eq_some.1 hf
    grind
  grind
def sH(d:Int):Int×Int×Int:=let y:=yOf d;let r:=mo y 12 (d -ys y);(y,r.2,r.1+1)
theorem Gz(h0:0<=d)(h:d<=109572):Am d=some (sH d):=by
 obtain⟨y1,y2,y3,y4⟩:=We h0 h;have y0:=SB y1;unfold Am Aq;rw[Gy (ae h0),o8,ae h,E8,o6];have e0:A8 .i64 1900 (eH .i64 d 366)=1900+d / 366:=by
  have e:eH .i64 d 366=d / 366:=by rw[zo (by grind [iq]),jw h0]
  grind [U5,iq]
 rw[e0];obtain⟨y,hy,hq⟩:=cu (f:=λ(x:Int)=>o5 (uQ (A8 IntKind.i64 x 1)) λ(x_1:Int)=>l9 (S9 x_1 d) (some (Sum.inl (A8 IntKind.i64 x 1))) (some (Sum.inr x))) (s:=1900+d / 366)
  (λy=>1900<=y/\y<=yOf d) (λy=>y=yOf d) (λy=>(2200 -y).toNat) (by
   refine⟨l7,?_⟩;have e:∀n:Nat,ys (1900+n)<=366*n:=by
    intro n;induction n with
    |zero=>decide+kernel|succ n ih=>
     have:=Ll (1900+n);have:=WF (1900+n)
     grind
   have e1:=e (d / 366).toNat
   have e2:((d / 366).toNat:Int)=d / 366:=l7;rw[e2]at e1;rcases SE (yOf d) (1900+d / 366)with hlt|hge
   .have:=wU (y:=yOf d+1) (y' :=1900+d / 366) l7;omega
   omega) l7 (by
   intro y ⟨hy1,hy2⟩
   try simp only
   rw[U5 (by grind [iq]),Ew l7 l7,o8]
   grind [ys,Gy,ae,Iw,aC])
 rw[hy,o8,Ew l7 l7,o8,U7 (by grind [iq])];have hs:=Ll (yOf d);have hr:=b7B (yOf d);rcases AO (f:=λ(x:Int×Int)=>l9 (F7 x.2 12) (o5 (lK (yOf d) (A8 IntKind.i64 x.2 1)) λ(x_1:Int)=>l9 (F7 x.1 x_1) (some (Out.rt (yOf d,A8 IntKind.i64 x.2 1,A8 IntKind.i64 x.1 1))) (some (Out.nx (I8 IntKind.i64 x.1 x_1,A8 IntKind.i64 x.2 1)))) (some (Out.ex PUnit.unit))) (s:=(d -ys (yOf d),0))
  (λs=>∃n:Nat,n<=12/\s.2=12 -n/\mo (yOf d) n s.1=mo (yOf d) 12 (d -ys (yOf d))/\0<=s.1/\s.1<rem (yOf d) n/\s.1<=400) (λ_=>False) (λr=>r=sH d) (λs=>(12 -s.2).toNat)
  ⟨12,l7,x9,rfl,l7,l7,by grind [ys]⟩ x9 (by
   rintro⟨r,i⟩ ⟨n,hn,hi,hm,hr0,hrn,hr4⟩;cases n with
   |zero=>grind [rem]|succ n=>
    have ei:i+1=12 -n:=l7;rw[Gy (U0 l7),U5 (by grind [iq]),ei,xx l7 l7,o8];have hb:=FN (yOf d) (12 -n);rw[b1U (yOf d) n r]at hm;by_cases hlt:r<dim (yOf d) (12 -n)
    .grind [Gy,U0,U5,iq,sH]
    .rw[if_neg hlt]at hm;refine .inl ⟨_,by rw[Iw (L6 l7),U7 O6],⟨n,l7,x9,hm,?_,?_,?_⟩,?_⟩<;>grind [rem])with⟨_,_,hf⟩|⟨r,he,hr⟩
 .grind
 simp_all
theorem Qx(h0:0<=d)(h:d<=109572):Hl d=some (sH d):=by
 obtain⟨y1,y2,y3,y4⟩:=We h0 h;have y0:=SB y1;unfold Hl AZ;rw[Gy (ae h0),o8,ae h,E8,o6];obtain⟨⟨r,y⟩,hy,hq⟩:=cu (f:=λ(x:Int×Int)=>o5 (oJ x.2) λ(x_1:Int)=>l9 (S9 x_1 x.1) (o5 (oJ x.2) λ(x_2:Int)=>some (Sum.inl (I8 IntKind.i64 x.1 x_2,A8 IntKind.i64 x.2 1))) (some (Sum.inr x))) (s:=(d,1900))
  (λs=>1900<=s.2/\s.2<=yOf d/\s.1=d -ys s.2) (λs=>s=(d -ys (yOf d),yOf d)) (λs=>(2200 -s.2).toNat)
  ⟨x9,l7,by simp[ys]⟩ x9 (by
   rintro⟨r,y⟩ ⟨h1,h2,h3⟩;simp only at h1 h2 h3 ⊢;have hb:=WF y;have hs:=Ll y;have hm:=wU h2;have hpos:0<=ys y:=by grind [ys]
   rw[Ir l7,o8];by_cases hle:diy y<=r
   .grind [Gy,ae,o8,U7,iq,U5]
   .refine .inr ⟨_,by rw[Iw (aC l7)],?_⟩;have e:y=yOf d:=b4K (d:=d) l7 l7 y3 y4;simp_all)
 rw[hy,o8,hq]
 try simp only
 have hs:=Ll (yOf d);have hr:=b7B (yOf d);obtain⟨⟨r,m⟩,he,hq2⟩:=cu (f:=λ(x:Int×Int)=>o5 (jP (yOf d) x.2) λ(x_1:Int)=>l9 (S9 x_1 x.1) (o5 (jP (yOf d) x.2) λ(x_2:Int)=>some (Sum.inl (I8 IntKind.i64 x.1 x_2,A8 IntKind.i64 x.2 1))) (some (Sum.inr x))) (s:=(d -ys (yOf d),1))
  (λs=>∃n:Nat,n<=12/\s.2=13 -n/\mo (yOf d) n s.1=mo (yOf d) 12 (d -ys (yOf d))/\0<=s.1/\s.1<rem (yOf d) n/\s.1<=400) (λs=>s=mo (yOf d) 12 (d -ys (yOf d))) (λs=>(13 -s.2).toNat)
  ⟨12,l7,x9,rfl,l7,l7,by grind [ys]⟩ x9 (by
   rintro⟨r,i⟩ ⟨n,hn,hi,hm,hr0,hrn,hr4⟩;cases n with
   |zero=>grind [rem]|succ n=>
    have ei:i=12 -n:=l7;subst ei;rw[wO l7 l7,o8];have hb:=FN (yOf d) (12 -n);rw[b1U (yOf d) n r]at hm;by_cases hlt:r<dim (yOf d) (12 -n)
    .simp_all [aC]
    .rw[if_neg hlt]at hm;refine .inl ⟨(r -dim (yOf d) (12 -n),12 -n+1),by grind [Gy,ae,o8,U7,iq,U5],⟨n,l7,l7,hm,?_,?_,?_⟩,?_⟩
     all_goals grind [rem])
 rw[he,o8,hq2];have hb:=b6o (yOf d) 12 (d -ys (yOf d)) l7 l7 l7;have hb2:=FN (yOf d) (mo (yOf d) 12 (d -ys (yOf d))).2;rw[U5 (by grind [iq])];rfl
theorem QQ(h0:0<=d)(h:d<=109572):1900<=(sH d).1/\(sH d).1<=2199/\1<=(sH d).2.1/\(sH d).2.1<=12/\1<=(sH d).2.2/\(sH d).2.2<=31:=by
 obtain⟨y1,y2,y3,y4⟩:=We h0 h;have hs:=Ll (yOf d);have hb:=b6o (yOf d) 12 (d -ys (yOf d)) l7 l7 (by grind [b7B]);have hb2:=FN (yOf d) (mo (yOf d) 12 (d -ys (yOf d))).2
 grind [sH]
end Gt
namespace Go.GP
open Gt
set_option maxRecDepth 100000
def yK(y:Int):Nat->Int
 |0=>0|k+1=>yK y k+dim y ((k:Int)+1)
def a6g(y m d:Int):Int:=ys y+yK y (m -1).toNat+d -1
theorem Vb(y:Int):∀k:Nat,k<=12->28*k<=yK y k/\yK y k<=31*k
 |0,_=>by simp[yK]|k+1,h=>by
  have:=Vb y k l7;have:=FN y ((k:Int)+1)
  grind [yK]
theorem b3G(y:Int):yK y 12=diy y:=by unfold yK yK yK yK yK yK yK yK yK yK yK yK yK dim diy<;>grind
theorem b1X(y:Int):∀j k:Nat,j<=k->yK y j<=yK y k
 |j,0,h=>by simp_all|j,k+1,h=>by
  by_cases hq:j=k+1
  .simp_all
  .have:=b1X y j k l7
   grind [yK,dim]
variable {m:Int}{d:Int}{y:Int}
theorem c0i(hm:1<=m/\m<=12)(h1:1<=d)(h2:d<=dim y m):ys y<=a6g y m d/\a6g y m d<ys (y+1):=by
 have h3:=b1X y ((m -1).toNat+1) 12 l7;rw[b3G]at h3;have h4:yK y ((m -1).toNat+1)=yK y (m -1).toNat+dim y m:=by
  grind [yK]
 have h5:=Vb y (m -1).toNat l7
 grind [Ll,a6g]
theorem b9R(h:1900<=y)(h2:y<=2200):0<=ys y/\ys y<=109573:=by
 grind [ys]
theorem a8S(hy:1900<=y/\y<=2199)(hm:1<=m/\m<=12)(h1:1<=d)(h2:d<=dim y m):Iz y m d=some (a6g y m d,0):=by
 have hyb:=b9R hy.1 l7;have hdb:=FN y m;unfold Iz;rw[L6 hy.1,o6,L6 hy.2,o6,L6 hm.1,o6,L6 hm.2,o6,L6 h1,o6,xx l7 hm,o8,L6 h2,o6,o8,Ew l7 l7];have hs:I8 .i64 m 1=m -1:=U7 (by grind [iq]);obtain⟨e,k1,k2⟩:=cu (f:=λ(x:Int×Int)=>l9 (F7 x.2 (I8 .i64 m 1)) (o5 (lK y (A8 .i64 x.2 1)) λ(x_1:Int)=>some (.inl (A8 .i64 x.1 x_1,A8 .i64 x.2 1))) (some (.inr x.1)))
  (s:=(ys y,0)) (λx=>∃i:Nat,x=(ys y+yK y i,(i:Int))/\(i:Int)<=m -1) (λe=>e=ys y+yK y (m -1).toNat) (λx=>(m -1 -x.2).toNat) ⟨0,by simp[yK],l7⟩ l7 (by
  rintro x ⟨i,rfl,hi⟩;by_cases hlt:(i:Int)<m -1
  .have hb:=Vb y i l7;have hd:=FN y ((i:Int)+1);left;refine⟨(ys y+yK y (i+1),((i+1:Nat):Int)),?_,⟨i+1,rfl,l7⟩,l7⟩<;>grind [yK,U0,o7,xx,o8,U5,iq]
  .have:i=(m -1).toNat:=l7;simp_all [L6])
 refine(wJ k1 _).trans ?_;have hb:=Vb y (m -1).toNat l7;rw[k2,U5 (by grind [iq]),U7 (by grind [iq])];rfl
theorem a7o(hy:1900<=y/\y<=2199)(hm:1<=m/\m<=12)(h1:1<=d)(h2:d<=dim y m):CS y m d=some (a6g y m d,0):=by
 have hyb:=b9R hy.1 l7;have hdb:=FN y m;unfold CS;rw[L6 hy.1,o6,L6 hy.2,o6,L6 h1,o6,wO l7 hm,o8,L6 h2,o6,o8,V4,U7 O6];obtain⟨e,k1,k2⟩:=cu (f:=λ(x:Int×Int)=>l9 (F7 x.2 y) (o5 (oJ x.2) λ(x_1:Int)=>some (.inl (A8 .i64 x.1 x_1,A8 .i64 x.2 1))) (some (.inr x.1)))
  (s:=(d -1,1900)) (λx=>∃i:Int,x=(d -1+ys i,i)/\1900<=i/\i<=y) (λe=>e=d -1+ys y) (λx=>(y -x.2).toNat) ⟨1900,by simp[show ys 1900=0 by decide],l7,l7⟩ U3 (by
  rintro x ⟨i,rfl,hi,hi2⟩;by_cases hlt:i<y
  .grind [ys,U0,o7,Ir,o8,U5,iq,Ll]
  .right;have:i=y:=l7;simp_all [L6])
 refine(wJ k1 _).trans ?_;subst k2;obtain⟨e,k1,k2⟩:=cu (f:=λ(x:Int×Int)=>l9 (F7 x.2 m) (o5 (jP y x.2) λ(x_1:Int)=>some (.inl (A8 .i64 x.1 x_1,A8 .i64 x.2 1))) (some (.inr x.1)))
  (s:=(d -1+ys y,1)) (λx=>∃i:Nat,x=(d -1+ys y+yK y i,(i:Int)+1)/\(i:Int)<=m -1) (λe=>e=d -1+ys y+yK y (m -1).toNat) (λx=>(m -x.2).toNat) ⟨0,by simp[yK],l7⟩ l7 (by
  rintro x ⟨i,rfl,hi⟩;by_cases hlt:(i:Int)+1<m
  .have hb:=Vb y i l7;have hd:=FN y ((i:Int)+1);left;refine⟨(d -1+ys y+yK y (i+1),((i+1:Nat):Int)+1),?_,⟨i+1,rfl,l7⟩,by simp;omega⟩<;>grind [yK,U0,o7,wO,o8,U5,iq]
  .right;have:i=(m -1).toNat:=l7;simp_all [L6])
 refine(wJ k1 _).trans ?_;rw[k2];unfold a6g;rw[show d -1+ys y+yK y (m -1).toNat=ys y+yK y (m -1).toNat+d -1 by omega]
def b2W(d n:Int):Int×Int:=
 if ¬(0<=d/\d<=109572)\/n< -3600\/3600<n then(0,3)else
  if((sH d).1 -1900)*12+(sH d).2.1 -1+n<0\/3599<((sH d).1 -1900)*12+(sH d).2.1 -1+n then(0,3)else
   (a6g (1900+(((sH d).1 -1900)*12+(sH d).2.1 -1+n) / 12) ((((sH d).1 -1900)*12+(sH d).2.1 -1+n) % 12+1) (ww (sH d).2.2 (dim (1900+(((sH d).1 -1900)*12+(sH d).2.1 -1+n) / 12) ((((sH d).1 -1900)*12+(sH d).2.1 -1+n) % 12+1))),0)
theorem Rt(a b:Int):ww a b=if b<a then b else a:=rfl
theorem Uu(d n:Int):xG d n=some (b2W d n):=by
 unfold xG Aq b2W;by_cases h0:0<=d/\d<=109572
 case neg=>rw[if_pos (.inl h0)];by_cases h1:0<=d<;>simp_all [ae,aC]
 rw[ae h0.1,ae h0.2,o7,o8,E8,o6];by_cases h1:n< -3600
 .simp_all [U0]
 by_cases h2:3600<n
 .simp_all [L6,U0]
 rw[L6 l7,L6 l7,if_neg l7,o6,o6,o8,Gz h0.1 h0.2,o8];obtain⟨b1,b2,b3,b4,b5,b6⟩:=QQ h0.1 h0.2;generalize sH d=q at*;obtain⟨y,m,dd⟩:=q;have e1:I8 .i64 y 1900=y -1900:=U7 (by grind [iq]);have e2:aP .i64 (y -1900) 12=(y -1900)*12:=oH (by grind [iq]);have e3:A8 .i64 ((y -1900)*12) m=(y -1900)*12+m:=U5 (by grind [iq]);have e4:I8 .i64 ((y -1900)*12+m) 1=(y -1900)*12+m -1:=U7 (by grind [iq]);have e5:A8 .i64 ((y -1900)*12+m -1) n=(y -1900)*12+m -1+n:=U5 (by grind [iq]);rw[e1,e2,e3,e4,e5];generalize ht:(y -1900)*12+m -1+n=t;by_cases t0:t<0
 .simp_all [U0]
 by_cases t1:3599<t
 .simp_all [L6,U0]
 rw[L6 l7,L6 l7,if_neg l7,o6];have e6:eH .i64 t 12=t / 12:=by rw[zo (by grind [iq]),jw l7]
 have e7:fC t 12=t % 12:=zq l7;have e8:A8 .i64 1900 (t / 12)=1900+t / 12:=U5 (by grind [iq]);have e9:A8 .i64 (t % 12) 1=t % 12+1:=U5 (by grind [iq]);rw[e6,e7,e8,e9,xx l7 l7,o8];have hd:=FN (1900+t / 12) (t % 12+1);rw[a8S l7 l7 (by grind [Rt]) (by grind [Rt])];rfl
theorem Tq(d n:Int):tK d n=some (b2W d n):=by
 unfold tK AZ b2W;by_cases h0:0<=d/\d<=109572
 case neg=>rw[if_pos (.inl h0)];by_cases h1:0<=d<;>simp_all [ae,aC]
 rw[ae h0.1,ae h0.2,o7,o8,E8,o6];by_cases h1:n< -3600
 .simp_all [U0]
 by_cases h2:3600<n
 .simp_all [L6,U0]
 rw[L6 l7,L6 l7,if_neg l7,o6,Qx h0.1 h0.2,o8];obtain⟨b1,b2,b3,b4,b5,b6⟩:=QQ h0.1 h0.2;generalize sH d=q at*;obtain⟨y,m,dd⟩:=q;simp at b1 b2 b3 b4 b5 b6 ⊢;have e2:aP .i64 12 y=12*y:=oH (by grind [iq]);have e3:A8 .i64 (12*y) m=12*y+m:=U5 (by grind [iq]);have e4:I8 .i64 (12*y+m) 1=12*y+m -1:=U7 (by grind [iq]);have e5:A8 .i64 (12*y+m -1) n=12*y+m -1+n:=U5 (by grind [iq]);rw[e2,e3,e4,e5];generalize ht:(y -1900)*12+m -1+n=t;have hk:12*y+m -1+n=t+22800:=l7;rw[hk];have e6:eH .i64 (t+22800) 12=1900+t / 12:=by rw[zo (by grind [iq]),jw l7];omega
 have e7:fC (t+22800) 12=t % 12:=by grind [zq]
 have e9:A8 .i64 (t % 12) 1=t % 12+1:=U5 (by grind [iq]);rw[e6,e7,e9,wO l7 l7,o8];have hd:=FN (1900+t / 12) (t % 12+1);by_cases t0:t<0
 .rw[if_pos (.inl t0)];unfold CS;rw[U0 l7];rfl
 by_cases t1:3599<t
 .rw[if_pos (.inr t1)];unfold CS;rw[L6 l7,U0 l7];rfl
 rw[if_neg l7,a7o l7 l7 (by grind [Rt]) (by grind [Rt])];rfl
def yrl(a k:Int):Int:=a6g ((sH a).1+k) (sH a).2.1 (ww (sH a).2.2 (dim ((sH a).1+k) (sH a).2.1))
variable {a:Int}{k:Int}
theorem a1T(h0:0<=a/\a<=109572)(hk:0<=k)(hk2:k<=300):b2W a (12*k)=if(sH a).1+k<=2199 then(yrl a k,0)else(0,3):=by obtain⟨b1,b2,b3,b4,b5,b6⟩:=QQ h0.1 h0.2<;>grind [b2W,yrl]
theorem b9Q(h0:0<=a/\a<=109572)(k:Int):ys ((sH a).1+k)<=yrl a k/\yrl a k<ys ((sH a).1+k+1):=by obtain⟨b1,b2,b3,b4,b5,b6⟩:=QQ h0.1 h0.2;have hd:=FN ((sH a).1+k) (sH a).2.1;exact c0i ⟨b3,b4⟩ (by grind [Rt]) (by grind [Rt])
theorem Wh(h0:0<=a/\a<=109572):ys (sH a).1<=a/\a<ys ((sH a).1+1):=by have:=We h0.1 h0.2;exact⟨this.2.2.1,this.2.2.2⟩
def a5p(a b:Int):Int:=if 0<=a/\a<=109572/\0<=b/\b<=109572/\a<=b then
  (if(sH b).1 -(sH a).1<=0 then 0 else if yrl a ((sH b).1 -(sH a).1)<=b then(sH b).1 -(sH a).1 else(sH b).1 -(sH a).1 -1)else 0
theorem YB(a b:Int):sK a b=some (a5p a b):=by
 unfold sK Aq a5p;by_cases ha0:0<=a
 case neg=>rw[aC l7,if_neg l7];rfl
 by_cases ha1:a<=109572
 case neg=>rw[ae ha0,aC l7,if_neg l7];rfl
 rw[ae ha0,ae ha1,o7,o8,E8,o6];by_cases hb0:0<=b
 case neg=>rw[aC l7,if_neg l7];rfl
 by_cases hb1:b<=109572
 case neg=>rw[ae hb0,aC l7,if_neg l7];rfl
 rw[ae hb0,ae hb1,o7,o8,E8,o6];by_cases hab:a<=b
 case neg=>rw[U0 l7,if_neg l7];rfl
 rw[L6 hab,o6,if_pos ⟨ha0,ha1,hb0,hb1,hab⟩,Gz ha0 ha1,o8,Gz hb0 hb1,o8];obtain⟨p1,p2,_,_,_,_⟩:=QQ ha0 ha1;obtain⟨q1,q2,_,_,_,_⟩:=QQ hb0 hb1;have ya:=Wh ⟨ha0,ha1⟩;have yb:=Wh ⟨hb0,hb1⟩;have hK:0<=(sH b).1 -(sH a).1:=by
  rcases SE (sH b).1 (sH a).1 with h|h
  .have:=wU (show(sH b).1+1<=(sH a).1 by omega);omega
  .omega
 rw[U7 (show iq ((sH b).1 -(sH a).1) by unfold iq;omega)];have hle:(sH a).1+((sH b).1 -(sH a).1)<=2199:=l7;generalize (sH b).1 -(sH a).1=K at*;rw[oH (show iq (12*K) by unfold iq;omega),Uu,o8,a1T ⟨ha0,ha1⟩ hK l7,if_pos hle];simp only[L8 (rfl:(0:Int)=0),E8,o6];rw[U7 (show iq (K -1) by unfold iq;omega)];have im:∀x:Int,qX x 0=if x<0 then 0 else x:=λx=>rfl;by_cases hz:K<=0
 .have:K=0:=l7;subst this;rw[if_pos l7];cases F7 b (yrl a 0)<;>rfl
 .rw[if_neg hz];by_cases hq:yrl a K<=b
  .rw[if_pos hq,L6 hq,o6,im,if_neg l7]
  .rw[if_neg hq,U0 l7,o7,im,if_neg l7]
theorem Xa(a b:Int):yO a b=some (a5p a b):=by
 unfold yO AZ a5p;by_cases ha0:0<=a
 case neg=>rw[aC l7,if_neg l7];rfl
 by_cases ha1:a<=109572
 case neg=>rw[ae ha0,aC l7,if_neg l7];rfl
 rw[ae ha0,ae ha1,o7,o8,E8,o6];by_cases hb0:0<=b
 case neg=>rw[aC l7,if_neg l7];rfl
 by_cases hb1:b<=109572
 case neg=>rw[ae hb0,aC l7,if_neg l7];rfl
 rw[ae hb0,ae hb1,o7,o8,E8,o6];obtain⟨p1,p2,_,_,_,_⟩:=QQ ha0 ha1;obtain⟨q1,q2,_,_,_,_⟩:=QQ hb0 hb1;have ya:=Wh ⟨ha0,ha1⟩;have yb:=Wh ⟨hb0,hb1⟩;have key:=AO (f:=λ(x:Int)=>o5 (tK a (aP .i64 12 (A8 .i64 x 1))) λ(x_1:Int×Int)=>l9 (G6 (x8 x_1.2 0)) (some (.rt x)) (l9 (F7 b x_1.1) (some (.rt x)) (some (.nx (A8 .i64 x 1)))))
  (s:=0) (λx=>0<=x/\(x=0\/(x<=(sH b).1 -(sH a).1/\yrl a x<=b))) (λ(_:PUnit)=>False) (λr=>r=(if a<=b then(if(sH b).1 -(sH a).1<=0 then 0 else if yrl a ((sH b).1 -(sH a).1)<=b then(sH b).1 -(sH a).1 else(sH b).1 -(sH a).1 -1)else 0)) (λx=>(300 -x).toNat) ⟨l7,.inl rfl⟩ x9 (by
  rintro x ⟨hx0,hx⟩;have hx300:x<=299:=l7;rw[U5 (show iq (x+1) by unfold iq;omega),oH (show iq (12*(x+1)) by unfold iq;omega),Tq,o8,a1T ⟨ha0,ha1⟩ l7 l7];have hyb:=b9Q ⟨ha0,ha1⟩ (x+1);have hyx:=b9Q ⟨ha0,ha1⟩ x;have hmono:ys ((sH a).1+x+1)<=ys ((sH a).1+(x+1)):=wU l7;have hax:a<yrl a (x+1):=by have:=wU (show(sH a).1+1<=(sH a).1+(x+1) by omega);omega
  by_cases hq:(sH a).1+(x+1)<=2199/\yrl a (x+1)<=b
  .left;obtain⟨hq1,hq2⟩:=hq;have hK:x+1<=(sH b).1 -(sH a).1:=by
    rcases SE (sH b).1 ((sH a).1+(x+1))with h|h
    .have:=wU (show(sH b).1+1<=(sH a).1+(x+1) by omega);omega
    .omega
   refine⟨x+1,?_,⟨l7,.inr ⟨hK,hq2⟩⟩,l7⟩;rw[if_pos hq1];simp only[L8 (rfl:(0:Int)=0),E8,o6,L6 hq2]
  .right;right;refine⟨x,?_,?_⟩
   .by_cases hq1:(sH a).1+(x+1)<=2199
    .rw[if_pos hq1];simp only[L8 (rfl:(0:Int)=0),E8,o6,U0 (show b<yrl a (x+1) by omega),o7]
    .rw[if_neg hq1];rfl
   .by_cases hab:a<=b
    case neg=>
     rw[if_neg hab];by_cases hx1:x=0
     .exact hx1
     .exfalso;have:=wU (show(sH a).1+1<=(sH a).1+x by omega);omega
    rw[if_pos hab];have hK:0<=(sH b).1 -(sH a).1:=by
     rcases SE (sH b).1 (sH a).1 with h|h
     .have:=wU (show(sH b).1+1<=(sH a).1 by omega);omega
     .omega
    have hxK:x<=(sH b).1 -(sH a).1:=l7;by_cases hxe:x=(sH b).1 -(sH a).1
    .by_cases hz:(sH b).1 -(sH a).1<=0
     .rw[if_pos hz];omega
     .rw[if_neg hz];rcases hx with hx|hx
      .omega
      .rw[←hxe,if_pos hx.2]
    .have hlt:x+1<=(sH b).1 -(sH a).1:=l7;rw[if_neg l7];have hyr:(sH a).1+(x+1)<=2199:=l7;have hgt:b<yrl a (x+1):=by
      have:=λh=>hq ⟨hyr,h⟩;omega
     have heq:x+1=(sH b).1 -(sH a).1:=by
      rcases SE (x+1) ((sH b).1 -(sH a).1)with h|h
      .have:=wU (show(sH a).1+(x+1)+1<=(sH b).1 by omega);omega
      .omega
     rw[←heq,if_neg l7];omega)
 rcases key with⟨e,_,h⟩|⟨r,k1,k2⟩
 .exact h.elim
 .refine(wJ k1 _).trans ?_;rw[k2];by_cases hab:a<=b
  .rw[if_pos hab,if_pos (show 0<=a/\a<=109572/\0<=b/\b<=109572/\a<=b from⟨ha0,ha1,hb0,hb1,hab⟩)];rfl
  .rw[if_neg hab,if_neg l7];rfl
def b1I:d4C:=(List.range 256).map λn=>UInt8.ofNat (if n=0 then 0 else Nat.log2 n+1)
theorem b6d:∀n:Fin 256,∃k:Fin 9,b1I[n.val]? =some (UInt8.ofNat k.val)/\n.val<2^k.val/\(0<n.val->0<k.val/\2^(k.val -1)<=n.val):=by decide+kernel
def b2Q(n:Int)(k:Nat):Prop:=n<2^k/\(0<n->0<k/\2^(k -1)<=n)
variable {n:Int}
theorem c2b(h0:0<=n)(h:n<256):wrap .u8 n=n:=by
 grind [wrap,IntKind.wrap,IntKind.signed,IntKind.bits]
theorem c0B(h0:0<=n)(h:n<256):∃k:Nat,k<=8/\sat b1I (wrap .u8 n)=some (k:Int)/\b2Q n k:=by
 rw[c2b h0 h];obtain⟨k,k1,k2,k3⟩:=b6d ⟨n.toNat,l7⟩;refine⟨k.val,l7,?_,?_,λhp=>?_⟩
 .unfold sat
  rw[k1];simp;omega
 all_goals simp_all
theorem UR{k:Nat}(hk:k<=64):dR .u64 n (k:Int)=n / 2^k:=by
 grind [dR,IntKind.bits]
theorem b2Q.shift{j k:Nat}(h:b2Q (n / 2^j) k)(hn:2^j<=n):b2Q n (j+k):=by
 have hp:(0:Int)<2^j:=Int.pow_pos l7;have h1:=by have:=uU hp (show 1*2^j<=n by omega);omega
 obtain⟨a,b⟩:=h;obtain⟨b1,b2⟩:=b h1;have hdm:=Int.mul_ediv_add_emod n (2^j);have hm:=U6 n hp;refine⟨?_,λ_=>⟨l7,?_⟩⟩
 .have:(2:Int)^j*(n / 2^j+1)<=2^j*2^k:=Int.mul_le_mul_of_nonneg_left l7 l7
  grind
 .have:(2:Int)^j*2^(k -1)<=2^j*(n / 2^j):=Int.mul_le_mul_of_nonneg_left b2 l7;rw[show j+k -1=j+(k -1) by omega,Int.pow_add];omega
theorem b6c:(Ou:d4C)=b1I:=by decide+kernel
theorem rJ(h0:0<=n)(h:n<=1000):wrap .i64 n=n:=lY (by grind [iq])
variable {b:Int}
theorem OQ(h0:0<=a)(h1:a<=1000)(h2:0<=b)(h3:b<=1000):A8 .i64 a b=a+b:=U5 (by grind [iq])
theorem b6b(h0:0<=n)(h:n<18446744073709551616):∃k:Nat,k<=64/\Dt n=some (k:Int)/\b2Q n k:=by
 have s32:∀m:Int,dR .u64 m 32=m / 2^32:=λm=>UR (k:=32) l7;have s16:∀m:Int,dR .u64 m 16=m / 2^16:=λm=>UR (k:=16) l7;have s8:∀m:Int,dR .u64 m 8=m / 2^8:=λm=>UR (k:=8) l7;unfold Dt;rw[b6c,s32,s16,s16,s8,s8,s8,s8];have ow:∀(m:Int) (a:Int) (K:Nat),0<=m->m<256->a=(K:Int)->K<=56->∀(g:Int->Int),(∀x,0<=x->x<=8->g x=a+x)->∃k:Nat,k<=8/\(o5 (sat b1I (wrap .u8 m)) λ(x:Int)=>some (g x))=some (((K+k:Nat):Int))/\b2Q m k:=by intro m a K m0 m1 ha hK g hg;obtain⟨k,k1,k2,k3⟩:=c0B m0 m1;refine⟨k,k1,?_,k3⟩;rw[k2,o8,hg _ l7 l7,ha];simp
 by_cases c32:4294967296<=n
 .rw[ae c32,o7];by_cases c16:65536<=n / 2^32
  .rw[ae c16,o7];by_cases c8:256<=n / 2^32 / 2^16
   .rw[ae c8,o7];obtain⟨k,k1,k2,k3⟩:=ow (n / 2^32 / 2^16 / 2^8) 56 56 l7 l7 rfl l7 (λx=>A8 .i64 (A8 .i64 (A8 .i64 32 16) 8) (wrap .i64 x)) (λx x0 x1=>by
     rw[rJ x0 l7,show A8 .i64 (A8 .i64 32 16) 8=56 by decide,OQ l7 l7 l7 l7])
    exact⟨56+k,l7,k2,by have:=((k3.shift (j:=8) l7).shift (j:=16) l7).shift (j:=32) l7;rw[show 32+(16+(8+k))=56+k by omega]at this;exact this⟩
   .rw[aC l7,o6];obtain⟨k,k1,k2,k3⟩:=ow (n / 2^32 / 2^16) 48 48 l7 l7 rfl l7 (λx=>A8 .i64 (A8 .i64 32 16) (wrap .i64 x)) (λx x0 x1=>by
     rw[rJ x0 l7,OQ (a:=32) l7 l7 l7 l7,OQ l7 l7 l7 l7];rfl)
    exact⟨48+k,l7,k2,by have:=(k3.shift (j:=16) l7).shift (j:=32) l7;rw[show 32+(16+k)=48+k by omega]at this;exact this⟩
  .rw[aC l7,o6];by_cases c8:256<=n / 2^32
   .rw[ae c8,o7];obtain⟨k,k1,k2,k3⟩:=ow (n / 2^32 / 2^8) 40 40 l7 l7 rfl l7 (λx=>A8 .i64 (A8 .i64 32 8) (wrap .i64 x)) (λx x0 x1=>by
     rw[rJ x0 l7,OQ (a:=32) l7 l7 l7 l7,OQ l7 l7 l7 l7];rfl)
    exact⟨40+k,l7,k2,by have:=(k3.shift (j:=8) l7).shift (j:=32) l7;rw[show 32+(8+k)=40+k by omega]at this;exact this⟩
   .rw[aC l7,o6];obtain⟨k,k1,k2,k3⟩:=ow (n / 2^32) 32 32 l7 l7 rfl l7 (λx=>A8 .i64 32 (wrap .i64 x)) (λx x0 x1=>by
     rw[rJ x0 l7,OQ l7 l7 l7 l7])
    exact⟨32+k,l7,k2,k3.shift (j:=32) l7⟩
 .rw[aC l7,o6];by_cases c16:65536<=n
  .rw[ae c16,o7];by_cases c8:256<=n / 2^16
   .rw[ae c8,o7];obtain⟨k,k1,k2,k3⟩:=ow (n / 2^16 / 2^8) 24 24 l7 l7 rfl l7 (λx=>A8 .i64 (A8 .i64 (A8 .i64 0 16) 8) (wrap .i64 x)) (λx x0 x1=>by
     rw[rJ x0 l7,show A8 .i64 (A8 .i64 0 16) 8=24 by decide,OQ l7 l7 l7 l7])
    exact⟨24+k,l7,k2,by have:=(k3.shift (j:=8) l7).shift (j:=16) l7;rw[show 16+(8+k)=24+k by omega]at this;exact this⟩
   .rw[aC l7,o6];obtain⟨k,k1,k2,k3⟩:=ow (n / 2^16) 16 16 l7 l7 rfl l7 (λx=>A8 .i64 (A8 .i64 0 16) (wrap .i64 x)) (λx x0 x1=>by
     rw[rJ x0 l7,OQ (a:=0) l7 l7 l7 l7,OQ l7 l7 l7 l7];rfl)
    exact⟨16+k,l7,k2,k3.shift (j:=16) l7⟩
  .rw[aC l7,o6];by_cases c8:256<=n
   .rw[ae c8,o7];obtain⟨k,k1,k2,k3⟩:=ow (n / 2^8) 8 8 l7 l7 rfl l7 (λx=>A8 .i64 (A8 .i64 0 8) (wrap .i64 x)) (λx x0 x1=>by
     rw[rJ x0 l7,OQ (a:=0) l7 l7 l7 l7,OQ l7 l7 l7 l7];rfl)
    exact⟨8+k,l7,k2,k3.shift (j:=8) l7⟩
   .rw[aC l7,o6];obtain⟨k,k1,k2,k3⟩:=ow n 0 0 l7 l7 rfl l7 (λx=>A8 .i64 0 (wrap .i64 x)) (λx x0 x1=>by
     rw[rJ x0 l7,OQ l7 l7 l7 l7])
    exact⟨0+k,l7,k2,by rw[gQ];exact k3⟩
theorem Ij(h0:0<=n)(h:n<18446744073709551616):IntKind.wrap .u64 n=n:=a1n (by unfold U64;omega)
theorem CZ(n:Int):IntKind.wrap .u64 n=n % 18446744073709551616:=by unfold IntKind.wrap;simp[IntKind.signed,IntKind.bits]
def a9o{σ ε:Type}(f:σ->Option (σ⊕ε))(m:Nat)(o:Option (σ⊕ε)):Option ε:=match o with
 |some (.inl s')=>qC f m s'|some (.inr e)=>some e|none=>none
theorem b3C{σ ε:Type}(f:σ->Option (σ⊕ε))(m:Nat)(s:σ):qC f (m+1) s=a9o f m (f s):=by
 rw[qC];unfold a9o;cases f s with
 |none=>rfl|some o=>cases o<;>rfl
variable {σ:Type}
theorem ZX(mkp:Int->Int->σ){f:σ->Option (σ⊕Int)}{y1 y0 U d:Int}(hy1:2147483648<=y1)(hy1' :y1<4294967296)(hy0:0<=y0)(hy0' :y0<4294967296)(hU:0<=U)(hUY:U<y1*4294967296+y0)(hd:0<=d)(hd' :d<4294967296)
  (hf:∀q r,0<=q->q<=4294967297->0<=r->r<4294967296->f (mkp q r)=l9 (S9 4294967296 q) (l9 (S9 4294967296 (A8 .u64 r y1)) (some (.inr (I8 .u64 q 1))) (some (.inl (mkp (I8 .u64 q 1) (A8 .u64 r y1)))))
   (l9 (F7 (A8 .u64 (aP .u64 4294967296 r) d) (aP .u64 q y0)) (l9 (S9 4294967296 (A8 .u64 r y1)) (some (.inr (I8 .u64 q 1))) (some (.inl (mkp (I8 .u64 q 1) (A8 .u64 r y1))))) (some (.inr q)))):
  ∃Q,X8 f (mkp (U / y1) (U -U / y1*y1))=some Q/\0<=Q/\Q<4294967296/\Q*(y1*4294967296+y0)<=U*4294967296+d/\U*4294967296+d<(Q+1)*(y1*4294967296+y0):=by
 obtain⟨Y,hY⟩:∃Y,Y=y1*4294967296+y0:=⟨_,rfl⟩;have hYe:∀q:Int,q*Y=q*y1*4294967296+q*y0:=λq=>by rw[hY,Int.mul_add,←Int.mul_assoc]
 have hq0:0<=U / y1:=af hU l7;have hdm:=Y8 U y1;have hm0:=X3 U (show y1≠0 by omega);have hm1:=U6 U (show 0<y1 by omega);have hqB:U / y1<=4294967297:=by
  rcases SE 4294967297 (U / y1)with h|h
  .have:=U9 (show 4294967298<=U / y1 by omega) (show 0<=y1 by omega);omega
  .exact h
 obtain⟨n,hn⟩:∃n,n=(U / y1).toNat+1:=⟨_,rfl⟩;have key:∀(n:Nat) (q r:Int),0<=q->q<=4294967297->0<=r->r<4294967296->U=q*y1+r->U*4294967296+d<(q+1)*Y->q.toNat<n->∀m,n<=m->∃Q,qC f m (mkp q r)=some Q/\0<=Q/\Q<4294967296/\Q*Y<=U*4294967296+d/\U*4294967296+d<(Q+1)*Y:=by
  intro n;induction n with
  |zero=>intro q r _ _ _ _ _ _ h;omega|succ n ih=>
   intro q r q0 qB r0 rB hUq hlt hqn m hm;obtain⟨m,rfl⟩:∃m',m=m' +1:=⟨m -1,l7⟩;rw[b3C,hf q r q0 qB r0 rB];have e1:=hYe q;have e2:(q+1)*Y=q*Y+Y:=by rw[Int.add_mul,iE]
   have hry:A8 .u64 r y1=r+y1:=Ij l7 l7;have g0:0<=q*y0:=X5 q0 hy0;have less:U*4294967296+d<q*Y->1<=q/\I8 .u64 q 1=q -1/\U=(q -1)*y1+(r+y1)/\(q -1+1)*Y=q*Y/\(q -1)*Y=q*Y -Y/\(q -1)*y0=q*y0 -y0:=by
    intro hgt;have hq1:1<=q:=by
     rcases SE q 1 with h|h
     .have:q=0:=l7;subst this;simp at hgt;omega
     .exact h
    refine⟨hq1,Ij l7 l7,?_,?_,?_,?_⟩
    .rw[Int.sub_mul,iE];omega
    .rw[show q -1+1=q by omega]
    .rw[Int.sub_mul,iE]
    .rw[Int.sub_mul,iE]
   have dec:U*4294967296+d<q*Y->∃Q,a9o f m (l9 (S9 4294967296 (r+y1)) (some (Sum.inr (I8 .u64 q 1))) (some (Sum.inl (mkp (I8 .u64 q 1) (r+y1)))))=some Q/\0<=Q/\Q<4294967296/\Q*Y<=U*4294967296+d/\U*4294967296+d<(Q+1)*Y:=by
    intro hgt;obtain⟨l1,l2,l3,l4,l5,l6⟩:=less hgt;rw[l2];by_cases hr:4294967296<=r+y1
    .rw[ae hr];have h6:(q -1)*y0<=4294967296*y0:=U9 l7 hy0;have h7:=hYe (q -1);have hle:(q -1)*Y<=U*4294967296+d:=by rw[h7,l3];omega
     refine⟨q -1,rfl,l7,?_,hle,by rw[l4];exact hgt⟩;rcases SE (q -1) 4294967296 with h|h
     .exact h
     .have:=U9 h (show 0<=Y by omega);omega
    .rw[aC l7];exact ih (q -1) (r+y1) l7 l7 l7 l7 l3 (by rw[l4];exact hgt) l7 m l7
   by_cases hqb:4294967296<=q
   .rw[ae hqb,o7,hry];have:=U9 hqb (show 0<=Y by omega);exact dec l7
   .rw[aC l7,o6,hry];have g1:q*y0<=4294967295*y0:=U9 l7 hy0;have m1:aP .u64 4294967296 r=4294967296*r:=Ij l7 l7;have m2:A8 .u64 (4294967296*r) d=4294967296*r+d:=Ij l7 l7;have m3:aP .u64 q y0=q*y0:=Ij g0 l7;rw[m1,m2,m3];by_cases hc:4294967296*r+d<q*y0
    .rw[U0 hc,o7];exact dec (by rw[e1];omega)
    .rw[L6 l7,o6];exact⟨q,rfl,q0,l7,by rw[e1];omega,hlt⟩
 rw[←hY];refine key n (U / y1) (U -U / y1*y1) hq0 hqB l7 l7 l7 ?_ l7 kK (by unfold kK;omega);have e1:=hYe (U / y1);rw[Int.add_mul,iE,e1];have:=X5 hq0 hy0;omega
theorem UC(h0:0<=n)(h:n<18446744073709551616):(BitVec.ofInt 64 n).toNat=n.toNat:=by
 grind
theorem a2z(h0:0<=n)(h:n<18446744073709551616):dI .u64 n 4294967295=n % 4294967296:=by
 unfold dI;rw[show IntKind.bits .u64=64 from rfl,BitVec.toNat_and,UC h0 h,UC E5 E5];rw[show(4294967295:Int).toNat=2^32 -1 from rfl,iy]
 grind [Ij]
variable {c:Int}
theorem c0x{s:Nat}(ha0:0<=a)(hc0:0<=c)(hc:c<2^s)(h:a*2^s+c<18446744073709551616):ior .u64 (a*2^s) c=a*2^s+c:=by
 have hap:0<=a*2^s:=X5 ha0 l7;unfold ior;rw[show IntKind.bits .u64=64 from rfl,BitVec.toNat_or,UC hap l7,UC hc0 l7];obtain⟨m,rfl⟩:∃m:Nat,a=(m:Int):=⟨a.toNat,l7⟩;obtain⟨k,rfl⟩:∃k:Nat,c=(k:Int):=⟨c.toNat,l7⟩;have hk:=by exact_mod_cast hc
 have e1:((m:Int)*2^s).toNat=m<<<s:=by
  grind [Nat.shiftLeft_eq]
 rw[e1,D9,←Nat.shiftLeft_add_eq_or_of_lt hk]
 grind [Ij]
theorem a6f(a b c d:Int):I8 .u64 (A8 .u64 (aP .u64 a 4294967296) b) (aP .u64 c d)=(a*4294967296+b -c*d) % 18446744073709551616:=by simp[I8,A8,aP,CZ]
theorem c8k(h0:0<y)(h:y<18446744073709551616):∃s:Nat,s<=63/\qZ y=some (s:Int)/\9223372036854775808<=y*2^s/\y*2^s<18446744073709551616:=by
 obtain⟨k,k1,k2,k3,k4⟩:=b6b l7 h;obtain⟨k5,k6⟩:=k4 h0;refine⟨64 -k,l7,?_,?_,?_⟩
 .grind [qZ,o8,U7,iq]
 .have:=U9 k6 (show(0:Int)<=2^(64 -k)from Int.pow_nonneg l7);rw[←Int.pow_add,show k -1+(64 -k)=63 by omega]at this;omega
 .have:=Int.mul_lt_mul_of_pos_right k3 (show(0:Int)<2^(64 -k)from Int.pow_pos l7);rw[←Int.pow_add,show k+(64 -k)=64 by omega]at this;omega
theorem Ru(ha:0<=a)(ha' :a<18446744073709551616)(hb:0<b):tZ .u64 a b=some (a / b):=by
 unfold tZ;have h1:=af ha (show 0<=b by omega);have h2:=gV b ha
 grind [Ij]
theorem DX(ha:0<=a)(hb:0<b):BQ a b=some (a % b):=by
 grind [BQ]
theorem ZZ{hi lo y:Int}(h0:0<=hi)(h1:hi<y)(hy:y<18446744073709551616)(l0:0<=lo)(l1:lo<18446744073709551616):
  qj hi lo y=some ((hi*18446744073709551616+lo) / y,(hi*18446744073709551616+lo) % y):=by
 unfold qj;rw[I4 (show y≠0 by omega),o6,o8,aC h1,o6,o8];by_cases hz:hi=0
 .simp_all [L8,Ru,DX]
 rw[I4 hz,o6];obtain⟨s,s1,s2,s3,s4⟩:=c8k (y:=y) l7 hy;rw[s2,o8,show wrap .u64 ((s:Nat):Int)=(s:Int)from Ij l7 l7,show I8 .u64 64 (s:Int)=((64 -s:Nat):Int) by grind [I8,Ij]];have hshl:∀v:Int,zt .u64 v (s:Int)=some ((v*2^s) % 18446744073709551616):=λv=>by
  grind [zt,b5R,IntKind.bits,CZ]
 have hshr:∀(v:Int) (k:Nat),k<=64->Qd .u64 v (k:Int)=some (v / 2^k):=λv k hk=>by simp_all [Qd,UR]
 rw[hshl,o8,hshl,o8,hshr _ _ l7,o8,hshl,o8];have hpp:(2:Int)^s*2^(64 -s)=18446744073709551616:=by rw[←Int.pow_add,show s+(64 -s)=64 by omega];rfl
 have hp:(0:Int)<2^s:=Int.pow_pos l7;have hp' :(0:Int)<2^(64 -s):=Int.pow_pos l7;have hcb:lo / 2^(64 -s)<2^s:=pI hp' l7;have hc0:0<=lo / 2^(64 -s):=af l0 l7;have hcd:=Y8 lo (2^(64 -s));have he0:=X3 lo (show(2:Int)^(64 -s)≠0 by omega);have he1:=U6 lo hp';have hioP:∀a c:Int,0<=a->0<=c->c<2^s->a*2^s+c<18446744073709551616->ior .u64 (a*2^s) c=a*2^s+c:=λa c a0 c0 c1 h=>c0x a0 c0 c1 h;have hshrs:=λv=>hshr v s l7;generalize (2:Int)^s=p at*;generalize (2:Int)^(64 -s)=p' at*;generalize lo / p' =c at*;generalize lo % p' =e at*;have hlop:lo*p=c*18446744073709551616+e*p:=by
  grind
 have hep0:0<=e*p:=X5 he0 l7;have hep1:e*p<18446744073709551616:=by
  have:=Int.mul_lt_mul_of_pos_right he1 hp
  grind
 rw[show(lo*p) % 18446744073709551616=e*p by omega];have hhp0:0<=hi*p:=X5 h0 l7;have hhp1:hi*p<=y*p -p:=by
  have:=U9 (show hi<=y -1 by omega) (show 0<=p by omega)
  grind
 rw[show(y*p) % 18446744073709551616=y*p by omega,show(hi*p) % 18446744073709551616=hi*p by omega,hioP hi c h0 hc0 hcb l7];have hN:(hi*18446744073709551616+lo)*p=(hi*p+c)*18446744073709551616+e*p:=by
  grind
 have hsh32:∀v:Int,dR .u64 v 32=v / 4294967296:=λv=>UR (k:=32) l7;rw[hsh32,hsh32,a2z l7 s4,a2z hep0 hep1];obtain⟨Y,hY⟩:∃Y,Y=y*p:=⟨_,rfl⟩;obtain⟨N,hNN⟩:∃N,N=hi*18446744073709551616+lo:=⟨_,rfl⟩;rw[←hNN]at hN ⊢;rw[←hY]at s3 s4 hhp1 ⊢;generalize hU:hi*p+c=U at*;generalize e*p=E at*;have hUY:U<Y:=l7;have hU0:0<=U:=l7;obtain⟨Q1,q1,q2,q3,q4,q5⟩:=ZX (σ:=Int×Int) (λq r=>(q,r)) (y1:=Y / 4294967296) (y0:=Y % 4294967296) (U:=U) (d:=E / 4294967296) l7 l7 l7 l7 hU0 l7 l7 l7
  (f:=λ(x:Int×Int)=>l9 (S9 4294967296 x.1) (l9 (S9 4294967296 (A8 .u64 x.2 (Y / 4294967296))) (some (.inr (I8 .u64 x.1 1))) (some (.inl (I8 .u64 x.1 1,A8 .u64 x.2 (Y / 4294967296))))) (l9 (F7 (A8 .u64 (aP .u64 4294967296 x.2) (E / 4294967296)) (aP .u64 x.1 (Y % 4294967296))) (l9 (S9 4294967296 (A8 .u64 x.2 (Y / 4294967296))) (some (.inr (I8 .u64 x.1 1))) (some (.inl (I8 .u64 x.1 1,A8 .u64 x.2 (Y / 4294967296))))) (some (.inr x.1))))
  (λq r _ _ _ _=>rfl)
 have hYe:Y / 4294967296*4294967296+Y % 4294967296=Y:=l7;rw[hYe]at q4 q5;have hst:∀V:Int,0<=V->V<Y->I8 .u64 V (aP .u64 (V / (Y / 4294967296)) (Y / 4294967296))=V -V / (Y / 4294967296)*(Y / 4294967296):=λV v0 v1=>by have a1:=Y8 V (Y / 4294967296);have a2:=X3 V (show Y / 4294967296≠0 by omega);have a4:=X5 (af v0 (show 0<=Y / 4294967296 by omega)) (show 0<=Y / 4294967296 by omega);rw[show aP .u64 (V / (Y / 4294967296)) (Y / 4294967296)=V / (Y / 4294967296)*(Y / 4294967296)from Ij a4 l7];exact Ij l7 l7
 rw[Ru hU0 l7 l7,o8,hst U hU0 hUY];refine(wJ q1 _).trans ?_;rw[a6f];have hA1:(Q1+1)*Y=Q1*Y+Y:=by grind
 rw[hA1]at q5;obtain⟨A1,hAA⟩:∃A1,A1=Q1*Y:=⟨_,rfl⟩;rw[←hAA]at q4 q5 ⊢;rw[show(U*4294967296+E / 4294967296 -A1) % 18446744073709551616=U*4294967296+E / 4294967296 -A1 by omega];generalize hV:U*4294967296+E / 4294967296 -A1=V at*;have hV0:0<=V:=l7;have hVY:V<Y:=l7;obtain⟨Q0,r1,r2,r3,r4,r5⟩:=ZX (σ:=Int×Int) (λq r=>(r,q)) (y1:=Y / 4294967296) (y0:=Y % 4294967296) (U:=V) (d:=E % 4294967296) l7 l7 l7 l7 hV0 l7 l7 l7
  (f:=λ(x:Int×Int)=>l9 (S9 4294967296 x.2) (l9 (S9 4294967296 (A8 .u64 x.1 (Y / 4294967296))) (some (.inr (I8 .u64 x.2 1))) (some (.inl (A8 .u64 x.1 (Y / 4294967296),I8 .u64 x.2 1)))) (l9 (F7 (A8 .u64 (aP .u64 4294967296 x.1) (E % 4294967296)) (aP .u64 x.2 (Y % 4294967296))) (l9 (S9 4294967296 (A8 .u64 x.1 (Y / 4294967296))) (some (.inr (I8 .u64 x.2 1))) (some (.inl (A8 .u64 x.1 (Y / 4294967296),I8 .u64 x.2 1)))) (some (.inr x.2))))
  (λq r _ _ _ _=>rfl)
 rw[hYe]at r4 r5;rw[Ru hV0 l7 l7,o8,hst V hV0 hVY];refine(wJ r1 _).trans ?_;rw[a6f];have hA0:(Q0+1)*Y=Q0*Y+Y:=by grind
 rw[hA0]at r5;generalize Q0*Y=A0 at*;rw[show(V*4294967296+E % 4294967296 -A0) % 18446744073709551616=V*4294967296+E % 4294967296 -A0 by omega,hshrs,o8];rw[show aP .u64 Q1 4294967296=Q1*4294967296 from Ij l7 l7,show A8 .u64 (Q1*4294967296) Q0=Q1*4294967296+Q0 from Ij l7 l7];generalize hQ:Q1*4294967296+Q0=Q at*;have hR:V*4294967296+E % 4294967296 -A0=(N -Q*y)*p:=by
  grind
 rw[hR];have hge:0<=N -Q*y:=by
  rcases SE (N -Q*y) 0 with h|h
  .have:=U9 (show N -Q*y<=-1 by omega) (show 0<=p by omega);omega
  omega
 have hlt:N -Q*y<y:=by
  rcases SE (N -Q*y) y with h|h
  .omega
  .have:=U9 h (show 0<=p by omega);omega
 have hq:N / y=Q:=by have e1:N=(N -Q*y)+Q*y:=l7;rw[e1,bU _ _ l7,oM hge hlt];omega
 have hr:N % y=N -Q*y:=by
  have:=Y8 N y
  grind
 rw[hq,hr,Int.mul_ediv_cancel _ l7]
def aV(n:Int):Int:=if n<0 then -n else n
def upS(q r d:Int)(neg:Bool)(mode:Int):Bool:=l9 (x8 r 0) false (l9 (x8 mode 0) neg (l9 (x8 mode 1) (G6 neg) (l9 (x8 mode 3) true (l9 (x8 mode 4) (S9 (d -r) r) (l9 (x8 mode 5) (l9 (F7 (d -r) r) true (l9 (x8 r (d -r)) (x8 (fC q 2) 1) false)) false)))))
def q1(q:Int)(u:Bool):Int:=l9 u (q+1) q
def sg(q:Int)(neg:Bool):Int:=l9 neg (-q) q
def rV(m:Int):Bool:=l9 (S9 0 m) (S9 m 5) false
theorem Fp(m:Int):vU m=some (rV m):=by unfold vU rV;cases S9 0 m<;>rfl
theorem Vy(m:Int):JQ m=some (rV m):=Fp m
theorem Yc(m:Int):ER m=some (rV m):=Fp m
def mZ(n m:Int):Bool:=l9 (F7 m n) true (F7 n (-m))
theorem zA(n:Int)(h0:0<=m)(h:m<=9000000000000000000):rf n m=some (mZ n m):=by unfold rf mZ;rw[U7 (by grind [iq]),show(0:Int) -m=-m by omega];cases F7 m n<;>rfl
theorem xg(n:Int)(h0:0<=m)(h:m<=9000000000000000000):lV n m=some (mZ n m):=zA n h0 h
theorem CQ(n:Int)(h0:0<=m)(h:m<=9000000000000000000):AY n m=some (mZ n m):=zA n h0 h
theorem AV(n:Int)(h0:0<=m)(h:m<=9000000000000000000):nR n m=some (mZ n m):=zA n h0 h
theorem ui(h:mZ n m=false):-m<=n/\n<=m:=by
 unfold mZ at h;cases h1:F7 m n<;>rw[h1]at h
 all_goals simp_all [jW]
theorem a8q(h:mZ n m=true):n< -m\/m<n:=by
 grind [mZ,o6,jV]
theorem UB :mZ n m=true↔n< -m\/m<n:=by
 constructor
 .exact a8q
 .intro h;cases hq:mZ n m
  .have:=ui hq;omega
  .rfl
theorem QU(h:-m<=n/\n<=m):mZ n m=false:=by
 cases hq:mZ n m
 .rfl
 .have:=a8q hq;omega
theorem EL(h:-9000000000000000000<=n)(h2:n<=9000000000000000000):ql n=some (aV n):=by
 unfold ql aV;by_cases h0:n<0
 .rw[U0 h0,o7];congr 1;show IntKind.wrap .u64 (0 -IntKind.wrap .u64 n)=_
  grind [CZ]
 grind [L6,o6,wrap,Ij]
theorem RQ(h:-9000000000000000000<=n)(h2:n<=9000000000000000000):Ef n=some (aV n):=by
 unfold Ef aV;by_cases h0:n<0
 .rw[U0 h0,if_pos h0,U7 (by grind [iq])];simp
 .rw[L6 l7,if_neg h0];rfl
variable {q:Int}
theorem a3m(neg:Bool)(h0:0<=q)(h:q<=9000000000000000000):EM q neg=some (sg q neg):=by unfold EM sg;rw[show wrap .i64 q=q from lY (by grind [iq]),U7 (by grind [iq]),show(0:Int) -q=-q by omega];cases neg<;>rfl
variable {r:Int}
theorem Yi(neg:Bool)(mode:Int)(hq:0<=q)(hq2:q<=9000000000000000000)(hr:0<=r)(hrd:r<d)(hd:d<=9000000000000000000):rW q r d neg mode=some (q1 q (upS q r d neg mode)):=by
 unfold rW upS q1;rw[show A8 .u64 q 1=q+1 from Ij l7 l7,show I8 .u64 d r=d -r from Ij l7 l7];cases x8 r 0
 case true=>rfl
 cases x8 mode 0
 case true=>cases neg<;>rfl
 cases x8 mode 1
 case true=>cases neg<;>rfl
 cases x8 mode 3
 case true=>rfl
 cases x8 mode 4
 case true=>cases S9 (d -r) r<;>rfl
 cases x8 mode 5
 .rfl
 cases F7 (d -r) r
 case true=>rfl
 cases x8 r (d -r)
 .rfl
 cases x8 (fC q 2) 1<;>rfl
theorem a7C(neg:Bool)(mode:Int)(hr:0<=r)(hrd:r<d)(hd:d<=9000000000000000000):GR q r d neg mode=some (upS q r d neg mode):=by
 unfold GR upS;rw[show I8 .u64 d r=d -r from Ij l7 l7];cases x8 r 0
 case true=>rfl
 cases x8 mode 0
 case true=>rfl
 cases x8 mode 1
 case true=>rfl
 cases x8 mode 3
 case true=>rfl
 cases x8 mode 4
 case true=>rfl
 cases x8 mode 5
 .rfl
 cases F7 (d -r) r
 case true=>rfl
 cases x8 r (d -r)<;>rfl
theorem Hg(neg:Bool)(mode:Int)(hq:0<=q)(hq2:q<=9000000000000000000)(hr:0<=r)(hrd:r<d)(hd:d<=9000000000000000000):rq q r d neg mode=some (sg (q1 q (upS q r d neg mode)) neg):=by
 unfold rq upS q1 sg;rw[U5 (by grind [iq]),U7 (by grind [iq]),U7 (by grind [iq]),U7 (by grind [iq]),show(0:Int) -(q+1)=-(q+1) by omega,show(0:Int) -q=-q by omega];by_cases hz:r=0
 .rw[L8 hz,L6 l7,aC l7,L6 l7,I4 (show r≠d -r by omega)];cases x8 mode 0<;>cases x8 mode 1<;>cases x8 mode 3<;>cases x8 mode 4<;>cases x8 mode 5<;>cases neg<;>rfl
 .rw[I4 hz,U0 l7];cases x8 mode 0
  case true=>cases neg<;>rfl
  cases x8 mode 1
  case true=>cases neg<;>rfl
  cases x8 mode 3
  case true=>cases neg<;>rfl
  cases x8 mode 4
  case true=>cases S9 (d -r) r<;>cases neg<;>rfl
  cases x8 mode 5
  .cases neg<;>rfl
  cases F7 (d -r) r
  case true=>cases neg<;>rfl
  cases x8 r (d -r)
  .cases neg<;>rfl
  cases x8 (fC q 2) 1<;>cases neg<;>rfl
theorem oG(n:Int):0<=aV n:=by grind [aV]
theorem BF(h:-m<=n/\n<=m):aV n<=m:=by grind [aV]
theorem Qc(h:n≠0):0<aV n:=by grind [aV]
def rnd(n d mode:Int):Int:=sg (q1 (aV n / aV d) (upS (aV n / aV d) (aV n % aV d) (aV d) (G6 (ji (F7 n 0) (F7 d 0))) mode)) (G6 (ji (F7 n 0) (F7 d 0)))
def a8I(n d mode:Int):Int×Int:=l9 (rV mode) (l9 (x8 d 0) (0,12) (l9 (mZ n 4611686018427387904) (0,3) (l9 (mZ d 4611686018427387904) (0,3) (rnd n d mode,0)))) (0,1)
theorem a0u(q:Int)(u:Bool):q<=q1 q u/\q1 q u<=q+1:=by unfold q1;cases u<;>simp<;>omega
theorem Kz(n d mode:Int):lD n d mode=some (a8I n d mode):=by
 unfold lD a8I;rw[Fp,o8];cases rV mode
 .rfl
 cases hd:x8 d 0
 case true=>rfl
 rw[zN]at hd;rw[zA n l7 l7,o8];cases h1:mZ n 4611686018427387904
 case true=>rfl
 rw[zA d l7 l7,o8];cases h2:mZ d 4611686018427387904
 case true=>rfl
 have b1:=ui h1;have b2:=ui h2;have a1:=oG n;have a2:=BF b1;have a3:=Qc hd;have a4:=BF b2;have e0:=af a1 (show 0<=aV d by omega);have e1:=gV (aV d) a1;have e2:=X3 (aV n) (show aV d≠0 by omega);have e3:=U6 (aV n) a3;have q:=a0u (aV n / aV d) (upS (aV n / aV d) (aV n % aV d) (aV d) (G6 (ji (F7 n 0) (F7 d 0))) mode);rw[EL l7 l7,o8,EL l7 l7,o8,Ru a1 l7 a3,o8,DX a1 a3,o8,Yi _ _ e0 l7 e2 e3 l7,o8,a3m _ l7 l7];rfl
theorem zF(ha:0<=a)(ha' :a<=9000000000000000000)(hb:0<b):tZ .i64 a b=some (a / b):=by
 unfold tZ;have h1:=af ha (show 0<=b by omega);have h2:=gV b ha
 grind [lY,iq]
theorem a4D(n d mode:Int):ES n d mode=some (a8I n d mode):=by
 unfold ES a8I;rw[Vy,o8];cases rV mode
 .rfl
 cases hd:x8 d 0
 case true=>rfl
 rw[zN]at hd;rw[xg n l7 l7,o8];cases h1:mZ n 4611686018427387904
 case true=>rfl
 rw[xg d l7 l7,o8];cases h2:mZ d 4611686018427387904
 case true=>rfl
 have b1:=ui h1;have b2:=ui h2;have a1:=oG n;have a2:=BF b1;have a3:=Qc hd;have a4:=BF b2;have e0:=af a1 (show 0<=aV d by omega);have e1:=gV (aV d) a1;have e2:=X3 (aV n) (show aV d≠0 by omega);have e3:=U6 (aV n) a3;rw[RQ l7 l7,o8,RQ l7 l7,o8,zF a1 l7 a3,o8,DX a1 a3,o8,Hg _ _ e0 l7 e2 e3 l7];rfl
def toS(c u mode:Int):Int×Int:=l9 (rV mode) (l9 (F7 u 1) (0,12) (l9 (mZ c 1000000000000000) (0,3) (l9 (F7 1000000000000000 u) (0,3) (l9 (mZ (aP .i64 (rnd c u mode) u) 1000000000000000) (0,3) (aP .i64 (rnd c u mode) u,0))))) (0,1)
theorem a9W(c u mode:Int):CJ c u mode=some (toS c u mode):=by
 unfold CJ toS;rw[Fp];cases hm:rV mode
 .rfl
 cases hu:F7 u 1
 case true=>rfl
 rw[jW]at hu;rw[zA c l7 l7];cases h1:mZ c 1000000000000000
 case true=>rfl
 have b1:=ui h1;cases h2:F7 1000000000000000 u
 case true=>rfl
 rw[jW]at h2;have n1:mZ c 4611686018427387904=false:=QU l7;have n2:mZ u 4611686018427387904=false:=QU l7;rw[Kz];unfold a8I;rw[hm,I4 (show u≠0 by omega),n1,n2];simp;rw[zA _ l7 l7];cases mZ (aP .i64 (rnd c u mode) u) 1000000000000000<;>rfl
theorem a7q(c u mode:Int):GU c u mode=some (toS c u mode):=by
 unfold GU toS;rw[Vy,o8];cases hm:rV mode
 .rfl
 cases hu:F7 u 1
 case true=>rfl
 rw[jW]at hu;rw[xg c l7 l7,o8];cases h1:mZ c 1000000000000000
 case true=>rfl
 have b1:=ui h1;cases h2:F7 1000000000000000 u
 case true=>rfl
 rw[jW]at h2;have a1:=oG c;have a2:=BF b1;have hu' :aV u=u:=by grind [aV]
 have e0:=af a1 (show 0<=u by omega);have e1:=gV u a1;have e2:=X3 (aV c) (show u≠0 by omega);have e3:=U6 (aV c) (show 0<u by omega);rw[RQ l7 l7,o8,zF a1 l7 l7,o8,DX a1 l7,o8,Hg _ _ e0 l7 e2 e3 l7,o8];have hr:sg (q1 (aV c / u) (upS (aV c / u) (aV c % u) u (F7 c 0) mode)) (F7 c 0)=rnd c u mode:=by
  grind [rnd,G6,ji,L6]
 rw[hr,xg _ l7 l7];cases mZ (aP .i64 (rnd c u mode) u) 1000000000000000<;>rfl
def mdS(c num den mode:Int):Int×Int:=l9 (rV mode) (l9 (x8 den 0) (0,12) (l9 (mZ c 1000000000000000) (0,3) (l9 (mZ num 1000000000) (0,3) (l9 (mZ den 1000000000) (0,3)
 (l9 (F7 1000000000000000 (q1 (aV c*aV num / aV den) (upS (aV c*aV num / aV den) (aV c*aV num % aV den) (aV den) (G6 (ji (G6 (ji (F7 c 0) (F7 num 0))) (F7 den 0))) mode))) (0,3)
  (sg (q1 (aV c*aV num / aV den) (upS (aV c*aV num / aV den) (aV c*aV num % aV den) (aV den) (G6 (ji (G6 (ji (F7 c 0) (F7 num 0))) (F7 den 0))) mode)) (G6 (ji (G6 (ji (F7 c 0) (F7 num 0))) (F7 den 0))),0)))))) (0,1)
theorem Vd(a0:0<=a)(a1:a<18446744073709551616)(b0:0<=b)(b1:b<18446744073709551616):xE a b=some (a*b / 18446744073709551616,a*b % 18446744073709551616):=by simp_all [xE]
theorem b3H(c num den mode:Int):II c num den mode=some (mdS c num den mode):=by
 unfold II mdS;rw[Fp];cases rV mode
 .rfl
 cases hd:x8 den 0
 case true=>rfl
 rw[zN]at hd;rw[zA c l7 l7];cases h1:mZ c 1000000000000000
 case true=>rfl
 rw[zA num l7 l7];cases h2:mZ num 1000000000
 case true=>rfl
 rw[zA den l7 l7];cases h3:mZ den 1000000000
 case true=>rfl
 have b1:=ui h1;have b2:=ui h2;have b3:=ui h3;have a1:=oG c;have a2:=BF b1;have x1:=oG num;have x2:=BF b2;have d1:=Qc hd;have d2:=BF b3;simp;rw[EL l7 l7,o8,EL l7 l7,o8,Vd a1 l7 x1 l7,o8,EL l7 l7,o8];have hA:=X5 a1 x1;generalize aV c*aV num=A at*;generalize aV den=b at*;have hre:A / 18446744073709551616*18446744073709551616+A % 18446744073709551616=A:=l7;have q:=a0u (A / b) (upS (A / b) (A % b) b (G6 (ji (G6 (ji (F7 c 0) (F7 num 0))) (F7 den 0))) mode);have e2:=X3 A (show b≠0 by omega);have e3:=U6 A d1;have e0:=af hA (show 0<=b by omega);by_cases hh:b<=A / 18446744073709551616
 .have hge:18446744073709551616<=A / b:=uU d1 l7;rw[ae hh,U0 (show(1000000000000000:Int)<q1 (A / b) (upS (A / b) (A % b) b (G6 (ji (G6 (ji (F7 c 0) (F7 num 0))) (F7 den 0))) mode) by omega)];rfl
 .rw[aC l7,ZZ l7 l7 l7 l7 l7,o8,hre];by_cases hM:1000000000000000<A / b
  .rw[U0 hM,U0 (show(1000000000000000:Int)<q1 (A / b) (upS (A / b) (A % b) b (G6 (ji (G6 (ji (F7 c 0) (F7 num 0))) (F7 den 0))) mode) by omega)];rfl
  .rw[L6 l7,Yi _ _ e0 l7 e2 e3 l7,o8];cases hq:F7 1000000000000000 (q1 (A / b) (upS (A / b) (A % b) b (G6 (ji (G6 (ji (F7 c 0) (F7 num 0))) (F7 den 0))) mode))
   .rw[a3m _ l7 l7];rfl
   .rfl
theorem b5h(h:0<=q)(neg:Bool)(hm:0<=m):mZ (sg q neg) m=F7 m q:=by rw[Bool.eq_iff_iff,UB,jV];unfold sg;cases neg<;>simp<;>omega
theorem a9K(c num den mode:Int):NY c num den mode=some (mdS c num den mode):=by
 unfold NY mdS;rw[Vy,o8];cases rV mode
 .rfl
 simp;cases hd:x8 den 0
 case true=>rfl
 rw[zN]at hd;simp only[o6];rw[xg c l7 l7,o8];cases h1:mZ c 1000000000000000
 case true=>rfl
 rw[xg num l7 l7];cases h2:mZ num 1000000000
 case true=>rfl
 rw[xg den l7 l7];cases h3:mZ den 1000000000
 case true=>rfl
 have b1:=ui h1;have b2:=ui h2;have b3:=ui h3;have a1:=oG c;have a2:=BF b1;have x1:=oG num;have x2:=BF b2;have d1:=Qc hd;have d2:=BF b3;simp;rw[RQ l7 l7,o8,RQ l7 l7,o8,RQ l7 l7,o8];generalize G6 (ji (G6 (ji (F7 c 0) (F7 num 0))) (F7 den 0))=neg;generalize aV c=a at*;generalize aV num=x at*;generalize aV den=b at*;have hdm:=Y8 a b;have f0:=af a1 (show 0<=b by omega);have f1:=X3 a (show b≠0 by omega);have f2:=U6 a d1;have m1:0<=a % b*x:=X5 f1 x1;have m2:a % b*x<=1000000000*1000000000:=mg l7 x2 x1 l7;have m3:0<=a / b*x:=X5 f0 x1;have hA:a*x=a / b*x*b+a % b*x:=by
  grind
 have hQ:a*x / b=a / b*x+a % b*x / b:=by rw[hA,Int.add_comm,bU _ _ l7,Int.add_comm]
 have hR:a*x % b=a % b*x % b:=by simp_all
 have g0:=af m1 (show 0<=b by omega);have g1:=gV b m1;have g2:=X3 (a % b*x) (show b≠0 by omega);have g3:=U6 (a % b*x) d1;have tail:a / b*x<=1000000000000000->(o5 (BQ a b) λ(x_5:Int)=>o5 (some (a / b)) λ(x_8:Int)=>o5 (tZ .i64 (aP .i64 x_5 x) b) λ(x_6:Int)=>o5 (BQ (aP .i64 x_5 x) b) λ(x_7:Int)=>
   o5 (rq (A8 .i64 (aP .i64 x_8 x) x_6) x_7 b neg mode) λ(x_9:Int)=>o5 (lV x_9 1000000000000000) λ(x_8:Bool)=>l9 x_8 (some ((0:Int),(3:Int))) (some (x_9,0)))=
   some (l9 (F7 1000000000000000 (q1 (a*x / b) (upS (a*x / b) (a*x % b) b neg mode))) (0,3) (sg (q1 (a*x / b) (upS (a*x / b) (a*x % b) b neg mode)) neg,0)):=by
  intro hle;have q:=a0u (a / b*x+a % b*x / b) (upS (a / b*x+a % b*x / b) (a % b*x % b) b neg mode);rw[DX a1 d1,o8,o8,oH (show iq (a % b*x) by grind [iq]),zF m1 l7 d1,o8,DX m1 d1,o8,oH (show iq (a / b*x) by grind [iq]),U5 (by grind [iq]),
   Hg _ _ l7 l7 g2 g3 l7,o8,xg _ l7 l7,o8,b5h l7 _ l7,hQ,hR]
  cases F7 1000000000000000 (q1 (a / b*x+a % b*x / b) (upS (a / b*x+a % b*x / b) (a % b*x % b) b neg mode))<;>rfl
 by_cases hx:0<x
 .rw[U0 hx,o7,zF a1 l7 d1,o8,zF l7 l7 hx,o8];have hMx:=Y8 1000000000000000 x;have hMr:=U6 1000000000000000 hx;by_cases hc:1000000000000000 / x<a / b
  .have:=U9 (show 1000000000000000 / x+1<=a / b by omega) x1;rw[Int.add_mul,iE]at this;have q:=a0u (a*x / b) (upS (a*x / b) (a*x % b) b neg mode);rw[U0 hc,U0 l7];rfl
  .have:=U9 (show a / b<=1000000000000000 / x by omega) x1
   grind [L6,o6]
 grind [L6,o6,zF]
theorem b5a(c r mode:Int):JP c r mode=some (mdS c r 1000000 mode):=by simp[JP,b3H]
theorem b4i(c r mode:Int):KQ c r mode=some (mdS c r 1000000 mode):=by simp[KQ,a9K]
theorem a6p(h1:-9000000000000000000<=n)(h2:n<=9000000000000000000)(hd:0<d)(hd2:d<=9000000000000000000):Eg n d=some (n / d,n % d):=by
 unfold Eg tZ BQ;rw[if_neg l7,if_neg l7,o8,o8];by_cases h0:0<=n
 .have e0:=af h0 (show 0<=d by omega);have e1:=gV d h0;have e2:=X3 n (show d≠0 by omega);rw[jw h0,ig h0,lY (by grind [iq]),L6 e2];rfl
 .obtain⟨m,hm⟩:∃m,m=-n:=⟨_,rfl⟩;have hn:n=-m:=l7;subst hn;have e0:=af (show 0<=m by omega) (show 0<=d by omega);have e1:=gV d (show 0<=m by omega);have e2:=X3 m (show d≠0 by omega);have e3:=U6 m hd;have hdm:=Y8 m d;rw[Int.neg_tdiv,Int.neg_tmod,ig l7,lY (by grind [iq])];by_cases hz:m % d=0
  .rw[hz,show -(0:Int)=0 from rfl,L6 l7,o6];have hme:-m=0+(-(m / d))*d:=by grind
   have q1:-m / d=-(m / d):=by rw[hme,bU _ _ l7];simp
   have q2:-m % d=0:=by rw[hme];simp
   grind
  .rw[U0 l7,o7,U7 (by grind [iq]),U5 (by grind [iq])];have hme:-m=(d -m % d)+(-(m / d) -1)*d:=by grind
   have q1:-m / d=-(m / d) -1:=by rw[hme,bU _ _ l7,oM l7 l7];omega
   have q2:-m % d=d -m % d:=by rw[hme,dY,Int.emod_eq_of_lt l7 l7]
   grind
theorem KI(h:rV m=true):m=0\/m=1\/m=2\/m=3\/m=4\/m=5:=by
 unfold rV at h;cases h0:S9 0 m<;>rw[h0]at h
 .cases h
 grind [o7,pF]
variable {mode:Int}
theorem KW(h1:-9000000000000000000<=n / d)(h2:n / d<=9000000000000000000)(hd:0<d)(hd2:d<=9000000000000000000)(hm:rV mode=true):fU (n / d) (n % d) d mode=some (rnd n d mode):=by
 have hdm:=Y8 n d;have f0:=X3 n (show d≠0 by omega);have f1:=U6 n hd;have hid:aV d=d:=by grind [aV]
 have hneg:G6 (ji (F7 n 0) (F7 d 0))=F7 n 0:=by rw[L6 (show(0:Int)<=d by omega)];cases F7 n 0<;>rfl
 unfold rnd;rw[hid,hneg];have R0:∀F R:Int,fU F R d 0=l9 (x8 R 0) (some F) (some F):=λF R=>rfl;have R1:∀F R:Int,fU F R d 1=l9 (x8 R 0) (some F) (some (A8 .i64 F 1)):=λF R=>rfl;have R2:∀F R:Int,fU F R d 2=l9 (x8 R 0) (some F) (o5 (l9 (F7 F 0) (some true) (some false)) λx=>l9 x (some (A8 .i64 F 1)) (some F)):=λF R=>rfl;have R3:∀F R:Int,fU F R d 3=l9 (x8 R 0) (some F) (o5 (some (S9 0 F)) λx=>l9 x (some (A8 .i64 F 1)) (some F)):=λF R=>rfl;have R4:∀F R:Int,fU F R d 4=l9 (x8 R 0) (some F) (l9 (x8 R (I8 .i64 d R)) (l9 (S9 0 F) (some (A8 .i64 F 1)) (some F)) (l9 (F7 (I8 .i64 d R) R) (some (A8 .i64 F 1)) (some F))):=λF R=>rfl;have R5:∀F R:Int,fU F R d 5=l9 (x8 R 0) (some F) (l9 (x8 R (I8 .i64 d R)) (l9 (G6 (x8 (fC F 2) 0)) (some (A8 .i64 F 1)) (some F)) (l9 (F7 (I8 .i64 d R) R) (some (A8 .i64 F 1)) (some F))):=λF R=>rfl;have u0:∀q r:Int,∀b,upS q r d b 0=l9 (x8 r 0) false b:=λq r b=>rfl;have u1:∀q r:Int,∀b,upS q r d b 1=l9 (x8 r 0) false (G6 b):=λq r b=>rfl;have u2:∀q r:Int,∀b,upS q r d b 2=l9 (x8 r 0) false false:=λq r b=>rfl;have u3:∀q r:Int,∀b,upS q r d b 3=l9 (x8 r 0) false true:=λq r b=>rfl;have u4:∀q r:Int,∀b,upS q r d b 4=l9 (x8 r 0) false (S9 (d -r) r):=λq r b=>rfl;have u5:∀q r:Int,∀b,upS q r d b 5=l9 (x8 r 0) false (l9 (F7 (d -r) r) true (l9 (x8 r (d -r)) (x8 (fC q 2) 1) false)):=λq r b=>rfl;by_cases h0:0<=n
 .have e0:=af h0 (show 0<=d by omega);have e1:=gV d h0;rw[show aV n=n by grind [aV],L6 h0];have hi:A8 .i64 (n / d) 1=n / d+1:=U5 (by grind [iq]);have hs:I8 .i64 d (n % d)=d -n % d:=U7 (by grind [iq]);have hir:fC (n / d) 2=(n / d) % 2:=zq e0;generalize n / d=F at*;generalize n % d=R at*;rcases KI hm with rfl|rfl|rfl|rfl|rfl|rfl
  .rw[R0,u0];cases x8 R 0<;>rfl
  .rw[R1,u1,hi];cases x8 R 0<;>rfl
  .rw[R2,u2,hi,L6 e0];cases x8 R 0<;>rfl
  .rw[R3,u3,hi,ae e0];cases x8 R 0<;>rfl
  .rw[R4,u4,hi,hs,ae e0];cases x8 R 0
   case true=>rfl
   by_cases ht:R=d -R
   .rw[L8 ht,ae (show d -R<=R by omega)];rfl
   .rw[I4 ht];by_cases hl:d -R<R
    .rw[U0 hl,ae (show d -R<=R by omega)];rfl
    .rw[L6 (show R<=d -R by omega),aC (show R<d -R by omega)];rfl
  .rw[R5,u5,hi,hs,hir];cases x8 R 0
   case true=>rfl
   by_cases ht:R=d -R
   .rw[L8 ht,L6 (show R<=d -R by omega)];by_cases hp:F % 2=0
    .rw[L8 hp,I4 (show F % 2≠1 by omega)];rfl
    .rw[I4 hp,L8 (show F % 2=1 by omega)];rfl
   .rw[I4 ht];by_cases hl:d -R<R
    .rw[U0 hl];rfl
    .rw[L6 (show R<=d -R by omega)];rfl
 .obtain⟨m,hmm⟩:∃m,m=-n:=⟨_,rfl⟩;have e0:=af (show 0<=m by omega) (show 0<=d by omega);have e1:=gV d (show 0<=m by omega);have e2:=X3 m (show d≠0 by omega);have e3:=U6 m hd;have hdm2:=Y8 m d;rw[show aV n=m by simp_all [aV],U0 l7];by_cases hz:m % d=0
  .have hne:n=0+(-(m / d))*d:=by grind
   have q1:n / d=-(m / d):=by rw[hne,bU _ _ l7];simp
   have q2:n % d=0:=by grind
   rw[q1,q2,hz];rcases KI hm with rfl|rfl|rfl|rfl|rfl|rfl<;>rfl
  .have hne:n=(d -m % d)+(-(m / d) -1)*d:=by grind
   have q1:n / d=-(m / d) -1:=by rw[hne,bU _ _ l7,oM l7 l7];omega
   have q2:n % d=d -m % d:=by
    grind
   rw[q1]at h1 h2;rw[q1,q2];generalize m / d=q at*;generalize m % d=r at*;have hi:A8 .i64 (-q -1) 1=-q:=by grind [U5,iq]
   have hs:I8 .i64 d (d -r)=r:=by grind [U7,iq]
   have hF:∀k:Int,Go.GP.q1 q false=q/\Go.GP.q1 q true=q+1:=λk=>⟨rfl,rfl⟩;have sg1:sg (Go.GP.q1 q true) true=-q -1:=by show -(q+1)=-q -1;omega
   have sg0:sg (Go.GP.q1 q false) true=-q:=rfl;have hr0:x8 (d -r) 0=false:=I4 l7;have hr1:x8 r 0=false:=I4 hz;rcases KI hm with rfl|rfl|rfl|rfl|rfl|rfl
   .simp_all
   .simp_all
   .rw[R2,u2,hi,hr0,hr1,o6,o6,sg0,U0 l7];rfl
   .rw[R3,u3,hi,hr0,hr1,o6,o6,sg1,aC l7];rfl
   .rw[R4,u4,hi,hs,hr0,hr1,o6,o6,aC (show -q -1<0 by omega)];by_cases ht:d -r=r
    .simp_all [L8,ae]
    .rw[I4 ht];by_cases hl:r<d -r<;>simp_all [U0,aC,L6,ae]
   .rw[R5,u5,hi,hs,hr0,hr1,o6,o6];by_cases ht:d -r=r
    .rw[L8 ht,L6 (show r<=d -r by omega),L8 ht.symm];have hodd:fC (-q -1) 2=-((q+1) % 2):=by
      grind [fC]
     have hir:fC q 2=q % 2:=zq e0;rw[hodd,hir];simp only[o7,o6];by_cases hp:q % 2=1
     .rw[L8 (show -((q+1) % 2)=0 by omega),L8 hp,sg1];rfl
     .rw[I4 (show -((q+1) % 2)≠0 by omega),I4 hp,sg0];rfl
    grind [I4,U0,L6,o7,o6]
def b2s(a b mode:Int):Int×Int:=l9 (rV mode) (l9 (mZ a 1000000000) (0,3) (l9 (mZ b 1000000000) (0,3) (l9 (mZ (rnd (a*b) 1000000 mode) 1000000000) (0,3) (rnd (a*b) 1000000 mode,0)))) (0,1)
theorem b2h{a b A B:Int}(h1:-A<=a/\a<=A)(h2:-B<=b/\b<=B):-(A*B)<=a*b/\a*b<=A*B:=by
 have hA:0<=A:=l7;have k1:a*b<=A*B/\-(A*B)<=a*b:=by
  rcases SE a 0 with ha|ha
  .have e:a*b=-((-a)*b):=by grind
   rcases SE b 0 with hb|hb
   .have e2:a*b=(-a)*(-b):=by grind
    have:=mg (show -a<=A by omega) (show -b<=B by omega) l7 hA;have:=X5 (show 0<=-a by omega) (show 0<=-b by omega);omega
   .have:=mg (show -a<=A by omega) h2.2 hb hA;have:=X5 (show 0<=-a by omega) hb;omega
  .rcases SE b 0 with hb|hb
   .have e:a*b=-(a*(-b)):=by grind
    have:=mg h1.2 (show -b<=B by omega) l7 hA;have:=X5 ha (show 0<=-b by omega);omega
   .have:=mg h1.2 h2.2 hb hA;have:=X5 ha hb;omega
 omega
theorem c1i(a b mode:Int):Qw a b mode=some (b2s a b mode):=by
 unfold Qw b2s;rw[Yc];cases hm:rV mode
 .rfl
 rw[CQ a l7 l7];cases h1:mZ a 1000000000
 case true=>rfl
 rw[CQ b l7 l7];cases h2:mZ b 1000000000
 case true=>rfl
 have pb:=b2h (ui h1) (ui h2);rw[oH (by grind [iq]),Kz];unfold a8I;rw[hm,I4 (show(1000000:Int)≠0 by decide),QU l7,QU l7];simp;rw[CQ _ l7 l7];cases mZ (rnd (a*b) 1000000 mode) 1000000000<;>rfl
theorem a6N{A B:Option (PUnit⊕(Int×Int))} :l9 (F7 m 0) A (l9 (F7 5 m) A B)=l9 (rV m) B A:=by unfold rV;rw[wu m 0,wu 5 m];cases S9 0 m<;>cases S9 m 5<;>rfl
theorem b7u(a b mode:Int):RS a b mode=some (b2s a b mode):=by
 unfold RS b2s;have hmode:∀A B:Option (Int×Int),l9 (F7 mode 0) A (l9 (F7 5 mode) A B)=l9 (rV mode) B A:=λA B=>by unfold rV;rw[wu mode 0,wu 5 mode];cases S9 0 mode<;>cases S9 mode 5<;>rfl
 rw[hmode];cases hm:rV mode
 .rfl
 rw[AV a l7 l7,o8];cases h1:mZ a 1000000000
 case true=>rfl
 rw[AV b l7 l7,o8];cases h2:mZ b 1000000000
 case true=>rfl
 have pb:=b2h (ui h1) (ui h2);rw[oH (by grind [iq]),a6p l7 l7 l7 l7,o8];rw[KW l7 l7 l7 l7 hm,o8,AV _ l7 l7];cases mZ (rnd (a*b) 1000000 mode) 1000000000<;>rfl
theorem a9S(mode:Int)(hd:0<d):n / d<=rnd n d mode/\rnd n d mode<=n / d+1:=by
 have hid:aV d=d:=by grind [aV]
 have hneg:G6 (ji (F7 n 0) (F7 d 0))=F7 n 0:=by rw[L6 (show(0:Int)<=d by omega)];cases F7 n 0<;>rfl
 unfold rnd;rw[hid,hneg];by_cases h0:0<=n
 .rw[show aV n=n by grind [aV],L6 h0];exact a0u _ _
 .obtain⟨m,hmm⟩:∃m,m=-n:=⟨_,rfl⟩;have e2:=X3 m (show d≠0 by omega);have e3:=U6 m hd;have hdm2:=Y8 m d;rw[show aV n=m by simp_all [aV],U0 l7];have hq:=a0u (m / d) (upS (m / d) (m % d) d true mode);by_cases hz:m % d=0
  .have hne:n=0+(-(m / d))*d:=by grind
   have q1:n / d=-(m / d):=by rw[hne,bU _ _ l7];simp
   have hu:upS (m / d) (m % d) d true mode=false:=by unfold upS;rw[L8 hz];rfl
   rw[q1,hu];show -(m / d)<=-(m / d)/\-(m / d)<=-(m / d)+1;omega
  .have hne:n=(d -m % d)+(-(m / d) -1)*d:=by grind
   have q1:n / d=-(m / d) -1:=by rw[hne,bU _ _ l7,oM l7 l7];omega
   rw[q1];show -(m / d) -1<=-(Go.GP.q1 _ _)/\-(Go.GP.q1 _ _)<=_;omega
theorem c1k(n d mode:Int)(hd:d<0):rnd n d mode=rnd (-n) (-d) mode:=by
 have e1:aV (-n)=aV n:=by grind [aV]
 have e2:aV (-d)=aV d:=by grind [aV]
 unfold rnd;rw[e1,e2,U0 hd,L6 (show 0<=-d by omega)];by_cases h0:n=0
 .subst h0;have hz:aV 0=0:=rfl;rw[hz,Int.zero_ediv];have hu:∀b,upS 0 0 (aV d) b mode=false:=λb=>rfl;rfl
 .by_cases h1:n<0
  .rw[U0 h1,L6 l7];rfl
  .rw[L6 l7,U0 l7];rfl
def c0Y(num den mode:Int):Int×Int:=l9 (rV mode) (l9 (x8 den 0) (0,12) (l9 (mZ num 1000000000000000) (0,3) (l9 (mZ den 1000000000000000) (0,3) (l9 (mZ (rnd (num*1000000) den mode) 1000000000) (0,3) (rnd (num*1000000) den mode,0))))) (0,1)
theorem UQ(h:-9000000000000000000<=n)(h2:n<=9000000000000000000):wrap .u64 (qX n (I8 .i64 0 n))=aV n:=by
 rw[U7 (by grind [iq])];unfold qX aV;by_cases h0:n<0
 .rw[if_pos l7,if_pos h0,show(0:Int) -n=-n by omega];exact Ij l7 l7
 .rw[if_neg h0];by_cases hz:n=0
  .subst hz;rfl
  .rw[if_neg l7];exact Ij l7 l7
theorem a4b(num den mode:Int):AX num den mode=some (c0Y num den mode):=by
 unfold AX c0Y;rw[Yc,o8];cases hm:rV mode
 .rfl
 cases hd:x8 den 0
 case true=>rfl
 rw[zN]at hd;rw[CQ num l7 l7,o8];cases h1:mZ num 1000000000000000
 case true=>rfl
 rw[CQ den l7 l7,o8];cases h2:mZ den 1000000000000000
 case true=>rfl
 have b1:=ui h1;have b2:=ui h2;have a1:=oG num;have a2:=BF b1;have d1:=Qc hd;have d2:=BF b2;rw[UQ l7 l7,UQ l7 l7,Vd a1 l7 l7 l7,o8];have hN:aV (num*1000000)=aV num*1000000:=by grind [aV]
 have hsgn:F7 (num*1000000) 0=F7 num 0:=by
  grind [U0,L6]
 have hA:0<=aV num*1000000:=l7;have hrn:rnd (num*1000000) den mode=sg (q1 (aV num*1000000 / aV den) (upS (aV num*1000000 / aV den) (aV num*1000000 % aV den) (aV den) (G6 (ji (F7 num 0) (F7 den 0))) mode)) (G6 (ji (F7 num 0) (F7 den 0))):=by simp_all [rnd]
 rw[hrn];generalize aV num*1000000=A at*;generalize aV den=b at*;generalize G6 (ji (F7 num 0) (F7 den 0))=neg at*;have hre:A / 18446744073709551616*18446744073709551616+A % 18446744073709551616=A:=l7;have q:=a0u (A / b) (upS (A / b) (A % b) b neg mode);have e0:=af hA (show 0<=b by omega);have e2:=X3 A (show b≠0 by omega);have e3:=U6 A d1;rw[b5h l7 _ l7];by_cases hh:b<=A / 18446744073709551616
 .have hge:18446744073709551616<=A / b:=uU d1 l7;rw[ae hh,U0 l7];rfl
 .rw[aC l7,ZZ l7 l7 l7 l7 l7,o8,hre];by_cases hM:1000000000<A / b
  .rw[U0 hM,U0 (show(1000000000:Int)<q1 (A / b) (upS (A / b) (A % b) b neg mode) by omega)];rfl
  .have w1:wrap .i64 (A / b)=A / b:=lY (by grind [iq]);have w2:A8 .i64 (A / b) 1=A / b+1:=U5 (by grind [iq]);have w3:I8 .i64 0 (A / b+1)=-(A / b+1):=by grind [U7,iq]
   have w4:I8 .i64 0 (A / b)=-(A / b):=by grind [U7,iq]
   rw[L6 l7,a7C _ _ e2 e3 l7,w1,w2,w3,w4];unfold Go.GP.q1 sg;cases upS (A / b) (A % b) b neg mode
   .simp;cases F7 1000000000 (A / b)<;>cases neg<;>rfl
   .simp;cases F7 1000000000 (A / b+1)<;>cases neg<;>rfl
theorem a0w(h1:-1000000000000000<=n)(h2:n<=1000000000000000)(hd:0<d)(hd2:d<=1000000000000000)(hm:rV mode=true):
  (o5 (Eg n d) λ(x:Int×Int)=>o5 (nR x.1 1001) λ(x_1:Bool)=>l9 x_1 (some ((0:Int),(3:Int))) (o5 (tZ .i64 (aP .i64 x.2 1000) d) λ(x_2:Int)=>o5 (BQ (aP .i64 x.2 1000) d) λ(x_3:Int)=>
   o5 (tZ .i64 (aP .i64 x_3 1000) d) λ(x_4:Int)=>o5 (BQ (aP .i64 x_3 1000) d) λ(x_5:Int)=>o5 (fU (A8 .i64 (A8 .i64 (aP .i64 x.1 1000000) (aP .i64 x_2 1000)) x_4) x_5 d mode) λ(x:Int)=>
    o5 (nR x 1000000000) λ(x_6:Bool)=>l9 x_6 (some (0,3)) (some (x,0))))=some (l9 (mZ (rnd (n*1000000) d mode) 1000000000) (0,3) (rnd (n*1000000) d mode,0)):=by
 have hdm:=Y8 n d;have r0:=X3 n (show d≠0 by omega);have r1:=U6 n hd;have hrb:=a9S (n:=n*1000000) mode hd;rw[a6p l7 l7 hd l7,o8];simp only;rw[AV _ l7 l7,o8];have hN:n*1000000=n % d*1000000+(n / d*1000000)*d:=by rw[Int.mul_right_comm];omega
 have hF:n*1000000 / d=n % d*1000000 / d+n / d*1000000:=by rw[hN,bU _ _ l7]
 have hR:n*1000000 % d=n % d*1000000 % d:=by rw[hN,dY]
 have s0:0<=n % d*1000000 / d:=af l7 l7;have s1:n % d*1000000 / d<1000000:=pI hd l7;cases hb:mZ (n / d) 1001
 case true=>have hbb:=a8q hb;have:mZ (rnd (n*1000000) d mode) 1000000000=true:=UB.2 l7;rw[this];rfl
 have bb:=ui hb;simp only[o6];generalize n % d=r at*;generalize n / d=q at*;have t1:aP .i64 r 1000=r*1000:=oH O6;have e1:=Y8 (r*1000) d;have e2:=X3 (r*1000) (show d≠0 by omega);have e3:=U6 (r*1000) hd;have e4:=af (show 0<=r*1000 by omega) (show 0<=d by omega);have e5:r*1000 / d<1000:=pI hd l7;rw[t1,zF l7 l7 hd,o8,DX l7 hd,o8];generalize hr1:r*1000 % d=r1 at*;generalize ha:r*1000 / d=a at*;have t2:aP .i64 r1 1000=r1*1000:=oH O6;have f1:=Y8 (r1*1000) d;have f2:=X3 (r1*1000) (show d≠0 by omega);have f3:=U6 (r1*1000) hd;have f4:=af (show 0<=r1*1000 by omega) (show 0<=d by omega);have f5:r1*1000 / d<1000:=pI hd l7;rw[t2,zF l7 l7 hd,o8,DX l7 hd,o8];have hr6:r*1000000=r1*1000+(a*1000)*d:=by rw[Int.mul_right_comm];omega
 have hF2:r*1000000 / d=r1*1000 / d+a*1000:=by rw[hr6,bU _ _ l7]
 have hR2:r*1000000 % d=r1*1000 % d:=by rw[hr6,dY]
 rw[oH (show iq (q*1000000) by unfold iq;omega),oH (show iq (a*1000) by unfold iq;omega),U5 (show iq (q*1000000+a*1000) by unfold iq;omega),U5 (show iq (q*1000000+a*1000+r1*1000 / d) by unfold iq;omega)];rw[show q*1000000+a*1000+r1*1000 / d=n*1000000 / d by rw[hF,hF2];omega,show r1*1000 % d=n*1000000 % d by rw[hR,hR2]];rw[KW (by rw[hF];omega) (by rw[hF];omega) hd l7 hm,o8,AV _ l7 l7,o8];cases mZ (rnd (n*1000000) d mode) 1000000000<;>rfl
theorem a1E(num den mode:Int):Du num den mode=some (c0Y num den mode):=by
 unfold Du c0Y;rw[a6N];cases hm:rV mode
 .rfl
 cases hd:x8 den 0
 case true=>rfl
 rw[zN]at hd;rw[AV num l7 l7];cases h1:mZ num 1000000000000000
 case true=>rfl
 rw[AV den l7 l7];cases h2:mZ den 1000000000000000
 case true=>rfl
 have b1:=ui h1;have b2:=ui h2;by_cases hn:den<0
 .rw[U0 hn,U7 (by grind [iq]),U7 (by grind [iq]),show(0:Int) -num=-num by omega,show(0:Int) -den=-den by omega,c1k _ _ _ hn,show -(num*1000000)=-num*1000000 by omega];exact a0w l7 l7 l7 l7 hm
 .rw[L6 l7];exact a0w l7 l7 l7 l7 hm
def GX(len n:Int):Int×Int×Bool:=l9 (F7 1000000000000000 (len*aV n / 1000000)) (0,0,false) (l9 (F7 n 0) (-(len*aV n / 1000000),-(len*aV n % 1000000),true) (len*aV n / 1000000,len*aV n % 1000000,true))
variable {len:Int}
theorem c0f(h1:1<=len)(h2:len<=1000000000000000)(hn:iq n):yY len n=some (GX len n):=by
 unfold iq at hn;have key:∀m,m=aV n->(o5 (xE (wrap .u64 len) m) λ(x:Int×Int)=>l9 (S9 1000000 x.1) (some ((0:Int),(0:Int),false)) (o5 (qj x.1 x.2 1000000) λ(x:Int×Int)=>l9 (F7 1000000000000000 x.1) (some (0,0,false))
   (l9 (F7 n 0) (some (I8 .i64 0 (wrap .i64 x.1),I8 .i64 0 (wrap .i64 x.2),true)) (some (wrap .i64 x.1,wrap .i64 x.2,true)))))=some (GX len n):=by
  intro m hm;have m0:=oG n;have m1:m<=9223372036854775808:=by grind [aV]
  rw[←hm]at m0;rw[show wrap .u64 len=len from Ij l7 l7,Vd l7 l7 m0 l7,o8];unfold GX;rw[←hm];have hA:0<=len*m:=X5 l7 m0;generalize len*m=A at*;have hre:A / 18446744073709551616*18446744073709551616+A % 18446744073709551616=A:=l7;by_cases hh:1000000<=A / 18446744073709551616
  .rw[ae hh,U0 (show(1000000000000000:Int)<A / 1000000 by omega)];rfl
  .rw[aC l7,ZZ l7 l7 l7 l7 l7,o8,hre];by_cases hM:1000000000000000<A / 1000000
   .rw[U0 hM];rfl
   .rw[L6 l7,show wrap .i64 (A / 1000000)=A / 1000000 from lY (by grind [iq]),show wrap .i64 (A % 1000000)=A % 1000000 from lY (by grind [iq]),U7 (by grind [iq]),U7 (by grind [iq]),
     show(0:Int) -A / 1000000=-(A / 1000000) by omega,show(0:Int) -A % 1000000=-(A % 1000000) by omega]
    cases F7 n 0<;>rfl
 unfold yY;by_cases h0:n<0
 .have hk:=key (I8 .u64 0 (wrap .u64 n)) (by
   show IntKind.wrap .u64 (0 -IntKind.wrap .u64 n)=_
   grind [aV,CZ])
  simp_all [U0]
 .have hk:=key (wrap .u64 n) (by
   show IntKind.wrap .u64 n=_
   grind [aV,CZ])
  simp_all [L6]
theorem b7r(h1:1<=len)(h2:len<=1000000000000000)(hn:iq n):DI len n=some (GX len n):=by
 unfold iq at hn;have hm:(l9 (F7 n 0) (some (A8 .u64 (wrap .u64 (I8 .i64 0 (A8 .i64 n 1))) 1)) (some (wrap .u64 n)))=some (aV n):=by
  grind [U0,o7,U5,iq,U7,wrap,Ij,A8,aV,L6,o6]
 have m0:=oG n;have m1:aV n<=9223372036854775808:=by grind [aV]
 unfold DI GX;rw[hm,o8];generalize aV n=m at*;have c1:eH .u64 m 1000000=m / 1000000:=by grind [eH,Ij]
 have c2:fC m 1000000=m % 1000000:=zq m0;have c3:wrap .i64 (m / 1000000)=m / 1000000:=lY (by grind [iq]);have c4:wrap .i64 (m % 1000000)=m % 1000000:=lY (by grind [iq]);have c5:eH .i64 len 1000000=len / 1000000:=by rw[zo (by grind [iq]),jw l7]
 have c6:fC len 1000000=len % 1000000:=zq l7;rw[c1,c3,c5];have b0:0<=m % 1000000:=l7;have a0:0<=m / 1000000:=l7;have hA:len*m=(len*(m / 1000000)+len / 1000000*(m % 1000000))*1000000+len % 1000000*(m % 1000000):=by
  grind
 have l0:0<=len % 1000000*(m % 1000000):=X5 l7 b0;have l1:len % 1000000*(m % 1000000)<=1000000*1000000:=mg l7 l7 b0 l7;have p0:0<=len / 1000000*(m % 1000000):=X5 l7 b0;have p1:len / 1000000*(m % 1000000)<=1000000000*1000000:=mg l7 l7 b0 l7;have k0:0<=len*(m / 1000000):=X5 l7 a0;have c7:aP .i64 (len % 1000000) (m % 1000000)=len % 1000000*(m % 1000000):=oH (by grind [iq]);have c8:aP .i64 (len / 1000000) (m % 1000000)=len / 1000000*(m % 1000000):=oH (by grind [iq]);have hdiv:len*m / 1000000=len*(m / 1000000)+len / 1000000*(m % 1000000)+len % 1000000*(m % 1000000) / 1000000:=l7;have hmod:len*m % 1000000=len % 1000000*(m % 1000000) % 1000000:=l7;rw[hdiv];have c9:eH .i64 (len % 1000000*(m % 1000000)) 1000000=len % 1000000*(m % 1000000) / 1000000:=by rw[zo (by grind [iq]),jw l0]
 have c10:fC (len % 1000000*(m % 1000000)) 1000000=len % 1000000*(m % 1000000) % 1000000:=zq l0;have tail:len*(m / 1000000)<=1000000000000000->l9 (F7 1000000000000000 (A8 .i64 (A8 .i64 (aP .i64 len (m / 1000000)) (len / 1000000*(m % 1000000))) (len % 1000000*(m % 1000000) / 1000000))) (some ((0:Int),(0:Int),false))
   (l9 (F7 n 0) (some (I8 .i64 0 (A8 .i64 (A8 .i64 (aP .i64 len (m / 1000000)) (len / 1000000*(m % 1000000))) (len % 1000000*(m % 1000000) / 1000000)),I8 .i64 0 (len % 1000000*(m % 1000000) % 1000000),true)) (some (A8 .i64 (A8 .i64 (aP .i64 len (m / 1000000)) (len / 1000000*(m % 1000000))) (len % 1000000*(m % 1000000) / 1000000),len % 1000000*(m % 1000000) % 1000000,true)))=
   some (l9 (F7 1000000000000000 (len*(m / 1000000)+len / 1000000*(m % 1000000)+len % 1000000*(m % 1000000) / 1000000)) (0,0,false) (l9 (F7 n 0) (-(len*(m / 1000000)+len / 1000000*(m % 1000000)+len % 1000000*(m % 1000000) / 1000000),-(len % 1000000*(m % 1000000) % 1000000),true) (len*(m / 1000000)+len / 1000000*(m % 1000000)+len % 1000000*(m % 1000000) / 1000000,len % 1000000*(m % 1000000) % 1000000,true))):=by
  intro hle;rw[oH (by grind [iq])];generalize len*(m / 1000000)=K at*;generalize len / 1000000*(m % 1000000)=P at*;generalize len % 1000000*(m % 1000000)=L at*;rw[U5 (show iq (K+P) by grind [iq]),U5 (by grind [iq]),U7 (by grind [iq]),U7 (by grind [iq]),show(0:Int) -(K+P+L / 1000000)=-(K+P+L / 1000000) by omega,show(0:Int) -L % 1000000=-(L % 1000000) by omega];cases F7 1000000000000000 (K+P+L / 1000000)<;>cases F7 n 0<;>rfl
 by_cases ha:0<m / 1000000
 .rw[U0 ha,o7,zF l7 l7 ha,o8];have hMx:=Y8 1000000000000000 (m / 1000000);have hMr:=U6 1000000000000000 ha;by_cases hc:1000000000000000 / (m / 1000000)<len
  .have:=U9 (show 1000000000000000 / (m / 1000000)+1<=len by omega) a0;rw[Int.add_mul]at this;rw[U0 hc,U0 (show(1000000000000000:Int)<len*(m / 1000000)+len / 1000000*(m % 1000000)+len % 1000000*(m % 1000000) / 1000000 by omega)];rfl
  .have:=U9 (show len<=1000000000000000 / (m / 1000000) by omega) a0
   grind [L6,o6]
 grind [L6,o6]
theorem a0I{F R j:Int}(hm:rV mode=true)(h1:-4000000000000000000<=F)(h2:F<=4000000000000000000)(h3:-2000000000000000000<=j)(h4:j<=2000000000000000000)(hR:0<=R)(hR2:R<1000000)(hs:0<=F↔0<=F+2*j):
  fU (F+2*j) R 1000000 mode=(fU F R 1000000 mode).map λv=>v+2*j:=by
 have R0:∀F R:Int,fU F R 1000000 0=l9 (x8 R 0) (some F) (some F):=λF R=>rfl;have R1:∀F R:Int,fU F R 1000000 1=l9 (x8 R 0) (some F) (some (A8 .i64 F 1)):=λF R=>rfl;have R2:∀F R:Int,fU F R 1000000 2=l9 (x8 R 0) (some F) (o5 (l9 (F7 F 0) (some true) (some false)) λx=>l9 x (some (A8 .i64 F 1)) (some F)):=λF R=>rfl;have R3:∀F R:Int,fU F R 1000000 3=l9 (x8 R 0) (some F) (o5 (some (S9 0 F)) λx=>l9 x (some (A8 .i64 F 1)) (some F)):=λF R=>rfl;have R4:∀F R:Int,fU F R 1000000 4=l9 (x8 R 0) (some F) (l9 (x8 R (I8 .i64 1000000 R)) (l9 (S9 0 F) (some (A8 .i64 F 1)) (some F)) (l9 (F7 (I8 .i64 1000000 R) R) (some (A8 .i64 F 1)) (some F))):=λF R=>rfl;have R5:∀F R:Int,fU F R 1000000 5=l9 (x8 R 0) (some F) (l9 (x8 R (I8 .i64 1000000 R)) (l9 (G6 (x8 (fC F 2) 0)) (some (A8 .i64 F 1)) (some F)) (l9 (F7 (I8 .i64 1000000 R) R) (some (A8 .i64 F 1)) (some F))):=λF R=>rfl;have hi:A8 .i64 F 1=F+1:=U5 O6;have hi2:A8 .i64 (F+2*j) 1=F+1+2*j:=by rw[U5 O6];omega
 have hlt:F7 (F+2*j) 0=F7 F 0:=by
  by_cases h:0<=F
  .rw[L6 h,L6 (hs.1 h)]
  .rw[U0 l7,U0 (by have:=λh' =>h (hs.2 h');omega)]
 have hle:S9 0 (F+2*j)=S9 0 F:=by rw[KG,KG,hlt]
 have hpar:x8 (fC (F+2*j) 2) 0=x8 (fC F 2) 0:=by
  unfold fC x8;congr 1;have e1:∀x:Int,x.tmod 2=0↔x % 2=0:=λx=>by rw[←Int.dvd_iff_tmod_eq_zero,Int.dvd_iff_emod_eq_zero]
  simp only[e1];congr 1;omega
 rcases KI hm with rfl|rfl|rfl|rfl|rfl|rfl
 .rw[R0,R0];cases x8 R 0<;>rfl
 .rw[R1,R1,hi,hi2];cases x8 R 0<;>rfl
 .rw[R2,R2,hi,hi2,hlt];cases x8 R 0<;>cases F7 F 0<;>rfl
 .rw[R3,R3,hi,hi2,hle];cases x8 R 0<;>cases S9 0 F<;>rfl
 .rw[R4,R4,hi,hi2,hle];cases x8 R 0<;>cases x8 R (I8 .i64 1000000 R)<;>cases S9 0 F<;>cases F7 (I8 .i64 1000000 R) R<;>rfl
 .rw[R5,R5,hi,hi2,hpar];cases x8 R 0<;>cases x8 R (I8 .i64 1000000 R)<;>cases x8 (fC F 2) 0<;>cases F7 (I8 .i64 1000000 R) R<;>rfl
variable {j:Int}
theorem b4q(hm:rV mode=true)(h1:-4000000000000000000<=n)(h2:n<=4000000000000000000)(h3:-2000000000000000<=j)(h4:j<=2000000000000000)(hs:0<=n↔0<=n+2*j*1000000):rnd (n+2*j*1000000) 1000000 mode=rnd n 1000000 mode+2*j:=by
 have a1:=KW (n:=n) (d:=1000000) (mode:=mode) l7 l7 l7 l7 hm;have a2:=KW (n:=n+2*j*1000000) (d:=1000000) (mode:=mode) l7 l7 l7 l7 hm;rw[show(n+2*j*1000000) / 1000000=n / 1000000+2*j by omega,show(n+2*j*1000000) % 1000000=n % 1000000 by omega,
  a0I hm l7 l7 l7 l7 l7 l7 l7,a1]at a2
 exact(F8 a2).symm
def a1M(W L mode:Int):Int×Int:=l9 (mZ (rnd (W*1000000+L) 1000000 mode) 1000000000000000) (0,3) (rnd (W*1000000+L) 1000000 mode,0)
theorem a0Z{V p L j mode:Int}(hm:rV mode=true)(hV:-2000000000000000<=V)(hV2:V<=2000000000000000)(hp:-3<=p)(hp2:p<=3)(hL:-1000000<L)(hL2:L<1000000)(hj:V -p=2*j)(hs:0<=p*1000000+L↔0<=V*1000000+L):
  (o5 (lD (A8 .i64 (aP .i64 p 1000000) L) 1000000 mode) λ(x:Int×Int)=>l9 (G6 (x8 x.2 0)) (some ((0:Int),x.2)) (l9 (F7 (A8 .i64 (I8 .i64 V p) x.1) (-1000000000000000)) (some (0,3)) (l9 (F7 1000000000000000 (A8 .i64 (I8 .i64 V p) x.1)) (some (0,3)) (some (A8 .i64 (I8 .i64 V p) x.1,0)))))=
  some (a1M V L mode):=by
 rw[oH (show iq (p*1000000) by unfold iq;omega),U5 (show iq (p*1000000+L) by unfold iq;omega),U7 (show iq (V -p) by unfold iq;omega),Kz,o8];unfold a8I;rw[hm,I4 (show(1000000:Int)≠0 by decide),QU l7,QU l7];have hb:=a9S (n:=p*1000000+L) (d:=1000000) mode l7;have hsh:=b4q (n:=p*1000000+L) (j:=j) hm l7 l7 l7 l7 (by rw[show p*1000000+L+2*j*1000000=V*1000000+L by omega];exact hs);rw[show p*1000000+L+2*j*1000000=V*1000000+L by omega]at hsh;simp only[o7,o6,L8 (rfl:(0:Int)=0),E8];unfold a1M mZ;rw[hsh,hj,U5 (show iq (2*j+rnd (p*1000000+L) 1000000 mode) by unfold iq;omega),show rnd (p*1000000+L) 1000000 mode+2*j=2*j+rnd (p*1000000+L) 1000000 mode by omega];cases F7 (2*j+rnd (p*1000000+L) 1000000 mode) (-1000000000000000)<;>cases F7 1000000000000000 (2*j+rnd (p*1000000+L) 1000000 mode)<;>rfl
theorem b2J(hd:0<d):(0<=n->0<=n.tmod d/\n.tmod d<d)/\(n<=0->-d<n.tmod d/\n.tmod d<=0):=by
 refine⟨λh=>?_,λh=>?_⟩
 .rw[ig h];exact⟨X3 n l7,U6 n hd⟩
 .obtain⟨m,hm⟩:∃m,n=-m:=⟨-n,l7⟩;subst hm;rw[Int.neg_tmod,ig l7];have:=X3 m (show d≠0 by omega);have:=U6 m hd;omega
theorem a7B{W L mode:Int}(hm:rV mode=true)(hW:-1000000000000000000<=W)(hW2:W<=1000000000000000000)(hL:-1000000000<=L)(hL2:L<=1000000000):Fg W L mode=some (a1M W L mode):=by
 unfold Fg;have hd:=Int.tdiv_mul_add_tmod L 1000000;have htm:=b2J (n:=L) (d:=1000000) l7;have t1:eH .i64 L 1000000=L.tdiv 1000000:=zo O6;have t2:fC L 1000000=L.tmod 1000000:=rfl;have hr1:-1000000<L.tmod 1000000:=l7;have hr2:L.tmod 1000000<1000000:=l7;rw[t1,t2,U5 (show iq (W+L.tdiv 1000000) by unfold iq;omega)];have hT:W*1000000+L=(W+L.tdiv 1000000)*1000000+L.tmod 1000000:=l7;have hsum:a1M W L mode=a1M (W+L.tdiv 1000000) (L.tmod 1000000) mode:=by unfold a1M;rw[hT]
 rw[hsum];have hVb:-2000000000000000000<=W+L.tdiv 1000000/\W+L.tdiv 1000000<=2000000000000000000:=l7;generalize W+L.tdiv 1000000=V at*;generalize L.tmod 1000000=M at*;have hb:=a9S (n:=V*1000000+M) (d:=1000000) mode l7;by_cases c1:V< -2000000000000000
 .rw[U0 c1,o7];unfold a1M;rw[UB.2 l7];rfl
 by_cases c2:2000000000000000<V
 .rw[L6 l7,o6,U0 c2,o7];unfold a1M;rw[UB.2 l7];rfl
 rw[L6 l7,o6,L6 l7,o6];have t3:fC V 2=V.tmod 2:=rfl;rw[t3];have hv2:=Int.tdiv_mul_add_tmod V 2;have htv:=b2J (n:=V) (d:=2) l7;by_cases c3:1<V
 .rw[U0 c3,o7,U5 (show iq (V.tmod 2+2) by unfold iq;omega)];exact a0Z (j:=V.tdiv 2 -1) hm l7 l7 l7 l7 hr1 hr2 l7 l7
 rw[L6 l7,o6];by_cases c4:V< -1
 .rw[U0 c4,o7,U7 (show iq (V.tmod 2 -2) by unfold iq;omega)];exact a0Z (j:=V.tdiv 2+1) hm l7 l7 l7 l7 hr1 hr2 l7 l7
 rw[L6 l7,o6];exact a0Z (j:=V.tdiv 2) hm l7 l7 l7 l7 hr1 hr2 l7 l7
theorem a1F{W L mode:Int}(hm:rV mode=true)(hW:-1000000000000000000<=W)(hW2:W<=1000000000000000000)(hL:-1000000000<=L)(hL2:L<=1000000000):LP W L mode=some (rnd (W*1000000+L) 1000000 mode):=by
 unfold LP;obtain⟨e,k1,k2⟩:=cu (f:=λ(x:Int×Int)=>l9 (F7 x.2 0) (some (.inl (I8 .i64 x.1 1,A8 .i64 x.2 1000000))) (some (.inr x)))
  (s:=(W,L)) (λx=>x.1*1000000+x.2=W*1000000+L/\-1000000000<=x.2/\x.2<=1000000000/\-2000000000000000000<=x.1/\x.1<=2000000000000000000) (λx=>x.1*1000000+x.2=W*1000000+L/\0<=x.2/\x.2<=1000000000/\-2000000000000000000<=x.1/\x.1<=2000000000000000000) (λx=>(1000000000 -x.2).toNat) ⟨by rfl,hL,hL2,l7,l7⟩ l7 (by
  rintro⟨a,b⟩ ⟨h1,h2,h3,h4,h5⟩;simp only at h1 h2 h3 h4 h5 ⊢;by_cases hb:b<0
  .left;rw[U0 hb,o7,U7 (show iq (a -1) by unfold iq;omega),U5 (show iq (b+1000000) by unfold iq;omega)];exact⟨_,rfl,⟨by simp only;omega,by simp only;omega,by simp only;omega,by simp only;omega,by simp only;omega⟩,by simp only;omega⟩
  .right;rw[L6 l7];exact⟨(a,b),rfl,h1,l7,h3,h4,h5⟩)
 refine(wJ k1 _).trans ?_;obtain⟨a,b⟩:=e;simp only at k2;obtain⟨e,l1,l2⟩:=cu (f:=λ(x:Int×Int)=>l9 (S9 1000000 x.2) (some (.inl (A8 .i64 x.1 1,I8 .i64 x.2 1000000))) (some (.inr x)))
  (s:=(a,b)) (λx=>x.1*1000000+x.2=W*1000000+L/\0<=x.2/\x.2<=1000000000/\-2000000000000000000<=x.1/\x.1<=2000000000000000000) (λx=>x.1=(W*1000000+L) / 1000000/\x.2=(W*1000000+L) % 1000000) (λx=>x.2.toNat) k2 (by simp only;omega) (by
  rintro⟨a,b⟩ ⟨h1,h2,h3,h4,h5⟩;simp only at h1 h2 h3 h4 h5 ⊢;by_cases hb:1000000<=b
  .left;rw[ae hb,o7,U5 (show iq (a+1) by unfold iq;omega),U7 (show iq (b -1000000) by unfold iq;omega)];exact⟨_,rfl,⟨by simp only;omega,by simp only;omega,by simp only;omega,by simp only;omega,by simp only;omega⟩,by simp only;omega⟩
  .right;rw[aC l7];exact⟨(a,b),rfl,by simp only;omega,by simp only;omega⟩)
 refine(wJ l1 _).trans ?_;obtain⟨F,R⟩:=e;simp only at l2 ⊢;obtain⟨rfl,rfl⟩:=l2;generalize hT:W*1000000+L=T at*;have hid:aV 1000000=1000000:=rfl;have hneg:G6 (ji (F7 T 0) (F7 1000000 0))=F7 T 0:=by rw[L6 (show(0:Int)<=1000000 by omega)];cases F7 T 0<;>rfl
 by_cases h0:0<=T
 .rw[ae (show 0<=T / 1000000 by omega),o7,Hg _ _ l7 l7 l7 l7 l7,o8];unfold rnd;rw[hid,hneg,L6 h0,show aV T=T by unfold aV;rw[if_neg l7]]
 .rw[aC (show T / 1000000<0 by omega),o6];unfold rnd;rw[hid,hneg,U0 l7,show aV T=-T by unfold aV;rw[if_pos l7]];by_cases hz:T % 1000000=0
  .rw[L8 hz,o7];have hu:upS (-T / 1000000) (-T % 1000000) 1000000 true mode=false:=by unfold upS;rw[L8 (show -T % 1000000=0 by omega)];rfl
   rw[hu];show some (T / 1000000)=some (-(-T / 1000000));congr 1;omega
  .rw[I4 hz,o6,U7 (show iq (0 -T / 1000000) by unfold iq;omega),U7 (show iq (0 -T / 1000000 -1) by unfold iq;omega),U7 (show iq (1000000 -T % 1000000) by unfold iq;omega),Hg _ _ l7 l7 l7 l7 l7,o8];rw[show 0 -T / 1000000 -1=-T / 1000000 by omega,show 1000000 -T % 1000000=-T % 1000000 by omega]
def b1a(r:zi):Prop:=iq r.2.1/\iq r.2.2.1/\iq r.2.2.2
def BV(t:dM):Prop:=t.2.2.2.length<=200/\∀r∈t.2.2.2,b1a r
theorem a3U(h:(GX len n).2.2=true)(hl:0<=len):-1000000000000000<=(GX len n).1/\(GX len n).1<=1000000000000000/\-1000000<=(GX len n).2.1/\(GX len n).2.1<=1000000:=by
 have hA:=X5 hl (oG n)
 grind [GX,jW,o6,o7]
def brG(date c:Int)(b:Int×Int)(r:zi):(Int×Int)⊕(Int×Int):=l9 (Iy r.1 date) (l9 (S9 (ww r.2.2.1 c) (qX r.2.1 0)) (.inl b)
 (l9 (GX (ww r.2.2.1 c -qX r.2.1 0) r.2.2.2).2.2 (.inl (b.1+(GX (ww r.2.2.1 c -qX r.2.1 0) r.2.2.2).1,b.2+(GX (ww r.2.2.1 c -qX r.2.1 0) r.2.2.2).2.1)) (.inr (0,3)))) (.inl b)
def b9Z(t:dM)(date c mode:Int):Int×Int:=l9 (rV mode) (l9 (fF (x8 t.2.1.1 3) (x8 t.2.1.2 0)) (l9 (fF (x8 t.2.2.1.1 4) (x8 t.2.2.1.2 0)) (l9 (mZ c 1000000000000000) (0,3)
 (match eG (brG date c) t.2.2.2 (0,0)with| .inl b=>a1M b.1 b.2 mode| .inr r=>r)) (0,8)) (0,8)) (0,1)
def Zf(i:Nat)(b:Int×Int):Prop:=-(1000000000000000*(i:Int))<=b.1/\b.1<=1000000000000000*(i:Int)/\-(1000000*(i:Int))<=b.2/\b.2<=1000000*(i:Int)
theorem ZF{r:zi}(hr:b1a r)(hc:-1000000000000000<=c)(hc2:c<=1000000000000000)(h:S9 (ww r.2.2.1 c) (qX r.2.1 0)=false):I8 .i64 (ww r.2.2.1 c) (qX r.2.1 0)=ww r.2.2.1 c -qX r.2.1 0/\1<=ww r.2.2.1 c -qX r.2.1 0/\ww r.2.2.1 c -qX r.2.1 0<=1000000000000000:=by
 grind [LH,qX,ww,U7,iq]
theorem b5n{date c:Int}{r:zi}{b:Int×Int}{i:Nat}(hr:b1a r)(hc:-1000000000000000<=c)(hc2:c<=1000000000000000)(hi:i<=200)(hb:Zf i b):∀b',brG date c b r= .inl b' ->Zf (i+1) b' :=by
 intro b' h;unfold Zf at*;unfold brG at h;cases h1:Iy r.1 date<;>rw[h1]at h
 .cases h;omega
 cases h2:S9 (ww r.2.2.1 c) (qX r.2.1 0)<;>rw[h2]at h
 .obtain⟨_,g1,g2⟩:=ZF hr hc hc2 h2;cases h3:(GX (ww r.2.2.1 c -qX r.2.1 0) r.2.2.2).2.2<;>rw[h3]at h
  .cases h
  .have hbd:=a3U h3 l7;cases h<;>grind
 .cases h;omega
variable {t:dM}
theorem a5R(date c mode:Int)(ht:BV t):Fb t date c mode=some (b9Z t date c mode):=by
 unfold Fb b9Z;rw[a6N];cases hm:rV mode
 .rfl
 cases fF (x8 t.2.1.1 3) (x8 t.2.1.2 0)
 .rfl
 cases fF (x8 t.2.2.1.1 4) (x8 t.2.2.1.2 0)
 .rfl
 have hbey:∀A B:Option (PUnit⊕(Int×Int)),l9 (F7 c (-1000000000000000)) A (l9 (F7 1000000000000000 c) A B)=l9 (mZ c 1000000000000000) A B:=λA B=>by unfold mZ;cases F7 c (-1000000000000000)<;>cases F7 1000000000000000 c<;>rfl
 rw[hbey];cases hb:mZ c 1000000000000000
 case true=>rfl
 have bb:=ui hb;refine pM t.2.2.2 (brG date c) (λb i=>(b.1,b.2,i)) (λb=>b) Zf ((0,0):Int×Int) (by have:=ht.1;omega) (by simp[Zf]) (λi r b hr hi hI=>?_) (λb hI=>?_) (λhI=>?_)
 .have hro:=ht.2 r (lM hr);have hlt:=(U8.1 hr).1;have h200:=ht.1;refine⟨?_,b5n hro bb.1 bb.2 l7 hI⟩;simp[au hr,o7,G8,hr,o8,DR];rw[ja l7];unfold brG;cases Iy r.1 date
  .rfl
  cases h2:S9 (ww r.2.2.1 c) (qX r.2.1 0)
  case true=>rfl
  obtain⟨g0,g1,g2⟩:=ZF hro bb.1 bb.2 h2;rw[g0,c0f g1 g2 hro.2.2];simp;cases h3:(GX (ww r.2.2.1 c -qX r.2.1 0) r.2.2.2).2.2
  .rfl
  .have hbd:=a3U h3 l7;unfold Zf at hI;rw[U5 (by grind [iq]),U5 (by grind [iq])];rfl
 .simp[ak]
 .cases hf:eG (brG date c) t.2.2.2 (0,0)with
  |inr r=>rfl|inl b=>have:=hI b hf;unfold Zf at this;have h200:=ht.1;simp;rw[a7B hm l7 l7 l7 l7];rfl
theorem a4C(date c mode:Int)(ht:BV t):JU t date c mode=some (b9Z t date c mode):=by
 unfold JU b9Z;rw[Vy];cases hm:rV mode
 .rfl
 cases fF (x8 t.2.1.1 3) (x8 t.2.1.2 0)
 .rfl
 cases fF (x8 t.2.2.1.1 4) (x8 t.2.2.1.2 0)
 .rfl
 rw[xg c l7 l7];cases hb:mZ c 1000000000000000
 case true=>rfl
 have bb:=ui hb;refine pM t.2.2.2 (brG date c) (λb i=>(b.1,b.2,i)) (λb=>b) Zf ((0,0):Int×Int) (by have:=ht.1;omega) (by simp[Zf]) (λi r b hr hi hI=>?_) (λb hI=>?_) (λhI=>?_)
 .have hro:=ht.2 r (lM hr);have hlt:=(U8.1 hr).1;have h200:=ht.1;refine⟨?_,b5n hro bb.1 bb.2 l7 hI⟩;simp[au hr,o7,G8,hr,o8,Vx];rw[ja l7];unfold brG;cases h2:S9 (ww r.2.2.1 c) (qX r.2.1 0)
  case true=>cases Iy r.1 date<;>rfl
  cases Iy r.1 date
  .rfl
  obtain⟨g0,g1,g2⟩:=ZF hro bb.1 bb.2 h2;rw[g0,b7r g1 g2 hro.2.2];simp;cases h3:(GX (ww r.2.2.1 c -qX r.2.1 0) r.2.2.2).2.2
  .rfl
  .have hbd:=a3U h3 l7;unfold Zf at hI;rw[U5 (by grind [iq]),U5 (by grind [iq])];rfl
 .simp[ak]
 .cases hf:eG (brG date c) t.2.2.2 (0,0)with
  |inr r=>rfl|inl b=>have:=hI b hf;unfold Zf at this;have h200:=ht.1;simp;rw[a1F hm l7 l7 l7 l7,o8,xg _ l7 l7];unfold a1M;cases mZ (rnd (b.1*1000000+b.2) 1000000 mode) 1000000000000000<;>rfl
def c0D(r:zi)(date key:Int):Bool:=l9 (Iy r.1 date) (l9 (S9 r.2.1 key) (F7 key r.2.2.1) false) false
def XM(rows:List zi)(date key:Int)(i:Nat):Option (Int×Bool):=match rows[i]? with|some r=>l9 (c0D r date key) (some ((i:Int),true)) none|none=>none
def UY(rows:List zi)(date key:Int):Int×Bool:=match fH rows.length (XM rows date key)with|some x=>x|none=>(0,false)
theorem b3B(date key:Int)(ht:t.2.2.2.length<=1000000):IQ t date key=some (UY t.2.2.2 date key):=by
 unfold IQ yZ UY;rw[dL];refine cZ (BC (p:=XM t.2.2.2 date key) t.2.2.2.length ht PUnit.unit (λi hi=>?_) ?_) ?_
 rotate_left 2
 .cases fH t.2.2.2.length (XM t.2.2.2 date key)<;>rfl
 .have e:=dE hi;simp[au e,o7,G8,e,o8,JZ,DR,XM,c0D];cases Iy t.2.2.2[i].1 date
  .rfl
  cases S9 t.2.2.2[i].2.1 key
  .rfl
  cases F7 key t.2.2.2[i].2.2.1<;>rfl
 .simp[ak]
theorem a0v(date key:Int)(ht:t.2.2.2.length<=1000000):Oa t date key=some (UY t.2.2.2 date key):=by
 unfold Oa UY;refine cZ (BC (p:=XM t.2.2.2 date key) t.2.2.2.length ht PUnit.unit (λi hi=>?_) ?_) ?_
 rotate_left 2
 .cases fH t.2.2.2.length (XM t.2.2.2 date key)<;>rfl
 .have e:=dE hi;simp[au e,o7,G8,e,o8,Tu,Vx,XM,c0D];cases Iy t.2.2.2[i].1 date
  .rfl
  cases S9 t.2.2.2[i].2.1 key
  .rfl
  cases F7 key t.2.2.2[i].2.2.1<;>rfl
 .simp[ak]
theorem b6f{rows:List zi}{date key i:Int}(h:UY rows date key=(i,true)):0<=i/\i<o9 rows:=by
 unfold UY at h;split at h
 .rename_i x hx;subst h;obtain⟨k,hk,hp⟩:=je hx;unfold XM at hp;split at hp
  .rename_i r hr;cases hmb:c0D r date key<;>rw[hmb]at hp
   .cases hp
   .cases hp<;>simp_all [o9]
  grind
 grind
abbrev V3:Type:=Int×Int×Int
def Es(k:Int):Int×Int:=l9 (x8 k 1) (0,1) (l9 (x8 k 2) (-1000000000000,1000000000000) (l9 (x8 k 3) (-1000000000000000,1000000000000000) (l9 (x8 k 4) (-1000000000,1000000000) (l9 (x8 k 5) (0,109572) (l9 (x8 k 6) (0,15) (0,-1))))))
theorem b1o(k:Int):ET k=some (Es k):=by unfold ET Es;cases x8 k 1<;>cases x8 k 2<;>cases x8 k 3<;>cases x8 k 4<;>cases x8 k 5<;>cases x8 k 6<;>rfl
def plB(v:V3):Bool:=l9 (S9 (Es v.1).1 v.2.2) (l9 (S9 v.2.2 (Es v.1).2) (l9 (x8 v.1 6) (l9 (S9 0 v.2.1) (F7 v.2.1 8) false) (x8 v.2.1 0)) false) false
theorem uJ(v:V3):lH v=some (plB v):=by
 unfold lH plB;rw[b1o,o8,wu,wu];cases S9 (Es v.1).1 v.2.2
 .rfl
 cases S9 v.2.2 (Es v.1).2
 .rfl
 cases x8 v.1 6
 .rfl
 cases S9 0 v.2.1<;>rfl
theorem wM(v:V3):jE v=some (plB v):=by
 obtain⟨k,e,n⟩:=v;unfold jE plB;simp only;by_cases h6:k=6
 .subst h6;rw[show Es 6=(0,15)from rfl,L8 (rfl:(6:Int)=6)];simp only[E8,o6,o8,V4,I4 (show(6:Int)≠1 by decide),I4 (show(6:Int)≠2 by decide),I4 (show(6:Int)≠3 by decide),I4 (show(6:Int)≠4 by decide),I4 (show(6:Int)≠5 by decide),o7];rw[show F7 n 16=S9 n 15 by unfold F7 S9;congr 1;simp;omega];cases S9 0 e<;>cases F7 e 8<;>cases S9 0 n<;>cases S9 n 15<;>rfl
 rw[I4 h6];simp only[bY,o7,o6];by_cases he:e=0
 case neg=>rw[I4 he];simp only[bY,o7,o8,Hw];cases S9 (Es k).1 n<;>cases S9 n (Es k).2<;>rfl
 rw[L8 he];simp only[E8,o6,o8,V4];by_cases h1:k=1
 .subst h1;rw[show Es 1=(0,1)from rfl];simp only[L8 (rfl:(1:Int)=1),o7];by_cases n0:n=0
  .subst n0;rfl
  by_cases n1:n=1
  .subst n1;rfl
  rw[I4 n0,I4 n1];by_cases g:0<=n
  .rw[ae g,aC l7];rfl
  .rw[aC l7];rfl
 rw[I4 h1,o6];by_cases h2:k=2
 .subst h2;rw[show Es 2=(-1000000000000,1000000000000)from rfl,L8 (rfl:(2:Int)=2)];simp only[o7];cases S9 (-1000000000000) n<;>cases S9 n 1000000000000<;>rfl
 rw[I4 h2,o6];by_cases h3:k=3
 .subst h3;rw[show Es 3=(-1000000000000000,1000000000000000)from rfl,L8 (rfl:(3:Int)=3)];simp only[o7];cases S9 (-1000000000000000) n<;>cases S9 n 1000000000000000<;>rfl
 rw[I4 h3,o6];by_cases h4:k=4
 .subst h4;rw[show Es 4=(-1000000000,1000000000)from rfl,L8 (rfl:(4:Int)=4)];simp only[o7];cases S9 (-1000000000) n<;>cases S9 n 1000000000<;>rfl
 rw[I4 h4,o6];by_cases h5:k=5
 .subst h5;rw[show Es 5=(0,109572)from rfl,L8 (rfl:(5:Int)=5)];simp only[o7];cases S9 0 n<;>cases S9 n 109572<;>rfl
 rw[I4 h5,o6,show Es k=(0,-1) by unfold Es;rw[I4 h1,I4 h2,I4 h3,I4 h4,I4 h5,I4 h6];rfl];simp only[o6];by_cases g:0<=n
 .rw[ae g,aC (show(-1:Int)<n by omega)];rfl
 .rw[aC (show n<0 by omega)];rfl
def PV(v:V3):Prop:=(∃n,v=(1,0,n)/\(n=0\/n=1))\/(∃n,v=(2,0,n)/\-1000000000000<=n/\n<=1000000000000)\/(∃n,v=(3,0,n)/\-1000000000000000<=n/\n<=1000000000000000)\/(∃n,v=(4,0,n)/\-1000000000<=n/\n<=1000000000)\/(∃n,v=(5,0,n)/\0<=n/\n<=109572)\/(∃e n,v=(6,e,n)/\0<=n/\n<=15)
theorem Uf{v:V3}(h:plB v=true):PV v:=by
 obtain⟨k,e,n⟩:=v;unfold plB at h;simp only at h;cases h1:S9 (Es k).1 n<;>rw[h1]at h
 .cases h
 cases h2:S9 n (Es k).2<;>rw[h2]at h
 .cases h
 simp only[o7]at h;rw[pF]at h1 h2;unfold PV;by_cases k6:k=6
 .subst k6;rw[show Es 6=(0,15)from rfl]at h1 h2;exact .inr (.inr (.inr (.inr (.inr ⟨e,n,rfl,h1,h2⟩))))
 rw[I4 k6,o6,U4]at h;subst h;by_cases k1:k=1
 .subst k1;rw[show Es 1=(0,1)from rfl]at h1 h2;exact .inl ⟨n,rfl,by simp only at h1 h2;omega⟩
 by_cases k2:k=2
 .subst k2;exact .inr (.inl ⟨n,rfl,h1,h2⟩)
 by_cases k3:k=3
 .subst k3;exact .inr (.inr (.inl ⟨n,rfl,h1,h2⟩))
 by_cases k4:k=4
 .subst k4;exact .inr (.inr (.inr (.inl ⟨n,rfl,h1,h2⟩)))
 by_cases k5:k=5
 .subst k5;exact .inr (.inr (.inr (.inr (.inl ⟨n,rfl,h1,h2⟩))))
 .rw[show Es k=(0,-1) by unfold Es;rw[I4 k1,I4 k2,I4 k3,I4 k4,I4 k5,I4 k6];rfl]at h1 h2;simp only at h1 h2;omega
def IE(v:V3):V3×Int:=l9 (plB v) (v,0) ((0,0,0),3)
def VZ(v:V3)(c:Int):V3×Int:=l9 (x8 c 0) (IE v) ((0,0,0),c)
theorem Ry(k n:Int):dP k n=some (IE (k,0,n)):=by unfold dP IE;rw[uJ,o8];cases plB (k,0,n)<;>rfl
theorem a5n(k n c:Int):vg k n c=some (VZ (k,0,n) c):=by
 unfold vg VZ;cases x8 c 0
 .rfl
 simp only[E8,o6,o7];rw[Ry];rfl
def c7D(b:Bool):V3×Int:=((1,0,l9 b 1 0),0)
theorem b4j(b:Bool):wQ b=some (c7D b):=by cases b<;>rfl
theorem b9H(b:Bool):uT b=some (1,0,l9 b 1 0):=by cases b<;>rfl
theorem a8a(b:Bool):IE (1,0,l9 b 1 0)=c7D b:=by cases b<;>rfl
def b3q(c:Option (V3×Int)):Option (V3×Int):=o5 c λ(x:V3×Int)=>l9 (G6 (x8 x.2 0)) (some ((0,0,0),x.2)) (o5 (jE x.1) λ(x_1:Bool)=>l9 (G6 x_1) (some ((0,0,0),3)) (some (x.1,0)))
theorem FU(v:V3)(c:Int):b3q (some (v,c))=some (VZ v c):=by
 unfold b3q VZ IE;simp only[o8];cases x8 c 0
 .rfl
 simp only[E8,o6,o7];rw[wM,o8];cases plB v<;>rfl
theorem QP(v:V3):VZ v 0=IE v:=rfl
def EP(n:Int×Int)(args:List V3)(env:aA):Option (V3×Int):=o5 (aK n args env) λ(x:Bool)=>l9 (G6 x) (some ((0,0,0),8)) (b3q (aN n args env))
def RP(a0:Int×Int)(a1:List V3)(a2:aA):Option (V3×Int):=
 l9 (x8 (o9 a1) 0) (l9 (S9 36 a0.1) (l9 (S9 a0.1 39) (o5 (rC a0 a2) λ(x:V3×Int)=>some x) (o5 (dV a0 a2) λ(x:V3×Int)=>some x)) (o5 (dV a0 a2) λ(x:V3×Int)=>some x))
  (l9 (x8 (o9 a1) 1) (o5 (H9 a1 0) λ(x:V3)=>o5 (jC a0 x a2) λ(x:V3×Int)=>some x)
  (l9 (x8 (o9 a1) 2) (o5 (H9 a1 0) λ(x:V3)=>o5 (H9 a1 1) λ(x_1:V3)=>o5 (fV a0 x x_1) λ(x:V3×Int)=>some x)
  (o5 (H9 a1 0) λ(x:V3)=>o5 (H9 a1 1) λ(x_1:V3)=>o5 (H9 a1 2) λ(x_2:V3)=>l9 (G6 (x8 x.1 1)) (some ((0,0,0),8)) (l9 (G6 (x8 x_1.1 x_2.1)) (some ((0,0,0),8)) (l9 (G6 (x8 x_1.2.1 x_2.2.1)) (some ((0,0,0),8)) (l9 (x8 x.2.2 1) (some (x_1,0)) (some (x_2,0))))))))
def kR(n:Int×Int)(args:List V3)(env:aA):Prop:=∃r:V3×Int,RP n args env=some r/\EP n args env=some r
theorem ll0:o9 ([]:List V3)=0:=rfl
theorem ll1(a:V3):o9 [a]=1:=rfl
theorem ll2(a b:V3):o9 [a,b]=2:=rfl
theorem ll3(a b c:V3):o9 [a,b,c]=3:=rfl
theorem la0(a:V3)(l:List V3):H9 (a::l) 0=some a:=rfl
theorem la1(a b:V3)(l:List V3):H9 (a::b::l) 1=some b:=rfl
theorem la2(a b c:V3)(l:List V3):H9 (a::b::c::l) 2=some c:=rfl
def dG:=And.intro @L8 (And.intro @I4 (And.intro @ae (And.intro @aC (And.intro @U0 (And.intro @L6 (And.intro @o7 (And.intro @o6 (And.intro @o8 (And.intro @V4 (And.intro @Hw (And.intro @E8 (And.intro @bY (And.intro @ll0 (And.intro @ll1 (And.intro @ll2 (And.intro @ll3 (And.intro @la0 (And.intro @la1 (And.intro @la2 (And.intro @Ry (And.intro @a5n (And.intro @uJ (And.intro @wM (And.intro @FU (And.intro @QP (And.intro @b4j (And.intro @b9H (@a8a))))))))))))))))))))))))))))
theorem Ux(k N:Int)(env:aA)(hk:k=1\/k=2\/k=3\/k=4\/k=5):kR (k,N) [] env:=by
 rcases hk with rfl|rfl|rfl|rfl|rfl <;>
 .unfold kR RP dV EP aK aN;simp (disch:=decide) only[dG];exact⟨_,rfl,rfl⟩
theorem c7T(N:Int)(env:aA):kR (6,N) [] env:=by unfold kR RP dV EP aK aN;simp (disch:=decide) only[dG];unfold IE;cases plB (6,eH IntKind.i64 N 16,fC N 16)<;>exact⟨_,rfl,rfl⟩
theorem c7W(N:Int)(env:aA):kR (9,N) [] env:=by unfold kR RP dV EP aK aN;simp (disch:=decide) only[dG];simp
theorem c3Z(N:Int)(env:aA):kR (35,N) [] env:=by unfold kR RP dV EP aK aN;simp (disch:=decide) only[dG];simp
theorem c7U(N:Int)(env:aA)(h:jd (7,N) env=some true):kR (7,N) [] env:=by
 unfold jd at h;simp[L8,I4,o7,o6]at h;by_cases g:0<=N
 case neg=>simp_all [aC]
 rw[ae g]at h;have h2:=jV.1 (F8 h);obtain⟨x,hx,hm⟩:=qA g h2;unfold kR RP dV EP aK aN;rw[hx];simp (disch:=decide) only[dG];unfold IE;cases plB x<;>exact⟨_,rfl,rfl⟩
theorem c7V(N:Int)(env:aA)(h:jd (8,N) env=some true):kR (8,N) [] env:=by
 unfold jd at h;simp[L8,I4,o7,o6]at h;by_cases g:0<=N
 case neg=>simp_all [aC]
 rw[ae g]at h;by_cases h2:N<o9 env.2.2.1
 case neg=>simp_all [L6]
 obtain⟨x,hx,hm⟩:=qA g h2;unfold kR RP dV EP aK aN;rw[hx];simp (disch:=decide) only[dG];unfold IE;cases plB x<;>exact⟨_,rfl,rfl⟩
def Pq(k:Int)(t:Int×Int):Bool:=l9 (x8 t.2 0) (l9 (x8 k 36) (l9 (x8 t.1 2) true (x8 t.1 3)) (l9 (x8 k 39) (l9 (S9 2 t.1) (S9 t.1 5) false) (x8 t.1 1))) false
theorem a4B(k:Int)(t:Int×Int):LQ k t=some (Pq k t):=by unfold LQ Pq;cases x8 t.2 0<;>cases x8 k 36<;>cases x8 k 39<;>cases x8 t.1 2<;>cases S9 2 t.1<;>rfl
theorem Gh(t:Int):xe t=some (l9 (S9 2 t) (S9 t 4) false):=by
 unfold xe;by_cases h2:t=2
 .subst h2;rfl
 by_cases h3:t=3
 .subst h3;rfl
 by_cases h4:t=4
 .subst h4;rfl
 rw[I4 h2,I4 h3,I4 h4];by_cases g:2<=t
 .rw[ae g,aC l7];rfl
 simp_all [aC]
theorem JO(t:Int):BJ t=some (l9 (S9 2 t) (S9 t 4) false):=Gh t
theorem a1z(k:Int)(t:Int×Int):yH k t=some (Pq k t):=by
 unfold yH Pq;cases x8 t.2 0
 .rfl
 grind [Gh,E8,o6,o7,o8,ae,aC,L8,I4]
def UN(v:V3)(t:Int×Int):Bool:=l9 (plB v) (l9 (x8 v.1 t.1) (x8 v.2.1 t.2) false) false
theorem v_(v:V3)(t:Int×Int):EE v t=some (UN v t):=by unfold EE UN;rw[wM];cases plB v<;>cases x8 v.1 t.1<;>rfl
theorem b7t(v:V3)(t:Int×Int):Xc v t=some (UN v t):=by unfold Xc UN;rw[uJ];cases plB v<;>cases x8 v.1 t.1<;>rfl
def Jz(k a b:Int)(first:Bool):Int:=l9 (x8 k 36) (A8 .i64 a b) (l9 (x8 k 37) (aP .i64 a b) (l9 (x8 k 38) (l9 (F7 a b) b a) (l9 first b (l9 (F7 a b) b a))))
theorem b7s(k a b:Int)(f:Bool):Uh k a b f=some (Jz k a b f):=by unfold Uh Jz;cases x8 k 36<;>cases x8 k 37<;>cases x8 k 38<;>cases f<;>cases F7 a b<;>rfl
def X_(m:List V3)(N:Int)(t:Int×Int):V3⊕Int:=
 match H9 m N with
 |none=> .inr 6|some x=>l9 (x8 x.1 0) (.inr 6) (l9 (UN x t) (.inl x) (.inr 8))
def Ig(k N:Int)(t:Int×Int)(b:Int×Bool)(m:List V3):(Int×Bool)⊕(V3×Int):=
 match X_ m N t with
 | .inr c=> .inr ((0,0,0),c)| .inl x=>l9 (plB (t.1,0,Jz k b.1 x.2.2 b.2)) (.inl (Jz k b.1 x.2.2 b.2,false)) (.inr ((0,0,0),3))
def a2L(k N:Int)(t:Int×Int)(ms:List (List V3)):V3×Int:=
 l9 (Pq k t) (match eG (Ig k N t) ms (l9 (x8 k 37) 1 0,true)with
  | .inr c=>c
  | .inl a=>l9 (x8 k 39) (l9 (x8 (o9 ms) 0) ((0,0,0),6) (IE (t.1,0,a.1))) (IE (t.1,0,a.1))) ((0,0,0),8)
theorem KP(k N:Int)(env:aA)(t:Int×Int)(ht:H9 env.2.2.2.2.1 N=some t)(h0:0<=N)(hl:env.2.2.2.1.length<=1000000):rC (k,N) env=some (a2L k N t env.2.2.2.1):=by
 unfold rC a2L;simp[ht,o8,a4B];cases Pq k t
 .rfl
 rw[show l9 (x8 k 37) (some (1:Int)) (some 0)=some (l9 (x8 k 37) 1 0) by cases x8 k 37<;>rfl];apply pM env.2.2.2.1 (Ig k N t) (λb i=>(((0,0,0),b.1,i):V3×Int×Int)) (λb=>(((0,0,0),b.1):V3×Int)) (λi b=>b.2=decide (i=0)) (l9 (x8 k 37) 1 0,true) hl rfl
 .intro i m b hi hi' hb;have hm:=G8 env.2.2.2.1 i;rw[hi]at hm;have hlt:(i:Int)<o9 env.2.2.2.1:=by
   grind [o9]
  simp only[U0 hlt,o7,hm,o8];refine⟨?_,?_⟩
  .unfold Ig X_;by_cases g:o9 m<=N
   .simp_all [ae,xO,L6]
   .rw[aC l7];obtain⟨x,hx,_⟩:=qA h0 (show N<o9 m by omega);simp[o6,hx,o8];cases x8 x.1 0
    case true=>rfl
    simp[o6,o8,V4,b7t];cases UN x t
    .rfl
    simp[E8,o6,o7,b7s,o8,Ry];have hz:x8 (i:Int) 0=b.2:=by simp_all [x8]
    rw[hz];unfold IE;cases plB (t.1,0,Jz k b.1 x.2.2 b.2)
    .rfl
    .rw[ja l7];rfl
  .intro b' hb';unfold Ig at hb';cases hf:X_ m N t with
   |inr c=>simp_all|inl x=>rw[hf]at hb';simp at hb';cases hp:plB (t.1,0,Jz k b.1 x.2.2 b.2)<;>rw[hp]at hb'<;>cases hb';simp
 .simp[L6,o9]
 .intro _;cases eG (Ig k N t) env.2.2.2.1 (l9 (x8 k 37) 1 0,true)with
  |inr c=>rfl|inl a=>simp[V4,Ry,o8];cases x8 k 39<;>cases x8 (o9 env.2.2.2.1) 0<;>rfl
theorem a8X{x:V3}{t:Int×Int}(h:UN x t=true):plB x=true/\x.1=t.1/\x.2.1=t.2:=by
 unfold UN at h;cases h1:plB x<;>rw[h1]at h
 .cases h
 cases h2:x8 x.1 t.1<;>rw[h2]at h
 .cases h
 exact⟨rfl,U4.1 h2,U4.1 h⟩
theorem RI(hk:k=1)(h:plB (k,0,n)=true):n=0\/n=1:=by subst hk;rcases Uf h with⟨m,h,g⟩|⟨m,h,g⟩|⟨m,h,g⟩|⟨m,h,g⟩|⟨m,h,g⟩|⟨e',m,h,g⟩<;>cases h;omega
theorem WQ{t:Int×Int}(h:Pq k t=true):t.2=0:=by
 unfold Pq at h;cases g:x8 t.2 0<;>rw[g]at h
 .cases h
 exact U4.1 g
theorem b1M{t:Int×Int}(h:Pq 37 t=true):t.1=1:=by have:=WQ h;unfold Pq at h;rw[L8 this]at h;exact U4.1 h
theorem b3Y(k N:Int)(t:Int×Int)(hk:k=36\/k=37\/k=38\/k=39)(ha:Pq k t=true)(b:Int×Bool)(x:V3)(hx:UN x t=true)(i:Nat)(hi:i<=1000000)(hb:b.2=decide (i=0))(hp:k=36\/b.2=true/\k=39\/plB (t.1,0,b.1)=true)(v:V3)(hv:v=(0,0,0)):
  (l9 (x8 k 36) (o5 (jE (t.1,t.2,A8 .i64 b.1 x.2.2)) λ(q:Bool)=>l9 (G6 q) (some (Out.rt (((0,0,0),3):V3×Int))) (some (Out.nx ((v,(t.1,t.2,A8 .i64 b.1 x.2.2),A8 .i64 (i:Int) 1):V3×V3×Int))))
   (l9 (x8 k 37) (some (Out.nx (v,(t.1,t.2,ww b.1 x.2.2),A8 .i64 (i:Int) 1)))
    (l9 (x8 k 38) (some (Out.nx (v,(t.1,t.2,qX b.1 x.2.2),A8 .i64 (i:Int) 1)))
     (l9 (x8 k 39) (l9 (x8 (i:Int) 0) (some (Out.nx (v,x,A8 .i64 (i:Int) 1))) (l9 (F7 b.1 x.2.2) (some (Out.nx (v,x,A8 .i64 (i:Int) 1))) (some (Out.nx (v,(t.1,t.2,b.1),A8 .i64 (i:Int) 1)))))
      (some (Out.nx (v,(t.1,t.2,b.1),A8 .i64 (i:Int) 1)))))):Option (Out (V3×V3×Int) (V3×V3) (V3×Int)))=
  some (match(l9 (plB (t.1,0,Jz k b.1 x.2.2 b.2)) (.inl (Jz k b.1 x.2.2 b.2,false)) (.inr ((0,0,0),3)):(Int×Bool)⊕(V3×Int))with| .inl b' => .nx ((0,0,0),(t.1,t.2,b'.1),((i+1:Nat):Int))| .inr r=> .rt r)/\
  (k≠36->plB (t.1,0,Jz k b.1 x.2.2 b.2)=true):=by
 subst hv;have hz:=WQ ha;obtain⟨hx1,hx2,hx3⟩:=a8X hx;have hxe:x=(t.1,t.2,x.2.2):=by rw[←hx2,←hx3]
 have hxp:plB (t.1,0,x.2.2)=true:=by rw[←hz,←hxe];exact hx1
 obtain⟨acc,fi⟩:=b;simp only at hb hp ⊢;rw[ja l7];rcases hk with rfl|rfl|rfl|rfl
 .refine⟨?_,λh=>absurd rfl h⟩;simp (disch:=decide) only[L8,o7,wM,o8];rw[hz,show Jz 36 acc x.2.2 fi=A8 .i64 acc x.2.2 from rfl];cases plB (t.1,0,A8 .i64 acc x.2.2)<;>rfl
 .have ht1:=b1M ha;have hp' :plB (t.1,0,acc)=true:=by
   rcases hp with h|h|h
   .exact absurd h E5
   .exact absurd h.2 E5
   .exact h
  have e1:=RI ht1 hp';have e2:=RI ht1 hxp;have e3:Jz 37 acc x.2.2 fi=ww acc x.2.2/\plB (t.1,0,Jz 37 acc x.2.2 fi)=true:=by rw[ht1];generalize x.2.2=q at e2 ⊢;rcases e1 with rfl|rfl<;>rcases e2 with rfl|rfl<;>exact⟨rfl,rfl⟩
  refine⟨?_,λ_=>e3.2⟩;simp (disch:=decide) only[L8,I4,o7,o6];rw[e3.2,e3.1,o7]
 .have ht1:t.1=1:=by
   unfold Pq at ha;rw[L8 hz]at ha;exact U4.1 ha
  have hp' :plB (t.1,0,acc)=true:=by
   rcases hp with h|h|h
   .exact absurd h E5
   .exact absurd h.2 E5
   .exact h
  have e1:=RI ht1 hp';have e2:=RI ht1 hxp;have e3:Jz 38 acc x.2.2 fi=qX acc x.2.2/\plB (t.1,0,Jz 38 acc x.2.2 fi)=true:=by rw[ht1];generalize x.2.2=q at e2 ⊢;rcases e1 with rfl|rfl<;>rcases e2 with rfl|rfl<;>exact⟨rfl,rfl⟩
  refine⟨?_,λ_=>e3.2⟩;simp (disch:=decide) only[L8,I4,o7,o6];rw[e3.2,e3.1,o7]
 .have hf:Jz 39 acc x.2.2 fi=l9 fi x.2.2 (l9 (F7 acc x.2.2) x.2.2 acc):=rfl;simp (disch:=decide) only[L8,I4,o7,o6];rw[hf];have hz' :x8 (i:Int) 0=fi:=by rw[hb];unfold x8;congr 1;simp
  rw[hz'];cases fi
  case true=>simp only[o7,hxp];exact⟨by rw[←hxe],λ_=>trivial⟩
  case false=>
   have hp' :plB (t.1,0,acc)=true:=by
    rcases hp with h|h|h
    .exact absurd h E5
    .exact absurd h.1 x9
    .exact h
   simp only[o6];cases F7 acc x.2.2
   .simp only[o6,hp',o7];exact⟨trivial,λ_=>trivial⟩
   .simp only[o7,hxp];exact⟨by rw[←hxe],λ_=>trivial⟩
theorem b3r{γ:Type}(c:Option γ)(K:γ->Option (V3×Int)):b3q (o5 c K)=o5 c λo=>b3q (K o):=by cases c<;>rfl
theorem xM{α β ρ:Type}(G:β->α->β⊕ρ)(P:ρ->Prop)(hG:∀b a r,G b a= .inr r->P r):∀(l:List α) (b:β) (r:ρ),eG G l b= .inr r->P r
 |[],b,r,h=>by cases h|a::l,b,r,h=>by
  unfold eG at h;cases hg:G b a with
  |inr r' =>rw[hg]at h;simp only at h;cases h;exact hG _ _ _ hg|inl b' =>rw[hg]at h;exact xM G P hG l b' r h
theorem b6i(k N:Int)(t:Int×Int)(b:Int×Bool)(m:List V3)(r:V3×Int)(h:Ig k N t b m= .inr r):r=((0,0,0),6)\/r=((0,0,0),8)\/r=((0,0,0),3):=by
 unfold Ig at h;cases hf:X_ m N t with
 |inr c=>
  rw[hf]at h;simp only at h;cases h;unfold X_ at hf;cases hm:H9 m N with
  |none=>rw[hm]at hf;cases hf;exact .inl rfl|some x=>
   rw[hm]at hf;simp only at hf;cases h1:x8 x.1 0<;>rw[h1]at hf
   .cases h2:UN x t<;>rw[h2]at hf<;>cases hf;exact .inr (.inl rfl)
   .cases hf;exact .inl rfl
 |inl x=>rw[hf]at h;simp only at h;cases h1:plB (t.1,0,Jz k b.1 x.2.2 b.2)<;>rw[h1]at h<;>cases h;exact .inr (.inr rfl)
theorem YE(k N:Int)(env:aA)(hk:k=36\/k=37\/k=38\/k=39)(he:jd (k,N) env=some true)(hl:env.2.2.2.1.length<=1000000):kR (k,N) [] env:=by
 have hN:0<=N/\N<o9 env.2.2.2.2.1:=by
  unfold jd at he;rcases hk with rfl|rfl|rfl|rfl <;>
  .simp (disch:=decide) only[L8,I4,o7,o6,o8]at he;by_cases g:0<=N
   case neg=>rw[aC l7]at he;cases he
   rw[ae g,o7]at he;exact⟨g,jV.1 (F8 he)⟩
 obtain⟨t,ht,_⟩:=qA hN.1 hN.2;refine⟨a2L k N t env.2.2.2.1,?_,?_⟩
 .unfold RP;rw[ll0,show S9 36 k=true from ae l7,show S9 k 39=true from ae l7,KP k N env t ht hN.1 hl];rfl
 have hA:aK (k,N) [] env=some (Pq k t):=by
  unfold aK;rcases hk with rfl|rfl|rfl|rfl <;>
  .simp (disch:=decide) only[L8,I4,o7,o6,o8,ht,a1z,Hw]
 have hC:aN (k,N) [] env=xJ (k,N) env:=by
  unfold aN;rcases hk with rfl|rfl|rfl|rfl <;>
  .simp (disch:=decide) only[L8,I4,o7,o6,o8];generalize xJ _ env=o;cases o<;>rfl
 unfold EP;rw[hA,o8,hC];unfold a2L;cases ha:Pq k t
 .rfl
 simp only[E8,o6,o7];have hz:=WQ ha;unfold xJ;simp only[ht,o8];rw[show l9 (x8 k 37) (some (t.1,t.2,(1:Int))) (some (t.1,t.2,0))=some (t.1,t.2,l9 (x8 k 37) 1 0) by cases x8 k 37<;>rfl,o8];have hinit:k=36\/(true=true/\k=39)\/plB (t.1,0,l9 (x8 k 37) 1 0)=true:=by
  rcases hk with rfl|rfl|rfl|rfl
  .exact .inl rfl
  .right;right;rw[b1M ha];rfl
  .right;right;have ht1:t.1=1:=by
    unfold Pq at ha;rw[L8 hz]at ha;exact U4.1 ha
   rw[ht1];rfl
  .exact .inr (.inl ⟨rfl,rfl⟩)
 by_cases hz0:k=39/\o9 env.2.2.2.1=0
 .rw[L8 hz0.1,L8 hz0.2];have:env.2.2.2.1=[]:=by have:=hz0.2;unfold o9 at this;exact P5.1 l7
  rw[this];rfl
 rw[show(l9 (x8 k 39) (l9 (x8 (o9 env.2.2.2.1) 0) (some (Sum.inr (((0,0,0),6):V3×Int))) (some (Sum.inl ((0,0,0):V3)))) (some (Sum.inl (0,0,0))))=some (.inl (0,0,0)) by
  by_cases h1:k=39
  .rw[L8 h1,I4 (λh=>hz0 ⟨h1,h⟩)];rfl
  .rw[I4 h1];rfl]
 simp only[o8,V4];have hend:(match eG (Ig k N t) env.2.2.2.1 (l9 (x8 k 37) 1 0,true)with
  | .inr c=>c
  | .inl a=>l9 (x8 k 39) (l9 (x8 (o9 env.2.2.2.1) 0) ((0,0,0),6) (IE (t.1,0,a.1))) (IE (t.1,0,a.1)))=(match eG (Ig k N t) env.2.2.2.1 (l9 (x8 k 37) 1 0,true)with
  | .inr c=>c
  | .inl a=>IE (t.1,0,a.1)):=by
  cases eG (Ig k N t) env.2.2.2.1 (l9 (x8 k 37) 1 0,true)with
  |inr c=>rfl|inl a=>
   by_cases h1:k=39
   .rw[L8 h1,I4 (λh=>hz0 ⟨h1,h⟩)];rfl
   .rw[I4 h1];rfl
 refine Eq.trans ?_ (congrArg some hend.symm);rw[b3r];apply pM env.2.2.2.1 (Ig k N t) (λb i=>(((0,0,0),(t.1,t.2,b.1),i):V3×V3×Int)) (λb=>(((0,0,0),(t.1,t.2,b.1)):V3×V3)) (λi b=>b.2=decide (i=0)/\(k=36\/(b.2=true/\k=39)\/plB (t.1,0,b.1)=true)) (l9 (x8 k 37) 1 0,true) hl ⟨rfl,hinit⟩
 .intro i m b hi hi' hb;have hm:=G8 env.2.2.2.1 i;rw[hi]at hm;have hlt:(i:Int)<o9 env.2.2.2.1:=by
   have:=U8.1 hi;obtain⟨h,_⟩:=this;unfold o9;omega
  simp only[U0 hlt,o7,hm,o8];by_cases g:o9 m<=N
  .have e:Ig k N t b m= .inr ((0,0,0),6):=by unfold Ig X_;rw[xO (.inr (L6 g))]
   rw[e];refine⟨?_,λ_ h=>by cases h⟩;rw[ae g];rfl
  rw[aC l7];obtain⟨x,hx,_⟩:=qA hN.1 (show N<o9 m by omega);simp only[o6,hx,o8];cases h0:x8 x.1 0
  case true=>
   have e:Ig k N t b m= .inr ((0,0,0),6):=by unfold Ig X_;rw[hx];simp only[h0];rfl
   rw[e];exact⟨rfl,λ_ h=>by cases h⟩
  simp only[o6,o8,V4,v_];cases hh:UN x t
  .have e:Ig k N t b m= .inr ((0,0,0),8):=by unfold Ig X_;rw[hx];simp only[h0,hh];rfl
   rw[e];exact⟨rfl,λ_ h=>by cases h⟩
  have e:Ig k N t b m=l9 (plB (t.1,0,Jz k b.1 x.2.2 b.2)) (.inl (Jz k b.1 x.2.2 b.2,false)) (.inr ((0,0,0),3)):=by unfold Ig X_;rw[hx];simp only[h0,hh,o7,o6]
  obtain⟨s1,s2⟩:=b3Y k N t hk ha b x hh i hi' hb.1 hb.2 (0,0,0) rfl;refine⟨?_,?_⟩
  .rw[e,E8,o6];refine Eq.trans (Eq.trans ?_ s1) ?_
   .rfl
   .cases plB (t.1,0,Jz k b.1 x.2.2 b.2)<;>rfl
  .intro b' hb';rw[e]at hb';cases hp:plB (t.1,0,Jz k b.1 x.2.2 b.2)<;>rw[hp]at hb'<;>cases hb';exact⟨x9,.inr (.inr hp)⟩
 .intro b hb;rw[L6 (show o9 env.2.2.2.1<=(env.2.2.2.1.length:Int)from aW _)];rfl
 .intro hf;cases hq:eG (Ig k N t) env.2.2.2.1 (l9 (x8 k 37) 1 0,true)with
  |inr c=>rcases xM (Ig k N t) (λr=>r=((0,0,0),6)\/r=((0,0,0),8)\/r=((0,0,0),3)) (b6i k N t) _ _ _ hq with rfl|rfl|rfl<;>rfl
  |inl a=>simp only[V4,FU,QP,hz]
theorem b2f{k e n:Int}(hk:k=5)(h:plB (k,e,n)=true):0<=n/\n<=109572:=by subst hk;rcases Uf h with⟨m,h,g⟩|⟨m,h,g⟩|⟨m,h,g⟩|⟨m,h,g⟩|⟨m,h,g⟩|⟨e',m,h,g⟩<;>cases h;exact g
theorem c3M(N:Int)(x:V3)(env:aA):kR (10,N) [x] env:=by
 unfold kR RP EP jC aK aN Jv vY;simp (disch:=decide) only[dG];simp only[JO,Gh,o8];cases l9 (S9 2 x.1) (S9 x.1 4) false
 .exact⟨_,rfl,rfl⟩
 .simp (disch:=decide) only[dG];exact⟨_,rfl,rfl⟩
theorem c3R(N:Int)(x:V3)(env:aA):kR (25,N) [x] env:=by
 unfold kR RP EP jC aK aN Jv vY;simp (disch:=decide) only[dG];cases x8 x.1 1
 .exact⟨_,rfl,rfl⟩
 .simp (disch:=decide) only[dG];exact⟨_,rfl,rfl⟩
theorem b1j(k N:Int)(x:V3)(env:aA)(hk:k=31\/k=32)(hx:plB x=true):kR (k,N) [x] env:=by
 have hAB:∃q:Int×Int×Int,x.1=5->Am x.2.2=some q/\Hl x.2.2=some q:=⟨_,λh=>⟨Gz (b2f h hx).1 (b2f h hx).2,Qx (b2f h hx).1 (b2f h hx).2⟩⟩;obtain⟨q,hAB⟩:=hAB;rcases hk with rfl|rfl
 all_goals
  unfold kR RP EP jC aK aN Jv vY;simp (disch:=decide) only[dG];cases h5:x8 x.1 5
  .simp only[bY,o7,o8,Hw];exact⟨_,rfl,rfl⟩
  rw[(hAB (U4.1 h5)).1,(hAB (U4.1 h5)).2];simp (disch:=decide) only[dG];exact⟨_,rfl,rfl⟩
theorem c3X(N:Int)(x:V3)(env:aA)(hx:plB x=true)(he:jd (33,N) env=some true)(ht:∀t∈env.2.2.2.2.2,BV t):kR (33,N) [x] env:=by
 unfold jd at he;simp (disch:=decide) only[L8,I4,o7,o6,o8]at he;by_cases g:0<=N
 case neg=>rw[aC l7]at he;cases he
 rw[ae g,o7]at he;obtain⟨t,hq,hm⟩:=qA g (jV.1 (F8 he));have hr:=ht t hm;unfold kR RP EP jC aK aN Ob;simp (disch:=decide) only[dG];simp only[hq,o8,v_,UN,hx,o7];by_cases h1:x.1=t.2.1.1
 case neg=>rw[I4 h1];exact⟨_,rfl,rfl⟩
 rw[L8 h1];by_cases h2:x.2.1=t.2.1.2
 case neg=>rw[I4 h2];exact⟨_,rfl,rfl⟩
 rw[L8 h2];by_cases h3:1<=t.2.2.1.1
 case neg=>rw[aC (nO.1 h3),U0 (nO.1 h3)];exact⟨_,rfl,rfl⟩
 rw[ae h3,L6 h3];by_cases h4:t.2.2.1.1<=6
 case neg=>rw[aC (nO.1 h4),U0 (nO.1 h4)];exact⟨_,rfl,rfl⟩
 rw[ae h4,L6 h4];simp (disch:=decide) only[dG];rw[b3B _ _ (by have:=hr.1;omega),a0v _ _ (by have:=hr.1;omega)];simp (disch:=decide) only[dG];cases hl:UY t.2.2.2 env.1 x.2.2 with
 |mk i b=>
  cases b
  .exact⟨_,rfl,rfl⟩
  .obtain⟨l1,l2⟩:=b6f hl;obtain⟨row,hrow,_⟩:=qA l1 l2;simp (disch:=decide) only[dG];rw[hrow];simp (disch:=decide) only[dG];unfold IE;cases plB (t.2.2.1.1,t.2.2.1.2,row.2.2.2)<;>exact⟨_,rfl,rfl⟩
theorem c3Y(N:Int)(x:V3)(env:aA)(h0:0<=N)(hI:N<=9223372036854775807)(he:jd (34,N) env=some true)(ht:∀t∈env.2.2.2.2.2,BV t):kR (34,N) [x] env:=by
 unfold jd at he;simp (disch:=decide) only[L8,I4,o7,o6,o8]at he;have hq0:0<=eH .i64 N 8:=by
  rw[show eH .i64 N 8=N / 8 by unfold eH;rw[Int.tdiv_eq_ediv_of_nonneg h0];exact lY O6]
  omega
 obtain⟨t,hq,hm⟩:=qA hq0 (jV.1 (F8 he));have hr:=ht t hm;unfold kR RP EP jC aK aN;simp (disch:=decide) only[dG];simp only[hq,o8];cases x8 x.1 3
 .exact⟨_,rfl,rfl⟩
 cases x8 t.2.1.1 3
 .exact⟨_,rfl,rfl⟩
 cases x8 t.2.1.2 0
 .exact⟨_,rfl,rfl⟩
 cases x8 t.2.2.1.1 4
 .exact⟨_,rfl,rfl⟩
 cases x8 t.2.2.1.2 0
 .exact⟨_,rfl,rfl⟩
 simp (disch:=decide) only[dG];rw[show fF true true=true from rfl];simp (disch:=decide) only[dG];rw[a5R _ _ _ hr,a4C _ _ _ hr];simp (disch:=decide) only[dG];exact⟨_,rfl,rfl⟩
end Go.GP
