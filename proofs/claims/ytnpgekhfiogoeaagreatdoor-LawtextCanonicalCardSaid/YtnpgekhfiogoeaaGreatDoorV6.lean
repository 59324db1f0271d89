import Derived.Test.YtnpgekhfiogoeaaGreatDoorV5
import Derived.Test.YtnpgekhfiogoeaaGreatDoorV2
import Derived.Test.YtnpgekhfiogoeaaGreatDoorV3
import Derived.Lib.ItoaLen
set_option linter.all false
namespace Go.GP
variable {a:Int}{b:Int}
section
variable {α β σ ε ρ:Type}
@[simp] theorem o9 (x:α) (f:α->Option β):l9 (some x) f=f x:=rfl
@[simp] theorem b0U (f:α->Option β):l9 none f=none:=rfl
theorem Yy{o:Option α}{x:α}(h:o=some x)(f:α->Option β):l9 o f=f x:=by rw[h];rfl
theorem X7{o o' :Option α}(h:o=o'){K:α->Option β}{r:Option β}(h2:l9 o' K=r):l9 o K=r:=by rw[h];exact h2
theorem bb(a b:Bool):l7 a (some b) (some false)=some (a&&b):=by cases a<;>rfl
theorem bF(o:Option α):l9 o (λx=>some x)=o:=by cases o<;>rfl
@[simp] theorem o7 (x y:α):l7 true x y=x:=rfl
@[simp] theorem o6 (x y:α):l7 false x y=y:=rfl
theorem vF(b:Bool)(x y:α):l7 b x y=if b=true then x else y:=by cases b<;>rfl
theorem nM{b:Bool}(h:b=true)(x y:α):l7 b x y=x:=by rw[h];rfl
theorem oJ{b:Bool}(h:b=false)(x y:α):l7 b x y=y:=by rw[h];rfl
@[simp] theorem W9 (s:σ) (f:σ->α) (g:ε->α):aj (.inl s) f g=f s:=rfl
@[simp] theorem cO (s:ε) (f:σ->α) (g:ε->α):aj (.inr s) f g=g s:=rfl
@[simp] theorem F6:G7 true=false:=rfl
@[simp] theorem I7:G7 false=true:=rfl
theorem bu(h:a<b):J4 a b=true:=by simp[J4,h]
theorem X3(h:b<=a):J4 a b=false:=by simp[J4];omega
theorem aS(h:a<=b):U6 a b=true:=by simp[U6,h]
theorem dP(h:b<a):U6 a b=false:=by simp[U6];omega
theorem V5(h:a=b):D6 a b=true:=by simp[D6,h]
theorem N7(h:a≠b):D6 a b=false:=by simp[D6,h]
theorem zY :J4 a b=true↔a<b:=by simp[J4]
theorem iJ :U6 a b=true↔a<=b:=by simp[U6]
theorem X8 :D6 a b=true↔a=b:=by simp[D6]
theorem lg :J4 a b=false↔b<=a:=by simp[J4]
theorem Hw :U6 a b=false↔b<a:=by simp[U6]
theorem iV :D6 a b=false↔a≠b:=by simp[D6]
theorem dU{a b:List UInt8} :seq a b=true↔a=b:=by simp[seq]
theorem WZ{a b:List UInt8} :seq a b=false↔a≠b:=by simp[seq]
theorem pO(h:0<=a):a.tdiv b=a / b:=Int.tdiv_eq_ediv_of_nonneg h
theorem BX(h:0<=a):mQ a b=a % b:=Int.tmod_eq_emod_of_nonneg h
def fE(n:Int):Prop:=-9223372036854775808<=n/\n<=9223372036854775807
theorem dm{p:Int}(h:fE p:=by unfold fE;omega):fE p:=h
def U64(n:Int):Prop:=0<=n/\n<=18446744073709551615
theorem zg{n:Int}(h:fE n):IntKind.wrap .i64 n=n:=by unfold fE at h;unfold IntKind.wrap;simp[IntKind.signed,IntKind.bits];omega
theorem NC{n:Int}(h:U64 n):IntKind.wrap .u64 n=n:=by unfold U64 at h;unfold IntKind.wrap;simp[IntKind.signed,IntKind.bits];omega
theorem eU(h:fE (a+b)):G9 .i64 a b=a+b:=zg h
theorem dW(h:fE (a -b)):L6 .i64 a b=a -b:=zg h
theorem RX(h:fE (a*b)):KD .i64 a b=a*b:=zg h
theorem LM(h:fE (a.tdiv b)):gV .i64 a b=a.tdiv b:=zg h
theorem Yc(h:U64 (a+b)):G9 .u64 a b=a+b:=NC h
theorem a4F(h:U64 (a.tdiv b)):gV .u64 a b=a.tdiv b:=NC h
theorem Yj(l:List α):0<=x8 l:=by simp[x8]
theorem U2(l:List α)(i:Nat):O0 l (i:Int)=l[i]?:=by simp[O0]
theorem lX{l:List α}{i:Int}{x:α}(h:O0 l i=some x):0<=i/\i<x8 l/\x∈l/\l[i.toNat]? =some x:=by
 unfold O0 at h;split at h
 .rename_i h0;obtain⟨h1,h2⟩:=ai.1 h;refine⟨h0,by simp[x8];omega,?_,h⟩;rw[←h2];exact Y1 h1
 .cases h
theorem um{l:List α}{i:Int}(h0:0<=i)(h:i<x8 l):∃x,O0 l i=some x/\x∈l:=by
 unfold x8 at h;refine⟨l[i.toNat]'o5,?_,Y1 _⟩;unfold O0
 rw[if_pos h0,mW]
theorem yS(l:List UInt8)(i:Nat):sat l (i:Int)=(l[i]?).map λc=>(c.toNat:Int):=by simp[sat]
theorem J7{a b:List UInt8}(h:a.length+b.length<=4611686018427387904):U5 a b=some (a++b):=by simp[U5,h]
theorem rY{a b:List α}(h:a.length+b.length<=1073741824):dB a b=some (a++b):=by simp[dB,h]
theorem LW{l:List α}{lo hi:Int}(h0:0<=lo)(h1:lo<=hi)(h2:hi<=l.length):fO l lo hi=some ((l.take hi.toNat).drop lo.toNat):=by simp[fO,h0,h1,h2]
theorem wO{l:List α}{hi:Int}(h1:0<=hi)(h2:hi<=l.length):fO l 0 hi=some (l.take hi.toNat):=by rw[LW o5 h1 h2];simp
theorem ql{l:List α}{lo:Int}(h1:0<=lo)(h2:lo<=l.length):fO l lo (x8 l)=some (l.drop lo.toNat):=by rw[LW h1 (by simp[x8];omega) (by simp[x8])];simp[x8]
end
section
variable {σ ε ρ:Type}
theorem Px{f:σ->Option (σ⊕ε)}(Inv:σ->Prop)(Q:ε->Prop)(meas:σ->Nat)
  (h:∀s,Inv s->(∃s',f s=some (.inl s')/\Inv s' /\meas s' <meas s)\/(∃e,f s=some (.inr e)/\Q e)):
  ∀n s,Inv s->meas s<n->∃e,xN f n s=some e/\Q e
 |0,_,_,h=>by omega|n+1,s,hi,hm=>by
  unfold xN;rcases h s hi with⟨s',e,hi',hm'⟩|⟨x,e,hx⟩
  .rw[e];exact Px Inv Q meas h n s' hi' o5
  .rw[e];exact⟨x,rfl,hx⟩
theorem rJ{f:σ->Option (σ⊕ε)}{s:σ}(Inv:σ->Prop)(Q:ε->Prop)(meas:σ->Nat)(hi:Inv s)(hm:meas s<18446744073709551616)
  (h:∀s,Inv s->(∃s',f s=some (.inl s')/\Inv s' /\meas s' <meas s)\/(∃e,f s=some (.inr e)/\Q e)):∃e,dD f s=some e/\Q e:=
 Px Inv Q meas h _ s hi hm
theorem Su{f:σ->Option (Out σ ε ρ)}(Inv:σ->Prop)(Q:ε->Prop)(Qr:ρ->Prop)(meas:σ->Nat)
  (h:∀s,Inv s->(∃s',f s=some (.nx s')/\Inv s' /\meas s' <meas s)\/(∃e,f s=some (.ex e)/\Q e)\/(∃r,f s=some (.rt r)/\Qr r)):
  ∀n s,Inv s->meas s<n->(∃e,iT f n s=some (.inl e)/\Q e)\/(∃r,iT f n s=some (.inr r)/\Qr r)
 |0,_,_,h=>by omega|n+1,s,hi,hm=>by
  unfold iT;rcases h s hi with⟨s',e,hi',hm'⟩|⟨x,e,hx⟩|⟨x,e,hx⟩
  .rw[e];exact Su Inv Q Qr meas h n s' hi' o5
  .rw[e];exact .inl ⟨x,rfl,hx⟩
  .rw[e];exact .inr ⟨x,rfl,hx⟩
theorem jw{f:σ->Option (Out σ ε ρ)}{s:σ}(Inv:σ->Prop)(Q:ε->Prop)(Qr:ρ->Prop)(meas:σ->Nat)(hi:Inv s)(hm:meas s<18446744073709551616)
  (h:∀s,Inv s->(∃s',f s=some (.nx s')/\Inv s' /\meas s' <meas s)\/(∃e,f s=some (.ex e)/\Q e)\/(∃r,f s=some (.rt r)/\Qr r)):
  (∃e,S9 f s=some (.inl e)/\Q e)\/(∃r,S9 f s=some (.inr r)/\Qr r):=
 Su Inv Q Qr meas h _ s hi hm
end
section
variable {α β ε ρ:Type}
open Classical in
theorem a2S(l:List α)(p:Nat->α->Bool)(r:ρ)(e:ε)(f:Int->Option (Out Int ε ρ))(hl:l.length<18446744073709551616)
  (hin:∀(i:Nat) (a:α),l[i]? =some a->f (i:Int)=if p i a=true then some (.nx ((i+1:Nat):Int))else some (.rt r))
  (hend:f (l.length:Int)=some (.ex e)):
  S9 f 0=if(∀i a,l[i]? =some a->p i a=true)then some (.inl e)else some (.inr r):=by
 have key:∀(n i:Nat),i<=l.length->l.length -i<n->(∀j a,j<i->l[j]? =some a->p j a=true)->iT f n (i:Int)=if(∀i a,l[i]? =some a->p i a=true)then some (.inl e)else some (.inr r):=by
  intro n;induction n with
  |zero=>intro i _ h;omega|succ n ih=>
   intro i hi hn hp;unfold iT;by_cases h:i<l.length
   .have e' :=mW h;rw[hin i _ e'];by_cases hpi:p i l[i]=true
    .rw[if_pos hpi];exact ih (i+1) o5 o5 λj a hj ha=>by
      by_cases hji:j=i
      .subst hji;rw[e']at ha;cases ha;exact hpi
      .exact hp j a o5 ha
    .rw[if_neg hpi,if_neg];intro hall;exact hpi (hall i _ e')
   .have:i=l.length:=o5;subst this;rw[hend,if_pos];intro j a ha;exact hp j a (ai.1 ha).1 ha
 exact key _ 0 (aU _) hl λj a hj=>by omega
end
end Go.GP
namespace Go.GP
section
variable {α β α' β' σ τ ε ε' ρ ρ' :Type}
theorem Ia{p:Nat->Option ρ}(n:Nat)(hn:n<18446744073709551616)(e:ε){f:Int->Option (Out Int ε ρ)}
  (h1:∀i,i<n->f (i:Int)=some (match p i with|some r=> .rt r|none=> .nx ((i+1:Nat):Int))) (h2:f (n:Int)=some (.ex e)):
  S9 f 0=some (match(List.range n).findSome? p with|some r=> .inr r|none=> .inl e):=by
 have key:∀m i,i+m=n->∀k,m<k->iT f k (i:Int)=some (match(List.range' i m).findSome? p with|some r=> .inr r|none=> .inl e):=by
  intro m;induction m with
  |zero=>intro i hi k hk;obtain⟨k,rfl⟩:∃k',k=k' +1:=⟨k -1,o5⟩;have:i=n:=o5;subst this;unfold iT;rw[h2];rfl
  |succ m ih=>
   intro i hi k hk;obtain⟨k,rfl⟩:∃k',k=k' +1:=⟨k -1,o5⟩;unfold iT;rw[h1 i o5,mZ,List.findSome?_cons];cases hp:p i with
   |some r=>rfl|none=>exact ih (i+1) o5 k o5
 have:=key n 0 o5 fQ hn;rw[List.range_eq_range'];exact this
end
end Go.GP
namespace Go.GP
open Gt
set_option maxRecDepth 100000
variable {i:Nat}
theorem dC(h:i<=9000000000000000000):G9 .i64 (i:Int) 1=((i+1:Nat):Int):=by rw[eU dm];omega
def Oh(c:UInt8):Bool:=decide (97<=c.toNat)&&decide (c.toNat<=122)
def zf(c:UInt8):Bool:=Oh c || (decide (48<=c.toNat)&&decide (c.toNat<=57)) || decide (c.toNat=95)
def UD:List (List UInt8):=vW.getD []
def tC(s:List UInt8):Bool:=match s with|[]=>false|c::r=>decide (s.length<=16)&&Oh c&&s.all zf&&!(UD.any λw=>seq s w)
theorem Vg(c:UInt8)(r:List UInt8):tC (c::r)=(decide ((c::r).length<=16)&&Oh c&&(c::r).all zf&&!(UD.any λw=>seq (c::r) w)):=rfl
theorem Ib(c:UInt8):kJ (c.toNat:Int)=some (Oh c):=by
 unfold kJ Oh;cases h:decide (97<=c.toNat)<;>simp only[decide_eq_true_eq,decide_eq_false_iff_not]at h
 .rw[dP o5];rfl
 .rw[aS o5];simp only[o7,uk,U6];congr 1;by_cases h2:c.toNat<=122<;>simp[h2]<;>omega
def zh(c:UInt8):Bool:=decide (48<=c.toNat)&&decide (c.toNat<=57)
theorem Ee(c:UInt8):fG (c.toNat:Int)=some (zh c):=by
 unfold fG zh;cases h:decide (48<=c.toNat)<;>simp only[decide_eq_true_eq,decide_eq_false_iff_not]at h
 .rw[dP o5];rfl
 .rw[aS o5];simp only[o7,uk,U6];congr 1;by_cases h2:c.toNat<=57<;>simp[h2]<;>omega
theorem a9R(c:UInt8):D6 (c.toNat:Int) 95=decide (c.toNat=95):=by unfold D6;by_cases h:c.toNat=95<;>simp[h]<;>omega
theorem Uz{s:List UInt8}(h:s.length<=1000000):∃k,nC s=some k/\(k=x8 s↔s.all zf=true):=by
 unfold nC;have:=rJ (f:=λ(x:Int)=>l7 (J4 x (x8 s)) (l9 (sat s x) λx_1=>l9 (kJ x_1) λx_2=>l7 x_2 (some (Sum.inl (G9 IntKind.i64 x 1)))
   (l9 (sat s x) λx_3=>l9 (fG x_3) λx_4=>l7 x_4 (some (Sum.inl (G9 IntKind.i64 x 1))) (l9 (sat s x) λx_5=>l7 (D6 x_5 95) (some (Sum.inl (G9 IntKind.i64 x 1))) (some (Sum.inr x))))) (some (Sum.inr x)))
  (s:=0) (λx=>∃i:Nat,x=i/\i<=s.length/\(s.take i).all zf=true) (λk=>k=x8 s↔s.all zf=true) (λx=>s.length -x.toNat) ⟨0,rfl,o5,rfl⟩ G5 ?_
 .obtain⟨k,h1,h2⟩:=this;refine⟨k,?_,h2⟩;rw[bF];exact h1
 .rintro x ⟨i,rfl,hi,hall⟩;by_cases hl:i<s.length
  .have e:=mW hl;simp only[bu (show(i:Int)<x8 s by simp[x8];omega),o7,yS,e,dA,o9,Ib,Ee,a9R];have hst:(s.take (i+1)).all zf=((s.take i).all zf&&zf s[i]):=by rw[X5 hl,List.all_append];simp
   have hw:zf s[i]=(Oh s[i] || zh s[i] || decide (s[i].toNat=95)):=rfl;cases hwb:zf s[i]with
   |true=>left;refine⟨((i+1:Nat):Int),?_,⟨i+1,rfl,hl,by rw[hst,hall,hwb];rfl⟩,by simp;omega⟩;rw[dC o5];rw[hw]at hwb;cases h1:Oh s[i]<;>cases h2:zh s[i]<;>cases h3:decide (s[i].toNat=95)<;>rw[h1,h2,h3]at hwb<;>first|rfl|cases hwb
   |false=>
    right;refine⟨(i:Int),?_,?_⟩
    .rw[hw]at hwb;cases h1:Oh s[i]<;>cases h2:zh s[i]<;>cases h3:decide (s[i].toNat=95)<;>rw[h1,h2,h3]at hwb<;>first|rfl|cases hwb
    .constructor
     .intro h;simp[x8]at h;omega
     .intro h;have:=kC.1 h s[i] (Y1 hl);rw[hwb]at this;cases this
  .right;have:i=s.length:=o5;subst this;rw[bT]at hall;exact⟨_,by rw[X3 (by simp[x8])];rfl,by simp[x8,hall]⟩
theorem a3r{a:List UInt8}{w:List UInt8}{r:Option Bool}{x:Bool}(h:r=some x):l7 (seq a w) (some (seq a w)) r=some (seq a w || x):=by rw[h];cases seq a w<;>rfl
theorem YR(s:List UInt8):yI s=some (UD.any λw=>seq s w):=by
 unfold yI;refine X7 (o' :=some (UD.any λw=>seq s w)) ?_ (by cases UD.any λw=>seq s w<;>rfl);have hr:UD=(vW).getD []:=rfl;rw[show(UD.any λw=>seq s w)=List.foldr (λw b=>seq s w || b) false UD from by induction UD with|nil=>rfl|cons w l ih=>simp[List.any_cons,ih]];unfold UD vW;simp only[Y2,List.foldr]
 repeat (refine a3r ?_)
 simp
theorem lY{s:List UInt8}(h:s.length<=1000000):eX s=some (tC s):=by
 unfold eX;cases s with
 |nil=>rfl|cons c r=>
  have h1:seq (c::r) []=false:=by simp[seq]
  obtain⟨k,h2,h3⟩:=Uz h;rw[h1];simp only[I7,o7];rw[show sat (c::r) 0=some (c.toNat:Int)from rfl,o9,Ib,o9,h2,o9,YR,o9];have h4:D6 k (x8 (c::r))=(c::r).all zf:=by rw[kV,X8];exact h3
  have h5:U6 (x8 (c::r)) 16=decide ((c::r).length<=16):=by simp only[U6,x8];congr 1;simp;omega
  rw[h4,h5,Vg];cases Oh c<;>cases (c::r).all zf<;>cases decide ((c::r).length<=16)<;>rfl
theorem uA(t:Int×Int)(en:List P5):bG t en=Y5 t en:=by
 unfold bG Y5;by_cases h1:t.1=1
 .simp[D6,h1,U6]
 by_cases h2:t.1=2
 .simp[D6,h2,U6]
 by_cases h3:t.1=3
 .simp[D6,h3,U6]
 by_cases h4:t.1=4
 .simp[D6,h4,U6]
 by_cases h5:t.1=5
 .simp[D6,h5,U6]
 by_cases h6:t.1=6
 .simp[D6,h6,U6]
 .simp only[D6,h1,h2,h3,h4,h5,h6,decide_false,o6,o9];by_cases h7:1<=t.1
  .rw[nM (aS h7),oJ (dP o5)]
  .rw[oJ (dP o5)]
theorem Ja(t:Int×Int)(en:List P5):jK t en=dI t en:=by unfold jK dI;rw[uA]
def vty(t:Int×Int)(en:List P5):Bool:=l7 (D6 t.1 6) (l7 (U6 0 t.2) (J4 t.2 (x8 en)) false) (l7 (U6 1 t.1) (l7 (U6 t.1 5) (D6 t.2 0) false) false)
theorem nZ(t:Int×Int)(en:List P5):Y5 t en=some (vty t en):=by unfold Y5 vty;cases D6 t.1 6<;>cases U6 0 t.2<;>cases U6 1 t.1<;>cases U6 t.1 5<;>rfl
theorem qh(t:Int×Int)(en:List P5):bG t en=some (vty t en):=(uA t en).trans (nZ t en)
theorem WL(t:Int×Int)(en:List P5):∃b:Int×Int,dI t en=some b:=by
 unfold dI;rw[nZ,o9];cases hv:vty t en
 .exact⟨_,rfl⟩
 simp only[F6,o6];cases h1:D6 t.1 1<;>simp only[o7,o6]
 .cases h2:D6 t.1 2<;>simp only[o7,o6]
  .cases h3:D6 t.1 3<;>simp only[o7,o6]
   .cases h4:D6 t.1 4<;>simp only[o7,o6]
    .cases h5:D6 t.1 5<;>simp only[o7,o6]
     .have h6:D6 t.1 6=true/\U6 0 t.2=true/\J4 t.2 (x8 en)=true:=by
       unfold vty at hv;rw[iV]at h1 h2 h3 h4 h5;cases h6:D6 t.1 6<;>rw[h6]at hv
       .rw[iV]at h6;cases h7:U6 1 t.1<;>rw[h7]at hv
        .cases hv
        cases h8:U6 t.1 5<;>rw[h8]at hv
        .cases hv
        rw[iJ]at h7 h8;omega
       .cases h7:U6 0 t.2<;>rw[h7]at hv
        .cases hv
        .exact⟨rfl,rfl,hv⟩
      obtain⟨x,hx,_⟩:=um (iJ.1 h6.2.1) (zY.1 h6.2.2);rw[hx];exact⟨_,rfl⟩
     .exact⟨_,rfl⟩
    .exact⟨_,rfl⟩
   .exact⟨_,rfl⟩
  .exact⟨_,rfl⟩
 .exact⟨_,rfl⟩
def bnd(t:Int×Int)(en:List P5):Int×Int:=(dI t en).getD (0,0)
theorem KQ(t:Int×Int)(en:List P5):dI t en=some (bnd t en):=by obtain⟨b,h⟩:=WL t en;unfold bnd;rw[h];rfl
theorem zo(t:Int×Int)(en:List P5):jK t en=some (bnd t en):=(Ja t en).trans (KQ t en)
def inB(n:Int)(b:Int×Int):Bool:=l7 (U6 b.1 n) (U6 n b.2) false
def EQ(r:Int×Int):Bool:=l7 (U6 0 r.1) (l7 (U6 r.1 r.2) (U6 r.2 109573) false) false
theorem NR(r:Int×Int):uG r=some (EQ r):=by unfold uG EQ;cases U6 0 r.1<;>cases U6 r.1 r.2<;>rfl
def a1b(a b:Int×Int):(Int×Int)×Bool:=l7 (EQ a) (l7 (EQ b) (l7 (U6 (zk a.2 b.2) (zi a.1 b.1)) ((0,0),false) ((zi a.1 b.1,zk a.2 b.2),true)) ((0,0),false)) ((0,0),false)
theorem a9u(a b:Int×Int):rX a b=some (a1b a b):=by
 unfold rX uZ a1b;rw[NR,o9,NR,o9];cases EQ a
 .rfl
 simp only[o7];cases h1:J4 a.1 a.2
 .rw[lg]at h1;rw[aS (show zk a.2 b.2<=zi a.1 b.1 by unfold zk zi;omega)];cases EQ b<;>rfl
 simp only[o9,F6,o6];cases EQ b
 .rfl
 simp only[o7];cases h2:J4 b.1 b.2
 .rw[lg]at h2;rw[aS (show zk a.2 b.2<=zi a.1 b.1 by unfold zk zi;omega)];rfl
 .cases U6 (zk a.2 b.2) (zi a.1 b.1)<;>rfl
def BN(a b:uC):Bool:=l7 (a1b a.1 b.1).2 (J4 (zi a.2.1 b.2.1) (zk a.2.2.1 b.2.2.1)) false
theorem XK(a b:uC):yX a b=some (BN a b):=by unfold yX BN;rw[a9u,o9];cases (a1b a.1 b.1).2<;>rfl
theorem a4q{l:List uC}(r:uC)(h:l.length<=1000000):∃k:Int,su l r=some (k,l.any λy=>BN y r):=by
 unfold su;have key:=jw (f:=λ(x:Int)=>l7 (J4 x (x8 l)) (l9 (O0 l x) λx_1=>l9 (tu x_1 r) λx_2=>l7 x_2 (some (Out.rt (x,true))) (some (Out.nx (G9 IntKind.i64 x 1)))) (some (Out.ex PUnit.unit)))
   (s:=0) (λx=>∃i:Nat,x=i/\i<=l.length/\(l.take i).any (λy=>BN y r)=false) (λ_=>(l.any λy=>BN y r)=false) (λk=>k.2=true/\(l.any λy=>BN y r)=true) (λx=>l.length -x.toNat) ⟨0,rfl,o5,rfl⟩ G5 ?_
 .rcases key with⟨e,h1,h2⟩|⟨k,h1,h2,h3⟩
  .exact⟨0,by rw[h1,h2];rfl⟩
  .refine⟨k.1,?_⟩;rw[h1,h3,←h2];rfl
 .rintro x ⟨i,rfl,hi,hall⟩;by_cases hl:i<l.length
  .have e:=mW hl;have hst:(l.take (i+1)).any (λy=>BN y r)=((l.take i).any (λy=>BN y r) || BN l[i] r):=by rw[X5 hl,Aj];simp
   have hv:tu l[i] r=some (BN l[i] r):=by unfold tu;rw[XK];rfl
   simp only[bu (show(i:Int)<x8 l by simp[x8];omega),o7,U2,e,o9,hv];cases hc:BN l[i] r with
   |true=>exact .inr (.inr ⟨_,rfl,rfl,uV.2 ⟨l[i],Y1 hl,hc⟩⟩)|false=>exact .inl ⟨((i+1:Nat):Int),by rw[dC o5];rfl,⟨i+1,rfl,hl,by rw[hst,hall,hc];rfl⟩,by simp;omega⟩
  .have:i=l.length:=o5;subst this;rw[bT]at hall;exact .inr (.inl ⟨_,by rw[X3 (by simp[x8])];rfl,hall⟩)
def Lh(x:uC)(bl br:Int×Int):Bool:=
 l7 (EQ x.1) (l7 (D6 x.1.1 x.1.2) true (l7 (U6 x.2.2.1 x.2.1) true (l7 (inB x.2.1 bl) (l7 (inB (L6 .i64 x.2.2.1 1) bl) (G7 (inB x.2.2.2 br)) true) true))) true
def TJ(t:V4)(en:List P5)(i:Nat):Option (Int×Int):=match t.2.2.2[i]? with
 |some x=>l7 (Lh x (bnd t.2.1 en) (bnd t.2.2.1 en)) (some ((i:Int),3)) (l7 ((t.2.2.2.take i).any λy=>BN y x) (some ((i:Int),11)) none)|none=>none
def Lc(t:V4)(en:List P5):Int×Int:=
 l7 (J4 64 (x8 t.2.2.2)) (64,4) (l7 (vty t.2.1 en) (l7 (vty t.2.2.1 en) (match(List.range t.2.2.2.length).findSome? (TJ t en)with|some r=>r|none=>(0,0)) (-1,8)) (-1,8))
theorem Dn(a b:Int):J4 a b= !U6 b a:=by simp only[J4,U6];rw[←decide_not];congr 1;simp
variable {α:Type}
theorem xY{l:List α}(h:i<=l.length):fO l 0 (i:Int)=some (l.take i):=by rw[wO o5 o5];simp
theorem a7F(t:V4)(en:List P5):yV t en=some (Lc t en):=by
 unfold yV Lc;rw[qh,o9,qh,o9];cases h64:J4 64 (x8 t.2.2.2)
 case true=>rfl
 simp only[o6];cases vty t.2.1 en
 .rfl
 cases vty t.2.2.1 en
 .rfl
 simp only[F6,o6,o9,W9,o7,zo];have hlen:t.2.2.2.length<=64:=by rw[lg]at h64;simp only[x8]at h64;omega
 refine X7 (Ia (p:=TJ t en) t.2.2.2.length o5 PUnit.unit (λi hi=>?_) ?_) ?_
 rotate_left 2
 .cases (List.range t.2.2.2.length).findSome? (TJ t en)<;>rfl
 .have e:=mW hi;simp only[bu (show(i:Int)<x8 t.2.2.2 by simp only[x8];omega),o7,U2,e,o9,TJ,NR,xY (show i<=t.2.2.2.length by omega)];obtain⟨k,hk⟩:=a4q (l:=t.2.2.2.take i) t.2.2.2[i] G5;rw[hk,dC o5];unfold Lh inB;simp only[Dn];generalize bnd t.2.1 en=bl;generalize bnd t.2.2.1 en=br;cases EQ t.2.2.2[i].1
  .rfl
  cases D6 t.2.2.2[i].1.1 t.2.2.2[i].1.2
  case true=>rfl
  cases U6 t.2.2.2[i].2.2.1 t.2.2.2[i].2.1
  case true=>rfl
  cases U6 bl.1 t.2.2.2[i].2.1
  .rfl
  cases U6 t.2.2.2[i].2.1 bl.2
  .rfl
  cases U6 bl.1 (L6 IntKind.i64 t.2.2.2[i].2.2.1 1)
  .rfl
  cases U6 (L6 IntKind.i64 t.2.2.2[i].2.2.1 1) bl.2
  .rfl
  cases U6 br.1 t.2.2.2[i].2.2.2
  .rfl
  cases U6 t.2.2.2[i].2.2.2 br.2
  .rfl
  cases (t.2.2.2.take i).any λy=>BN y t.2.2.2[i]<;>rfl
 .rw[X3 (by simp[x8])];rfl
section
variable {α ε ρ:Type}
theorem zx(l:List α)(p:α->Bool){f:Int->Option (Out Int PUnit Int)}(hl:l.length<=1000000)
  (hin:∀(i:Nat) (a:α),l[i]? =some a->f (i:Int)=some (bif p a then .rt (i:Int)else .nx (G9 .i64 (i:Int) 1))) (hend:f (l.length:Int)=some (.ex PUnit.unit)):
  l9 (l9 (S9 f 0) λo=>aj o (λ_=>some (-1)) λr=>some r) (λx=>some (U6 0 x))=some (l.any p):=by
 have key:=jw (f:=f) (s:=0) (λx=>∃i:Nat,x=i/\i<=l.length/\(l.take i).any p=false) (λ_=>l.any p=false) (λk=>0<=k/\l.any p=true) (λx=>l.length -x.toNat) ⟨0,rfl,o5,rfl⟩ G5 ?_
 .rcases key with⟨e,h1,h2⟩|⟨k,h1,h2,h3⟩
  .rw[h1,h2];rfl
  .rw[h1,h3,o9,cO,o9,aS h2]
 .rintro x ⟨i,rfl,hi,hall⟩;by_cases h:i<l.length
  .have e:=mW h;have hst:(l.take (i+1)).any p=((l.take i).any p || p l[i]):=by rw[X5 h,Aj];simp
   rw[hin i _ e];cases hc:p l[i]with
   |true=>exact .inr (.inr ⟨_,rfl,o5,uV.2 ⟨l[i],Y1 h,hc⟩⟩)|false=>exact .inl ⟨((i+1:Nat):Int),by rw[dC o5];rfl,⟨i+1,rfl,h,by rw[hst,hall,hc];rfl⟩,by simp;omega⟩
  .have:i=l.length:=o5;subst this;rw[bT]at hall;exact .inr (.inl ⟨_,hend,hall⟩)
theorem X9{l:List α}{a:α}(h:l[i]? =some a):J4 (i:Int) (x8 l)=true:=bu (by have:=(ai.1 h).1;simp only[x8];omega)
theorem Y6(l:List α):J4 (l.length:Int) (x8 l)=false:=X3 (by simp[x8])
end
theorem Kz{l:List P5}(n:List UInt8)(h:l.length<=1000000):xX l n=some (l.any λx=>seq x.1 n):=by unfold xX jJ kQ;rw[bF];refine zx l (λx=>seq x.1 n) h (λi a ha=>?_) (by rw[Y6];rfl);rw[X9 ha,o7,U2,ha,o9];unfold DY;rw[o9];cases seq a.1 n<;>rfl
theorem Po{l:List V4}(n:List UInt8)(h:l.length<=1000000):yG l n=some (l.any λx=>seq x.1 n):=by unfold yG ji jT;rw[bF];refine zx l (λx=>seq x.1 n) h (λi a ha=>?_) (by rw[Y6];rfl);rw[X9 ha,o7,U2,ha,o9];unfold Cb;rw[o9];cases seq a.1 n<;>rfl
theorem Yb{l:List H8}(s:H8)(h:l.length<=1000000):fK l s=some (l.any λx=>seq x.1 s.1):=by unfold fK jS;refine zx l (λx=>seq x.1 s.1) h (λi a ha=>?_) (by rw[Y6];rfl);rw[X9 ha,o7,U2,ha,o9];unfold zA;rw[o9];cases seq a.1 s.1<;>rfl
theorem p_{l:List ak}(s:ak)(h:l.length<=1000000):gI l s=some (l.any λx=>seq x.1 s.1):=by unfold gI kR;refine zx l (λx=>seq x.1 s.1) h (λi a ha=>?_) (by rw[Y6];rfl);rw[X9 ha,o7,U2,ha,o9];unfold AO;rw[o9];cases seq a.1 s.1<;>rfl
theorem Pn{l:List dK}(s:dK)(h:l.length<=1000000):bZ l s=some (l.any λx=>seq x.1 s.1):=by unfold bZ jR;refine zx l (λx=>seq x.1 s.1) h (λi a ha=>?_) (by rw[Y6];rfl);rw[X9 ha,o7,U2,ha,o9];unfold zy;rw[o9];cases seq a.1 s.1<;>rfl
theorem a2J{l:List (List UInt8)}(s:List UInt8)(h:l.length<=1000000):kz l s=some (l.any λx=>seq s x):=by unfold kz bg;refine zx l (λx=>seq s x) h (λi a ha=>?_) (by rw[Y6];rfl);rw[X9 ha,o7,U2,ha,o9];cases seq s a<;>rfl
theorem a2I{l:List Int}(s:Int)(h:l.length<=1000000):oP l s=some (l.any λx=>D6 s x):=by unfold oP wz;refine zx l (λx=>D6 s x) h (λi a ha=>?_) (by rw[Y6];rfl);rw[X9 ha,o7,U2,ha,o9];cases D6 s a<;>rfl
theorem a1n(i k:Nat):J4 (i:Int) (k:Int)=decide (i<k):=by unfold J4;by_cases h:i<k<;>simp[h]<;>omega
def CY(l:aG)(kind:Nat)(k:Nat)(n:List UInt8):Bool:=
 match kind with
 |1=>(l.1.take k).any λx=>seq x.1 n|2=>(l.1.any λx=>seq x.1 n) || ((l.2.1.take k).any λx=>seq x.1 n)|_=>(l.1.any λx=>seq x.1 n) || (l.2.1.any λx=>seq x.1 n) || ((l.2.2.take k).any λx=>seq x.1 n)
def Few(l:aG):Prop:=l.1.length<=100000/\l.2.1.length<=100000/\l.2.2.length<=100000
def Qd(ms:List (List UInt8))(i:Nat):Option (Int×Int):=match ms[i]? with
 |some m=>l7 (tC m) (l7 ((ms.take i).any λx=>seq m x) (some (7,((100+i:Nat):Int))) none) (some (2,((100+i:Nat):Int)))|none=>none
def UQ(l:aG)(i:Nat)(e:P5):Int×Int:=
 l7 (tC e.1) (l7 (CY l 1 i e.1) (7,0) (l7 (D6 (x8 e.2) 0) (5,0) (l7 (J4 16 (x8 e.2)) (4,116) (match(List.range e.2.length).findSome? (Qd e.2)with|some r=>r|none=>(0,0))))) (2,0)
theorem a8k(h:i<=1000000):G9 .i64 100 (i:Int)=((100+i:Nat):Int):=by rw[eU dm];omega
variable {l:aG}
theorem VR(h:Few l)(hi:i<=l.1.length)(e:P5)(h1:e.1.length<=1000000)(h2:∀m∈e.2,m.length<=1000000):
  zZ l (i:Int) e=some (UQ l i e):=by
 unfold zZ UQ CY;rw[lY h1,o9,xY hi,o9,Kz _ (by have:=h.1;simp;omega),o9];cases tC e.1
 .rfl
 simp only[F6,o6,o7];cases (l.1.take i).any λx=>seq x.1 e.1
 case true=>rfl
 cases D6 (x8 e.2) 0
 case true=>rfl
 cases h16:J4 16 (x8 e.2)
 case true=>rfl
 simp only[o6];have hlen:e.2.length<=16:=by rw[lg]at h16;simp only[x8]at h16;omega
 refine X7 (Ia (p:=Qd e.2) e.2.length o5 PUnit.unit (λj hj=>?_) ?_) ?_
 rotate_left 2
 .cases (List.range e.2.length).findSome? (Qd e.2)<;>rfl
 .have e' :=mW hj;rw[X9 e',o7,U2,e',o9,lY (h2 _ (Y1 hj)),o9,xY o5,o9,a2J _ G5,o9,a8k o5,dC o5];simp only[Qd,e'];cases tC e.2[j]
  .rfl
  cases (e.2.take j).any λx=>seq e.2[j] x<;>rfl
 .rw[Y6];rfl
variable {β:Type}
theorem a4w{p:Nat->Option β}{n j:Nat}{c:β}(h0:(List.range j).findSome? p=none)(h1:p j=some c)(hj:j<n):(List.range n).findSome? p=some c:=by
 induction n with
 |zero=>omega|succ n ih=>
  rw[jq,vP];by_cases h:j<n
  .rw[ih h];rfl
  .have:j=n:=o5;subst this;rw[h0];simp[h1]
theorem a8i{p:Nat->Option β}{j:Nat}(h0:(List.range j).findSome? p=none)(h1:p j=none):(List.range (j+1)).findSome? p=none:=by rw[jq,vP,h0];simp[h1]
variable {ρ:Type}
def dF(n:Nat)(p:Nat->Option ρ):Option ρ:=(List.range n).findSome? p
theorem Ho{σ ε ρ:Type}{p:Nat->Option ρ}(n:Nat)(hn:n<=1000000)(a:σ)(e:ε){f:σ×Int->Option (Out (σ×Int) ε ρ)}
  (h1:∀i,i<n->f (a,(i:Int))=some (match p i with|some r=> .rt r|none=> .nx (a,G9 .i64 (i:Int) 1))) (h2:f (a,(n:Int))=some (.ex e)):
  S9 f (a,0)=some (match dF n p with|some r=> .inr r|none=> .inl e):=by
 have key:=jw (f:=f) (s:=(a,0)) (λx=>∃i:Nat,x=(a,(i:Int))/\i<=n/\dF i p=none) (λx=>x=e/\dF n p=none) (λr=>dF n p=some r) (λx=>n -x.2.toNat) ⟨0,rfl,o5,rfl⟩ G5 ?_
 .rcases key with⟨x,k1,rfl,k2⟩|⟨r,k1,k2⟩
  .rw[k1,k2]
  .rw[k1,k2]
 .rintro x ⟨i,rfl,hi,hnone⟩;by_cases h:i<n
  .rw[h1 i h];cases hp:p i with
   |some r=>exact .inr (.inr ⟨_,rfl,a4w hnone hp h⟩)|none=>exact .inl ⟨(a,((i+1:Nat):Int)),by rw[dC o5],⟨i+1,rfl,h,a8i hnone hp⟩,by simp;omega⟩
  .have:i=n:=o5;subst this;exact .inr (.inl ⟨_,h2,rfl,hnone⟩)
def LH(kind i:Int)(r:Int×Int):Option (Int×Int×Int×Int):=l7 (D6 r.1 0) none (some (r.1,kind,i,r.2))
def LD(l:aG)(i:Nat):Option (Int×Int×Int×Int):=match l.1[i]? with|some e=>LH 1 i (UQ l i e)|none=>none
def BU(l:aG):Int×Int×Int×Int:=l7 (J4 8 (x8 l.1)) (4,1,8,0) (match dF l.1.length (LD l)with|some r=>r|none=>(0,0,0,0))
def VJ(l:aG):Prop:=∀e∈l.1,e.1.length<=1000000/\∀m∈e.2,m.length<=1000000
theorem Um(h:Few l)(hE:VJ l):yE l=some (BU l):=by
 unfold yE BU;cases J4 8 (x8 l.1)
 case true=>rfl
 simp only[o6];refine X7 (Ho (p:=LD l) l.1.length (by have:=h.1;omega) _ (0,0,0,0) (λi hi=>?_) ?_) ?_
 rotate_left 2
 .cases dF l.1.length (LD l)<;>rfl
 .have e:=mW hi;have hm:=hE _ (Y1 hi);simp only[X9 e,o7,U2,e,o9,VR h (show i<=l.1.length by omega) _ hm.1 hm.2,LD,LH];cases D6 (UQ l i l.1[i]).1 0<;>rfl
 .rw[Y6];rfl
variable {n:Nat}{p:Nat->Option ρ}
theorem pU{r:ρ}(h:dF n p=some r):∃i,i<n/\p i=some r:=by unfold dF at h;obtain⟨i,hi,hp⟩:=List.exists_of_findSome?_eq_some h;exact⟨i,dX.1 hi,hp⟩
theorem uj(h:dF n p=none):∀i,i<n->p i=none:=by unfold dF at h;intro i hi;exact mF.1 h i (dX.2 hi)
theorem a7E(t:V4)(en:List P5):(Lc t en).1=-1\/0<=(Lc t en).1:=by
 unfold Lc;cases J4 64 (x8 t.2.2.2)
 case true=>right;simp only[o7];decide
 cases vty t.2.1 en
 .left;rfl
 cases vty t.2.2.1 en
 .left;rfl
 right;simp only[o7,o6];cases hf:(List.range t.2.2.2.length).findSome? (TJ t en)with
 |none=>exact sK _|some r=>
  obtain⟨i,hi,hp⟩:=pU (p:=TJ t en) hf;unfold TJ at hp;split at hp
  .rename_i x hx;cases hw:Lh x (bnd t.2.1 en) (bnd t.2.2.1 en)<;>rw[hw]at hp
   .cases ha:(t.2.2.2.take i).any λy=>BN y x<;>rw[ha]at hp
    .cases hp
    .cases hp;show(0:Int)<=(i:Int);omega
   .cases hp;show(0:Int)<=(i:Int);omega
  .cases hp
def a0A(l:aG)(i:Nat)(t:V4):Int×Int:=
 l7 (tC t.1) (l7 (CY l 2 i t.1) (7,0) (l7 (D6 (Lc t l.1).2 0) (0,0) ((Lc t l.1).2,l7 (U6 0 (Lc t l.1).1) (G9 .i64 100 (Lc t l.1).1) 0))) (2,0)
def OT(l:aG)(i:Nat):Option (Int×Int×Int×Int):=match l.2.1[i]? with|some t=>LH 2 i (a0A l i t)|none=>none
def Bv(l:aG):Int×Int×Int×Int:=l7 (J4 8 (x8 l.2.1)) (4,2,8,0) (match dF l.2.1.length (OT l)with|some r=>r|none=>(0,0,0,0))
def QL(l:aG):Prop:=∀t∈l.2.1,t.1.length<=1000000
theorem Rj(h:Few l)(hT:QL l):xB l=some (Bv l):=by
 unfold xB Bv;cases J4 8 (x8 l.2.1)
 case true=>rfl
 simp only[o6];refine X7 (Ho (p:=OT l) l.2.1.length (by have:=h.2.1;omega) _ (0,0,0,0) (λi hi=>?_) ?_) ?_
 rotate_left 2
 .cases dF l.2.1.length (OT l)<;>rfl
 .have e:=mW hi;have hm:=hT _ (Y1 hi);simp only[X9 e,o7,U2,e,o9,a7F,lY hm,Kz _ (show l.1.length<=1000000 by have:=h.1;omega),xY (show i<=l.2.1.length by omega),
   Po _ (show(l.2.1.take i).length<=1000000 by have:=h.2.1;simp;omega),OT,a0A,CY]
  cases tC l.2.1[i].1
  .rfl
  cases l.1.any λx=>seq x.1 l.2.1[i].1
  case true=>rfl
  cases (l.2.1.take i).any λx=>seq x.1 l.2.1[i].1
  case true=>rfl
  simp only[F6,o6,o7,o9,Bool.or_false];cases hz:D6 (Lc l.2.1[i] l.1).2 0
  case true=>rfl
  simp only[I7,o7,o6,LH,hz];rcases a7E l.2.1[i] l.1 with hr|hr
  .rw[V5 hr,dP (show(Lc l.2.1[i] l.1).1<0 by omega)];simp only[F6,o6,o9,hz,I7,o7]
  .rw[N7 (show(Lc l.2.1[i] l.1).1≠-1 by omega),aS hr];simp only[I7,o7,o9,hz]
 .rw[Y6];rfl
variable {ε:Type}
theorem n_(l:List α)(g:α->β)(hl:l.length<=1000000){f:List β×Int->Option ((List β×Int)⊕ε)}{F:List β->ε}
  (hin:∀(i:Nat) (a:α) (acc:List β),l[i]? =some a->acc.length=i->f (acc,(i:Int))=some (.inl (acc++[g a],G9 .i64 (i:Int) 1))) (hend:∀acc,f (acc,(l.length:Int))=some (.inr (F acc))):
  dD f ([],0)=some (F (l.map g)):=by
 obtain⟨e,h1,h2⟩:=rJ (f:=f) (s:=([],0)) (λx=>∃i:Nat,x=((l.take i).map g,(i:Int))/\i<=l.length) (λe=>e=F (l.map g)) (λx=>l.length -x.2.toNat) ⟨0,rfl,o5⟩ G5 (by
  rintro x ⟨i,rfl,hi⟩;by_cases h:i<l.length
  .have e:=mW h;refine .inl ⟨((l.take (i+1)).map g,((i+1:Nat):Int)),?_,⟨i+1,rfl,h⟩,by simp;omega⟩;rw[hin i _ _ e G5,dC o5,X5 h,ed];rfl
  .have:i=l.length:=o5;subst this;refine .inr ⟨_,hend _,?_⟩;rw[bT])
 rw[h1,h2]
theorem DW{l:List dK}(h:l.length<=1000000):sQ l=some (l.map (·.2)):=by
 unfold sQ;rw[bF];refine n_ (F:=id) l (λx=>x.2) h (λi a acc ha hacc=>?_) (λacc=>?_)
 .have hi:=(ai.1 ha).1;simp only[X9 ha,o7,U2,ha,o9];rw[rY (by simp[hacc];omega)];rfl
 .simp only[Y6];rfl
def Xy(l:aG):Prop:=∀s∈l.2.2,s.1.length<=1000000/\s.2.2.1.length<=100000/\s.2.2.2.1.length<=100000/\s.2.2.2.2.length<=100000
def UF(l:aG)(s:H8):List P5×List V4×List (Int×Int)×List (Int×Int)×List (Int×Int)×Bool:=
 match(if 0<=s.2.1 then l.2.2[s.2.1.toNat]? else none)with
 |some k=>(l.1,l.2.1,s.2.2.1.map (·.2),s.2.2.2.1.map (·.2),k.2.2.2.1.map (·.2),true)|none=>(l.1,l.2.1,s.2.2.1.map (·.2),s.2.2.2.1.map (·.2),[],false)
theorem KY(h:Xy l){s:H8}(hs:l.2.2[i]? =some s):rZ l (i:Int)=some (UF l s):=by
 have hm:=h s (wJ hs);unfold rZ UF;rw[U2,hs,o9,DW o5,o9,DW o5,o9];by_cases h0:0<=s.2.1
 .rw[aS h0,if_pos h0,o7];by_cases h1:s.2.1<x8 l.2.2
  .obtain⟨k,hk,hkm⟩:=um h0 h1;have hk' :l.2.2[s.2.1.toNat]? =some k:=(lX hk).2.2.2;rw[bu h1,o7,hk,o9,DW (by have:=h k hkm;omega),o9,hk']
  .have h1' :x8 l.2.2<=s.2.1:=qQ.1 h1;rw[X3 h1',o6,aZ (by simp only[x8]at h1';exact Int.le_toNat h0 |>.2 h1')]
 .have h0' :s.2.1<(0:Int):=uJ.1 h0;rw[dP h0',if_neg h0];rfl
abbrev SI(l:List Int):Prop:=l.Pairwise (·< ·)
theorem a0m:∀{a b:List Int},SI a->SI b->(∀x,x∈a↔x∈b)->a=b
 |[],[],_,_,_=>rfl|[],y::b,_,_,h=>absurd ((h y).2 D5) D5|x::a,[],_,_,h=>absurd ((h x).1 D5) D5|x::a,y::b,ha,hb,h=>by
  have ha' :=V7.1 ha;have hb' :=V7.1 hb;have hxy:x=y:=by
   rcases C9.1 ((h x).1 D5)with h1|h1
   .exact h1
   .rcases C9.1 ((h y).2 D5)with h2|h2
    .exact h2.symm
    .have:=hb'.1 _ h1;have:=ha'.1 _ h2;omega
  subst hxy;congr 1;refine a0m ha'.2 hb'.2 λz=>⟨λhz=>?_,λhz=>?_⟩
  .rcases C9.1 ((h z).1 (by simp[hz]))with h1|h1
   .have:=ha'.1 _ hz;omega
   .exact h1
  .rcases C9.1 ((h z).2 (by simp[hz]))with h1|h1
   .have:=hb'.1 _ hz;omega
   .exact h1
def ins(n:Int):List Int->List Int
 |[]=>[n]|a::l=>if n<=a then(if n<a then n::a::l else a::l)else a::ins n l
theorem Wv(n x:Int):∀l,x∈ins n l↔x=n\/x∈l
 |[]=>by simp[ins]|a::l=>by
  unfold ins;by_cases h:n<=a
  .rw[if_pos h];by_cases h2:n<a
   .rw[if_pos h2];simp
   .rw[if_neg h2];have:n=a:=o5;subst this;simp
  .rw[if_neg h,C9,Wv n x l,C9];constructor
   .rintro(h|h|h)<;>simp[h]
   .rintro(h|h|h)<;>simp[h]
theorem a6I(n:Int):∀{l},SI l->SI (ins n l)
 |[],_=>List.pairwise_singleton _ _|a::l,h=>by
  have h' :=V7.1 h;unfold ins;by_cases h1:n<=a
  .rw[if_pos h1];by_cases h2:n<a
   .rw[if_pos h2];refine V7.2 ⟨λx hx=>?_,h⟩;rcases C9.1 hx with rfl|hx
    .exact h2
    .have:=h'.1 x hx;omega
   .rw[if_neg h2];exact h
  .rw[if_neg h1];refine V7.2 ⟨λx hx=>?_,a6I n h'.2⟩;rcases(Wv n x l).1 hx with rfl|hx
   .omega
   .exact h'.1 x hx
def Si(ns:List Int)(l:List Int):List Int:=ns.foldl (λacc n=>ins n acc) l
theorem SB(x:Int):∀ns l,x∈Si ns l↔x∈ns\/x∈l
 |[],l=>by simp[Si]|n::ns,l=>by
  show x∈Si ns (ins n l)↔_;rw[SB x ns,Wv,C9];constructor
  .rintro(h|h|h)<;>simp[h]
  .rintro((h|h)|h)<;>simp[h]
theorem Xb:∀ns {l},SI l->SI (Si ns l)
 |[],_,h=>h|n::ns,_,h=>Xb ns (a6I n h)
def La(l:List Int):List Int:=Si l []
theorem Yp(x:Int)(l:List Int):x∈La l↔x∈l:=by unfold La;rw[SB];simp
theorem a1W(l:List Int):SI (La l):=Xb l List.Pairwise.nil
theorem Sl(n:Int):∀l,(ins n l).length<=l.length+1
 |[]=>by simp[ins]|a::l=>by
  unfold ins;by_cases h1:n<=a
  .rw[if_pos h1];by_cases h2:n<a
   .rw[if_pos h2];simp
   .rw[if_neg h2];simp
  .rw[if_neg h1];have:=Sl n l;simp only[D9];omega
theorem Pq:∀ns l,(Si ns l).length<=l.length+ns.length
 |[],l=>by simp[Si]|n::ns,l=>by have h1:=Pq ns (ins n l);have h2:=Sl n l;show(Si ns (ins n l)).length<=_;simp only[D9];omega
theorem Yi(l:List Int):(La l).length<=l.length:=by have:=Pq l [];unfold La;simpa using this
theorem a0n{l:List Int}(n:Nat)(h:SI l)(h2:∀x∈l,0<=x/\x<n):l.length<=n:=by
 have key:∀(l:List Int) (lo:Int),SI l->(∀x∈l,lo<=x/\x<n)->lo<=n->(l.length:Int)<=n -lo:=by
  intro l;induction l with
  |nil=>intro lo _ _ hlo;simp;omega|cons a l ih=>intro lo hs hb hlo;have h' :=V7.1 hs;have ha:=hb a D5;have:=ih (a+1) h'.2 (λx hx=>⟨by have:=h'.1 x hx;omega,(hb x (by simp[hx])).2⟩) o5;simp only[D9];omega
 have:=key l 0 h (λx hx=>h2 x hx) o5;omega
theorem Rt(x:Int):∀(l:List Int) (p:Int),(p::l).Pairwise (·<=·)->SI (p::ddp p l)/\(x∈p::ddp p l↔x∈p::l)
 |[],p,_=>⟨List.pairwise_singleton _ _,Iff.rfl⟩|a::l,p,h=>by
  have h1:=V7.1 h;obtain⟨i1,i2⟩:=Rt x l a h1.2;have h2:=V7.1 h1.2;have hpa:=h1.1 a D5;unfold ddp;cases hq:D6 a p
  .rw[iV]at hq;simp only[cond_false];refine⟨V7.2 ⟨λy hy=>?_,i1⟩,?_⟩
   .rcases C9.1 hy with rfl|hy
    .omega
    .have:=(V7.1 i1).1 y hy;omega
   .rw[C9,i2,C9 (a:=x) (b:=p)]
  .rw[X8]at hq;subst hq;simp only[cond_true];refine⟨i1,?_⟩;rw[i2];simp
theorem a4a(l:List Int):dd (Hy l)=La l:=by
 have hs:=Ff l;have hp:=Fe l;refine a0m ?_ (a1W l) λx=>?_
 .cases he:Hy l with
  |nil=>exact List.Pairwise.nil|cons a r=>rw[he]at hs;exact(Rt a r a hs).1
 .rw[Yp,←hp.mem_iff];cases he:Hy l with
  |nil=>exact Iff.rfl|cons a r=>rw[he]at hs;exact(Rt x r a hs).2
theorem a2O(l:List Int):(Hy l).length=l.length:=(Fe l).length_eq
theorem a9y{l:List Int}(h:l.length<=1000000):l9 (BJ l) (λx=>qV x)=some (La l):=by unfold BJ qV;rw[show Nat.blt l.length 4611686018427387904=true from by simp[Nat.blt];omega];simp only[cond_true,o9];rw[show Nat.blt (Hy l).length 4611686018427387904=true from by rw[a2O];simp[Nat.blt];omega];rw[cond_true,a4a]
def hg(l:List Int)(i:Nat):Int:=l.getD i 0
theorem Zr{l:List α}{a:α}(h:(l.take n)[i]? =some a):i<n/\l[i]? =some a:=by
 rw[V6]at h;split at h
 .exact⟨by assumption,h⟩
 .cases h
def Hm(en:List P5)(f:dK)(a b:List dK):Int:=
 l7 (tC f.1) (l7 (a.any λx=>seq x.1 f.1) 7 (l7 (b.any λx=>seq x.1 f.1) 7 (l7 (vty f.2 en) 0 8))) 2
theorem JF{f:dK}{a b:List dK}(h:f.1.length<=1000000)(ha:a.length<=1000000)(hb:b.length<=1000000):vS l f a b=some (Hm l.1 f a b):=by
 unfold vS Hm;rw[lY h,o9,Pn _ ha,o9,Pn _ hb,o9,qh,o9];cases tC f.1
 .rfl
 cases a.any λx=>seq x.1 f.1
 case true=>rfl
 cases b.any λx=>seq x.1 f.1
 case true=>rfl
 cases vty f.2 l.1<;>rfl
def NT(c e:Int):Option (Int×Int):=l7 (D6 c 0) none (some (c,e))
def inP(l:aG)(s:H8)(i:Nat):Option (Int×Int):=match s.2.2.1[i]? with|some f=>NT (Hm l.1 f (s.2.2.1.take i) []) (100+i:Nat)|none=>none
def ZX(l:aG)(s:H8)(i:Nat):Option (Int×Int):=match s.2.2.2.1[i]? with|some f=>NT (Hm l.1 f s.2.2.1 (s.2.2.2.1.take i)) (200+i:Nat)|none=>none
def Xv(s:H8):Prop:=(∀f∈s.2.2.1,f.1.length<=1000000)/\(∀f∈s.2.2.2.1,f.1.length<=1000000)
theorem a1i{c i:Nat}(hc:c<=1000)(h:i<=1000000):G9 .i64 (c:Int) (i:Int)=((c+i:Nat):Int):=by rw[eU dm];omega
def Bd(l:aG)(s:H8):Option (Int×Int):=match dF s.2.2.1.length (inP l s)with|some r=>some r|none=>dF s.2.2.2.1.length (ZX l s)
def arF(op:Int):Int:=(jZ op).getD 0
variable {op:Int}
theorem SX(h:1<=op/\op<=39):∃k:Fin 40,op=(k.val:Int):=⟨⟨op.toNat,o5⟩,by simp;omega⟩
theorem b3s:∀k:Fin 40,1<=k.val->(lD (k.val:Int)=jZ (k.val:Int))/\(jZ (k.val:Int)=some 0\/jZ (k.val:Int)=some 1\/jZ (k.val:Int)=some 2\/jZ (k.val:Int)=some 3):=by decide+kernel
theorem Wl(h:¬(1<=op/\op<=39))(k:Int)(h1:1<=k)(h2:k<=39):D6 op k=false:=N7 o5
theorem WJ(h:¬(1<=op/\op<=39)):jZ op=some (-1):=by
 unfold jZ;by_cases h1:1<=op
 .rw[aS h1,o7,dP (show(9:Int)<op by omega),o6,dP (show(39:Int)<op by omega),dP (show(30:Int)<op by omega)];simp[Wl h];cases U6 35 op<;>cases U6 11 op<;>rfl
 .rw[dP (show op<1 by omega),o6,dP (show op<35 by omega),dP (show op<11 by omega)];simp[Wl h]
theorem b0B(h:¬(1<=op/\op<=39)):lD op=some (-1):=by unfold lD;simp[Wl h]
theorem QQ(op:Int):lD op=some (arF op)/\jZ op=some (arF op)/\(arF op=-1\/arF op=0\/arF op=1\/arF op=2\/arF op=3):=by
 unfold arF;by_cases h:1<=op/\op<=39
 .obtain⟨k,rfl⟩:=SX h;obtain⟨h1,h2⟩:=b3s k o5;rcases h2 with h2|h2|h2|h2<;>rw[h1,h2]<;>simp
 .rw[b0B h,WJ h];simp
theorem a3P(op:Int):lD op=some (arF op):=(QQ op).1
inductive XT where
 |l0 (n:Int×Int)|l1 (n:Int×Int) (a:XT)|l2 (n:Int×Int) (a b:XT)|l3 (n:Int×Int) (a b c:XT)
def XT.size:XT->Nat
 | .l0 _=>1| .l1 _ a=>a.size+1| .l2 _ a b=>a.size+b.size+1| .l3 _ a b c=>a.size+b.size+c.size+1
def XT.post:XT->List (Int×Int)
 | .l0 n=>[n]| .l1 n a=>a.post++[n]| .l2 n a b=>a.post++b.post++[n]| .l3 n a b c=>a.post++b.post++c.post++[n]
def XT.sts(o:Nat):XT->List Int
 | .l0 _=>[(o:Int)]| .l1 _ a=>a.sts o++[(o:Int)]| .l2 _ a b=>a.sts o++b.sts (o+a.size)++[(o:Int)]| .l3 _ a b c=>a.sts o++b.sts (o+a.size)++c.sts (o+a.size+b.size)++[(o:Int)]
theorem XT.size_pos(t:XT):0<t.size:=by cases t<;>simp[XT.size]
theorem XT.post_len(t:XT):t.post.length=t.size:=by
 induction t with
 |l0 n=>rfl|l1 n a ha=>simp[XT.post,XT.size,ha]|l2 n a b ha hb=>simp[XT.post,XT.size,ha,hb];try omega
 |l3 n a b c ha hb hc=>simp[XT.post,XT.size,ha,hb,hc];try omega
theorem XT.sts_len(t:XT):∀o,(t.sts o).length=t.size:=by
 induction t with
 |l0 n=>intro o;rfl|l1 n a ha=>intro o;simp[XT.sts,XT.size,ha]|l2 n a b ha hb=>intro o;simp[XT.sts,XT.size,ha,hb];try omega
 |l3 n a b c ha hb hc=>intro o;simp[XT.sts,XT.size,ha,hb,hc];try omega
def lq:List XT->Nat
 |[]=>0|t::r=>lq r+t.size
def Gl:List XT->List (Int×Int)
 |[]=>[]|t::r=>Gl r++t.post
def stR:List XT->List Int
 |[]=>[]|t::r=>stR r++t.sts (lq r)
def tH:List XT->List Int
 |[]=>[]|t::r=>tH r++[(lq r:Int)]
theorem sU:∀ts,(tH ts).length=ts.length
 |[]=>rfl|t::r=>by simp[tH,sU r]
theorem Np:∀ts,(stR ts).length=lq ts
 |[]=>rfl|t::r=>by simp[stR,lq,Np r,XT.sts_len]
theorem Ji:∀ts,(Gl ts).length=lq ts
 |[]=>rfl|t::r=>by simp[Gl,lq,Ji r,XT.post_len]
def push(n:Int×Int)(ts:List XT):Int⊕List XT:=
 if arF n.1=0 then .inr (.l0 n::ts)
 else if arF n.1=1 then(match ts with|a::r=> .inr (.l1 n a::r)|_=> .inl 5)
 else if arF n.1=2 then(match ts with|b::a::r=> .inr (.l2 n a b::r)|_=> .inl 5)
 else if arF n.1=3 then(match ts with|c::b::a::r=> .inr (.l3 n a b c::r)|_=> .inl 5)
 else .inl 2
def xf:Nat->List (Int×Int)->List XT->(Int×Int)⊕List XT
 |_,[],ts=> .inr ts
 |i,n::es,ts=>match push n ts with
  | .inl c=> .inl ((i:Int),c)| .inr ts' =>if 12<ts'.length then .inl ((i:Int),16)else xf (i+1) es ts'
def oV(e:List (Int×Int)):(Int×Int)⊕XT:=
 if 48<e.length then .inl (0,4)else if e.length=0 then .inl (0,5)else
  match xf 0 e []with
  | .inl x=> .inl x| .inr [t]=> .inr t| .inr _=> .inl ((e.length:Int),4)
theorem Vs{n:Int×Int}{ts ts' :List XT}(h:push n ts= .inr ts'):Gl ts' =Gl ts++[n]/\ts' ≠[]:=by
 unfold push at h;split at h
 .cases h;exact⟨rfl,D5⟩
 split at h
 .split at h
  .cases h;exact⟨by simp[Gl,XT.post],D5⟩
  .cases h
 split at h
 .split at h
  .cases h;exact⟨by simp[Gl,XT.post],D5⟩
  .cases h
 split at h
 .split at h
  .cases h;exact⟨by simp[Gl,XT.post],D5⟩
  .cases h
 .cases h
theorem Jk{n:Int×Int}{ts ts' :List XT}(h:push n ts= .inr ts'):lq ts' =lq ts+1:=by rw[←Ji,←Ji,(Vs h).1];simp
theorem FC:∀(es:List (Int×Int)) (i:Nat) (ts ts' :List XT),xf i es ts= .inr ts' ->Gl ts' =Gl ts++es/\(ts≠[]\/es≠[]->ts' ≠[])
 |[],i,ts,ts',h=>by cases h;exact⟨D5,D5⟩|n::es,i,ts,ts',h=>by
  unfold xf at h;cases hp:push n ts with
  |inl c=>rw[hp]at h;cases h|inr t2=>
   rw[hp]at h;simp only at h;split at h
   .cases h
   .obtain⟨h1,h2⟩:=FC es (i+1) t2 ts' h;obtain⟨h3,h4⟩:=Vs hp;exact⟨by rw[h1,h3];simp,λ_=>h2 (.inl h4)⟩
theorem wC{e:List (Int×Int)}{t:XT}(h:oV e= .inr t):e=t.post/\e.length<=48:=by
 unfold oV at h;split at h
 .cases h
 split at h
 .cases h
 split at h
 .cases h
 .rename_i t' hp;cases h;have:=(FC e 0 [] [t] hp).1;exact⟨by simpa[Gl]using this.symm,o5⟩
 .cases h
theorem Zm{σ ε ρ:Type}(e:List (Int×Int))(he:e.length<=48)(g:List XT->σ)(fin:List XT->ε)(rt:Int×Int->ρ){f:σ->Option (Out σ ε ρ)}
  (hs:∀(i:Nat) (n:Int×Int) (ts:List XT),e[i]? =some n->i=lq ts->ts.length<=12->f (g ts)=some (match push n ts with
   | .inl c=> .rt (rt ((i:Int),c))
   | .inr ts' =>if 12<ts'.length then .rt (rt ((i:Int),16))else .nx (g ts')))
  (hend:∀ts,lq ts=e.length->f (g ts)=some (.ex (fin ts))):
  S9 f (g [])=some (match xf 0 e []with| .inl x=> .inr (rt x)| .inr ts=> .inl (fin ts)):=by
 have key:∀(es:List (Int×Int)) (i:Nat) (ts:List XT) (k:Nat),e.drop i=es->i=lq ts->ts.length<=12->i<=e.length->es.length<k->
   iT f k (g ts)=some (match xf i es ts with| .inl x=> .inr (rt x)| .inr ts=> .inl (fin ts)):=by
  intro es;induction es with
  |nil=>
   intro i ts k hd hi hl hle hk;obtain⟨k,rfl⟩:∃k',k=k' +1:=⟨k -1,o5⟩;have:i=e.length:=by have:=congrArg List.length hd;simp at this;omega
   unfold iT;rw[hend ts o5];rfl
  |cons n es ih=>
   intro i ts k hd hi hl hle hk;obtain⟨k,rfl⟩:∃k',k=k' +1:=⟨k -1,o5⟩;have hn:e[i]? =some n:=by
    have:(e.drop i)[0]? =some n:=by rw[hd];rfl
    simpa using this
   have hlt:=(ai.1 hn).1;unfold iT;rw[hs i n ts hn hi hl];unfold xf;cases hp:push n ts with
   |inl c=>rfl|inr ts' =>
    simp only;by_cases h12:12<ts'.length
    .rw[if_pos h12,if_pos h12]
    .rw[if_neg h12,if_neg h12];exact ih (i+1) ts' k (by rw[←X0,hd];rfl) (by rw[Jk hp,hi]) o5 o5 (by simp at hk;omega)
 exact key e 0 [] fQ rfl rfl D5 o5 (by unfold fQ;omega)
theorem Yz:∀(p r:List XT),∃X,tH (p++r)=tH r++X/\X.length=p.length/\(p≠[]->X.head?=some (lq r:Int))
 |[],r=>⟨[],D5,rfl,λh=>absurd rfl h⟩|a::p,r=>by
  obtain⟨X,h1,h2,h3⟩:=Yz p r;refine⟨X++[(lq (p++r):Int)],?_,by simp[h2],λ_=>?_⟩
  .show tH (p++r)++[(lq (p++r):Int)]=_;rw[h1,F7]
  .cases p with
   |nil=>simp at h2;subst h2;rfl|cons b p=>rw[List.head?_append,h3 D5];rfl
theorem P_(p r:List XT)(k:Int)(hk:k=(p.length:Int))(h:p.length+r.length<=100)(hp:p≠[]):
  L6 .i64 (x8 (tH (p++r))) k=(r.length:Int)/\O0 (tH (p++r)) (r.length:Int)=some (lq r:Int)/\eQ (tH (p++r)) (bH (r.length:Int))=some (lq r:Int)
  /\lT 0 (r.length:Int) (x8 (tH (p++r)))=true/\jY (tH (p++r)) (bH 0) (bH (r.length:Int))=tH r:=by
 obtain⟨X,h1,h2,h3⟩:=Yz p r;have hl:(tH (p++r)).length=r.length+p.length:=by rw[sU];simp;omega
 have hg:(tH (p++r))[r.length]? =some (lq r:Int):=by rw[h1,G6 (by rw[sU];omega),sU,bf,←List.head?_eq_getElem?];exact h3 hp
 refine⟨?_,?_,?_,?_,?_⟩
 .simp only[x8,hl];rw[dW dm];omega
 .rw[U2];exact hg
 .exact hg
 .simp only[lT,x8,hl,decide_eq_true_eq];omega
 .show((tH (p++r)).take r.length).drop 0=_;rw[h1,jQ,Z4 (by rw[sU];omega),U1 (by rw[sU];omega)]
theorem a1m(ts:List XT):J4 12 (x8 (tH ts))=decide (12<ts.length):=by rw[show x8 (tH ts)=((ts.length:Nat):Int) by simp[x8,sU]];exact a1n 12 ts.length
theorem yC{l:List α}(x:α)(h:l.length<=1000000):dB l [x]=some (l++[x]):=rY G5
theorem RV(ts:List XT)(k:Nat):J4 (x8 (tH ts)) (k:Int)=decide (ts.length<k):=by rw[show x8 (tH ts)=((ts.length:Nat):Int) by simp[x8,sU]];exact a1n _ _
def yU(e:List (Int×Int)):List Int×Int×Int:=match oV e with| .inl x=>([],x)| .inr t=>(t.sts 0,0,0)
theorem a3m{e:List (Int×Int)}(h0:e.length≠0){K:List Int×Int×Int->List Int×Int×Int}(h48:¬48<e.length)
  {r:List Int×Int×Int} (h:∀ts,xf 0 e []= .inr ts->r=l7 (J4 1 (x8 (tH ts))) ([],x8 e,4) (stR ts,0,0)) (hi:∀x,xf 0 e []= .inl x->r=([],x)):r=yU e:=by
 unfold yU oV;rw[if_neg h48,if_neg h0];cases hp:xf 0 e []with
 |inl x=>exact hi x hp|inr ts=>
  rw[h ts hp];have:=(FC e 0 [] ts hp).2 (.inr (by intro he;subst he;exact h0 rfl));match ts,this with
  |[t],_=>simp[tH,x8,J4,stR,lq]|a::b::ts,_=>rw[bu (by simp[x8,sU];omega)];rfl
def pd(l:List Int)(k:Nat):List Int:=l++List.replicate k 0
theorem a5o(l:List Int)(m:Nat):O0 (pd l (m+1)) (l.length:Int)=some 0:=by rw[U2];unfold pd;rw[G6 o5,bf];rfl
theorem a8S(l:List Int)(m:Nat):eQ (pd l (m+1)) (bH (l.length:Int))=some 0:=by have:=a5o l m;rw[U2]at this;exact this
theorem b0Z(l:List Int)(m:Nat)(v:Int):rM (pd l (m+1)) (bH (l.length:Int)) v=pd (l++[v]) m:=by show(l++List.replicate (m+1) 0).set l.length v=_;rw[lI _ _ o5,bf,nO];simp[pd]
theorem QB(l:List Int)(m:Nat)(v w:Int):rM (pd (l++[v]) m) (bH (l.length:Int)) w=pd (l++[w]) m:=by show(l++[v]++List.replicate m 0).set l.length w=_;rw[F7,lI _ _ o5,bf];simp[pd]
theorem MK(l:List Int)(m:Nat)(v:Int):O0 (pd (l++[v]) m) (l.length:Int)=some v:=by rw[U2];unfold pd;rw[F7,G6 o5,bf];rfl
theorem ML(l:List Int)(m:Nat)(v:Int):eQ (pd (l++[v]) m) (bH (l.length:Int))=some v:=by have:=MK l m v;rw[U2]at this;exact this
theorem Bq(e:List (Int×Int)):vM e=some (yU e):=by
 unfold vM;by_cases h48:48<e.length
 .rw[bu (by simp[x8];omega),o7];unfold yU oV;rw[if_pos h48]
 by_cases h0:e.length=0
 .rw[X3 (by simp[x8];omega),o6,V5 (by simp[x8,h0]),o7];unfold yU oV;rw[if_neg h48,if_pos h0]
 rw[X3 (by simp[x8];omega),o6,N7 (by simp[x8];intro h;exact h0 (by simp[h])),o6];rw[show Jy (x8 e) (0:Int)=some (pd (stR []) (e.length -lq [])) by simp[Jy,x8,pd,stR,lq];omega,o9];refine X7 (Zm e o5 (λts=>(pd (stR ts) (e.length -lq ts),tH ts,(lq ts:Int))) (λts=>(pd (stR ts) (e.length -lq ts),tH ts)) (λx=>(([]:List Int),x)) (λi n ts hn hi hl=>?_) (λts hsz=>?_)) ?_
 rotate_left 2
 .rw[←a3m h0 h48 (K:=id) (r:=match xf 0 e []with| .inl x=>([],x)| .inr ts=>l7 (J4 1 (x8 (tH ts))) ([],x8 e,4) (stR ts,0,0)) (λts h=>by rw[h]) (λx h=>by rw[h])];cases hp:xf 0 e []with
  |inl x=>rfl|inr ts=>
   have:=(FC e 0 [] ts hp).1;have hz:e.length -lq ts=0:=by have:=congrArg List.length this;rw[Ji]at this;simp[Gl]at this;omega
   simp only[o9,W9,hz,pd,List.replicate_zero,E5];cases J4 1 (x8 (tH ts))<;>rfl
 .subst hi;have hlt:=(ai.1 hn).1;have hst:=Np ts;have hof:=sU ts;obtain⟨m,hm⟩:∃m,e.length -lq ts=m+1:=⟨e.length -lq ts -1,o5⟩;simp only[X9 hn,o7,U2 e,hn,o9,a3P,hm];rw[←hst];simp only[a5o,a8S,o9,b0Z,MK,ML,QB];rw[hst];rcases(QQ n.1).2.2 with h|h|h|h|h
  .rw[show push n ts= .inl 2 by simp[push,h],h];rfl
  .have e0:L6 .i64 (x8 (tH ts)) 0=((tH ts).length:Int):=by rw[dW (by unfold fE x8;omega)];simp[x8]
   rw[show push n ts= .inr (.l0 n::ts) by simp[push,h],h,X3 o5,o6,X3 (Yj _),o6,o6,e0,show lT 0 ((tH ts).length:Int) (x8 (tH ts))=true by simp[lT,x8],o7,
    show jY (tH ts) (bH 0) (bH ((tH ts).length:Int))=tH ts by simp[jY,bH],yC _ o5,o9,dC o5]
   rw[show tH ts++[(lq ts:Int)]=tH (.l0 n::ts)from rfl,a1m];by_cases hc:12<(XT.l0 n::ts).length
   .simp only[hc,decide_true,if_true,o7]
   .simp only[hc,decide_false,if_false,o6,lq,XT.size,stR,XT.sts,show e.length -(lq ts+1)=m by omega]
  .match ts with
   |[]=>rw[show push n []= .inl 5 by simp[push,h],h];rfl|a::r=>
    obtain⟨p1,p2,p3,p4,p5⟩:=P_ [a] r 1 rfl (by simp at hl ⊢;omega) D5;simp only[J9,H9]at p1 p2 p3 p4 p5;have:=Np (a::r);have:=sU r;simp only[D9]at hl;rw[show push n (a::r)= .inr (.l1 n a::r) by simp[push,h],h,X3 o5,o6,show(1:Int)=((1:Nat):Int)from rfl,RV,show decide ((a::r).length<1)=false by simp];simp only[Int.natCast_one]at p1 ⊢;rw[o6,bu o5,o7,p1,p2,o9,p3,o9,p4,o7,p5];rw[←hst]
    try simp only[QB,MK,ML,o9]
    rw[hst,yC _ o5,o9,dC o5];rw[show tH r++[(lq r:Int)]=tH (.l1 n a::r)from rfl,a1m];have hz:=Jk (show push n (a::r)= .inr (.l1 n a::r) by simp[push,h]);by_cases hc:12<(XT.l1 n a::r).length
    .simp only[hc,decide_true,if_true,o7]
    .simp only[hc,decide_false,if_false,o6,hz,show e.length -(lq (a::r)+1)=m by omega,stR,XT.sts,F7]
  .match ts with
   |[]=>rw[show push n []= .inl 5 by simp[push,h],h];rfl|[a]=>rw[show push n [a]= .inl 5 by simp[push,h],h];rfl|b::a::r=>
    obtain⟨p1,p2,p3,p4,p5⟩:=P_ [b,a] r 2 rfl (by simp at hl ⊢;omega) D5;simp only[J9,H9]at p1 p2 p3 p4 p5;have:=Np (b::a::r);have:=sU r;simp only[D9]at hl;rw[show push n (b::a::r)= .inr (.l2 n a b::r) by simp[push,h],h,X3 o5,o6,show(2:Int)=((2:Nat):Int)from rfl,RV,show decide ((b::a::r).length<2)=false by simp];rw[o6,bu o5,o7,show((2:Nat):Int)=2 from rfl,p1,p2,o9,p3,o9,p4,o7,p5];rw[←hst]
    try simp only[QB,MK,ML,o9]
    rw[hst,yC _ o5,o9,dC o5];rw[show tH r++[(lq r:Int)]=tH (.l2 n a b::r)from rfl,a1m];have hz:=Jk (show push n (b::a::r)= .inr (.l2 n a b::r) by simp[push,h]);by_cases hc:12<(XT.l2 n a b::r).length
    .simp only[hc,decide_true,if_true,o7]
    .rw[hz,show e.length -(lq (b::a::r)+1)=m by omega,show stR (.l2 n a b::r)=stR (b::a::r)++[(lq r:Int)] by simp only[stR,XT.sts,F7,lq]];simp only[hc,decide_false,if_false,o6]
  .match ts with
   |[]=>rw[show push n []= .inl 5 by simp[push,h],h];rfl|[a]=>rw[show push n [a]= .inl 5 by simp[push,h],h];rfl|[b,a]=>rw[show push n [b,a]= .inl 5 by simp[push,h],h];rfl|c::b::a::r=>
    obtain⟨p1,p2,p3,p4,p5⟩:=P_ [c,b,a] r 3 rfl (by simp at hl ⊢;omega) D5;simp only[J9,H9]at p1 p2 p3 p4 p5;have:=Np (c::b::a::r);have:=sU r;simp only[D9]at hl;rw[show push n (c::b::a::r)= .inr (.l3 n a b c::r) by simp[push,h],h,X3 o5,o6,show(3:Int)=((3:Nat):Int)from rfl,RV,show decide ((c::b::a::r).length<3)=false by simp];rw[o6,bu o5,o7,show((3:Nat):Int)=3 from rfl,p1,p2,o9,p3,o9,p4,o7,p5];rw[←hst]
    try simp only[QB,MK,ML,o9]
    rw[hst,yC _ o5,o9,dC o5];rw[show tH r++[(lq r:Int)]=tH (.l3 n a b c::r)from rfl,a1m];have hz:=Jk (show push n (c::b::a::r)= .inr (.l3 n a b c::r) by simp[push,h]);by_cases hc:12<(XT.l3 n a b c::r).length
    .simp only[hc,decide_true,if_true,o7]
    .rw[hz,show e.length -(lq (c::b::a::r)+1)=m by omega,show stR (.l3 n a b c::r)=stR (c::b::a::r)++[(lq r:Int)] by simp only[stR,XT.sts,F7,lq]];simp only[hc,decide_false,if_false,o6]
 .simp only[hsz,Y6];rfl
end Go.GP
namespace Go.GP
open Gt
set_option maxRecDepth 100000
def VT(t:Int×Int):Prop:=t=(1,0)\/t=(2,0)\/t=(3,0)\/t=(4,0)\/t=(5,0)\/∃e,t=(6,e)
theorem IR{t:Int×Int}{en:List P5}(h:vty t en=true):VT t:=by
 obtain⟨k,e⟩:=t;unfold vty at h;simp only at h;cases h6:D6 k 6
 .rw[h6,o6]at h;cases h1:U6 1 k<;>rw[h1]at h
  .cases h
  cases h5:U6 k 5<;>rw[h5]at h
  .cases h
  simp only[o7,X8]at h;rw[iJ]at h1 h5;subst h;have:k=1\/k=2\/k=3\/k=4\/k=5:=o5;rcases this with rfl|rfl|rfl|rfl|rfl<;>simp[VT]
 .rw[X8]at h6;subst h6;exact .inr (.inr (.inr (.inr (.inr ⟨e,rfl⟩))))
def EN(n:Int×Int)(ops:List (Int×Int))(sg:U3):Option ((Int×Int)×Int):=
 l7 (G7 (D6 n.2 0)) (l9 (bW n.1) λu=>l7 (G7 u) (some ((0,0),2)) (bI n ops sg)) (bI n ops sg)
def tZ(n:Int×Int)(ops:List (Int×Int))(sg:U3):Prop:=∃r:(Int×Int)×Int,wQ n ops sg=some r/\EN n ops sg=some r/\(r.2=0->VT r.1)
variable {k:Int}
theorem VT.lit(h:1<=k/\k<=5):VT (k,0):=by have:k=1\/k=2\/k=3\/k=4\/k=5:=o5;rcases this with rfl|rfl|rfl|rfl|rfl<;>simp[VT]
theorem Qs(a b:Int):U6 a b= !J4 b a:=by simp only[J4,U6];rw[←decide_not];congr 1;simp
theorem Dy{α β:Type}(o:Option β)(f:α->Option β):l9 (l9 o λx=>some (Sum.inr x)) (λq=>aj q f λr=>some r)=o:=by cases o<;>rfl
theorem VT.enum(e:Int):VT (6,e):=.inr (.inr (.inr (.inr (.inr ⟨e,rfl⟩))))
theorem qY{R E:Option ((Int×Int)×Int)}{c:Int}(hc:c≠0)(h1:R=some ((0,0),c))(h2:E=some ((0,0),c)):∃r:(Int×Int)×Int,R=some r/\E=some r/\(r.2=0->VT r.1):=⟨_,h1,h2,λh=>absurd h hc⟩
theorem nok{R E:Option ((Int×Int)×Int)}{t:Int×Int}(hv:VT t)(h1:R=some (t,0))(h2:E=some (t,0)):∃r:(Int×Int)×Int,R=some r/\E=some r/\(r.2=0->VT r.1):=⟨_,h1,h2,λ_=>hv⟩
def RR(a0:Int×Int)(a1:List (Int×Int))(a2:U3):Option ((Int×Int)×Int):=
 l9 (uu a0 a2) λ(x:Bool)=>l7 (G7 x) (some ((0,0),3)) (l9 (vX a0 a2) λ(x:Bool)=>l7 (G7 x) (some ((0,0),6))
  (l7 (D6 (x8 a1) 0) (l9 (nH a0 a2) λ(x:I9×Bool)=>l7 (G7 x.2) (some ((0,0),8)) (some (x.1,0)))
  (l7 (D6 (x8 a1) 1) (l9 (O0 a1 0) λ(x:I9)=>l9 (uw a0 x a2) λ(x:I9×Bool)=>l7 (G7 x.2) (some ((0,0),8)) (some (x.1,0)))
  (l7 (D6 (x8 a1) 2) (l9 (O0 a1 0) λ(x:I9)=>l9 (O0 a1 1) λ(x_1:I9)=>l9 (wR a0.1 x x_1) λ(x:I9×Bool)=>l7 (G7 x.2) (some ((0,0),8)) (some (x.1,0)))
  (l9 (O0 a1 1) λ(x:I9)=>l9 (O0 a1 0) λ(x_1:I9)=>l7 (D6 x_1.1 1) (l9 (O0 a1 1) λ(x_2:I9)=>l9 (O0 a1 2) λ(x_3:I9)=>
   l7 (G7 (kZ (D6 x_2.1 x_3.1) (D6 x_2.2 x_3.2))) (some ((0,0),8)) (some (x,0))) (l7 (G7 false) (some ((0,0),8)) (some (x,0))))))))
theorem b3i(n:Int×Int)(ops:List (Int×Int))(sg:U3):wQ n ops sg=l7 (G7 (D6 n.2 0)) (l9 (jF n.1) λx=>l7 x (RR n ops sg) (some ((0,0),2))) (RR n ops sg):=by
 unfold wQ;cases D6 n.2 0
 .simp only[I7,o7];cases jF n.1 with
  |none=>rfl|some b=>cases b<;>rfl
 .rfl
theorem Ii{op N:Int}{ops:List (Int×Int)}{sg:U3}(h1:bW op=some true)(h2:jF op=some true)
  (h:∃r:(Int×Int)×Int,RR (op,N) ops sg=some r/\bI (op,N) ops sg=some r/\(r.2=0->VT r.1)):tZ (op,N) ops sg:=by
 unfold tZ;rw[b3i];unfold EN;dsimp only;rw[h1,h2];cases D6 N 0<;>exact h
theorem Oj{op N:Int}{ops:List (Int×Int)}{sg:U3}(h1:bW op=some false)(h2:jF op=some false)
  (h:∃r:(Int×Int)×Int,RR (op,0) ops sg=some r/\bI (op,0) ops sg=some r/\(r.2=0->VT r.1)):tZ (op,N) ops sg:=by
 unfold tZ;rw[b3i];unfold EN;dsimp only;rw[h1,h2];cases hz:D6 N 0
 .exact qY (c:=2) H7 rfl rfl
 .rw[X8]at hz;subst hz;exact h
section
variable (N:Int) (sg:U3)
theorem a4X(hk:k=1\/k=2\/k=3\/k=4\/k=5):tZ (k,N) [] sg:=by
 have hv:vty (k,0) sg.1=true:=by rcases hk with rfl|rfl|rfl|rfl|rfl<;>rfl
 have hm:bW k=some true/\jF k=some true:=by rcases hk with rfl|rfl|rfl|rfl|rfl<;>exact⟨rfl,rfl⟩
 refine Ii hm.1 hm.2 ?_;have key:bI (k,N) [] sg=kU N k sg:=by rcases hk with rfl|rfl|rfl|rfl|rfl<;>exact Dy _ _
 have key2:RR (k,N) [] sg=l9 (l9 (dI (k,0) sg.1) λ(x:I9)=>l7 (U6 x.1 N) (some (U6 N x.2)) (some false)) λ(x:Bool)=>l7 (G7 x) (some ((0,0),3)) (some ((k,0),0)):=by rcases hk with rfl|rfl|rfl|rfl|rfl<;>rfl
 rw[key,key2];unfold kU;rw[zo,KQ,o9,o9,Dn,Dn];cases U6 (bnd (k,0) sg.1).1 N
 .exact qY (c:=3) H7 rfl rfl
 cases U6 N (bnd (k,0) sg.1).2
 .exact qY (c:=3) H7 rfl rfl
 .exact nok (IR hv) rfl rfl
theorem a3a(hN:fE N):tZ (6,N) [] sg:=by
 have hq:0<=N->gV .i64 N 16=N / 16:=λh=>by rw[LM (by rw[pO h];unfold fE at*;omega),pO h]
 refine Ii rfl rfl ?_;have hf:vX (6,N) sg=l7 (J4 (gV .i64 N 16) (x8 sg.1)) (l9 (O0 sg.1 (gV .i64 N 16)) λ(x:P5)=>some (J4 (mQ N 16) (x8 x.2))) (some false):=rfl;have hl:nH (6,N) sg=some ((6,gV .i64 N 16),vty (6,gV .i64 N 16) sg.1):=by unfold nH;simp only[nZ];rfl
 rw[show bI (6,N) [] sg=zX N sg from Dy _ _];unfold RR zX;rw[hf,show uu (6,N) sg=some (U6 0 N)from rfl,hl];by_cases h0:0<=N
 .rw[X3 h0,aS h0,hq h0];by_cases h1:N / 16<x8 sg.1
  .obtain⟨x,hx,_⟩:=um (show 0<=N / 16 by omega) h1;rw[bu h1,dP h1,hx,show vty (6,N / 16) sg.1=true by unfold vty;simp only[aS (show 0<=N / 16 by omega),bu h1];rfl];simp only[o9,Dn];cases U6 (x8 x.2) (mQ N 16)
   .exact nok (VT.enum (N / 16)) rfl rfl
   .exact qY (c:=6) H7 rfl rfl
  .have h1' :x8 sg.1<=N / 16:=o5;rw[X3 h1',aS h1'];exact qY (c:=6) H7 rfl rfl
 .rw[bu (show N<0 by omega),dP (show N<0 by omega)];exact qY (c:=3) H7 rfl rfl
theorem yK(ts:List (Int×Int))(en:U3):(∃x,O0 ts N=some x/\U6 0 N=true/\J4 N (x8 ts)=true/\kK N ts en=some (l7 (vty x en.1) (x,0) ((0,0),8)))\/((U6 0 N=false\/U6 0 N=true/\J4 N (x8 ts)=false)/\kK N ts en=some ((0,0),6)):=by
 unfold kK;rw[Dn N 0,Qs (x8 ts) N];cases h0:U6 0 N
 .exact .inr ⟨.inl D5,rfl⟩
 cases h1:J4 N (x8 ts)
 .exact .inr ⟨.inr D5,rfl⟩
 rw[iJ]at h0;rw[zY]at h1;obtain⟨x,hx,_⟩:=um h0 h1;rw[hx];simp only[qC,Bool.not_false,o6,o7,o9,qh];exact .inl ⟨x,rfl,D5,D5,by cases vty x en.1<;>rfl⟩
theorem a8C:tZ (7,N) [] sg:=by
 refine Ii rfl rfl ?_;rw[show bI (7,N) [] sg=kK N sg.2.2.1 sg from Dy _ _];have hf:vX (7,N) sg=l7 (U6 0 N) (some (J4 N (x8 sg.2.2.1))) (some false):=rfl;unfold RR;rw[hf,show uu (7,N) sg=some true from rfl];rcases yK N sg.2.2.1 sg with⟨x,h1,h2,h3,h4⟩|⟨h1|⟨h1,h2⟩,h4⟩
 .have hl:nH (7,N) sg=some (x,vty x sg.1):=by
   unfold nH;dsimp only;rw[h1];simp only[nZ];rfl
  rw[h2,h3,h4,hl];cases hv:vty x sg.1
  .exact qY (c:=8) H7 rfl rfl
  .exact nok (IR hv) rfl rfl
 .rw[h1,h4];exact qY (c:=6) H7 rfl rfl
 .rw[h1,h2,h4];exact qY (c:=6) H7 rfl rfl
theorem a4W:tZ (8,N) [] sg:=by
 refine Ii rfl rfl ?_;rw[show bI (8,N) [] sg=kK N sg.2.2.2.1 sg from Dy _ _];have hf:vX (8,N) sg=l7 (U6 0 N) (some (J4 N (x8 sg.2.2.2.1))) (some false):=rfl;unfold RR;rw[hf,show uu (8,N) sg=some true from rfl];rcases yK N sg.2.2.2.1 sg with⟨x,h1,h2,h3,h4⟩|⟨h1|⟨h1,h2⟩,h4⟩
 .have hl:nH (8,N) sg=some (x,vty x sg.1):=by
   unfold nH;dsimp only;rw[h1];simp only[nZ];rfl
  rw[h2,h3,h4,hl];cases hv:vty x sg.1
  .exact qY (c:=8) H7 rfl rfl
  .exact nok (IR hv) rfl rfl
 .rw[h1,h4];exact qY (c:=6) H7 rfl rfl
 .rw[h1,h2,h4];exact qY (c:=6) H7 rfl rfl
theorem a2Z:tZ (9,N) [] sg:=Oj rfl rfl (nok (VT.lit (k:=5) o5) rfl rfl)
theorem D_:tZ (35,N) [] sg:=by
 refine Oj rfl rfl ?_;rw[show bI (35,0) [] sg=qO (35,0) sg from Dy _ _];unfold RR qO;simp only[uu,vX,nH,nZ,o9];cases sg.2.2.2.2.2
 .exact qY (c:=6) H7 rfl rfl
 .exact nok (VT.lit (k:=2) o5) rfl rfl
theorem a4Y(hk:k=36\/k=37\/k=38\/k=39):tZ (k,N) [] sg:=by
 have hm:bW k=some true/\jF k=some true/\D6 k 35=false:=by rcases hk with rfl|rfl|rfl|rfl<;>exact⟨rfl,rfl,rfl⟩
 refine Ii hm.1 hm.2.1 ?_;rw[show bI (k,N) [] sg=qO (k,N) sg by rcases hk with rfl|rfl|rfl|rfl<;>exact Dy _ _];have hr:RR (k,N) [] sg=l9 (l7 sg.2.2.2.2.2 (l7 (U6 0 N) (some (J4 N (x8 sg.2.2.2.2.1))) (some false)) (some false)) λ(x:Bool)=>l7 (G7 x) (some ((0,0),6))
   (l9 (nH (k,N) sg) λ(x:I9×Bool)=>l7 (G7 x.2) (some ((0,0),8)) (some (x.1,0))):=by rcases hk with rfl|rfl|rfl|rfl<;>rfl
 rw[hr];unfold qO;rw[hm.2.2,o6];cases sg.2.2.2.2.2
 .exact qY (c:=6) H7 rfl rfl
 simp only[o7,F6,o6];rcases yK N sg.2.2.2.2.1 sg with⟨x,h1,h2,h3,h4⟩|⟨h1|⟨h1,h2⟩,h4⟩
 .rw[h2,h3,h4];have hl:nH (k,N) sg=l9 (some (l7 (D6 k 36) (l7 (vty x sg.1) (l7 (D6 x.1 2) true (D6 x.1 3)) false) (l7 (D6 k 39) (l7 (vty x sg.1) (l7 (D6 x.1 2) true (l7 (D6 x.1 3) true (l7 (D6 x.1 4) true (D6 x.1 5)))) false) (l7 (vty x sg.1) (D6 x.1 1) false)))) λb=>some (x,b):=by
   unfold nH;simp only[nZ,rP,wS];rcases hk with rfl|rfl|rfl|rfl<;>(rw[h1];simp only[D6,Int.reduceEq,decide_true,decide_false,o7,o6,o9];cases vty x sg.1<;>cases decide (x.1=2)<;>cases decide (x.1=3)<;>cases decide (x.1=4)<;>rfl)
  rw[hl];simp only[o9,nN];cases hv:vty x sg.1
  .rcases hk with rfl|rfl|rfl|rfl<;>exact qY (c:=8) H7 rfl rfl
  .have hx:=IR hv;rcases hk with rfl|rfl|rfl|rfl<;>rcases hx with rfl|rfl|rfl|rfl|rfl|⟨e,rfl⟩ <;>
    first
    |exact nok (IR hv) rfl rfl
    |exact qY (c:=8) H7 rfl rfl
 .rw[h1,h4];exact qY (c:=6) H7 rfl rfl
 .rw[h1,h2,h4];exact qY (c:=6) H7 rfl rfl
end
end Go.GP
namespace Go.GP
open Gt
set_option maxRecDepth 100000
variable {a:Int×Int}{k:Int}{b:Int×Int}
section
variable (N:Int) (sg:U3)
theorem a8D(hk:k=10\/k=25\/k=31\/k=32)(ha:VT a):tZ (k,N) [a] sg:=by
 have hm:bW k=some false/\jF k=some false:=by rcases hk with rfl|rfl|rfl|rfl<;>exact⟨rfl,rfl⟩
 refine Oj hm.1 hm.2 ?_;rcases hk with rfl|rfl|rfl|rfl<;>rcases ha with rfl|rfl|rfl|rfl|rfl|⟨e,rfl⟩ <;>
  first
  |exact nok (VT.lit (k:=1) o5) rfl rfl
  |exact nok (VT.lit (k:=2) o5) rfl rfl
  |exact nok (VT.lit (k:=3) o5) rfl rfl
  |exact nok (VT.lit (k:=4) o5) rfl rfl
  |exact qY (c:=8) H7 rfl rfl
theorem a4V(hk:k=13\/k=23\/k=24\/k=27\/k=28\/k=29\/k=30)(ha:VT a)(hb:VT b):tZ (k,N) [a,b] sg:=by
 have hm:bW k=some false/\jF k=some false:=by rcases hk with rfl|rfl|rfl|rfl|rfl|rfl|rfl<;>exact⟨rfl,rfl⟩
 refine Oj hm.1 hm.2 ?_;rcases hk with rfl|rfl|rfl|rfl|rfl|rfl|rfl<;>rcases ha with rfl|rfl|rfl|rfl|rfl|⟨e,rfl⟩<;>rcases hb with rfl|rfl|rfl|rfl|rfl|⟨f,rfl⟩ <;>
  first
  |exact qY (c:=8) H7 rfl rfl
  |exact nok (VT.lit (k:=1) o5) rfl rfl
  |exact nok (VT.lit (k:=2) o5) rfl rfl
  |exact nok (VT.lit (k:=3) o5) rfl rfl
  |exact nok (VT.lit (k:=4) o5) rfl rfl
  |exact nok (VT.lit (k:=5) o5) rfl rfl
theorem a3b(hk:k=14\/k=15\/k=16)(ha:VT a)(hb:VT b):tZ (k,N) [a,b] sg:=by
 have hm:bW k=some true/\jF k=some true:=by rcases hk with rfl|rfl|rfl<;>exact⟨rfl,rfl⟩
 refine Ii hm.1 hm.2 ?_;have hr:RR (k,N) [a,b] sg=l9 (l7 (U6 0 N) (some (U6 N 5)) (some false)) λx=>l7 (G7 x) (some ((0,0),3)) (l9 (wR k a b) λx=>l7 (G7 x.2) (some ((0,0),8)) (some (x.1,0))):=by rcases hk with rfl|rfl|rfl<;>rfl
 have he:bI (k,N) [a,b] sg=l9 (l7 (U6 0 N) (some (U6 N 5)) (some false)) λx=>l7 (G7 x) (some ((0,0),3)) (l9 (pz k [a,b]) λx=>l7 (G7 x.2) (some ((0,0),8)) (some (x.1,0))):=by
  rcases hk with rfl|rfl|rfl <;>
   (show l9 (l9 (og N) λx=>l7 (G7 x) (some (Sum.inr (((0:Int),(0:Int)),(3:Int)))) (some (.inl ((0:Int),(0:Int))))) _=_
    unfold og;cases U6 0 N<;>cases U6 N 5<;>rfl)
 rw[hr,he];cases U6 0 N
 .exact qY (c:=3) H7 rfl rfl
 cases U6 N 5
 .exact qY (c:=3) H7 rfl rfl
 rcases hk with rfl|rfl|rfl<;>rcases ha with rfl|rfl|rfl|rfl|rfl|⟨e,rfl⟩<;>rcases hb with rfl|rfl|rfl|rfl|rfl|⟨f,rfl⟩ <;>
  first
  |exact qY (c:=8) H7 rfl rfl
  |exact nok (VT.lit (k:=2) o5) rfl rfl
  |exact nok (VT.lit (k:=3) o5) rfl rfl
  |exact nok (VT.lit (k:=4) o5) rfl rfl
theorem a3c(hk:k=11\/k=12\/k=17\/k=18\/k=19\/k=20\/k=21\/k=22)(ha:VT a):tZ (k,N) [a,b] sg:=by
 have hm:bW k=some false/\jF k=some false:=by rcases hk with rfl|rfl|rfl|rfl|rfl|rfl|rfl|rfl<;>exact⟨rfl,rfl⟩
 refine Oj hm.1 hm.2 ?_;have hr:RR (k,0) [a,b] sg=l9 (wR k a b) λx=>l7 (G7 x.2) (some ((0,0),8)) (some (x.1,0)):=by rcases hk with rfl|rfl|rfl|rfl|rfl|rfl|rfl|rfl<;>rfl
 have he:bI (k,0) [a,b] sg=l9 (pz k [a,b]) λx=>l7 (G7 x.2) (some ((0,0),8)) (some (x.1,0)):=by rcases hk with rfl|rfl|rfl|rfl|rfl|rfl|rfl|rfl<;>rfl
 rw[hr,he];unfold wR pz;simp only[show O0 [a,b] 0=some a from rfl,show O0 [a,b] 1=some b from rfl,o9,wS,rP,jB,nN];cases h1:D6 a.1 b.1
 .rcases hk with rfl|rfl|rfl|rfl|rfl|rfl|rfl|rfl<;>exact qY (c:=8) H7 rfl rfl
 cases h2:D6 a.2 b.2
 .rcases hk with rfl|rfl|rfl|rfl|rfl|rfl|rfl|rfl<;>exact qY (c:=8) H7 rfl rfl
 have ha' :=ha;rcases hk with rfl|rfl|rfl|rfl|rfl|rfl|rfl|rfl<;>rcases ha with rfl|rfl|rfl|rfl|rfl|⟨e,rfl⟩ <;>
  first
  |exact nok ha' rfl rfl
  |exact nok (VT.lit (k:=1) o5) rfl rfl
  |exact qY (c:=8) H7 rfl rfl
theorem a8B{a b c:Int×Int}(ha:VT a)(hb:VT b):tZ (26,N) [a,b,c] sg:=by
 refine Oj rfl rfl ?_;have hr:RR (26,0) [a,b,c] sg=l7 (D6 a.1 1) (l7 (G7 (kZ (D6 b.1 c.1) (D6 b.2 c.2))) (some ((0,0),8)) (some (b,0))) (some ((0,0),8)):=rfl;have he:bI (26,0) [a,b,c] sg=l9 (pz 26 [a,b,c]) λx=>l7 (G7 x.2) (some ((0,0),8)) (some (x.1,0)):=rfl;have he2:pz 26 [a,b,c]=l9 (l7 (D6 a.1 1) (some (Sum.inr (b,kZ (D6 b.1 c.1) (D6 b.2 c.2)))) (some (Sum.inr (b,false)))) λ(o:I9⊕I9×Bool)=>aj o (λ(x:I9)=>some ((0,0),false)) λ(r:I9×Bool)=>some r:=rfl;rw[hr,he,he2];cases D6 a.1 1
 .exact qY (c:=8) H7 rfl rfl
 cases D6 b.1 c.1
 .exact qY (c:=8) H7 rfl rfl
 cases D6 b.2 c.2
 .exact qY (c:=8) H7 rfl rfl
 .exact nok hb rfl rfl
theorem Yu(ha:VT a):tZ (33,N) [a] sg:=by
 refine Ii rfl rfl ?_;have he:bI (33,N) [a] sg=sG (33,N) a sg:=Dy _ _;have hr:RR (33,N) [a] sg=l9 (l7 (U6 0 N) (some (J4 N (x8 sg.2.1))) (some false)) λx=>l7 (G7 x) (some ((0,0),6)) (l9 (uw (33,N) a sg) λx=>l7 (G7 x.2) (some ((0,0),8)) (some (x.1,0))):=rfl;have hs:uw (33,N) a sg=l9 (O0 sg.2.1 N) λ(x:V4)=>l9 (Y5 x.2.1 sg.1) λ(x_1:Bool)=>l7 x_1 (l9 (Y5 x.2.2.1 sg.1) λ(x_2:Bool)=>l7 x_2 (some (x.2.2.1,kZ (D6 a.1 x.2.1.1) (D6 a.2 x.2.1.2))) (some (x.2.2.1,false))) (some (x.2.2.1,false)):=rfl;rw[he,hr,hs];unfold sG;simp only[D6,Int.reduceEq,decide_false,o6,o9,W9,Dn N 0,Qs (x8 sg.2.1) N];cases h0:U6 0 N
 .exact qY (c:=6) H7 rfl rfl
 cases h1:J4 N (x8 sg.2.1)
 .exact qY (c:=6) H7 rfl rfl
 rw[iJ]at h0;rw[zY]at h1;obtain⟨x,hx,_⟩:=um h0 h1;simp only[o9,W9,qC,o6,hx,qh,nZ,I7,o7];cases vty x.2.1 sg.1
 .exact qY (c:=8) H7 rfl rfl
 cases hv:vty x.2.2.1 sg.1
 .exact qY (c:=8) H7 rfl rfl
 simp only[F6,o6,o7,o9];cases kZ (decide (a.1=x.2.1.1)) (decide (a.2=x.2.1.2))
 .exact qY (c:=8) H7 rfl rfl
 .exact nok (IR hv) rfl rfl
theorem UA(hN:fE N)(ha:VT a):tZ (34,N) [a] sg:=by
 refine Ii rfl rfl ?_;have he:bI (34,N) [a] sg=sG (34,N) a sg:=Dy _ _;have hr:RR (34,N) [a] sg=l9 (l7 (U6 0 N) (some (U6 (mQ N 8) 5)) (some false)) λx=>l7 (G7 x) (some ((0,0),3)) (l7 (G7 (J4 (gV .i64 N 8) (x8 sg.2.1))) (some ((0,0),6)) (l9 (uw (34,N) a sg) λx=>l7 (G7 x.2) (some ((0,0),8)) (some (x.1,0)))):=rfl;have hs:uw (34,N) a sg=l9 (O0 sg.2.1 (gV .i64 N 8)) λ(x:V4)=>l7 (D6 a.1 3) (l7 (kZ (D6 x.2.1.1 3) (D6 x.2.1.2 0)) (some (a,kZ (D6 x.2.2.1.1 4) (D6 x.2.2.1.2 0))) (some (a,false))) (some (a,false)):=rfl;rw[he,hr,hs];unfold sG og;by_cases h0:0<=N
 case neg=>rw[dP (show N<0 by omega),bu (show N<0 by omega)];exact qY (c:=3) H7 rfl rfl
 have hq:gV .i64 N 8=N / 8:=by rw[LM (by rw[pO h0];unfold fE at*;omega),pO h0]
 rw[aS h0,X3 h0,hq,BX h0];simp only[D6,Int.reduceEq,decide_true,o7,o6,aS (show 0<=N % 8 by omega),o9];cases U6 (N % 8) 5
 .exact qY (c:=3) H7 rfl rfl
 simp only[F6,o6,o9,W9,X3 (show 0<=N / 8 by omega),Qs];cases h1:J4 (N / 8) (x8 sg.2.1)
 .exact qY (c:=6) H7 rfl rfl
 rw[zY]at h1;obtain⟨x,hx,_⟩:=um (show 0<=N / 8 by omega) h1;simp only[hx,qC,o6,o9,W9,qh,F6];obtain⟨nm,⟨k1,k2⟩,⟨v1,v2⟩,rows⟩:=x;dsimp only;by_cases hK:k1=3/\k2=0
 .obtain⟨rfl,rfl⟩:=hK;by_cases hV:v1=4/\v2=0
  .obtain⟨rfl,rfl⟩:=hV;rcases ha with rfl|rfl|rfl|rfl|rfl|⟨e,rfl⟩ <;>
    first
    |exact nok (VT.lit (k:=3) o5) rfl rfl
    |exact qY (c:=8) H7 rfl rfl
  .have hE:vty (v1,v2) sg.1=true->v1≠4:=λhv h=>by
    subst h;rcases IR hv with h|h|h|h|h|⟨e,h⟩<;>cases h;exact hV ⟨rfl,rfl⟩
   have hR:kZ (decide (v1=4)) (decide (v2=0))=false:=by
    by_cases h1:v1=4
    .have:v2≠0:=λh2=>hV ⟨h1,h2⟩;simp[kZ,h1,this]
    .simp[kZ,h1]
   rw[hR];cases hv:vty (v1,v2) sg.1
   .rcases ha with rfl|rfl|rfl|rfl|rfl|⟨e,rfl⟩<;>exact qY (c:=8) H7 rfl rfl
   .have h4:=hE hv;rw[show decide (v1=4)=false by simp[h4]];rcases ha with rfl|rfl|rfl|rfl|rfl|⟨e,rfl⟩<;>exact qY (c:=8) H7 rfl rfl
 .have hR:kZ (decide (k1=3)) (decide (k2=0))=false:=by
   by_cases h1:k1=3
   .have:k2≠0:=λh2=>hK ⟨h1,h2⟩;simp[kZ,h1,this]
   .simp[kZ,h1]
  rw[hR];cases hv:vty (k1,k2) sg.1
  .rcases ha with rfl|rfl|rfl|rfl|rfl|⟨e,rfl⟩<;>exact qY (c:=8) H7 rfl rfl
  cases hw:vty (v1,v2) sg.1
  .rcases ha with rfl|rfl|rfl|rfl|rfl|⟨e,rfl⟩<;>exact qY (c:=8) H7 rfl rfl
  have h3:k1≠3:=λh=>by subst h;rcases IR hv with h|h|h|h|h|⟨e,h⟩<;>cases h;exact hK ⟨rfl,rfl⟩
  simp only[show decide (k1=3)=false by simp[h3],F6,o6,o7,o9];cases kZ (decide (a.1=k1)) (decide (a.2=k2))
  .cases decide (a.1=3)<;>exact qY (c:=8) H7 rfl rfl
  .cases decide (a.1=3)<;>exact qY (c:=8) H7 rfl rfl
theorem a1D(n:Int×Int)(hN:fE n.2)(ops:List (Int×Int))(hv:∀t∈ops,VT t)(hl:x8 ops=arF n.1):tZ n ops sg:=by
 obtain⟨op,N⟩:=n;dsimp only at hN hl;have hr:1<=op/\op<=39:=by
  by_cases h:1<=op/\op<=39
  .exact h
  .have:arF op=-1:=by unfold arF;rw[WJ h];rfl
   rw[this]at hl;simp[x8]at hl
 have hc:op=1\/op=2\/op=3\/op=4\/op=5\/op=6\/op=7\/op=8\/op=9\/op=10\/op=11\/op=12\/op=13\/op=14\/op=15\/op=16\/op=17\/op=18\/op=19\/op=20\/op=21\/op=22\/op=23\/op=24\/op=25\/op=26\/op=27\/op=28\/op=29\/op=30\/op=31\/op=32\/op=33\/op=34\/op=35\/op=36\/op=37\/op=38\/op=39:=o5;have L0:arF op=0->ops=[]:=λh=>by rw[h]at hl;simp only[x8]at hl;exact Z7.1 o5
 have L1:arF op=1->∃a,ops=[a]/\VT a:=λh=>by
  rw[h]at hl;simp only[x8]at hl;match ops,hl,hv with
  |[a],_,hv=>exact⟨a,rfl,hv a D5⟩|[],hl,_=>simp at hl|a::b::r,hl,_=>simp at hl;omega
 have L2:arF op=2->∃a b,ops=[a,b]/\VT a/\VT b:=λh=>by
  rw[h]at hl;simp only[x8]at hl;match ops,hl,hv with
  |[a,b],_,hv=>exact⟨a,b,rfl,hv a D5,hv b D5⟩|[],hl,_=>simp at hl|[a],hl,_=>simp at hl|a::b::c::r,hl,_=>simp at hl;omega
 have L3:arF op=3->∃a b c,ops=[a,b,c]/\VT a/\VT b:=λh=>by
  rw[h]at hl;simp only[x8]at hl;match ops,hl,hv with
  |[a,b,c],_,hv=>exact⟨a,b,c,rfl,hv a D5,hv b D5⟩|[],hl,_=>simp at hl|[a],hl,_=>simp at hl|[a,b],hl,_=>simp at hl|a::b::c::d::r,hl,_=>simp at hl;omega
 rcases hc with rfl|rfl|rfl|rfl|rfl|rfl|rfl|rfl|rfl|rfl|rfl|rfl|rfl|rfl|rfl|rfl|rfl|rfl|rfl|rfl|rfl|rfl|rfl|rfl|rfl|rfl|rfl|rfl|rfl|rfl|rfl|rfl|rfl|rfl|rfl|rfl|rfl|rfl|rfl <;>
  first
  |(rw[L0 rfl];first|exact a4X N sg o5|exact a3a N sg hN|exact a8C N sg|exact a4W N sg|exact a2Z N sg|exact D_ N sg|exact a4Y N sg o5)
  |(obtain⟨a,rfl,ha⟩:=L1 rfl;first|exact a8D N sg o5 ha|exact Yu N sg ha|exact UA N sg hN ha)
  |(obtain⟨a,b,rfl,ha,hb⟩:=L2 rfl;first|exact a4V N sg o5 ha hb|exact a3b N sg o5 ha hb|exact a3c N sg o5 ha)
  |(obtain⟨a,b,c,rfl,ha,hb⟩:=L3 rfl;exact a8B N sg ha hb)
end
end Go.GP
namespace Go.GP
open Gt
set_option maxRecDepth 100000
def XT.wf:XT->Prop
 | .l0 n=>arF n.1=0| .l1 n a=>arF n.1=1/\a.wf| .l2 n a b=>arF n.1=2/\a.wf/\b.wf| .l3 n a b c=>arF n.1=3/\a.wf/\b.wf/\c.wf
theorem a8W{n:Int×Int}{ts ts' :List XT}(h:push n ts= .inr ts')(hw:∀t∈ts,t.wf):∀t∈ts',t.wf:=by
 unfold push at h;split at h
 .cases h;intro t ht;rcases C9.1 ht with rfl|ht
  .assumption
  .exact hw t ht
 split at h
 .split at h
  .cases h;intro t ht;rcases C9.1 ht with rfl|ht
   .exact⟨by assumption,hw _ D5⟩
   .exact hw t (by simp[ht])
  .cases h
 split at h
 .split at h
  .cases h;intro t ht;rcases C9.1 ht with rfl|ht
   .exact⟨by assumption,hw _ D5,hw _ D5⟩
   .exact hw t (by simp[ht])
  .cases h
 split at h
 .split at h
  .cases h;intro t ht;rcases C9.1 ht with rfl|ht
   .exact⟨by assumption,hw _ D5,hw _ D5,hw _ D5⟩
   .exact hw t (by simp[ht])
  .cases h
 .cases h
theorem YE:∀(es:List (Int×Int)) (i:Nat) (ts ts' :List XT),xf i es ts= .inr ts' ->(∀t∈ts,t.wf)->∀t∈ts',t.wf
 |[],i,ts,ts',h,hw=>by cases h;exact hw|n::es,i,ts,ts',h,hw=>by
  unfold xf at h;cases hp:push n ts with
  |inl c=>rw[hp]at h;cases h|inr t2=>
   rw[hp]at h;simp only at h;split at h
   .cases h
   .exact YE es (i+1) t2 ts' h (a8W hp hw)
variable {e:List (Int×Int)}
theorem OQ{t:XT}(h:oV e= .inr t):t.wf:=by
 unfold oV at h;split at h
 .cases h
 split at h
 .cases h
 split at h
 .cases h
 .rename_i t' hp;cases h;exact YE e 0 [] [t] hp D5 t D5
 .cases h
def Y_(n:Int×Int)(ops:List (Int×Int))(sg:U3):(Int×Int)×Int:=(wQ n ops sg).getD ((0,0),0)
def JL(sg:U3)(n:Int×Int)(ops:List (Int×Int))(i:Nat):(Int×Int)⊕(Int×Int):=if(Y_ n ops sg).2=0 then .inr (Y_ n ops sg).1 else .inl ((i:Int),(Y_ n ops sg).2)
def yZ(sg:U3):XT->Nat->(Int×Int)⊕(Int×Int)
 | .l0 n,o=>JL sg n [] o
 | .l1 n a,o=>match yZ sg a o with
  | .inl x=> .inl x| .inr ta=>JL sg n [ta] (o+a.size)
 | .l2 n a b,o=>match yZ sg a o with
  | .inl x=> .inl x
  | .inr ta=>match yZ sg b (o+a.size)with
   | .inl x=> .inl x| .inr tb=>JL sg n [ta,tb] (o+a.size+b.size)
 | .l3 n a b c,o=>match yZ sg a o with
  | .inl x=> .inl x
  | .inr ta=>match yZ sg b (o+a.size)with
   | .inl x=> .inl x
   | .inr tb=>match yZ sg c (o+a.size+b.size)with
    | .inl x=> .inl x| .inr tc=>JL sg n [ta,tb,tc] (o+a.size+b.size+c.size)
variable {sg:U3}{t:Int×Int}
theorem Mc{n:Int×Int}{ops:List (Int×Int)}{i:Nat}(hN:fE n.2)(hv:∀t∈ops,VT t)(hl:x8 ops=arF n.1)(h:JL sg n ops i= .inr t):VT t:=by
 obtain⟨r,h1,h2,h3⟩:=a1D sg n hN ops hv hl;unfold JL at h;split at h
 .rename_i h0;cases h;have e:Y_ n ops sg=r:=by unfold Y_;rw[h1];rfl
  rw[e]at h0 ⊢;exact h3 h0
 .cases h
section
variable (e:List (Int×Int)) (sg:U3) (z:Int×Int)
def a9L(f:(Int×Int)×List (Int×Int)×Int->Option (Out ((Int×Int)×List (Int×Int)×Int) ((Int×Int)×List (Int×Int)) ((Int×Int)×Int×Int))):Prop:=
 ∀(i:Nat) (n:Int×Int) (s ops:List (Int×Int)),e[i]? =some n->i<=100->x8 ops=arF n.1->(∀t∈ops,VT t)->s.length+ops.length<=100->
  f (z,s++ops,(i:Int))=some (match JL sg n ops i with| .inl x=> .rt ((0,0),x)| .inr t=> .nx (z,s++[t],((i+1:Nat):Int)))
theorem a3A{f:(Int×Int)×List (Int×Int)×Int->Option (Out ((Int×Int)×List (Int×Int)×Int) ((Int×Int)×List (Int×Int)) ((Int×Int)×Int×Int))}
  (he:e.length<=48) (hI:∀n∈e,fE n.2) (hs:a9L e sg z f):∀(t:XT),t.wf->∀(pre suf s:List (Int×Int)) (k:Nat),e=pre++t.post++suf->s.length<=pre.length->
  iT f (k+t.size) (z,s,(pre.length:Int))=(match yZ sg t pre.length with| .inl x=>some (.inr ((0,0),x))| .inr r=>iT f k (z,s++[r],((pre.length+t.size:Nat):Int)))/\∀r,yZ sg t pre.length= .inr r->VT r:=by
 intro t;have step:∀(i k:Nat) (n:Int×Int) (s ops:List (Int×Int)),e[i]? =some n->x8 ops=arF n.1->(∀t∈ops,VT t)->s.length+ops.length<=100->
   iT f (k+1) (z,s++ops,(i:Int))=(match JL sg n ops i with| .inl x=>some (.inr ((0,0),x))| .inr r=>iT f k (z,s++[r],((i+1:Nat):Int))):=by
  intro i k n s ops h1 h2 h3 h4;rw[iT,hs i n s ops h1 (by have:=(ai.1 h1).1;omega) h2 h3 h4];cases JL sg n ops i<;>rfl
 have getn:∀(pre suf:List (Int×Int)) (n:Int×Int),e=pre++[n]++suf->e[pre.length]? =some n:=by intro pre suf n h;rw[h,F7,G6 o5,bf];rfl
 have mem:∀(i:Nat) (n:Int×Int),e[i]? =some n->fE n.2:=λi n h=>hI n (wJ h);induction t with
 |l0 n=>
  intro hw pre suf s k hd hl;have hn:=getn pre suf n hd;have hlen:pre.length<e.length:=(ai.1 hn).1;have hz:x8 ([]:List (Int×Int))=arF n.1:=by rw[show arF n.1=0 from hw];rfl
  have h:=step pre.length k n s [] hn hz D5 G5;rw[E5]at h;exact⟨h,λr hr=>Mc (mem _ n hn) D5 hz hr⟩
 |l1 n a iha=>
  intro hw pre suf s k hd hl;simp only[XT.post,F7]at hd;have hpa:(pre++a.post).length=pre.length+a.size:=by simp[XT.post_len]
  have hn:=getn (pre++a.post) suf n (by simpa using hd);rw[hpa]at hn;have hlen:=(ai.1 hn).1;obtain⟨i1,i2⟩:=iha hw.2 pre ([n]++suf) s (k+1) (by simpa using hd) hl;simp only[XT.size,yZ];rw[show k+(a.size+1)=(k+1)+a.size by omega,i1];cases ht:yZ sg a pre.length with
  |inl x=>exact⟨rfl,λr hr=>by cases hr⟩|inr ta=>
   have hz:x8 [ta]=arF n.1:=by rw[show arF n.1=1 from hw.1];rfl
   have hv:∀t∈[ta],VT t:=by simpa using i2 ta ht
   exact⟨step _ k n s [ta] hn hz hv G5,λr hr=>Mc (mem _ n hn) hv hz hr⟩
 |l2 n a b iha ihb=>
  intro hw pre suf s k hd hl;simp only[XT.post,F7]at hd;have hpa:(pre++a.post).length=pre.length+a.size:=by simp[XT.post_len]
  have hpb:(pre++a.post++b.post).length=pre.length+a.size+b.size:=by simp[XT.post_len];omega
  have hn:=getn (pre++a.post++b.post) suf n (by simpa using hd);rw[hpb]at hn;have hlen:=(ai.1 hn).1;obtain⟨i1,i2⟩:=iha hw.2.1 pre (b.post++[n]++suf) s (k+1+b.size) (by simpa using hd) hl;simp only[XT.size,yZ];rw[show k+(a.size+b.size+1)=(k+1+b.size)+a.size by omega,i1];cases ht:yZ sg a pre.length with
  |inl x=>exact⟨rfl,λr hr=>by cases hr⟩|inr ta=>
   have hsa:=a.size_pos;obtain⟨j1,j2⟩:=ihb hw.2.2 (pre++a.post) ([n]++suf) (s++[ta]) (k+1) (by simpa using hd) (by simp[XT.post_len];omega);rw[hpa]at j1 j2;simp only;rw[j1];cases hu:yZ sg b (pre.length+a.size)with
   |inl x=>exact⟨rfl,λr hr=>by cases hr⟩|inr tb=>
    have hz:x8 [ta,tb]=arF n.1:=by rw[show arF n.1=2 from hw.1];rfl
    have hv:∀t∈[ta,tb],VT t:=by simpa using ⟨i2 ta ht,j2 tb hu⟩
    have:=step _ k n s [ta,tb] hn hz hv G5;simp only[F7,J9,H9];rw[show pre.length+(a.size+b.size+1)=pre.length+a.size+b.size+1 by omega];exact⟨this,λr hr=>Mc (mem _ n hn) hv hz hr⟩
 |l3 n a b c iha ihb ihc=>
  intro hw pre suf s k hd hl;simp only[XT.post,F7]at hd;have hpa:(pre++a.post).length=pre.length+a.size:=by simp[XT.post_len]
  have hpb:(pre++a.post++b.post).length=pre.length+a.size+b.size:=by simp[XT.post_len];omega
  have hpc:(pre++a.post++b.post++c.post).length=pre.length+a.size+b.size+c.size:=by simp[XT.post_len];omega
  have hn:=getn (pre++a.post++b.post++c.post) suf n (by simpa using hd);rw[hpc]at hn;have hlen:=(ai.1 hn).1;obtain⟨i1,i2⟩:=iha hw.2.1 pre (b.post++(c.post++([n]++suf))) s (k+1+c.size+b.size) (by simpa using hd) hl;simp only[XT.size,yZ];rw[show k+(a.size+b.size+c.size+1)=(k+1+c.size+b.size)+a.size by omega,i1];have hsa:=a.size_pos;have hsb:=b.size_pos;cases ht:yZ sg a pre.length with
  |inl x=>exact⟨rfl,λr hr=>by cases hr⟩|inr ta=>
   obtain⟨j1,j2⟩:=ihb hw.2.2.1 (pre++a.post) (c.post++([n]++suf)) (s++[ta]) (k+1+c.size) (by simpa using hd) (by simp[XT.post_len];omega);rw[hpa]at j1 j2;simp only;rw[j1];cases hu:yZ sg b (pre.length+a.size)with
   |inl x=>exact⟨rfl,λr hr=>by cases hr⟩|inr tb=>
    obtain⟨q1,q2⟩:=ihc hw.2.2.2 (pre++a.post++b.post) ([n]++suf) (s++[ta]++[tb]) (k+1) (by simpa using hd) (by simp[XT.post_len];omega);rw[hpb]at q1 q2;simp only;rw[q1];cases hc:yZ sg c (pre.length+a.size+b.size)with
    |inl x=>exact⟨rfl,λr hr=>by cases hr⟩|inr tc=>
     have hz:x8 [ta,tb,tc]=arF n.1:=by rw[show arF n.1=3 from hw.1];rfl
     have hv:∀t∈[ta,tb,tc],VT t:=by simpa using ⟨i2 ta ht,j2 tb hu,q2 tc hc⟩
     have:=step _ k n s [ta,tb,tc] hn hz hv G5;simp only[F7,J9,H9];rw[show pre.length+(a.size+b.size+c.size+1)=pre.length+a.size+b.size+c.size+1 by omega];exact⟨this,λr hr=>Mc (mem _ n hn) hv hz hr⟩
end
def yY(e:List (Int×Int))(sg:U3):(Int×Int)×Int×Int:=match oV e with
 | .inl x=>((0,0),x)
 | .inr t=>match yZ sg t 0 with
  | .inl x=>((0,0),x)| .inr r=>(r,0,0)
variable {α:Type}
theorem a0G(s ops:List α)(k:Int)(hk:x8 ops=k)(h:s.length+ops.length<=100):
  L6 .i64 (x8 (s++ops)) k=(s.length:Int)/\lT (s.length:Int) (x8 (s++ops)) (x8 (s++ops))=true/\jY (s++ops) (bH (s.length:Int)) (bH (x8 (s++ops)))=ops
  /\lT 0 (s.length:Int) (x8 (s++ops))=true/\jY (s++ops) (bH 0) (bH (s.length:Int))=s:=by
 subst hk;refine⟨?_,?_,?_,?_,?_⟩
 .rw[dW (by unfold fE;simp[x8];omega)];simp[x8]
 .simp[lT,x8];omega
 .show((s++ops).take (((s++ops).length:Nat):Int).toNat).drop s.length=ops;rw[E9,bT,gW]
 .simp[lT,x8];omega
 .simp[jY,bH]
theorem a0F{f:(Int×Int)×List (Int×Int)×Int->Option (Out ((Int×Int)×List (Int×Int)×Int) ((Int×Int)×List (Int×Int)) ((Int×Int)×Int×Int))}
  (hI:∀n∈e,fE n.2) (hs:a9L e sg (0,0) f) (hend:∀s,f ((0,0),s,(e.length:Int))=some (.ex ((0,0),s))) (hcode:∀x,oV e= .inl x->x.2≠0):
  l7 (G7 (D6 (yU e).2.2 0)) (some ((((0:Int),(0:Int)),(yU e).2):(Int×Int)×Int×Int)) (l9 (S9 f (((0:Int),(0:Int)),([]:List (Int×Int)),(0:Int))) λ(o:(Int×Int)×List (Int×Int)⊕(Int×Int)×Int×Int)=>
   aj o (λ(y:(Int×Int)×List (Int×Int))=>l9 (O0 y.2 0) λ(x:Int×Int)=>l9 (eQ y.2 (bH 0)) λ(x:Int×Int)=>some (x,0,0)) λ(r:(Int×Int)×Int×Int)=>some r)=some (yY e sg):=by
 unfold yU yY;cases h:oV e with
 |inl x=>simp only[N7 (hcode x h),I7,o7]|inr t=>
  obtain⟨hp,h48⟩:=wC h;have hw:=OQ h;obtain⟨l1,_⟩:=a3A e sg (0,0) h48 hI hs t hw [] [] [] (fQ -t.size) (by simpa using hp) D5;have hsz:e.length=t.size:=by rw[hp,XT.post_len]
  have hlo:S9 f (((0:Int),(0:Int)),([]:List (Int×Int)),(0:Int))=iT f (fQ -t.size+t.size) ((0,0),[],(([]:List (Int×Int)).length:Int)):=by unfold S9;rw[Nat.sub_add_cancel (by unfold fQ;omega)];rfl
  simp only[V5 (rfl:(0:Int)=0),F6,o6];rw[hlo,l1];simp only[O7,dH];cases yZ sg t 0 with
  |inl x=>rfl|inr r=>obtain⟨k,hk⟩:∃k,fQ -t.size=k+1:=⟨fQ -t.size -1,by unfold fQ;omega⟩;simp only[H9];rw[hk,iT,←hsz,hend];rfl
theorem Az{x:Int×Int}(h:oV e= .inl x):x.2≠0:=by
 have key:∀(es:List (Int×Int)) (i:Nat) (ts:List XT) (x:Int×Int),xf i es ts= .inl x->x.2≠0:=by
  intro es;induction es with
  |nil=>intro i ts x h;cases h|cons n es ih=>
   intro i ts x h;unfold xf at h;cases hp:push n ts with
   |inl c=>
    rw[hp]at h;cases h;show c≠0;unfold push at hp
    (repeat' split at hp)<;>first|(cases hp;done)|(cases hp;decide)
   |inr t2=>
    rw[hp]at h;simp only at h;split at h
    .cases h;show(16:Int)≠0;decide
    .exact ih _ _ _ h
 unfold oV at h;split at h
 .cases h;show(4:Int)≠0;decide
 split at h
 .cases h;show(5:Int)≠0;decide
 split at h
 .rename_i y hp;cases h;exact key _ _ _ _ hp
 .cases h
 .cases h;show(4:Int)≠0;decide
theorem a3z(sg:U3)(hI:∀n∈e,fE n.2):Dl e sg=some (yY e sg):=by
 unfold Dl;rw[Bq,o9];refine a0F hI (λi n s ops hn hi2 hl hv hlen=>?_) (λs=>?_) (λx h=>Az h)
 .obtain⟨r,h1,h2,h3⟩:=a1D sg n (hI n (wJ hn)) ops hv hl;obtain⟨v1,v2,v3,v4,v5⟩:=a0G s ops _ hl hlen;have e' :Y_ n ops sg=r:=by unfold Y_;rw[h1];rfl
  have hi:=(ai.1 hn).1;simp only[X9 hn,o7,U2,hn,o9,a3P,v1,v2,v3,v4,v5];unfold JL;rw[e'];unfold EN at h2;have fin:bI n ops sg=some r->(l9 (bI n ops sg) λ(x_3:I9×Int)=>l7 (G7 (D6 x_3.2 0)) (some (Out.rt ((((0:Int),(0:Int)),((i:Int),x_3.2)):(Int×Int)×Int×Int)))
    (l9 (dB s [x_3.1]) λ(x_4:List I9)=>some (Out.nx (((0:Int),(0:Int)),x_4,G9 .i64 (i:Int) 1))))=
    some (match if r.2=0 then(.inr r.1:(Int×Int)⊕(Int×Int))else .inl ((i:Int),r.2)with| .inl x=>Out.rt ((0,0),x)| .inr t=>(Out.nx ((0,0),s++[t],((i+1:Nat):Int)):Out ((Int×Int)×List (Int×Int)×Int) ((Int×Int)×List (Int×Int)) ((Int×Int)×Int×Int))):=by
   intro hr;rw[hr,o9];by_cases h0:r.2=0
   .rw[if_pos h0,V5 h0];simp only[F6,o6];rw[yC _ o5,o9,dC o5]
   .rw[if_neg h0,N7 h0];rfl
  cases hz:D6 n.2 0
  .rw[hz]at h2;simp only[I7,o7]at h2 ⊢;cases hu:bW n.1 with
   |none=>rw[hu]at h2;cases h2|some u=>
    rw[hu]at h2;simp only[o9]at h2 ⊢;cases u
    .simp only[I7,o7]at h2 ⊢;cases h2;rfl
    .exact fin h2
  .rw[hz]at h2;exact fin h2
 .rw[Y6];rfl
section
variable {α β σ ε ρ:Type}
theorem KH(l:List α)(G:β->α->β)(mk:β->Int->σ)(fin:β->ε)(Inv:Nat->β->Prop){f:σ->Option (σ⊕ε)}{b:β}(hl:l.length<=1000000)(h0:Inv 0 b)
  (hin:∀(i:Nat) (a:α) (b:β),l[i]? =some a->i<=1000000->Inv i b->f (mk b (i:Int))=some (.inl (mk (G b a) ((i+1:Nat):Int)))/\Inv (i+1) (G b a))
  (hend:∀b,Inv l.length b->f (mk b (l.length:Int))=some (.inr (fin b))):
  dD f (mk b 0)=some (fin (l.foldl G b))/\Inv l.length (l.foldl G b):=by
 have key:∀(n i:Nat) (b:β),i<=l.length->l.length -i<n->Inv i b->xN f n (mk b (i:Int))=some (fin ((l.drop i).foldl G b))/\Inv l.length ((l.drop i).foldl G b):=by
  intro n;induction n with
  |zero=>intro i b _ h _;omega|succ n ih=>
   intro i b hi hn hI;unfold xN;by_cases h:i<l.length
   .have e:=mW h;obtain⟨h1,h2⟩:=hin i _ b e o5 hI;rw[h1,bY h];exact ih (i+1) _ o5 o5 h2
   .have:i=l.length:=o5;subst this;rw[hend b hI,zl];exact⟨rfl,hI⟩
 have:=key fQ 0 b o5 (by unfold fQ;omega) h0;exact this
theorem vV{γ:Type}(l:List α)(G:β->α->β)(mk:β->Int->σ)(fin:β->ε)(Inv:Nat->β->Prop)(b:β){f:σ->Option (σ⊕ε)}{K:ε->Option γ}{r:Option γ}(hl:l.length<=1000000)(h0:Inv 0 b)
  (hin:∀(i:Nat) (a:α) (b:β),l[i]? =some a->i<=1000000->Inv i b->f (mk b (i:Int))=some (.inl (mk (G b a) ((i+1:Nat):Int)))/\Inv (i+1) (G b a))
  (hend:∀b,Inv l.length b->f (mk b (l.length:Int))=some (.inr (fin b))) (hk:Inv l.length (l.foldl G b)->K (fin (l.foldl G b))=r):l9 (dD f (mk b 0)) K=r:=by
 obtain⟨h1,h2⟩:=KH l G mk fin Inv hl h0 hin hend;rw[h1];exact hk h2
def LJ(G:β->α->β⊕ρ):List α->β->β⊕ρ
 |[],b=> .inl b
 |a::l,b=>match G b a with| .inl b' =>LJ G l b'| .inr r=> .inr r
theorem x_(l:List α)(G:β->α->β⊕ρ)(mk:β->Int->σ)(fin:β->ε)(Inv:Nat->β->Prop){f:σ->Option (Out σ ε ρ)}{b:β}(hl:l.length<=1000000)(h0:Inv 0 b)
  (hin:∀(i:Nat) (a:α) (b:β),l[i]? =some a->i<=1000000->Inv i b->f (mk b (i:Int))=some (match G b a with| .inl b' => .nx (mk b' ((i+1:Nat):Int))| .inr r=> .rt r)/\∀b',G b a= .inl b' ->Inv (i+1) b')
  (hend:∀b,Inv l.length b->f (mk b (l.length:Int))=some (.ex (fin b))):
  S9 f (mk b 0)=some (match LJ G l b with| .inl b' => .inl (fin b')| .inr r=> .inr r)/\∀b',LJ G l b= .inl b' ->Inv l.length b' :=by
 have key:∀(n i:Nat) (b:β),i<=l.length->l.length -i<n->Inv i b->iT f n (mk b (i:Int))=some (match LJ G (l.drop i) b with| .inl b' => .inl (fin b')| .inr r=> .inr r)/\∀b',LJ G (l.drop i) b= .inl b' ->Inv l.length b' :=by
  intro n;induction n with
  |zero=>intro i b _ h _;omega|succ n ih=>
   intro i b hi hn hI;unfold iT;by_cases h:i<l.length
   .have e:=mW h;obtain⟨h1,h2⟩:=hin i _ b e o5 hI;rw[h1,bY h];unfold LJ;cases hg:G b l[i]with
    |inr r=>exact⟨rfl,λb' hb=>by cases hb⟩|inl b' =>exact ih (i+1) _ o5 o5 (h2 b' hg)
   .have:i=l.length:=o5;subst this;rw[hend b hI,zl];exact⟨rfl,λb' hb=>by cases hb;exact hI⟩
 have:=key fQ 0 b o5 (by unfold fQ;omega) h0;exact this
theorem w_{γ:Type}(l:List α)(G:β->α->β⊕ρ)(mk:β->Int->σ)(fin:β->ε)(Inv:Nat->β->Prop)(b:β){f:σ->Option (Out σ ε ρ)}{K:ε⊕ρ->Option γ}{r:Option γ}(hl:l.length<=1000000)(h0:Inv 0 b)
  (hin:∀(i:Nat) (a:α) (b:β),l[i]? =some a->i<=1000000->Inv i b->f (mk b (i:Int))=some (match G b a with| .inl b' => .nx (mk b' ((i+1:Nat):Int))| .inr r=> .rt r)/\∀b',G b a= .inl b' ->Inv (i+1) b')
  (hend:∀b,Inv l.length b->f (mk b (l.length:Int))=some (.ex (fin b)))
  (hk:(∀b',LJ G l b= .inl b' ->Inv l.length b')->K (match LJ G l b with| .inl b' => .inl (fin b')| .inr r=> .inr r)=r):l9 (S9 f (mk b 0)) K=r:=by
 obtain⟨h1,h2⟩:=x_ l G mk fin Inv hl h0 hin hend;rw[h1];exact hk h2
end
def Xj(c:UInt8):Bool:=decide (32<=c.toNat)&&decide (c.toNat<=126)&&decide (c.toNat≠34)
def Zl(s:List UInt8):Bool:=decide (s.length<=64)&&s.all Xj
theorem a1k(c:UInt8):∀s:List UInt8,decide (0<=Lib.indexByte s c)=s.any λx=>decide (x.toNat=c.toNat)
 |[]=>by simp[Lib.indexByte]|b::l=>by
  have ih:=a1k c l;have hge:=Lib.indexByte_ge l c;rw[List.any_cons,←ih];have e:Lib.indexByte (b::l) c=if b=c then 0 else if Lib.indexByte l c=-1 then -1 else Lib.indexByte l c+1:=by rw[Lib.indexByte];simp
  rw[e];by_cases h:b=c
  .subst h;simp
  .have h2:b.toNat≠c.toNat:=λhh=>h (UInt8.toNat_inj.1 hh);rw[if_neg h,show decide (b.toNat=c.toNat)=false by simp[h2],KF];by_cases h3:Lib.indexByte l c=-1
   .rw[h3];rfl
   .rw[if_neg h3];simp;omega
theorem a7y(c:UInt8):Xj c=(!J4 (c.toNat:Int) 32&&!J4 126 (c.toNat:Int)&&!D6 (c.toNat:Int) 34):=by unfold Xj J4 D6;rw[kV];simp;omega
theorem a0P(s:List UInt8)(p:UInt8->Bool):(∀(i:Nat) (a:UInt8),s[i]? =some a->p a=true)↔s.all p=true:=by rw[kC];exact⟨λh x hx=>by obtain⟨i,hi,rfl⟩:=aY hx;exact h i _ (mW hi),λh i a hi=>h a (wJ hi)⟩
theorem Uc{s:List UInt8}(h:s.length<=1000000):xC s=some (Zl s):=by
 unfold xC;have h5:J4 64 (x8 s)= !decide (s.length<=64):=by simp only[J4,x8];rw[←decide_not];congr 1;simp;omega
 rw[h5,show xg s [34]=some (s.any λx=>decide (x.toNat=(34:UInt8).toNat))from congrArg some (a1k 34 s)];unfold Zl;cases decide (s.length<=64)
 .rfl
 simp only[qC,o6,o9,uk];cases h34:s.any λx=>decide (x.toNat=(34:UInt8).toNat)
 case true=>
  obtain⟨x,hx,hx2⟩:=uV.1 h34;simp only[decide_eq_true_eq]at hx2;have:s.all Xj=false:=by rw[List.all_eq_false];refine⟨x,hx,?_⟩;unfold Xj;rw[hx2];decide
  rw[this];rfl
 simp only[o6];refine X7 (a2S s (λi a=>Xj a) false PUnit.unit _ o5 (λi x hx=>?_) ?_) ?_
 rotate_left 2
 .by_cases hw:s.all Xj=true
  .rw[if_pos ((a0P s Xj).2 hw),hw];rfl
  .rw[if_neg (λh=>hw ((a0P s Xj).1 h))];simp only[GH]at hw;rw[hw];rfl
 .have hi:=(ai.1 hx).1;have hne:D6 (x.toNat:Int) 34=false:=by
   have:=(ul.1 h34) x (wJ hx);simp only[decide_eq_true_eq]at this;exact N7 (by have h:(34:UInt8).toNat=34:=rfl;omega)
  simp only[X9 hx,o7,yS,hx,dA,o9];rw[dC o5,a7y,hne];cases J4 (x.toNat:Int) 32<;>cases J4 126 (x.toNat:Int)<;>rfl
 .rw[Y6];rfl
def JX(e:List (Int×Int))(sg:U3)(t:Int×Int):Int:=l7 (D6 (yY e sg).2.2 0) (l7 (kZ (D6 (yY e sg).1.1 t.1) (D6 (yY e sg).1.2 t.2)) 0 8) (yY e sg).2.2
theorem Lt(sg:U3)(t:Int×Int)(hI:∀n∈e,fE n.2):uS e sg t=some (JX e sg t):=by
 unfold uS JX;rw[a3z sg hI,o9];cases D6 (yY e sg).2.2 0
 .rfl
 simp only[F6,o6,o7];cases kZ (D6 (yY e sg).1.1 t.1) (D6 (yY e sg).1.2 t.2)<;>rfl
def ZE(r:ak):Prop:=r.1.length<=1000000/\r.2.2.2.2.2.2.2.length<=1000000/\(∀n∈r.2.2.2.2.2.1,fE n.2)/\(∀n∈r.2.2.2.2.2.2.1,fE n.2)
def Uo(rs:List ak)(d:Int):Nat:=rs.countP λo=>D6 o.2.1 d
def NW(r:ak)(sg:U3)(t:Int×Int):Int:=
 l7 (J4 0 (x8 r.2.2.2.2.2.1)) (l7 (D6 (JX r.2.2.2.2.2.1 sg (1,0)) 0) (JX r.2.2.2.2.2.2.1 sg t) (JX r.2.2.2.2.2.1 sg (1,0))) (JX r.2.2.2.2.2.2.1 sg t)
def Gw(s:H8)(sg:U3)(k:Nat)(r:ak):Int:=
 l7 (tC r.1) (l7 ((s.2.2.2.2.take k).any λx=>seq x.1 r.1) 7 (match O0 s.2.2.2.1 r.2.1 with
  |none=>6|some d=>l7 (l7 (D6 r.2.2.1 (-1)) false (l7 (J4 r.2.2.1 0) true (l7 (U6 k r.2.2.1) true (match O0 s.2.2.2.2 r.2.2.1 with|some q=>G7 (D6 q.2.1 r.2.1)|none=>true)))) 9
   (l7 (J4 r.2.2.2.1 0) 3 (l7 (J4 9 r.2.2.2.1) 3 (l7 (EQ r.2.2.2.2.1) (l7 (D6 r.2.2.2.2.1.1 r.2.2.2.2.1.2) 3
    (l7 (U6 8 (Uo (s.2.2.2.2.take k) r.2.1)) 4 (l7 (Zl r.2.2.2.2.2.2.2) (NW r sg d.2) 2))) 3))))) 2
theorem Yh{l:List α}{i:Int}(h:U6 0 i=false\/J4 i (x8 l)=false):O0 l i=none:=by
 unfold O0
 split
 .rename_i h0;rcases h with h|h
  .rw[Hw]at h;omega
  .rw[lg]at h;simp only[x8]at h;exact aZ o5
 .rfl
variable {s:H8}{r:ak}{k:Nat}
theorem VS(sg:U3)(hr:s.2.2.2.2[k]? =some r)(hl:s.2.2.2.2.length<=100000)(h:ZE r):Aa s (k:Int) sg=some (Gw s sg k r):=by
 have hk:=(ai.1 hr).1;have hcnt:Uo (s.2.2.2.2.take k) r.2.1<=100000:=by have:=List.countP_le_length (l:=s.2.2.2.2.take k) (p:=λ(o:ak)=>D6 o.2.1 r.2.1);unfold Uo;simp at this;omega
 unfold Aa;rw[U2,hr,o9,xY o5,o9];refine X7 (KH (s.2.2.2.2.take k) (λ(c:Nat) (o:ak)=>l7 (D6 o.2.1 r.2.1) (c+1) c) (λc i=>((c:Int),i)) (λc=>(c:Int)) (λi c=>c<=i) (b:=0) G5 o5 (λi a c ha hi hc=>?_) (λc hc=>?_)).1 ?_
 rotate_left 2
 .have hf:∀(l:List ak) (c:Nat),l.foldl (λ(c:Nat) (o:ak)=>l7 (D6 o.2.1 r.2.1) (c+1) c) c=c+Uo l r.2.1:=by
   intro l;induction l with
   |nil=>intro c;rfl|cons a l ih=>intro c;rw[aT,ih];unfold Uo;rw[List.countP_cons];cases D6 a.2.1 r.2.1<;>simp<;>omega
  rw[hf,dH,o9,lY h.1,o9,o9,p_ _ G5,o9];unfold Gw;cases tC r.1
  .rfl
  simp only[F6,o6,o7,o9];cases (s.2.2.2.2.take k).any λx=>seq x.1 r.1
  case true=>rfl
  simp only[o6];rw[Dn r.2.1 0,Qs (x8 s.2.2.2.1) r.2.1];cases h0:U6 0 r.2.1
  .rw[Yh (.inl h0)];rfl
  cases h1:J4 r.2.1 (x8 s.2.2.2.1)
  .rw[Yh (.inr h1)];rfl
  obtain⟨d,hd,_⟩:=um (iJ.1 h0) (zY.1 h1);rw[hd];simp only[qC,o6,o9,Uc h.2.1];have hpar:(l7 (G7 (D6 r.2.2.1 (-1))) (l7 (J4 r.2.2.1 0) (some true) (l7 (U6 (k:Int) r.2.2.1) (some true) (l9 (O0 s.2.2.2.2 r.2.2.1) λ(x_6:ak)=>some (G7 (D6 x_6.2.1 r.2.1))))) (some false))=
    some (l7 (D6 r.2.2.1 (-1)) false (l7 (J4 r.2.2.1 0) true (l7 (U6 k r.2.2.1) true (match O0 s.2.2.2.2 r.2.2.1 with|some q=>G7 (D6 q.2.1 r.2.1)|none=>true)))):=by
   cases D6 r.2.2.1 (-1)
   case true=>rfl
   simp only[I7,o7,o6];cases hp0:J4 r.2.2.1 0
   case true=>rfl
   cases hp1:U6 (k:Int) r.2.2.1
   case true=>rfl
   rw[lg]at hp0;rw[Hw]at hp1;obtain⟨q,hq,_⟩:=um (l:=s.2.2.2.2) hp0 (by simp only[x8];omega);rw[hq];rfl
  rw[hpar,o9];cases (l7 (D6 r.2.2.1 (-1)) false (l7 (J4 r.2.2.1 0) true (l7 (U6 k r.2.2.1) true (match O0 s.2.2.2.2 r.2.2.1 with|some q=>G7 (D6 q.2.1 r.2.1)|none=>true))))
  case true=>rfl
  simp only[o6];cases J4 r.2.2.2.1 0
  case true=>rfl
  simp only[o6,o9];cases J4 9 r.2.2.2.1
  case true=>rfl
  simp only[o6];have hval:∀(A B:Option (ak⊕Int)),l7 (J4 r.2.2.2.2.1.1 0) A (l7 (U6 r.2.2.2.2.1.2 r.2.2.2.2.1.1) A (l7 (J4 109573 r.2.2.2.2.1.2) A B))=l7 (EQ r.2.2.2.2.1) (l7 (D6 r.2.2.2.2.1.1 r.2.2.2.2.1.2) A B) A:=by
   intro A B;unfold EQ;by_cases v0:r.2.2.2.2.1.1<(0:Int)
   .rw[bu v0,dP (show r.2.2.2.2.1.1<(0:Int)from v0)];rfl
   rw[X3 (qQ.1 v0),aS (qQ.1 v0)];by_cases v1:(r.2.2.2.2.1.2:Int)<=r.2.2.2.2.1.1
   .rw[aS v1];by_cases v2:(r.2.2.2.2.1.1:Int)<=r.2.2.2.2.1.2
    .rw[aS v2,V5 (vO v2 v1)];cases U6 r.2.2.2.2.1.2 109573<;>rfl
    .rw[dP (uJ.1 v2)];rfl
   .have v1' :=uJ.1 v1;rw[dP v1',aS (Int.le_of_lt v1'),N7 (λhh=>by rw[hh]at v1';exact Int.lt_irrefl _ v1'),Dn];cases U6 r.2.2.2.2.1.2 109573<;>rfl
  rw[hval];cases EQ r.2.2.2.2.1
  .rfl
  cases D6 r.2.2.2.2.1.1 r.2.2.2.2.1.2
  case true=>rfl
  simp only[o7,o6];cases U6 8 ((Uo (s.2.2.2.2.take k) r.2.1:Nat):Int)
  case true=>rfl
  cases Zl r.2.2.2.2.2.2.2
  .rfl
  simp only[F6,o6,o7,o9,W9,NW,hd,Lt sg _ h.2.2.1,Lt sg _ h.2.2.2];cases J4 0 (x8 r.2.2.2.2.2.1)
  .rfl
  simp only[o7];cases D6 (JX r.2.2.2.2.2.1 sg (1,0)) 0<;>rfl
 .have hc' :c<=1000000:=o5;obtain⟨ha1,ha2⟩:=Zr ha;simp only[X9 ha,o7,U2,ha,o9];rw[dC (show i<=9000000000000000000 by omega),dC (show c<=9000000000000000000 by omega)];cases D6 a.2.1 r.2.1
  .exact⟨rfl,by show c<=i+1;omega⟩
  .exact⟨rfl,by show c+1<=i+1;omega⟩
 .simp only[Y6];rfl
structure SmS (s:H8):Prop where
 nm:s.1.length<=1000000
 ni:s.2.2.1.length<=14
 nd:s.2.2.2.1.length<=14
 nr:s.2.2.2.2.length<=96
 fo:Xv s
 ro:∀r∈s.2.2.2.2,ZE r/\r.2.2.2.2.2.1.length<=50/\r.2.2.2.2.2.2.1.length<=50
def isM(op:Int):Bool:=l7 (U6 36 op) (U6 op 39) false
theorem b0P(op:Int):isM op=l7 (D6 op 36) true (l7 (D6 op 37) true (l7 (D6 op 38) true (D6 op 39))):=by
 unfold isM;by_cases h1:36<=op
 .rw[aS h1,o7];by_cases h2:op<=39
  .rw[aS h2];have:op=36\/op=37\/op=38\/op=39:=o5;rcases this with rfl|rfl|rfl|rfl<;>rfl
  .rw[dP o5,N7 o5,N7 o5,N7 o5,N7 o5];rfl
 .rw[dP o5,N7 o5,N7 o5,N7 o5,N7 o5];rfl
def Qg(p:Int->Bool)(e:List (Int×Int)):List Int:=(e.filter λn=>p n.1).map (·.2)
def Iy(e:List (Int×Int)):List Int×List Int×List Int:=(La (Qg (λo=>D6 o 7) e),La (Qg (λo=>D6 o 8) e),La (Qg isM e))
def a8X(g:List Int->Int->List Int)(b:List Int×List Int×List Int)(n:Int×Int):List Int×List Int×List Int:=
 (l7 (D6 n.1 7) (g b.1 n.2) b.1,l7 (D6 n.1 8) (g b.2.1 n.2) b.2.1,l7 (isM n.1) (g b.2.2 n.2) b.2.2)
theorem Vx(g:List Int->Int->List Int):∀(e:List (Int×Int)) (b:List Int×List Int×List Int),e.foldl (a8X g) b=((Qg (λo=>D6 o 7) e).foldl g b.1,(Qg (λo=>D6 o 8) e).foldl g b.2.1,(Qg isM e).foldl g b.2.2)
 |[],b=>rfl|n::e,b=>by
  have hn:∀p:Int->Bool,Qg p (n::e)=l7 (p n.1) (n.2::Qg p e) (Qg p e):=λp=>by unfold Qg;rw[kD];cases p n.1<;>rfl
  rw[aT,Vx g e,hn,hn,hn];unfold a8X;simp only;cases D6 n.1 7<;>cases D6 n.1 8<;>cases isM n.1<;>rfl
theorem UY:∀(l b:List Int),l.foldl (λacc n=>acc++[n]) b=b++l
 |[],b=>by simp|a::l,b=>by rw[aT,UY l];simp
theorem Fb{a k:Int}(h:a=k)(m:Int)(hm:k≠m):D6 a m=false:=N7 o5
theorem Dk{l:List Int}(hl:l.length<=1000000):uQ l=some (La l):=by unfold uQ;have:=a9y (l:=l) hl;rw[show(λx=>l9 (qV x) λ(x:List Int)=>some x)=λx=>qV x from funext λx=>bF _];exact this
theorem JP(h:e.length<=1000000):uH e=some (Iy e):=by
 unfold uH;refine vV e (a8X (λacc n=>acc++[n])) (λb i=>(b.1,b.2.1,b.2.2,i)) (λb=>b) (λi b=>b.1.length<=i/\b.2.1.length<=i/\b.2.2.length<=i) (([],[],[]):List Int×List Int×List Int) h D5 (λi a b ha hi hI=>?_) (λb hI=>?_) (λh2=>?_)
 .obtain⟨b1,b2,b3⟩:=b;simp only at hI;simp only[X9 ha,o7,U2,ha,o9,yC a.2 (show b1.length<=1000000 by omega),yC a.2 (show b2.length<=1000000 by omega),yC a.2 (show b3.length<=1000000 by omega),a8X,b0P];rw[dC o5];by_cases h7:a.1=7
  .rw[V5 h7,Fb h7 8 H7,Fb h7 36 H7,Fb h7 37 H7,Fb h7 38 H7,Fb h7 39 H7];exact⟨rfl,by simp<;>omega,by simp<;>omega,by simp<;>omega⟩
  rw[N7 h7];by_cases h8:a.1=8
  .rw[V5 h8,Fb h8 36 H7,Fb h8 37 H7,Fb h8 38 H7,Fb h8 39 H7];exact⟨rfl,by simp<;>omega,by simp<;>omega,by simp<;>omega⟩
  rw[N7 h8];cases D6 a.1 36<;>cases D6 a.1 37<;>cases D6 a.1 38<;>cases D6 a.1 39<;>exact⟨rfl,by simp<;>omega,by simp<;>omega,by simp<;>omega⟩
 .simp only[Y6];rfl
 .rw[Vx]at h2 ⊢;simp only[UY,H9]at h2 ⊢;rw[Dk o5,o9,Dk o5,o9,Dk o5];rfl
theorem a5a(p:Int->Bool)(e:List (Int×Int)):(Qg p e).length<=e.length:=by unfold Qg;rw[P6];exact iw _ _
theorem Jm(e:List (Int×Int)):(Iy e).2.1.length<=e.length:=P8 (Yi _) (a5a _ e)
def inD(n d:Int):Bool:=l7 (U6 0 d) (J4 d n) false
def Il(n:Int)(r:ak):List Int:=(Iy r.2.2.2.2.2.1).2.1.filter (inD n)++(Iy r.2.2.2.2.2.2.1).2.1.filter (inD n)
theorem RJ(p:Int->Bool):∀(l b:List Int),l.foldl (λacc x=>l7 (p x) (acc++[x]) acc) b=b++l.filter p
 |[],b=>by simp|a::l,b=>by rw[aT,RJ p l,kD];cases p a<;>simp
theorem UW{f:List Int×Int->Option ((List Int×Int)⊕List Int)}(l b:List Int)(n:Int)(hl:l.length<=1000)(hb:b.length<=1000)
  (hin:∀(i:Nat) (a:Int) (acc:List Int),l[i]? =some a->i<=1000000->f (acc,(i:Int))=l7 (U6 0 a) (l7 (J4 a n) (l9 (dB acc [a]) λx=>some (.inl (x,G9 .i64 (i:Int) 1))) (some (.inl (acc,G9 .i64 (i:Int) 1)))) (some (.inl (acc,G9 .i64 (i:Int) 1))))
  (hend:∀acc,f (acc,(l.length:Int))=some (.inr acc)):dD f (b,0)=some (b++l.filter (inD n)):=by
 have key:=KH l (λ(acc:List Int) x=>l7 (inD n x) (acc++[x]) acc) (λb i=>(b,i)) (λb=>b) (λi acc=>acc.length<=1000+i) (f:=f) (b:=b) o5 o5 ?_ ?_
 .rw[key.1,RJ]
 .intro i a acc ha hi hI;have:=(ai.1 ha).1;rw[hin i a acc ha hi,dC o5,yC _ o5];unfold inD;cases U6 0 a
  .exact⟨rfl,by show acc.length<=_;omega⟩
  cases J4 a n
  .exact⟨rfl,by show acc.length<=_;omega⟩
  .exact⟨rfl,by simp;omega⟩
 .intro acc hI;rw[hend]
theorem NL(n:Int)(h1:r.2.2.2.2.2.1.length<=50)(h2:r.2.2.2.2.2.2.1.length<=50):uh r n=some (Il n r):=by
 have g1:=Jm r.2.2.2.2.2.1;have g2:=Jm r.2.2.2.2.2.2.1;unfold uh Il;rw[JP o5,o9,JP o5,o9];refine X7 (UW (Iy r.2.2.2.2.2.1).2.1 [] n o5 D5 (λi a acc ha hi=>?_) (λacc=>?_)) ?_
 rotate_left 2
 .rw[o9,bF,H9];have:=iw (inD n) (Iy r.2.2.2.2.2.1).2.1;refine UW (Iy r.2.2.2.2.2.2.1).2.1 _ n o5 o5 (λi a acc ha hi=>?_) (λacc=>?_)
  .simp only[X9 ha,o7,U2,ha,o9];rw[show eQ (Iy r.2.2.2.2.2.2.1).2.1 (bH (i:Int))=some a from ha,o9]
  .simp only[Y6];rfl
 .simp only[X9 ha,o7,U2,ha,o9];rw[show eQ (Iy r.2.2.2.2.2.1).2.1 (bH (i:Int))=some a from ha,o9]
 .simp only[Y6];rfl
def nD(s:H8):Int:=x8 s.2.2.2.1
def dl(n:Int)(rs:List ak)(d:Int):List Int:=rs.flatMap λr=>l7 (D6 r.2.1 d) (Il n r) []
def Ba(s:H8)(d:Int):List Int:=l7 (inD (nD s) d) (La (dl (nD s) s.2.2.2.2 d)) []
theorem Vt(h:SmS s)(hr:r∈s.2.2.2.2)(n:Int):(Il n r).length<=100:=by obtain⟨_,h1,h2⟩:=h.ro r hr;have a1:=Jm r.2.2.2.2.2.1;have a2:=Jm r.2.2.2.2.2.2.1;have b1:=iw (inD n) (Iy r.2.2.2.2.2.1).2.1;have b2:=iw (inD n) (Iy r.2.2.2.2.2.2.1).2.1;unfold Il;rw[E8];omega
theorem a0Z(n:Int)(rs:List ak)(r:ak)(d:Int):dl n (rs++[r]) d=dl n rs d++l7 (D6 r.2.1 d) (Il n r) []:=by unfold dl;rw[gB];simp
theorem a8e(n:Int)(rs:List ak)(r:ak)(d:Int):dl n (r::rs) d=l7 (D6 r.2.1 d) (Il n r) []++dl n rs d:=rfl
theorem ZZ{s:H8}(h:SmS s)(n d:Int):∀(rs:List ak),(∀r∈rs,r∈s.2.2.2.2)->(dl n rs d).length<=100*rs.length
 |[],_=>by simp[dl]|r::rs,hm=>by
  have ih:=ZZ h n d rs λr hr=>hm r (by simp[hr]);have h1:=Vt h (hm r D5) n;rw[a8e,E8,D9];cases D6 r.2.1 d
  .simp only[o6,O7];omega
  .simp only[o7];omega
variable {d:Int}{x:Int}
theorem b0S{n:Int}{rs:List ak} :x∈dl n rs d↔∃r∈rs,r.2.1=d/\x∈Il n r:=by
 unfold dl;rw[uX];constructor
 .rintro⟨r,hr,hx⟩;cases hq:D6 r.2.1 d<;>rw[hq]at hx
  .simp at hx
  .exact⟨r,hr,X8.1 hq,hx⟩
 .rintro⟨r,hr,hq,hx⟩;exact⟨r,hr,by rw[V5 hq];exact hx⟩
theorem a5T{n:Int}(h:x∈Il n r):0<=x/\x<n:=by
 have key:inD n x=true:=by unfold Il at h;rcases F9.1 h with h|h<;>exact(oz.1 h).2
 unfold inD at key;cases h0:U6 0 x<;>rw[h0]at key
 .cases key
 .exact⟨iJ.1 h0,zY.1 key⟩
theorem NP(s:H8)(d:Int):SI (Ba s d):=by
 unfold Ba;cases inD (nD s) d
 .exact List.Pairwise.nil
 .exact a1W _
theorem NM(h:x∈Ba s d):0<=x/\x<nD s:=by
 unfold Ba at h;cases hq:inD (nD s) d<;>rw[hq]at h
 .simp at h
 .obtain⟨r,_,_,hx⟩:=b0S.1 ((Yp _ _).1 h);exact a5T hx
theorem a1v(m k:Nat)(f:Nat->α)(v:α):((List.range m).map f).set k v=(List.range m).map λd=>if d=k then v else f d:=by
 apply gm;intro i;rw[af,iL,iL,P6,iM];by_cases hi:i<m
 .rw[List.getElem?_range hi];by_cases h:k=i
  .subst h;simp[hi]
  .simp[h,Ne.symm h]
 .have:(List.range m)[i]? =none:=by simp;omega
  rw[this];by_cases h:k=i
  .subst h;simp[hi]
  .simp[h]
def QR(m:Nat)(rs:List ak):List (List Int):=(List.range m).map λ(d:Nat)=>dl (m:Int) rs (d:Int)
theorem Xh{l:List Int}(hl:l.length<=1000000):BQ l=some (La l):=Dk hl
theorem Ws(m:Nat)(f:Nat->α)(h:k<m):((List.range m).map f)[k]? =some (f k):=by rw[iL,List.getElem?_range h];rfl
theorem VO(h:SmS s):yu s=some ((List.range s.2.2.2.1.length).map λ(d:Nat)=>Ba s (d:Int)):=by
 have hnr:=h.nr;have hnd:=h.nd;unfold yu;generalize hm:s.2.2.2.1.length=m at*;have hn:nD s=(m:Int):=by unfold nD x8;rw[hm]
 rw[show x8 s.2.2.2.1=(m:Int)from hn,show Jy (m:Int) ([]:List Int)=some (QR m []) by unfold Jy QR dl;rw[if_pos o5];simp[List.map_const'],o9];refine vV s.2.2.2.2 (λ(b:List (List Int)) r=>l7 (inD m r.2.1) (b.set r.2.1.toNat ((b.getD r.2.1.toNat [])++Il m r)) b) (λb i=>(b,i)) (λb=>b) (λi b=>b=QR m (s.2.2.2.2.take i)) (QR m []) o5 D5 (λi r b ha hi hI=>?_) (λb hI=>?_) (λh2=>?_)
 .have hlt:=(ai.1 ha).1;obtain⟨_,h1,h2⟩:=h.ro r (wJ ha);have hst:s.2.2.2.2.take (i+1)=s.2.2.2.2.take i++[r]:=by
   rw[X5 hlt,(ai.1 ha).2]
  have hlb:x8 b=(m:Int):=by rw[hI];simp[x8,QR]
  obtain⟨rd,hrd⟩:∃rd:Int,r.2.1=rd:=⟨r.2.1,rfl⟩;simp only[X9 ha,o7,U2,ha,o9,hlb,hrd];rw[dC o5,hst];by_cases hd:0<=rd/\rd<(m:Int)
  .obtain⟨d0,d1⟩:=hd;have hk:rd.toNat<m:=o5;have hkk:((rd.toNat:Nat):Int)=rd:=o5;have hg:b[rd.toNat]? =some (dl m (s.2.2.2.2.take i) rd):=by rw[hI];unfold QR;rw[Ws m _ hk,hkk]
   have hll:=ZZ h m rd (s.2.2.2.2.take i) λr hr=>mM hr;have hrl:=Vt h (wJ ha) m;have htl:(s.2.2.2.2.take i).length<=96:=by simp;omega
   rw[aS d0,bu d1,show inb rd (m:Int)=true by unfold inb;simp;omega,show eQ b (bH rd)=some (dl m (s.2.2.2.2.take i) rd)from hg,NL _ h1 h2];simp only[o7,o9];rw[rY o5,show Fv (bH rd) (bH rd)=true by simp[Fv]];simp only[o7,o9];have hin:inD m rd=true:=by unfold inD;rw[aS d0,bu d1];rfl
   rw[hin,show b.getD rd.toNat []=dl m (s.2.2.2.2.take i) rd by rw[Ob,hg];rfl];refine⟨rfl,?_⟩;show b.set rd.toNat _=_;rw[hI];unfold QR;rw[a1v];apply eF;intro d hdm;rw[a0Z,hrd];by_cases hq:d=rd.toNat
   .subst hq;rw[if_pos rfl,hkk,V5 rfl];rfl
   .rw[if_neg hq,N7 o5];simp
  .have hin:inD m rd=false:=by
    unfold inD;by_cases d0:0<=rd
    .rw[aS d0,X3 o5];rfl
    .rw[dP o5];rfl
   rw[hin];refine⟨?_,?_⟩
   .unfold inD at hin;cases q0:U6 0 rd
    .rfl
    .rw[q0]at hin;simp only[o7]at hin ⊢;rw[hin];rfl
   .show b=_;rw[hI];unfold QR;apply eF;intro d hdm;have:=dX.1 hdm;rw[a0Z,hrd,N7 o5];simp
 .simp only[Y6];rfl
 .rw[bT]at h2;rw[h2];generalize hA:QR m s.2.2.2.2=A;have hAl:x8 A=(m:Int):=by rw[←hA];simp[x8,QR]
  refine vV (List.range m) (λ(b:List (List Int)) d=>b.set d (La (b.getD d []))) (λb i=>(b,i)) (λb=>b) (λi b=>b=(List.range m).map λ(d:Nat)=>if d<i then La (dl m s.2.2.2.2 (d:Int))else dl m s.2.2.2.2 (d:Int)) A G5 (by rw[←hA];unfold QR;simp) (λi d b ha hi hI=>?_) (λb hI=>?_) (λh3=>?_)
  .have hlt:=(ai.1 ha).1;simp only[iM]at hlt;have hdi:d=i:=by rw[List.getElem?_range hlt]at ha;exact(bD ha).symm
   subst hdi;have hlb:x8 b=(m:Int):=by rw[hI];simp[x8]
   have hg:b[d]? =some (dl m s.2.2.2.2 (d:Int)):=by rw[hI,Ws m _ hlt,if_neg o5]
   have hll:=ZZ h m d s.2.2.2.2 λr hr=>hr;simp only[hAl,hlb];rw[bu (show(d:Int)<(m:Int) by omega),show inb (d:Int) (m:Int)=true by unfold inb;simp;omega,show eQ b (bH (d:Int))=some (dl m s.2.2.2.2 (d:Int))from hg];simp only[o7,o9];rw[Xh o5,show Fv (bH (d:Int)) (bH (d:Int))=true by simp[Fv],dC o5];simp only[o7,o9];rw[show b.getD d []=dl m s.2.2.2.2 (d:Int) by rw[Ob,hg];rfl];refine⟨rfl,?_⟩;rw[hI,a1v];apply eF;intro e he;by_cases hq:e=d
   .subst hq;rw[if_pos rfl,if_pos o5]
   .rw[if_neg hq];by_cases hq2:e<d
    .rw[if_pos hq2,if_pos o5]
    .rw[if_neg hq2,if_neg o5]
  .simp only[iM,hAl,X3 (show(m:Int)<=(m:Int) by omega)];rfl
  .rw[h3];apply congrArg some;apply eF;intro d hd;have:=dX.1 hd;simp only[iM];rw[if_pos this];unfold Ba;rw[hn,show inD (m:Int) (d:Int)=true by unfold inD;rw[aS o5,bu o5];rfl];rfl
def Rch(D:Int->List Int)(d:Int)(L:List Int):Prop:=SI L/\(∀x∈D d,x∈L)/\(∀x∈L,∀y∈D x,y∈L)/\∀C:Int->Prop,(∀x∈D d,C x)->(∀x,C x->∀y∈D x,C y)->∀x∈L,C x
theorem Rch.unique{D:Int->List Int}{L M:List Int}(h:Rch D d L)(k:Rch D d M):L=M:=
 a0m h.1 k.1 λx=>⟨λhx=>h.2.2.2 (λy=>y∈M) k.2.1 k.2.2.1 x hx,λhx=>k.2.2.2 (λy=>y∈L) h.2.1 h.2.2.1 x hx⟩
theorem Xl:∀{B A:List Int},SI A->SI B->(∀x∈A,x∈B)->A=B\/A.length<B.length
 |[],A,_,_,h=>by
  cases A with
  |nil=>exact .inl rfl|cons a A=>exact absurd (h a D5) D5
 |b::B,[],_,_,_=> .inr D5|b::B,a::A,hA,hB,h=>by
  have hA' :=V7.1 hA;have hB' :=V7.1 hB;rcases C9.1 (h a D5)with hab|hab
  .subst hab;rcases Xl (B:=B) (A:=A) hA'.2 hB'.2 (λx hx=>by
    rcases C9.1 (h x (by simp[hx]))with h1|h1
    .have:=hA'.1 x hx;omega
    .exact h1)with h1|h1
   .exact .inl (by rw[h1])
   .exact .inr (by simp only[D9];omega)
  .have hab2:=hB'.1 a hab;rcases Xl (B:=B) (A:=a::A) hA hB'.2 (λx hx=>by
    rcases C9.1 (h x hx)with h1|h1
    .rcases C9.1 hx with h2|h2
     .omega
     .have:=hA'.1 x h2;omega
    .exact h1)with h1|h1
   .exact .inr (by rw[h1];simp)
   .exact .inr (by simp only[D9]at*;omega)
def Ih(D:Int->List Int)(L:List Int):List Int:=L.foldl (λacc x=>Si (D x) acc) L
theorem Es(D:Int->List Int)(x:Int):∀(l acc:List Int),x∈l.foldl (λacc x=>Si (D x) acc) acc↔x∈acc\/∃y∈l,x∈D y
 |[],acc=>by simp|a::l,acc=>by
  rw[aT,Es D x l,SB];constructor
  .rintro((h|h)|⟨y,hy,h⟩)
   .exact .inr ⟨a,D5,h⟩
   .exact .inl h
   .exact .inr ⟨y,by simp[hy],h⟩
  .rintro(h|⟨y,hy,h⟩)
   .exact .inl (.inr h)
   .rcases C9.1 hy with rfl|hy
    .exact .inl (.inl h)
    .exact .inr ⟨y,hy,h⟩
theorem a1C(D:Int->List Int):∀(l:List Int) {acc:List Int},SI acc->SI (l.foldl (λacc x=>Si (D x) acc) acc)
 |[],_,h=>h|a::l,_,h=>by rw[aT];exact a1C D l (Xb _ h)
theorem SQ(D:Int->List Int){L:List Int}(h:SI L):SI (Ih D L):=a1C D L h
def itS(D:Int->List Int)(d:Int):Nat->List Int
 |0=>D d|k+1=>Ih D (itS D d k)
section
variable {D:Int->List Int} {n:Nat} (hsi:∀x,SI (D x)) (hin:∀x,∀y∈D x,0<=y/\y<(n:Int))
include hsi hin
theorem Yd(d:Int):∀k,SI (itS D d k)
 |0=>hsi d|k+1=>SQ D (Yd d k)
theorem a4G(d:Int):∀k,∀x∈itS D d k,0<=x/\x<(n:Int)
 |0,x,hx=>hin d x hx|k+1,x,hx=>by
  rcases(Es D x _ _).1 hx with h|⟨y,_,h⟩
  .exact a4G d k x h
  .exact hin y x h
theorem a1p(d:Int)(k:Nat):Ih D (itS D d k)=itS D d k\/(itS D d k).length<(Ih D (itS D d k)).length:=by
 rcases Xl (Yd hsi hin d k) (SQ D (Yd hsi hin d k)) (λx hx=>(Es D x _ _).2 (.inl hx))with h|h
 .exact .inl h.symm
 .exact .inr h
theorem Vh(d:Int):∀k,Ih D (itS D d k)=itS D d k\/k<(Ih D (itS D d k)).length
 |0=>by
  rcases a1p hsi hin d 0 with h|h
  .exact .inl h
  .exact .inr o5
 |k+1=>by
  rcases Vh d k with h|h
  .exact .inl (by show Ih D (Ih D (itS D d k))=Ih D (itS D d k);rw[h,h])
  .rcases a1p hsi hin d (k+1)with h2|h2
   .exact .inl h2
   .exact .inr (by have:(itS D d (k+1)).length=(Ih D (itS D d k)).length:=rfl;omega)
theorem b0Q(d:Int):Rch D d (itS D d n):=by
 have hst:Ih D (itS D d n)=itS D d n:=by
  rcases Vh hsi hin d n with h|h
  .exact h
  .have:=a0n n (SQ D (Yd hsi hin d n)) (a4G hsi hin d (n+1));omega
 refine⟨Yd hsi hin d n,?_,?_,?_⟩
 .intro x hx;have:∀k,x∈itS D d k:=by
   intro k;induction k with
   |zero=>exact hx|succ k ih=>exact(Es D x _ _).2 (.inl ih)
  exact this n
 .intro x hx y hy;rw[←hst];exact(Es D y _ _).2 (.inr ⟨x,hx,hy⟩)
 .intro C h1 h2;have:∀k,∀x∈itS D d k,C x:=by
   intro k;induction k with
   |zero=>exact h1|succ k ih=>
    intro x hx;rcases(Es D x _ _).1 hx with h|⟨y,hy,h⟩
    .exact ih x h
    .exact h2 y (ih y hy) x h
  exact this n
end
def Ua(s:H8)(d:Int):List Int:=itS (Ba s) d s.2.2.2.1.length
theorem VG(s:H8)(d:Int):Rch (Ba s) d (Ua s d):=
 b0Q (n:=s.2.2.2.1.length) (NP s) (λx y hy=>NM hy) d
theorem a7K(h:x∈Ua s d):0<=x/\x<nD s:=a4G (n:=s.2.2.2.1.length) (NP s) (λx y hy=>NM hy) d _ x h
theorem t_(h:SmS s){l:List Int}(hs:SI l)(hi:∀x∈l,0<=x/\x<nD s):l.length<=14:=P8 (a0n s.2.2.2.1.length hs hi) h.nd
def mk(S:List Bool)(x:Int):Bool:=if 0<=x then S.getD x.toNat false else false
def unm(S:List Bool):Nat:=S.count false
def rG(b:List Bool×List Int)(e:Int):List Bool×List Int:=l7 (mk b.1 e) b (b.1.set e.toNat true,b.2++[e])
variable {S:List Bool}
theorem a4O(h0:0<=x)(h1:x<x8 S):S[x.toNat]? =some (mk S x):=by
 unfold mk;rw[if_pos h0,Ob];have:x.toNat<S.length:=by simp only[x8]at h1;omega
 rw[mW this];rfl
theorem a4P{e:Int}(h0:0<=e)(h1:e<x8 S)(x:Int):mk (S.set e.toNat true) x=l7 (D6 x e) true (mk S x):=by
 unfold mk;have hl:e.toNat<S.length:=by simp only[x8]at h1;omega
 by_cases hx:0<=x
 .rw[if_pos hx,if_pos hx,Ob,Ob,af];by_cases hq:x=e
  .subst hq;rw[if_pos rfl,if_pos hl,V5 rfl];rfl
  .rw[if_neg o5,N7 hq];rfl
 .rw[if_neg hx,if_neg hx,N7 o5];rfl
theorem a9E{e:Int}(h0:0<=e)(h1:e<x8 S)(hm:mk S e=false):unm (S.set e.toNat true)+1=unm S:=by
 have hl:e.toNat<S.length:=by simp only[x8]at h1;omega
 have hg:=a4O h0 h1;rw[hm,mW hl]at hg;have hg' :S[e.toNat]=false:=bD hg;unfold unm;rw[List.count_set hl,hg'];have:0<S.count false:=List.count_pos_iff.2 (by rw[←hg'];exact Y1 hl);simp;omega
structure RInv (n:Nat) (S:List Bool) (Q:List Int) (l:List Int) (S' :List Bool) (Q' :List Int):Prop where
 len:S'.length=n
 seen:∀x:Int,0<=x->x<(n:Int)->(mk S' x=true↔mk S x=true\/x∈l)
 sum:Q'.length+unm S' =Q.length+unm S
 le:unm S' <=unm S
 old:∀x∈Q,x∈Q'
 new:∀x∈Q',x∈Q\/x∈l
 got:∀x,mk S' x=true->mk S x=true\/x∈Q'
theorem a6b{n:Nat} :∀(l:List Int) (S:List Bool) (Q:List Int),S.length=n->(∀x∈l,0<=x/\x<(n:Int))->RInv n S Q l (l.foldl rG (S,Q)).1 (l.foldl rG (S,Q)).2
 |[],S,Q,hl,_=>⟨hl,λx _ _=>by simp,rfl,A7 _,λx hx=>hx,λx hx=> .inl hx,λx hx=> .inl hx⟩|e::l,S,Q,hl,hi=>by
  have he:=hi e D5;have hel:e<x8 S:=by simp only[x8];omega
  rw[aT];cases hm:mk S e with
  |true=>
   rw[show rG (S,Q) e=(S,Q) by unfold rG;rw[hm];rfl];have ih:=a6b l S Q hl λx hx=>hi x (by simp[hx]);refine⟨ih.len,λx h0 h1=>?_,ih.sum,ih.le,ih.old,λx hx=>?_,ih.got⟩
   .rw[ih.seen x h0 h1,C9];constructor
    .rintro(h|h)
     .exact .inl h
     .exact .inr (.inr h)
    .rintro(h|h|h)
     .exact .inl h
     .subst h;exact .inl hm
     .exact .inr h
   .rcases ih.new x hx with h|h
    .exact .inl h
    .exact .inr (by simp[h])
  |false=>
   rw[show rG (S,Q) e=(S.set e.toNat true,Q++[e]) by unfold rG;rw[hm];rfl];have ih:=a6b l (S.set e.toNat true) (Q++[e]) (by simp[hl]) λx hx=>hi x (by simp[hx]);have hu:=a9E he.1 hel hm;refine⟨ih.len,λx h0 h1=>?_,?_,?_,λx hx=>ih.old x (by simp[hx]),λx hx=>?_,λx hx=>?_⟩
   .rw[ih.seen x h0 h1,a4P he.1 hel,C9];cases hq:D6 x e
    .rw[iV]at hq;simp[hq]
    .rw[X8]at hq;simp[hq]
   .have:=ih.sum;simp only[E8,D9,O7]at this;omega
   .have:=ih.le;omega
   .rcases ih.new x hx with h|h
    .rcases F9.1 h with h|h
     .exact .inl h
     .exact .inr (by simp at h;simp[h])
    .exact .inr (by simp[h])
   .rcases ih.got x hx with h|h
    .rw[a4P he.1 hel]at h;cases hq:D6 x e
     .rw[hq]at h;exact .inl h
     .rw[X8]at hq;subst hq;exact .inr (ih.old _ D5)
    .exact .inr h
def Py(S:List Bool):List Int:=((List.range S.length).filter λi=>S.getD i false).map λ(i:Nat)=>(i:Int)
theorem Jg(x:Int):x∈Py S↔mk S x=true:=by
 unfold Py mk;rw[az];constructor
 .rintro⟨i,hi,rfl⟩;rw[if_pos o5];exact(oz.1 hi).2
 .intro h;split at h
  .refine⟨x.toNat,oz.2 ⟨dX.2 ?_,h⟩,o5⟩;rw[Ob]at h;cases hg:S[x.toNat]? with
   |none=>rw[hg]at h;cases h|some b=>exact(ai.1 hg).1
  .cases h
theorem a4L(S:List Bool):SI (Py S):=by unfold Py;refine List.Pairwise.map _ (R:=(·< ·)) (λa b h=>by omega) (List.Pairwise.filter _ List.pairwise_lt_range)
theorem z_{f:List Int×Int->Option ((List Int×Int)⊕List Int)}(S:List Bool)(hS:S.length<=100)
  (hin:∀(i:Nat) (a:Bool) (acc:List Int),S[i]? =some a->i<=1000000->acc.length<=i->f (acc,(i:Int))=l7 a (l9 (dB acc [(i:Int)]) λx=>some (.inl (x,G9 .i64 (i:Int) 1))) (some (.inl (acc,G9 .i64 (i:Int) 1))))
  (hend:∀acc,f (acc,(S.length:Int))=some (.inr acc)):dD f ([],0)=some (Py S):=by
 have mk2:∀i,i<=S.length->((List.range i).filter λi=>S.getD i false).length<=i:=λi _=>by have:=iw (λi=>S.getD i false) (List.range i);simpa using this
 obtain⟨e,h1,h2⟩:=rJ (f:=f) (s:=([],0)) (λx=>∃i:Nat,x=(((List.range i).filter λi=>S.getD i false).map λ(i:Nat)=>(i:Int),(i:Int))/\i<=S.length) (λe=>e=Py S) (λx=>S.length -x.2.toNat) ⟨0,rfl,o5⟩ G5 (by
  rintro x ⟨i,rfl,hi⟩;by_cases h:i<S.length
  .have e:=mW h;have hst:(List.range (i+1)).filter (λi=>S.getD i false)=(List.range i).filter (λi=>S.getD i false)++l7 S[i] [i] []:=by
    rw[jq,List.filter_append];congr 1;rw[kD,Ob,e];cases S[i]<;>rfl
   have hl:=mk2 i hi;refine .inl ⟨(((List.range (i+1)).filter λi=>S.getD i false).map λ(i:Nat)=>(i:Int),((i+1:Nat):Int)),?_,⟨i+1,rfl,h⟩,by simp;omega⟩;rw[hin i _ _ e o5 (by simpa using hl),dC o5,hst,ed,yC _ (by rw[P6];omega)];cases S[i]
   .simp
   .rfl
  .have:i=S.length:=o5;subst this;exact .inr ⟨_,hend _,rfl⟩)
 rw[h1,h2]
theorem S_{D:Int->List Int}{n:Nat}(hn:n<=14)(hsi:∀x,SI (D x))(hin:∀x,∀y∈D x,0<=y/\y<(n:Int))(h0:0<=d)(h1:d<(n:Int)):
  ∃L,AZ ((List.range n).map λ(x:Nat)=>D (x:Int)) d=some L/\Rch D d L:=by
 have hA:x8 ((List.range n).map λ(x:Nat)=>D (x:Int))=(n:Int):=by simp[x8]
 have hget:∀x:Int,0<=x->x<n->O0 ((List.range n).map λ(x:Nat)=>D (x:Int)) x=some (D x):=λx a b=>by
  have:x.toNat<n:=o5;unfold O0
  rw[if_pos a,Ws n _ this,gz a]
 unfold AZ;generalize (List.range n).map (λ(x:Nat)=>D (x:Int))=A at*;rw[hA,show Jy (n:Int) false=some (List.replicate n false) by unfold Jy;rw[if_pos o5];simp,o9];have hD14:∀x,(D x).length<=14:=λx=>P8 (a0n n (hsi x) (hin x)) hn;have key:=rJ (f:=λ(x:List Bool×List Int)=>l7 (J4 0 (x8 x.2)) (l9 (O0 x.2 0) λ(x_1:Int)=>l9 (eQ x.2 (bH 0)) λ(x_2:Int)=>l7 (lT 1 (x8 x.2) (x8 x.2)) (l9 (O0 A x_2) λ(x_3:List Int)=>
   l9 (dD (λ(x:List Bool×List Int×Int)=>l7 (J4 x.2.2 (x8 x_3)) (l9 (O0 x_3 x.2.2) λ(x_4:Int)=>l9 (O0 x.1 x_4) λ(x_5:Bool)=>l9 (eQ x.1 (bH x_4)) λ(x_6:Bool)=>
     l7 (G7 x_6) (l9 (O0 x.1 x_4) λ(x_7:Bool)=>l9 (eQ x.1 (bH x_4)) λ(x_8:Bool)=>l9 (dB x.2.1 [x_4]) λ(x_9:List Int)=>some (.inl (rM x.1 (bH x_4) true,x_9,G9 .i64 x.2.2 1)))
      (some (.inl (x.1,x.2.1,G9 .i64 x.2.2 1)))) (some (.inr (x.1,x.2.1)))) (x.1,jY x.2 (bH 1) (bH (x8 x.2)),0)) λ(y:List Bool×List Int)=>some (.inl y)) none) (some (.inr x.1)))
  (s:=(List.replicate n false,[d]))
  (λx=>x.1.length=n/\(∀q∈x.2,0<=q/\q<(n:Int))/\x.2.length+unm x.1<=n+1/\(∀q∈x.2,q=d\/mk x.1 q=true)/\(∀v,v=d\/mk x.1 v=true->v∈x.2\/∀y∈D v,mk x.1 y=true)/\
   (∀C:Int->Prop,(∀x∈D d,C x)->(∀x,C x->∀y∈D x,C y)->∀v,mk x.1 v=true->C v)/\(∀v,mk x.1 v=true->0<=v/\v<(n:Int)))
  (λS=>S.length=n/\Rch D d (Py S)) (λx=>2*unm x.1+x.2.length) ?_ ?_ ?_
 .obtain⟨S,k1,k2,k3⟩:=key;refine⟨Py S,?_,k3⟩;refine(Yy k1 _).trans ?_;rw[bF];refine z_ S o5 (λi a acc ha hi hacc=>?_) (λacc=>?_)
  .simp only[X9 ha,o7,U2,ha,o9];rw[show eQ S (bH (i:Int))=some a from ha,o9]
  .simp only[Y6];rfl
 .have hnone:∀v,mk (List.replicate n false) v=false:=λv=>by
   unfold mk;split
   .rw[Ob,List.getElem?_replicate];split<;>rfl
   .rfl
  refine⟨D5,λq hq=>by simp at hq;omega,?_,λq hq=> .inl (by simpa using hq),λv hv=>?_,λC _ _ v hv=>(by rw[hnone]at hv;cases hv),λv hv=>(by rw[hnone]at hv;cases hv)⟩
  .simp[unm,List.count_replicate];omega
  .rcases hv with rfl|hv
   .exact .inl D5
   .rw[hnone]at hv;cases hv
 .simp[unm,List.count_replicate];omega
 .rintro⟨S,Q⟩ ⟨i1,i2,i3,i4,i5,i6,i7⟩;simp only at i1 i2 i3 i4 i5 i6 i7;cases Q with
  |nil=>
   right;refine⟨S,rfl,i1,a4L S,λx hx=>?_,λx hx y hy=>?_,λC c1 c2 x hx=>i6 C c1 c2 x ((Jg x).1 hx)⟩
   .rcases i5 d (.inl rfl)with h|h
    .cases h
    .exact(Jg x).2 (h x hx)
   .rcases i5 x (.inr ((Jg x).1 hx))with h|h
    .cases h
    .exact(Jg y).2 (h y hy)
  |cons q Q=>
   left;have hq:=i2 q D5;have hfold:=a6b (n:=n) (D q) S Q i1 (λx hx=>hin q x hx);refine⟨(D q).foldl rG (S,Q),?_,?_,?_⟩
   .simp only[bu (show(0:Int)<x8 (q::Q) by simp[x8]<;>omega),o7,show O0 (q::Q) 0=some q from rfl,show eQ (q::Q) (bH 0)=some q from rfl,o9,hget q hq.1 hq.2,
     show lT 1 (x8 (q::Q)) (x8 (q::Q))=true by simp[lT,x8]<;>omega,show jY (q::Q) (bH 1) (bH (x8 (q::Q)))=Q by simp[jY,bH,x8]]
    refine vV (D q) rG (λb i=>(b.1,b.2,i)) (λb=>b) (λi b=>b.1.length=n/\b.2.length<=100+i) (S,Q) (by have:=hD14 q;omega) ⟨i1,by simp at i3;show Q.length<=100+0;omega⟩ (λi e b he hi hI=>?_) (λb hI=>?_) (λh2=>rfl)
    .obtain⟨S1,Q1⟩:=b;simp only at hI;have hee:=hin q e (wJ he);have hlt:=(ai.1 he).1;have hdl:=hD14 q;have hg:=a4O (S:=S1) hee.1 (by simp only[x8];omega);have hla:O0 S1 e=some (mk S1 e):=by unfold O0;rw[if_pos hee.1];exact hg
     have hlg:eQ S1 (bH e)=some (mk S1 e):=hg;simp only[X9 he,o7,U2 (D q),he,o9,hla,hlg];rw[dC o5,yC _ o5];unfold rG;simp only;cases mk S1 e
     .exact⟨rfl,by simp[hI.1],by simp<;>omega⟩
     .exact⟨rfl,hI.1,by show Q1.length<=_;omega⟩
    .simp only[Y6];rfl
   .obtain⟨j1,j2,j3,j4,j5,j6,j7⟩:=hfold;generalize (D q).foldl rG (S,Q)=b at*;obtain⟨S',Q'⟩:=b;simp only at j1 j2 j3 j4 j5 j6 j7 ⊢;have hrange:∀v,mk S' v=true->0<=v/\v<(n:Int):=λv hv=>by
     rcases j7 v hv with h|h
     .exact i7 v h
     .rcases j6 v h with h|h
      .exact i2 v (by simp[h])
      .exact hin q v h
    refine⟨j1,λx hx=>?_,?_,λx hx=>?_,λv hv=>?_,λC c1 c2 v hv=>?_,hrange⟩
    .rcases j6 x hx with h|h
     .exact i2 x (by simp[h])
     .exact hin q x h
    .simp only[D9]at i3;omega
    .rcases j6 x hx with h|h
     .rcases i4 x (by simp[h])with h2|h2
      .exact .inl h2
      .have hr:=i7 x h2;exact .inr ((j2 x hr.1 hr.2).2 (.inl h2))
     .have hr:=hin q x h;exact .inr ((j2 x hr.1 hr.2).2 (.inr h))
    .have up:∀y,mk S y=true->mk S' y=true:=λy hy=>by
      have hr:=i7 y hy;exact(j2 y hr.1 hr.2).2 (.inl hy)
     by_cases hvq:v=q
     .subst hvq;right;intro y hy;have hr:=hin v y hy;exact(j2 y hr.1 hr.2).2 (.inr hy)
     .by_cases hold:v=d\/mk S v=true
      .rcases i5 v hold with h|h
       .rcases C9.1 h with h|h
        .exact absurd h hvq
        .exact .inl (j5 v h)
       .exact .inr λy hy=>up y (h y hy)
      .rcases hv with h|h
       .exact absurd (.inl h) hold
       .rcases j7 v h with h2|h2
        .exact absurd (.inr h2) hold
        .exact .inl h2
    .by_cases hS:mk S v=true
     .exact i6 C c1 c2 v hS
     .have hr:=hrange v hv;rcases(j2 v hr.1 hr.2).1 hv with h|h
      .exact absurd h hS
      .rcases i4 q D5 with h2|h2
       .subst h2;exact c1 v h
       .exact c2 q (i6 C c1 c2 q h2) v h
   .have:=hfold.sum;have:=hfold.le;simp only[D9];omega
theorem UG(h:SmS s)(h0:0<=d)(h1:d<nD s):xw s d=some (Ua s d):=by have hn:nD s=((s.2.2.2.1.length:Nat):Int):=rfl;unfold xw;change l7 (J4 d 0) _ (l7 (U6 (nD s) d) _ _)=_;rw[X3 h0,o6,dP h1,o6,VO h,o9,bF];obtain⟨L,k1,k2⟩:=S_ (D:=Ba s) h.nd (NP s) (λx y hy=>NM hy) h0 (show d<((s.2.2.2.1.length:Nat):Int) by omega);rw[k1,Rch.unique k2 (VG s d)]
structure SmL (l:aG):Prop where
 few:Few l
 en:VJ l
 tb:QL l
 sc:∀s∈l.2.2,SmS s
structure SwS (s:H8):Prop where
 nm:s.1.length<=1000000
 ni:s.2.2.1.length<=100000
 nd:s.2.2.2.1.length<=100000
 nr:s.2.2.2.2.length<=100000
 fo:Xv s
 ro:∀r∈s.2.2.2.2,ZE r
structure SwL (l:aG):Prop where
 few:Few l
 en:VJ l
 tb:QL l
 sc:∀s∈l.2.2,SwS s
variable {l:aG}
theorem SwL.scopes(h:SwL l):Xy l:=λs hs=>by have hm:=h.sc s hs;exact⟨hm.nm,hm.ni,hm.nd,hm.nr⟩
theorem SmL.w(h:SmL l):SwL l:=⟨h.few,h.en,h.tb,λs hs=>by have hm:=h.sc s hs;exact⟨hm.nm,by have:=hm.ni;omega,by have:=hm.nd;omega,by have:=hm.nr;omega,hm.fo,λr hr=>(hm.ro r hr).1⟩⟩
theorem Je{ε ρ:Type}{p:Nat->Option ρ}(n:Nat)(hn:n<=1000000)(e:ε){f:Int->Option (Out Int ε ρ)}
  (h1:∀i,i<n->f (i:Int)=some (match p i with|some r=> .rt r|none=> .nx (G9 .i64 (i:Int) 1))) (h2:f (n:Int)=some (.ex e)):
  S9 f 0=some (match dF n p with|some r=> .inr r|none=> .inl e):=
 Ia n o5 e (λi hi=>by rw[h1 i hi,dC o5]<;>cases p i<;>rfl) h2
def JR(l:aG)(s:H8)(k:Nat):Option (Int×Int):=match s.2.2.2.2[k]? with|some r=>NT (Gw s (UF l s) k r) (300+k:Nat)|none=>none
def a8b(s:H8)(d:Nat):Option (Int×Int):=l7 ((Ua s d).any λx=>D6 (d:Int) x) (some (9,((200+d:Nat):Int))) none
def Ig(l:aG)(i:Nat)(m:Int):Bool:=l7 (D6 m (-1)) false (l7 (J4 m 0) true (l7 (U6 (i:Int) m) true (match O0 l.2.2 m with|some q=>G7 (D6 q.2.1 (-1))|none=>true)))
def Tf(l:aG)(s:H8):Int×Int:=match Bd l s with
 |some r=>r
 |none=>match dF s.2.2.2.2.length (JR l s)with
  |some r=>r
  |none=>match dF s.2.2.2.1.length (a8b s)with
   |some r=>r|none=>(0,0)
def FV(l:aG)(i:Nat)(s:H8):Int×Int:=
 l7 (tC s.1) (l7 (CY l 3 i s.1) (7,0) (l7 (Ig l i s.2.1) (6,0) (l7 (J4 12 (x8 s.2.2.1)) (4,112) (l7 (J4 12 (x8 s.2.2.2.1)) (4,212) (Tf l s))))) (2,0)
theorem Ug(h:JX e sg t=0):e.length<=50:=by
 unfold JX yY at h;cases hs:oV e with
 |inl x=>
  rw[hs]at h;simp only at h;cases hc:D6 x.2 0<;>rw[hc]at h
  .exact absurd h (iV.1 hc)
  .exact absurd (X8.1 hc) (Az hs)
 |inr x=>have:=(wC hs).2;omega
theorem a8a{m:Nat} :∀(D:List Int),(∀x∈D,0<=x/\x<(m:Int))->(∀d:Int,D.countP (λo=>D6 o d)<=8)->D.length<=m*8:=by
 induction m with
 |zero=>
  intro D h _;cases D with
  |nil=>simp|cons a D=>have:=h a D5;omega
 |succ m ih=>
  intro D h h8;have h1:=ih (D.filter λo=>G7 (D6 o (m:Int))) (λx hx=>by
   obtain⟨hx,hn⟩:=oz.1 hx;have:=h x hx;have hn:x≠(m:Int):=λe=>by rw[V5 e]at hn;cases hn
   omega) (λd=>by rw[List.countP_filter];refine P8 (List.countP_mono_left λx _ hx=>?_) (h8 d);simp only[A8]at hx;exact hx.1)
  have h2:=h8 (m:Int);have h3:∀D:List Int,D.length=D.countP (λo=>D6 o (m:Int))+(D.filter λo=>G7 (D6 o (m:Int))).length:=by
   intro D;induction D with
   |nil=>rfl|cons a D ih=>rw[List.countP_cons,kD,D9,ih];cases D6 a (m:Int)<;>simp<;>omega
  have:=h3 D;omega
theorem TM(h:Gw s sg k r=0):(∃d,O0 s.2.2.2.1 r.2.1=some d/\NW r sg d.2=0)/\Uo (s.2.2.2.2.take k) r.2.1<8:=by
 unfold Gw at h;cases g1:tC r.1<;>rw[g1]at h
 .exact absurd (show(2:Int)=0 from h) H7
 cases g2:(s.2.2.2.2.take k).any λx=>seq x.1 r.1<;>rw[g2]at h
 case true=>exact absurd (show(7:Int)=0 from h) H7
 simp only[o7,o6]at h;cases g3:O0 s.2.2.2.1 r.2.1 with
 |none=>rw[g3]at h;exact absurd (show(6:Int)=0 from h) H7|some d=>
  rw[g3]at h;simp only at h;generalize (l7 (D6 r.2.2.1 (-1)) false (l7 (J4 r.2.2.1 0) true (l7 (U6 (k:Int) r.2.2.1) true (match O0 s.2.2.2.2 r.2.2.1 with|some q=>G7 (D6 q.2.1 r.2.1)|none=>true))))=g4 at h;cases g4
  case true=>exact absurd (show(9:Int)=0 from h) H7
  cases g5:J4 r.2.2.2.1 0<;>rw[g5]at h
  case true=>exact absurd (show(3:Int)=0 from h) H7
  cases g6:J4 9 r.2.2.2.1<;>rw[g6]at h
  case true=>exact absurd (show(3:Int)=0 from h) H7
  cases g7:EQ r.2.2.2.2.1<;>rw[g7]at h
  .exact absurd (show(3:Int)=0 from h) H7
  cases g8:D6 r.2.2.2.2.1.1 r.2.2.2.2.1.2<;>rw[g8]at h
  case true=>exact absurd (show(3:Int)=0 from h) H7
  cases g9:U6 8 (Uo (s.2.2.2.2.take k) r.2.1:Int)<;>rw[g9]at h
  case true=>exact absurd (show(4:Int)=0 from h) H7
  cases g10:Zl r.2.2.2.2.2.2.2<;>rw[g10]at h
  .exact absurd (show(2:Int)=0 from h) H7
  simp only[o7,o6]at h;have:=Hw.1 g9;exact⟨⟨d,rfl,h⟩,o5⟩
theorem a2B(h:NW r sg t=0):r.2.2.2.2.2.1.length<=50/\r.2.2.2.2.2.2.1.length<=50:=by
 unfold NW at h;cases g:J4 0 (x8 r.2.2.2.2.2.1)<;>rw[g]at h
 .have:=lg.1 g;unfold x8 at this;exact⟨o5,Ug h⟩
 .rw[o7]at h;cases g2:D6 (JX r.2.2.2.2.2.1 sg (1,0)) 0<;>rw[g2]at h
  .exact absurd h (iV.1 g2)
  .exact⟨Ug (X8.1 g2),Ug h⟩
theorem Za(hw:SwS s)(h1:s.2.2.1.length<=12)(h2:s.2.2.2.1.length<=12)(h:dF s.2.2.2.2.length (JR l s)=none):SmS s:=by
 have hz:∀(k:Nat) (r:ak),s.2.2.2.2[k]? =some r->Gw s (UF l s) k r=0:=λk r hr=>by
  have:=uj h k (ai.1 hr).1;unfold JR at this;rw[hr]at this;unfold NT at this;simp only at this;cases g:D6 (Gw s (UF l s) k r) 0<;>rw[g]at this
  .cases this
  .exact X8.1 g
 have hk:∀k,k<=s.2.2.2.2.length->∀d:Int,((s.2.2.2.2.take k).map λ(o:ak)=>o.2.1).countP (λo=>D6 o d)<=8:=by
  intro k;induction k with
  |zero=>intro _ d;simp|succ k ih=>
   intro hk d;have e:=mW (show k<s.2.2.2.2.length by omega);have h3:=(TM (hz k _ e)).2;unfold Uo at h3;have h4:=ih o5 d;rw[X5 o5,ed,List.countP_append];rw[List.countP_map]at h4 ⊢;by_cases hd:(s.2.2.2.2[k]).2.1=d
   .have e5:List.countP ((λ(o:Int)=>D6 o d)∘λ(o:ak)=>o.2.1) (s.2.2.2.2.take k)=(s.2.2.2.2.take k).countP λ(o:ak)=>D6 o.2.1 (s.2.2.2.2[k]).2.1:=by rw[hd];rfl
    have e6:List.countP (λo=>D6 o d) [(s.2.2.2.2[k]).2.1]<=1:=List.countP_le_length;simp only[dL,jV];omega
   .have e6:List.countP (λo=>D6 o d) [(s.2.2.2.2[k]).2.1]=0:=by simp[N7 hd]
    simp only[dL,jV];omega
 have h8:=hk s.2.2.2.2.length (A7 _);rw[bT]at h8;have hc:=a8a (m:=12) (s.2.2.2.2.map λ(o:ak)=>o.2.1) (λx hx=>by obtain⟨r,hr,rfl⟩:=az.1 hx;obtain⟨k,hk,e⟩:=aY hr;obtain⟨⟨d,hd,-⟩,-⟩:=TM (hz k r (by rw[mW hk,e]));obtain⟨a,b,-⟩:=lX hd;unfold x8 at b;omega) h8
 rw[P6]at hc;refine⟨hw.nm,o5,o5,o5,hw.fo,λr hr=>⟨hw.ro r hr,?_⟩⟩;obtain⟨k,hk,e⟩:=aY hr;obtain⟨⟨d,-,hd⟩,-⟩:=TM (hz k r (by rw[mW hk,e]));exact a2B hd
theorem Un(hL:SwL l){i:Nat}(hs:l.2.2[i]? =some s):yF l (i:Int)=some (FV l i s):=by
 have hi:=(ai.1 hs).1;have hS:=hL.sc s (wJ hs);have hf:=hL.few;have hf1:=hf.1;have hf2:=hf.2.1;have hf3:=hf.2.2;have n1:=hS.ni;have n2:=hS.nd;have n3:=hS.nr;unfold yF FV CY;rw[U2,hs,o9,xY o5,o9,Kz _ o5,o9,Po _ o5,o9,Yb _ G5,o9];have hb:(l7 (l.1.any λx=>seq x.1 s.1) (some (s,true)) (l7 (l.2.1.any λx=>seq x.1 s.1) (some (s,true)) (some (s,(l.2.2.take i).any λx=>seq x.1 s.1))))=
   some (s,(l.1.any λx=>seq x.1 s.1) || (l.2.1.any λx=>seq x.1 s.1) || (l.2.2.take i).any λx=>seq x.1 s.1):=by
  cases l.1.any λx=>seq x.1 s.1
  .cases l.2.1.any λx=>seq x.1 s.1<;>rfl
  .rfl
 rw[hb,o9];simp only;rw[lY hS.nm,o9];cases tC s.1
 .rfl
 simp only[F6,o6,o7];cases (l.1.any λx=>seq x.1 s.1) || (l.2.1.any λx=>seq x.1 s.1) || (l.2.2.take i).any λx=>seq x.1 s.1
 case true=>rfl
 simp only[o6];have hm:(l7 (G7 (D6 s.2.1 (-1))) (l7 (J4 s.2.1 0) (some true) (l7 (U6 (i:Int) s.2.1) (some true) (l9 (O0 (l.2.2.take i) s.2.1) λ(x:H8)=>some (G7 (D6 x.2.1 (-1)))))) (some false))=some (Ig l i s.2.1):=by
  unfold Ig;cases D6 s.2.1 (-1)
  case true=>rfl
  simp only[I7,o7,o6];cases h0:J4 s.2.1 0
  case true=>rfl
  cases h1:U6 (i:Int) s.2.1
  case true=>rfl
  rw[lg]at h0;rw[Hw]at h1;obtain⟨q,hq,_⟩:=um (l:=l.2.2.take i) h0 (by simp only[x8,aX];omega);have hq2:O0 l.2.2 s.2.1=some q:=by have:=(lX hq).2.2.2;unfold O0;rw[if_pos h0];exact(Zr this).2
  rw[hq,hq2];rfl
 rw[hm,o9];cases Ig l i s.2.1
 case true=>rfl
 simp only[o6];cases g12:J4 12 (x8 s.2.2.1)
 case true=>rfl
 cases g13:J4 12 (x8 s.2.2.2.1)
 case true=>rfl
 have m1:s.2.2.1.length<=12:=by have:=lg.1 g12;unfold x8 at this;omega
 have m2:s.2.2.2.1.length<=12:=by have:=lg.1 g13;unfold x8 at this;omega
 simp only[o6,o9,W9];unfold Tf Bd;refine X7 (Je (p:=inP l s) s.2.2.1.length o5 PUnit.unit (λk hk=>?_) ?_) ?_
 rotate_left 2
 .cases dF s.2.2.1.length (inP l s)
  case some r=>rfl
  simp only[o9,W9];refine X7 (Je (p:=ZX l s) s.2.2.2.1.length o5 PUnit.unit (λk hk=>?_) ?_) ?_
  rotate_left 2
  .cases dF s.2.2.2.1.length (ZX l s)
   case some r=>rfl
   simp only[o9,W9];rw[KY hL.scopes hs,o9];refine X7 (Je (p:=JR l s) s.2.2.2.2.length o5 PUnit.unit (λk hk=>?_) ?_) ?_
   rotate_left 2
   .cases hfr:dF s.2.2.2.2.length (JR l s)
    case some r=>rfl
    have hS:=Za hS m1 m2 hfr;simp only[o9,W9];refine X7 (Je (p:=a8b s) s.2.2.2.1.length o5 PUnit.unit (λk hk=>?_) ?_) ?_
    rotate_left 2
    .cases dF s.2.2.2.1.length (a8b s)<;>rfl
    .have e:=mW hk;simp only[X9 e,o7];rw[UG hS o5 (by show(k:Int)<x8 s.2.2.2.1;simp only[x8];omega),o9,a2I _ (by
      have:=t_ hS (VG s (k:Int)).1 (λx hx=>a7K hx);omega),o9,show(200:Int)=((200:Nat):Int)from rfl,a1i o5 o5]
     unfold a8b;cases (Ua s (k:Int)).any λx=>D6 (k:Int) x<;>rfl
    .rw[Y6];rfl
   .have e:=mW hk;have hr:=hS.ro _ (Y1 hk);simp only[X9 e,o7];rw[VS _ e o5 hr,o9,show(300:Int)=((300:Nat):Int)from rfl,a1i o5 o5];simp only[JR,e,NT];cases D6 (Gw s (UF l s) k s.2.2.2.2[k]) 0<;>rfl
   .rw[Y6];rfl
  .have e:=mW hk;have hm:=hS.fo.2 _ (Y1 hk);simp only[X9 e,o7,U2,e,o9];rw[xY o5,o9,JF hm o5 G5,o9,show(200:Int)=((200:Nat):Int)from rfl,a1i o5 o5];simp only[ZX,e,NT];cases D6 (Hm l.1 s.2.2.2.1[k] s.2.2.1 (s.2.2.2.1.take k)) 0<;>rfl
  .rw[Y6];rfl
 .have e:=mW hk;have hm:=hS.fo.1 _ (Y1 hk);simp only[X9 e,o7,U2,e,o9];rw[xY o5,o9,JF hm G5 D5,o9,show(100:Int)=((100:Nat):Int)from rfl,a1i o5 o5];simp only[inP,e,NT];cases D6 (Hm l.1 s.2.2.1[k] (s.2.2.1.take k) []) 0<;>rfl
 .rw[Y6];rfl
theorem NU{c e:Int}{r:Int×Int}(h:NT c e=some r):r.1≠0:=by
 unfold NT at h;cases hc:D6 c 0<;>rw[hc]at h
 .cases h;exact iV.1 hc
 .cases h
theorem Pj{r:Int×Int}(h:Bd l s=some r):r.1≠0:=by
 unfold Bd at h;split at h
 .rename_i q hq;cases h;obtain⟨k,_,hk⟩:=pU hq;unfold inP at hk;split at hk
  .exact NU hk
  .cases hk
 .obtain⟨k,_,hk⟩:=pU h;unfold ZX at hk;split at hk
  .exact NU hk
  .cases hk
def KX(l:aG)(i:Nat):Option (Int×Int×Int×Int):=match l.2.2[i]? with|some s=>LH 3 i (FV l i s)|none=>none
def Nl(l:aG):Int×Int×Int×Int:=l7 (J4 4 (x8 l.2.2)) (4,3,4,0) (match dF l.2.2.length (KX l)with|some r=>r|none=>(0,0,0,0))
def oH(l:aG):Int×Int×Int×Int:=l7 (D6 (BU l).1 0) (l7 (D6 (Bv l).1 0) (Nl l) (Bv l)) (BU l)
theorem Rh(hL:SwL l):xA l=some (Nl l):=by
 have hf:=hL.few.2.2;unfold xA Nl;cases J4 4 (x8 l.2.2)
 case true=>rfl
 simp only[o6];refine X7 (Ho (p:=KX l) l.2.2.length o5 _ (0,0,0,0) (λi hi=>?_) ?_) ?_
 rotate_left 2
 .cases dF l.2.2.length (KX l)<;>rfl
 .have e:=mW hi;simp only[X9 e,o7,Un hL e,o9,KX,e,LH];cases D6 (FV l i l.2.2[i]).1 0<;>rfl
 .rw[Y6];rfl
theorem Ny(hL:SwL l):uq l=some (oH l):=by
 unfold uq oH;rw[Um hL.few hL.en,o9];cases D6 (BU l).1 0
 .rfl
 simp only[F6,o6,o7];rw[Rj hL.few hL.tb,o9];cases D6 (Bv l).1 0
 .rfl
 simp only[F6,o6,o7];rw[Rh hL];rfl
theorem Zz(hL:SmL l):uq l=some (oH l):=Ny hL.w
theorem NV{k i:Int}{c:Int×Int}{r:Int×Int×Int×Int}(h:LH k i c=some r):r.1≠0:=by
 unfold LH at h;cases hc:D6 c.1 0<;>rw[hc]at h
 .cases h;exact iV.1 hc
 .cases h
def hw(W:List Int)(d:Int):Int:=W.getD d.toNat 0
end Go.GP
namespace Gt
open Go Go.GP
def il(y:Int):Bool:=if y % 4=0 then(if y % 100≠0 then true else decide (y % 400=0))else false
def ys(y:Int):Int:=(y -1900)*365+((y -1) / 4 -(y -1) / 100+(y -1) / 400) -460
def diy(y:Int):Int:=if il y then 366 else 365
theorem DL(y:Int):ys (y+1)=ys y+diy y:=by unfold ys diy il;by_cases h4:y % 4=0<;>by_cases h100:y % 100=0<;>by_cases h400:y % 400=0<;>simp[h4,h100,h400]<;>omega
theorem a8v(a b:Int):a<b\/b<=a:=o5
theorem NQ(y:Int):365<=diy y/\diy y<=366:=by unfold diy;split<;>omega
theorem Ae{y y' :Int}(h:y<=y'):ys y<=ys y' :=by
 obtain⟨n,rfl⟩:∃n:Nat,y' =y+n:=⟨(y' -y).toNat,o5⟩;clear h;induction n with
 |zero=>simp|succ n ih=>have:=DL (y+n);have:=NQ (y+n);have e:y+((n+1:Nat):Int)=y+n+1:=o5;rw[e];omega
variable {y:Int}
theorem Jv(h:1900<=y):0<=ys y:=by
 have:=Ae h;have e:ys 1900=0:=by decide+kernel
 omega
theorem a3F{y y' d:Int}(h1:ys y<=d)(h2:d<ys (y+1))(h3:ys y' <=d)(h4:d<ys (y' +1)):y=y' :=by
 rcases Int.lt_trichotomy y y' with h|h|h
 .have:=Ae (y:=y+1) (y' :=y') o5;omega
 .exact h
 .have:=Ae (y:=y' +1) (y' :=y) o5;omega
def dim(y m:Int):Int:=
 if m=2 then(if il y then 29 else 28)else if m=4\/m=6\/m=9\/m=11 then 30 else 31
theorem EP(y m:Int):28<=dim y m/\dim y m<=31:=by
 unfold dim;repeat' split
 all_goals omega
theorem GZ(h:0<=y):Di y=some (il y):=by
 unfold Di il;simp only[BX h];by_cases h4:y % 4=0
 .rw[nM (V5 h4),if_pos h4];by_cases h100:y % 100=0
  .simp[D6,h100]
  .simp[D6,h100]
 .rw[oJ (N7 h4),if_neg h4]
theorem Gn(h:0<=y):Bg y=some (il y):=GZ h
theorem Jz(h:0<=y):nG y=some (diy y):=by unfold nG diy;rw[Gn h,o9];cases il y<;>rfl
variable {m:Int}
theorem m12(h:1<=m/\m<=12):m=1\/m=2\/m=3\/m=4\/m=5\/m=6\/m=7\/m=8\/m=9\/m=10\/m=11\/m=12:=o5
theorem pI(h:0<=y)(hm:1<=m/\m<=12):kT y m=some (dim y m):=by
 unfold kT;rcases m12 hm with rfl|rfl|rfl|rfl|rfl|rfl|rfl|rfl|rfl|rfl|rfl|rfl
 all_goals first|rfl|(rw[GZ h];unfold dim;cases il y<;>rfl)
theorem Ip(h:0<=y)(hm:1<=m/\m<=12):lS y m=some (dim y m):=by
 unfold lS;rcases m12 hm with rfl|rfl|rfl|rfl|rfl|rfl|rfl|rfl|rfl|rfl|rfl|rfl
 all_goals first|rfl|(rw[Gn h];unfold dim;cases il y<;>rfl)
theorem Dj(h:0<=y)(h2:y<=1000000):vJ y=some (y / 4 -y / 100+y / 400):=by unfold vJ;simp only[gV,pO h];rw[zg dm,zg dm,zg dm,dW dm,eU dm]
theorem yl(h:1<=y)(h2:y<=1000000):qx y=some (ys y):=by unfold qx;have e1:L6 .i64 y 1900=y -1900:=dW dm;have e2:KD .i64 (y -1900) 365=(y -1900)*365:=RX dm;rw[dW (a:=y) (b:=1) dm,Dj o5 o5,o9,Dj o5 o5,o9,e1,e2,eU dm,dW dm];unfold ys;congr 1
def mo(y:Int):Nat->Int->Int×Int
 |0,d=>(d,13)|n+1,d=>if d<dim y (12 -n)then(d,12 -n)else mo y n (d -dim y (12 -n))
theorem Wy(y:Int)(n:Nat)(d:Int):mo y (n+1) d=if d<dim y (12 -(n:Int))then(d,12 -(n:Int))else mo y n (d -dim y (12 -(n:Int))):=rfl
def rem(y:Int):Nat->Int
 |0=>0|n+1=>dim y (12 -n)+rem y n
theorem a1L(y:Int):rem y 12=diy y:=by unfold diy;cases h:il y<;>simp[rem,dim,h]
theorem a1A(y:Int):∀(n:Nat) (d:Int),n<=12->0<=d->d<rem y n->1<=(mo y n d).2/\(mo y n d).2<=12/\0<=(mo y n d).1/\(mo y n d).1<dim y (mo y n d).2
 |0,d,_,h0,h=>by simp[rem]at h;omega|n+1,d,hn,h0,h=>by
  unfold mo;by_cases hd:d<dim y (12 -n)
  .rw[if_pos hd];refine⟨?_,?_,h0,hd⟩<;>simp<;>omega
  .rw[if_neg hd];refine a1A y n _ o5 o5 ?_;simp only[rem]at h;omega
def yOf(d:Int):Int:=((((List.range 300).find? (λ(k:Nat)=>decide (d<ys (1900+(k:Int)+1)))).getD 0:Nat):Int)+1900
variable {d:Int}
theorem ND(h0:0<=d)(h:d<=109572):1900<=yOf d/\yOf d<=2199/\ys (yOf d)<=d/\d<ys (yOf d+1):=by
 unfold yOf;cases hf:(List.range 300).find? (λ(k:Nat)=>decide (d<ys (1900+(k:Int)+1)))with
 |none=>
  have:=List.find?_eq_none.1 hf 299 D5;simp only[decide_eq_true_eq]at this;have e:ys (1900+(299:Nat)+1)=109573:=by decide+kernel
  omega
 |some k=>
  have h1:=List.find?_some hf;simp only[decide_eq_true_eq]at h1;have h2:=List.mem_of_find?_eq_some hf;simp only[dX]at h2;simp only[Y2];refine⟨o5,o5,?_,?_⟩
  .cases k with
   |zero=>
    have e:ys 1900=0:=by decide+kernel
    simp[e,h0]
   |succ j=>have h3:=List.find?_range_eq_some.1 hf;have h4:=h3.2.2 j o5;simp only[dh,decide_eq_false_iff_not,qQ]at h4;have e:(((j+1:Nat):Int)+1900)=1900+(j:Int)+1:=o5;rw[e];exact h4
  .have e:(k:Int)+1900+1=1900+k+1:=o5;rw[e];exact h1
def ymd(d:Int):Int×Int×Int:=let y:=yOf d;let r:=mo y 12 (d -ys y);(y,r.2,r.1+1)
theorem Us(h0:0<=d)(h:d<=109572):EO d=some (ymd d):=by
 obtain⟨y1,y2,y3,y4⟩:=ND h0 h;have y0:=Jv y1;unfold EO BP;rw[nM (aS h0),o9,aS h,F6,o6];have e0:G9 .i64 1900 (gV .i64 d 366)=1900+d / 366:=by
  have e:gV .i64 d 366=d / 366:=by rw[LM (by rw[pO h0];unfold fE;omega),pO h0]
  rw[e,eU dm]
 rw[e0];obtain⟨y,hy,hq⟩:=rJ (f:=λ(x:Int)=>l9 (qx (G9 IntKind.i64 x 1)) λ(x_1:Int)=>l7 (U6 x_1 d) (some (Sum.inl (G9 IntKind.i64 x 1))) (some (Sum.inr x))) (s:=1900+d / 366)
  (λy=>1900<=y/\y<=yOf d) (λy=>y=yOf d) (λy=>(2200 -y).toNat) (by
   refine⟨o5,?_⟩;have e:∀n:Nat,ys (1900+n)<=366*n:=by
    intro n;induction n with
    |zero=>decide+kernel|succ n ih=>have:=DL (1900+n);have:=NQ (1900+n);have e:(1900:Int)+((n+1:Nat):Int)=1900+n+1:=o5;rw[e];omega
   have e1:=e (d / 366).toNat
   have e2:((d / 366).toNat:Int)=d / 366:=o5;rw[e2]at e1;rcases a8v (yOf d) (1900+d / 366)with hlt|hge
   .have:=Ae (y:=yOf d+1) (y' :=1900+d / 366) o5;omega
   .exact hge) o5 (by
   intro y ⟨hy1,hy2⟩
   try simp only
   rw[eU dm,yl o5 o5,o9];by_cases hle:ys (y+1)<=d
   .refine .inl ⟨y+1,by rw[nM (aS hle)],⟨o5,?_⟩,o5⟩;rcases a8v (yOf d) (y+1)with hlt|hge
    .have:=Ae (y:=yOf d+1) (y' :=y+1) o5;omega
    .exact hge
   .refine .inr ⟨y,by rw[oJ (dP o5)],?_⟩;rcases a8v y (yOf d)with hlt|hge
    .have:=Ae (y:=y+1) (y' :=yOf d) o5;omega
    .omega)
 rw[hy,o9,hq,yl o5 o5,o9,dW dm];have hs:=DL (yOf d);have hr:=a1L (yOf d);rcases jw (f:=λ(x:Int×Int)=>l7 (J4 x.2 12) (l9 (kT (yOf d) (G9 IntKind.i64 x.2 1)) λ(x_1:Int)=>l7 (J4 x.1 x_1) (some (Out.rt (yOf d,G9 IntKind.i64 x.2 1,G9 IntKind.i64 x.1 1))) (some (Out.nx (L6 IntKind.i64 x.1 x_1,G9 IntKind.i64 x.2 1)))) (some (Out.ex PUnit.unit))) (s:=(d -ys (yOf d),0))
  (λs=>∃n:Nat,n<=12/\s.2=12 -n/\mo (yOf d) n s.1=mo (yOf d) 12 (d -ys (yOf d))/\0<=s.1/\s.1<rem (yOf d) n/\s.1<=400) (λ_=>False) (λr=>r=ymd d) (λs=>(12 -s.2).toNat)
  ⟨12,o5,D5,rfl,o5,by rw[hr];show d -ys (yOf d)<_;omega,by have:=NQ (yOf d);show d -ys (yOf d)<=400;omega⟩ D5 (by
   rintro⟨r,i⟩ ⟨n,hn,hi,hm,hr0,hrn,hr4⟩;simp only at hi hm hr0 hrn hr4 ⊢;cases n with
   |zero=>simp[rem]at hrn;omega|succ n=>
    have ei:i+1=12 -n:=o5;rw[nM (bu o5),eU dm,ei,pI o5 o5,o9];have hb:=EP (yOf d) (12 -n);rw[Wy (yOf d) n r]at hm;by_cases hlt:r<dim (yOf d) (12 -n)
    .rw[if_pos hlt]at hm;refine .inr (.inr ⟨_,by rw[nM (bu hlt)],?_⟩);rw[eU dm];unfold ymd
     try simp only
     rw[←hm]
    .rw[if_neg hlt]at hm;refine .inl ⟨_,by rw[oJ (X3 o5),dW dm],⟨n,o5,D5,hm,?_,?_,?_⟩,?_⟩
     .simp;omega
     .simp only[rem]at hrn ⊢;omega
     .simp;omega
     .simp;omega)with⟨_,_,hf⟩|⟨r,he,hr⟩
 .exact hf.elim
 .rw[he,o9,cO,hr]
theorem Tq(h0:0<=d)(h:d<=109572):Du d=some (ymd d):=by
 obtain⟨y1,y2,y3,y4⟩:=ND h0 h;have y0:=Jv y1;unfold Du Am;rw[nM (aS h0),o9,aS h,F6,o6];obtain⟨⟨r,y⟩,hy,hq⟩:=rJ (f:=λ(x:Int×Int)=>l9 (nG x.2) λ(x_1:Int)=>l7 (U6 x_1 x.1) (l9 (nG x.2) λ(x_2:Int)=>some (Sum.inl (L6 IntKind.i64 x.1 x_2,G9 IntKind.i64 x.2 1))) (some (Sum.inr x))) (s:=(d,1900))
  (λs=>1900<=s.2/\s.2<=yOf d/\s.1=d -ys s.2) (λs=>s=(d -ys (yOf d),yOf d)) (λs=>(2200 -s.2).toNat)
  ⟨D5,by simpa using y1,by(have e:ys 1900=0:=by decide+kernel);simp[e]⟩ D5 (by
   rintro⟨r,y⟩ ⟨h1,h2,h3⟩;simp only at h1 h2 h3 ⊢;have hb:=NQ y;have hs:=DL y;have hm:=Ae h2;have hpos:0<=ys y:=by
     have:=Ae (y:=1900) (y' :=y) h1;have e:ys 1900=0:=by decide+kernel
     omega
   rw[Jz o5,o9];by_cases hle:diy y<=r
   .refine .inl ⟨(r -diy y,y+1),?_,⟨by simp;omega,?_,?_⟩,?_⟩
    .rw[nM (aS hle),o9,dW dm,eU dm]
    .simp only;rcases a8v (yOf d) (y+1)with hlt|hge
     .have:=Ae (y:=yOf d+1) (y' :=y+1) o5;omega
     .exact hge
    .simp only;omega
    .simp;omega
   .refine .inr ⟨_,by rw[oJ (dP o5)],?_⟩;have e:y=yOf d:=a3F (d:=d) o5 o5 y3 y4;subst e;rw[h3])
 rw[hy,o9,hq]
 try simp only
 have hs:=DL (yOf d);have hr:=a1L (yOf d);obtain⟨⟨r,m⟩,he,hq2⟩:=rJ (f:=λ(x:Int×Int)=>l9 (lS (yOf d) x.2) λ(x_1:Int)=>l7 (U6 x_1 x.1) (l9 (lS (yOf d) x.2) λ(x_2:Int)=>some (Sum.inl (L6 IntKind.i64 x.1 x_2,G9 IntKind.i64 x.2 1))) (some (Sum.inr x))) (s:=(d -ys (yOf d),1))
  (λs=>∃n:Nat,n<=12/\s.2=13 -n/\mo (yOf d) n s.1=mo (yOf d) 12 (d -ys (yOf d))/\0<=s.1/\s.1<rem (yOf d) n/\s.1<=400) (λs=>s=mo (yOf d) 12 (d -ys (yOf d))) (λs=>(13 -s.2).toNat)
  ⟨12,o5,D5,rfl,o5,by rw[hr];show d -ys (yOf d)<_;omega,by have:=NQ (yOf d);show d -ys (yOf d)<=400;omega⟩ D5 (by
   rintro⟨r,i⟩ ⟨n,hn,hi,hm,hr0,hrn,hr4⟩;simp only at hi hm hr0 hrn hr4 ⊢;cases n with
   |zero=>simp[rem]at hrn;omega|succ n=>
    have ei:i=12 -n:=o5;subst ei;rw[Ip o5 o5,o9];have hb:=EP (yOf d) (12 -n);rw[Wy (yOf d) n r]at hm;by_cases hlt:r<dim (yOf d) (12 -n)
    .rw[if_pos hlt]at hm;exact .inr ⟨_,by rw[oJ (dP o5)],hm⟩
    .rw[if_neg hlt]at hm;refine .inl ⟨(r -dim (yOf d) (12 -n),12 -n+1),by rw[nM (aS o5),o9,dW dm,eU dm],⟨n,o5,by simp;omega,hm,?_,?_,?_⟩,?_⟩
     .simp;omega
     .simp only[rem]at hrn ⊢;omega
     .simp;omega
     .simp;omega)
 rw[he,o9,hq2];have hb:=a1A (yOf d) 12 (d -ys (yOf d)) o5 o5 (by rw[hr];omega);have hb2:=EP (yOf d) (mo (yOf d) 12 (d -ys (yOf d))).2;rw[eU dm];rfl
theorem a0J(h0:0<=d)(h:d<=109572):1900<=(ymd d).1/\(ymd d).1<=2199/\1<=(ymd d).2.1/\(ymd d).2.1<=12/\1<=(ymd d).2.2/\(ymd d).2.2<=31:=by
 obtain⟨y1,y2,y3,y4⟩:=ND h0 h;have y0:=Jv y1;have hs:=DL (yOf d);have hb:=a1A (yOf d) 12 (d -ys (yOf d)) o5 o5 (by rw[a1L];omega);have hb2:=EP (yOf d) (mo (yOf d) 12 (d -ys (yOf d))).2;unfold ymd
 try simp only
 omega
end Gt
namespace Go.GP
open Gt
set_option maxRecDepth 100000
def xq(y:Int):Nat->Int
 |0=>0|k+1=>xq y k+dim y ((k:Int)+1)
def Hf(y m d:Int):Int:=ys y+xq y (m -1).toNat+d -1
theorem LZ(y:Int):∀k:Nat,k<=12->28*k<=xq y k/\xq y k<=31*k
 |0,_=>by simp[xq]|k+1,h=>by have:=LZ y k o5;have:=EP y ((k:Int)+1);unfold xq;omega
theorem b0w{y:Int}(h:1900<=y)(h2:y<=2200):0<=ys y/\ys y<=109573:=by
 have h1:=Jv h;have h3:=Ae h2;have:ys 2200=109573:=by decide
 omega
theorem RN{y m d:Int}(hy:1900<=y/\y<=2199)(hm:1<=m/\m<=12)(h1:1<=d)(h2:d<=dim y m):jb y m d=some (Hf y m d,0):=by
 have hyb:=b0w hy.1 o5;have hdb:=EP y m;unfold jb;rw[X3 hy.1,o6,X3 hy.2,o6,X3 hm.1,o6,X3 hm.2,o6,X3 h1,o6,pI o5 hm,o9,X3 h2,o6,o9,W9,yl o5 o5,o9];have hs:L6 .i64 m 1=m -1:=dW dm;obtain⟨e,k1,k2⟩:=rJ (f:=λ(x:Int×Int)=>l7 (J4 x.2 (L6 .i64 m 1)) (l9 (kT y (G9 .i64 x.2 1)) λ(x_1:Int)=>some (.inl (G9 .i64 x.1 x_1,G9 .i64 x.2 1))) (some (.inr x.1)))
  (s:=(ys y,0)) (λx=>∃i:Nat,x=(ys y+xq y i,(i:Int))/\(i:Int)<=m -1) (λe=>e=ys y+xq y (m -1).toNat) (λx=>(m -1 -x.2).toNat) ⟨0,by simp[xq],o5⟩ G5 (by
  rintro x ⟨i,rfl,hi⟩;simp only[hs];by_cases hlt:(i:Int)<m -1
  .have hb:=LZ y i o5;have hd:=EP y ((i:Int)+1);left;refine⟨(ys y+xq y (i+1),((i+1:Nat):Int)),?_,⟨i+1,rfl,o5⟩,by simp;omega⟩;rw[bu hlt,o7,dC o5,show(((i+1:Nat):Int))=(i:Int)+1 by omega,pI o5 o5,o9,eU dm];simp only[xq];rw[Int.add_assoc]
  .right;have:i=(m -1).toNat:=o5;subst this;exact⟨_,by rw[X3 o5];rfl,rfl⟩)
 refine(Yy k1 _).trans ?_;have hb:=LZ y (m -1).toNat o5;rw[k2,eU dm,dW dm];rfl
def q1(q:Int)(u:Bool):Int:=l7 u (q+1) q
def sg(q:Int)(neg:Bool):Int:=l7 neg (-q) q
def UI(r:uC):Prop:=fE r.2.1/\fE r.2.2.1/\fE r.2.2.2
abbrev V3:Type:=Int×Int×Int
theorem b0z:∀i:Fin 40,(arF ((i.1:Nat):Int)=0->i.1∈[1,2,3,4,5,6,7,8,9,35,36,37,38,39])/\(arF ((i.1:Nat):Int)=1->i.1∈[10,25,31,32,33,34])/\(arF ((i.1:Nat):Int)=2->i.1∈[11,12,13,14,15,16,17,18,19,20,21,22,23,24,27,28,29,30])/\(arF ((i.1:Nat):Int)=3->i.1=26):=by decide+kernel
variable {k:Int}
theorem b3r(h:k<1\/39<k):arF k=-1:=by
 unfold arF jZ;rw[N7 (show k≠10 by omega),N7 (show k≠25 by omega),N7 (show k≠31 by omega),N7 (show k≠32 by omega),N7 (show k≠33 by omega),N7 (show k≠34 by omega),N7 (show k≠26 by omega)];rcases h with h|h
 .rw[dP (show k<1 by omega),dP (show k<35 by omega),dP (show k<11 by omega)];rfl
 .rw[aS (show 1<=k by omega),dP (show 9<k by omega),aS (show 35<=k by omega),dP (show 39<k by omega),aS (show 11<=k by omega),dP (show 30<k by omega)];rfl
theorem b8O(h:arF k≠-1):∃i:Fin 40,k=((i.1:Nat):Int):=by
 by_cases g:1<=k/\k<=39
 .exact⟨⟨k.toNat,o5⟩,by simp;omega⟩
 .exact absurd (b3r o5) h
def XT.node:XT->Int×Int
 | .l0 n=>n| .l1 n _=>n| .l2 n _ _=>n| .l3 n _ _ _=>n
def rtI(t:XT)(o:Nat):Nat:=o+t.size -1
def At(e:List (Int×Int))(S:List Int)(t:XT)(o:Nat):Prop:=∃pre suf S1 S2,e=pre++t.post++suf/\S=S1++t.sts o++S2/\pre.length=o/\S1.length=o
variable {n:Nat}
theorem a2R{σ ε:Type}{f:σ->Option (σ⊕ε)}{s s' :σ}(h:f s=some (.inl s')):xN f (n+1) s=xN f n s' :=by rw[xN,h]
theorem Og{σ ε:Type}{f:σ->Option (σ⊕ε)}{s:σ}{e:ε}(h:f s=some (.inr e)):xN f (n+1) s=some e:=by rw[xN,h]
abbrev VSt:Type:=V3×List V3×Int
structure VStep (ops:List Int) (ev:Int->Option (V3×Int)) (pad:List V3->List V3) (f:VSt->Option (Out VSt (V3×List V3) (V3×Int))):Prop where
 step:∀(l:List V3) (c:Int) (r:V3×Int),ops[l.length]? =some c->ev c=some r->f ((0,0,0),pad l,(l.length:Int))=some (l7 (D6 r.2 0) (.nx ((0,0,0),pad (l++[r.1]),((l.length+1:Nat):Int))) (.rt ((0,0,0),r.2)))
 stop:∀(l:List V3),l.length=ops.length->f ((0,0,0),pad l,(l.length:Int))=some (.ex ((0,0,0),l))
section
variable {ev:Int->Option (V3×Int)} {pad:List V3->List V3} {f:VSt->Option (Out VSt (V3×List V3) (V3×Int))}
theorem v0(h:VStep [] ev pad f):S9 f ((0,0,0),pad [],0)=some (.inl ((0,0,0),[])):=by obtain⟨k,hk⟩:∃k,fQ=k+1:=⟨fQ -1,by unfold fQ;omega⟩;unfold S9;rw[hk,iT,show f ((0,0,0),pad [],0)=some (.ex ((0,0,0),[]))from h.stop [] rfl]
theorem v1{c:Int}{r:V3×Int}(h:VStep [c] ev pad f)(h1:ev c=some r):S9 f ((0,0,0),pad [],0)=some (l7 (D6 r.2 0) (.inl ((0,0,0),[r.1])) (.inr ((0,0,0),r.2))):=by
 obtain⟨k,hk⟩:∃k,fQ=k+1+1:=⟨fQ -2,by unfold fQ;omega⟩;unfold S9;rw[hk,iT,show f ((0,0,0),pad [],0)=_ from h.step [] c r rfl h1];cases D6 r.2 0
 .rfl
 .simp only[o7];rw[iT,show f ((0,0,0),pad ([]++[r.1]),(([].length+1:Nat):Int))=_ from h.stop [r.1] rfl]
theorem v2{c d:Int}{r q:V3×Int}(h:VStep [c,d] ev pad f)(h1:ev c=some r)(h2:ev d=some q):S9 f ((0,0,0),pad [],0)=some (l7 (D6 r.2 0) (l7 (D6 q.2 0) (.inl ((0,0,0),[r.1,q.1])) (.inr ((0,0,0),q.2))) (.inr ((0,0,0),r.2))):=by
 obtain⟨k,hk⟩:∃k,fQ=k+1+1+1:=⟨fQ -3,by unfold fQ;omega⟩;unfold S9;rw[hk,iT,show f ((0,0,0),pad [],0)=_ from h.step [] c r rfl h1];cases D6 r.2 0
 .rfl
 .simp only[o7];rw[iT,show f ((0,0,0),pad ([]++[r.1]),(([].length+1:Nat):Int))=_ from h.step [r.1] d q rfl h2];cases D6 q.2 0
  .rfl
  .simp only[o7];rw[iT,show f ((0,0,0),pad ([r.1]++[q.1]),(([r.1].length+1:Nat):Int))=_ from h.stop [r.1,q.1] rfl]
end
theorem b0A(h:arF k=3):k=26:=by obtain⟨i,rfl⟩:=b8O (by rw[h];decide);rw[(b0z i).2.2.2 h];rfl
theorem XE{e:List (Int×Int)}{t:XT}(h:oV e= .inr t):At e (t.sts 0) t 0/\e.length<=48/\e.length=t.size/\L6 .i64 (x8 e) 1=(rtI t 0:Int):=by
 obtain⟨hp,h48⟩:=wC h;have hsz:e.length=t.size:=by rw[hp,XT.post_len]
 have hpos:=t.size_pos;refine⟨⟨[],[],[],[],by simp[←hp],D5,rfl,rfl⟩,h48,hsz,?_⟩;rw[dW (by unfold fE x8;omega)];unfold x8 rtI;omega
variable {l:aG}{i:Nat}{s:H8}
theorem Zy(h:(oH l).1=0)(hs:l.2.2[i]? =some s):(FV l i s).1=0:=by
 unfold oH at h;cases h1:D6 (BU l).1 0<;>rw[h1]at h
 .simp only[o6]at h;rw[V5 h]at h1;cases h1
 cases h2:D6 (Bv l).1 0<;>rw[h2]at h
 .simp only[o7,o6]at h;rw[V5 h]at h2;cases h2
 simp only[o7]at h;unfold Nl at h;cases h3:J4 4 (x8 l.2.2)<;>rw[h3]at h
 case true=>exact absurd (show(4:Int)=0 from h) H7
 simp only[o6]at h;have hi:=(ai.1 hs).1;cases hf:dF l.2.2.length (KX l)with
 |some r=>
  rw[hf]at h;simp only at h;obtain⟨j,hj,hp⟩:=pU hf;unfold KX at hp;cases hq:l.2.2[j]? with
  |none=>rw[hq]at hp;cases hp|some q=>
   rw[hq]at hp;simp only at hp;unfold LH at hp;exact absurd h (by cases he:D6 (FV l j q).1 0<;>rw[he]at hp<;>cases hp;simp only;intro h4;rw[V5 h4]at he;cases he)
 |none=>
  have hn:=uj hf i hi;unfold KX at hn;rw[hs]at hn;simp only at hn;unfold LH at hn;cases he:D6 (FV l i s).1 0<;>rw[he]at hn
  .cases hn
  exact X8.1 he
theorem a3C(h:(oH l).1=0)(hs:l.2.2[i]? =some s):Ig l i s.2.1=false/\(Tf l s).1=0:=by
 have he:=Zy h hs;unfold FV at he;cases g1:tC s.1<;>rw[g1]at he
 .exact absurd (show(2:Int)=0 from he) H7
 cases g2:CY l 3 i s.1<;>rw[g2]at he
 case true=>exact absurd (show(7:Int)=0 from he) H7
 cases g3:Ig l i s.2.1<;>rw[g3]at he
 case true=>exact absurd (show(6:Int)=0 from he) H7
 cases g4:J4 12 (x8 s.2.2.1)<;>rw[g4]at he
 case true=>exact absurd (show(4:Int)=0 from he) H7
 cases g5:J4 12 (x8 s.2.2.2.1)<;>rw[g5]at he
 case true=>exact absurd (show(4:Int)=0 from he) H7
 exact⟨rfl,he⟩
theorem a8l{α:Type}{l:List α}(h:J4 (n:Int) (x8 l)=false):l.length<=n:=by rw[lg]at h;unfold x8 at h;omega
def ScI(s:H8):Prop:=∀r∈s.2.2.2.2,(∀n∈r.2.2.2.2.2.1,fE n.2)/\∀n∈r.2.2.2.2.2.2.1,fE n.2
structure WfL (l:aG):Prop where
 rl:∀t∈l.2.1,t.2.2.2.length<=4611686018427387904
 ri:∀t∈l.2.1,∀r∈t.2.2.2,UI r
 sl:∀s∈l.2.2,s.2.2.2.2.length<=4611686018427387904
 si:∀s∈l.2.2,ScI s
theorem Ud(h:(oH l).1=0)(hs:l.2.2[i]? =some s){k:Nat}{r:ak}(hr:s.2.2.2.2[k]? =some r):Gw s (UF l s) k r=0:=by
 have hp:=(a3C h hs).2;unfold Tf at hp;cases h1:Bd l s with
 |some q=>rw[h1]at hp;exact absurd hp (Pj h1)|none=>
  rw[h1]at hp;simp only at hp;cases h2:dF s.2.2.2.2.length (JR l s)with
  |some q=>
   rw[h2]at hp;obtain⟨j,hj,hq⟩:=pU h2;unfold JR at hq;cases h3:s.2.2.2.2[j]? with
   |none=>rw[h3]at hq;cases hq|some q2=>rw[h3]at hq;exact absurd hp (NU hq)
  |none=>
   have hn:=uj h2 k (ai.1 hr).1;unfold JR at hn;rw[hr]at hn;simp only at hn;unfold NT at hn;cases he:D6 (Gw s (UF l s) k r) 0<;>rw[he]at hn
   .cases hn
   .exact X8.1 he
theorem Kw{ρ:Type}{p:Nat->Option ρ}(h:∀r,dF n p≠some r):∀i,i<n->p i=none:=by
 cases hf:dF n p with
 |some r=>exact absurd hf (h r)|none=>exact uj hf
theorem UU{k i:Int}{r:Int×Int}(h:LH k i r=none):r.1=0:=by
 unfold LH at h;cases he:D6 r.1 0<;>rw[he]at h
 .cases h
 .exact X8.1 he
end Go.GP
namespace Gt
open Go Go.GP
variable {n:Int}
theorem a8p(h:fE n):Ec n=some (Lib.itoa n):=by unfold Ec;rw[if_pos (show -9223372036854775808<=n/\n<=9223372036854775807 from h)]
theorem VB{s:List UInt8}{c:Nat}(h:c<=1000000)(hs:s.length<=1000000):tY s (c:Int)=some (Lib.repeatL s c):=by
 unfold tY
 have:s.length*c<=1000000*1000000:=Nat.mul_le_mul hs h;rw[if_pos ⟨o5,o5,by rw[E9];omega⟩,E9]
theorem b6j(x:UInt8)(c:Nat):Lib.repeatL [x] c=List.replicate c x:=by have:=Lib.repeatL_replicate x 1 c;simpa using this
theorem Zx{d:Int}(h0:0<=d)(h:d<10):a9D (wrap .u8 (G9 .u64 48 d))=UInt8.ofNat (48+d.toNat):=by
 rw[Yc (by unfold U64;omega)];have e:wrap .u8 (48+d)=((48+d.toNat:Nat):Int):=by unfold wrap IntKind.wrap;simp[IntKind.signed,IntKind.bits];omega
 rw[e];unfold a9D;rw[E9]
theorem a9P(n:Int):XG [n]=[a9D n]:=rfl
theorem XO:∀(k u:Nat),u<k->u<18446744073709551616->wP k (u:Int)=some (Lib.decDigits u)
 |0,u,h,_=>by omega|k+1,u,h,hu=>by
  show yN (wP k) (u:Int)=_;unfold yN;by_cases h10:u<10
  .try simp only[a9P]
   rw[nM (bu o5),Zx o5 o5,Lib.decDigits,dif_pos h10,E9]
  .have e1:(u:Int).tdiv 10=((u / 10:Nat):Int):=by rw[pO o5];omega
   have e2:mQ (u:Int) 10=((u % 10:Nat):Int):=by rw[BX o5];omega
   try simp only[a9P]
   rw[oJ (X3 o5),a4F (by rw[e1];unfold U64;omega)];rw[e1,XO k (u / 10) o5 o5,o9,e2,Zx o5 o5,J7,o9,E9]
   .congr 1
    conv=>rhs;rw[Lib.decDigits,dif_neg h10]
   .have:=Lib.nDigits_le20 (u / 10) o5;rw[Lib.decDigits_length];simp;omega
theorem Gm(h:U64 n):Bf n=some (Lib.decDigits n.toNat):=by unfold U64 at h;have:=XO fQ n.toNat (by unfold fQ;omega) o5;rw[gz h.1]at this;exact this
theorem Hz(h:fE n):(Lib.itoa n).length<=21:=Lib.itoa_length_le n h.1 h.2
variable {u:Nat}
theorem zW(h:u<18446744073709551616):1<=(Lib.decDigits u).length/\(Lib.decDigits u).length<=20:=by rw[Lib.decDigits_length];exact⟨Lib.nDigits_pos u,Lib.nDigits_le20 u h⟩
theorem xP(h:fE n):mg n=some (Lib.itoa n):=by
 unfold fE at h;unfold mg Lib.itoa;by_cases hn:n<0
 .rw[nM (bu hn),if_pos hn,eU dm,dW dm];rw[show wrap .u64 (0 -(n+1))=0 -(n+1)from NC (by unfold U64;omega),Yc (by unfold U64;omega),Gm (by unfold U64;omega),o9];have e:(0 -(n+1)+1).toNat=n.natAbs:=o5;rw[e,J7,o9]
  .rfl
  .have:=(zW (u:=n.natAbs) o5).2;simp;omega
 .rw[oJ (X3 o5),if_neg hn,show wrap .u64 n=n from NC (by unfold U64;omega),Gm (by unfold U64;omega),o9]
theorem jy(h:fE n):lL n=some (Lib.itoa n):=by unfold lL;rw[a8p h];rfl
def Hq(u k:Nat):List UInt8:=
 let d:=List.replicate (k+1 -(Lib.decDigits u).length) 48++Lib.decDigits u
 d.take (d.length -k)++46::d.drop (d.length -k)
def Ai(n:Int)(k:Nat):List UInt8:=if n<0 then 45::Hq n.natAbs k else Hq n.natAbs k
variable {k:Nat}
theorem l_(hu:u<18446744073709551616)(hk:k<=9):(Hq u k).length<=31:=by have:=zW hu;unfold Hq;simp;omega
theorem Jf(h:fE n)(hk:k<=9):(Ai n k).length<=32:=by unfold fE at h;have:=l_ (u:=n.natAbs) (k:=k) o5 hk;unfold Ai;split<;>simp<;>omega
variable {d:List UInt8}
theorem a3X(h1:k<d.length)(h2:d.length<=100):
  fO d 0 (L6 .i64 (x8 d) (k:Int))=some (d.take (d.length -k))/\fO d (L6 .i64 (x8 d) (k:Int)) (x8 d)=some (d.drop (d.length -k)):=by
 have e:L6 .i64 (x8 d) (k:Int)=((d.length -k:Nat):Int):=by rw[dW (by unfold fE x8;omega)];unfold x8;omega
 rw[e];exact⟨by rw[wO o5 o5];simp,by rw[ql o5 o5];simp⟩
theorem a2c{d p:List UInt8}(h1:k<d.length)(h2:d.length<=100)(hp:p.length<=100):
  (l9 (fO d 0 (L6 .i64 (x8 d) (k:Int))) λx=>l9 (U5 p x) λy=>l9 (U5 y [46]) λz=>l9 (fO d (L6 .i64 (x8 d) (k:Int)) (x8 d)) λt=>l9 (U5 z t) λx=>some x)
   =some (p++(d.take (d.length -k)++46::d.drop (d.length -k))):=by
 obtain⟨c1,c2⟩:=a3X h1 h2;rw[c1,o9,J7 G5,o9,J7 G5,o9,c2,o9,J7 G5,o9];simp
theorem gq(h:fE n)(hk:1<=k/\k<=9):bi n (k:Int)=some (Ai n k):=by
 have hI:=h;unfold fE at h;have ek:zi 0 (zk (k:Int) 9)=(k:Int):=by unfold zi zk;split<;>split<;>omega
 unfold bi fH;rw[o9,ek,jy hI,o9,oJ (N7 o5)];have hd:=zW (u:=n.natAbs) o5;have rest:∀(d p:List UInt8),1<=d.length->d.length<=20->p.length<=1->
   l7 (U6 (x8 d) (k:Int))
    (l9 (tY [48] (L6 .i64 (G9 .i64 (k:Int) 1) (x8 d))) λx3=>l9 (U5 x3 d) λx4=>l9 (fO x4 0 (L6 .i64 (x8 x4) (k:Int))) λx5=>l9 (U5 p x5) λx6=>l9 (U5 x6 [46]) λx7=>
     l9 (fO x4 (L6 .i64 (x8 x4) (k:Int)) (x8 x4)) λx=>l9 (U5 x7 x) λx=>some x)
    (l9 (fO d 0 (L6 .i64 (x8 d) (k:Int))) λx=>l9 (U5 p x) λy=>l9 (U5 y [46]) λz=>l9 (fO d (L6 .i64 (x8 d) (k:Int)) (x8 d)) λt=>l9 (U5 z t) λx=>some x)
   =some (p++(let e:=List.replicate (k+1 -d.length) 48++d;e.take (e.length -k)++46::e.drop (e.length -k))):=by
  intro d p h1 h2 h3;by_cases hle:d.length<=k
  .rw[nM (aS (by unfold x8;omega))];have e:L6 .i64 (G9 .i64 (k:Int) 1) (x8 d)=((k+1 -d.length:Nat):Int):=by
    rw[eU dm,dW (by unfold fE x8;omega)];unfold x8;omega
   rw[e,VB o5 D5,b6j,o9,J7 G5,o9];exact a2c G5 G5 o5
  .rw[oJ (dP (by unfold x8;omega)),a2c o5 o5 o5];have:k+1 -d.length=0:=o5;rw[this];simp
 unfold Lib.itoa Ai Hq;by_cases hn:n<0
 .rw[if_pos hn,if_pos hn,nM (bu hn)];have e:fO (45::Lib.decDigits n.natAbs) 1 (x8 (45::Lib.decDigits n.natAbs))=some (Lib.decDigits n.natAbs):=by
   rw[ql o5 G5];simp
  rw[e,o9];exact rest (Lib.decDigits n.natAbs) [45] hd.1 hd.2 D5
 .rw[if_neg hn,if_neg hn,oJ (X3 o5)];have e:n.toNat=n.natAbs:=o5;rw[e];exact rest (Lib.decDigits n.natAbs) [] hd.1 hd.2 D5
theorem a7X :∀(h:d=Lib.decDigits u),∀c∈d,48<=c.toNat/\c.toNat<=57:=by intro h c hc;subst h;rw[Lib.decDigits_eq]at hc;obtain⟨t,_,rfl⟩:=az.1 hc;unfold Lib.dg;have:u / 10^(Lib.nDigits u -1 -t) % 10<10:=Nat.mod_lt _ o5;generalize u / 10^(Lib.nDigits u -1 -t) % 10=r at this;simp;omega
theorem Ru{c:UInt8}(hc:c∈Lib.decDigits u):48<=c.toNat/\c.toNat<=57:=a7X rfl c hc
theorem Tm(h:∀c∈d,48<=c.toNat/\c.toNat<=57)(h1:1<=d.length):zI d=some (d,false):=by
 unfold zI;rw[nM (bu (by unfold x8;omega))];match d,h1 with
 |c::r,_=>have e:sat (c::r) 0=some (c.toNat:Int):=rfl;have:=h c D5;rw[e,o9,oJ (N7 o5)]
theorem Tn :zI (45::d)=some (d,true):=by unfold zI;rw[nM (bu (by unfold x8;simp))];have e:sat (45::d) 0=some (45:Int):=rfl;rw[e,o9,nM (V5 rfl),ql o5 G5,o9];simp
theorem a8Q(hk:k<=100)(hd:d.length<=100):
  dD (λ(x_3:List UInt8)=>l7 (U6 (x8 x_3) (k:Int)) (l9 (U5 [48] x_3) λ(x:List UInt8)=>some (Sum.inl x)) (some (Sum.inr x_3))) d=some (List.replicate (k+1 -d.length) 48++d):=by
 obtain⟨e,h1,h2⟩:=rJ (f:=λ(x_3:List UInt8)=>l7 (U6 (x8 x_3) (k:Int)) (l9 (U5 [48] x_3) λ(x:List UInt8)=>some (Sum.inl x)) (some (Sum.inr x_3))) (s:=d)
  (λs=>s.length<=102/\List.replicate (k+1 -s.length) 48++s=List.replicate (k+1 -d.length) 48++d) (λe=>e=List.replicate (k+1 -d.length) 48++d) (λs=>k+1 -s.length) ⟨o5,rfl⟩ o5 (by
   intro s ⟨hs,he⟩;by_cases hle:s.length<=k
   .refine .inl ⟨48::s,?_,⟨by simp;omega,?_⟩,by simp;omega⟩
    .rw[nM (aS (by unfold x8;omega)),J7 G5];rfl
    .rw[←he];have e1:k+1 -s.length=(k+1 -(48::s).length)+1:=by simp;omega
     rw[e1,qM];simp
   .refine .inr ⟨s,?_,?_⟩
    .rw[oJ (dP (by unfold x8;omega))]
    .rw[←he,show k+1 -s.length=0 by omega];simp)
 rw[h1,h2]
theorem Ak(h:fE n)(hk:1<=k/\k<=9):lQ n (k:Int)=some (Ai n k):=by
 have hI:=h;unfold fE at h;have ek:zk (zi (k:Int) 0) 9=(k:Int):=by unfold zi zk;split<;>split<;>omega
 unfold lQ Io;have hd:=zW (u:=n.natAbs) o5;rw[o9,ek,oJ (N7 o5),xP hI,o9];have rest:∀(d:List UInt8) (b:Bool),1<=d.length->d.length<=20->
   (l9 (dD (λ(x_3:List UInt8)=>l7 (U6 (x8 x_3) (k:Int)) (l9 (U5 [48] x_3) λ(x:List UInt8)=>some (Sum.inl x)) (some (Sum.inr x_3))) (d,b).1) λ(y:List UInt8)=>
    l9 (fO y 0 (L6 .i64 (x8 y) (k:Int))) λ(x_3:List UInt8)=>l9 (U5 x_3 [46]) λ(x_4:List UInt8)=>l9 (fO y (L6 .i64 (x8 y) (k:Int)) (x8 y)) λ(x:List UInt8)=>
     l9 (U5 x_4 x) λ(x:List UInt8)=>l7 (d,b).2 (l9 (U5 [45] x) λ(x:List UInt8)=>some x) (some x))
   =some ((if b then[45]else[])++(let e:=List.replicate (k+1 -d.length) 48++d;e.take (e.length -k)++46::e.drop (e.length -k))):=by
  intro d b h1 h2;rw[a8Q (d:=d) o5 o5,o9];generalize he:List.replicate (k+1 -d.length) 48++d=e;have hl:k<e.length/\e.length<=40:=by subst he;simp;omega
  obtain⟨c1,c2⟩:=a3X hl.1 o5;rw[c1,o9,J7 G5,o9,c2,o9,J7 G5,o9];cases b
  .simp
  .show l9 (U5 [45] _) _=_;rw[J7 G5,o9];simp
 unfold Lib.itoa Ai Hq;by_cases hn:n<0
 .rw[if_pos hn,if_pos hn,Tn,o9];exact rest (Lib.decDigits n.natAbs) true hd.1 hd.2
 .rw[if_neg hn,if_neg hn];have e:n.toNat=n.natAbs:=o5;rw[e,Tm (λc hc=>Ru hc) hd.1,o9];exact rest (Lib.decDigits n.natAbs) false hd.1 hd.2
def WG(n:Int)(w:Nat):List UInt8:=List.replicate (w -(Lib.itoa n).length) 48++Lib.itoa n
variable {w:Nat}
theorem yM(h:fE n)(hw:w<=4):(WG n w).length<=25:=by have:=Hz h;unfold WG;simp;omega
theorem Ha(h:fE n)(hw:w<=4):BO n (w:Int)=some (WG n w):=by
 have hl:=Hz h;unfold BO;rw[jy h,o9];have e:zi 0 (L6 .i64 (w:Int) (x8 (Lib.itoa n)))=((w -(Lib.itoa n).length:Nat):Int):=by rw[dW (by unfold fE x8;omega)];unfold zi x8;split<;>omega
 rw[e,VB o5 D5,b6j,o9,J7 G5,o9];rfl
theorem FD(h:fE n)(hw:w<=4):zJ n (w:Int)=some (WG n w):=by
 have hl:=Hz h;unfold zJ;rw[xP h,o9];show _=some (List.replicate (w -(Lib.itoa n).length) 48++Lib.itoa n);generalize Lib.itoa n=d at hl ⊢;obtain⟨e,h1,h2⟩:=rJ (f:=λ(x:List UInt8)=>l7 (J4 (x8 x) (w:Int)) (l9 (U5 [48] x) λ(x:List UInt8)=>some (Sum.inl x)) (some (Sum.inr x))) (s:=d)
  (λs=>s.length<=30/\List.replicate (w -s.length) 48++s=List.replicate (w -d.length) 48++d) (λe=>e=List.replicate (w -d.length) 48++d) (λs=>w -s.length) ⟨o5,rfl⟩ o5 (by
   intro s ⟨hs,he⟩;by_cases hle:s.length<w
   .refine .inl ⟨48::s,?_,⟨by simp;omega,?_⟩,by simp;omega⟩
    .rw[nM (bu (by unfold x8;omega)),J7 G5];rfl
    .rw[←he];have e1:w -s.length=(w -(48::s).length)+1:=by simp;omega
     rw[e1,qM];simp
   .refine .inr ⟨s,?_,?_⟩
    .rw[oJ (X3 (by unfold x8;omega))]
    .rw[←he,show w -s.length=0 by omega];simp)
 rw[h1,o9,h2]
def lC(d:Int):List UInt8:=if 0<=d/\d<=109572 then WG (ymd d).1 4++45::WG (ymd d).2.1 2++45::WG (ymd d).2.2 2 else[]
theorem a9W{a b c:List UInt8}(ha:a.length<=100)(hb:b.length<=100)(hc:c.length<=100){A C B:Option (List UInt8)}(eb:B=some b)(ec:C=some c):
  (l9 (U5 a [45]) λx2=>l9 B λx3=>l9 (U5 x2 x3) λx4=>l9 (U5 x4 [45]) λx5=>l9 C λx=>l9 (U5 x5 x) λx=>some x)=some (a++45::b++45::c):=by
 rw[J7 G5,o9,eb,o9,J7 G5,o9,J7 G5,o9,ec,o9,J7 G5,o9];simp
theorem wI(h1:-1000000<=n)(h2:n<=1000000):fE n:=by unfold fE;omega
theorem qw(d:Int):tK d=some (lC d):=by
 unfold tK BP lC;by_cases h0:0<=d
 .rw[nM (aS h0),o9];by_cases h:d<=109572
  .rw[aS h,F6,o6,Us h0 h,o9,if_pos ⟨h0,h⟩];have hb:=a0J h0 h;have p1:=wI (n:=(ymd d).1) o5 o5;have p2:=wI (n:=(ymd d).2.1) o5 o5;have p3:=wI (n:=(ymd d).2.2) o5 o5;rw[show BO (ymd d).1 4=_ from Ha (w:=4) p1 o5,o9];have l1:=yM (w:=4) p1 o5;have l2:=yM (w:=2) p2 o5;have l3:=yM (w:=2) p3 o5;exact a9W (A:=none) o5 o5 o5 (Ha (w:=2) p2 o5) (Ha (w:=2) p3 o5)
  .rw[dP o5,I7,o7,if_neg o5]
 .rw[oJ (dP o5),o9,I7,o7,if_neg o5]
theorem Qh(d:Int):qZ d=some (lC d):=by
 unfold qZ Am lC;by_cases h0:0<=d
 .rw[nM (aS h0),o9];by_cases h:d<=109572
  .rw[aS h,F6,o6,Tq h0 h,o9,if_pos ⟨h0,h⟩];have hb:=a0J h0 h;have p1:=wI (n:=(ymd d).1) o5 o5;have p2:=wI (n:=(ymd d).2.1) o5 o5;have p3:=wI (n:=(ymd d).2.2) o5 o5;rw[show zJ (ymd d).1 4=_ from FD (w:=4) p1 o5,o9];have l1:=yM (w:=4) p1 o5;have l2:=yM (w:=2) p2 o5;have l3:=yM (w:=2) p3 o5;exact a9W (A:=none) o5 o5 o5 (FD (w:=2) p2 o5) (FD (w:=2) p3 o5)
  .rw[dP o5,I7,o7,if_neg o5]
 .rw[oJ (dP o5),o9,I7,o7,if_neg o5]
theorem AY(d:Int):(lC d).length<=100:=by
 unfold lC;split
 .rename_i h;have hb:=a0J h.1 h.2;have l1:=yM (w:=4) (wI (n:=(ymd d).1) o5 o5) o5;have l2:=yM (w:=2) (wI (n:=(ymd d).2.1) o5 o5) o5;have l3:=yM (w:=2) (wI (n:=(ymd d).2.2) o5 o5) o5;simp;omega
 .simp
theorem uA(t:Int×Int)(en:List P5):bG t en=Y5 t en:=by
 unfold bG Y5;by_cases h1:t.1=1
 .simp[D6,h1,U6]
 by_cases h2:t.1=2
 .simp[D6,h2,U6]
 by_cases h3:t.1=3
 .simp[D6,h3,U6]
 by_cases h4:t.1=4
 .simp[D6,h4,U6]
 by_cases h5:t.1=5
 .simp[D6,h5,U6]
 by_cases h6:t.1=6
 .simp[D6,h6,U6]
 .simp only[D6,h1,h2,h3,h4,h5,h6,decide_false,o6,o9];by_cases h7:1<=t.1
  .rw[nM (aS h7),oJ (dP o5)]
  .rw[oJ (dP o5)]
theorem Ja(t:Int×Int)(en:List P5):jK t en=dI t en:=by unfold jK dI;rw[uA]
theorem a3E(n:Int)(t:Int×Int)(en:List P5):iQ n t en=CJ n t en:=by unfold iQ CJ;rw[Ja]
theorem xI{v:DR}(en:List P5)(h:fE v.2.2):iP v en=rf v en:=by
 unfold iP rf zK;rw[o9,uA];cases hv:Y5 (v.1,v.2.1) en with
 |none=>rfl|some b=>
  rw[o9,o9];cases b with
  |false=>rfl|true=>
   rw[F6,o6,o6];have e:Dv v en=iQ v.2.2 (v.1,v.2.1) en:=by unfold Dv zK;rw[o9,hv,o9,o7,o9,bF,a3E]
   rw[e,jy h,xP h,show bi v.2.2 2=_ from gq (k:=2) h o5,show lQ v.2.2 2=_ from Ak (k:=2) h o5,
    show bi v.2.2 4=_ from gq (k:=4) h o5,show lQ v.2.2 4=_ from Ak (k:=4) h o5,qw,Qh]
theorem xJ{B:Nat}(hB:100<=B)(hB2:B<=200000000000000){v:Int×Int×Int}{en:List P5}(h:fE v.2.2)(hm:∀e∈en,e.2.length<=B/\∀m∈e.2,m.length<=B):∃t,iP v en=some t/\t.1.length<=B:=by
 unfold iP
 cases hv:bG (v.1,v.2.1) en with
 |none=>
  exfalso;rw[uA]at hv;unfold Y5 at hv;simp only[vF]at hv
  repeat' split at hv
  all_goals cases hv
 |some b=>
  rw[o9];cases b with
  |false=>exact⟨_,rfl,D5⟩|true=>
   rw[F6,o6];unfold iQ jK;rw[hv];simp only[o9,F6,o6];have f1:=Hz h;have f2:=Jf (k:=2) h o5;have f4:=Jf (k:=4) h o5;have f5:=AY v.2.2;rw[jy h,show bi v.2.2 2=_ from gq (k:=2) h o5,show bi v.2.2 4=_ from gq (k:=4) h o5,qw];simp only[o9];rw[J7 (a:=Ai v.2.2 4) G5];simp only[o9];by_cases h1:v.1=1
   .simp only[V5 h1,o7,o9];simp only[bb,o9];simp only[vF];repeat' split
    all_goals exact⟨_,rfl,by first|omega|(simp<;>omega)⟩
   by_cases h2:v.1=2
   .simp only[N7 h1,V5 h2,o7,o6,o9];simp only[bb,o9];simp only[vF];repeat' split
    all_goals exact⟨_,rfl,by first|omega|(simp<;>omega)⟩
   by_cases h3:v.1=3
   .simp only[N7 h1,N7 h2,V5 h3,o7,o6,o9];simp only[bb,o9];simp only[vF];repeat' split
    all_goals exact⟨_,rfl,by first|omega|(simp<;>omega)⟩
   by_cases h4:v.1=4
   .simp only[N7 h1,N7 h2,N7 h3,V5 h4,o7,o6,o9];simp only[bb,o9];simp only[vF];repeat' split
    all_goals exact⟨_,rfl,by first|omega|(simp<;>omega)⟩
   by_cases h5:v.1=5
   .simp only[N7 h1,N7 h2,N7 h3,N7 h4,V5 h5,o7,o6,o9];simp only[bb,o9];simp only[vF];repeat' split
    all_goals exact⟨_,rfl,by first|omega|(simp<;>omega)⟩
   .simp only[N7 h1,N7 h2,N7 h3,N7 h4,N7 h5,o6];have hk:v.1=6/\0<=v.2.1/\v.2.1<x8 en:=by
     unfold bG at hv;simp only[N7 h1,N7 h2,N7 h3,N7 h4,N7 h5,o6,o9]at hv;simp only[vF,X8,iJ]at hv;split at hv
     .split at hv
      .simp only[F8,zY]at hv;exact⟨by assumption,by assumption,hv⟩
      .cases hv
     .cases hv
    obtain⟨e,he,hmem⟩:=um hk.2.1 hk.2.2;rw[he];simp only[o9];have hle:=(hm e hmem).1;have hll:x8 e.2=(e.2.length:Int):=rfl;rw[dW dm];by_cases hw0:0<=v.2.2
    .by_cases hw1:v.2.2<=x8 e.2 -1
     .rw[aS hw0,o7,aS hw1,o9,F6,o6];obtain⟨m,hm1,hm2⟩:=um (l:=e.2) hw0 o5;rw[hm1];exact⟨_,rfl,(hm e hmem).2 m hm2⟩
     .rw[aS hw0,o7,dP (uJ.1 hw1),o9,I7,o7];exact⟨_,rfl,D5⟩
    .rw[dP (uJ.1 hw0),o6];exact⟨_,rfl,D5⟩
end Gt
namespace Go.GP
open Gt
theorem Ut(l:List dK):sO l=kW l:=by unfold sO kW;rfl
theorem ZQ{α:Type}{l:List α}(h:l.length<=1000000):Bz l=some l:=by unfold Bz;rw[rY G5,H9]
theorem IP{l:aG}(hc:vT l.1=some l.1)(k:Int):jE l k=ku l k:=by unfold jE ku;simp only[hc,Ut];rfl
end Go.GP
namespace Go.GP
open Gt
set_option maxRecDepth 100000
def gtN(l:List (List UInt8))(i:Int):List UInt8:=(O0 l i).getD []
def qJ(k:Int):List UInt8:=(zN k).getD []
def Ci(k:Int):List UInt8:=(eP k).getD []
def Ea(k:Int):List UInt8×Int:=(uy k).getD ([],0)
def Fz(k:Int):Bool:=l7 (D6 k 2) true (l7 (D6 k 3) true (D6 k 4))
variable {b:Bool}
theorem b0C{x y:Option (List UInt8)}(hx:∃s,x=some s/\s.length<=10)(hy:∃s,y=some s/\s.length<=10):∃s,l7 b x y=some s/\s.length<=10:=by cases b<;>assumption
theorem a2i(k:Int):∃s,zN k=some s/\s.length<=10:=by
 unfold zN
 repeat (refine b0C ⟨_,rfl,H7⟩ ?_)
 exact⟨_,rfl,H7⟩
theorem b3h(k:Int):zN k=some (qJ k):=by obtain⟨s,h,-⟩:=a2i k;unfold qJ;rw[h];rfl
theorem kS(k:Int):iF k=some (qJ k):=(show iF k=zN k from rfl).trans (b3h k)
theorem Dq(k:Int):eP k=some (Ci k):=by
 unfold Ci;have:∃s,eP k=some s:=by
  unfold eP;simp only[vF];repeat' split
  all_goals exact⟨_,rfl⟩
 obtain⟨s,h⟩:=this;rw[h];rfl
theorem b3e(k:Int):uy k=some (Ea k):=by
 unfold Ea;have:∃s,uy k=some s:=by
  unfold uy;simp only[vF];repeat' split
  all_goals exact⟨_,rfl⟩
 obtain⟨s,h⟩:=this;rw[h];rfl
theorem a1X(k:Int):gQ k=some (Ea k):=(show gQ k=uy k from rfl).trans (b3e k)
theorem lW(k:Int):(qJ k).length<=10:=by obtain⟨s,h,h2⟩:=a2i k;unfold qJ;rw[h];exact h2
theorem Eo(k:Int):(Ci k).length<=10:=by
 unfold Ci eP;simp only[vF];repeat' split
 all_goals simp
theorem a2b(k:Int):(Ea k).1.length<=10:=by
 unfold Ea uy;simp only[vF];repeat' split
 all_goals simp
structure NmOk (N:D8):Prop where
 e:∀e∈N.1,e.1.length<=1000/\∀m∈e.2,m.length<=1000
 t:∀s∈N.2.1,s.length<=1000
 i:∀s∈N.2.2.1,s.length<=1000
 d:∀s∈N.2.2.2.1,s.length<=1000
 m:∀s∈N.2.2.2.2,s.length<=1000
abbrev Tx:Type:=List UInt8×Int
def wiS(p:Tx)(c:Int):List UInt8:=l7 (J4 p.2 c) ([40]++p.1++[41]) p.1
def qi(n:Int×Int)(N:D8):Tx:=
 l7 (U6 n.1 5) (((rf (n.1,0,n.2) []).getD ([],0)).1,l7 (J4 n.2 0) 6 7)
 (l7 (D6 n.1 6) (((O0 N.1 (gV .i64 n.2 16)).getD ([],[])).1++[58]++gtN ((O0 N.1 (gV .i64 n.2 16)).getD ([],[])).2 (mQ n.2 16),7)
 (l7 (D6 n.1 7) (gtN N.2.2.1 n.2,7)
 (l7 (D6 n.1 8) (gtN N.2.2.2.1 n.2,7)
 (l7 (D6 n.1 9) ([116,111,100,97,121],7)
 (l7 (D6 n.1 35) ([99,111,117,110,116,40,41],7) (qJ n.1++[40]++gtN N.2.2.2.2 n.2++[41],7))))))
def AP(n:Int×Int)(N:D8)(num:Bool)(a:Tx):Tx:=
 l7 (D6 n.1 33) (qJ n.1++[40]++gtN N.2.1 n.2++[44,32]++a.1++[41],7)
 (l7 (D6 n.1 34) (qJ n.1++[40]++gtN N.2.1 (gV .i64 n.2 8)++[44,32]++a.1++[44,32]++Ci (mQ n.2 8)++[41],7)
 (l7 (D6 n.1 25) ([110,111,116,32]++wiS a 6,6)
 (l7 (D6 n.1 10) ([45]++l7 num ([40]++a.1++[41]) (wiS a 6),6) (qJ n.1++[40]++a.1++[41],7))))
def a3S(k:Int):Bool:=l7 (D6 k 17) true (l7 (D6 k 18) true (l7 (D6 k 27) true (l7 (D6 k 28) true (l7 (D6 k 29) true (D6 k 30)))))
def a9i(k:Int):Bool:=l7 (D6 k 14) true (l7 (D6 k 15) true (D6 k 16))
def Qn(n:Int×Int)(a b:Tx):Tx:=
 l7 (a3S n.1) (qJ n.1++[40]++a.1++[44,32]++b.1++[41],7)
 (l7 (a9i n.1) (qJ n.1++[40]++a.1++[44,32]++b.1++[44,32]++Ci n.2++[41],7)
 (wiS a (l7 (D6 (Ea n.1).2 3) 4 (Ea n.1).2)++[32]++(Ea n.1).1++[32]++wiS b ((Ea n.1).2+1),(Ea n.1).2))
def ifX(a b c:Tx):Tx:=([105,102,32]++a.1++[32,116,104,101,110,32]++b.1++[32,101,108,115,101,32]++c.1,0)
def txT(N:D8):XT->Tx
 | .l0 n=>qi n N| .l1 n a=>AP n N (Fz a.node.1) (txT N a)| .l2 n a b=>Qn n (txT N a) (txT N b)| .l3 n a b c=>ifX (txT N a) (txT N b) (txT N c)
def pcT(N:D8)(t:XT):H5:=((txT N t).1,(txT N t).2,Fz t.node.1)
def xk(n:Int×Int)(args:List H5)(N:D8)(p:Tx):Prop:=
 ∃c,aB n N=some c/\O9 n args N=some (l7 (D6 c 0) ((p.1,p.2,Fz n.1),0) (([],0,false),c))
variable {α:Type}
theorem lx0(a:α)(l:List α):O0 (a::l) 0=some a:=rfl
theorem lx1(a b:α)(l:List α):O0 (a::b::l) 1=some b:=rfl
theorem lx2(a b c:α)(l:List α):O0 (a::b::c::l) 2=some c:=rfl
theorem zS(p:H5)(c:Int)(h:p.1.length<=1000000000):fP p c=some (wiS (p.1,p.2.1) c):=by unfold fP wiS;rw[J7 G5,o9,J7 G5,o9];cases J4 p.2.1 c<;>rfl
theorem Gg(p:Tx)(c:Int):(wiS p c).length<=p.1.length+2:=by unfold wiS;cases J4 p.2 c<;>simp
theorem arN(k:Int):1<=k/\k<=39\/arF k=-1:=by
 by_cases h:1<=k/\k<=39
 .exact .inl h
 .refine .inr ?_;unfold arF;rw[WJ h];rfl
variable {k:Int}
theorem ar0(h:arF k=0):k=1\/k=2\/k=3\/k=4\/k=5\/k=6\/k=7\/k=8\/k=9\/k=35\/k=36\/k=37\/k=38\/k=39:=by
 rcases arN k with h1|h1
 .obtain⟨j,rfl⟩:=SX h1;revert h;revert j;decide
 .omega
theorem ar1(h:arF k=1):k=10\/k=25\/k=31\/k=32\/k=33\/k=34:=by
 rcases arN k with h1|h1
 .obtain⟨j,rfl⟩:=SX h1;revert h;revert j;decide
 .omega
theorem ar2(h:arF k=2):k=11\/k=12\/k=13\/k=14\/k=15\/k=16\/k=17\/k=18\/k=19\/k=20\/k=21\/k=22\/k=23\/k=24\/k=27\/k=28\/k=29\/k=30:=by
 rcases arN k with h1|h1
 .obtain⟨j,rfl⟩:=SX h1;revert h;revert j;decide
 .omega
theorem ar3(h:arF k=3):k=26:=b0A h
variable {N:D8}{n:Int×Int}
theorem YT{args:List H5}{p:Tx}(c:Int)(h1:aB n N=some c)(h2:O9 n args N=some (l7 (D6 c 0) ((p.1,p.2,Fz n.1),0) (([],0,false),c))):xk n args N p:=⟨c,h1,h2⟩
variable {m:Int}
theorem a8t(hk:k=1\/k=2\/k=3\/k=4\/k=5)(hm:fE m)(N:D8):∃c s,aB (k,m) N=some c/\iP (k,0,m) []=some (s,c):=by
 have b1:∀lo hi:Int,dI (k,0) []=some (lo,hi)->Y5 (k,0) []=some true->∃c s,aB (k,m) N=some c/\iP (k,0,m) []=some (s,c):=by
  intro lo hi hb hv;have hf:aB (k,m) N=some (l7 (J4 m lo) 3 (l7 (J4 hi m) 3 0)):=by
   unfold aB rQ;simp only[aS (show 1<=k by omega),aS (show k<=5 by omega),o7,o9,hb];cases J4 m lo
   .cases J4 hi m<;>rfl
   .rfl
  have hw:iQ m (k,0) []=some (l7 (U6 lo m) (U6 m hi) false):=by unfold iQ;rw[Ja,hb,o9];cases U6 lo m<;>rfl
  rw[hf];obtain⟨t,ht,-⟩:=xJ (B:=100) o5 o5 (v:=(k,0,m)) (en:=[]) hm (λe h=>by cases h);unfold iP at ht ⊢;simp only[uA,hv,hw,o9,F6,o6]at ht ⊢;by_cases h1:lo<=m
  .by_cases h2:m<=hi
   .rw[aS h1,aS h2,o7,F6,o6]at ht ⊢;rw[X3 h1,X3 h2,o6,o6];refine⟨0,t.1,rfl,?_⟩;rw[ht];have e:t.2=0:=by
     rcases hk with rfl|rfl|rfl|rfl|rfl
     .simp (disch:=decide) only[V5,o7]at ht;revert ht;cases D6 m 1<;>cases D6 m 0<;>intro ht<;>cases ht<;>rfl
     .simp (disch:=decide) only[V5,N7,o7,o6,jy hm,o9,F8]at ht;rw[←ht]
     .simp (disch:=decide) only[V5,N7,o7,o6]at ht;rw[show bi m 2=_ from gq (k:=2) hm o5]at ht;simp only[o9,F8]at ht;rw[←ht]
     .simp (disch:=decide) only[V5,N7,o7,o6]at ht;have f4:=Jf (k:=4) hm o5;rw[show bi m 4=_ from gq (k:=4) hm o5,o9,J7 G5]at ht;simp only[o9,F8]at ht;rw[←ht]
     .simp (disch:=decide) only[V5,N7,o7,o6,qw,o9,F8]at ht;rw[←ht]
    rw[←e]
   .rw[aS h1,dP o5,o7,I7,o7,X3 h1,bu o5,o6,o7];exact⟨3,[],rfl,rfl⟩
  .rw[dP o5,o6,I7,o7,bu o5,o7];exact⟨3,[],rfl,rfl⟩
 rcases hk with rfl|rfl|rfl|rfl|rfl
 .exact b1 0 1 rfl rfl
 .exact b1 _ _ rfl rfl
 .exact b1 _ _ rfl rfl
 .exact b1 _ _ rfl rfl
 .exact b1 _ _ rfl rfl
theorem rU(hk:k=1\/k=2\/k=3\/k=4\/k=5)(hm:fE m)(N:D8):xk (k,m) [] N (qi (k,m) N):=by
 obtain⟨c,s,h1,h2⟩:=a8t hk hm N;refine YT c h1 ?_;have e:qi (k,m) N=(s,l7 (J4 m 0) 6 7):=by unfold qi;rw[aS (show k<=5 by omega),o7,←xI [] hm,h2];rfl
 have hc:c=0\/c=3:=by
  unfold aB rQ at h1;have h:=h1;simp only[aS (show 1<=k by omega),aS (show k<=5 by omega),o7,o9]at h;cases hb:dI (k,0) []with
  |none=>rw[hb]at h;cases h|some b=>rw[hb,o9]at h;cases hx:J4 m b.1<;>cases hy:J4 b.2 m<;>simp only[hx,hy,o7,o6,F8]at h<;>omega
 have hr:pR (k,m)=some (l7 (D6 c 0) ((s,l7 (l7 (Fz k) (J4 m 0) false) 6 7,Fz k),0) (([],0,false),c)):=by
  unfold pR Fz;simp only[h2,o9];rcases hc with rfl|rfl
  .simp only[V5 (rfl:(0:Int)=0),F6,o6,o7,U9,o9];cases J4 m 0<;>cases D6 k 2<;>cases D6 k 3<;>cases D6 k 4<;>rfl
  .rfl
 rw[e];unfold O9;rw[hr];have hneg:c=0->l7 (l7 (Fz k) (J4 m 0) false) (6:Int) 7=l7 (J4 m 0) 6 7:=by
  intro h0;subst h0;cases hg:J4 m 0
  .cases Fz k<;>rfl
  rcases hk with rfl|rfl|rfl|rfl|rfl
  .exfalso;unfold aB rQ at h1;simp only[show dI (1,0) []=some (0,1)from rfl,aS (show(1:Int)<=1 by omega),aS (show(1:Int)<=5 by omega),o7,o9,hg,F8]at h1;omega
  .rfl
  .rfl
  .rfl
  .exfalso;unfold aB rQ at h1;simp only[show dI (5,0) []=some (0,109572)from rfl,aS (show(1:Int)<=5 by omega),aS (show(5:Int)<=5 by omega),o7,o9,hg,F8]at h1;omega
 rcases hc with rfl|rfl
 .rw[hneg rfl];rcases hk with rfl|rfl|rfl|rfl|rfl<;>rfl
 .rcases hk with rfl|rfl|rfl|rfl|rfl<;>rfl
theorem HY{l:List (List UInt8)}{i:Int}(h0:0<=i)(h:i<x8 l):O0 l i=some (gtN l i)/\gtN l i∈l:=by obtain⟨x,h1,h2⟩:=um h0 h;unfold gtN;rw[h1];exact⟨rfl,h2⟩
theorem yB{l:List (List UInt8)}{B:Nat}(h:∀s∈l,s.length<=B)(i:Int):(gtN l i).length<=B:=by
 unfold gtN;cases hl:O0 l i with
 |none=>simp|some x=>exact h x (lX hl).2.2.1
theorem Dx(k m:Int)(args:List H5)(N:D8)(hk:k=6\/k=7\/k=8\/k=36\/k=37\/k=38\/k=39):O9 (k,m) args N=Y7 (k,m) N:=by unfold O9;generalize hq:Y7 (k,m) N=q;rcases hk with rfl|rfl|rfl|rfl|rfl|rfl|rfl<;>simp (disch:=decide) only[V5,N7,o7,o6,o9,hq]<;>cases q<;>rfl
theorem yg(hk:k=7\/k=8\/k=36\/k=37\/k=38\/k=39)(hN:NmOk N):xk (k,m) [] N (qi (k,m) N):=by
 have key:∀(l:List (List UInt8)) (before after:List UInt8),(∀s∈l,s.length<=1000)->before.length<=100->after.length<=100->
   aB (k,m) N=l7 (J4 m 0) (some 6) (l7 (U6 (x8 l) m) (some 6) (some 0))->
   Y7 (k,m) N=l7 (J4 m 0) (some (([],0,false),6))
    (l7 (U6 (x8 l) m) (some (([],0,false),6))
     (l9 (O0 l m) λ(x_1:List UInt8)=>
      l9 (U5 before x_1) λ(x_2:List UInt8)=>
       l9 (U5 x_2 after) λ(x:List UInt8)=>some ((x,7,false),0)))->
   qi (k,m) N=(before++gtN l m++after,7)->xk (k,m) [] N (qi (k,m) N):=by
  intro l before after hl hb ha hf0 hr he;have hf:aB (k,m) N=some (l7 (J4 m 0) 6 (l7 (U6 (x8 l) m) 6 0)):=by rw[hf0];cases J4 m 0<;>cases U6 (x8 l) m<;>rfl
  refine YT _ hf ?_;have hnum:Fz k=false:=by rcases hk with rfl|rfl|rfl|rfl|rfl|rfl<;>rfl
  rw[Dx _ _ _ _ o5,hr,he,hnum];by_cases h0:m<0
  .rw[bu h0];rfl
  by_cases h1:x8 l<=m
  .simp only[X3 (show 0<=m by omega),aS h1];rfl
  .have:=HY (l:=l) (i:=m) o5 o5;have h2:=hl _ this.2;simp only[X3 (show 0<=m by omega),dP (show m<x8 l by omega),o6,this.1,o9];rw[J7 o5,o9,J7 G5,o9];rfl
 have mem:∀k:Int,(k=36\/k=37\/k=38\/k=39)->Y7 (k,m) N=l7 (J4 m 0) (some (([],0,false),6))
    (l7 (U6 (x8 N.2.2.2.2) m) (some (([],0,false),6))
     (l9 (O0 N.2.2.2.2 m) λ(x_1:List UInt8)=>
      l9 (U5 (qJ k++[40]) x_1) λ(x_2:List UInt8)=>
       l9 (U5 x_2 [41]) λ(x:List UInt8)=>some ((x,7,false),0))):=by
  intro k hk;have hw:=lW k;unfold Y7 U9;simp only[N7 (show k≠6 by omega),N7 (show k≠7 by omega),N7 (show k≠8 by omega),o6,kS,o9,J7 (a:=qJ k) (b:=[40]) G5,W9]
 have lf:∀k:Int,(k=36\/k=37\/k=38\/k=39)->qi (k,m) N=(qJ k++[40]++gtN N.2.2.2.2 m++[41],7):=by intro k hk;unfold qi;simp only[dP (show 5<k by omega),N7 (show k≠6 by omega),N7 (show k≠7 by omega),N7 (show k≠8 by omega),N7 (show k≠9 by omega),N7 (show k≠35 by omega),o6]
 have wl:=λk=>lW k;rcases hk with rfl|rfl|rfl|rfl|rfl|rfl
 .refine key N.2.2.1 [] [] hN.i D5 D5 rfl ?_ ?_
  .unfold Y7 U9;simp (disch:=decide) only[V5,N7,o7,o6,o9,W9]
  .unfold qi;simp (disch:=decide) only[V5,N7,dP,o7,o6];simp
 .refine key N.2.2.2.1 [] [] hN.d D5 D5 rfl ?_ ?_
  .unfold Y7 U9;simp (disch:=decide) only[V5,N7,o7,o6,o9,W9]
  .unfold qi;simp (disch:=decide) only[V5,N7,dP,o7,o6];simp
 .exact key N.2.2.2.2 (qJ 36++[40]) [41] hN.m H7 H7 rfl (mem _ o5) (lf _ o5)
 .exact key N.2.2.2.2 (qJ 37++[40]) [41] hN.m H7 H7 rfl (mem _ o5) (lf _ o5)
 .exact key N.2.2.2.2 (qJ 38++[40]) [41] hN.m H7 H7 rfl (mem _ o5) (lf _ o5)
 .exact key N.2.2.2.2 (qJ 39++[40]) [41] hN.m H7 H7 rfl (mem _ o5) (lf _ o5)
theorem QC(h:fE m)(d:Int)(hd:d=8\/d=16):gV .i64 m d=m.tdiv d:=by
 refine LM ?_;unfold fE at h ⊢;rcases hd with rfl|rfl
 all_goals
  rcases Int.lt_or_le m 0 with h0|h0
  .have e:=Int.neg_tdiv (a:=-m) (b:=8);have e' :=Int.neg_tdiv (a:=-m) (b:=16);rw[Int.neg_neg]at e e';have q1:=pO (a:=-m) (b:=8) o5;have q2:=pO (a:=-m) (b:=16) o5;omega
  .have q1:=pO (a:=m) (b:=8) o5;have q2:=pO (a:=m) (b:=16) o5;omega
theorem YP(hm:fE m)(hN:NmOk N):xk (6,m) [] N (qi (6,m) N):=by
 have hf:aB (6,m) N=(l7 (J4 m 0) (some 6)
    (l7 (U6 (x8 N.1) (gV .i64 m 16)) (some 6)
     (l9 (O0 N.1 (gV .i64 m 16)) λ(x:P5)=>
      l7 (U6 (x8 x.2) (mQ m 16)) (some 6) (some 0)))):=rfl
 have hr:Y7 (6,m) N=l9 (l7 (J4 m 0) (some (Sum.inr (([],0,false),6)))
   (l7 (U6 (x8 N.1) (gV IntKind.i64 m 16)) (some (Sum.inr (([],0,false),6)))
    (l9 (O0 N.1 (gV IntKind.i64 m 16)) λ(x:P5)=>
     l9 (U5 x.1 [58]) λ(x_1:List UInt8)=>some (Sum.inl (([],0,false),x.2,mQ m 16,x_1,[]))))) λ(o:H5×List (List UInt8)×Int×List UInt8×List UInt8⊕H5×Int)=>
 aj o
  (λ(x:H5×List (List UInt8)×Int×List UInt8×List UInt8)=>
   l7 (J4 x.2.2.1 0) (some (([],0,false),6))
    (l7 (U6 (x8 x.2.1) x.2.2.1) (some (([],0,false),6))
     (l9 (O0 x.2.1 x.2.2.1) λ(x_1:List UInt8)=>
      l9 (U5 x.2.2.2.1 x_1) λ(x_2:List UInt8)=>
       l9 (U5 x_2 x.2.2.2.2) λ(x:List UInt8)=>
        l9 (U9 x) λ(x:H5)=>some (x,0))))
  λ(r:H5×Int)=>some r:=rfl
 have hl:qi (6,m) N=(((O0 N.1 (gV .i64 m 16)).getD ([],[])).1++[58]++gtN ((O0 N.1 (gV .i64 m 16)).getD ([],[])).2 (mQ m 16),7):=rfl;unfold xk;rw[hf,Dx _ _ _ _ o5,hr,hl];by_cases h0:m<0
 .rw[bu h0];exact⟨6,rfl,rfl⟩
 rw[X3 o5,o6,o6];by_cases h1:x8 N.1<=gV .i64 m 16
 .rw[aS h1];exact⟨6,rfl,rfl⟩
 rw[dP o5,o6,o6];have hq:0<=gV .i64 m 16:=by rw[QC hm 16 (.inr rfl),pO o5];omega
 obtain⟨e,he,hmem⟩:=um (l:=N.1) hq o5;have hb:=hN.e e hmem;have hr0:mQ m 16=m % 16:=BX o5;simp only[he,o9,Y2,J7 (a:=e.1) (b:=[58]) G5,W9];rw[X3 (show 0<=mQ m 16 by omega),o6];by_cases h2:x8 e.2<=mQ m 16
 .rw[aS h2];exact⟨6,rfl,rfl⟩
 rw[dP o5,o6,o6];have hg:=HY (l:=e.2) (i:=mQ m 16) o5 o5;have h3:=hb.2 _ hg.2;refine⟨0,rfl,?_⟩;rw[hg.1,o9,J7 G5,o9,J7 G5,o9];simp only[U9,o9,E5];rfl
theorem YN :xk (9,0) [] N (qi (9,0) N):=⟨0,rfl,rfl⟩
theorem Vz :xk (35,0) [] N (qi (35,0) N):=⟨0,rfl,rfl⟩
theorem a8Z(hN:NmOk N)(hm:fE m)(ha:arF k=0)(hu:m=0\/bW k=some true):xk (k,m) [] N (qi (k,m) N):=by
 have hz:(k=9\/k=35)->m=0:=by
  intro h;rcases hu with h1|h1
  .exact h1
  .exfalso;rcases h with rfl|rfl<;>exact absurd h1 H7
 rcases ar0 ha with rfl|rfl|rfl|rfl|rfl|rfl|rfl|rfl|rfl|rfl|rfl|rfl|rfl|rfl
 .exact rU o5 hm N
 .exact rU o5 hm N
 .exact rU o5 hm N
 .exact rU o5 hm N
 .exact rU o5 hm N
 .exact YP hm hN
 .exact yg o5 hN
 .exact yg o5 hN
 .rw[hz o5];exact YN
 .rw[hz o5];exact Vz
 .exact yg o5 hN
 .exact yg o5 hN
 .exact yg o5 hN
 .exact yg o5 hN
theorem W_(hm:fE m)(hN:NmOk N)(a:H5)(h1:a.1.length<=1000000000):xk (33,m) [a] N (AP (33,m) N b (a.1,a.2.1)):=by
 have hf:aB (33,m) N=l7 (J4 m 0) (some 6) (l7 (U6 (x8 N.2.1) m) (some 6) (some 0)):=rfl;have hr:O9 (33,m) [a] N=ay (33,m) a N:=by unfold O9;generalize hq:ay (33,m) a N=q;simp (disch:=decide) only[V5,N7,o7,o6,o9,lx0,hq];cases q<;>rfl
 have hx:AP (33,m) N b (a.1,a.2.1)=(qJ 33++[40]++gtN N.2.1 m++[44,32]++a.1++[41],7):=rfl;unfold xk;rw[hf,hr,hx];unfold ay U9;simp (disch:=decide) only[V5,N7,o7,o6,o9,kS];by_cases h0:m<0
 .rw[bu h0];exact⟨6,rfl,rfl⟩
 rw[X3 o5,o6,o6];by_cases h2:x8 N.2.1<=m
 .rw[aS h2];exact⟨6,rfl,rfl⟩
 rw[dP o5,o6,o6];have hg:=HY (l:=N.2.1) (i:=m) o5 o5;have h3:=hN.t _ hg.2;have hw:=lW 33;refine⟨0,rfl,?_⟩;rw[o9,W9,J7 G5,o9,hg.1,o9,J7 G5,o9,J7 G5,o9,J7 G5,o9,J7 G5,o9];rfl
theorem SK(h:0<=m):seq (Ci m) []=J4 5 m:=by
 by_cases h5:m<=5
 .rw[X3 h5];obtain⟨k,rfl⟩:∃k:Fin 6,m=(k.val:Int):=⟨⟨m.toNat,o5⟩,by simp;omega⟩;revert k;decide
 .rw[bu o5];unfold Ci eP;simp only[N7 (show m≠0 by omega),N7 (show m≠1 by omega),N7 (show m≠2 by omega),N7 (show m≠3 by omega),N7 (show m≠4 by omega),N7 (show m≠5 by omega),o6];rfl
theorem a4Q(h:m<0):seq (Ci m) []=true:=by unfold Ci eP;simp only[N7 (show m≠0 by omega),N7 (show m≠1 by omega),N7 (show m≠2 by omega),N7 (show m≠3 by omega),N7 (show m≠4 by omega),N7 (show m≠5 by omega),o6];rfl
theorem YO(hm:fE m)(hN:NmOk N)(a:H5)(h1:a.1.length<=1000000000):xk (34,m) [a] N (AP (34,m) N b (a.1,a.2.1)):=by
 have hf:aB (34,m) N=l7 (J4 m 0) (some 6) (l7 (U6 (x8 N.2.1) (gV .i64 m 8)) (some 6) (l7 (J4 5 (mQ m 8)) (some 3) (some 0))):=rfl;have hr:O9 (34,m) [a] N=ay (34,m) a N:=by unfold O9;generalize hq:ay (34,m) a N=q;simp (disch:=decide) only[V5,N7,o7,o6,o9,lx0,hq];cases q<;>rfl
 have hx:AP (34,m) N b (a.1,a.2.1)=(qJ 34++[40]++gtN N.2.1 (gV .i64 m 8)++[44,32]++a.1++[44,32]++Ci (mQ m 8)++[41],7):=rfl;unfold xk;rw[hf,hr,hx];unfold ay U9;simp (disch:=decide) only[V5,N7,o7,o6,o9,kS,Dq];by_cases h0:m<0
 .rw[bu h0,X3 (show m<=0 by omega)];simp only[o7,o6,o9,bu h0,cO];exact⟨6,rfl,rfl⟩
 have hq:gV .i64 m 8=m / 8:=by rw[QC hm 8 (.inl rfl),pO o5]
 have hi:(l7 (J4 0 m) (some (gV .i64 m 8)) (some m):Option Int)=some (gV .i64 m 8):=by
  by_cases h:0<m
  .rw[bu h];rfl
  .rw[X3 o5,o6,show gV .i64 m 8=m by omega]
 rw[hi,o9,X3 (show 0<=m by omega),o6,X3 (show 0<=gV .i64 m 8 by omega),o6];by_cases h2:x8 N.2.1<=gV .i64 m 8
 .rw[aS h2];exact⟨6,rfl,rfl⟩
 rw[dP o5,o6,o6];have hg:=HY (l:=N.2.1) (i:=gV .i64 m 8) o5 o5;have h3:=hN.t _ hg.2;have hw:=lW 34;have hm:=Eo (mQ m 8);have hr0:mQ m 8=m % 8:=BX o5;rw[o9,W9,J7 G5,o9,hg.1,o9,J7 G5,o9,J7 G5,o9,J7 G5,o9,SK (show 0<=mQ m 8 by omega)];cases J4 5 (mQ m 8)
 .refine⟨0,rfl,?_⟩;rw[o6,J7 G5,o9,J7 G5,o9,J7 G5,o9];simp[l7];rfl
 .exact⟨3,rfl,rfl⟩
theorem a9a(hN:NmOk N)(hm:fE m)(ha:arF k=1)(hu:m=0\/bW k=some true)(a:H5)(h1:a.1.length<=1000000000):xk (k,m) [a] N (AP (k,m) N a.2.2 (a.1,a.2.1)):=by
 have hz:(k=10\/k=25\/k=31\/k=32)->m=0:=by
  intro h;rcases hu with h1|h1
  .exact h1
  .exfalso;rcases h with rfl|rfl|rfl|rfl<;>exact absurd h1 H7
 have hw:=Gg (a.1,a.2.1) 6;simp only at hw;rcases ar1 ha with rfl|rfl|rfl|rfl|rfl|rfl
 .rw[hz o5];refine⟨0,rfl,?_⟩;unfold O9 AP;simp (disch:=decide) only[V5,N7,o7,o6,o9,lx0,zS a 6 h1];cases h:a.2.2
  .simp only[o6,o7];rw[J7 G5,o9,o9,cO];rfl
  .simp only[o7];rw[J7 G5,o9,J7 G5,o9,J7 G5,o9,o9,cO];rfl
 .rw[hz o5];refine⟨0,rfl,?_⟩;unfold O9 AP;simp (disch:=decide) only[V5,N7,o7,o6,o9,lx0,zS a 6 h1];rw[J7 G5,o9,o9,cO];rfl
 .rw[hz o5];refine⟨0,rfl,?_⟩;have hl:=lW 31;unfold O9 AP U9;simp (disch:=decide) only[V5,N7,o7,o6,o9,lx0,kS];rw[J7 G5,o9,J7 G5,o9,J7 G5,o9,o9,cO];rfl
 .rw[hz o5];refine⟨0,rfl,?_⟩;have hl:=lW 32;unfold O9 AP U9;simp (disch:=decide) only[V5,N7,o7,o6,o9,lx0,kS];rw[J7 G5,o9,J7 G5,o9,J7 G5,o9,o9,cO];rfl
 .exact W_ hm hN a h1
 .exact YO hm hN a h1
theorem U_(hk:k=17\/k=18\/k=27\/k=28\/k=29\/k=30)(a b:H5)(h1:a.1.length<=1000000000)(h2:b.1.length<=1000000000):xk (k,0) [a,b] N (Qn (k,0) (a.1,a.2.1) (b.1,b.2.1)):=by
 have hl:=lW k;rcases hk with rfl|rfl|rfl|rfl|rfl|rfl
 all_goals
  refine⟨0,rfl,?_⟩;unfold O9 Qn U9 a3S;simp (disch:=decide) only[V5,N7,o7,o6,o9,lx0,lx1,kS];rw[J7 G5,o9,J7 G5,o9,J7 G5,o9,J7 G5,o9,J7 G5,o9,o9,cO];rfl
theorem V_(hk:k=14\/k=15\/k=16)(a b:H5)(h1:a.1.length<=1000000000)(h2:b.1.length<=1000000000):xk (k,m) [a,b] N (Qn (k,m) (a.1,a.2.1) (b.1,b.2.1)):=by
 have hl:=lW k;have hm:=Eo m;have hf:aB (k,m) N=some (l7 (seq (Ci m) []) 3 0):=by
  have:aB (k,m) N=l7 (J4 m 0) (some 3) (l7 (J4 5 m) (some 3) (some 0)):=by rcases hk with rfl|rfl|rfl<;>rfl
  rw[this];by_cases h0:m<0
  .rw[bu h0,a4Q h0];rfl
  .rw[X3 o5,SK o5];cases J4 5 m<;>rfl
 refine YT _ hf ?_;rcases hk with rfl|rfl|rfl
 all_goals
  unfold O9 Qn U9 a3S a9i;simp (disch:=decide) only[V5,N7,o7,o6,o9,lx0,lx1,kS,Dq];cases seq (Ci m) []
  .rw[o6,J7 G5,o9,J7 G5,o9,J7 G5,o9,J7 G5,o9,J7 G5,o9,J7 G5,o9,J7 G5,o9,o9,cO];rfl
  .rfl
theorem T_(hk:k=11\/k=12\/k=13\/k=19\/k=20\/k=21\/k=22\/k=23\/k=24)(a b:H5)(h1:a.1.length<=100000000)(h2:b.1.length<=100000000):xk (k,0) [a,b] N (Qn (k,0) (a.1,a.2.1) (b.1,b.2.1)):=by
 have hl:=a2b k;have hc:1<=(Ea k).2/\(Ea k).2<=5:=by rcases hk with rfl|rfl|rfl|rfl|rfl|rfl|rfl|rfl|rfl<;>decide
 have w1:=Gg (a.1,a.2.1) 4;have w2:=Gg (a.1,a.2.1) (Ea k).2;have w3:=Gg (b.1,b.2.1) ((Ea k).2+1);simp only at w1 w2 w3;have hx:O9 (k,0) [a,b] N=l9 (gQ k) λ(x:List UInt8×Int)=>
    l7 (D6 x.2 3)
     (l9 (fP a 4) λ(x_2:List UInt8)=>
       l9 (U5 x_2 [32]) λ(x_3:List UInt8)=>
        l9 (U5 x_3 x.1) λ(x_4:List UInt8)=>
         l9 (U5 x_4 [32]) λ(x_5:List UInt8)=>
           l9 (fP b (G9 IntKind.i64 x.2 1)) λ(x_7:List UInt8)=>
            l9 (U5 x_5 x_7) λ(x_8:List UInt8)=>some ((x_8,x.2,false),0))
     (l9 (fP a x.2) λ(x_2:List UInt8)=>
       l9 (U5 x_2 [32]) λ(x_3:List UInt8)=>
        l9 (U5 x_3 x.1) λ(x_4:List UInt8)=>
         l9 (U5 x_4 [32]) λ(x_5:List UInt8)=>
           l9 (fP b (G9 IntKind.i64 x.2 1)) λ(x_7:List UInt8)=>
            l9 (U5 x_5 x_7) λ(x_8:List UInt8)=>some ((x_8,x.2,false),0)):=by
  rcases hk with rfl|rfl|rfl|rfl|rfl|rfl|rfl|rfl|rfl<;>rfl
 have hf:aB (k,0) N=some 0:=by rcases hk with rfl|rfl|rfl|rfl|rfl|rfl|rfl|rfl|rfl<;>rfl
 have hn:Fz k=false:=by rcases hk with rfl|rfl|rfl|rfl|rfl|rfl|rfl|rfl|rfl<;>rfl
 have hb:a3S k=false/\a9i k=false:=by rcases hk with rfl|rfl|rfl|rfl|rfl|rfl|rfl|rfl|rfl<;>exact⟨rfl,rfl⟩
 refine YT _ hf ?_;rw[hx,a1X,o9];unfold Qn;simp only[hb.1,hb.2,hn,o6,eU (show fE ((Ea k).2+1) by unfold fE;omega)];rw[zS a 4 o5,zS a _ o5,zS b _ o5];simp only[o9];cases D6 (Ea k).2 3
 .simp only[o6];rw[J7 G5,o9,J7 G5,o9,J7 G5,o9,J7 G5,o9];rfl
 .simp only[o7];rw[J7 G5,o9,J7 G5,o9,J7 G5,o9,J7 G5,o9];rfl
theorem a1M(ha:arF k=2)(hu:m=0\/bW k=some true)(a b:H5)(h1:a.1.length<=100000000)(h2:b.1.length<=100000000):xk (k,m) [a,b] N (Qn (k,m) (a.1,a.2.1) (b.1,b.2.1)):=by
 have hz:¬(k=14\/k=15\/k=16)->m=0:=by
  intro h;rcases hu with h1|h1
  .exact h1
  .exfalso;rcases ar2 ha with rfl|rfl|rfl|rfl|rfl|rfl|rfl|rfl|rfl|rfl|rfl|rfl|rfl|rfl|rfl|rfl|rfl|rfl<;>first|omega|exact absurd h1 H7
 by_cases h:k=14\/k=15\/k=16
 .exact V_ h a b o5 o5
 rw[hz h];by_cases h' :k=17\/k=18\/k=27\/k=28\/k=29\/k=30
 .exact U_ h' a b o5 o5
 .exact T_ (by have:=ar2 ha;omega) a b h1 h2
theorem a1N(hu:m=0\/bW 26=some true)(a b c:H5)(h1:a.1.length<=100000000)(h2:b.1.length<=100000000)(h3:c.1.length<=100000000):xk (26,m) [a,b,c] N (ifX (a.1,a.2.1) (b.1,b.2.1) (c.1,c.2.1)):=by
 have hz:m=0:=by
  rcases hu with h1|h1
  .exact h1
  .exact absurd h1 H7
 rw[hz];refine⟨0,rfl,?_⟩;unfold O9 ifX;simp (disch:=decide) only[V5,N7,o7,o6,o9,lx0,lx1,lx2];rw[J7 G5,o9,J7 G5,o9,J7 G5,o9,J7 G5,o9,J7 G5,o9,o9,cO];rfl
def flS(n:Int×Int)(N:D8):Int:=(aB n N).getD 0
theorem a4r{c:Int}(h:aB n N=some c):flS n N=c:=by unfold flS;rw[h];rfl
theorem a9F(h:0<=arF k):bW k=some true\/bW k=some false:=by
 rcases arN k with h1|h1
 .obtain⟨j,rfl⟩:=SX h1;revert h;revert j;decide
 .omega
theorem b3R(ha:0<=arF k)(hm:m≠0)(hu:bW k=some false):aB (k,m) N=some 2:=by
 have h3:arF k=0\/arF k=1\/arF k=2\/arF k=3:=by have:=(QQ k).2.2;omega
 have key:aB (k,m) N=l7 (G7 (D6 m 0)) (some 2) (some 0)->aB (k,m) N=some 2:=by intro h;rw[h,N7 hm];rfl
 rcases h3 with h|h|h|h
 .rcases ar0 h with rfl|rfl|rfl|rfl|rfl|rfl|rfl|rfl|rfl|rfl|rfl|rfl|rfl|rfl<;>first|exact absurd hu H7|exact key rfl
 .rcases ar1 h with rfl|rfl|rfl|rfl|rfl|rfl<;>first|exact absurd hu H7|exact key rfl
 .rcases ar2 h with rfl|rfl|rfl|rfl|rfl|rfl|rfl|rfl|rfl|rfl|rfl|rfl|rfl|rfl|rfl|rfl|rfl|rfl<;>first|exact absurd hu H7|exact key rfl
 .have:=ar3 h;subst this;exact key rfl
def fmF(a0:List (Int×Int))(a1:D8)(x:List H5×Int):Option (Out (List H5×Int) (List H5) (List UInt8×Int)):=
     l7 (J4 x.2 (x8 a0))
      (l9 (O0 a0 x.2) λ(x_1:Int×Int)=>
       l7 (G7 (D6 x_1.2 0))
        (l9 (bW x_1.1) λ(x_2:Bool)=>
         l7 (G7 x_2) (some (Out.rt ([],2)))
          (l9 (lD x_1.1) λ(x_3:Int)=>
           l7 (lT (L6 IntKind.i64 (x8 x.1) x_3) (x8 x.1) (x8 x.1))
            (l9
             (O9 x_1 (jY x.1 (bH (L6 IntKind.i64 (x8 x.1) x_3)) (bH (x8 x.1))) a1)
             λ(x_4:H5×Int)=>
             l7 (G7 (D6 x_4.2 0)) (some (Out.rt ([],x_4.2)))
              (l7 (lT 0 (L6 IntKind.i64 (x8 x.1) x_3) (x8 x.1))
               (l9 (dB (jY x.1 (bH 0) (bH (L6 IntKind.i64 (x8 x.1) x_3))) [x_4.1])
                λ(x_5:List H5)=>some (Out.nx (x_5,G9 IntKind.i64 x.2 1)))
               none))
            none))
        (l9 (lD x_1.1) λ(x_2:Int)=>
         l7 (lT (L6 IntKind.i64 (x8 x.1) x_2) (x8 x.1) (x8 x.1))
          (l9 (O9 x_1 (jY x.1 (bH (L6 IntKind.i64 (x8 x.1) x_2)) (bH (x8 x.1))) a1)
           λ(x_3:H5×Int)=>
           l7 (G7 (D6 x_3.2 0)) (some (Out.rt ([],x_3.2)))
            (l7 (lT 0 (L6 IntKind.i64 (x8 x.1) x_2) (x8 x.1))
             (l9 (dB (jY x.1 (bH 0) (bH (L6 IntKind.i64 (x8 x.1) x_2))) [x_3.1])
              λ(x_4:List H5)=>some (Out.nx (x_4,G9 IntKind.i64 x.2 1)))
             none))
          none))
      (some (Out.ex x.1))
def fmG(N:D8)(n:Int×Int)(p:List H5)(x:Tx)(i:Nat):Option (Out (List H5×Int) (List H5) (List UInt8×Int)):=
 some (l7 (D6 (flS n N) 0) (.nx (p++[(x.1,x.2,Fz n.1)],((i+1:Nat):Int))) (.rt ([],flS n N)))
variable {e:List (Int×Int)}{i:Nat}
theorem a1f{p args:List H5}{x:Tx}(hn:e[i]? =some n)(hi:i<=1000)(hp:p.length<=1000)(hl:args.length<=3)(ha:arF n.1=(args.length:Int))
  (hr:(n.2=0\/bW n.1=some true)->xk n args N x):fmF e N (p++args,(i:Int))=fmG N n p x i:=by
 have hx:L6 .i64 (x8 (p++args)) (arF n.1)=(p.length:Int):=by rw[dW (by unfold fE x8;simp;omega),ha];unfold x8;simp
 have r1:lT (p.length:Int) (x8 (p++args)) (x8 (p++args))=true:=by unfold lT x8;simp<;>omega
 have r2:lT 0 (p.length:Int) (x8 (p++args))=true:=by unfold lT x8;simp<;>omega
 have v1:jY (p++args) (bH (p.length:Int)) (bH (x8 (p++args)))=args:=by unfold jY bH x8;rw[E9,E9,U1 (A7 _),gW]
 have v2:jY (p++args) (bH 0) (bH (p.length:Int))=p:=by unfold jY bH;rw[E9,gY];rfl
 have main:(n.2=0\/bW n.1=some true)->(l9 (lD n.1) λ(x_2:Int)=>
         l7 (lT (L6 IntKind.i64 (x8 (p++args)) x_2) (x8 (p++args)) (x8 (p++args)))
          (l9 (O9 n (jY (p++args) (bH (L6 IntKind.i64 (x8 (p++args)) x_2)) (bH (x8 (p++args)))) N)
           λ(x_3:H5×Int)=>
           l7 (G7 (D6 x_3.2 0)) (some (Out.rt ([],x_3.2)))
            (l7 (lT 0 (L6 IntKind.i64 (x8 (p++args)) x_2) (x8 (p++args)))
             (l9 (dB (jY (p++args) (bH 0) (bH (L6 IntKind.i64 (x8 (p++args)) x_2))) [x_3.1])
              λ(x_4:List H5)=>some (Out.nx (x_4,G9 IntKind.i64 (i:Int) 1)))
             none))
          none)=fmG N n p x i:=by
  intro hu;obtain⟨c,h1,h2⟩:=hr hu;rw[a3P,o9,hx,r1,o7,v1,h2,o9,r2,v2];unfold fmG;rw[a4r h1];cases hc:D6 c 0
  .rw[o6];simp only[hc,I7,o7];rfl
  .rw[o7];simp only[V5 (rfl:(0:Int)=0),F6,o6,o7];rw[yC _ o5,o9,dC o5]
 unfold fmF;simp only[X9 hn,o7,U2,hn,o9];by_cases h0:n.2=0
 .rw[V5 h0,F6,o6];exact main (.inl h0)
 .rw[N7 h0,I7,o7];rcases a9F (k:=n.1) o5 with hu|hu
  .rw[hu,o9,F6,o6];exact main (.inr hu)
  .rw[hu,o9,I7,o7];unfold fmG;rw[a4r (b3R (k:=n.1) (m:=n.2) o5 h0 hu)];rfl
def ffS(N:D8):List (Int×Int)->Int
 |[]=>0|n::l=>l7 (D6 (flS n N) 0) (ffS N l) (flS n N)
theorem zu(N:D8):∀a b,ffS N (a++b)=l7 (D6 (ffS N a) 0) (ffS N b) (ffS N a)
 |[],b=>by rw[show ffS N []=0 from rfl,V5 rfl];rfl|n::a,b=>by
  show l7 (D6 (flS n N) 0) (ffS N (a++b)) (flS n N)=l7 (D6 (l7 (D6 (flS n N) 0) (ffS N a) (flS n N)) 0) (ffS N b) (l7 (D6 (flS n N) 0) (ffS N a) (flS n N));rw[zu N a b];cases h:D6 (flS n N) 0
  .simp only[o6,h]
  .simp only[o7]
theorem a4I(hN:NmOk N)(hI:fE n.2):(qi n N).1.length<=3000:=by
 unfold qi;have hw:=lW n.1;have g1:=yB hN.i n.2;have g2:=yB hN.d n.2;have g3:=yB hN.m n.2;have hv:((rf (n.1,0,n.2) []).getD ([],0)).1.length<=100:=by obtain⟨t,ht,hl⟩:=xJ (B:=100) o5 o5 (v:=(n.1,0,n.2)) (en:=[]) hI (λe h=>by cases h);rw[←xI [] hI,ht];exact hl
 have he:((O0 N.1 (gV .i64 n.2 16)).getD ([],[])).1.length<=1000/\(gtN ((O0 N.1 (gV .i64 n.2 16)).getD ([],[])).2 (mQ n.2 16)).length<=1000:=by
  cases hx:O0 N.1 (gV .i64 n.2 16)with
  |none=>exact⟨D5,yB (B:=1000) (λs h=>by cases h) _⟩|some e=>have:=hN.e e (lX hx).2.2.1;exact⟨this.1,yB this.2 _⟩
 cases U6 n.1 5
 case true=>simp only[o7];omega
 cases D6 n.1 6
 case true=>simp only[o7,o6];simp;omega
 cases D6 n.1 7
 case true=>simp only[o7,o6];omega
 cases D6 n.1 8
 case true=>simp only[o7,o6];omega
 cases D6 n.1 9
 case true=>simp[l7]
 cases D6 n.1 35
 case true=>simp[l7]
 .simp only[o6];simp;omega
theorem a8H(hN:NmOk N)(b:Bool)(a:Tx):(AP n N b a).1.length<=a.1.length+3000:=by
 unfold AP;have hw:=lW n.1;have hm:=Eo (mQ n.2 8);have g1:=yB hN.t n.2;have g2:=yB hN.t (gV .i64 n.2 8);have w:=Gg a 6;cases D6 n.1 33
 case true=>simp only[o7];simp;omega
 cases D6 n.1 34
 case true=>simp only[o7,o6];simp;omega
 cases D6 n.1 25
 case true=>simp only[o7,o6];simp;omega
 cases D6 n.1 10
 case true=>simp only[o7,o6];cases b<;>simp<;>omega
 .simp only[o6];simp;omega
theorem a2d(a b:Tx):(Qn n a b).1.length<=a.1.length+b.1.length+3000:=by
 unfold Qn;have hw:=lW n.1;have hm:=Eo n.2;have hs:=a2b n.1;have w1:=Gg a (l7 (D6 (Ea n.1).2 3) 4 (Ea n.1).2);have w2:=Gg b ((Ea n.1).2+1);cases a3S n.1
 case true=>simp only[o7];simp;omega
 cases a9i n.1
 case true=>simp only[o7,o6];simp;omega
 .simp only[o6];simp;omega
theorem zQ{N:D8}(hN:NmOk N):∀(t:XT),(∀n∈t.post,fE n.2)->(txT N t).1.length<=3000*t.size
 | .l0 n,h=>a4I hN (h n (by simp[XT.post]))| .l1 n a,h=>by have h1:=zQ hN a (λm hm=>h m (by simp[XT.post,hm]));have h2:=a8H (n:=n) hN (Fz a.node.1) (txT N a);simp only[txT,XT.size];omega| .l2 n a b,h=>by have h1:=zQ hN a (λm hm=>h m (by simp[XT.post,hm]));have h2:=zQ hN b (λm hm=>h m (by simp[XT.post,hm]));have h3:=a2d (n:=n) (txT N a) (txT N b);simp only[txT,XT.size];omega| .l3 n a b c,h=>by have h1:=zQ hN a (λm hm=>h m (by simp[XT.post,hm]));have h2:=zQ hN b (λm hm=>h m (by simp[XT.post,hm]));have h3:=zQ hN c (λm hm=>h m (by simp[XT.post,hm]));simp only[txT,XT.size,ifX];simp;omega
theorem jv{σ ε ρ:Type}(f:σ->Option (Out σ ε ρ))(n:Nat)(s:σ):iT f (n+1) s=match f s with|some (.nx s')=>iT f n s'|some (.ex e)=>some (.inl e)|some (.rt r)=>some (.inr r)|none=>none:=by rw[iT]<;>rfl
theorem a8h(he:e.length<=48)(hN:NmOk N)(hI:∀n∈e,fE n.2):∀(t:XT) (pre suf:List (Int×Int)) (p:List H5) (m:Nat),e=pre++t.post++suf->t.wf->p.length+t.size<=60->
  iT (fmF e N) (m+t.size) (p,(pre.length:Int))=l7 (D6 (ffS N t.post) 0) (iT (fmF e N) m (p++[pcT N t],((pre.length+t.size:Nat):Int))) (some (.inr ([],ffS N t.post))):=by
 have stepN:∀(n:Int×Int) (pre suf:List (Int×Int)) (p args:List H5) (x:Tx) (m:Nat),e=pre++[n]++suf->p.length<=60->args.length<=3->arF n.1=(args.length:Int)->((n.2=0\/bW n.1=some true)->xk n args N x)->
   iT (fmF e N) (m+1) (p++args,(pre.length:Int))=l7 (D6 (flS n N) 0) (iT (fmF e N) m (p++[(x.1,x.2,Fz n.1)],((pre.length+1:Nat):Int))) (some (.inr ([],flS n N))):=by
  intro n pre suf p args x m h1 h2 h3 h4 h5;have hn:e[pre.length]? =some n:=by rw[h1,F7,G6 (A7 _),bf];rfl
  have hlt:=(ai.1 hn).1;rw[jv,a1f hn o5 o5 h3 h4 h5];unfold fmG;cases D6 (flS n N) 0<;>rfl
 intro t;induction t with
 |l0 n=>
  intro pre suf p m h hw hs;have hI1:=hI n (by rw[h];simp[XT.post]);have:=stepN n pre suf p [] (qi n N) m h o5 D5 hw (λhu=>a8Z hN hI1 hw hu);rw[E5]at this;rw[show(XT.l0 n).size=1 from rfl,this];unfold XT.post ffS ffS;cases hf:D6 (flS n N) 0
  .simp only[o6,hf]
  .simp only[o7,V5 (rfl:(0:Int)=0)];rfl
 |l1 n a iha=>
  intro pre suf p m h hw hs;simp only[XT.post,XT.size]at h hs ⊢;have hI1:=hI n (by rw[h];simp);have hIa:∀n∈a.post,fE n.2:=λq hq=>hI q (by rw[h];simp[hq]);have hl:=zQ hN a hIa;rw[show m+(a.size+1)=(m+1)+a.size by omega,iha pre ([n]++suf) p (m+1) (by rw[h];simp) hw.2 o5,zu];cases hf:D6 (ffS N a.post) 0
  .simp only[o6,hf]
  have:=stepN n (pre++a.post) suf p [pcT N a] (AP n N (Fz a.node.1) (txT N a)) m (by rw[h];simp) o5 D5 hw.1 (λhu=>a9a hN hI1 hw.1 hu (pcT N a) (by simp only[pcT];omega));rw[show(pre++a.post).length=pre.length+a.size by simp[XT.post_len]]at this;simp only[o7];rw[this];unfold ffS ffS;cases hg:D6 (flS n N) 0
  .simp only[o6,hg]
  .simp only[o7,V5 (rfl:(0:Int)=0)];rfl
 |l2 n a b iha ihb=>
  intro pre suf p m h hw hs;simp only[XT.post,XT.size]at h hs ⊢;have hI1:=hI n (by rw[h];simp);have hIa:∀n∈a.post,fE n.2:=λq hq=>hI q (by rw[h];simp[hq]);have hIb:∀n∈b.post,fE n.2:=λq hq=>hI q (by rw[h];simp[hq]);have hla:=zQ hN a hIa;have hlb:=zQ hN b hIb;have s1:=a.size_pos;have s2:=b.size_pos;rw[show m+(a.size+b.size+1)=(m+1+b.size)+a.size by omega,iha pre (b.post++[n]++suf) p (m+1+b.size) (by rw[h];simp) hw.2.1 o5,zu,zu];cases hf:D6 (ffS N a.post) 0
  .simp only[o6,hf]
  have i2:=ihb (pre++a.post) ([n]++suf) (p++[pcT N a]) (m+1) (by rw[h];simp) hw.2.2 G5;rw[show(pre++a.post).length=pre.length+a.size by simp[XT.post_len]]at i2;simp only[o7];rw[i2];cases hf2:D6 (ffS N b.post) 0
  .simp only[o6,hf2]
  have:=stepN n (pre++a.post++b.post) suf p [pcT N a,pcT N b] (Qn n (txT N a) (txT N b)) m (by rw[h];simp) o5 D5 hw.1 (λhu=>a1M hw.1 hu (pcT N a) (pcT N b) (by simp only[pcT];omega) (by simp only[pcT];omega));rw[show(pre++a.post++b.post).length=pre.length+a.size+b.size by simp[XT.post_len];omega,show pre.length+a.size+b.size+1=pre.length+(a.size+b.size+1) by omega]at this;simp only[o7];rw[show p++[pcT N a]++[pcT N b]=p++[pcT N a,pcT N b] by simp,this];unfold ffS ffS;cases hg:D6 (flS n N) 0
  .simp only[o6,hg]
  .simp only[o7,V5 (rfl:(0:Int)=0)];rfl
 |l3 n a b c iha ihb ihc=>
  intro pre suf p m h hw hs;simp only[XT.post,XT.size]at h hs ⊢;have hI1:=hI n (by rw[h];simp);have hIa:∀n∈a.post,fE n.2:=λq hq=>hI q (by rw[h];simp[hq]);have hIb:∀n∈b.post,fE n.2:=λq hq=>hI q (by rw[h];simp[hq]);have hIc:∀n∈c.post,fE n.2:=λq hq=>hI q (by rw[h];simp[hq]);have hla:=zQ hN a hIa;have hlb:=zQ hN b hIb;have hlc:=zQ hN c hIc;have s1:=a.size_pos;have s2:=b.size_pos;have s3:=c.size_pos;have h26:=ar3 hw.1;rw[show m+(a.size+b.size+c.size+1)=(m+1+c.size+b.size)+a.size by omega,iha pre (b.post++c.post++[n]++suf) p (m+1+c.size+b.size) (by rw[h];simp) hw.2.1 o5,zu,zu,zu];cases hf:D6 (ffS N a.post) 0
  .simp only[o6,hf]
  have i2:=ihb (pre++a.post) (c.post++[n]++suf) (p++[pcT N a]) (m+1+c.size) (by rw[h];simp) hw.2.2.1 G5;rw[show(pre++a.post).length=pre.length+a.size by simp[XT.post_len]]at i2;simp only[o7];rw[i2];cases hf2:D6 (ffS N b.post) 0
  .simp only[o6,hf2]
  have i3:=ihc (pre++a.post++b.post) ([n]++suf) (p++[pcT N a]++[pcT N b]) (m+1) (by rw[h];simp) hw.2.2.2 G5;rw[show(pre++a.post++b.post).length=pre.length+a.size+b.size by simp[XT.post_len];omega]at i3;simp only[o7];rw[i3];cases hf3:D6 (ffS N c.post) 0
  .simp only[o6,hf3]
  have:=stepN n (pre++a.post++b.post++c.post) suf p [pcT N a,pcT N b,pcT N c] (ifX (txT N a) (txT N b) (txT N c)) m (by rw[h];simp) o5 D5 hw.1 (λhu=>by obtain⟨k,v⟩:=n;simp only at h26 hu;subst h26;exact a1N hu (pcT N a) (pcT N b) (pcT N c) (by simp only[pcT];omega) (by simp only[pcT];omega) (by simp only[pcT];omega))
  rw[show(pre++a.post++b.post++c.post).length=pre.length+a.size+b.size+c.size by simp[XT.post_len];omega,show pre.length+a.size+b.size+c.size+1=pre.length+(a.size+b.size+c.size+1) by omega]at this;simp only[o7];rw[show p++[pcT N a]++[pcT N b]++[pcT N c]=p++[pcT N a,pcT N b,pcT N c] by simp,this];unfold ffS ffS;cases hg:D6 (flS n N) 0
  .simp only[o6,hg]
  .simp only[o7,V5 (rfl:(0:Int)=0)];rfl
def EZ(e:List (Int×Int))(N:D8):List UInt8×Int:=match oV e with
 | .inl x=>([],x.2)| .inr t=>l7 (D6 (ffS N e) 0) ((txT N t).1,0) ([],ffS N e)
theorem a4v(hN:NmOk N)(hI:∀n∈e,fE n.2):gZ e N=some (EZ e N):=by
 unfold gZ tV EZ;rw[Bq];unfold yU;cases h:oV e with
 |inl x=>simp only[o9,N7 (Az h)];rfl|inr t=>
  obtain⟨h1,h2,h3,h4⟩:=XE h;obtain⟨hp,-⟩:=wC h;simp only[o9,V5 (rfl:(0:Int)=0),F6,o6];have hl:S9 (fmF e N) ([],0)=some (l7 (D6 (ffS N e) 0) (.inl [pcT N t]) (.inr ([],ffS N e))):=by
   unfold S9;rw[show fQ=(fQ -t.size)+t.size by unfold fQ;omega];have:=a8h h2 hN hI t [] [] [] (fQ -t.size) (by simp[←hp]) (OQ h) G5;rw[show(([]:List (Int×Int)).length:Int)=0 from rfl]at this;rw[this,←hp];cases D6 (ffS N e) 0
   .rfl
   .simp only[o7];rw[show fQ -t.size=(fQ -t.size -1)+1 by unfold fQ;omega];rw[jv];unfold fmF;simp only[O7,dH];rw[←h3,show J4 ((e.length:Nat):Int) (x8 e)=false from Y6 e];rfl
  refine X7 hl ?_;rw[o9];cases D6 (ffS N e) 0<;>rfl
theorem a1g(hN:NmOk N)(hI:∀n∈e,fE n.2):(EZ e N).1.length<=150000:=by
 unfold EZ;cases h:oV e with
 |inl x=>simp|inr t=>
  obtain⟨hp,h48⟩:=wC h;have:=zQ hN t (by rw[←hp];exact hI);rw[←t.post_len,←hp]at this;simp only;cases D6 (ffS N e) 0
  .simp[l7]
  .simp only[o7];omega
theorem XI{a:List P5}(h:a.length<=1000000)(h2:∀e∈a,e.2.length<=1000000):vT a=some a:=by
 unfold vT;refine X7 (n_ a (λe=>e) h (F:=λx=>x) (λi e acc he hi=>?_) (λacc=>?_)) ?_
 rotate_left 2
 .rw[o9,List.map_id']
 .have hlt:=(ai.1 he).1;simp only[X9 he,o7,U2,he,o9,ZQ (h2 e (wJ he))];rw[yC _ o5];rfl
 .simp only[Y6 a,o6]
theorem NZ{l:List dK}(h:l.length<=1000000):kW l=some (l.map (·.1)):=by
 unfold kW;refine X7 (n_ l (λ(f:dK)=>f.1) h (F:=λx=>x) (λi e acc he hi=>?_) (λacc=>?_)) ?_
 rotate_left 2
 .rfl
 .have hlt:=(ai.1 he).1;simp only[X9 he,o7,U2,he,o9];rw[yC _ o5];rfl
 .simp only[Y6 l,o6]
def nmS(l:aG)(s:H8):D8:=(l.1,l.2.1.map (·.1),s.2.2.1.map (·.1),s.2.2.2.1.map (·.1),l7 (U6 0 s.2.1) (match O0 l.2.2 s.2.1 with|some q=>q.2.2.2.1.map (·.1)|none=>[]) [])
structure NmL (l:aG):Prop where
 ne:l.1.length<=9
 nt:l.2.1.length<=9
 e:∀e∈l.1,e.2.length<=20/\e.1.length<=80/\∀m∈e.2,m.length<=80
 t:∀t∈l.2.1,t.1.length<=80
 s:∀s∈l.2.2,s.2.2.1.length<=14/\s.2.2.2.1.length<=14/\s.2.2.2.2.length<=96/\(∀f∈s.2.2.1,f.1.length<=80)/\(∀f∈s.2.2.2.1,f.1.length<=80)/\∀r∈s.2.2.2.2,r.1.length<=80
variable {l:aG}
theorem b8V(h:NmL l){s:H8}(hs:s∈l.2.2):NmOk (nmS l s):=by
 obtain⟨s1,s2,s3,s4,s5,s6⟩:=h.s s hs;refine⟨λe he=>?_,λx hx=>?_,λx hx=>?_,λx hx=>?_,λx hx=>?_⟩
 .have:=h.e e he;exact⟨o5,λm hm=>by have:=this.2.2 m hm;omega⟩
 .obtain⟨t,ht,rfl⟩:=az.1 hx;have:=h.t t ht;omega
 .obtain⟨f,hf,rfl⟩:=az.1 hx;have:=s4 f hf;omega
 .obtain⟨f,hf,rfl⟩:=az.1 hx;have:=s5 f hf;omega
 .unfold nmS at hx;simp only at hx;cases g:U6 0 s.2.1<;>rw[g]at hx
  .cases hx
  .simp only[o7]at hx;split at hx
   .rename_i q hq;obtain⟨f,hf,rfl⟩:=az.1 hx;have:=(h.s q (lX hq).2.2.1).2.2.2.2.1 f hf;omega
   .cases hx
theorem a3p(h:NmL l){s:H8}(hs:O0 l.2.2 k=some s):ku l k=some (nmS l s):=by
 obtain⟨k0,k1,hm,-⟩:=lX hs;obtain⟨s1,s2,-⟩:=h.s s hm;have nt:=h.nt;unfold ku;rw[X3 k0,dP k1,o6,o6,o9,W9,hs,o9,NZ o5,o9,NZ o5,o9];refine vV l.2.1 (λ(b:D8) (t:V4)=>((b.1,b.2.1++[t.1],b.2.2):D8)) (λb i=>(b,i)) (λb=>b) (λi b=>b.2.1.length=i) (l.1,[],s.2.2.1.map (·.1),s.2.2.2.1.map (·.1),[]) o5 rfl (λi t b hx hi hI=>?_) (λb _=>?_) (λ_=>?_)
 .have hlt:=(ai.1 hx).1;simp only[X9 hx,o7,U2,hx,o9];rw[yC _ o5,o9,dC o5];exact⟨rfl,by simp;omega⟩
 .simp only[Y6 l.2.1,o6]
 .have e:∀(L:List V4) (b:D8),L.foldl (λ(b:D8) (t:V4)=>((b.1,b.2.1++[t.1],b.2.2):D8)) b=(b.1,b.2.1++L.map (·.1),b.2.2):=by
   intro L;induction L with
   |nil=>intro b;simp|cons t L ih=>intro b;rw[aT,ih];simp
  rw[e];unfold nmS;cases g:U6 0 s.2.1
  .simp[l7]
  .by_cases g2:s.2.1<x8 l.2.2
   .obtain⟨q,hq,hmq⟩:=um (iJ.1 g) g2;have:=(h.s q hmq).2.1;rw[bu g2,hq];simp only[o7,o9];rw[NZ o5,o9];simp
   .rw[X3 (qQ.1 g2)];have:O0 l.2.2 s.2.1=none:=by
     cases hq:O0 l.2.2 s.2.1 with
     |none=>rfl|some q=>exact absurd (lX hq).2.1 g2
    rw[this];simp[l7]
theorem a4R(h:NmL l){s:H8}(hs:O0 l.2.2 k=some s):jE l k=some (nmS l s):=by rw[IP (XI (by have:=h.ne;omega) (λe he=>by have:=(h.e e he).1;omega)) k];exact a3p h hs
variable {s:List UInt8}
theorem Sv(P:UInt8->Bool){f:Int->Option (Int⊕Int)}(hl:s.length<=1000000)
  (h1:∀(i:Nat) (c:UInt8),s[i]? =some c->f (i:Int)=some (l7 (P c) (.inl ((i+1:Nat):Int)) (.inr (i:Int)))) (h2:∀i:Nat,s.length<=i->f (i:Int)=some (.inr (i:Int))) (a:Nat):
  dD f (a:Int)=some (((a+((s.drop a).takeWhile P).length:Nat)):Int):=by
 have key:∀(n a k:Nat),s.length -a<=n->n<k->xN f k (a:Int)=some (((a+((s.drop a).takeWhile P).length:Nat)):Int):=by
  intro n;induction n with
  |zero=>intro a k h hk;obtain⟨k,rfl⟩:∃m,k=m+1:=⟨k -1,o5⟩;rw[Og (h2 a o5),au o5];rfl
  |succ n ih=>
   intro a k h hk;obtain⟨k,rfl⟩:∃m,k=m+1:=⟨k -1,o5⟩;by_cases hlt:a<s.length
   .have hc:=mW hlt;have:=h1 a _ hc;rw[bY hlt];cases hp:P s[a]
    .rw[hp,o6]at this;rw[Og this,List.takeWhile_cons_of_neg (by rw[hp];simp)];rfl
    .rw[hp,o7]at this;rw[a2R this,ih (a+1) k o5 o5,mG hp];congr 2;simp only[D9];omega
   .rw[Og (h2 a o5),au o5];rfl
 exact key (s.length -a) a fQ o5 (by unfold fQ;omega)
theorem A_(h:s.length<=1000000):nC s=some ((s.takeWhile zf).length:Int):=by
 unfold nC;have:=Sv zf h (f:=λ(x:Int)=>l7 (J4 x (x8 s)) (l9 (sat s x) λx_1=>l9 (kJ x_1) λx_2=>l7 x_2 (some (Sum.inl (G9 IntKind.i64 x 1)))
   (l9 (sat s x) λx_3=>l9 (fG x_3) λx_4=>l7 x_4 (some (Sum.inl (G9 IntKind.i64 x 1))) (l9 (sat s x) λx_5=>l7 (D6 x_5 95) (some (Sum.inl (G9 IntKind.i64 x 1))) (some (Sum.inr x))))) (some (Sum.inr x)))
  (λi c hc=>by have hlt:=(ai.1 hc).1;simp only[X9 hc,o7,yS,hc,dA,o9,Ib,Ee,a9R];rw[dC o5];have hw:zf c=(Oh c || zh c || decide (c.toNat=95)):=rfl;rw[hw];cases Oh c<;>cases zh c<;>cases decide (c.toNat=95)<;>rfl)
  (λi hi=>by rw[X3 (by unfold x8;omega)];rfl) 0
 rw[bF];rw[show((0:Nat):Int)=0 from rfl]at this;rw[this];simp
theorem Ah(h:s.length<=1000000)(a:Nat)(ha:a<=1000000):iW s (a:Int)=some (((s.drop a).takeWhile zh).length:Int):=by
 unfold iW;have:=Sv zh h (f:=λ(x:Int)=>
   l7 (J4 x (x8 s))
    (l9 (sat s x) λ(x_1:Int)=>
     l9 (fG x_1) λ(x_2:Bool)=>
      l7 x_2 (some (Sum.inl (G9 IntKind.i64 x 1))) (some (Sum.inr x)))
    (some (Sum.inr x)))
  (λi c hc=>by have hlt:=(ai.1 hc).1;simp only[X9 hc,o7,yS,hc,dA,o9,Ee];rw[dC o5];cases zh c<;>rfl)
  (λi hi=>by rw[X3 (by unfold x8;omega)];rfl) a
 refine X7 this ?_;have hl:((s.drop a).takeWhile zh).length<=1000000:=by have:=(jc zh (l:=s.drop a)).length_le;simp at this;omega
 rw[o9,dW dm];congr 1;omega
theorem b3g(c:UInt8)(k:Nat)(hk:k<256):D6 (c.toNat:Int) (k:Int)=decide (c=UInt8.ofNat k):=by
 unfold D6;rw[decide_eq_decide];constructor
 .intro h;apply UInt8.toNat_inj.1;rw[UInt8.toNat_ofNat'];omega
 .intro h;have:=congrArg UInt8.toNat h;rw[UInt8.toNat_ofNat']at this;omega
abbrev b3j:Type:=Int×List UInt8×Int
variable {c:UInt8}
theorem VW(h:zh c=true):48<=c.toNat/\c.toNat<=57:=by unfold zh at h;simp at h;omega
def uP(v:Nat)(l:List UInt8):Nat:=l.foldl (λa c=>10*a+(c.toNat -48)) v
theorem a2g:∀(l:List UInt8) (v:Nat),v<=uP v l
 |[],v=>A7 _|c::l,v=>by have:=a2g l (10*v+(c.toNat -48));unfold uP at this ⊢;rw[aT];omega
theorem a7P(a b:List UInt8)(v:Nat):uP v (a++b)=uP (uP v a) b:=by unfold uP;rw[List.foldl_append]
def Dg(l:List UInt8):Prop:=∀c∈l,zh c=true
theorem OD(h:s[i]? =some c)(hc:c.toNat<128):ng s (i:Int)=(c.toNat:Int)/\wB s (i:Int)=((i+1:Nat):Int):=by
 have hlt:=(ai.1 h).1;have hg:(ByteArray.mk s.toArray).get! i=c:=by
  unfold ByteArray.get!;have:(s.toArray)[i]! =c:=by simp[h]
  exact this
 have hd:Utf8.decode ⟨s.toArray⟩ i=(c.toNat,1):=by unfold Utf8.decode;simp only[Z8,hg];rw[if_pos o5]
 unfold ng wB;rw[E9,hd];refine⟨rfl,D5⟩
def npF(p:Int)(x:Int×Bool×List UInt8×Int):Option (Out (Int×Bool×List UInt8×Int) (Int×Bool) (Int×Int)):=
        l7 (J4 x.2.2.2 (x8 x.2.2.1))
         (l7 (D6 x.2.2.2 p)
          (l7 (G7 (D6 (ng x.2.2.1 x.2.2.2) 46)) (some (Out.rt (0,2)))
           (some (Out.nx (x.1,x.2.1,x.2.2.1,wB x.2.2.1 x.2.2.2))))
          (l9 (mf (ng x.2.2.1 x.2.2.2)) λ(x_3:Bool)=>
           l7 (G7 x_3) (some (Out.rt (0,2)))
            (l7 x.2.1 (some (Out.nx (x.1,true,x.2.2.1,wB x.2.2.1 x.2.2.2)))
             (l7 (J4 461168601842738790 x.1)
              (some (Out.nx (x.1,true,x.2.2.1,wB x.2.2.1 x.2.2.2)))
              (some
               (Out.nx
                (G9 IntKind.i64 (KD IntKind.i64 x.1 10)
                  (wrap IntKind.i64 (L6 IntKind.i32 (ng x.2.2.1 x.2.2.2) 48)),
                 J4 4611686018427387904
                  (G9 IntKind.i64 (KD IntKind.i64 x.1 10)
                   (wrap IntKind.i64 (L6 IntKind.i32 (ng x.2.2.1 x.2.2.2) 48))),
                 x.2.2.1,wB x.2.2.1 x.2.2.2)))))))
         (some (Out.ex (x.1,x.2.1)))
def NoZ(d:List UInt8):Prop:=1<d.length->∀c t,d=c::t->c≠48
theorem a9Y(y:Int):∀(n:Nat) (d:Int),n<=12->0<=d->d<rem y n->
  xq y (12 -n)+d=xq y ((mo y n d).2 -1).toNat+(mo y n d).1
 |0,d,_,h0,h=>by simp[rem]at h;omega|n+1,d,hn,h0,h=>by
  have e:dim y (12 -(n:Int))=dim y (((12 -(n+1):Nat):Int)+1):=by congr 1;omega
  have hs:xq y (12 -n)=xq y (12 -(n+1))+dim y (12 -(n:Int)):=by rw[e,show 12 -n=(12 -(n+1))+1 by omega];rfl
  rw[Wy];by_cases hd:d<dim y (12 -(n:Int))
  .rw[if_pos hd];show xq y (12 -(n+1))+d=xq y (12 -(n:Int) -1).toNat+d;congr 2;omega
  .rw[if_neg hd];have h2:d -dim y (12 -(n:Int))<rem y n:=by
    have e2:rem y (n+1)=dim y (12 -(n:Int))+rem y n:=rfl;omega
   have:=a9Y y n (d -dim y (12 -(n:Int))) o5 o5 h2;omega
theorem a8o{n:Int}(h:0<=n):Lib.itoa n=Lib.decDigits n.toNat:=by unfold Lib.itoa;rw[if_neg o5]
def ddF(x:Int×List UInt8×Int):Option (Out (Int×List UInt8×Int) Int (Int×Bool)):=
   l7 (J4 x.2.2 (x8 x.2.1))
    (l7 (J4 (ng x.2.1 x.2.2) 48) (some (Out.rt (0,false)))
     (l7 (J4 57 (ng x.2.1 x.2.2)) (some (Out.rt (0,false)))
      (some
       (Out.nx
        (G9 IntKind.i64 (KD IntKind.i64 x.1 10)
          (wrap IntKind.i64 (L6 IntKind.i32 (ng x.2.1 x.2.2) 48)),
         x.2.1,wB x.2.1 x.2.2)))))
    (some (Out.ex x.1))
def prB(c:UInt8):Bool:=decide (32<=c.toNat)&&decide (c.toNat<=126)
def tkF(a0:List UInt8)(x:List bV×Int):Option (Out (List bV×Int) (List bV) (List bV×Int×Int)):=
     l7 (J4 x.2 (x8 a0))
      (l9 (fO a0 x.2 (x8 a0)) λ(x_1:List UInt8)=>
       l9 (Cc x_1) λ(x_2:bV×I9)=>
        l7 (G7 (D6 x_2.2.2 0)) (some (Out.rt ([],x.2,x_2.2.2)))
         (l9 (dB x.1 [(x_2.1.1,x_2.1.2.1,x_2.1.2.2.1,x.2)]) λ(x_3:List bV)=>
          l9 (zB a0 (G9 IntKind.i64 x.2 x_2.2.1)) λ(x:Int)=>some (Out.nx (x_3,x))))
      (some (Out.ex x.1))
def b0r(x:bV):b3j:=(x.1,x.2.1,x.2.2.1)
def pk(T:List bV)(i:Nat):bV:=(T[i]?).getD (0,[],0,0)
def a8s(k:Int):Int:=l7 (D6 k 2) 2 (l7 (D6 k 3) 3 (l7 (D6 k 4) 4 0))
theorem a1s(t:bV):kM t=some (a8s t.1):=by unfold kM a8s;cases D6 t.1 2<;>cases D6 t.1 3<;>cases D6 t.1 4<;>rfl
def b8L(t:b3j):Prop:=t=(0,[],0)\/t=(7,[41],0)\/t=(7,[44],0)\/t=(1,[116,104,101,110],0)\/t=(1,[101,108,115,101],0)
theorem a8N{t:bV}(h:b8L (b0r t)):jP t=some (0,0):=by
 obtain⟨a,b,c,d⟩:=t;unfold b0r at h;have key:∀(a:Int) (b:List UInt8),(a,b)∈([(0,[]),(7,[41]),(7,[44]),(1,[116,104,101,110]),(1,[101,108,115,101])]:List (Int×List UInt8))->jP (a,b,c,d)=some (0,0):=by intro a b h;simp only[C9,jr,List.mem_nil_iff,or_false]at h;rcases h with⟨rfl,rfl⟩|⟨rfl,rfl⟩|⟨rfl,rfl⟩|⟨rfl,rfl⟩|⟨rfl,rfl⟩<;>rfl
 apply key;rcases h with h|h|h|h|h<;>cases h<;>decide
def cwF(w:List UInt8)(x:Int):Option (Out Int PUnit Int):=
   l7 (U6 x 39)
    (l7 (G7 (seq w []))
     (l9 (iF x) λ(x_1:List UInt8)=>
      l7 (seq x_1 w) (some (Out.rt x)) (some (Out.nx (G9 IntKind.i64 x 1))))
     (some (Out.nx (G9 IntKind.i64 x 1))))
    (some (Out.ex PUnit.unit))
def a9I(l:List (List UInt8))(j:Nat)(w:List UInt8):Prop:=l[j]? =some w/\∀x∈l.take j,x≠w
theorem a4C(l:List α)(p:α->Bool)(hl:l.length<=1000000){f:Int->Option (Out Int PUnit Int)}
  (h1:∀(i:Nat) (a:α),l[i]? =some a->f (i:Int)=some (l7 (p a) (.rt (i:Int)) (.nx ((i+1:Nat):Int)))) (h2:f (l.length:Int)=some (.ex PUnit.unit)):
  (∀j a,l[j]? =some a->p a=true->(∀x∈l.take j,p x=false)->S9 f 0=some (.inr (j:Int)))/\((∀x∈l,p x=false)->S9 f 0=some (.inl PUnit.unit)):=by
 have step:∀(j i k:Nat),i<=j->j<=l.length->(∀x∈l.take j,p x=false)->iT f (k+(j -i)) (i:Int)=iT f k (j:Int):=by
  intro j i k hij hj hp;induction h:j -i generalizing i k with
  |zero=>rw[show i=j by omega];rfl|succ n ih=>
   have hi:i<l.length:=o5;have hg:=mW hi;have:=h1 i _ hg;rw[hp l[i] (by rw[List.mem_take_iff_getElem];exact⟨i,o5,rfl⟩),o6]at this
   rw[show k+(n+1)=(k+n)+1 by omega,jv,this];exact ih (i+1) k o5 o5
 constructor
 .intro j a ha hpa hp;have hj:=(ai.1 ha).1;have:=step j 0 (fQ -j) o5 o5 hp;rw[show fQ -j+(j -0)=fQ by unfold fQ;omega]at this;unfold S9;rw[show(0:Int)=((0:Nat):Int)from rfl,this,show fQ -j=(fQ -j -1)+1 by unfold fQ;omega,jv,h1 j a ha,hpa];rfl
 .intro hp;have:=step l.length 0 (fQ -l.length) o5 o5 (λx hx=>hp x (mM hx));rw[show fQ -l.length+(l.length -0)=fQ by unfold fQ;omega]at this;unfold S9;rw[show(0:Int)=((0:Nat):Int)from rfl,this,show fQ -l.length=(fQ -l.length -1)+1 by unfold fQ;omega,jv,h2]
theorem a1l{l:List (List UInt8)}(hl:l.length<=1000000)(w:List UInt8):(∀j,a9I l j w->bg l w=some (j:Int))/\((∀x∈l,x≠w)->bg l w=some (-1)):=by
 unfold bg;obtain⟨k1,k2⟩:=a4C l (λx=>seq w x) hl (f:=λ(x:Int)=>l7 (J4 x (x8 l)) (l9 (O0 l x) λ(x_1:List UInt8)=>l7 (seq w x_1) (some (Out.rt x)) (some (Out.nx (G9 IntKind.i64 x 1)))) (some (Out.ex PUnit.unit)))
  (λi a ha=>by have:=(ai.1 ha).1;simp only[X9 ha,o7,U2,ha,o9];rw[dC o5];cases seq w a<;>rfl) (by rw[Y6];rfl)
 constructor
 .intro j hj;refine X7 (k1 j w hj.1 (dU.2 rfl) (λx hx=>WZ.2 (λe=>hj.2 x hx e.symm))) ?_;rfl
 .intro h;refine X7 (k2 (λx hx=>WZ.2 (λe=>h x hx e.symm))) ?_;rfl
theorem b8Y(m:Nat)(p:x9):(o8 (m+1)).1 p=mi (o8 m).1 (o8 m).2.1 (o8 m).2.2.1 (o8 m).2.2.2.1 (o8 m).2.2.2.2 p:=rfl
theorem b8Z(m:Nat)(p:x9):(o8 (m+1)).2.2.1 p=qA (o8 m).1 (o8 m).2.1 (o8 m).2.2.1 (o8 m).2.2.2.1 (o8 m).2.2.2.2 p:=rfl
theorem b8W(m:Nat)(p:x9):(o8 (m+1)).2.2.2.1 p=qK (o8 m).1 (o8 m).2.1 (o8 m).2.2.1 (o8 m).2.2.2.1 (o8 m).2.2.2.2 p:=rfl
theorem b8X(m:Nat)(p:x9)(op:Int):(o8 (m+1)).2.2.2.2 p op=qL (o8 m).1 (o8 m).2.1 (o8 m).2.2.1 (o8 m).2.2.2.1 (o8 m).2.2.2.2 p op:=rfl
def biF(r207:x9->Int->Option (Bool×x9))(a1:Int)(x:x9×Int):Option (Out (x9×Int) PUnit (Bool×x9)):=
     l9 (Y8 x.1 0) λ(x_1:bV×x9)=>
      l9 (jP x_1.1) λ(x_2:I9)=>
       l9
        (l7 (D6 x_2.1 0) (some (Sum.inr (true,x_1.2)))
         (l7 (J4 x_2.2 a1) (some (Sum.inr (true,x_1.2)))
          (l7 (J4 x.2 x_2.2) (some (Sum.inr (true,x_1.2))) (some (Sum.inl PUnit.unit)))))
        λ(o:PUnit⊕Bool×x9)=>
        aj o
         (λ(x:PUnit)=>
          l9 (r207 (x_1.2.1,G9 IntKind.i64 x_1.2.2.1 1,x_1.2.2.2) (G9 IntKind.i64 x_2.2 1))
           λ(x:Bool×x9)=>
           l7 (G7 x.1) (some (Out.rt (false,x.2)))
            (l9 (H6 x.2 x_2.1 0) λ(x:Bool×x9)=>
             l7 (D6 x_2.2 3) (some (Out.nx (x.2,L6 IntKind.i64 x_2.2 1)))
              (some (Out.nx (x.2,x_2.2)))))
         λ(r:Bool×x9)=>some (Out.rt r)
theorem b3S(m:Nat)(p:x9)(c:Int):(o8 (m+1)).2.1 p c=l9 ((o8 m).2.2.1 p) λ(x:Bool×x9)=>l7 (G7 x.1) (some (false,x.2)) (l9 (S9 (biF (o8 m).2.1 c) (x.2,5)) λ(o:PUnit⊕Bool×x9)=>aj o (λ(y:PUnit)=>none) λ(r:Bool×x9)=>some r):=rfl
theorem N_(h:∃k,lF s N=some (e,k,0)):gZ e N=some (s,0):=by
 obtain⟨k,h⟩:=h;unfold lF at h;cases h1:vU s with
 |none=>rw[h1]at h;cases h|some x=>
  rw[h1,o9]at h;cases h2:G7 (D6 x.2.2 0)<;>rw[h2]at h
  case true=>rw[o7]at h;have:=congrArg (λo:Option (List I9×I9)=>(o.getD ([],(0,1))).2.2) h;simp only[Y2]at this;rw[V5 this]at h2;cases h2
  rw[o6]at h;obtain⟨p,_,h⟩:=zD h
  try dsimp only at h
  cases h3:G7 (D6 p.2.2.2.2.2.2 0)<;>rw[h3]at h
  case true=>rw[o7]at h;have:=congrArg (λo:Option (List I9×I9)=>(o.getD ([],(0,1))).2.2) h;simp only[Y2]at this;rw[V5 this]at h3;cases h3
  rw[o6]at h;cases h4:tV p.2.2.2.2.1 with
  |none=>rw[h4]at h;cases h|some y=>
   rw[h4,o9]at h;cases h5:G7 (D6 y.2 0)<;>rw[h5]at h
   case true=>rw[o7]at h;have:=congrArg (λo:Option (List I9×I9)=>(o.getD ([],(0,1))).2.2) h;simp only[Y2]at this;rw[V5 this]at h5;cases h5
   rw[o6]at h;cases h6:gZ p.2.2.2.2.1 N with
   |none=>rw[h6]at h;cases h|some z=>
    rw[h6,o9]at h;cases h7:G7 (D6 z.2 0)<;>rw[h7]at h
    case true=>exact absurd (show(2:Int)=0 from congrArg (λo:Option (List I9×I9)=>(o.getD ([],(0,1))).2.2) h) H7
    rw[o6]at h;cases h8:G7 (seq z.1 s)<;>rw[h8]at h
    case true=>exact absurd (show(2:Int)=0 from congrArg (λo:Option (List I9×I9)=>(o.getD ([],(0,1))).2.2) h) H7
    rw[o6]at h;have he:p.2.2.2.2.1=e:=congrArg (λo:Option (List I9×I9)=>(o.getD ([],(0,1))).1) h;rw[he]at h6;rw[h6];have hz1:z.1=s:=by
     cases hq:seq z.1 s<;>rw[hq]at h8
     .exact absurd h8 H7
     .exact dU.1 hq
    have hz2:z.2=0:=by
     cases hq:D6 z.2 0<;>rw[hq]at h7
     .exact absurd h7 H7
     .exact X8.1 hq
    rw[←hz1,←hz2]
theorem b3B{ρ:Type}{n:Nat}{p:Nat->Option ρ}(h:∀r,dF n p≠some r):∀i,i<n->p i=none:=by
 cases hf:dF n p with
 |some r=>exact absurd hf (h r)|none=>exact uj hf
theorem a8f{k i:Int}{r:Int×Int}(h:LH k i r=none):r.1=0:=by
 unfold LH at h;cases he:D6 r.1 0<;>rw[he]at h
 .cases h
 .exact X8.1 he
theorem a2f(h:(oH l).1=0){j:Nat}{e:P5}(he:l.1[j]? =some e):tC e.1=true/\(∀x∈l.1.take j,x.1≠e.1)/\e.2.length<=16/\∀(i:Nat) m,e.2[i]? =some m->tC m=true/\∀x∈e.2.take i,x≠m:=by
 unfold oH at h;cases h1:D6 (BU l).1 0<;>rw[h1]at h
 .simp only[o6]at h;rw[V5 h]at h1;cases h1
 have h1:=X8.1 h1;unfold BU at h1;cases h2:J4 8 (x8 l.1)<;>rw[h2]at h1
 case true=>exact absurd (show(4:Int)=0 from h1) H7
 simp only[o6]at h1;have hn:=b3B (n:=l.1.length) (p:=LD l) (λr hf=>by
  rw[hf]at h1;obtain⟨j,_,hj⟩:=pU hf;unfold LD at hj;split at hj
  .exact NV hj h1
  .cases hj) j (ai.1 he).1
 unfold LD at hn;rw[he]at hn;have hz:=a8f hn;unfold UQ at hz;cases g1:tC e.1<;>rw[g1]at hz
 .exact absurd (show(2:Int)=0 from hz) H7
 cases g2:CY l 1 j e.1<;>rw[g2]at hz
 case true=>exact absurd (show(7:Int)=0 from hz) H7
 cases g3:D6 (x8 e.2) 0<;>rw[g3]at hz
 case true=>exact absurd (show(5:Int)=0 from hz) H7
 cases g4:J4 16 (x8 e.2)<;>rw[g4]at hz
 case true=>exact absurd (show(4:Int)=0 from hz) H7
 simp only[o7,o6]at hz;have hmem:∀i<e.2.length,Qd e.2 i=none:=by
  intro i hi;cases hf:(List.range e.2.length).findSome? (Qd e.2)with
  |none=>exact mF.1 hf i (dX.2 hi)|some r=>
   exfalso;rw[hf]at hz;obtain⟨q,_,hq⟩:=List.exists_of_findSome?_eq_some hf;unfold Qd at hq;cases hv:e.2[q]? with
   |none=>rw[hv]at hq;cases hq|some x=>
    rw[hv]at hq;simp only at hq;cases k1:tC x<;>rw[k1]at hq
    .cases hq;exact absurd (show(2:Int)=0 from hz) H7
    .cases k2:(e.2.take q).any λy=>seq x y<;>rw[k2]at hq
     .cases hq
     .cases hq;exact absurd (show(7:Int)=0 from hz) H7
 refine⟨rfl,λx hx e2=>?_,a8l (n:=16) g4,λi m hm=>?_⟩
 .unfold CY at g2;simp only[ul]at g2;exact g2 x hx (dU.2 e2)
 have hi:=(ai.1 hm).1;have hp:=hmem i hi;unfold Qd at hp;rw[hm]at hp;simp only at hp;cases k1:tC m<;>rw[k1]at hp
 .cases hp
 cases k2:(e.2.take i).any λy=>seq m y<;>rw[k2]at hp
 .refine⟨rfl,λx hx e=>?_⟩;have:=ul.1 k2 x hx;exact this (dU.2 e.symm)
 .cases hp
theorem UT{c e:Int}(h:NT c e=none):c=0:=by
 unfold NT at h;cases he:D6 c 0<;>rw[he]at h
 .cases h
 .exact X8.1 he
theorem KJ{l:List α}{a:α}(h:a∈l):∃j:Nat,l[j]? =some a:=by obtain⟨j,hj,e⟩:=aY h;exact⟨j,by rw[mW hj,e]⟩
def mV:List (List UInt8)->List UInt8
 |[]=>[]|w::L=>w++10::mV L
theorem qP:∀A B:List (List UInt8),mV (A++B)=mV A++mV B
 |[],B=>rfl|w::A,B=>by rw[J9];simp only[mV];rw[qP A B];simp
def spF(a0:List UInt8)(x:List (List UInt8)×Int×List UInt8×Int):Option (Out (List (List UInt8)×Int×List UInt8×Int) (List (List UInt8)×Int) (List (List UInt8)×Int)):=
     l7 (J4 x.2.2.2 (x8 x.2.2.1))
      (l7 (D6 (ng x.2.2.1 x.2.2.2) 10)
       (l9 (fO a0 x.2.1 x.2.2.2) λ(x_1:List UInt8)=>
        l9 (dB x.1 [x_1]) λ(x_2:List (List UInt8))=>
         some (Out.nx (x_2,G9 IntKind.i64 x.2.2.2 1,x.2.2.1,wB x.2.2.1 x.2.2.2)))
       (l7 (D6 (ng x.2.2.1 x.2.2.2) 9) (some (Out.nx (x.1,x.2.1,x.2.2.1,wB x.2.2.1 x.2.2.2)))
        (l7 (U6 32 (ng x.2.2.1 x.2.2.2))
         (l7 (U6 (ng x.2.2.1 x.2.2.2) 126) (some (Out.nx (x.1,x.2.1,x.2.2.1,wB x.2.2.1 x.2.2.2)))
          (some (Out.rt ([],2))))
         (some (Out.rt ([],2))))))
      (some (Out.ex (x.1,x.2.1)))
theorem b3U(h:prB c=true):32<=c.toNat/\c.toNat<=126:=by unfold prB at h;simpa using h
theorem a2h(n:Int):fE (IntKind.wrap .i64 n):=by unfold fE IntKind.wrap;simp[IntKind.signed,IntKind.bits];omega
theorem Wj(a b:Int):fE (G9 .i64 a b):=a2h _
theorem a1o(a b:Int):fE (L6 .i64 a b):=a2h _
theorem oq:fE 0:=by unfold fE;omega
def Asc(s:List UInt8):Prop:=∀c∈s,c.toNat<128
theorem XD(h:Asc s)(i:Nat):Asc (s.drop i):=λc hc=>h c (List.mem_of_mem_drop hc)
theorem YZ(hl:s.length<=1000000)(hi:i<=s.length):∃j:Nat,zB s (i:Int)=some (j:Int)/\i<=j/\j<=s.length:=by
 unfold zB;have:=jw (f:=λ(x:Int×Bool)=>
   l7 (J4 x.1 (x8 s))
    (l9 (sat s x.1) λ(x_1:Int)=>
     l7 x.2 (l7 (D6 x_1 10) (some (Out.rt x.1)) (some (Out.nx (G9 IntKind.i64 x.1 1,x.2))))
      (l7 (D6 x_1 35) (some (Out.nx (G9 IntKind.i64 x.1 1,true)))
       (l7 (G7 (D6 x_1 32))
        (l7 (G7 (D6 x_1 9)) (some (Out.rt x.1)) (some (Out.nx (G9 IntKind.i64 x.1 1,x.2))))
        (some (Out.nx (G9 IntKind.i64 x.1 1,x.2))))))
    (some (Out.ex x.1))) (s:=((i:Int),false)) (λx=>∃j:Nat,x.1=(j:Int)/\i<=j/\j<=s.length) (λe=>∃j:Nat,e=(j:Int)/\i<=j/\j<=s.length) (λe=>∃j:Nat,e=(j:Int)/\i<=j/\j<=s.length) (λx=>s.length -x.1.toNat) ⟨i,rfl,o5,hi⟩ G5 (by
  rintro⟨x,b⟩ ⟨j,hj,h1,h2⟩;simp only at hj;subst hj;by_cases hlt:j<s.length
  .have hc:=mW hlt;have nx:∀b' :Bool,∃s',(some (Out.nx (G9 IntKind.i64 (j:Int) 1,b')):Option (Out (Int×Bool) Int Int))=some (.nx s')/\(∃j' :Nat,s'.1=(j' :Int)/\i<=j' /\j' <=s.length)/\s.length -s'.1.toNat<s.length -((j:Int)).toNat:=
    λb' =>⟨_,rfl,⟨j+1,by simp only;rw[dC o5],o5,hlt⟩,by simp only;rw[dC o5,E9,E9];omega⟩
   simp only[X9 hc,o7,yS,hc,dA,o9];cases b
   .simp only[o6];cases D6 ((s[j].toNat:Nat):Int) 35
    .simp only[o6];cases D6 ((s[j].toNat:Nat):Int) 32
     .simp only[I7,o7];cases D6 ((s[j].toNat:Nat):Int) 9
      .exact .inr (.inr ⟨_,rfl,j,rfl,h1,h2⟩)
      .exact .inl (nx _)
     .exact .inl (nx _)
    .exact .inl (nx _)
   .simp only[o7];cases D6 ((s[j].toNat:Nat):Int) 10
    .exact .inl (nx _)
    .exact .inr (.inr ⟨_,rfl,j,rfl,h1,h2⟩)
  .rw[X3 (by unfold x8;simp only;omega)];exact .inr (.inl ⟨_,rfl,j,rfl,h1,h2⟩))
 rcases this with⟨e,h,j,rfl,h1,h2⟩|⟨e,h,j,rfl,h1,h2⟩
 .exact⟨j,by refine X7 h ?_;rfl,h1,h2⟩
 .exact⟨j,by refine X7 h ?_;rfl,h1,h2⟩
theorem Yt(s:List UInt8)(p:Nat):∃q:Nat,wB s (p:Int)=(q:Int)/\p<q:=by
 refine⟨p+(Utf8.decode ⟨s.toArray⟩ p).2,?_,?_⟩
 .unfold wB;rw[E9];omega
 .have:1<=(Utf8.decode ⟨s.toArray⟩ p).2:=by
   unfold Utf8.decode;simp only
   repeat' split
   all_goals simp
  omega
theorem KA(s p:List UInt8):jg s p=some (p.isPrefixOf s):=rfl
theorem XL(s p:List UInt8)(hl:s.length<=1000000):∃t b,vz s p=some (t,b)/\t.length<=s.length/\(b=true->s=p++t)/\(b=false->t=s):=by
 unfold vz sJ xh Lib.hasPrefix;cases h:p.isPrefixOf s
 .exact⟨s,false,rfl,A7 _,(λh=>by cases h),λ_=>rfl⟩
 .obtain⟨t,ht⟩:=gK.1 h;refine⟨t,true,?_,by rw[←ht];simp,λ_=>ht.symm,λh=>by cases h⟩;rw[o9,F6,o6,ql (by unfold x8;omega) (by unfold x8;rw[←ht];simp;omega),o9,o9];congr 2;unfold x8;rw[E9,←ht,gW]
theorem ZW(s:List UInt8)(hl:s.length<=1000000):∃v b,tN s=some (v,b):=by
 unfold tN;have:=jw (f:=ddF) (s:=(0,s,0)) (λx=>∃p:Nat,x.2.1=s/\x.2.2=(p:Int)) (λ_=>True) (λ_=>True) (λx=>s.length -x.2.2.toNat) ⟨0,rfl,rfl⟩ G5 (by
  rintro⟨v,s',q⟩ ⟨p,h1,h2⟩;simp only at h1 h2;subst h1 h2;unfold ddF;by_cases hlt:p<s'.length
  .obtain⟨q,hq,hpq⟩:=Yt s' p;rw[bu (by unfold x8;simp only;omega),o7];simp only[hq];cases J4 (ng s' (p:Int)) 48
   .cases J4 57 (ng s' (p:Int))
    .exact .inl ⟨_,rfl,⟨q,rfl,rfl⟩,by simp only;rw[E9,E9];omega⟩
    .exact .inr (.inr ⟨_,rfl,trivial⟩)
   .exact .inr (.inr ⟨_,rfl,trivial⟩)
  .rw[X3 (by unfold x8;simp only;omega)];exact .inr (.inl ⟨_,rfl,trivial⟩))
 rcases this with⟨e,h,-⟩|⟨e,h,-⟩
 .exact⟨e,true,by refine X7 h ?_;rfl⟩
 .exact⟨e.1,e.2,by refine X7 h ?_;rfl⟩
theorem XZ(y m d:Int):∃v c,jb y m d=some (v,c)/\fE v:=by
 by_cases hy:1900<=y/\y<=2199
 .by_cases hm:1<=m/\m<=12
  .by_cases h1:1<=d
   .by_cases h2:d<=dim y m
    .refine⟨_,_,RN hy hm h1 h2,?_⟩;have a:=b0w hy.1 o5;have b:=LZ y (m -1).toNat o5;have c:=EP y m;show fE (ys y+xq y (m -1).toNat+d -1);unfold fE;omega
    .refine⟨0,3,?_,oq⟩;unfold jb;rw[X3 hy.1,o6,X3 hy.2,o6,X3 hm.1,o6,X3 hm.2,o6,X3 h1,o6,pI o5 hm,o9,bu o5];rfl
   .refine⟨0,3,?_,oq⟩;unfold jb;rw[X3 hy.1,o6,X3 hy.2,o6,X3 hm.1,o6,X3 hm.2,o6,bu o5];rfl
  .refine⟨0,3,?_,oq⟩;unfold jb;rw[X3 hy.1,o6,X3 hy.2,o6];by_cases h3:m<1
   .rw[bu h3];rfl
   .rw[X3 o5,o6,bu o5];rfl
 .refine⟨0,3,?_,oq⟩;unfold jb;by_cases h3:y<1900
  .rw[bu h3];rfl
  .rw[X3 o5,o6,bu o5];rfl
theorem zU(s:List UInt8)(hl:s.length<=1000000):∃v c,ug s=some (v,c)/\fE v:=by
 unfold ug;by_cases h10:x8 s=10
 .have hlen:s.length=10:=by unfold x8 at h10;omega
  have e4:sat s 4=some (s[4].toNat:Int):=by rw[show(4:Int)=((4:Nat):Int)from rfl,yS,mW o5];rfl
  have e7:sat s 7=some (s[7].toNat:Int):=by rw[show(7:Int)=((7:Nat):Int)from rfl,yS,mW o5];rfl
  rw[V5 h10,F6,o6,e4,o9];cases D6 ((s[4].toNat:Nat):Int) 45
  .exact⟨0,2,rfl,oq⟩
  rw[F6,o6,e7,o9];cases D6 ((s[7].toNat:Nat):Int) 45
  .exact⟨0,2,rfl,oq⟩
  rw[F6,o6,o9,W9,wO o5 o5,o9,LW o5 o5 o5,ql o5 o5];obtain⟨v1,b1,h1⟩:=ZW (s.take (4:Int).toNat) G5;obtain⟨v2,b2,h2⟩:=ZW ((s.take (7:Int).toNat).drop (5:Int).toNat) G5;obtain⟨v3,b3,h3⟩:=ZW (s.drop (8:Int).toNat) G5;rw[h1,o9,o9,h2,o9,o9,h3,o9];cases b1
  .exact⟨0,2,rfl,oq⟩
  cases b2
  .exact⟨0,2,rfl,oq⟩
  cases b3
  .exact⟨0,2,rfl,oq⟩
  obtain⟨v,c,h,hi⟩:=XZ v1 v2 v3;exact⟨v,c,by simp only[F6,o6];rw[h];rfl,hi⟩
 .rw[N7 h10];exact⟨0,2,rfl,oq⟩
theorem a4Z(t:List UInt8)(p:Int)(hl:t.length<=1000000):(∃v b,S9 (npF p) (0,false,t,0)=some (.inl (v,b))/\fE v)\/∃r,S9 (npF p) (0,false,t,0)=some (.inr r)/\r=(0,2):=by
 have:=jw (f:=npF p) (s:=(0,false,t,0)) (λx=>∃q:Nat,x.2.2.1=t/\x.2.2.2=(q:Int)/\fE x.1) (λe=>fE e.1) (λr=>r=(0,2)) (λx=>t.length -x.2.2.2.toNat) ⟨0,rfl,rfl,oq⟩ G5 (by
  rintro⟨v,b,s',q⟩ ⟨q',h1,h2,h3⟩;simp only at h1 h2 h3;subst h1 h2;unfold npF;by_cases hlt:q' <s'.length
  .obtain⟨nq,hq,hpq⟩:=Yt s' q';have nx:∀(v' :Int) (b' :Bool),fE v' ->∃s'',(some (Out.nx (v',b',s',(nq:Int))):Option (Out (Int×Bool×List UInt8×Int) (Int×Bool) (Int×Int)))=some (.nx s'')/\(∃q:Nat,s''.2.2.1=s' /\s''.2.2.2=(q:Int)/\fE s''.1)/\s'.length -s''.2.2.2.toNat<s'.length -((q' :Int)).toNat:=
    λv' b' hv=>⟨_,rfl,⟨nq,rfl,rfl,hv⟩,by simp only;rw[E9,E9];omega⟩
   rw[bu (by unfold x8;simp only;omega),o7];simp only[hq];cases D6 (q' :Int) p
   .simp only[o6];have hd:∃b,mf (ng s' (q' :Int))=some b:=by
     unfold mf;cases U6 48 (ng s' (q' :Int))<;>exact⟨_,rfl⟩
    obtain⟨b2,hd⟩:=hd;rw[hd,o9];cases b2
    .exact .inr (.inr ⟨_,rfl,rfl⟩)
    simp only[F6,o6];cases b
    .simp only[o6];cases J4 461168601842738790 v
     .exact .inl (nx _ _ (Wj _ _))
     .exact .inl (nx _ _ h3)
    .exact .inl (nx _ _ h3)
   .simp only[o7];cases D6 (ng s' (q' :Int)) 46
    .exact .inr (.inr ⟨_,rfl,rfl⟩)
    .exact .inl (nx _ _ h3)
  .rw[X3 (by unfold x8;simp only;omega)];exact .inr (.inl ⟨_,rfl,h3⟩))
 rcases this with⟨e,h,hi⟩|⟨r,h,hi⟩
 .exact .inl ⟨e.1,e.2,h,hi⟩
 .exact .inr ⟨r,h,hi⟩
theorem Cm(s:List UInt8)(k:Int)(hk:0<=k/\k<=10)(hl:s.length<=100000):∃v c,nY s k=some (v,c)/\fE v:=by
 obtain⟨t,b,h1,h2,-,-⟩:=XL s [45] o5;unfold nY;rw[h1,o9];simp only;obtain⟨w,hw,hwb⟩:∃w:Int,(l7 (J4 0 k) (some (L6 IntKind.i64 (x8 t) (G9 IntKind.i64 k 1))) (some (x8 t)))=some w/\(w<=x8 t):=by
  cases hh:J4 0 k
  .exact⟨_,rfl,sK _⟩
  .have:=zY.1 hh;refine⟨_,rfl,?_⟩;rw[eU dm,dW (by unfold fE x8;omega)];omega
 refine(show ∃v c,l9 (l7 (J4 0 k) (some (L6 IntKind.i64 (x8 t) (G9 IntKind.i64 k 1))) (some (x8 t))) _=some (v,c)/\fE v from ?_);rw[hw,o9];by_cases h3:w<1
 .rw[bu h3];exact⟨0,2,rfl,oq⟩
 rw[X3 o5,o6];have hin:(∃q,(l7 (J4 1 w) (l9 (sat t 0) λ(x:Int)=>l7 (D6 x 48) (some (Sum.inr (0,2))) (some (Sum.inl PUnit.unit))) (some (Sum.inl PUnit.unit)):Option (PUnit⊕(Int×Int)))=some q/\(q= .inl PUnit.unit\/q= .inr (0,2))):=by
  cases J4 1 w
  .exact⟨_,rfl,.inl rfl⟩
  .have htl:0<t.length:=by unfold x8 at hwb;omega
   have e0:sat t 0=some (t[0].toNat:Int):=by rw[show(0:Int)=((0:Nat):Int)from rfl,yS,mW htl];rfl
   rw[o7,e0,o9];cases D6 ((t[0].toNat:Nat):Int) 48
   .exact⟨_,rfl,.inl rfl⟩
   .exact⟨_,rfl,.inr rfl⟩
 obtain⟨q,hq,hq2⟩:=hin;refine(show ∃v c,l9 (l7 (J4 1 w) (l9 (sat t 0) λ(x:Int)=>l7 (D6 x 48) (some (Sum.inr (0,2))) (some (Sum.inl PUnit.unit))) (some (Sum.inl PUnit.unit)):Option (PUnit⊕(Int×Int))) _=some (v,c)/\fE v from ?_);rw[hq,o9];rcases hq2 with rfl|rfl
 .rw[W9];have fin:∀v:Int,∀o:Bool,fE v->∃r c,(l7 o (some ((0:Int),(3:Int))) (l7 b (some (L6 IntKind.i64 0 v,0)) (some (v,0))))=some (r,c)/\fE r:=by
   intro v o hv;cases o
   .cases b
    .exact⟨_,_,rfl,hv⟩
    .exact⟨_,_,rfl,a1o _ _⟩
   .exact⟨_,_,rfl,oq⟩
  rcases a4Z t w o5 with⟨v,o,hlp,hv⟩|⟨r,hlp,rfl⟩
  .refine(show ∃v c,l9 (S9 (npF w) (0,false,t,0)) _=some (v,c)/\fE v from ?_);rw[hlp,o9,W9];cases hb:b
   .rw[hb]at fin;exact fin v o hv
   .rw[hb]at fin;simp only[o7];cases D6 v 0
    .exact fin v o hv
    .cases o
     .exact⟨0,2,rfl,oq⟩
     .exact fin v true hv
  .refine(show ∃v c,l9 (S9 (npF w) (0,false,t,0)) _=some (v,c)/\fE v from ?_);rw[hlp];exact⟨0,2,rfl,oq⟩
 .exact⟨0,2,rfl,oq⟩
def ScT(s:List UInt8)(o:Option (bV×I9)):Prop:=∃t n c,o=some (t,n,c)/\fE t.2.2.1/\t.2.1.length<=s.length/\(c=0->∃k:Nat,n=(k:Int)/\1<=k/\k<=s.length)
theorem Ad(c:Int)(hc:c≠0):ScT s (some ((0,[],0,0),0,c)):=⟨_,_,_,rfl,oq,D5,λh=>absurd h hc⟩
theorem OH(h:i<s.length):sat s (i:Int)=some ((s[i].toNat:Nat):Int):=by rw[yS,mW h];rfl
theorem VV(s:List UInt8)(hl:s.length<=1000000):∃b,wK s=some b/\(b=true->10<=s.length):=by
 unfold wK;rw[show iW s 0=_ from Ah hl 0 o5,o9];cases D6 ((((s.drop 0).takeWhile zh).length:Nat):Int) 4
 .exact⟨false,rfl,λh=>by cases h⟩
 rw[o7,show iW s 5=_ from Ah hl 5 o5,o9];cases D6 ((((s.drop 5).takeWhile zh).length:Nat):Int) 2
 .exact⟨false,rfl,λh=>by cases h⟩
 rw[o7,show iW s 8=_ from Ah hl 8 o5,o9];cases h8:U6 2 ((((s.drop 8).takeWhile zh).length:Nat):Int)
 .exact⟨false,rfl,λh=>by cases h⟩
 have h8:=iJ.1 h8;have hlen:=(jc zh (l:=s.drop 8)).length_le;rw[aC]at hlen;have h10:10<=s.length:=o5;rw[o7,show sat s 4=_ from OH (i:=4) o5,o9];cases D6 ((s[4].toNat:Nat):Int) 45
 .exact⟨false,rfl,λh=>by cases h⟩
 rw[o7,show sat s 7=_ from OH (i:=7) o5,o9];exact⟨_,rfl,λ_=>h10⟩
theorem RQ(s:List UInt8)(k:Int)(hl:s.length<=1000000)(hk:0<=k):∃b,lK s k=some b/\(b=true->1+k<=s.length):=by
 unfold lK;rw[KA,o9];cases hp:[46].isPrefixOf s
 .exact⟨false,rfl,λh=>by cases h⟩
 obtain⟨t,ht⟩:=gK.1 hp;have htl:=congrArg List.length ht;simp only[E8,BZ]at htl;rw[o7,show iW s 1=_ from Ah hl 1 o5,o9];refine⟨_,rfl,λh=>?_⟩;have h:=X8.1 h;have hlen:=(jc zh (l:=s.drop 1)).length_le;rw[aC]at hlen;omega
theorem F_(k:Int)(s:List UInt8)(hl:s.length<=100000)(hk:k=2\/k=3\/k=5\/(k=4/\1<=s.length)):∃v c,yH k s=some (v,c)/\fE v:=by
 have fin:∀(v c lim:Int),fE v->∃v' c',(l7 (D6 c 0) (l7 (J4 lim v) (some (v,(3:Int))) (some (v,c))) (some (v,c)))=some (v',c')/\fE v' :=by
  intro v c lim hv;cases D6 c 0
  .exact⟨_,_,rfl,hv⟩
  .cases J4 lim v
   .exact⟨_,_,rfl,hv⟩
   .exact⟨_,_,rfl,hv⟩
 unfold yH jI dM;rcases hk with rfl|rfl|rfl|⟨rfl,h1⟩
 .obtain⟨v,c,h,hv⟩:=Cm s 0 o5 hl;simp (disch:=decide) only[N7,o6];rw[h,o9,o9];exact fin v c _ hv
 .obtain⟨v,c,h,hv⟩:=Cm s 2 o5 hl;simp (disch:=decide) only[N7,V5,o6,o7];rw[show fH 2=some 2 from rfl,o9,h,o9,o9];exact fin v c _ hv
 .obtain⟨v,c,h,hv⟩:=zU s o5;simp (disch:=decide) only[N7,V5,o6,o7];rw[h,o9];exact fin v c _ hv
 .have hcut:fO s 0 (L6 .i64 (x8 s) 1)=some (s.take (x8 s -1).toNat):=by
   rw[dW (by unfold fE x8;omega),wO (by unfold x8;omega) (by unfold x8;omega)]
  obtain⟨v,c,h,hv⟩:=Cm (s.take (x8 s -1).toNat) 4 o5 G5;simp (disch:=decide) only[N7,V5,o6,o7];rw[hcut,o9,show fH 4=some 4 from rfl,o9,h,o9,o9];exact fin v c _ hv
theorem YY(s:List UInt8)(hl:s.length<=100000)(h0:1<=((s.takeWhile zh).length)):ScT s (wL s):=by
 have hwl:=(jc zh (l:=s)).length_le;have fin:∀(k:Int) (n:Nat),1<=n->n<=s.length->(k=2\/k=3\/k=4\/k=5)->ScT s ((λ(x:bV×I9)=>
   l9
    (l7 (J4 x.2.2 (x8 s))
     (l9 (sat s x.2.2) λ(x_1:Int)=>
      l9 (kJ x_1) λ(x_2:Bool)=>
       l7 x_2 (some (Sum.inr ((0,[],0,0),0,2)))
        (l7 (U6 65 x_1)
         (l7 (U6 x_1 90) (some (Sum.inr ((0,[],0,0),0,2)))
          (l9 (fG x_1) λ(x_3:Bool)=>
           l7 x_3 (some (Sum.inr ((0,[],0,0),0,2)))
            (l7 (D6 x_1 95) (some (Sum.inr ((0,[],0,0),0,2)))
             (l7 (D6 x_1 46) (some (Sum.inr ((0,[],0,0),0,2))) (some (Sum.inl x.1))))))
         (l9 (fG x_1) λ(x_3:Bool)=>
          l7 x_3 (some (Sum.inr ((0,[],0,0),0,2)))
           (l7 (D6 x_1 95) (some (Sum.inr ((0,[],0,0),0,2)))
            (l7 (D6 x_1 46) (some (Sum.inr ((0,[],0,0),0,2))) (some (Sum.inl x.1)))))))
     (some (Sum.inl x.1)))
    λ(o:bV⊕bV×I9)=>
    aj o
     (λ(x_1:bV)=>
      l9 (fO s 0 x.2.2) λ(x_2:List UInt8)=>
       l9 (yH x.2.1 x_2) λ(x_3:I9)=>
        l7 (G7 (D6 x_3.2 0)) (some ((0,[],0,0),0,3))
         (l9 (fO s 0 x.2.2) λ(x_4:List UInt8)=>some ((x.2.1,x_4,x_3.1,0),x.2.2,0)))
     λ(r:bV×I9)=>some r) ((0,[],0,0),k,(n:Int))):=by
  intro k n hn1 hn2 hk;simp only;have e1:∃q:bV⊕bV×I9,(l7 (J4 (n:Int) (x8 s))
     (l9 (sat s (n:Int)) λ(x_1:Int)=>
      l9 (kJ x_1) λ(x_2:Bool)=>
       l7 x_2 (some (Sum.inr ((0,[],0,0),0,2)))
        (l7 (U6 65 x_1)
         (l7 (U6 x_1 90) (some (Sum.inr ((0,[],0,0),0,2)))
          (l9 (fG x_1) λ(x_3:Bool)=>
           l7 x_3 (some (Sum.inr ((0,[],0,0),0,2)))
            (l7 (D6 x_1 95) (some (Sum.inr ((0,[],0,0),0,2)))
             (l7 (D6 x_1 46) (some (Sum.inr ((0,[],0,0),0,2))) (some (Sum.inl ((0,[],0,0):bV)))))))
         (l9 (fG x_1) λ(x_3:Bool)=>
          l7 x_3 (some (Sum.inr ((0,[],0,0),0,2)))
           (l7 (D6 x_1 95) (some (Sum.inr ((0,[],0,0),0,2)))
            (l7 (D6 x_1 46) (some (Sum.inr ((0,[],0,0),0,2))) (some (Sum.inl (0,[],0,0))))))))
     (some (Sum.inl (0,[],0,0))))=some q/\(q= .inl (0,[],0,0)\/q= .inr ((0,[],0,0),0,2)):=by
   by_cases hlt:n<s.length
   .rw[bu (by unfold x8;omega),o7,OH hlt,o9,Ib,o9,Ee];cases Oh s[n]
    .cases U6 65 ((s[n].toNat:Nat):Int)<;>cases U6 ((s[n].toNat:Nat):Int) 90<;>cases zh s[n]<;>cases D6 ((s[n].toNat:Nat):Int) 95<;>cases D6 ((s[n].toNat:Nat):Int) 46<;>first|exact⟨_,rfl,.inl rfl⟩|exact⟨_,rfl,.inr rfl⟩
    .exact⟨_,rfl,.inr rfl⟩
   .rw[X3 (by unfold x8;omega)];exact⟨_,rfl,.inl rfl⟩
  obtain⟨q,hq,hq2⟩:=e1;rw[hq,o9];rcases hq2 with rfl|rfl
  .rw[W9,wO o5 o5,o9,E9];obtain⟨v,c,h,hv⟩:=F_ k (s.take n) G5 (by
    rcases hk with rfl|rfl|rfl|rfl
    .exact .inl rfl
    .exact .inr (.inl rfl)
    .exact .inr (.inr (.inr ⟨rfl,by simp;omega⟩))
    .exact .inr (.inr (.inl rfl)))
   rw[h,o9];simp only;cases D6 c 0
   .exact Ad 3 H7
   .exact⟨_,_,_,rfl,hv,by simp;omega,λ_=>⟨n,rfl,hn1,hn2⟩⟩
  .exact Ad 2 H7
 unfold wL;obtain⟨b,hb,hb10⟩:=VV s o5;rw[hb,o9];cases b
 .rw[I7,o7];have e0:=Ah (s:=s) o5 0 o5;rw[jQ,show((0:Nat):Int)=0 from rfl]at e0;generalize hd:(s.takeWhile zh).length=d at*;have hs:fO s (d:Int) (x8 s)=some (s.drop d):=by rw[ql o5 o5,E9]
  have hkind:∃(k:Int) (n:Nat),(l9 (fO s (d:Int) (x8 s)) λ(x_1:List UInt8)=>
      l9 (lK x_1 2) λ(x_2:Bool)=>
       l7 x_2 (some (3,G9 IntKind.i64 (d:Int) 3))
        (l9 (fO s (d:Int) (x8 s)) λ(x_3:List UInt8)=>
         l9 (lK x_3 4) λ(x_4:Bool)=>
          l7 x_4
           (l9 (fO s (G9 IntKind.i64 (d:Int) 5) (x8 s)) λ(x_5:List UInt8)=>
            l9 (jg x_5 [37]) λ(x_6:Bool)=>
             l7 x_6 (some (4,G9 IntKind.i64 (d:Int) 6)) (some (2,(d:Int))))
           (some (2,(d:Int)))))=(some (k,(n:Int)):Option (Int×Int))/\1<=n/\n<=s.length/\(k=2\/k=3\/k=4\/k=5):=by
   rw[hs,o9];obtain⟨b2,h2,l2⟩:=RQ (s.drop d) 2 G5 o5;rw[h2,o9];cases b2
   .rw[o6,o9];obtain⟨b4,h4,l4⟩:=RQ (s.drop d) 4 G5 o5;rw[h4,o9];cases b4
    .exact⟨2,d,rfl,h0,hwl,.inl rfl⟩
    .have l4:=l4 rfl;rw[aC]at l4;rw[o7,show G9 .i64 (d:Int) 5=((d+5:Nat):Int) by rw[eU dm];omega,ql o5 o5,o9,KA,o9,E9];cases h37:[37].isPrefixOf (s.drop (d+5))
     .exact⟨2,d,rfl,h0,hwl,.inl rfl⟩
     .obtain⟨t,ht⟩:=gK.1 h37;have:=congrArg List.length ht;simp at this;refine⟨4,d+6,?_,o5,o5,.inr (.inr (.inl rfl))⟩;rw[o7,show G9 .i64 (d:Int) 6=((d+6:Nat):Int) by rw[eU dm];omega]
   .have l2:=l2 rfl;rw[aC]at l2;refine⟨3,d+3,?_,o5,o5,.inr (.inl rfl)⟩;rw[o7,show G9 .i64 (d:Int) 3=((d+3:Nat):Int) by rw[eU dm];omega]
  obtain⟨k,n,hk,hn1,hn2,hkk⟩:=hkind;rw[e0,o9,hk,o9];have hz:∃q:bV×I9⊕bV×I9,(l7 (J4 1 (d:Int))
      (l9 (sat s 0) λ(x:Int)=>
       l7 (D6 x 48) (some (Sum.inr ((0,[],0,0),0,2))) (some (Sum.inl (((0,[],0,0):bV),k,(n:Int)))))
      (some (Sum.inl ((0,[],0,0),k,(n:Int)))))=some q/\(q= .inl ((0,[],0,0),k,(n:Int))\/q= .inr ((0,[],0,0),0,2)):=by
   cases J4 1 (d:Int)
   .exact⟨_,rfl,.inl rfl⟩
   .rw[o7,show sat s 0=_ from OH (i:=0) o5,o9];cases D6 ((s[0].toNat:Nat):Int) 48
    .exact⟨_,rfl,.inl rfl⟩
    .exact⟨_,rfl,.inr rfl⟩
  obtain⟨q,hq,hq2⟩:=hz;rw[hq,o9];rcases hq2 with rfl|rfl
  .rw[W9];exact fin k n hn1 hn2 hkk
  .exact Ad 2 H7
 .rw[F6,o6,o9,W9];exact fin 5 10 o5 (hb10 rfl) (.inr (.inr (.inr rfl)))
theorem Yn{a b:Nat}(h1:a<=b)(h2:b<=s.length):fO s (a:Int) (b:Int)=some ((s.take b).drop a):=by rw[LW o5 o5 o5,E9,E9]
theorem Ve(cs:List UInt8):∀l:List UInt8,-1<=Lib.indexAny l cs/\Lib.indexAny l cs<l.length
 |[]=>by simp[Lib.indexAny]|b::l=>by
  have ih:=Ve cs l;unfold Lib.indexAny;split
  .simp<;>omega
  .split
   .simp;omega
   .simp;omega
theorem WY(s:List UInt8)(hl:s.length<=1000000)(h0:1<=(s.takeWhile zf).length):ScT s (yJ s):=by
 have hw:=(jc zf (l:=s)).length_le;unfold yJ;rw[A_ hl,o9];cases J4 16 ((s.takeWhile zf).length:Int)
 .rw[o6,wO o5 o5,o9,E9];exact⟨_,_,_,rfl,oq,by simp;omega,λ_=>⟨_,rfl,h0,hw⟩⟩
 .exact Ad 4 H7
theorem TR(s:List UInt8)(hl:s.length<=100000)(hA:Asc s)(h0:1<=s.length):ScT s (wM s):=by
 have hs1:fO s 1 (x8 s)=some (s.drop 1):=ql (lo:=1) o5 o5;unfold wM;rw[hs1,o9];have hany:wG (s.drop 1) [34,10]=some (Lib.indexAny (s.drop 1) [34,10]):=by
  unfold wG;have a1:Nat.blt (s.drop 1).length 4294967281=true:=by rw[cZ];simp;omega
  have a2:Kq (s.drop 1)=true:=by unfold Kq;rw[kC];intro c hc;rw[cZ];exact XD hA 1 c hc
  rw[a1,a2];rfl
 rw[hany,o9];obtain⟨b1,b2⟩:=Ve [34,10] (s.drop 1);generalize Lib.indexAny (s.drop 1) [34,10]=x at b1 b2;rw[aC]at b2;by_cases hx:x<0
 .rw[bu hx];exact Ad 5 H7
 obtain⟨k,rfl⟩:∃k:Nat,x=(k:Int):=⟨x.toNat,o5⟩;have b3:k+1<s.length:=by have:=Int.ofNat_lt.1 b2;omega
 have e1:G9 .i64 1 (k:Int)=((1+k:Nat):Int):=by rw[eU dm];omega
 rw[X3 o5,o6,e1,OH (i:=1+k) o5,o9];cases D6 ((s[1+k].toNat:Nat):Int) 10
 case true=>exact Ad 5 H7
 rw[o6,show fO s 1 ((1+k:Nat):Int)=_ from Yn (a:=1) o5 o5,o9];generalize hw:(s.take (1+k)).drop 1=w;have hwl:w.length=k:=by rw[←hw];simp;omega
 have hloop:=jw (f:=λ(x:bV×Int)=>
         l7 (J4 x.2 (x8 w))
          (l9 (sat w x.2) λ(x_3:Int)=>
           l7 (J4 x_3 32) (some (Out.rt (((0,[],0,0):bV),((0:Int),(2:Int)))))
            (l9 (sat w x.2) λ(x_4:Int)=>
             l7 (J4 126 x_4) (some (Out.rt ((0,[],0,0),0,2)))
              (some (Out.nx (x.1,G9 IntKind.i64 x.2 1)))))
          (some (Out.ex x.1))) (s:=(((0,[],0,0):bV),0)) (λx=>∃j:Nat,x.2=(j:Int)/\j<=w.length) (λ_=>True) (λr=>r=((0,[],0,0),0,2)) (λx=>w.length -x.2.toNat) ⟨0,rfl,o5⟩ G5 (by
  rintro⟨t,q⟩ ⟨j,h1,h2⟩;simp only at h1;subst h1;by_cases hlt:j<w.length
  .rw[bu (by unfold x8;simp only;omega),o7];simp only;rw[OH hlt,o9,o9];cases J4 ((w[j].toNat:Nat):Int) 32
   .cases J4 126 ((w[j].toNat:Nat):Int)
    .exact .inl ⟨_,rfl,⟨j+1,by simp only;rw[dC o5],o5⟩,by simp only;rw[dC o5,E9,E9];omega⟩
    .exact .inr (.inr ⟨_,rfl,rfl⟩)
   .exact .inr (.inr ⟨_,rfl,rfl⟩)
  .rw[X3 (by unfold x8;simp only;omega)];exact .inr (.inl ⟨_,rfl,trivial⟩))
 rcases hloop with⟨e,h,-⟩|⟨e,h,rfl⟩
 .refine(show ScT s (l9 (S9 _ (((0,[],0,0):bV),0)) _)from ?_);rw[h,o9,W9];cases J4 64 (k:Int)
  .rw[o6];have q1:G9 .i64 (k:Int) 2=((k+2:Nat):Int):=by rw[eU dm];omega
   have q2:w.length<=s.length:=o5;exact⟨_,_,_,rfl,oq,q2,λ_=>⟨k+2,q1,o5,o5⟩⟩
  .exact Ad 4 H7
 .refine(show ScT s (l9 (S9 _ (((0,[],0,0):bV),0)) _)from ?_);rw[h];exact Ad 2 H7
theorem a6F(s:List UInt8)(hl:s.length<=100000)(hA:Asc s)(h0:1<=s.length):ScT s (Cc s):=by
 cases s with
 |nil=>simp at h0|cons c r=>
  have h1:ScT (c::r) (l9 (fO (c::r) 0 1) λ(x:List UInt8)=>some ((7,x,0,0),1,0)):=by rw[show(1:Int)=((1:Nat):Int)from rfl,wO o5 G5,o9];exact⟨_,_,_,rfl,oq,D5,λ_=>⟨1,rfl,o5,h0⟩⟩
  have h2:∀b:Bool,ScT (c::r) (l9 (fO (c::r) 1 (x8 (c::r))) λ(x_3:List UInt8)=>
         l9 (jg x_3 [61]) λ(x_4:Bool)=>
          l7 x_4 (l9 (fO (c::r) 0 2) λ(x:List UInt8)=>some ((7,x,0,0),2,0))
           (l7 b (some ((0,[],0,0),0,2))
            (l9 (fO (c::r) 0 1) λ(x:List UInt8)=>some ((7,x,0,0),1,0)))):=by
   intro b;rw[ql o5 G5,o9,KA,o9];cases hp:[61].isPrefixOf ((c::r).drop (1:Int).toNat)
   .rw[o6];cases b
    .exact h1
    .exact Ad 2 H7
   .obtain⟨t,ht⟩:=gK.1 hp;have htl:=congrArg List.length ht;simp at htl;rw[o7,show(2:Int)=((2:Nat):Int)from rfl,wO o5 G5,o9];exact⟨_,_,_,rfl,oq,by simp;omega,λ_=>⟨2,rfl,o5,by simp;omega⟩⟩
  unfold Cc;rw[show sat (c::r) 0=some (c.toNat:Int)from rfl,o9,Ib,o9,Ee,o9];cases D6 (c.toNat:Int) 10
  case true=>rw[o7,show(1:Int)=((1:Nat):Int)from rfl,wO o5 G5,o9];exact⟨_,_,_,rfl,oq,D5,λ_=>⟨1,rfl,o5,h0⟩⟩
  rw[o6];cases hlow:Oh c
  case true=>rw[o7,bF];exact WY _ o5 (by rw[mG (by unfold zf;rw[hlow];rfl)];simp)
  rw[o6];cases hdg:zh c
  case true=>rw[o7,bF];exact YY _ hl (by rw[mG hdg];simp)
  rw[o6];cases D6 (c.toNat:Int) 34
  case true=>rw[o7,bF];exact TR _ hl hA h0
  rw[o6];cases D6 (c.toNat:Int) 60
  case true=>exact h2 _
  cases D6 (c.toNat:Int) 61
  case true=>exact h2 _
  cases D6 (c.toNat:Int) 33
  case true=>exact h2 true
  simp only[o6];have hib:∃x,oU [40,41,44,58,43,45,42] (c.toNat:Int)=some x:=⟨_,rfl⟩;obtain⟨x,hx⟩:=hib;rw[hx,o9];cases U6 0 x
  .exact Ad 2 H7
  .exact h1
def TkG(x:bV):Prop:=fE x.2.2.1/\x.2.1.length<=100000
theorem Xn(s:List UInt8)(hA:Asc s):∃T o c,vU s=some (T,o,c)/\(∀x∈T,TkG x)/\T.length<=65536:=by
 unfold vU;by_cases hl:65536<x8 s
 .rw[bu hl];exact⟨[],0,4,rfl,(λx hx=>by cases hx),D5⟩
 have hl' :s.length<=65536:=by unfold x8 at hl;omega
 rw[X3 o5,o6];obtain⟨j,hj,-,hj2⟩:=YZ (s:=s) o5 (i:=0) o5;rw[show((0:Nat):Int)=0 from rfl]at hj;rw[hj,o9];have hloop:=jw (f:=tkF s) (s:=([],(j:Int))) (λx=>∃p:Nat,x.2=(p:Int)/\p<=s.length/\x.1.length<=p/\∀y∈x.1,TkG y) (λe=>e.length<=65536/\∀y∈e,TkG y) (λr=>r.1=[]) (λx=>s.length -x.2.toNat) ⟨j,rfl,hj2,D5,λy hy=>by cases hy⟩ G5 (by
  rintro⟨acc,q⟩ ⟨p,h1,h2,h3,h4⟩;simp only at h1 h3 h4;subst h1;unfold tkF;by_cases hlt:p<s.length
  .rw[bu (by unfold x8;simp only;omega),o7];simp only;rw[ql o5 o5,o9,E9];obtain⟨t,n,c,e,g1,g2,g3⟩:=a6F (s.drop p) G5 (XD hA p) G5;rw[e,o9];simp only;by_cases hc:c=0
   .obtain⟨k,rfl,k1,k2⟩:=g3 hc;rw[aC]at k2;rw[V5 hc,F6,o6,yC _ o5,o9,show G9 .i64 (p:Int) (k:Int)=((p+k:Nat):Int) by rw[eU dm];omega];obtain⟨j',hj',q1,q2⟩:=YZ (s:=s) o5 (i:=p+k) o5;rw[hj',o9];refine .inl ⟨_,rfl,⟨j',rfl,q2,by simp;omega,λy hy=>?_⟩,by simp only[E9];omega⟩;rcases F9.1 hy with hy|hy
    .exact h4 y hy
    .simp at hy;subst hy;rw[aC]at g2;exact⟨g1,by simp only;omega⟩
   .rw[N7 hc];exact .inr (.inr ⟨_,rfl,rfl⟩)
  .rw[X3 (by unfold x8;simp only;omega)];exact .inr (.inl ⟨_,rfl,by simp only;omega,h4⟩))
 rcases hloop with⟨e,h,h1,h2⟩|⟨e,h,h1⟩
 .exact⟨e,0,0,by refine X7 (show S9 (tkF s) ([],(j:Int))=_ from h) ?_;rfl,h2,h1⟩
 .refine⟨e.1,e.2.1,e.2.2,by refine X7 (show S9 (tkF s) ([],(j:Int))=_ from h) ?_;rfl,?_,?_⟩
  .rw[h1];exact λx hx=>by cases hx
  .rw[h1];simp
end Go.GP
namespace Go.GP
open Gt
set_option maxRecDepth 100000
def NdI(nd:List (Int×Int)):Prop:=∀n∈nd,fE n.2
abbrev pT(T:List bV)(E:Int)(N:D8)(i:Nat)(nd:List (Int×Int))(off c:Int):x9:=(T,(i:Int),E,N,nd,off,c)
section
variable (T:List bV) (E:Int) (N:D8)
structure GdS (i0 sl i:Nat) (nd:List (Int×Int)):Prop where
 lo:i0<=i
 hi:i<=T.length
 sl:nd.length+sl<=i
 ni:NdI nd
def Rs(i0 sl:Nat)(o:Option (Bool×x9)):Prop:=∃b i nd off c,o=some (b,pT T E N i nd off c)/\GdS T i0 sl i nd
end
variable {i:Nat}{nd:List (Int×Int)}{off:Int}{c:Int}{i0:Nat}{sl:Nat}{k:Int}
section
variable {T:List bV} {E:Int} {N:D8}
theorem mP{i0 sl i0' sl' i:Nat}(h:GdS T i0 sl i nd)(h1:i0' <=i0)(h2:sl' <=sl):GdS T i0' sl' i nd:=⟨by have:=h.lo;omega,h.hi,by have:=h.sl;omega,h.ni⟩
theorem lU(b:Bool)(h:GdS T i0 sl i nd):Rs T E N i0 sl (some (b,pT T E N i nd off c)):=⟨b,i,nd,off,c,rfl,h⟩
theorem uz{i0 sl i1 sl1:Nat}{o:Option (Bool×x9)}{K:Bool×x9->Option (Bool×x9)}(h:Rs T E N i0 sl o)(hK:∀b i nd off c,GdS T i0 sl i nd->Rs T E N i1 sl1 (K (b,pT T E N i nd off c))):Rs T E N i1 sl1 (l9 o K):=by obtain⟨b,i,nd,off,c,rfl,hg⟩:=h;exact hK b i nd off c hg
theorem iZ{x y:Option (Bool×x9)}(b:Bool)(h1:Rs T E N i0 sl x)(h2:Rs T E N i0 sl y):Rs T E N i0 sl (l7 b x y):=by cases b<;>assumption
variable (hT:T.length<=65536) (hK:∀x∈T,TkG x)
include hT
theorem a5q(hi:i<=T.length)(a:Nat)(ha:a<=10):Y8 (pT T E N i nd off c) (a:Int)=some (pk T (i+a),pT T E N i nd off c):=by
 unfold Y8 pk;have e:G9 .i64 (i:Int) (a:Int)=((i+a:Nat):Int):=by rw[eU dm];omega
 simp only[e];by_cases h:i+a<T.length
 .rw[bu (by unfold x8;omega),o7,U2,mW h];rfl
 .rw[X3 (by unfold x8;omega),o6,aZ o5];rfl
theorem Oo(hi:i<=T.length):Y8 (pT T E N i nd off c) 0=some (pk T i,pT T E N i nd off c):=a5q hT hi 0 o5
omit hT in
theorem PI(h:(pk T i).1≠0):i<T.length:=by
 rcases oM i T.length with hlt|hge
 .exact hlt
 .exfalso;apply h;unfold pk;rw[aZ hge];rfl
omit hT in
include hK in
theorem a8U(i:Nat):TkG (pk T i):=by
 unfold pk;rcases oM i T.length with hlt|hge
 .rw[mW hlt];exact hK _ (Y1 hlt)
 .rw[aZ hge];exact⟨oq,D5⟩
theorem atT(hi:i<=T.length)(hk:k≠0)(w:List UInt8):∃b,jm (pT T E N i nd off c) k w=some (b,pT T E N i nd off c)/\(b=true->i<T.length):=by
 unfold jm
 rw[Oo hT hi,o9];by_cases g:(pk T i).1=k
 .simp only[V5 g,o7];exact⟨_,rfl,λ_=>PI (by rw[g];exact hk)⟩
 .simp only[N7 g,o6];exact⟨_,rfl,λh=>by cases h⟩
omit hT in
theorem XW(e:Int):∃off',Y0 (pT T E N i nd off c) e=some (false,pT T E N i nd off' e):=by
 unfold Y0;simp only;by_cases hlt:i<T.length
 .rw[bu (by unfold x8;omega),o7,U2,mW hlt,o9];exact⟨_,rfl⟩
 .rw[X3 (by unfold x8;omega),o6];exact⟨_,rfl⟩
omit hT in
theorem a4o(h:GdS T i0 sl i nd)(e:Int):Rs T E N i0 sl (Y0 (pT T E N i nd off c) e):=by obtain⟨off',he⟩:=XW (T:=T) (E:=E) (N:=N) (i:=i) (nd:=nd) (off:=off) (c:=c) e;rw[he];exact lU false h
omit hT in
theorem qB(h:GdS T i0 sl i nd)(k:Nat)(hi:i+k<=T.length):GdS T i0 (sl+k) (i+k) nd:=⟨by have:=h.lo;omega,hi,by have:=h.sl;omega,h.ni⟩
def One(i:Nat)(b:Bool)(i' :Nat):Prop:=(b=false/\i' =i)\/(b=true/\i' =i+1/\i' <=T.length)
theorem a1d(hi:i<=T.length)(hk:k≠0)(w:List UInt8):∃b i' off' c',fV (pT T E N i nd off c) k w=some (b,pT T E N i' nd off' c')/\One (T:=T) i b i' :=by
 unfold fV;obtain⟨b,e,hb⟩:=atT (E:=E) (N:=N) (nd:=nd) (off:=off) (c:=c) hT hi hk w;rw[e,o9];cases b
 .simp only[I7,o7];rw[bF];obtain⟨off',he⟩:=XW (T:=T) (E:=E) (N:=N) (i:=i) (nd:=nd) (off:=off) (c:=c) 2;exact⟨_,_,_,_,he,.inl ⟨rfl,rfl⟩⟩
 .have:=hb rfl;simp only[F6,o6];rw[dC o5];exact⟨true,i+1,off,c,rfl,.inr ⟨rfl,rfl,this⟩⟩
omit hT in
theorem QA{i0 sl i i' :Nat}{b:Bool}(h:GdS T i0 sl i nd)(h1:One (T:=T) i b i'):GdS T i0 sl i' nd:=by
 rcases h1 with⟨-,rfl⟩|⟨-,rfl,h2⟩
 .exact h
 .exact mP (qB h 1 h2) (A7 _) o5
theorem Qp(h:GdS T i0 sl i nd)(hk:k≠0)(w:List UInt8):Rs T E N i0 sl (fV (pT T E N i nd off c) k w):=by obtain⟨b,i',off',c',e,h1⟩:=a1d (E:=E) (N:=N) (nd:=nd) (off:=off) (c:=c) hT h.hi hk w;rw[e];exact lU b (QA h h1)
theorem a7B(h:GdS T i0 sl i nd)(w:List UInt8):Rs T E N i0 sl (U4 (pT T E N i nd off c) w):=by unfold U4;rw[bF];exact Qp hT h H7 w
theorem yw(h:GdS T i0 (sl+1) i nd)(op:Int){n:Int}(hn:fE n):Rs T E N i0 sl (H6 (pT T E N i nd off c) op n):=by
 unfold H6;have:=h.sl;have:=h.hi;simp only;rw[yC _ o5,o9];refine lU true ⟨h.lo,h.hi,by simp;omega,λm hm=>?_⟩;rcases F9.1 hm with hm|hm
 .exact h.ni m hm
 .simp at hm;subst hm;exact hn
omit hT in
theorem a4A{l:List (List UInt8)}(hl:l.length<=100000)(w:List UInt8):∃v,bg l w=some v/\fE v:=by
 by_cases h:∀x∈l,x≠w
 .exact⟨-1,(a1l o5 w).2 h,by unfold fE;omega⟩
 .have:∃j:Nat,a9I l j w:=by
   have hm:w∈l:=by apply ny;intro hn;exact h (λx hx e=>hn (by rw[←e];exact hx))
   clear h hl;induction l with
   |nil=>cases hm|cons a l ih=>
    by_cases ha:a=w
    .exact⟨0,by rw[ha];rfl,λx hx=>by cases hx⟩
    .rcases C9.1 hm with e|hm
     .exact absurd e.symm ha
     .obtain⟨j,h1,h2⟩:=ih hm;refine⟨j+1,h1,λx hx=>?_⟩;rw[List.take_succ_cons]at hx;rcases C9.1 hx with rfl|hx
      .exact ha
      .exact h2 x hx
  obtain⟨j,hj⟩:=this;have:=(ai.1 hj.1).1;exact⟨j,(a1l o5 w).1 j hj,by unfold fE;omega⟩
include hK in
theorem a4p(hi:i<=T.length){l:List (List UInt8)}(hl:l.length<=100000):∃v b i' off' c',fZ (pT T E N i nd off c) l=some (v,b,pT T E N i' nd off' c')/\fE v/\One (T:=T) i b i' :=by
 have fl:∀e,∃v b i' off' c',(l9 (Y0 (pT T E N i nd off c) e) λ(x:Bool×x9)=>some ((0:Int),x))=some (v,b,pT T E N i' nd off' c')/\fE v/\One (T:=T) i b i' :=by intro e;obtain⟨off',he⟩:=XW (T:=T) (E:=E) (N:=N) (i:=i) (nd:=nd) (off:=off) (c:=c) e;rw[he];exact⟨0,false,i,off',e,rfl,oq,.inl ⟨rfl,rfl⟩⟩
 unfold fZ;rw[Oo hT hi,o9];by_cases g:(pk T i).1=1
 .have hlt:i<T.length:=PI (by rw[g];decide);simp only[V5 g,F6,o6];rw[lY (by have:=(a8U hK i).2;omega),o9];cases tC (pk T i).2.1
  .exact fl 2
  .simp only[F6,o6];obtain⟨v,hv,hb⟩:=a4A hl (pk T i).2.1;rw[hv,o9];cases J4 v 0
   .simp only[o6];rw[dC o5];exact⟨v,true,i+1,off,c,rfl,hb,.inr ⟨rfl,rfl,hlt⟩⟩
   .exact fl 6
 .simp only[N7 g,I7,o7];exact fl 2
omit hT in
theorem a8y(w:List UInt8):∃v,xy w=some v/\fE v:=by
 unfold xy;have:=jw (f:=λ(x:Int)=>
   l7 (U6 x 5)
    (l9 (eP x) λ(x_1:List UInt8)=>
     l7 (seq x_1 w) (some (Out.rt x)) (some (Out.nx (G9 IntKind.i64 x 1))))
    (some (Out.ex PUnit.unit))) (s:=0) (λx=>∃j:Nat,x=(j:Int)/\j<=6) (λ_=>True) (λr=>fE r) (λx=>6 -x.toNat) ⟨0,rfl,o5⟩ D5 (by
  rintro x ⟨j,rfl,hj⟩;by_cases h5:j<=5
  .rw[aS o5,o7,Dq,o9];cases seq (Ci (j:Int)) w
   .exact .inl ⟨_,rfl,⟨j+1,by rw[dC o5],o5⟩,by rw[dC o5];simp only[E9];omega⟩
   .exact .inr (.inr ⟨_,rfl,by unfold fE;omega⟩)
  .rw[dP o5];exact .inr (.inl ⟨_,rfl,trivial⟩))
 rcases this with⟨e,h,-⟩|⟨r,h,hr⟩
 .exact⟨-1,by refine X7 h ?_;rfl,by unfold fE;omega⟩
 .exact⟨r,by refine X7 h ?_;rfl,hr⟩
theorem a9Z(hi:i<=T.length):∃v b i' off' c',aQ (pT T E N i nd off c)=some (v,b,pT T E N i' nd off' c')/\fE v/\One (T:=T) i b i' :=by
 have fl:∀e,∃v b i' off' c',(l9 (Y0 (pT T E N i nd off c) e) λ(x:Bool×x9)=>some ((0:Int),x))=some (v,b,pT T E N i' nd off' c')/\fE v/\One (T:=T) i b i' :=by intro e;obtain⟨off',he⟩:=XW (T:=T) (E:=E) (N:=N) (i:=i) (nd:=nd) (off:=off) (c:=c) e;rw[he];exact⟨0,false,i,off',e,rfl,oq,.inl ⟨rfl,rfl⟩⟩
 unfold aQ;rw[Oo hT hi,o9];obtain⟨v,hv,hb⟩:=a8y (pk T i).2.1;simp only[hv,o9];by_cases g:(pk T i).1=1
 .have hlt:i<T.length:=PI (by rw[g];decide);simp only[V5 g,F6,o6];cases J4 v 0
  .simp only[o6];rw[dC o5];exact⟨v,true,i+1,off,c,rfl,hb,.inr ⟨rfl,rfl,hlt⟩⟩
  .exact fl 2
 .simp only[N7 g,I7,o7];exact fl 2
omit hT in
theorem a7Y(w:List UInt8):∃v,uI w=some v:=by
 unfold uI;have:=jw (f:=cwF w) (s:=10) (λx=>∃j:Nat,x=(j:Int)/\10<=j/\j<=40) (λ_=>True) (λr=>True) (λx=>40 -x.toNat) ⟨10,rfl,o5,o5⟩ D5 (by
  rintro x ⟨j,rfl,h10,hj⟩;unfold cwF;by_cases h5:j<=39
  .rw[aS o5,o7];have nx:∃s',(some (Out.nx (G9 .i64 (j:Int) 1)):Option (Out Int PUnit Int))=some (.nx s')/\(∃j' :Nat,s' =(j' :Int)/\10<=j' /\j' <=40)/\40 -s'.toNat<40 -((j:Int)).toNat:=
    ⟨_,rfl,⟨j+1,by rw[dC o5],o5,o5⟩,by rw[dC o5];simp only[E9];omega⟩
   cases G7 (seq w [])
   .exact .inl nx
   .rw[o7,kS,o9];cases seq (qJ (j:Int)) w
    .exact .inl nx
    .exact .inr (.inr ⟨_,rfl,trivial⟩)
  .rw[dP o5];exact .inr (.inl ⟨_,rfl,trivial⟩))
 rcases this with⟨e,h,-⟩|⟨r,h,-⟩
 .exact⟨0,by refine X7 (show S9 (cwF w) 10=_ from h) ?_;rfl⟩
 .exact⟨r,by refine X7 (show S9 (cwF w) 10=_ from h) ?_;rfl⟩
def opF(w:List UInt8)(x:Int):Option (Out Int PUnit (Int×Int)):=
     l7 (U6 x 24)
      (l9 (gQ x) λ(x_1:List UInt8×Int)=>
       l7 (G7 (seq x_1.1 []))
        (l7 (seq x_1.1 w) (some (Out.rt (x,x_1.2))) (some (Out.nx (G9 IntKind.i64 x 1))))
        (some (Out.nx (G9 IntKind.i64 x 1))))
      (some (Out.ex PUnit.unit))
omit hT in
theorem opT(t:bV):∃o k,jP t=some (o,k):=by
 have:=jw (f:=opF t.2.1) (s:=11) (λx=>∃j:Nat,x=(j:Int)/\11<=j/\j<=25) (λ_=>True) (λr=>True) (λx=>25 -x.toNat) ⟨11,rfl,o5,o5⟩ D5 (by
  rintro x ⟨j,rfl,h10,hj⟩;unfold opF;by_cases h5:j<=24
  .rw[aS o5,o7,a1X,o9];have nx:∃s',(some (Out.nx (G9 .i64 (j:Int) 1)):Option (Out Int PUnit (Int×Int)))=some (.nx s')/\(∃j' :Nat,s' =(j' :Int)/\11<=j' /\j' <=25)/\25 -s'.toNat<25 -((j:Int)).toNat:=
    ⟨_,rfl,⟨j+1,by rw[dC o5],o5,o5⟩,by rw[dC o5];simp only[E9];omega⟩
   cases G7 (seq (Ea (j:Int)).1 [])
   .exact .inl nx
   .rw[o7];cases seq (Ea (j:Int)).1 t.2.1
    .exact .inl nx
    .exact .inr (.inr ⟨_,rfl,trivial⟩)
  .rw[dP o5];exact .inr (.inl ⟨_,rfl,trivial⟩))
 have hl:∃o k,(l9 (S9 (opF t.2.1) 11) λ(o:PUnit⊕I9)=>aj o (λ(y:PUnit)=>some ((0:Int),(0:Int))) λ(r:I9)=>some r)=some (o,k):=by
  rcases this with⟨e,h,-⟩|⟨r,h,-⟩
  .rw[h];exact⟨0,0,rfl⟩
  .rw[h];exact⟨r.1,r.2,rfl⟩
 obtain⟨o,k,h⟩:=hl;unfold jP;cases G7 (D6 t.1 7)
 .exact⟨o,k,h⟩
 .cases G7 (D6 t.1 1)
  .exact⟨o,k,h⟩
  .exact⟨0,0,rfl⟩
end
end Go.GP
namespace Go.GP
open Gt
set_option maxRecDepth 100000
structure NmLe (N:D8):Prop where
 e:N.1.length<=100000/\∀e∈N.1,e.2.length<=100000
 t:N.2.1.length<=100000
 i:N.2.2.1.length<=100000
 d:N.2.2.2.1.length<=100000
 m:N.2.2.2.2.length<=100000
theorem b3z{l:List P5}(hl:l.length<=100000)(t:bV):∃v,gJ l t=some v/\v<x8 l:=by
 unfold gJ ui;have:=jw (f:=λ(x:Int)=>l7 (J4 x (x8 l)) (l9 (O0 l x) λ(x_1:P5)=>l9 (some (seq x_1.1 t.2.1)) λ(x_2:Bool)=>l7 x_2 (some (Out.rt x)) (some (Out.nx (G9 IntKind.i64 x 1)))) (some (Out.ex PUnit.unit))) (s:=0) (λx=>∃j:Nat,x=(j:Int)/\j<=l.length) (λ_=>True) (λr=>r<x8 l) (λx=>l.length -x.toNat) ⟨0,rfl,o5⟩ G5 (by
  rintro x ⟨j,rfl,hj⟩;by_cases h5:j<l.length
  .rw[bu (by unfold x8;omega),o7,U2,mW h5,o9,o9];cases seq l[j].1 t.2.1
   .exact .inl ⟨_,rfl,⟨j+1,by rw[dC o5],o5⟩,by rw[dC o5];simp only[E9];omega⟩
   .exact .inr (.inr ⟨_,rfl,by unfold x8;omega⟩)
  .rw[X3 (by unfold x8;omega)];exact .inr (.inl ⟨_,rfl,trivial⟩))
 rcases this with⟨e,h,-⟩|⟨r,h,hr⟩
 .exact⟨-1,by refine X7 h ?_;rfl,by unfold x8;omega⟩
 .exact⟨r,by refine X7 h ?_;rfl,hr⟩
variable {i0:Nat}{sl:Nat}{i:Nat}{nd:List (Int×Int)}{off:Int}{c:Int}{m:Nat}
section
variable {T:List bV} {E:Int} {N:D8}
theorem WX{i0 sl i0' sl' :Nat}{o:Option (Bool×x9)}(h:Rs T E N i0 sl o)(h1:i0' <=i0)(h2:sl' <=sl):Rs T E N i0' sl' o:=by obtain⟨b,i,nd,off,c,e,hg⟩:=h;exact⟨b,i,nd,off,c,e,mP hg h1 h2⟩
variable (hT:T.length<=65536) (hK:∀x∈T,TkG x) (hN:NmLe N)
include hT hK hN
theorem b3Q(h:GdS T i0 sl i nd)(hlt:i<T.length):Rs T E N i0 sl (qX (pT T E N i nd off c)):=by
 unfold qX;rw[Oo hT h.hi,o9];simp only;rw[show Y8 (pT T E N i nd off c) 1=_ from a5q hT h.hi 1 o5,o9];simp only;rw[lY (by have:=(a8U hK i).2;omega),o9];cases tC (pk T i).2.1
 .simp only[I7,o7];rw[bF];exact a4o h 2
 simp only[F6,o6];have hq:∃b,(l7 (D6 (pk T (i+1)).1 7) (some (seq (pk T (i+1)).2.1 [58])) (some false))=some b/\(b=true->i+1<T.length):=by
  by_cases g:(pk T (i+1)).1=7
  .rw[V5 g];exact⟨_,rfl,λ_=>PI (by rw[g];decide)⟩
  .rw[N7 g];exact⟨false,rfl,λh=>by cases h⟩
 obtain⟨b,hb,hb2⟩:=hq;rw[hb,o9];have hlo:=h.lo;have hhi:=h.hi;have hsl:=h.sl;cases b
 .simp only[o6];obtain⟨v,hv,hvI⟩:=a4A hN.i (pk T i).2.1;rw[hv,o9];cases U6 0 v
  .rw[o6];obtain⟨v2,b2,i',off',c',e,e2,e3⟩:=a4p (E:=E) (N:=N) (nd:=nd) (off:=off) (c:=c) hT hK h.hi hN.d;rw[e,o9];simp only;rcases e3 with⟨rfl,rfl⟩|⟨rfl,rfl,e4⟩
   .exact lU false h
   .simp only[o7];rw[bF];exact yw hT (qB h 1 e4) 8 e2
  .rw[o7,dC o5,bF];exact yw hT (qB h 1 hlt) 7 hvI
 .simp only[o7];have hi2:=hb2 rfl;obtain⟨v,hv,hvl⟩:=b3z hN.e.1 (pk T i);rw[hv,o9];by_cases h0:v<0
  .rw[bu h0,o7,bF];exact a4o h 6
  .obtain⟨en,he,hme⟩:=um (l:=N.1) (i:=v) o5 hvl;rw[X3 o5,o6,he,o9];rw[show G9 .i64 (i:Int) 2=((i+2:Nat):Int) by rw[eU dm];omega];obtain⟨v2,b2,i',off',c',e,e2,e3⟩:=a4p (E:=E) (N:=N) (nd:=nd) (off:=off) (c:=c) (i:=i+2) hT hK o5 (hN.e.2 en hme);rw[show fZ (T,((i+2:Nat):Int),E,N,nd,off,c) en.2=_ from e,o9];simp only;have g2:=qB h 2 o5;rcases e3 with⟨rfl,rfl⟩|⟨rfl,rfl,e4⟩
   .exact lU false (mP g2 (A7 _) o5)
   .simp only[o7];rw[bF];exact yw hT (mP (qB g2 1 e4) (A7 _) o5) 6 (Wj _ _)
structure AllT (T:List bV) (E:Int) (N:D8) (m:Nat):Prop where
 e:∀i0 sl i nd off c,GdS T i0 sl i nd->6*(T.length -i)+5<=m->Rs T E N i0 sl ((o8 m).1 (pT T E N i nd off c))
 b:∀k i0 sl i nd off c,GdS T i0 sl i nd->6*(T.length -i)+4<=m->Rs T E N i0 sl ((o8 m).2.1 (pT T E N i nd off c) k)
 u:∀i0 sl i nd off c,GdS T i0 sl i nd->6*(T.length -i)+3<=m->Rs T E N i0 sl ((o8 m).2.2.1 (pT T E N i nd off c))
 a:∀i0 sl i nd off c,GdS T i0 sl i nd->6*(T.length -i)+2<=m->Rs T E N i0 sl ((o8 m).2.2.2.1 (pT T E N i nd off c))
 c:∀op i0 sl i nd off c,GdS T i0 (sl+1) i nd->6*(T.length -i)+6<=m->Rs T E N i0 sl ((o8 m).2.2.2.2 (pT T E N i nd off c) op)
omit hK hN in
theorem b3y(ih:AllT T E N m)(h:GdS T i0 sl i nd)(hm:6*(T.length -i)+5<=m+1):Rs T E N i0 sl ((o8 (m+1)).1 (pT T E N i nd off c)):=by
 rw[b8Y];unfold mi;obtain⟨b,e,hb⟩:=atT (E:=E) (N:=N) (nd:=nd) (off:=off) (c:=c) hT h.hi (k:=1) H7 [105,102];rw[e,o9];have hhi:=h.hi;cases b
 .simp only[I7,o7];rw[bF];exact ih.b 1 _ _ _ _ _ _ h o5
 .have hlt:=hb rfl;simp only[F6,o6];rw[dC o5];have g1:=qB h 1 hlt;have lo1:i+1<=i+1:=A7 _;have ge:GdS T (i+1) (sl+1) (i+1) nd:=⟨A7 _,g1.hi,g1.sl,g1.ni⟩;have hi0:=h.lo;refine WX (i0:=i+1) (sl:=sl) ?_ o5 (A7 _);refine uz (ih.e _ _ _ _ _ _ ge o5) (λb i' nd' off' c' hg=>?_);refine iZ b ?_ (lU false (mP hg (A7 _) o5));refine uz (Qp hT hg H7 _) (λb i' nd' off' c' hg=>?_);refine iZ b ?_ (lU false (mP hg (A7 _) o5));refine uz (ih.e _ _ _ _ _ _ hg (by have:=hg.lo;omega)) (λb i' nd' off' c' hg=>?_);refine iZ b ?_ (lU false (mP hg (A7 _) o5));refine uz (Qp hT hg H7 _) (λb i' nd' off' c' hg=>?_);refine iZ b ?_ (lU false (mP hg (A7 _) o5));refine uz (ih.e _ _ _ _ _ _ hg (by have:=hg.lo;omega)) (λb i' nd' off' c' hg=>?_);refine iZ b ?_ (lU false (mP hg (A7 _) o5));rw[bF];exact yw hT hg 26 oq
omit hN in
theorem b8M(ih:AllT T E N m)(h:GdS T i0 sl i nd)(hm:6*(T.length -i)+3<=m+1):Rs T E N i0 sl ((o8 (m+1)).2.2.1 (pT T E N i nd off c)):=by
 have hhi:=h.hi;have hlo:=h.lo;rw[b8Z];unfold qA;obtain⟨b,e,hb⟩:=atT (E:=E) (N:=N) (nd:=nd) (off:=off) (c:=c) hT h.hi (k:=7) H7 [45];rw[e,o9];cases b
 .simp only[o6];obtain⟨b,e,hb⟩:=atT (E:=E) (N:=N) (nd:=nd) (off:=off) (c:=c) hT h.hi (k:=1) H7 [110,111,116];rw[e,o9];cases b
  .simp only[o6];rw[bF];exact ih.a _ _ _ _ _ _ h o5
  .have hlt:=hb rfl;simp only[o7];rw[dC o5];have g1:=qB h 1 hlt;refine uz (ih.u _ _ _ _ _ _ g1 o5) (λb i' nd' off' c' hg=>?_);refine iZ b ?_ (lU false (mP hg (A7 _) o5));rw[bF];exact yw hT hg 25 oq
 .have hlt:=hb rfl;simp only[o7];rw[show Y8 (pT T E N i nd off c) 1=_ from a5q hT h.hi 1 o5,o9,a1s,o9];by_cases hl:a8s (pk T (i+1)).1=0
  .simp only[hl,V5 (rfl:(0:Int)=0),F6,o6];rw[dC o5];have g1:=qB h 1 hlt;refine uz (ih.u _ _ _ _ _ _ g1 o5) (λb i' nd' off' c' hg=>?_);refine iZ b ?_ (lU false (mP hg (A7 _) o5));rw[bF];exact yw hT hg 10 oq
  .have h1:i+1<T.length:=PI (by
    intro e;apply hl;rw[e];rfl)
   simp only[N7 hl,I7,o7];rw[show G9 .i64 (i:Int) 2=((i+2:Nat):Int) by rw[eU dm];omega,o9,bF];exact yw hT (mP (qB h 2 o5) (A7 _) o5) _ (a1o _ _)
theorem b3k(ih:AllT T E N m)(h:GdS T i0 sl i nd)(hm:6*(T.length -i)+2<=m+1):Rs T E N i0 sl ((o8 (m+1)).2.2.2.1 (pT T E N i nd off c)):=by
 have hhi:=h.hi;have hlo:=h.lo;rw[b8W];unfold qK;rw[Oo hT h.hi,o9,a1s,o9];by_cases hl:a8s (pk T i).1=0
 .simp only[hl,V5 (rfl:(0:Int)=0),F6,o6];by_cases h5:(pk T i).1=5
  .have hlt:i<T.length:=PI (by rw[h5];decide);simp only[V5 h5,o7];rw[dC o5,bF];exact yw hT (qB h 1 hlt) 5 (a8U hK i).1
  .simp only[N7 h5,o6];obtain⟨b,e,hb⟩:=atT (E:=E) (N:=N) (nd:=nd) (off:=off) (c:=c) hT h.hi (k:=7) H7 [40];rw[e,o9];cases b
   .simp only[o6];by_cases h1:(pk T i).1=1
    .have hlt:i<T.length:=PI (by rw[h1];decide);simp only[V5 h1,F6,o6];rw[dC o5];have g1:=qB h 1 hlt;have em:∀op n:Int,fE n->Rs T E N i0 sl (l9 (H6 (pT T E N (i+1) nd off c) op n) λ(x:Bool×x9)=>some x):=by
      intro op n hn;rw[bF];exact yw hT g1 op hn
     refine iZ _ (em 1 1 dm) (iZ _ (em 1 0 oq) (iZ _ (em 9 0 oq) ?_));obtain⟨v,hv⟩:=a7Y (pk T i).2.1;rw[hv,o9];simp only[o9];refine iZ _ ?_ ?_
     .obtain⟨b,i',off',c',e,h1⟩:=a1d (E:=E) (N:=N) (nd:=nd) (off:=off) (c:=c) hT (show i+1<=T.length from hlt) (k:=7) H7 [40];unfold U4;rw[bF,show fV (T,((i+1:Nat):Int),E,N,nd,off,c) 7 [40]=_ from e,o9];rcases h1 with⟨rfl,rfl⟩|⟨rfl,rfl,h2⟩
      .exact lU false (mP g1 (A7 _) o5)
      .simp only[o7];have g2:=qB g1 1 h2;refine uz (ih.c v i0 (sl+1) (i+1+1) nd off' c' g2 o5) (λb i' nd' off' c' hg=>?_);refine iZ b ?_ (lU false (mP hg (A7 _) o5));rw[bF,bF];exact Qp hT (mP hg (A7 _) o5) H7 _
     .rw[bF];exact b3Q hT hK hN h hlt
    .simp only[N7 h1,I7,o7];rw[bF];exact a4o h 2
   .have hlt:=hb rfl;simp only[o7];rw[dC o5];have g1:=qB h 1 hlt;refine uz (ih.e _ _ _ _ _ _ (mP g1 (A7 _) (by omega:sl<=sl+1)) o5) (λb i' nd' off' c' hg=>?_);refine iZ b ?_ (lU false hg);rw[bF];exact a7B hT hg _
 .have hlt:i<T.length:=PI (by intro e;apply hl;rw[e];rfl);simp only[N7 hl,I7,o7];rw[o9,dC o5,bF];exact yw hT (qB h 1 hlt) _ (a8U hK i).1
omit hK hN in
theorem b3u(ih:AllT T E N m){k:Int}(h:GdS T i0 sl i nd)(hm:6*(T.length -i)+4<=m+1):Rs T E N i0 sl ((o8 (m+1)).2.1 (pT T E N i nd off c) k):=by
 rw[b3S];have hlo:=h.lo;have gi:GdS T i sl i nd:=⟨A7 _,h.hi,h.sl,h.ni⟩;refine WX (i0:=i) (sl:=sl) ?_ hlo (A7 _);refine uz (ih.u _ _ _ _ _ _ gi o5) (λb i' nd' off' c' hg=>?_);refine iZ _ (lU false hg) ?_;have hloop:=jw (f:=biF (o8 m).2.1 k) (s:=(pT T E N i' nd' off' c',5)) (λx=>∃i' nd' off' c' g,x=(pT T E N i' nd' off' c',g)/\GdS T i sl i' nd') (λ_=>False) (λr=>Rs T E N i sl (some r)) (λx=>T.length -x.1.2.1.toNat) ⟨i',nd',off',c',5,rfl,hg⟩ G5 (by
  rintro x ⟨i',nd',off',c',g,rfl,hg⟩;have hhi:=hg.hi;have hlo:=hg.lo;unfold biF;simp only;rw[Oo hT hg.hi,o9];simp only;obtain⟨o,kk,ho⟩:=opT (pk T i');rw[ho,o9];by_cases h0:o=0
  .simp only[V5 h0,o7,o9,cO];exact .inr (.inr ⟨_,rfl,lU true hg⟩)
  .have hlt:i' <T.length:=by
    rcases oM i' T.length with h|h
    .exact h
    .exfalso;have:pk T i' =(0,[],0,0):=by unfold pk;rw[aZ h];rfl
     rw[this]at ho;have e0:=a8N (t:=(0,[],0,0)) (.inl rfl);rw[e0]at ho;cases ho;exact h0 rfl
   simp only[N7 h0,o6];cases J4 kk k
   case true=>simp only[o7,o9,cO];exact .inr (.inr ⟨_,rfl,lU true hg⟩)
   simp only[o6];cases J4 g kk
   case true=>simp only[o7,o9,cO];exact .inr (.inr ⟨_,rfl,lU true hg⟩)
   simp only[o6,o9,W9];rw[dC o5];have g1:=qB hg 1 hlt;have g1' :GdS T (i' +1) (sl+1) (i' +1) nd' :=⟨A7 _,g1.hi,g1.sl,g1.ni⟩;obtain⟨b2,i2,nd2,off2,c2,e2,hg2⟩:=ih.b (G9 .i64 kk 1) (i' +1) (sl+1) (i' +1) nd' off' c' g1' o5;have hlo2:=hg2.lo;have hhi2:=hg2.hi;rw[show(o8 m).2.1 (T,((i' +1:Nat):Int),E,N,nd',off',c') (G9 .i64 kk 1)=_ from e2,o9];have hg2' :GdS T i (sl+1) i2 nd2:=⟨o5,hg2.hi,hg2.sl,hg2.ni⟩;cases b2
   .simp only[I7,o7];exact .inr (.inr ⟨_,rfl,lU false (mP hg2' (A7 _) o5)⟩)
   .simp only[F6,o6];obtain⟨b3,i3,nd3,off3,c3,e3,hg3⟩:=yw (E:=E) (N:=N) (off:=off2) (c:=c2) hT ⟨A7 i2,hg2.hi,hg2.sl,hg2.ni⟩ o oq;have hi3:=hg3.lo;rw[e3,o9];have hg3' :GdS T i sl i3 nd3:=⟨o5,hg3.hi,hg3.sl,hg3.ni⟩;cases D6 kk 3
    .exact .inl ⟨_,rfl,⟨i3,nd3,off3,c3,kk,rfl,hg3'⟩,by simp only[E9];omega⟩
    .exact .inl ⟨_,rfl,⟨i3,nd3,off3,c3,_,rfl,hg3'⟩,by simp only[E9];omega⟩)
 rcases hloop with⟨e,h,hf⟩|⟨e,h,hf⟩
 .exact hf.elim
 .rw[h,o9,cO];exact hf
end
end Go.GP
namespace Go.GP
open Gt
set_option maxRecDepth 100000
variable {i0:Nat}{sl:Nat}{i:Nat}{nd:List (Int×Int)}{off:Int}{c:Int}{i1:Nat}{sl1:Nat}
section
variable {T:List bV} {E:Int} {N:D8}
variable (hT:T.length<=65536) (hK:∀x∈T,TkG x) (hN:NmLe N)
def Ri(T:List bV)(E:Int)(N:D8)(i0 sl:Nat)(o:Option (x9⊕Bool×x9)):Prop:=∃b i nd off c,o=some (.inr (b,pT T E N i nd off c))/\GdS T i0 sl i nd
theorem IE(b:Bool)(h:GdS T i0 sl i nd):Ri T E N i0 sl (some (.inr (b,pT T E N i nd off c))):=⟨b,i,nd,off,c,rfl,h⟩
theorem WV{o:Option (Bool×x9)}{K:Bool×x9->Option (x9⊕Bool×x9)}(h:Rs T E N i0 sl o)(hK:∀b i nd off c,GdS T i0 sl i nd->Ri T E N i1 sl1 (K (b,pT T E N i nd off c))):Ri T E N i1 sl1 (l9 o K):=by obtain⟨b,i,nd,off,c,rfl,hg⟩:=h;exact hK b i nd off c hg
theorem Dz{x y:Option (x9⊕Bool×x9)}(b:Bool)(h1:Ri T E N i0 sl x)(h2:Ri T E N i0 sl y):Ri T E N i0 sl (l7 b x y):=by cases b<;>assumption
theorem YS{o:Option (Bool×x9)}(h:Rs T E N i0 sl o):Ri T E N i0 sl (l9 o λ(x:Bool×x9)=>some (Sum.inr x)):=by obtain⟨b,i,nd,off,c,rfl,hg⟩:=h;exact IE b hg
include hT
theorem a9j{K:Int×Bool×x9->Option (Bool×x9)}(h:GdS T i0 sl i nd)(hK:∀v b i' off' c',fE v->GdS T i0 sl i' nd->Rs T E N i1 sl1 (K (v,b,pT T E N i' nd off' c'))):Rs T E N i1 sl1 (l9 (aQ (pT T E N i nd off c)) K):=by obtain⟨v,b,i',off',c',e,hv,h1⟩:=a9Z (E:=E) (N:=N) (nd:=nd) (off:=off) (c:=c) hT h.hi;rw[e];exact hK v b i' off' c' hv (QA h h1)
theorem a9g{K:Int×Bool×x9->Option (x9⊕Bool×x9)}(h:GdS T i0 sl i nd)(hK:∀v b i' off' c',fE v->GdS T i0 sl i' nd->Ri T E N i1 sl1 (K (v,b,pT T E N i' nd off' c'))):Ri T E N i1 sl1 (l9 (aQ (pT T E N i nd off c)) K):=by obtain⟨v,b,i',off',c',e,hv,h1⟩:=a9Z (E:=E) (N:=N) (nd:=nd) (off:=off) (c:=c) hT h.hi;rw[e];exact hK v b i' off' c' hv (QA h h1)
include hK
theorem a1O{l:List (List UInt8)}{K:Int×Bool×x9->Option (x9⊕Bool×x9)}(h:GdS T i0 sl i nd)(hl:l.length<=100000)(hK' :∀v b i' off' c',fE v->GdS T i0 sl i' nd->Ri T E N i1 sl1 (K (v,b,pT T E N i' nd off' c'))):Ri T E N i1 sl1 (l9 (fZ (pT T E N i nd off c) l) K):=by obtain⟨v,b,i',off',c',e,hv,h1⟩:=a4p (E:=E) (N:=N) (nd:=nd) (off:=off) (c:=c) hT hK h.hi hl;rw[e];exact hK' v b i' off' c' hv (QA h h1)
include hN
theorem b3w{m:Nat}(ih:AllT T E N m){op:Int}(h:GdS T i0 (sl+1) i nd)(hm:6*(T.length -i)+6<=m+1):Rs T E N i0 sl ((o8 (m+1)).2.2.2.2 (pT T E N i nd off c) op):=by
 rw[b8X];have hhi:=h.hi;have hlo:=h.lo;have hi:GdS T i (sl+1) i nd:=⟨A7 _,h.hi,h.sl,h.ni⟩;have dn:∀{j:Nat} {nd' :List (Int×Int)},GdS T i (sl+1) j nd' ->GdS T i sl j nd' :=λg=>mP g (A7 _) o5;refine WX (i0:=i) (sl:=sl) ?_ hlo (A7 _);unfold qL;have body:Ri T E N i sl (l7 (D6 op 35) (l9 (H6 (pT T E N i nd off c) op 0) λ(x:Bool×x9)=>some (Sum.inr x)) (some (.inr (true,pT T E N i nd off c)))):=Dz _ (YS (yw hT hi op oq)) (IE _ (dn hi));have tail:Rs T E N i sl (l9 ((o8 m).1 (pT T E N i nd off c)) λ(x:Bool×x9)=>
    l7 (G7 x.1) (some (false,x.2))
     (l7 (D6 op 31)
      (l7 (D6 op 31) (l9 (H6 x.2 op 0) λ(x:Bool×x9)=>some x) (some (false,x.2)))
      (some (false,x.2)))):=by
  refine uz (ih.e _ _ _ _ _ _ hi o5) (λb i1 nd1 off1 c1 g1=>?_);refine iZ _ (lU false (dn g1)) (iZ _ (iZ _ ?_ (lU false (dn g1))) (lU false (dn g1)));rw[bF];exact yw hT g1 op oq
 have md:∀{j:Nat} {nd' :List (Int×Int)} {off' c' :Int},GdS T i (sl+1) j nd' ->Rs T E N i sl (l9 (U4 (pT T E N j nd' off' c') [44]) λ(x:Bool×x9)=>
   l7 (G7 x.1) (some (false,x.2))
    (l9 (aQ x.2) λ(x:Int×Bool×x9)=>
     l7 x.2.1
      (l9 (H6 x.2.2 op x.1) λ(x:Bool×x9)=>some x)
      (some (false,x.2.2)))):=by
  intro j nd' off' c' g;refine uz (a7B hT g _) (λb i1 nd1 off1 c1 g1=>iZ _ (lU false (dn g1)) ?_);refine a9j hT g1 (λv b i2 off2 c2 hv g2=>iZ _ ?_ (lU false (dn g2)));rw[bF];exact yw hT g2 op hv
 have em:∀{j:Nat} {nd' :List (Int×Int)} {off' c' :Int},GdS T i (sl+1) j nd' ->Rs T E N i sl (l9 (H6 (pT T E N j nd' off' c') op 0) λ(x:Bool×x9)=>some x):=by intro j nd' off' c' g;rw[bF];exact yw hT g op oq
 clear body tail;have early:∀{A:Option (x9⊕Bool×x9)} {f:x9->Option (Bool×x9)},Ri T E N i sl A->Rs T E N i sl (l9 A λo=>aj o f λr=>some r):=by intro A f hA;obtain⟨b,j,nd',off',c',rfl,g⟩:=hA;exact lU b g
 cases D6 op 35
 case true=>exact early (YS (yw hT hi op oq))
 have h36:∃b,(l7 (D6 op 36) (some (D6 op 36))
    (l7 (D6 op 37) (some (D6 op 37)) (l7 (D6 op 38) (some (D6 op 38)) (some (D6 op 39)))))=some b:=by
  cases D6 op 36<;>cases D6 op 37<;>cases D6 op 38<;>exact⟨_,rfl⟩
 obtain⟨b36,h36⟩:=h36;rw[o6,h36,o9];cases b36
 case true=>rw[o7];refine early (a1O hT hK hi hN.m (λv b i2 off2 c2 hv g2=>Dz _ (YS (yw hT g2 op hv)) (IE _ (dn g2))))
 have h33:∃b,(l7 (D6 op 33) (some (D6 op 33)) (some (D6 op 34)))=some b:=by cases D6 op 33<;>exact⟨_,rfl⟩
 obtain⟨b33,h33⟩:=h33;rw[o6,h33,o9];cases b33
 case true=>rw[o7];refine early (a1O hT hK hi hN.t (λv b i1 off1 c1 hv g1=>Dz _ (IE _ (dn g1)) ?_));refine WV (a7B hT g1 _) (λb i2 nd2 off2 c2 g2=>Dz _ (IE _ (dn g2)) ?_);refine WV (ih.e _ _ _ _ _ _ g2 (by have:=g2.lo;omega)) (λb i3 nd3 off3 c3 g3=>Dz _ (IE _ (dn g3)) ?_);refine Dz _ (YS (yw hT g3 op hv)) ?_;refine WV (a7B hT g3 _) (λb i4 nd4 off4 c4 g4=>Dz _ (IE _ (dn g4)) ?_);refine a9g hT g4 (λw b i5 off5 c5 hw g5=>Dz _ (YS (yw hT g5 op (Wj _ _))) (IE _ (dn g5)))
 rw[o6,o9,W9];refine uz (ih.e _ _ _ _ _ _ hi o5) (λb i1 nd1 off1 c1 g1=>iZ _ (lU false (dn g1)) ?_);refine iZ _ (iZ _ (em g1) ?_) (iZ _ (em g1) ?_)
 all_goals
  refine uz (a7B hT g1 _) (λb i2 nd2 off2 c2 g2=>iZ _ (lU false (dn g2)) ?_);refine uz (ih.e _ _ _ _ _ _ g2 (by have:=g2.lo;omega)) (λb i3 nd3 off3 c3 g3=>iZ _ (lU false (dn g3)) ?_);exact iZ _ (iZ _ (md g3) (em g3)) (iZ _ (iZ _ (md g3) (em g3)) (iZ _ (md g3) (em g3)))
theorem a0Q:∀m,AllT T E N m
 |0=>⟨λ_ _ _ _ _ _ _ h=>by omega,λ_ _ _ _ _ _ _ _ h=>by omega,λ_ _ _ _ _ _ _ h=>by omega,λ_ _ _ _ _ _ _ h=>by omega,λ_ _ _ _ _ _ _ _ h=>by omega⟩|m+1=>
  have ih:=a0Q m
  ⟨λ_ _ _ _ _ _ h hm=>b3y hT ih h hm,λ_ _ _ _ _ _ _ h hm=>b3u hT ih h hm,λ_ _ _ _ _ _ h hm=>b8M hT hK ih h hm,λ_ _ _ _ _ _ h hm=>b3k hT hK hN ih h hm,λ_ _ _ _ _ _ _ h hm=>b3w hT hK hN ih h hm⟩
end
end Go.GP
namespace Go.GP
open Gt
set_option maxRecDepth 100000
theorem a6j{s:List UInt8}{i:Nat}{c:UInt8}(h:s[i]? =some c)(hc:128<=c.toNat):127<ng s (i:Int):=by
 have hg:(ByteArray.mk s.toArray).get! i=c:=by
  unfold ByteArray.get!;have:(s.toArray)[i]! =c:=by simp[h]
  exact this
 have hd:127<(Utf8.decode ⟨s.toArray⟩ i).1:=by
  unfold Utf8.decode;simp only[Z8,hg];rw[if_neg o5];have e:127<Utf8.runeError:=by decide
  split
  .split
   .rename_i h1 h2;simp only;omega
   .exact e
  .split
   .split
    .rename_i h1 h2 h3;simp only[A8,decide_eq_true_eq]at h3;simp only;omega
    .exact e
   .split
    .split
     .rename_i h1 h2 h3 h4;simp only[A8,decide_eq_true_eq]at h4;simp only;omega
     .exact e
    .exact e
 unfold ng;rw[E9];omega
def LnB(b:UInt8):Prop:=b=9\/prB b=true
theorem BD:∀L:List (List UInt8),L.length<=(mV L).length
 |[]=>A7 _|w::L=>by have:=BD L;simp[mV];omega
theorem a3v(s:List UInt8):∃L c,ut s=some (L,c)/\(c=0->s=mV L/\s.length<=65536/\∀w∈L,∀b∈w,LnB b):=by
 unfold ut;by_cases hl:65536<x8 s
 .rw[bu hl];exact⟨[],4,rfl,λh=>by cases h⟩
 have hl' :s.length<=65536:=by unfold x8 at hl;omega
 rw[X3 o5,o6];cases hq:seq s []
 case true=>exact⟨[],0,rfl,λ_=>⟨by rw[dU.1 hq];rfl,hl',λw hw=>by cases hw⟩⟩
 rw[o6];have hloop:=jw (f:=spF s) (s:=([],0,s,0)) (λx=>∃st p:Nat,x.2.1=(st:Int)/\x.2.2.1=s/\x.2.2.2=(p:Int)/\st<=p/\p<=s.length/\s.take st=mV x.1/\x.1.length<=st/\(∀w∈x.1,∀b∈w,LnB b)/\∀b∈(s.take p).drop st,LnB b)
  (λe=>∃st:Nat,e.2=(st:Int)/\st<=s.length/\s.take st=mV e.1/\∀w∈e.1,∀b∈w,LnB b) (λr=>r=([],2)) (λx=>s.length -x.2.2.2.toNat)
  ⟨0,0,rfl,rfl,rfl,A7 _,aU _,rfl,A7 _,(λw hw=>by cases hw),λb hb=>by simp at hb⟩ G5 (by
  rintro⟨acc,st0,s',p0⟩ ⟨st,p,h1,h2,h3,h4,h5,h6,h7,h8,h9⟩;simp only at h1 h2 h3 h6 h7 h8;subst h1;subst h2;subst h3;by_cases hlt:p<s'.length
  .have hc:=mW hlt;generalize s'[p]=c at hc;unfold spF;simp only[X9 hc,o7];by_cases hb:c.toNat<128
   .obtain⟨r1,r2⟩:=OD hc hb;rw[r1,r2];have tk:s'.take (p+1)=s'.take p++[c]:=by
     rw[Fg,hc];rfl
    have nx:LnB c->∃s'',(some (Out.nx (acc,(st:Int),s',((p+1:Nat):Int))):Option (Out (List (List UInt8)×Int×List UInt8×Int) (List (List UInt8)×Int) (List (List UInt8)×Int)))=some (.nx s'')/\(∃st p:Nat,s''.2.1=(st:Int)/\s''.2.2.1=s' /\s''.2.2.2=(p:Int)/\st<=p/\p<=s'.length/\s'.take st=mV s''.1/\s''.1.length<=st/\(∀w∈s''.1,∀b∈w,LnB b)/\∀b∈(s'.take p).drop st,LnB b)/\s'.length -s''.2.2.2.toNat<s'.length -((p:Int)).toNat:=by
     intro hL;refine⟨_,rfl,⟨st,p+1,rfl,rfl,rfl,o5,hlt,h6,h7,h8,λb hb=>?_⟩,by simp only[E9];omega⟩;rw[tk,kN G5]at hb;rcases F9.1 hb with hb|hb
     .exact h9 b hb
     .simp at hb;subst hb;exact hL
    by_cases h10:(c.toNat:Int)=10
    .rw[V5 h10,o7,show fO s' (st:Int) (p:Int)=_ from Yn h4 o5,o9,yC _ o5,o9,dC o5];have hc10:c=10:=by
      have:c.toNat=10:=o5;exact UInt8.toNat_inj.1 this
     refine .inl ⟨_,rfl,⟨p+1,p+1,rfl,rfl,rfl,A7 _,hlt,?_,by simp;omega,λw hw=>?_,λb hb=>by simp[gX]at hb⟩,by simp only[E9];omega⟩
     .simp only;rw[qP,←h6,tk,hc10];have e1:s'.take p=s'.take st++(s'.take p).drop st:=by
       have:=(X6 st (s'.take p)).symm;rw[fF,bC h4]at this;exact this
      rw[show mV [(s'.take p).drop st]=(s'.take p).drop st++[10]from rfl,←F7,←e1]
     .rcases F9.1 hw with hw|hw
      .exact h8 w hw
      .simp only[N9]at hw;subst hw;exact h9
    rw[N7 h10,o6];by_cases h9' :(c.toNat:Int)=9
    .rw[V5 h9',o7];exact .inl (nx (.inl (by have:c.toNat=9:=o5;exact UInt8.toNat_inj.1 this)))
    rw[N7 h9',o6];by_cases h32:(32:Int)<=(c.toNat:Int)
    .rw[aS h32,o7];by_cases h126:(c.toNat:Int)<=126
     .rw[aS h126,o7];exact .inl (nx (.inr (by unfold prB;simp;omega)))
     .rw[dP o5];exact .inr (.inr ⟨_,rfl,rfl⟩)
    .rw[dP o5];exact .inr (.inr ⟨_,rfl,rfl⟩)
   .have hh:=a6j hc o5;rw[N7 o5,o6,N7 o5,o6,aS o5,o7,dP o5];exact .inr (.inr ⟨_,rfl,rfl⟩)
  .unfold spF;rw[X3 (by unfold x8;simp only;omega)];exact .inr (.inl ⟨_,rfl,st,rfl,o5,h6,h8⟩))
 rcases hloop with⟨e,h,st,h1,h2,h3,h4⟩|⟨e,h,rfl⟩
 .have:∃L c,(l9 (S9 (spF s) ([],0,s,0)) λ(o:List (List UInt8)×Int⊕List (List UInt8)×Int)=>
   aj o (λ(y:List (List UInt8)×Int)=>l7 (G7 (D6 y.2 (x8 s))) (some ([],2)) (some (y.1,0)))
    λ(r:List (List UInt8)×Int)=>some r)=some (L,c)/\(c=0->s=mV L/\s.length<=65536/\∀w∈L,∀b∈w,LnB b):=by
   rw[h,o9,W9];by_cases hf:e.2=x8 s
   .rw[V5 hf];refine⟨_,_,rfl,λ_=>⟨?_,hl',h4⟩⟩;rw[←h3,U1 (by unfold x8 at hf;omega)]
   .rw[N7 hf];exact⟨_,_,rfl,λh=>by cases h⟩
  exact this
 .have:∃L c,(l9 (S9 (spF s) ([],0,s,0)) λ(o:List (List UInt8)×Int⊕List (List UInt8)×Int)=>
   aj o (λ(y:List (List UInt8)×Int)=>l7 (G7 (D6 y.2 (x8 s))) (some ([],2)) (some (y.1,0)))
    λ(r:List (List UInt8)×Int)=>some r)=some (L,c)/\(c=0->s=mV L/\s.length<=65536/\∀w∈L,∀b∈w,LnB b):=by
   rw[h];exact⟨_,_,rfl,λh=>by cases h⟩
  exact this
theorem a8u{w:List UInt8}(h:∀b∈w,LnB b):Asc w:=λc hc=>by
 rcases h c hc with rfl|h
 .decide
 .have:=(b3U h).2;omega
end Go.GP
