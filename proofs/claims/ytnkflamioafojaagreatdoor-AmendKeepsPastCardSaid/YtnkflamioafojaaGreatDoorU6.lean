import Derived.Test.YtnkflamioafojaaGreatDoorU5
import Derived.Test.YtnkflamioafojaaGreatDoorU1
import Derived.Test.YtnkflamioafojaaGreatDoorU3
set_option linter.all false
namespace Go.GP
variable {a:Int}{b:Int}{n:Int}
section
variable {α β σ ε ρ:Type}
@[simp] theorem x8 (x:α) (f:α->Option β):l9 (some x) f=f x:=rfl
@[simp] theorem b9I (f:α->Option β):l9 none f=none:=rfl
theorem um{o:Option α}{x:α}(h:o=some x)(f:α->Option β):l9 o f=f x:=by rw[h];rfl
theorem fU{o o' :Option α}(h:o=o'){K:α->Option β}{r:Option β}(h2:l9 o' K=r):l9 o K=r:=by rw[h];exact h2
theorem lm(o:Option α):l9 o (λx=>some x)=o:=by cases o<;>rfl
@[simp] theorem o7 (x y:α):l7 true x y=x:=rfl
@[simp] theorem o6 (x y:α):l7 false x y=y:=rfl
theorem En{b:Bool}(h:b=true)(x y:α):l7 b x y=x:=by rw[h];rfl
theorem FP{b:Bool}(h:b=false)(x y:α):l7 b x y=y:=by rw[h];rfl
@[simp] theorem aj (s:σ) (f:σ->α) (g:ε->α):U4 (.inl s) f g=f s:=rfl
@[simp] theorem Iy (s:ε) (f:σ->α) (g:ε->α):U4 (.inr s) f g=g s:=rfl
@[simp] theorem G6:D9 true=false:=rfl
@[simp] theorem gz:D9 false=true:=rfl
theorem V7(h:a<b):E5 a b=true:=by simp[E5,h]
theorem O6(h:b<=a):E5 a b=false:=by simp[E5];omega
theorem af(h:a<=b):J8 a b=true:=by simp[J8,h]
theorem aA(h:b<a):J8 a b=false:=by simp[J8];omega
theorem X0(h:a=b):o9 a b=true:=by simp[o9,h]
theorem U2(h:a≠b):o9 a b=false:=by simp[o9,h]
theorem ku :E5 a b=true↔a<b:=by simp[E5]
theorem sK :J8 a b=true↔a<=b:=by simp[J8]
theorem Z5 :o9 a b=true↔a=b:=by simp[o9]
theorem gU :E5 a b=false↔b<=a:=by simp[E5]
theorem Fa :J8 a b=false↔b<a:=by simp[J8]
theorem zC :o9 a b=false↔a≠b:=by simp[o9]
theorem a9u{a b:d4H} :seq a b=true↔a=b:=by simp[seq]
theorem kH(h:0<=a):a.tdiv b=a / b:=Int.tdiv_eq_ediv_of_nonneg h
theorem zK(h:0<=a):dG a b=a % b:=fK h
def kQ(n:Int):Prop:=-9223372036854775808<=n/\n<=9223372036854775807
theorem P6{p:Int}(h:kQ p:=by unfold kQ;omega):kQ p:=h
def U64(n:Int):Prop:=0<=n/\n<=18446744073709551615
theorem mW(h:kQ n):IntKind.wrap .i64 n=n:=by unfold kQ at h;unfold IntKind.wrap;simp[IntKind.signed,IntKind.bits];omega
theorem b6I(h:U64 n):IntKind.wrap .u64 n=n:=by unfold U64 at h;unfold IntKind.wrap;simp[IntKind.signed,IntKind.bits];omega
theorem Z8(h:kQ (a+b)):C9 .i64 a b=a+b:=mW h
theorem V4(h:kQ (a -b)):G8 .i64 a b=a -b:=mW h
theorem mJ(h:kQ (a*b)):Z7 .i64 a b=a*b:=mW h
theorem Cf(h:kQ (a.tdiv b)):cZ .i64 a b=a.tdiv b:=mW h
theorem Fv(h:(Lit.int .i64 n).wf=true):kQ n:=by simp[Lit.wf,IntKind.min,IntKind.max,IntKind.signed,IntKind.bits]at h;unfold kQ;omega
theorem a4e(l:List α):0<=o8 l:=by simp[o8]
theorem I5(l:List α)(i:Nat):G9 l (i:Int)=l[i]?:=by simp[G9]
theorem rq{l:List α}{i:Int}{x:α}(h:G9 l i=some x):0<=i/\i<o8 l/\x∈l/\l[i.toNat]? =some x:=by
 unfold G9 at h;split at h
 .rename_i h0;obtain⟨h1,h2⟩:=aO.1 h;refine⟨h0,by simp[o8];omega,?_,h⟩;rw[←h2];exact O5 h1
 .cases h
theorem qA{l:List α}{i:Int}(h0:0<=i)(h:i<o8 l):∃x,G9 l i=some x/\x∈l:=by
 unfold o8 at h;refine⟨l[i.toNat]'o5,?_,O5 _⟩;unfold G9
 rw[if_pos h0,fO]
theorem a9t(l:d4H)(i:Nat):sat l (i:Int)=(l[i]?).map λc=>(c.toNat:Int):=by simp[sat]
theorem FX{a b:List α}(h:a.length+b.length<=1073741824):dB a b=some (a++b):=by simp[dB,h]
theorem b7g{l:List α}{lo hi:Int}(h0:0<=lo)(h1:lo<=hi)(h2:hi<=l.length):nH l lo hi=some ((l.take hi.toNat).drop lo.toNat):=by simp[nH,h0,h1,h2]
theorem b7h{l:List α}{hi:Int}(h1:0<=hi)(h2:hi<=l.length):nH l 0 hi=some (l.take hi.toNat):=by rw[b7g o5 h1 h2];simp
end
section
variable {σ ε ρ:Type}
theorem WF{f:σ->Option (σ⊕ε)}(Inv:σ->Prop)(Q:ε->Prop)(meas:σ->Nat)
  (h:∀s,Inv s->(∃s',f s=some (.inl s')/\Inv s' /\meas s' <meas s)\/(∃e,f s=some (.inr e)/\Q e)):
  ∀n s,Inv s->meas s<n->∃e,sZ f n s=some e/\Q e
 |0,_,_,h=>by omega|n+1,s,hi,hm=>by
  unfold sZ;rcases h s hi with⟨s',e,hi',hm'⟩|⟨x,e,hx⟩
  .rw[e];exact WF Inv Q meas h n s' hi' o5
  .rw[e];exact⟨x,rfl,hx⟩
theorem jg{f:σ->Option (σ⊕ε)}{s:σ}(Inv:σ->Prop)(Q:ε->Prop)(meas:σ->Nat)(hi:Inv s)(hm:meas s<18446744073709551616)
  (h:∀s,Inv s->(∃s',f s=some (.inl s')/\Inv s' /\meas s' <meas s)\/(∃e,f s=some (.inr e)/\Q e)):∃e,aX f s=some e/\Q e:=
 WF Inv Q meas h _ s hi hm
theorem Zj{f:σ->Option (Out σ ε ρ)}(Inv:σ->Prop)(Q:ε->Prop)(Qr:ρ->Prop)(meas:σ->Nat)
  (h:∀s,Inv s->(∃s',f s=some (.nx s')/\Inv s' /\meas s' <meas s)\/(∃e,f s=some (.ex e)/\Q e)\/(∃r,f s=some (.rt r)/\Qr r)):
  ∀n s,Inv s->meas s<n->(∃e,rX f n s=some (.inl e)/\Q e)\/(∃r,rX f n s=some (.inr r)/\Qr r)
 |0,_,_,h=>by omega|n+1,s,hi,hm=>by
  unfold rX;rcases h s hi with⟨s',e,hi',hm'⟩|⟨x,e,hx⟩|⟨x,e,hx⟩
  .rw[e];exact Zj Inv Q Qr meas h n s' hi' o5
  .rw[e];exact .inl ⟨x,rfl,hx⟩
  .rw[e];exact .inr ⟨x,rfl,hx⟩
theorem DW{f:σ->Option (Out σ ε ρ)}{s:σ}(Inv:σ->Prop)(Q:ε->Prop)(Qr:ρ->Prop)(meas:σ->Nat)(hi:Inv s)(hm:meas s<18446744073709551616)
  (h:∀s,Inv s->(∃s',f s=some (.nx s')/\Inv s' /\meas s' <meas s)\/(∃e,f s=some (.ex e)/\Q e)\/(∃r,f s=some (.rt r)/\Qr r)):
  (∃e,U3 f s=some (.inl e)/\Q e)\/(∃r,U3 f s=some (.inr r)/\Qr r):=
 Zj Inv Q Qr meas h _ s hi hm
end
section
variable {α β ε ρ:Type}
open Classical in
theorem a0N(l:List α)(p:Nat->α->Bool)(r:ρ)(e:ε)(f:Int->Option (Out Int ε ρ))(hl:l.length<18446744073709551616)
  (hin:∀(i:Nat) (a:α),l[i]? =some a->f (i:Int)=if p i a=true then some (.nx ((i+1:Nat):Int))else some (.rt r))
  (hend:f (l.length:Int)=some (.ex e)):
  U3 f 0=if(∀i a,l[i]? =some a->p i a=true)then some (.inl e)else some (.inr r):=by
 have key:∀(n i:Nat),i<=l.length->l.length -i<n->(∀j a,j<i->l[j]? =some a->p j a=true)->rX f n (i:Int)=if(∀i a,l[i]? =some a->p i a=true)then some (.inl e)else some (.inr r):=by
  intro n;induction n with
  |zero=>intro i _ h;omega|succ n ih=>
   intro i hi hn hp;unfold rX;by_cases h:i<l.length
   .have e' :=fO h;rw[hin i _ e'];by_cases hpi:p i l[i]=true
    .rw[if_pos hpi];exact ih (i+1) o5 o5 λj a hj ha=>by
      by_cases hji:j=i
      .subst hji;rw[e']at ha;cases ha;exact hpi
      .exact hp j a o5 ha
    .rw[if_neg hpi,if_neg];intro hall;exact hpi (hall i _ e')
   .have:i=l.length:=o5;subst this;rw[hend,if_pos];intro j a ha;exact hp j a (aO.1 ha).1 ha
 exact key _ 0 (gX _) hl λj a hj=>by omega
end
end Go.GP
namespace Go.GP
section
variable {α β α' β' σ τ ε ε' ρ ρ' :Type}
theorem OV{p:Nat->Option ρ}(n:Nat)(hn:n<18446744073709551616)(e:ε){f:Int->Option (Out Int ε ρ)}
  (h1:∀i,i<n->f (i:Int)=some (match p i with|some r=> .rt r|none=> .nx ((i+1:Nat):Int))) (h2:f (n:Int)=some (.ex e)):
  U3 f 0=some (match(List.range n).findSome? p with|some r=> .inr r|none=> .inl e):=by
 have key:∀m i,i+m=n->∀k,m<k->rX f k (i:Int)=some (match(List.range' i m).findSome? p with|some r=> .inr r|none=> .inl e):=by
  intro m;induction m with
  |zero=>intro i hi k hk;obtain⟨k,rfl⟩:∃k',k=k' +1:=⟨k -1,o5⟩;have:i=n:=o5;subst this;unfold rX;rw[h2];rfl
  |succ m ih=>
   intro i hi k hk;obtain⟨k,rfl⟩:∃k',k=k' +1:=⟨k -1,o5⟩;unfold rX;rw[h1 i o5,nR,List.findSome?_cons];cases hp:p i with
   |some r=>rfl|none=>exact ih (i+1) o5 k o5
 have:=key n 0 o5 lH hn;rw[List.range_eq_range'];exact this
end
end Go.GP
namespace Go.GP
open Gt
set_option maxRecDepth 100000
section
variable {i:Nat}
theorem iy(h:i<=9000000000000000000):C9 .i64 (i:Int) 1=((i+1:Nat):Int):=by rw[Z8 P6];omega
def a1V(c:UInt8):Bool:=decide (97<=c.toNat)&&decide (c.toNat<=122)
def NR(c:UInt8):Bool:=a1V c || (decide (48<=c.toNat)&&decide (c.toNat<=57)) || decide (c.toNat=95)
def a0a:List d4H:=yG.getD []
def AQ(s:d4H):Bool:=match s with|[]=>false|c::r=>decide (s.length<=16)&&a1V c&&s.all NR&&!(a0a.any λw=>seq s w)
theorem b0j(c:UInt8)(r:d4H):AQ (c::r)=(decide ((c::r).length<=16)&&a1V c&&(c::r).all NR&&!(a0a.any λw=>seq (c::r) w)):=rfl
theorem a4j(c:UInt8):qZ (c.toNat:Int)=some (a1V c):=by
 unfold qZ a1V;cases h:decide (97<=c.toNat)<;>simp only[decide_eq_true_eq,decide_eq_false_iff_not]at h
 .rw[aA o5];rfl
 .rw[af o5];simp only[o7,AU,J8];congr 1;by_cases h2:c.toNat<=122<;>simp[h2]<;>omega
def b1V(c:UInt8):Bool:=decide (48<=c.toNat)&&decide (c.toNat<=57)
theorem b1W(c:UInt8):oN (c.toNat:Int)=some (b1V c):=by
 unfold oN b1V;cases h:decide (48<=c.toNat)<;>simp only[decide_eq_true_eq,decide_eq_false_iff_not]at h
 .rw[aA o5];rfl
 .rw[af o5];simp only[o7,AU,J8];congr 1;by_cases h2:c.toNat<=57<;>simp[h2]<;>omega
theorem c3T(c:UInt8):o9 (c.toNat:Int) 95=decide (c.toNat=95):=by unfold o9;by_cases h:c.toNat=95<;>simp[h]<;>omega
variable {s:d4H}
theorem S_(h:s.length<=4611686018427387904):∃k,vN s=some k/\(k=o8 s↔s.all NR=true):=by
 unfold vN;have:=jg (f:=λ(x:Int)=>l7 (E5 x (o8 s)) (l9 (sat s x) λx_1=>l9 (qZ x_1) λx_2=>l7 x_2 (some (Sum.inl (C9 IntKind.i64 x 1)))
   (l9 (sat s x) λx_3=>l9 (oN x_3) λx_4=>l7 x_4 (some (Sum.inl (C9 IntKind.i64 x 1))) (l9 (sat s x) λx_5=>l7 (o9 x_5 95) (some (Sum.inl (C9 IntKind.i64 x 1))) (some (Sum.inr x))))) (some (Sum.inr x)))
  (s:=0) (λx=>∃i:Nat,x=i/\i<=s.length/\(s.take i).all NR=true) (λk=>k=o8 s↔s.all NR=true) (λx=>s.length -x.toNat) ⟨0,rfl,o5,rfl⟩ aH ?_
 .obtain⟨k,h1,h2⟩:=this;refine⟨k,?_,h2⟩;rw[lm];exact h1
 .rintro x ⟨i,rfl,hi,hall⟩;by_cases hl:i<s.length
  .have e:=fO hl;simp only[V7 (show(i:Int)<o8 s by simp[o8];omega),o7,a9t,e,jR,x8,a4j,b1W,c3T];have hst:(s.take (i+1)).all NR=((s.take i).all NR&&NR s[i]):=by rw[U1 hl,List.all_append];simp
   have hw:NR s[i]=(a1V s[i] || b1V s[i] || decide (s[i].toNat=95)):=rfl;cases hwb:NR s[i]with
   |true=>left;refine⟨((i+1:Nat):Int),?_,⟨i+1,rfl,hl,by rw[hst,hall,hwb];rfl⟩,by simp;omega⟩;rw[iy o5];rw[hw]at hwb;cases h1:a1V s[i]<;>cases h2:b1V s[i]<;>cases h3:decide (s[i].toNat=95)<;>rw[h1,h2,h3]at hwb<;>first|rfl|cases hwb
   |false=>
    right;refine⟨(i:Int),?_,?_⟩
    .rw[hw]at hwb;cases h1:a1V s[i]<;>cases h2:b1V s[i]<;>cases h3:decide (s[i].toNat=95)<;>rw[h1,h2,h3]at hwb<;>first|rfl|cases hwb
    .constructor
     .intro h;simp[o8]at h;omega
     .intro h;have:=nN.1 h s[i] (O5 hl);rw[hwb]at this;cases this
  .right;have:i=s.length:=o5;subst this;rw[bM]at hall;exact⟨_,by rw[O6 (by simp[o8])];rfl,by simp[o8,hall]⟩
theorem b0S{a:d4H}{w:d4H}{r:d4L}{x:Bool}(h:r=some x):l7 (seq a w) (some (seq a w)) r=some (seq a w || x):=by rw[h];cases seq a w<;>rfl
theorem a4T(s:d4H):CO s=some (a0a.any λw=>seq s w):=by
 unfold CO;refine fU (o' :=some (a0a.any λw=>seq s w)) ?_ (by cases a0a.any λw=>seq s w<;>rfl);have hr:a0a=(yG).getD []:=rfl;rw[show(a0a.any λw=>seq s w)=List.foldr (λw b=>seq s w || b) false a0a from by induction a0a with|nil=>rfl|cons w l ih=>simp[List.any_cons,ih]];unfold a0a yG;simp only[fD,List.foldr]
 repeat (refine b0S ?_)
 simp
theorem JR(h:s.length<=4611686018427387904):Z4 s=some (AQ s):=by
 unfold Z4;cases s with
 |nil=>rfl|cons c r=>
  have h1:seq (c::r) []=false:=by simp[seq]
  obtain⟨k,h2,h3⟩:=S_ h;rw[h1];simp only[gz,o7];rw[show sat (c::r) 0=some (c.toNat:Int)from rfl,x8,a4j,x8,h2,x8,a4T,x8];have h4:o9 k (o8 (c::r))=(c::r).all NR:=by rw[pK,Z5];exact h3
  have h5:J8 (o8 (c::r)) 16=decide ((c::r).length<=16):=by simp only[J8,o8];congr 1;simp;omega
  rw[h4,h5,b0j];cases a1V c<;>cases (c::r).all NR<;>cases decide ((c::r).length<=16)<;>rfl
theorem wS(h:s.length<=1000000):Z4 s=some (AQ s):=JR o5
theorem Gw(t:Int×Int)(en:List dI):fF t en=bF t en:=by
 unfold fF bF;by_cases h1:t.1=1
 .simp[o9,h1,J8]
 by_cases h2:t.1=2
 .simp[o9,h2,J8]
 by_cases h3:t.1=3
 .simp[o9,h3,J8]
 by_cases h4:t.1=4
 .simp[o9,h4,J8]
 by_cases h5:t.1=5
 .simp[o9,h5,J8]
 by_cases h6:t.1=6
 .simp[o9,h6,J8]
 .simp only[o9,h1,h2,h3,h4,h5,h6,decide_false,o6,x8];by_cases h7:1<=t.1
  .rw[En (af h7),FP (aA o5)]
  .rw[FP (aA o5)]
theorem a0s(t:Int×Int)(en:List dI):kG t en=jA t en:=by unfold kG jA;rw[Gw]
def vty(t:Int×Int)(en:List dI):Bool:=l7 (o9 t.1 6) (l7 (J8 0 t.2) (E5 t.2 (o8 en)) false) (l7 (J8 1 t.1) (l7 (J8 t.1 5) (o9 t.2 0) false) false)
theorem rf(t:Int×Int)(en:List dI):bF t en=some (vty t en):=by unfold bF vty;cases o9 t.1 6<;>cases J8 0 t.2<;>cases J8 1 t.1<;>cases J8 t.1 5<;>rfl
theorem zq(t:Int×Int)(en:List dI):fF t en=some (vty t en):=(Gw t en).trans (rf t en)
theorem a2l(t:Int×Int)(en:List dI):∃b:Int×Int,jA t en=some b:=by
 unfold jA;rw[rf,x8];cases hv:vty t en
 .exact⟨_,rfl⟩
 simp only[G6,o6];cases h1:o9 t.1 1<;>simp only[o7,o6]
 .cases h2:o9 t.1 2<;>simp only[o7,o6]
  .cases h3:o9 t.1 3<;>simp only[o7,o6]
   .cases h4:o9 t.1 4<;>simp only[o7,o6]
    .cases h5:o9 t.1 5<;>simp only[o7,o6]
     .have h6:o9 t.1 6=true/\J8 0 t.2=true/\E5 t.2 (o8 en)=true:=by
       unfold vty at hv;rw[zC]at h1 h2 h3 h4 h5;cases h6:o9 t.1 6<;>rw[h6]at hv
       .rw[zC]at h6;cases h7:J8 1 t.1<;>rw[h7]at hv
        .cases hv
        cases h8:J8 t.1 5<;>rw[h8]at hv
        .cases hv
        rw[sK]at h7 h8;omega
       .cases h7:J8 0 t.2<;>rw[h7]at hv
        .cases hv
        .exact⟨rfl,rfl,hv⟩
      obtain⟨x,hx,_⟩:=qA (sK.1 h6.2.1) (ku.1 h6.2.2);rw[hx];exact⟨_,rfl⟩
     .exact⟨_,rfl⟩
    .exact⟨_,rfl⟩
   .exact⟨_,rfl⟩
  .exact⟨_,rfl⟩
 .exact⟨_,rfl⟩
def bnd(t:Int×Int)(en:List dI):Int×Int:=(jA t en).getD (0,0)
theorem ZK(t:Int×Int)(en:List dI):jA t en=some (bnd t en):=by obtain⟨b,h⟩:=a2l t en;unfold bnd;rw[h];rfl
theorem Vg(t:Int×Int)(en:List dI):kG t en=some (bnd t en):=(a0s t en).trans (ZK t en)
def inB(n:Int)(b:Int×Int):Bool:=l7 (J8 b.1 n) (J8 n b.2) false
def zI(r:Int×Int):Bool:=l7 (J8 0 r.1) (l7 (J8 r.1 r.2) (J8 r.2 109573) false) false
theorem Qj(r:Int×Int):tu r=some (zI r):=by unfold tu zI;cases J8 0 r.1<;>cases J8 r.1 r.2<;>rfl
def YH(a b:Int×Int):(Int×Int)×Bool:=l7 (zI a) (l7 (zI b) (l7 (J8 (qG a.2 b.2) (mZ a.1 b.1)) ((0,0),false) ((mZ a.1 b.1,qG a.2 b.2),true)) ((0,0),false)) ((0,0),false)
theorem b8f(a b:Int×Int):uS a b=some (YH a b):=by
 unfold uS xB YH;rw[Qj,x8,Qj,x8];cases zI a
 .rfl
 simp only[o7];cases h1:E5 a.1 a.2
 .rw[gU]at h1;rw[af (show qG a.2 b.2<=mZ a.1 b.1 by unfold qG mZ;omega)];cases zI b<;>rfl
 simp only[x8,G6,o6];cases zI b
 .rfl
 simp only[o7];cases h2:E5 b.1 b.2
 .rw[gU]at h2;rw[af (show qG a.2 b.2<=mZ a.1 b.1 by unfold qG mZ;omega)];rfl
 .cases J8 (qG a.2 b.2) (mZ a.1 b.1)<;>rfl
def xy(a b:lG):Bool:=l7 (YH a.1 b.1).2 (E5 (mZ a.2.1 b.2.1) (qG a.2.2.1 b.2.2.1)) false
theorem a3v(a b:lG):Dn a b=some (xy a b):=by unfold Dn xy;rw[b8f,x8];cases (YH a.1 b.1).2<;>rfl
theorem b2f{l:List lG}(r:lG)(h:l.length<=1000000):∃k:Int,uX l r=some (k,l.any λy=>xy y r):=by
 unfold uX;have key:=DW (f:=λ(x:Int)=>l7 (E5 x (o8 l)) (l9 (G9 l x) λx_1=>l9 (vW x_1 r) λx_2=>l7 x_2 (some (Out.rt (x,true))) (some (Out.nx (C9 IntKind.i64 x 1)))) (some (Out.ex PUnit.unit)))
   (s:=0) (λx=>∃i:Nat,x=i/\i<=l.length/\(l.take i).any (λy=>xy y r)=false) (λ_=>(l.any λy=>xy y r)=false) (λk=>k.2=true/\(l.any λy=>xy y r)=true) (λx=>l.length -x.toNat) ⟨0,rfl,o5,rfl⟩ aH ?_
 .rcases key with⟨e,h1,h2⟩|⟨k,h1,h2,h3⟩
  .exact⟨0,by rw[h1,h2];rfl⟩
  .refine⟨k.1,?_⟩;rw[h1,h3,←h2];rfl
 .rintro x ⟨i,rfl,hi,hall⟩;by_cases hl:i<l.length
  .have e:=fO hl;have hst:(l.take (i+1)).any (λy=>xy y r)=((l.take i).any (λy=>xy y r) || xy l[i] r):=by rw[U1 hl,yu];simp
   have hv:vW l[i] r=some (xy l[i] r):=by unfold vW;rw[a3v];rfl
   simp only[V7 (show(i:Int)<o8 l by simp[o8];omega),o7,I5,e,x8,hv];cases hc:xy l[i] r with
   |true=>exact .inr (.inr ⟨_,rfl,rfl,nO.2 ⟨l[i],O5 hl,hc⟩⟩)|false=>exact .inl ⟨((i+1:Nat):Int),by rw[iy o5];rfl,⟨i+1,rfl,hl,by rw[hst,hall,hc];rfl⟩,by simp;omega⟩
  .have:i=l.length:=o5;subst this;rw[bM]at hall;exact .inr (.inl ⟨_,by rw[O6 (by simp[o8])];rfl,hall⟩)
def Fz(x:lG)(bl br:Int×Int):Bool:=
 l7 (zI x.1) (l7 (o9 x.1.1 x.1.2) true (l7 (J8 x.2.2.1 x.2.1) true (l7 (inB x.2.1 bl) (l7 (inB (G8 .i64 x.2.2.1 1) bl) (D9 (inB x.2.2.2 br)) true) true))) true
def NV(t:ak)(en:List dI)(i:Nat):Option (Int×Int):=match t.2.2.2[i]? with
 |some x=>l7 (Fz x (bnd t.2.1 en) (bnd t.2.2.1 en)) (some ((i:Int),3)) (l7 ((t.2.2.2.take i).any λy=>xy y x) (some ((i:Int),11)) none)|none=>none
def KZ(t:ak)(en:List dI):Int×Int:=
 l7 (E5 64 (o8 t.2.2.2)) (64,4) (l7 (vty t.2.1 en) (l7 (vty t.2.2.1 en) (match(List.range t.2.2.2.length).findSome? (NV t en)with|some r=>r|none=>(0,0)) (-1,8)) (-1,8))
theorem ug(a b:Int):E5 a b= !J8 b a:=by simp only[E5,J8];rw[←decide_not];congr 1;simp
variable {α:Type}
theorem BB{l:List α}(h:i<=l.length):nH l 0 (i:Int)=some (l.take i):=by rw[b7h o5 o5];simp
theorem b6t(t:ak)(en:List dI):Dl t en=some (KZ t en):=by
 unfold Dl KZ;rw[zq,x8,zq,x8];cases h64:E5 64 (o8 t.2.2.2)
 case true=>rfl
 simp only[o6];cases vty t.2.1 en
 .rfl
 cases vty t.2.2.1 en
 .rfl
 simp only[G6,o6,x8,aj,o7,Vg];have hlen:t.2.2.2.length<=64:=by rw[gU]at h64;simp only[o8]at h64;omega
 refine fU (OV (p:=NV t en) t.2.2.2.length o5 PUnit.unit (λi hi=>?_) ?_) ?_
 rotate_left 2
 .cases (List.range t.2.2.2.length).findSome? (NV t en)<;>rfl
 .have e:=fO hi;simp only[V7 (show(i:Int)<o8 t.2.2.2 by simp only[o8];omega),o7,I5,e,x8,NV,Qj,BB (show i<=t.2.2.2.length by omega)];obtain⟨k,hk⟩:=b2f (l:=t.2.2.2.take i) t.2.2.2[i] aH;rw[hk,iy o5];unfold Fz inB;simp only[ug];generalize bnd t.2.1 en=bl;generalize bnd t.2.2.1 en=br;cases zI t.2.2.2[i].1
  .rfl
  cases o9 t.2.2.2[i].1.1 t.2.2.2[i].1.2
  case true=>rfl
  cases J8 t.2.2.2[i].2.2.1 t.2.2.2[i].2.1
  case true=>rfl
  cases J8 bl.1 t.2.2.2[i].2.1
  .rfl
  cases J8 t.2.2.2[i].2.1 bl.2
  .rfl
  cases J8 bl.1 (G8 IntKind.i64 t.2.2.2[i].2.2.1 1)
  .rfl
  cases J8 (G8 IntKind.i64 t.2.2.2[i].2.2.1 1) bl.2
  .rfl
  cases J8 br.1 t.2.2.2[i].2.2.2
  .rfl
  cases J8 t.2.2.2[i].2.2.2 br.2
  .rfl
  cases (t.2.2.2.take i).any λy=>xy y t.2.2.2[i]<;>rfl
 .rw[O6 (by simp[o8])];rfl
section
variable {α ε ρ:Type}
theorem Lh(l:List α)(p:α->Bool)(r:ρ)(e:ε){f:Int->Option (Out Int ε ρ)}(hl:l.length<=1000000)
  (hin:∀(i:Nat) (a:α),l[i]? =some a->f (i:Int)=some (bif p a then .rt r else .nx (C9 .i64 (i:Int) 1))) (hend:f (l.length:Int)=some (.ex e)):
  U3 f 0=some (bif l.any p then .inr r else .inl e):=by
 rw[a0N l (λi a=> !p a) r e f o5 (λi a ha=>?_) hend]
 .have hb:(∀(j:Nat) (a:α),l[j]? =some a->(!p a)=true)↔l.any p=false:=by
   rw[ig];constructor
   .intro h x hx;obtain⟨j,hj,rfl⟩:=Z9 hx;have:=h j _ (fO hj);simpa using this
   .intro h j a hj;have:=h a (mM hj);simpa using this
  by_cases hv:l.any p=false
  .rw[if_pos (hb.2 hv),hv];rfl
  .rw[if_neg (λh=>hv (hb.1 h))];simp only[LM]at hv;rw[hv];rfl
 .have hi:=(aO.1 ha).1;rw[hin i a ha,iy o5];cases p a<;>rfl
theorem DT(l:List α)(p:α->Bool){f:Int->Option (Out Int PUnit Int)}(hl:l.length<=1000000)
  (hin:∀(i:Nat) (a:α),l[i]? =some a->f (i:Int)=some (bif p a then .rt (i:Int)else .nx (C9 .i64 (i:Int) 1))) (hend:f (l.length:Int)=some (.ex PUnit.unit)):
  l9 (l9 (U3 f 0) λo=>U4 o (λ_=>some (-1)) λr=>some r) (λx=>some (J8 0 x))=some (l.any p):=by
 have key:=DW (f:=f) (s:=0) (λx=>∃i:Nat,x=i/\i<=l.length/\(l.take i).any p=false) (λ_=>l.any p=false) (λk=>0<=k/\l.any p=true) (λx=>l.length -x.toNat) ⟨0,rfl,o5,rfl⟩ aH ?_
 .rcases key with⟨e,h1,h2⟩|⟨k,h1,h2,h3⟩
  .rw[h1,h2];rfl
  .rw[h1,h3,x8,Iy,x8,af h2]
 .rintro x ⟨i,rfl,hi,hall⟩;by_cases h:i<l.length
  .have e:=fO h;have hst:(l.take (i+1)).any p=((l.take i).any p || p l[i]):=by rw[U1 h,yu];simp
   rw[hin i _ e];cases hc:p l[i]with
   |true=>exact .inr (.inr ⟨_,rfl,o5,nO.2 ⟨l[i],O5 h,hc⟩⟩)|false=>exact .inl ⟨((i+1:Nat):Int),by rw[iy o5];rfl,⟨i+1,rfl,h,by rw[hst,hall,hc];rfl⟩,by simp;omega⟩
  .have:i=l.length:=o5;subst this;rw[bM]at hall;exact .inr (.inl ⟨_,hend,hall⟩)
theorem V6{l:List α}{a:α}(h:l[i]? =some a):E5 (i:Int) (o8 l)=true:=V7 (by have:=(aO.1 h).1;simp only[o8];omega)
theorem V5(l:List α):E5 (l.length:Int) (o8 l)=false:=O6 (by simp[o8])
end
theorem RY{l:List dI}(n:d4H)(h:l.length<=1000000):Bz l n=some (l.any λx=>seq x.1 n):=by unfold Bz kF lJ;rw[lm];refine DT l (λx=>seq x.1 n) h (λi a ha=>?_) (by rw[V5];rfl);rw[V6 ha,o7,I5,ha,x8];unfold JI;rw[x8];cases seq a.1 n<;>rfl
theorem WB{l:List ak}(n:d4H)(h:l.length<=1000000):CG l n=some (l.any λx=>seq x.1 n):=by unfold CG jD kP;rw[lm];refine DT l (λx=>seq x.1 n) h (λi a ha=>?_) (by rw[V5];rfl);rw[V6 ha,o7,I5,ha,x8];unfold Hy;rw[x8];cases seq a.1 n<;>rfl
theorem a3R{l:List F5}(s:F5)(h:l.length<=1000000):gQ l s=some (l.any λx=>seq x.1 s.1):=by unfold gQ kN;refine DT l (λx=>seq x.1 s.1) h (λi a ha=>?_) (by rw[V5];rfl);rw[V6 ha,o7,I5,ha,x8];unfold DV;rw[x8];cases seq a.1 s.1<;>rfl
theorem a6z{l:List bf}(s:bf)(h:l.length<=1000000):iG l s=some (l.any λx=>seq x.1 s.1):=by unfold iG lK;refine DT l (λx=>seq x.1 s.1) h (λi a ha=>?_) (by rw[V5];rfl);rw[V6 ha,o7,I5,ha,x8];unfold Ff;rw[x8];cases seq a.1 s.1<;>rfl
theorem WA{l:List iH}(s:iH)(h:l.length<=1000000):dU l s=some (l.any λx=>seq x.1 s.1):=by unfold dU kM;refine DT l (λx=>seq x.1 s.1) h (λi a ha=>?_) (by rw[V5];rfl);rw[V6 ha,o7,I5,ha,x8];unfold DU;rw[x8];cases seq a.1 s.1<;>rfl
theorem b0g{l:List d4H}(s:d4H)(h:l.length<=1000000):kV l s=some (l.any λx=>seq s x):=by unfold kV jU;refine DT l (λx=>seq s x) h (λi a ha=>?_) (by rw[V5];rfl);rw[V6 ha,o7,I5,ha,x8];cases seq s a<;>rfl
variable {l:d4I}
theorem b0f(s:Int)(h:l.length<=1000000):qi l s=some (l.any λx=>o9 s x):=by unfold qi yO;refine DT l (λx=>o9 s x) h (λi a ha=>?_) (by rw[V5];rfl);rw[V6 ha,o7,I5,ha,x8];cases o9 s a<;>rfl
theorem a8J(i k:Nat):E5 (i:Int) (k:Int)=decide (i<k):=by unfold E5;by_cases h:i<k<;>simp[h]<;>omega
def EU(l:U6)(kind:Nat)(k:Nat)(n:d4H):Bool:=
 match kind with
 |1=>(l.1.take k).any λx=>seq x.1 n|2=>(l.1.any λx=>seq x.1 n) || ((l.2.1.take k).any λx=>seq x.1 n)|_=>(l.1.any λx=>seq x.1 n) || (l.2.1.any λx=>seq x.1 n) || ((l.2.2.take k).any λx=>seq x.1 n)
def Few(l:U6):Prop:=l.1.length<=100000/\l.2.1.length<=100000/\l.2.2.length<=100000
def b7j(ms:List d4H)(i:Nat):Option (Int×Int):=match ms[i]? with
 |some m=>l7 (AQ m) (l7 ((ms.take i).any λx=>seq m x) (some (7,((100+i:Nat):Int))) none) (some (2,((100+i:Nat):Int)))|none=>none
def YJ(l:U6)(i:Nat)(e:dI):Int×Int:=
 l7 (AQ e.1) (l7 (EU l 1 i e.1) (7,0) (l7 (o9 (o8 e.2) 0) (5,0) (l7 (E5 16 (o8 e.2)) (4,116) (match(List.range e.2.length).findSome? (b7j e.2)with|some r=>r|none=>(0,0))))) (2,0)
theorem b7c(h:i<=1000000):C9 .i64 100 (i:Int)=((100+i:Nat):Int):=by rw[Z8 P6];omega
theorem a1A{l:U6}(h:Few l)(hi:i<=l.1.length)(e:dI)(h1:e.1.length<=1000000)(h2:∀m∈e.2,m.length<=1000000):
  Es l (i:Int) e=some (YJ l i e):=by
 unfold Es YJ EU;rw[wS h1,x8,BB hi,x8,RY _ (by have:=h.1;simp;omega),x8];cases AQ e.1
 .rfl
 simp only[G6,o6,o7];cases (l.1.take i).any λx=>seq x.1 e.1
 case true=>rfl
 cases o9 (o8 e.2) 0
 case true=>rfl
 cases h16:E5 16 (o8 e.2)
 case true=>rfl
 simp only[o6];have hlen:e.2.length<=16:=by rw[gU]at h16;simp only[o8]at h16;omega
 refine fU (OV (p:=b7j e.2) e.2.length o5 PUnit.unit (λj hj=>?_) ?_) ?_
 rotate_left 2
 .cases (List.range e.2.length).findSome? (b7j e.2)<;>rfl
 .have e' :=fO hj;rw[V6 e',o7,I5,e',x8,wS (h2 _ (O5 hj)),x8,BB o5,x8,b0g _ aH,x8,b7c o5,iy o5];simp only[b7j,e'];cases AQ e.2[j]
  .rfl
  cases (e.2.take j).any λx=>seq e.2[j] x<;>rfl
 .rw[V5];rfl
variable {n:Nat}{j:Nat}{β:Type}
theorem a3P{p:Nat->Option β}{c:β}(h0:(List.range j).findSome? p=none)(h1:p j=some c)(hj:j<n):(List.range n).findSome? p=some c:=by
 induction n with
 |zero=>omega|succ n ih=>
  rw[eP,yw];by_cases h:j<n
  .rw[ih h];rfl
  .have:j=n:=o5;subst this;rw[h0];simp[h1]
theorem b7b{p:Nat->Option β}(h0:(List.range j).findSome? p=none)(h1:p j=none):(List.range (j+1)).findSome? p=none:=by rw[eP,yw,h0];simp[h1]
variable {ρ:Type}
def ae(n:Nat)(p:Nat->Option ρ):Option ρ:=(List.range n).findSome? p
theorem OG{σ ε ρ:Type}{p:Nat->Option ρ}(n:Nat)(hn:n<=1000000)(a:σ)(e:ε){f:σ×Int->Option (Out (σ×Int) ε ρ)}
  (h1:∀i,i<n->f (a,(i:Int))=some (match p i with|some r=> .rt r|none=> .nx (a,C9 .i64 (i:Int) 1))) (h2:f (a,(n:Int))=some (.ex e)):
  U3 f (a,0)=some (match ae n p with|some r=> .inr r|none=> .inl e):=by
 have key:=DW (f:=f) (s:=(a,0)) (λx=>∃i:Nat,x=(a,(i:Int))/\i<=n/\ae i p=none) (λx=>x=e/\ae n p=none) (λr=>ae n p=some r) (λx=>n -x.2.toNat) ⟨0,rfl,o5,rfl⟩ aH ?_
 .rcases key with⟨x,k1,rfl,k2⟩|⟨r,k1,k2⟩
  .rw[k1,k2]
  .rw[k1,k2]
 .rintro x ⟨i,rfl,hi,hnone⟩;by_cases h:i<n
  .rw[h1 i h];cases hp:p i with
   |some r=>exact .inr (.inr ⟨_,rfl,a3P hnone hp h⟩)|none=>exact .inl ⟨(a,((i+1:Nat):Int)),by rw[iy o5],⟨i+1,rfl,h,b7b hnone hp⟩,by simp;omega⟩
  .have:i=n:=o5;subst this;exact .inr (.inl ⟨_,h2,rfl,hnone⟩)
def TJ(kind i:Int)(r:Int×Int):Option (Int×Int×Int×Int):=l7 (o9 r.1 0) none (some (r.1,kind,i,r.2))
def QW(l:U6)(i:Nat):Option (Int×Int×Int×Int):=match l.1[i]? with|some e=>TJ 1 i (YJ l i e)|none=>none
def BV(l:U6):Int×Int×Int×Int:=l7 (E5 8 (o8 l.1)) (4,1,8,0) (match ae l.1.length (QW l)with|some r=>r|none=>(0,0,0,0))
def a1t(l:U6):Prop:=∀e∈l.1,e.1.length<=1000000/\∀m∈e.2,m.length<=1000000
theorem H_{l:U6}(h:Few l)(hE:a1t l):Cj l=some (BV l):=by
 unfold Cj BV;cases E5 8 (o8 l.1)
 case true=>rfl
 simp only[o6];refine fU (OG (p:=QW l) l.1.length (by have:=h.1;omega) _ (0,0,0,0) (λi hi=>?_) ?_) ?_
 rotate_left 2
 .cases ae l.1.length (QW l)<;>rfl
 .have e:=fO hi;have hm:=hE _ (O5 hi);simp only[V6 e,o7,I5,e,x8,a1A h (show i<=l.1.length by omega) _ hm.1 hm.2,QW,TJ];cases o9 (YJ l i l.1[i]).1 0<;>rfl
 .rw[V5];rfl
variable {p:Nat->Option ρ}
theorem gZ{r:ρ}(h:ae n p=some r):∃i,i<n/\p i=some r:=by unfold ae at h;obtain⟨i,hi,hp⟩:=List.exists_of_findSome?_eq_some h;exact⟨i,X7.1 hi,hp⟩
theorem oJ(h:ae n p=none):∀i,i<n->p i=none:=by unfold ae at h;intro i hi;exact aK.1 h i (X7.2 hi)
theorem b6s(t:ak)(en:List dI):(KZ t en).1=-1\/0<=(KZ t en).1:=by
 unfold KZ;cases E5 64 (o8 t.2.2.2)
 case true=>right;simp only[o7];decide
 cases vty t.2.1 en
 .left;rfl
 cases vty t.2.2.1 en
 .left;rfl
 right;simp only[o7,o6];cases hf:(List.range t.2.2.2.length).findSome? (NV t en)with
 |none=>exact fV _|some r=>
  obtain⟨i,hi,hp⟩:=gZ (p:=NV t en) hf;unfold NV at hp;split at hp
  .rename_i x hx;cases hw:Fz x (bnd t.2.1 en) (bnd t.2.2.1 en)<;>rw[hw]at hp
   .cases ha:(t.2.2.2.take i).any λy=>xy y x<;>rw[ha]at hp
    .cases hp
    .cases hp;show(0:Int)<=(i:Int);omega
   .cases hp;show(0:Int)<=(i:Int);omega
  .cases hp
def a2R(l:U6)(i:Nat)(t:ak):Int×Int:=
 l7 (AQ t.1) (l7 (EU l 2 i t.1) (7,0) (l7 (o9 (KZ t l.1).2 0) (0,0) ((KZ t l.1).2,l7 (J8 0 (KZ t l.1).1) (C9 .i64 100 (KZ t l.1).1) 0))) (2,0)
def JP(l:U6)(i:Nat):Option (Int×Int×Int×Int):=match l.2.1[i]? with|some t=>TJ 2 i (a2R l i t)|none=>none
def AA(l:U6):Int×Int×Int×Int:=l7 (E5 8 (o8 l.2.1)) (4,2,8,0) (match ae l.2.1.length (JP l)with|some r=>r|none=>(0,0,0,0))
def XX(l:U6):Prop:=∀t∈l.2.1,t.1.length<=1000000
theorem Yu{l:U6}(h:Few l)(hT:XX l):Ai l=some (AA l):=by
 unfold Ai AA;cases E5 8 (o8 l.2.1)
 case true=>rfl
 simp only[o6];refine fU (OG (p:=JP l) l.2.1.length (by have:=h.2.1;omega) _ (0,0,0,0) (λi hi=>?_) ?_) ?_
 rotate_left 2
 .cases ae l.2.1.length (JP l)<;>rfl
 .have e:=fO hi;have hm:=hT _ (O5 hi);simp only[V6 e,o7,I5,e,x8,b6t,wS hm,RY _ (show l.1.length<=1000000 by have:=h.1;omega),BB (show i<=l.2.1.length by omega),
   WB _ (show(l.2.1.take i).length<=1000000 by have:=h.2.1;simp;omega),JP,a2R,EU]
  cases AQ l.2.1[i].1
  .rfl
  cases l.1.any λx=>seq x.1 l.2.1[i].1
  case true=>rfl
  cases (l.2.1.take i).any λx=>seq x.1 l.2.1[i].1
  case true=>rfl
  simp only[G6,o6,o7,x8,Bool.or_false];cases hz:o9 (KZ l.2.1[i] l.1).2 0
  case true=>rfl
  simp only[gz,o7,o6,TJ,hz];rcases b6s l.2.1[i] l.1 with hr|hr
  .rw[X0 hr,aA (show(KZ l.2.1[i] l.1).1<0 by omega)];simp only[G6,o6,x8,hz,gz,o7]
  .rw[U2 (show(KZ l.2.1[i] l.1).1≠-1 by omega),af hr];simp only[gz,o7,x8,hz]
 .rw[V5];rfl
variable {ε:Type}
theorem b2i(l:List α)(g:α->β)(hl:l.length<=1000000){f:List β×Int->Option ((List β×Int)⊕ε)}{F:List β->ε}
  (hin:∀(i:Nat) (a:α) (acc:List β),l[i]? =some a->acc.length=i->f (acc,(i:Int))=some (.inl (acc++[g a],C9 .i64 (i:Int) 1))) (hend:∀acc,f (acc,(l.length:Int))=some (.inr (F acc))):
  aX f ([],0)=some (F (l.map g)):=by
 obtain⟨e,h1,h2⟩:=jg (f:=f) (s:=([],0)) (λx=>∃i:Nat,x=((l.take i).map g,(i:Int))/\i<=l.length) (λe=>e=F (l.map g)) (λx=>l.length -x.2.toNat) ⟨0,rfl,o5⟩ aH (by
  rintro x ⟨i,rfl,hi⟩;by_cases h:i<l.length
  .have e:=fO h;refine .inl ⟨((l.take (i+1)).map g,((i+1:Nat):Int)),?_,⟨i+1,rfl,h⟩,by simp;omega⟩;rw[hin i _ _ e aH,iy o5,U1 h,bJ];rfl
  .have:i=l.length:=o5;subst this;refine .inr ⟨_,hend _,?_⟩;rw[bM])
 rw[h1,h2]
theorem JF{l:List iH}(h:l.length<=1000000):vK l=some (l.map (·.2)):=by
 unfold vK;rw[lm];refine b2i (F:=id) l (λx=>x.2) h (λi a acc ha hacc=>?_) (λacc=>?_)
 .have hi:=(aO.1 ha).1;simp only[V6 ha,o7,I5,ha,x8];rw[FX (by simp[hacc];omega)];rfl
 .simp only[V5];rfl
def a3d(l:U6):Prop:=∀s∈l.2.2,s.1.length<=1000000/\s.2.2.1.length<=100000/\s.2.2.2.1.length<=100000/\s.2.2.2.2.length<=100000
def IK(l:U6)(s:F5):List dI×List ak×List (Int×Int)×List (Int×Int)×List (Int×Int)×Bool:=
 match(if 0<=s.2.1 then l.2.2[s.2.1.toNat]? else none)with
 |some k=>(l.1,l.2.1,s.2.2.1.map (·.2),s.2.2.2.1.map (·.2),k.2.2.2.1.map (·.2),true)|none=>(l.1,l.2.1,s.2.2.1.map (·.2),s.2.2.2.1.map (·.2),[],false)
theorem SS{l:U6}(h:a3d l){s:F5}(hs:l.2.2[i]? =some s):uV l (i:Int)=some (IK l s):=by
 have hm:=h s (mM hs);unfold uV IK;rw[I5,hs,x8,JF o5,x8,JF o5,x8];by_cases h0:0<=s.2.1
 .rw[af h0,if_pos h0,o7];by_cases h1:s.2.1<o8 l.2.2
  .obtain⟨k,hk,hkm⟩:=qA h0 h1;have hk' :l.2.2[s.2.1.toNat]? =some k:=(rq hk).2.2.2;rw[V7 h1,o7,hk,x8,JF (by have:=h k hkm;omega),x8,hk']
  .have h1' :o8 l.2.2<=s.2.1:=gW.1 h1;rw[O6 h1',o6,U5 (by simp only[o8]at h1';exact Int.le_toNat h0 |>.2 h1')]
 .have h0' :s.2.1<(0:Int):=lw.1 h0;rw[aA h0',if_neg h0];rfl
abbrev SI(l:d4I):Prop:=l.Pairwise (·< ·)
theorem a7x:∀{a b:d4I},SI a->SI b->(∀x,x∈a↔x∈b)->a=b
 |[],[],_,_,_=>rfl|[],y::b,_,_,h=>absurd ((h y).2 A7) A7|x::a,[],_,_,h=>absurd ((h x).1 A7) A7|x::a,y::b,ha,hb,h=>by
  have ha' :=Y4.1 ha;have hb' :=Y4.1 hb;have hxy:x=y:=by
   rcases D6.1 ((h x).1 A7)with h1|h1
   .exact h1
   .rcases D6.1 ((h y).2 A7)with h2|h2
    .exact h2.symm
    .have:=hb'.1 _ h1;have:=ha'.1 _ h2;omega
  subst hxy;congr 1;refine a7x ha'.2 hb'.2 λz=>⟨λhz=>?_,λhz=>?_⟩
  .rcases D6.1 ((h z).1 (by simp[hz]))with h1|h1
   .have:=ha'.1 _ hz;omega
   .exact h1
  .rcases D6.1 ((h z).2 (by simp[hz]))with h1|h1
   .have:=hb'.1 _ hz;omega
   .exact h1
def ins(n:Int):d4I->d4I
 |[]=>[n]|a::l=>if n<=a then(if n<a then n::a::l else a::l)else a::ins n l
theorem a1X(n x:Int):∀l,x∈ins n l↔x=n\/x∈l
 |[]=>by simp[ins]|a::l=>by
  unfold ins;by_cases h:n<=a
  .rw[if_pos h];by_cases h2:n<a
   .rw[if_pos h2];simp
   .rw[if_neg h2];have:n=a:=o5;subst this;simp
  .rw[if_neg h,D6,a1X n x l,D6];constructor
   .rintro(h|h|h)<;>simp[h]
   .rintro(h|h|h)<;>simp[h]
theorem b5c(n:Int):∀{l},SI l->SI (ins n l)
 |[],_=>List.pairwise_singleton _ _|a::l,h=>by
  have h' :=Y4.1 h;unfold ins;by_cases h1:n<=a
  .rw[if_pos h1];by_cases h2:n<a
   .rw[if_pos h2];refine Y4.2 ⟨λx hx=>?_,h⟩;rcases D6.1 hx with rfl|hx
    .exact h2
    .have:=h'.1 x hx;omega
   .rw[if_neg h2];exact h
  .rw[if_neg h1];refine Y4.2 ⟨λx hx=>?_,b5c n h'.2⟩;rcases(a1X n x l).1 hx with rfl|hx
   .omega
   .exact h'.1 x hx
def YZ(ns:d4I)(l:d4I):d4I:=ns.foldl (λacc n=>ins n acc) l
theorem Zo(x:Int):∀ns l,x∈YZ ns l↔x∈ns\/x∈l
 |[],l=>by simp[YZ]|n::ns,l=>by
  show x∈YZ ns (ins n l)↔_;rw[Zo x ns,a1X,D6];constructor
  .rintro(h|h|h)<;>simp[h]
  .rintro((h|h)|h)<;>simp[h]
theorem a2A:∀ns {l},SI l->SI (YZ ns l)
 |[],_,h=>h|n::ns,_,h=>a2A ns (b5c n h)
def NW(l:d4I):d4I:=YZ l []
theorem zO(x:Int)(l:d4I):x∈NW l↔x∈l:=by unfold NW;rw[Zo];simp
theorem a2B(l:d4I):SI (NW l):=a2A l List.Pairwise.nil
theorem Zg(n:Int):∀l,(ins n l).length<=l.length+1
 |[]=>by simp[ins]|a::l=>by
  unfold ins;by_cases h1:n<=a
  .rw[if_pos h1];by_cases h2:n<a
   .rw[if_pos h2];simp
   .rw[if_neg h2];simp
  .rw[if_neg h1];have:=Zg n l;simp only[H8];omega
theorem WC:∀ns l,(YZ ns l).length<=l.length+ns.length
 |[],l=>by simp[YZ]|n::ns,l=>by have h1:=WC ns (ins n l);have h2:=Zg n l;show(YZ ns (ins n l)).length<=_;simp only[H8];omega
theorem WE(l:d4I):(NW l).length<=l.length:=by have:=WC l [];unfold NW;simpa using this
theorem l_(n:Nat)(h:SI l)(h2:∀x∈l,0<=x/\x<n):l.length<=n:=by
 have key:∀(l:d4I) (lo:Int),SI l->(∀x∈l,lo<=x/\x<n)->lo<=n->(l.length:Int)<=n -lo:=by
  intro l;induction l with
  |nil=>intro lo _ _ hlo;simp;omega|cons a l ih=>intro lo hs hb hlo;have h' :=Y4.1 hs;have ha:=hb a A7;have:=ih (a+1) h'.2 (λx hx=>⟨by have:=h'.1 x hx;omega,(hb x (by simp[hx])).2⟩) o5;simp only[H8];omega
 have:=key l 0 h (λx hx=>h2 x hx) o5;omega
theorem Yz(x:Int):∀(l:d4I) (p:Int),(p::l).Pairwise (·<=·)->SI (p::ddp p l)/\(x∈p::ddp p l↔x∈p::l)
 |[],p,_=>⟨List.pairwise_singleton _ _,Iff.rfl⟩|a::l,p,h=>by
  have h1:=Y4.1 h;obtain⟨i1,i2⟩:=Yz x l a h1.2;have h2:=Y4.1 h1.2;have hpa:=h1.1 a A7;unfold ddp;cases hq:o9 a p
  .rw[zC]at hq;simp only[cond_false];refine⟨Y4.2 ⟨λy hy=>?_,i1⟩,?_⟩
   .rcases D6.1 hy with rfl|hy
    .omega
    .have:=(Y4.1 i1).1 y hy;omega
   .rw[D6,i2,D6 (a:=x) (b:=p)]
  .rw[Z5]at hq;subst hq;simp only[cond_true];refine⟨i1,?_⟩;rw[i2];simp
theorem b1S(l:d4I):dd (Kv l)=NW l:=by
 have hs:=FW l;have hp:=Ht l;refine a7x ?_ (a2B l) λx=>?_
 .cases he:Kv l with
  |nil=>exact List.Pairwise.nil|cons a r=>rw[he]at hs;exact(Yz a r a hs).1
 .rw[zO,←hp.mem_iff];cases he:Kv l with
  |nil=>exact Iff.rfl|cons a r=>rw[he]at hs;exact(Yz x r a hs).2
theorem b0k(l:d4I):(Kv l).length=l.length:=(Ht l).length_eq
theorem b8l(h:l.length<=1000000):l9 (GU l) (λx=>tX x)=some (NW l):=by unfold GU tX;rw[show Nat.blt l.length 4611686018427387904=true from by simp[Nat.blt];omega];simp only[cond_true,x8];rw[show Nat.blt (Kv l).length 4611686018427387904=true from by rw[b0k];simp[Nat.blt];omega];rw[cond_true,b1S]
def hg(l:d4I)(i:Nat):Int:=l.getD i 0
def swp(l:d4I)(i j:Nat):d4I:=(l.set i (hg l j)).set j (hg l i)
theorem yV(h:i<l.length):l[i]? =some (hg l i):=by unfold hg;rw[zM,fO h];rfl
theorem MV(l:d4I)(i j:Nat):(swp l i j).length=l.length:=by simp[swp]
theorem a1M(hi:i<l.length)(hj:j<l.length)(k:Nat):hg (swp l i j) k=if k=j then hg l i else if k=i then hg l j else hg l k:=by
 unfold hg swp;simp only[zM,U0,eH];by_cases h1:k=j
 .subst h1;simp[hj,hg,zM]
 .rw[if_neg (λh=>h1 h.symm),if_neg h1];by_cases h2:k=i
  .subst h2;simp[hi,hg,zM]
  .rw[if_neg (λh=>h2 h.symm),if_neg h2]
theorem PQ(hi:i<l.length)(hj:j<l.length):(swp l i j).Perm l:=by
 have e1:hg l i=l[i]:=by have:=yV hi;rw[fO hi]at this;exact(aQ this).symm
 have e2:hg l j=l[j]:=by have:=yV hj;rw[fO hj]at this;exact(aQ this).symm
 unfold swp;rw[e1,e2];exact List.set_set_perm hi hj
def NZ(l:d4I)(n:Nat):Prop:=∀k,0<k->k<n->hg l ((k -1) / 2)<=hg l k
def UW(l:d4I)(j:Nat):Prop:=(∀k,0<k->k<l.length->k≠j->hg l ((k -1) / 2)<=hg l k)/\(0<j->∀k,0<k->k<l.length->(k -1) / 2=j->hg l ((j -1) / 2)<=hg l k)
def JQ(l:d4I)(n i:Nat):Prop:=(∀k,0<k->k<n->(k -1) / 2≠i->hg l ((k -1) / 2)<=hg l k)/\(0<i->∀k,0<k->k<n->(k -1) / 2=i->hg l ((i -1) / 2)<=hg l k)
theorem a3S(h:UW l j)(h0:0<j)(hj:j<l.length)(hlt:hg l j<hg l ((j -1) / 2)):UW (swp l ((j -1) / 2) j) ((j -1) / 2):=by
 have hi:(j -1) / 2<l.length:=o5;have hij:(j -1) / 2<j:=o5;generalize hp:(j -1) / 2=i at*;have G:=a1M hi hj;refine⟨λk k0 k1 k2=>?_,λi0 k k0 k1 k2=>?_⟩
 .rw[MV]at k1;rw[G k,G];by_cases a:k=j
  .subst a;rw[if_pos rfl,hp,if_neg o5,if_pos rfl];omega
  rw[if_neg a,if_neg k2];by_cases b:(k -1) / 2=j
  .rw[if_pos b];have:=h.2 h0 k k0 k1 b;rw[hp]at this;exact this
  rw[if_neg b];by_cases c:(k -1) / 2=i
  .rw[if_pos c];have:=h.1 k k0 k1 a;rw[c]at this;omega
  rw[if_neg c];exact h.1 k k0 k1 a
 .rw[MV]at k1;rw[G,G,if_neg o5,if_neg o5];have e1:=h.1 i i0 hi o5;by_cases a:k=j
  .rw[if_pos a];exact e1
  .rw[if_neg a,if_neg o5];have:=h.1 k k0 k1 a;rw[k2]at this;omega
theorem YU(h:UW l j)(he:j=0\/hg l ((j -1) / 2)<=hg l j):NZ l l.length:=λk k0 k1=>by
 by_cases a:k=j
 .subst a;rcases he with he|he
  .omega
  .exact he
 .exact h.1 k k0 k1 a
theorem JH(h:JQ l n i)(hn:n<=l.length)(hj:(j -1) / 2=i)(hj0:0<j)(hjn:j<n)(hmin:∀k,0<k->k<n->(k -1) / 2=i->hg l j<=hg l k)(hlt:hg l j<hg l i):JQ (swp l i j) n j:=by
 have G:=a1M (l:=l) (i:=i) (j:=j) o5 o5;refine⟨λk k0 k1 k2=>?_,λj0 k k0 k1 k2=>?_⟩
 .rw[G k,G,if_neg k2];by_cases a:k=j
  .rw[if_pos a,if_pos o5];omega
  rw[if_neg a];by_cases b:k=i
  .rw[if_pos b,if_neg o5];rw[b];exact h.2 o5 j hj0 hjn hj
  rw[if_neg b];by_cases c:(k -1) / 2=i
  .rw[if_pos c];exact hmin k k0 k1 c
  .rw[if_neg c];exact h.1 k k0 k1 c
 .rw[G,G,if_neg o5,if_pos hj,if_neg o5,if_neg o5];have:=h.1 k k0 k1 o5;rw[k2]at this;exact this
theorem FV(h:JQ l n i)(he:∀k,0<k->k<n->(k -1) / 2=i->hg l i<=hg l k):NZ l n:=λk k0 k1=>by
 by_cases a:(k -1) / 2=i
 .rw[a];exact he k k0 k1 a
 .exact h.1 k k0 k1 a
theorem b2k(h:NZ l n):∀k,k<n->hg l 0<=hg l k:=by
 intro k;induction k using Nat.strongRecOn with
 |ind k ih=>
  intro hk;by_cases h0:k=0
  .subst h0;exact fV _
  .have h1:=h k o5 hk;have h2:=ih ((k -1) / 2) o5 o5;omega
theorem a6B(h:NZ l l.length)(hn:n+1=l.length):JQ (swp l 0 n) n 0:=by have G:=a1M (l:=l) (i:=0) (j:=n) o5 o5;refine⟨λk k0 k1 k2=>?_,λh0=>by omega⟩;rw[G k,G,if_neg o5,if_neg k2,if_neg o5,if_neg o5];exact h k k0 o5
theorem a5z{l:List α}{a:α}(h:(l.take n)[i]? =some a):i<n/\l[i]? =some a:=by
 rw[aG]at h;split at h
 .exact⟨by assumption,h⟩
 .cases h
def OE(en:List dI)(f:iH)(a b:List iH):Int:=
 l7 (AQ f.1) (l7 (a.any λx=>seq x.1 f.1) 7 (l7 (b.any λx=>seq x.1 f.1) 7 (l7 (vty f.2 en) 0 8))) 2
theorem QT{l:U6}{f:iH}{a b:List iH}(h:f.1.length<=1000000)(ha:a.length<=1000000)(hb:b.length<=1000000):yz l f a b=some (OE l.1 f a b):=by
 unfold yz OE;rw[wS h,x8,WA _ ha,x8,WA _ hb,x8,zq,x8];cases AQ f.1
 .rfl
 cases a.any λx=>seq x.1 f.1
 case true=>rfl
 cases b.any λx=>seq x.1 f.1
 case true=>rfl
 cases vty f.2 l.1<;>rfl
def Vq(c e:Int):Option (Int×Int):=l7 (o9 c 0) none (some (c,e))
def inP(l:U6)(s:F5)(i:Nat):Option (Int×Int):=match s.2.2.1[i]? with|some f=>Vq (OE l.1 f (s.2.2.1.take i) []) (100+i:Nat)|none=>none
def a6j(l:U6)(s:F5)(i:Nat):Option (Int×Int):=match s.2.2.2.1[i]? with|some f=>Vq (OE l.1 f s.2.2.1 (s.2.2.2.1.take i)) (200+i:Nat)|none=>none
def a2Y(s:F5):Prop:=(∀f∈s.2.2.1,f.1.length<=1000000)/\(∀f∈s.2.2.2.1,f.1.length<=1000000)
theorem a8F{c i:Nat}(hc:c<=1000)(h:i<=1000000):C9 .i64 (c:Int) (i:Int)=((c+i:Nat):Int):=by rw[Z8 P6];omega
def yT(l:U6)(s:F5):Option (Int×Int):=match ae s.2.2.1.length (inP l s)with|some r=>some r|none=>ae s.2.2.2.1.length (a6j l s)
def arF(op:Int):Int:=(jr op).getD 0
variable {op:Int}
theorem b9O(h:1<=op/\op<=39):∃k:Fin 40,op=(k.val:Int):=⟨⟨op.toNat,o5⟩,by simp;omega⟩
theorem c3P:∀k:Fin 40,1<=k.val->(mD (k.val:Int)=jr (k.val:Int))/\(jr (k.val:Int)=some 0\/jr (k.val:Int)=some 1\/jr (k.val:Int)=some 2\/jr (k.val:Int)=some 3):=by decide+kernel
theorem a1O(h:¬(1<=op/\op<=39))(k:Int)(h1:1<=k)(h2:k<=39):o9 op k=false:=U2 o5
theorem a9j(h:¬(1<=op/\op<=39)):jr op=some (-1):=by
 unfold jr;by_cases h1:1<=op
 .rw[af h1,o7,aA (show(9:Int)<op by omega),o6,aA (show(39:Int)<op by omega),aA (show(30:Int)<op by omega)];simp[a1O h];cases J8 35 op<;>cases J8 11 op<;>rfl
 .rw[aA (show op<1 by omega),o6,aA (show op<35 by omega),aA (show op<11 by omega)];simp[a1O h]
theorem b9v(h:¬(1<=op/\op<=39)):mD op=some (-1):=by unfold mD;simp[a1O h]
theorem Oe(op:Int):mD op=some (arF op)/\jr op=some (arF op)/\(arF op=-1\/arF op=0\/arF op=1\/arF op=2\/arF op=3):=by
 unfold arF;by_cases h:1<=op/\op<=39
 .obtain⟨k,rfl⟩:=b9O h;obtain⟨h1,h2⟩:=c3P k o5;rcases h2 with h2|h2|h2|h2<;>rw[h1,h2]<;>simp
 .rw[b9v h,a9j h];simp
theorem Yg(op:Int):mD op=some (arF op):=(Oe op).1
theorem b3Z(op:Int):jr op=some (arF op):=(Oe op).2.1
inductive XT where
 |l0 (n:Int×Int)|l1 (n:Int×Int) (a:XT)|l2 (n:Int×Int) (a b:XT)|l3 (n:Int×Int) (a b c:XT)
def XT.size:XT->Nat
 | .l0 _=>1| .l1 _ a=>a.size+1| .l2 _ a b=>a.size+b.size+1| .l3 _ a b c=>a.size+b.size+c.size+1
def XT.post:XT->List (Int×Int)
 | .l0 n=>[n]| .l1 n a=>a.post++[n]| .l2 n a b=>a.post++b.post++[n]| .l3 n a b c=>a.post++b.post++c.post++[n]
def XT.sts(o:Nat):XT->d4I
 | .l0 _=>[(o:Int)]| .l1 _ a=>a.sts o++[(o:Int)]| .l2 _ a b=>a.sts o++b.sts (o+a.size)++[(o:Int)]| .l3 _ a b c=>a.sts o++b.sts (o+a.size)++c.sts (o+a.size+b.size)++[(o:Int)]
theorem XT.size_pos(t:XT):0<t.size:=by cases t<;>simp[XT.size]
theorem XT.post_len(t:XT):t.post.length=t.size:=by
 induction t with
 |l0 n=>rfl|l1 n a ha=>simp[XT.post,XT.size,ha]|l2 n a b ha hb=>simp[XT.post,XT.size,ha,hb];try omega
 |l3 n a b c ha hb hc=>simp[XT.post,XT.size,ha,hb,hc];try omega
theorem XT.sts_len(t:XT):∀o,(t.sts o).length=t.size:=by
 induction t with
 |l0 n=>intro o;rfl|l1 n a ha=>intro o;simp[XT.sts,XT.size,ha]|l2 n a b ha hb=>intro o;simp[XT.sts,XT.size,ha,hb];try omega
 |l3 n a b c ha hb hc=>intro o;simp[XT.sts,XT.size,ha,hb,hc];try omega
def mf:List XT->Nat
 |[]=>0|t::r=>mf r+t.size
def ND:List XT->List (Int×Int)
 |[]=>[]|t::r=>ND r++t.post
def stR:List XT->d4I
 |[]=>[]|t::r=>stR r++t.sts (mf r)
def vX:List XT->d4I
 |[]=>[]|t::r=>vX r++[(mf r:Int)]
theorem vO:∀ts,(vX ts).length=ts.length
 |[]=>rfl|t::r=>by simp[vX,vO r]
theorem UO:∀ts,(stR ts).length=mf ts
 |[]=>rfl|t::r=>by simp[stR,mf,UO r,XT.sts_len]
theorem Qx:∀ts,(ND ts).length=mf ts
 |[]=>rfl|t::r=>by simp[ND,mf,Qx r,XT.post_len]
def push(n:Int×Int)(ts:List XT):Int⊕List XT:=
 if arF n.1=0 then .inr (.l0 n::ts)
 else if arF n.1=1 then(match ts with|a::r=> .inr (.l1 n a::r)|_=> .inl 5)
 else if arF n.1=2 then(match ts with|b::a::r=> .inr (.l2 n a b::r)|_=> .inl 5)
 else if arF n.1=3 then(match ts with|c::b::a::r=> .inr (.l3 n a b c::r)|_=> .inl 5)
 else .inl 2
def zG:Nat->List (Int×Int)->List XT->(Int×Int)⊕List XT
 |_,[],ts=> .inr ts
 |i,n::es,ts=>match push n ts with
  | .inl c=> .inl ((i:Int),c)| .inr ts' =>if 12<ts'.length then .inl ((i:Int),16)else zG (i+1) es ts'
def oZ(e:List (Int×Int)):(Int×Int)⊕XT:=
 if 48<e.length then .inl (0,4)else if e.length=0 then .inl (0,5)else
  match zG 0 e []with
  | .inl x=> .inl x| .inr [t]=> .inr t| .inr _=> .inl ((e.length:Int),4)
theorem a1c{n:Int×Int}{ts ts' :List XT}(h:push n ts= .inr ts'):ND ts' =ND ts++[n]/\ts' ≠[]:=by
 unfold push at h;split at h
 .cases h;exact⟨rfl,A7⟩
 split at h
 .split at h
  .cases h;exact⟨by simp[ND,XT.post],A7⟩
  .cases h
 split at h
 .split at h
  .cases h;exact⟨by simp[ND,XT.post],A7⟩
  .cases h
 split at h
 .split at h
  .cases h;exact⟨by simp[ND,XT.post],A7⟩
  .cases h
 .cases h
theorem Qz{n:Int×Int}{ts ts' :List XT}(h:push n ts= .inr ts'):mf ts' =mf ts+1:=by rw[←Qx,←Qx,(a1c h).1];simp
theorem LV:∀(es:List (Int×Int)) (i:Nat) (ts ts' :List XT),zG i es ts= .inr ts' ->ND ts' =ND ts++es/\(ts≠[]\/es≠[]->ts' ≠[])
 |[],i,ts,ts',h=>by cases h;exact⟨A7,A7⟩|n::es,i,ts,ts',h=>by
  unfold zG at h;cases hp:push n ts with
  |inl c=>rw[hp]at h;cases h|inr t2=>
   rw[hp]at h;simp only at h;split at h
   .cases h
   .obtain⟨h1,h2⟩:=LV es (i+1) t2 ts' h;obtain⟨h3,h4⟩:=a1c hp;exact⟨by rw[h1,h3];simp,λ_=>h2 (.inl h4)⟩
theorem ES{e:List (Int×Int)}{t:XT}(h:oZ e= .inr t):e=t.post/\e.length<=48:=by
 unfold oZ at h;split at h
 .cases h
 split at h
 .cases h
 split at h
 .cases h
 .rename_i t' hp;cases h;have:=(LV e 0 [] [t] hp).1;exact⟨by simpa[ND]using this.symm,o5⟩
 .cases h
theorem a5v{σ ε ρ:Type}(e:List (Int×Int))(he:e.length<=48)(g:List XT->σ)(fin:List XT->ε)(rt:Int×Int->ρ){f:σ->Option (Out σ ε ρ)}
  (hs:∀(i:Nat) (n:Int×Int) (ts:List XT),e[i]? =some n->i=mf ts->ts.length<=12->f (g ts)=some (match push n ts with
   | .inl c=> .rt (rt ((i:Int),c))
   | .inr ts' =>if 12<ts'.length then .rt (rt ((i:Int),16))else .nx (g ts')))
  (hend:∀ts,mf ts=e.length->f (g ts)=some (.ex (fin ts))):
  U3 f (g [])=some (match zG 0 e []with| .inl x=> .inr (rt x)| .inr ts=> .inl (fin ts)):=by
 have key:∀(es:List (Int×Int)) (i:Nat) (ts:List XT) (k:Nat),e.drop i=es->i=mf ts->ts.length<=12->i<=e.length->es.length<k->
   rX f k (g ts)=some (match zG i es ts with| .inl x=> .inr (rt x)| .inr ts=> .inl (fin ts)):=by
  intro es;induction es with
  |nil=>
   intro i ts k hd hi hl hle hk;obtain⟨k,rfl⟩:∃k',k=k' +1:=⟨k -1,o5⟩;have:i=e.length:=by have:=congrArg List.length hd;simp at this;omega
   unfold rX;rw[hend ts o5];rfl
  |cons n es ih=>
   intro i ts k hd hi hl hle hk;obtain⟨k,rfl⟩:∃k',k=k' +1:=⟨k -1,o5⟩;have hn:e[i]? =some n:=by
    have:(e.drop i)[0]? =some n:=by rw[hd];rfl
    simpa using this
   have hlt:=(aO.1 hn).1;unfold rX;rw[hs i n ts hn hi hl];unfold zG;cases hp:push n ts with
   |inl c=>rfl|inr ts' =>
    simp only;by_cases h12:12<ts'.length
    .rw[if_pos h12,if_pos h12]
    .rw[if_neg h12,if_neg h12];exact ih (i+1) ts' k (by rw[←aN,hd];rfl) (by rw[Qz hp,hi]) o5 o5 (by simp at hk;omega)
 exact key e 0 [] lH rfl rfl A7 o5 (by unfold lH;omega)
theorem a4z:∀(p r:List XT),∃X,vX (p++r)=vX r++X/\X.length=p.length/\(p≠[]->X.head?=some (mf r:Int))
 |[],r=>⟨[],A7,rfl,λh=>absurd rfl h⟩|a::p,r=>by
  obtain⟨X,h1,h2,h3⟩:=a4z p r;refine⟨X++[(mf (p++r):Int)],?_,by simp[h2],λ_=>?_⟩
  .show vX (p++r)++[(mf (p++r):Int)]=_;rw[h1,G5]
  .cases p with
   |nil=>simp at h2;subst h2;rfl|cons b p=>rw[List.head?_append,h3 A7];rfl
theorem a6X(p r:List XT)(k:Int)(hk:k=(p.length:Int))(h:p.length+r.length<=100)(hp:p≠[]):
  G8 .i64 (o8 (vX (p++r))) k=(r.length:Int)/\G9 (vX (p++r)) (r.length:Int)=some (mf r:Int)/\X8 (vX (p++r)) (U8 (r.length:Int))=some (mf r:Int)
  /\pX 0 (r.length:Int) (o8 (vX (p++r)))=true/\mP (vX (p++r)) (U8 0) (U8 (r.length:Int))=vX r:=by
 obtain⟨X,h1,h2,h3⟩:=a4z p r;have hl:(vX (p++r)).length=r.length+p.length:=by rw[vO];simp;omega
 have hg:(vX (p++r))[r.length]? =some (mf r:Int):=by rw[h1,H5 (by rw[vO];omega),vO,bI,←List.head?_eq_getElem?];exact h3 hp
 refine⟨?_,?_,?_,?_,?_⟩
 .simp only[o8,hl];rw[V4 P6];omega
 .rw[I5];exact hg
 .exact hg
 .simp only[pX,o8,hl,decide_eq_true_eq];omega
 .show((vX (p++r)).take r.length).drop 0=_;rw[h1,mY,Y5 (by rw[vO];omega),Y6 (by rw[vO];omega)]
theorem a8I(ts:List XT):E5 12 (o8 (vX ts))=decide (12<ts.length):=by rw[show o8 (vX ts)=((ts.length:Nat):Int) by simp[o8,vO]];exact a8J 12 ts.length
theorem nT{l:List α}(x:α)(h:l.length<=1000000):dB l [x]=some (l++[x]):=FX aH
theorem YW(ts:List XT)(k:Nat):E5 (o8 (vX ts)) (k:Int)=decide (ts.length<k):=by rw[show o8 (vX ts)=((ts.length:Nat):Int) by simp[o8,vO]];exact a8J _ _
def Gu(e:List (Int×Int)):d4I×Int×Int:=match oZ e with| .inl x=>([],x)| .inr t=>(t.sts 0,0,0)
theorem b0J{e:List (Int×Int)}(h0:e.length≠0){K:d4I×Int×Int->d4I×Int×Int}(h48:¬48<e.length)
  {r:d4I×Int×Int} (h:∀ts,zG 0 e []= .inr ts->r=l7 (E5 1 (o8 (vX ts))) ([],o8 e,4) (stR ts,0,0)) (hi:∀x,zG 0 e []= .inl x->r=([],x)):r=Gu e:=by
 unfold Gu oZ;rw[if_neg h48,if_neg h0];cases hp:zG 0 e []with
 |inl x=>exact hi x hp|inr ts=>
  rw[h ts hp];have:=(LV e 0 [] ts hp).2 (.inr (by intro he;subst he;exact h0 rfl));match ts,this with
  |[t],_=>simp[vX,o8,E5,stR,mf]|a::b::ts,_=>rw[V7 (by simp[o8,vO];omega)];rfl
def pd(l:d4I)(k:Nat):d4I:=l++List.replicate k 0
theorem a2g(l:d4I)(m:Nat):G9 (pd l (m+1)) (l.length:Int)=some 0:=by rw[I5];unfold pd;rw[H5 o5,bI];rfl
theorem a2h(l:d4I)(m:Nat):X8 (pd l (m+1)) (U8 (l.length:Int))=some 0:=by have:=a2g l m;rw[I5]at this;exact this
theorem a6V(l:d4I)(m:Nat)(v:Int):aW (pd l (m+1)) (U8 (l.length:Int)) v=pd (l++[v]) m:=by show(l++List.replicate (m+1) 0).set l.length v=_;rw[iR _ _ o5,bI,jl];simp[pd]
theorem Uk(l:d4I)(m:Nat)(v w:Int):aW (pd (l++[v]) m) (U8 (l.length:Int)) w=pd (l++[w]) m:=by show(l++[v]++List.replicate m 0).set l.length w=_;rw[G5,iR _ _ o5,bI];simp[pd]
theorem Qv(l:d4I)(m:Nat)(v:Int):G9 (pd (l++[v]) m) (l.length:Int)=some v:=by rw[I5];unfold pd;rw[G5,H5 o5,bI];rfl
theorem Ph(l:d4I)(m:Nat)(v:Int):X8 (pd (l++[v]) m) (U8 (l.length:Int))=some v:=by have:=Qv l m v;rw[I5]at this;exact this
theorem UQ(e:List (Int×Int)):yh e=some (Gu e):=by
 unfold yh;by_cases h48:48<e.length
 .rw[V7 (by simp[o8];omega),o7];unfold Gu oZ;rw[if_pos h48]
 by_cases h0:e.length=0
 .rw[O6 (by simp[o8];omega),o6,X0 (by simp[o8,h0]),o7];unfold Gu oZ;rw[if_neg h48,if_pos h0]
 rw[O6 (by simp[o8];omega),o6,U2 (by simp[o8];intro h;exact h0 (by simp[h])),o6];rw[show tq (o8 e) (0:Int)=some (pd (stR []) (e.length -mf [])) by simp[tq,o8,pd,stR,mf];omega,x8];refine fU (a5v e o5 (λts=>(pd (stR ts) (e.length -mf ts),vX ts,(mf ts:Int))) (λts=>(pd (stR ts) (e.length -mf ts),vX ts)) (λx=>(([]:d4I),x)) (λi n ts hn hi hl=>?_) (λts hsz=>?_)) ?_
 rotate_left 2
 .rw[←b0J h0 h48 (K:=id) (r:=match zG 0 e []with| .inl x=>([],x)| .inr ts=>l7 (E5 1 (o8 (vX ts))) ([],o8 e,4) (stR ts,0,0)) (λts h=>by rw[h]) (λx h=>by rw[h])];cases hp:zG 0 e []with
  |inl x=>rfl|inr ts=>
   have:=(LV e 0 [] ts hp).1;have hz:e.length -mf ts=0:=by have:=congrArg List.length this;rw[Qx]at this;simp[ND]at this;omega
   simp only[x8,aj,hz,pd,List.replicate_zero,G7];cases E5 1 (o8 (vX ts))<;>rfl
 .subst hi;have hlt:=(aO.1 hn).1;have hst:=UO ts;have hof:=vO ts;obtain⟨m,hm⟩:∃m,e.length -mf ts=m+1:=⟨e.length -mf ts -1,o5⟩;simp only[V6 hn,o7,I5 e,hn,x8,Yg,hm];rw[←hst];simp only[a2g,a2h,x8,a6V,Qv,Ph,Uk];rw[hst];rcases(Oe n.1).2.2 with h|h|h|h|h
  .rw[show push n ts= .inl 2 by simp[push,h],h];rfl
  .have e0:G8 .i64 (o8 (vX ts)) 0=((vX ts).length:Int):=by rw[V4 (by unfold kQ o8;omega)];simp[o8]
   rw[show push n ts= .inr (.l0 n::ts) by simp[push,h],h,O6 o5,o6,O6 (a4e _),o6,o6,e0,show pX 0 ((vX ts).length:Int) (o8 (vX ts))=true by simp[pX,o8],o7,
    show mP (vX ts) (U8 0) (U8 ((vX ts).length:Int))=vX ts by simp[mP,U8],nT _ o5,x8,iy o5]
   rw[show vX ts++[(mf ts:Int)]=vX (.l0 n::ts)from rfl,a8I];by_cases hc:12<(XT.l0 n::ts).length
   .simp only[hc,decide_true,if_true,o7]
   .simp only[hc,decide_false,if_false,o6,mf,XT.size,stR,XT.sts,show e.length -(mf ts+1)=m by omega]
  .match ts with
   |[]=>rw[show push n []= .inl 5 by simp[push,h],h];rfl|a::r=>
    obtain⟨p1,p2,p3,p4,p5⟩:=a6X [a] r 1 rfl (by simp at hl ⊢;omega) A7;simp only[bg,J9]at p1 p2 p3 p4 p5;have:=UO (a::r);have:=vO r;simp only[H8]at hl;rw[show push n (a::r)= .inr (.l1 n a::r) by simp[push,h],h,O6 o5,o6,show(1:Int)=((1:Nat):Int)from rfl,YW,show decide ((a::r).length<1)=false by simp];simp only[Int.natCast_one]at p1 ⊢;rw[o6,V7 o5,o7,p1,p2,x8,p3,x8,p4,o7,p5];rw[←hst]
    try simp only[Uk,Qv,Ph,x8]
    rw[hst,nT _ o5,x8,iy o5];rw[show vX r++[(mf r:Int)]=vX (.l1 n a::r)from rfl,a8I];have hz:=Qz (show push n (a::r)= .inr (.l1 n a::r) by simp[push,h]);by_cases hc:12<(XT.l1 n a::r).length
    .simp only[hc,decide_true,if_true,o7]
    .simp only[hc,decide_false,if_false,o6,hz,show e.length -(mf (a::r)+1)=m by omega,stR,XT.sts,G5]
  .match ts with
   |[]=>rw[show push n []= .inl 5 by simp[push,h],h];rfl|[a]=>rw[show push n [a]= .inl 5 by simp[push,h],h];rfl|b::a::r=>
    obtain⟨p1,p2,p3,p4,p5⟩:=a6X [b,a] r 2 rfl (by simp at hl ⊢;omega) A7;simp only[bg,J9]at p1 p2 p3 p4 p5;have:=UO (b::a::r);have:=vO r;simp only[H8]at hl;rw[show push n (b::a::r)= .inr (.l2 n a b::r) by simp[push,h],h,O6 o5,o6,show(2:Int)=((2:Nat):Int)from rfl,YW,show decide ((b::a::r).length<2)=false by simp];rw[o6,V7 o5,o7,show((2:Nat):Int)=2 from rfl,p1,p2,x8,p3,x8,p4,o7,p5];rw[←hst]
    try simp only[Uk,Qv,Ph,x8]
    rw[hst,nT _ o5,x8,iy o5];rw[show vX r++[(mf r:Int)]=vX (.l2 n a b::r)from rfl,a8I];have hz:=Qz (show push n (b::a::r)= .inr (.l2 n a b::r) by simp[push,h]);by_cases hc:12<(XT.l2 n a b::r).length
    .simp only[hc,decide_true,if_true,o7]
    .rw[hz,show e.length -(mf (b::a::r)+1)=m by omega,show stR (.l2 n a b::r)=stR (b::a::r)++[(mf r:Int)] by simp only[stR,XT.sts,G5,mf]];simp only[hc,decide_false,if_false,o6]
  .match ts with
   |[]=>rw[show push n []= .inl 5 by simp[push,h],h];rfl|[a]=>rw[show push n [a]= .inl 5 by simp[push,h],h];rfl|[b,a]=>rw[show push n [b,a]= .inl 5 by simp[push,h],h];rfl|c::b::a::r=>
    obtain⟨p1,p2,p3,p4,p5⟩:=a6X [c,b,a] r 3 rfl (by simp at hl ⊢;omega) A7;simp only[bg,J9]at p1 p2 p3 p4 p5;have:=UO (c::b::a::r);have:=vO r;simp only[H8]at hl;rw[show push n (c::b::a::r)= .inr (.l3 n a b c::r) by simp[push,h],h,O6 o5,o6,show(3:Int)=((3:Nat):Int)from rfl,YW,show decide ((c::b::a::r).length<3)=false by simp];rw[o6,V7 o5,o7,show((3:Nat):Int)=3 from rfl,p1,p2,x8,p3,x8,p4,o7,p5];rw[←hst]
    try simp only[Uk,Qv,Ph,x8]
    rw[hst,nT _ o5,x8,iy o5];rw[show vX r++[(mf r:Int)]=vX (.l3 n a b c::r)from rfl,a8I];have hz:=Qz (show push n (c::b::a::r)= .inr (.l3 n a b c::r) by simp[push,h]);by_cases hc:12<(XT.l3 n a b c::r).length
    .simp only[hc,decide_true,if_true,o7]
    .rw[hz,show e.length -(mf (c::b::a::r)+1)=m by omega,show stR (.l3 n a b c::r)=stR (c::b::a::r)++[(mf r:Int)] by simp only[stR,XT.sts,G5,mf]];simp only[hc,decide_false,if_false,o6]
 .simp only[hsz,V5];rfl
end
section
def VT(t:Int×Int):Prop:=t=(1,0)\/t=(2,0)\/t=(3,0)\/t=(4,0)\/t=(5,0)\/∃e,t=(6,e)
theorem PT{t:Int×Int}{en:List dI}(h:vty t en=true):VT t:=by
 obtain⟨k,e⟩:=t;unfold vty at h;simp only at h;cases h6:o9 k 6
 .rw[h6,o6]at h;cases h1:J8 1 k<;>rw[h1]at h
  .cases h
  cases h5:J8 k 5<;>rw[h5]at h
  .cases h
  simp only[o7,Z5]at h;rw[sK]at h1 h5;subst h;have:k=1\/k=2\/k=3\/k=4\/k=5:=o5;rcases this with rfl|rfl|rfl|rfl|rfl<;>simp[VT]
 .rw[Z5]at h6;subst h6;exact .inr (.inr (.inr (.inr (.inr ⟨e,rfl⟩))))
def EN(n:Int×Int)(ops:List (Int×Int))(sg:J4):Option ((Int×Int)×Int):=
 l7 (D9 (o9 n.2 0)) (l9 (kJ n.1) λu=>l7 (D9 u) (some ((0,0),2)) (dD n ops sg)) (dD n ops sg)
def wu(n:Int×Int)(ops:List (Int×Int))(sg:J4):Prop:=∃r:(Int×Int)×Int,zf n ops sg=some r/\EN n ops sg=some r/\(r.2=0->VT r.1)
variable {k:Int}
theorem VT.lit(h:1<=k/\k<=5):VT (k,0):=by have:k=1\/k=2\/k=3\/k=4\/k=5:=o5;rcases this with rfl|rfl|rfl|rfl|rfl<;>simp[VT]
theorem Jc(a b:Int):J8 a b= !E5 b a:=by simp only[E5,J8];rw[←decide_not];congr 1;simp
theorem Jl{α β:Type}(o:Option β)(f:α->Option β):l9 (l9 o λx=>some (Sum.inr x)) (λq=>U4 q f λr=>some r)=o:=by cases o<;>rfl
theorem VT.enum(e:Int):VT (6,e):=.inr (.inr (.inr (.inr (.inr ⟨e,rfl⟩))))
theorem uk{R E:Option ((Int×Int)×Int)}{c:Int}(hc:c≠0)(h1:R=some ((0,0),c))(h2:E=some ((0,0),c)):∃r:(Int×Int)×Int,R=some r/\E=some r/\(r.2=0->VT r.1):=⟨_,h1,h2,λh=>absurd h hc⟩
theorem nok{R E:Option ((Int×Int)×Int)}{t:Int×Int}(hv:VT t)(h1:R=some (t,0))(h2:E=some (t,0)):∃r:(Int×Int)×Int,R=some r/\E=some r/\(r.2=0->VT r.1):=⟨_,h1,h2,λ_=>hv⟩
def RR(a0:Int×Int)(a1:List (Int×Int))(a2:J4):Option ((Int×Int)×Int):=
 l9 (uu a0 a2) λ(x:Bool)=>l7 (D9 x) (some ((0,0),3)) (l9 (pW a0 a2) λ(x:Bool)=>l7 (D9 x) (some ((0,0),6))
  (l7 (o9 (o8 a1) 0) (l9 (mV a0 a2) λ(x:bQ×Bool)=>l7 (D9 x.2) (some ((0,0),8)) (some (x.1,0)))
  (l7 (o9 (o8 a1) 1) (l9 (G9 a1 0) λ(x:bQ)=>l9 (oU a0 x a2) λ(x:bQ×Bool)=>l7 (D9 x.2) (some ((0,0),8)) (some (x.1,0)))
  (l7 (o9 (o8 a1) 2) (l9 (G9 a1 0) λ(x:bQ)=>l9 (G9 a1 1) λ(x_1:bQ)=>l9 (zg a0.1 x x_1) λ(x:bQ×Bool)=>l7 (D9 x.2) (some ((0,0),8)) (some (x.1,0)))
  (l9 (G9 a1 1) λ(x:bQ)=>l9 (G9 a1 0) λ(x_1:bQ)=>l7 (o9 x_1.1 1) (l9 (G9 a1 1) λ(x_2:bQ)=>l9 (G9 a1 2) λ(x_3:bQ)=>
   l7 (D9 (fG (o9 x_2.1 x_3.1) (o9 x_2.2 x_3.2))) (some ((0,0),8)) (some (x,0))) (l7 (D9 false) (some ((0,0),8)) (some (x,0))))))))
theorem b1t(n:Int×Int)(ops:List (Int×Int))(sg:J4):zf n ops sg=l7 (D9 (o9 n.2 0)) (l9 (iY n.1) λx=>l7 x (RR n ops sg) (some ((0,0),2))) (RR n ops sg):=by
 unfold zf;cases o9 n.2 0
 .simp only[gz,o7];cases iY n.1 with
  |none=>rfl|some b=>cases b<;>rfl
 .rfl
theorem OY{op N:Int}{ops:List (Int×Int)}{sg:J4}(h1:kJ op=some true)(h2:iY op=some true)
  (h:∃r:(Int×Int)×Int,RR (op,N) ops sg=some r/\dD (op,N) ops sg=some r/\(r.2=0->VT r.1)):wu (op,N) ops sg:=by
 unfold wu;rw[b1t];unfold EN;dsimp only;rw[h1,h2];cases o9 N 0<;>exact h
theorem VD{op N:Int}{ops:List (Int×Int)}{sg:J4}(h1:kJ op=some false)(h2:iY op=some false)
  (h:∃r:(Int×Int)×Int,RR (op,0) ops sg=some r/\dD (op,0) ops sg=some r/\(r.2=0->VT r.1)):wu (op,N) ops sg:=by
 unfold wu;rw[b1t];unfold EN;dsimp only;rw[h1,h2];cases hz:o9 N 0
 .exact uk (c:=2) F8 rfl rfl
 .rw[Z5]at hz;subst hz;exact h
section
variable (N:Int) (sg:J4)
theorem b2S(hk:k=1\/k=2\/k=3\/k=4\/k=5):wu (k,N) [] sg:=by
 have hv:vty (k,0) sg.1=true:=by rcases hk with rfl|rfl|rfl|rfl|rfl<;>rfl
 have hm:kJ k=some true/\iY k=some true:=by rcases hk with rfl|rfl|rfl|rfl|rfl<;>exact⟨rfl,rfl⟩
 refine OY hm.1 hm.2 ?_;have key:dD (k,N) [] sg=lN N k sg:=by rcases hk with rfl|rfl|rfl|rfl|rfl<;>exact Jl _ _
 have key2:RR (k,N) [] sg=l9 (l9 (jA (k,0) sg.1) λ(x:bQ)=>l7 (J8 x.1 N) (some (J8 N x.2)) (some false)) λ(x:Bool)=>l7 (D9 x) (some ((0,0),3)) (some ((k,0),0)):=by rcases hk with rfl|rfl|rfl|rfl|rfl<;>rfl
 rw[key,key2];unfold lN;rw[Vg,ZK,x8,x8,ug,ug];cases J8 (bnd (k,0) sg.1).1 N
 .exact uk (c:=3) F8 rfl rfl
 cases J8 N (bnd (k,0) sg.1).2
 .exact uk (c:=3) F8 rfl rfl
 .exact nok (PT hv) rfl rfl
theorem b0u(hN:kQ N):wu (6,N) [] sg:=by
 have hq:0<=N->cZ .i64 N 16=N / 16:=λh=>by rw[Cf (by rw[kH h];unfold kQ at*;omega),kH h]
 refine OY rfl rfl ?_;have hf:pW (6,N) sg=l7 (E5 (cZ .i64 N 16) (o8 sg.1)) (l9 (G9 sg.1 (cZ .i64 N 16)) λ(x:dI)=>some (E5 (dG N 16) (o8 x.2))) (some false):=rfl;have hl:mV (6,N) sg=some ((6,cZ .i64 N 16),vty (6,cZ .i64 N 16) sg.1):=by unfold mV;simp only[rf];rfl
 rw[show dD (6,N) [] sg=Ep N sg from Jl _ _];unfold RR Ep;rw[hf,show uu (6,N) sg=some (J8 0 N)from rfl,hl];by_cases h0:0<=N
 .rw[O6 h0,af h0,hq h0];by_cases h1:N / 16<o8 sg.1
  .obtain⟨x,hx,_⟩:=qA (show 0<=N / 16 by omega) h1;rw[V7 h1,aA h1,hx,show vty (6,N / 16) sg.1=true by unfold vty;simp only[af (show 0<=N / 16 by omega),V7 h1];rfl];simp only[x8,ug];cases J8 (o8 x.2) (dG N 16)
   .exact nok (VT.enum (N / 16)) rfl rfl
   .exact uk (c:=6) F8 rfl rfl
  .have h1' :o8 sg.1<=N / 16:=o5;rw[O6 h1',af h1'];exact uk (c:=6) F8 rfl rfl
 .rw[V7 (show N<0 by omega),aA (show N<0 by omega)];exact uk (c:=3) F8 rfl rfl
theorem CP(ts:List (Int×Int))(en:J4):(∃x,G9 ts N=some x/\J8 0 N=true/\E5 N (o8 ts)=true/\lq N ts en=some (l7 (vty x en.1) (x,0) ((0,0),8)))\/((J8 0 N=false\/J8 0 N=true/\E5 N (o8 ts)=false)/\lq N ts en=some ((0,0),6)):=by
 unfold lq;rw[ug N 0,Jc (o8 ts) N];cases h0:J8 0 N
 .exact .inr ⟨.inl A7,rfl⟩
 cases h1:E5 N (o8 ts)
 .exact .inr ⟨.inr A7,rfl⟩
 rw[sK]at h0;rw[ku]at h1;obtain⟨x,hx,_⟩:=qA h0 h1;rw[hx];simp only[og,Bool.not_false,o6,o7,x8,zq];exact .inl ⟨x,rfl,A7,A7,by cases vty x en.1<;>rfl⟩
theorem b7m:wu (7,N) [] sg:=by
 refine OY rfl rfl ?_;rw[show dD (7,N) [] sg=lq N sg.2.2.1 sg from Jl _ _];have hf:pW (7,N) sg=l7 (J8 0 N) (some (E5 N (o8 sg.2.2.1))) (some false):=rfl;unfold RR;rw[hf,show uu (7,N) sg=some true from rfl];rcases CP N sg.2.2.1 sg with⟨x,h1,h2,h3,h4⟩|⟨h1|⟨h1,h2⟩,h4⟩
 .have hl:mV (7,N) sg=some (x,vty x sg.1):=by
   unfold mV;dsimp only;rw[h1];simp only[rf];rfl
  rw[h2,h3,h4,hl];cases hv:vty x sg.1
  .exact uk (c:=8) F8 rfl rfl
  .exact nok (PT hv) rfl rfl
 .rw[h1,h4];exact uk (c:=6) F8 rfl rfl
 .rw[h1,h2,h4];exact uk (c:=6) F8 rfl rfl
theorem b2Q:wu (8,N) [] sg:=by
 refine OY rfl rfl ?_;rw[show dD (8,N) [] sg=lq N sg.2.2.2.1 sg from Jl _ _];have hf:pW (8,N) sg=l7 (J8 0 N) (some (E5 N (o8 sg.2.2.2.1))) (some false):=rfl;unfold RR;rw[hf,show uu (8,N) sg=some true from rfl];rcases CP N sg.2.2.2.1 sg with⟨x,h1,h2,h3,h4⟩|⟨h1|⟨h1,h2⟩,h4⟩
 .have hl:mV (8,N) sg=some (x,vty x sg.1):=by
   unfold mV;dsimp only;rw[h1];simp only[rf];rfl
  rw[h2,h3,h4,hl];cases hv:vty x sg.1
  .exact uk (c:=8) F8 rfl rfl
  .exact nok (PT hv) rfl rfl
 .rw[h1,h4];exact uk (c:=6) F8 rfl rfl
 .rw[h1,h2,h4];exact uk (c:=6) F8 rfl rfl
theorem b0t:wu (9,N) [] sg:=VD rfl rfl (nok (VT.lit (k:=5) o5) rfl rfl)
theorem a6M:wu (35,N) [] sg:=by
 refine VD rfl rfl ?_;rw[show dD (35,0) [] sg=tH (35,0) sg from Jl _ _];unfold RR tH;simp only[uu,pW,mV,rf,x8];cases sg.2.2.2.2.2
 .exact uk (c:=6) F8 rfl rfl
 .exact nok (VT.lit (k:=2) o5) rfl rfl
theorem b2T(hk:k=36\/k=37\/k=38\/k=39):wu (k,N) [] sg:=by
 have hm:kJ k=some true/\iY k=some true/\o9 k 35=false:=by rcases hk with rfl|rfl|rfl|rfl<;>exact⟨rfl,rfl,rfl⟩
 refine OY hm.1 hm.2.1 ?_;rw[show dD (k,N) [] sg=tH (k,N) sg by rcases hk with rfl|rfl|rfl|rfl<;>exact Jl _ _];have hr:RR (k,N) [] sg=l9 (l7 sg.2.2.2.2.2 (l7 (J8 0 N) (some (E5 N (o8 sg.2.2.2.2.1))) (some false)) (some false)) λ(x:Bool)=>l7 (D9 x) (some ((0,0),6))
   (l9 (mV (k,N) sg) λ(x:bQ×Bool)=>l7 (D9 x.2) (some ((0,0),8)) (some (x.1,0))):=by rcases hk with rfl|rfl|rfl|rfl<;>rfl
 rw[hr];unfold tH;rw[hm.2.2,o6];cases sg.2.2.2.2.2
 .exact uk (c:=6) F8 rfl rfl
 simp only[o7,G6,o6];rcases CP N sg.2.2.2.2.1 sg with⟨x,h1,h2,h3,h4⟩|⟨h1|⟨h1,h2⟩,h4⟩
 .rw[h2,h3,h4];have hl:mV (k,N) sg=l9 (some (l7 (o9 k 36) (l7 (vty x sg.1) (l7 (o9 x.1 2) true (o9 x.1 3)) false) (l7 (o9 k 39) (l7 (vty x sg.1) (l7 (o9 x.1 2) true (l7 (o9 x.1 3) true (l7 (o9 x.1 4) true (o9 x.1 5)))) false) (l7 (vty x sg.1) (o9 x.1 1) false)))) λb=>some (x,b):=by
   unfold mV;simp only[rf,uJ,zh];rcases hk with rfl|rfl|rfl|rfl<;>(rw[h1];simp only[o9,Int.reduceEq,decide_true,decide_false,o7,o6,x8];cases vty x sg.1<;>cases decide (x.1=2)<;>cases decide (x.1=3)<;>cases decide (x.1=4)<;>rfl)
  rw[hl];simp only[x8,oI];cases hv:vty x sg.1
  .rcases hk with rfl|rfl|rfl|rfl<;>exact uk (c:=8) F8 rfl rfl
  .have hx:=PT hv;rcases hk with rfl|rfl|rfl|rfl<;>rcases hx with rfl|rfl|rfl|rfl|rfl|⟨e,rfl⟩ <;>
    first
    |exact nok (PT hv) rfl rfl
    |exact uk (c:=8) F8 rfl rfl
 .rw[h1,h4];exact uk (c:=6) F8 rfl rfl
 .rw[h1,h2,h4];exact uk (c:=6) F8 rfl rfl
end
end
section
variable {a:Int×Int}{k:Int}{b:Int×Int}
section
variable (N:Int) (sg:J4)
theorem b7n(hk:k=10\/k=25\/k=31\/k=32)(ha:VT a):wu (k,N) [a] sg:=by
 have hm:kJ k=some false/\iY k=some false:=by rcases hk with rfl|rfl|rfl|rfl<;>exact⟨rfl,rfl⟩
 refine VD hm.1 hm.2 ?_;rcases hk with rfl|rfl|rfl|rfl<;>rcases ha with rfl|rfl|rfl|rfl|rfl|⟨e,rfl⟩ <;>
  first
  |exact nok (VT.lit (k:=1) o5) rfl rfl
  |exact nok (VT.lit (k:=2) o5) rfl rfl
  |exact nok (VT.lit (k:=3) o5) rfl rfl
  |exact nok (VT.lit (k:=4) o5) rfl rfl
  |exact uk (c:=8) F8 rfl rfl
theorem b2P(hk:k=13\/k=23\/k=24\/k=27\/k=28\/k=29\/k=30)(ha:VT a)(hb:VT b):wu (k,N) [a,b] sg:=by
 have hm:kJ k=some false/\iY k=some false:=by rcases hk with rfl|rfl|rfl|rfl|rfl|rfl|rfl<;>exact⟨rfl,rfl⟩
 refine VD hm.1 hm.2 ?_;rcases hk with rfl|rfl|rfl|rfl|rfl|rfl|rfl<;>rcases ha with rfl|rfl|rfl|rfl|rfl|⟨e,rfl⟩<;>rcases hb with rfl|rfl|rfl|rfl|rfl|⟨f,rfl⟩ <;>
  first
  |exact uk (c:=8) F8 rfl rfl
  |exact nok (VT.lit (k:=1) o5) rfl rfl
  |exact nok (VT.lit (k:=2) o5) rfl rfl
  |exact nok (VT.lit (k:=3) o5) rfl rfl
  |exact nok (VT.lit (k:=4) o5) rfl rfl
  |exact nok (VT.lit (k:=5) o5) rfl rfl
theorem b0v(hk:k=14\/k=15\/k=16)(ha:VT a)(hb:VT b):wu (k,N) [a,b] sg:=by
 have hm:kJ k=some true/\iY k=some true:=by rcases hk with rfl|rfl|rfl<;>exact⟨rfl,rfl⟩
 refine OY hm.1 hm.2 ?_;have hr:RR (k,N) [a,b] sg=l9 (l7 (J8 0 N) (some (J8 N 5)) (some false)) λx=>l7 (D9 x) (some ((0,0),3)) (l9 (zg k a b) λx=>l7 (D9 x.2) (some ((0,0),8)) (some (x.1,0))):=by rcases hk with rfl|rfl|rfl<;>rfl
 have he:dD (k,N) [a,b] sg=l9 (l7 (J8 0 N) (some (J8 N 5)) (some false)) λx=>l7 (D9 x) (some ((0,0),3)) (l9 (qx k [a,b]) λx=>l7 (D9 x.2) (some ((0,0),8)) (some (x.1,0))):=by
  rcases hk with rfl|rfl|rfl <;>
   (show l9 (l9 (pF N) λx=>l7 (D9 x) (some (Sum.inr (((0:Int),(0:Int)),(3:Int)))) (some (.inl ((0:Int),(0:Int))))) _=_
    unfold pF;cases J8 0 N<;>cases J8 N 5<;>rfl)
 rw[hr,he];cases J8 0 N
 .exact uk (c:=3) F8 rfl rfl
 cases J8 N 5
 .exact uk (c:=3) F8 rfl rfl
 rcases hk with rfl|rfl|rfl<;>rcases ha with rfl|rfl|rfl|rfl|rfl|⟨e,rfl⟩<;>rcases hb with rfl|rfl|rfl|rfl|rfl|⟨f,rfl⟩ <;>
  first
  |exact uk (c:=8) F8 rfl rfl
  |exact nok (VT.lit (k:=2) o5) rfl rfl
  |exact nok (VT.lit (k:=3) o5) rfl rfl
  |exact nok (VT.lit (k:=4) o5) rfl rfl
theorem b0w(hk:k=11\/k=12\/k=17\/k=18\/k=19\/k=20\/k=21\/k=22)(ha:VT a):wu (k,N) [a,b] sg:=by
 have hm:kJ k=some false/\iY k=some false:=by rcases hk with rfl|rfl|rfl|rfl|rfl|rfl|rfl|rfl<;>exact⟨rfl,rfl⟩
 refine VD hm.1 hm.2 ?_;have hr:RR (k,0) [a,b] sg=l9 (zg k a b) λx=>l7 (D9 x.2) (some ((0,0),8)) (some (x.1,0)):=by rcases hk with rfl|rfl|rfl|rfl|rfl|rfl|rfl|rfl<;>rfl
 have he:dD (k,0) [a,b] sg=l9 (qx k [a,b]) λx=>l7 (D9 x.2) (some ((0,0),8)) (some (x.1,0)):=by rcases hk with rfl|rfl|rfl|rfl|rfl|rfl|rfl|rfl<;>rfl
 rw[hr,he];unfold zg qx;simp only[show G9 [a,b] 0=some a from rfl,show G9 [a,b] 1=some b from rfl,x8,zh,uJ,jT,oI];cases h1:o9 a.1 b.1
 .rcases hk with rfl|rfl|rfl|rfl|rfl|rfl|rfl|rfl<;>exact uk (c:=8) F8 rfl rfl
 cases h2:o9 a.2 b.2
 .rcases hk with rfl|rfl|rfl|rfl|rfl|rfl|rfl|rfl<;>exact uk (c:=8) F8 rfl rfl
 have ha' :=ha;rcases hk with rfl|rfl|rfl|rfl|rfl|rfl|rfl|rfl<;>rcases ha with rfl|rfl|rfl|rfl|rfl|⟨e,rfl⟩ <;>
  first
  |exact nok ha' rfl rfl
  |exact nok (VT.lit (k:=1) o5) rfl rfl
  |exact uk (c:=8) F8 rfl rfl
theorem b7l{a b c:Int×Int}(ha:VT a)(hb:VT b):wu (26,N) [a,b,c] sg:=by
 refine VD rfl rfl ?_;have hr:RR (26,0) [a,b,c] sg=l7 (o9 a.1 1) (l7 (D9 (fG (o9 b.1 c.1) (o9 b.2 c.2))) (some ((0,0),8)) (some (b,0))) (some ((0,0),8)):=rfl;have he:dD (26,0) [a,b,c] sg=l9 (qx 26 [a,b,c]) λx=>l7 (D9 x.2) (some ((0,0),8)) (some (x.1,0)):=rfl;have he2:qx 26 [a,b,c]=l9 (l7 (o9 a.1 1) (some (Sum.inr (b,fG (o9 b.1 c.1) (o9 b.2 c.2)))) (some (Sum.inr (b,false)))) λ(o:bQ⊕bQ×Bool)=>U4 o (λ(x:bQ)=>some ((0,0),false)) λ(r:bQ×Bool)=>some r:=rfl;rw[hr,he,he2];cases o9 a.1 1
 .exact uk (c:=8) F8 rfl rfl
 cases o9 b.1 c.1
 .exact uk (c:=8) F8 rfl rfl
 cases o9 b.2 c.2
 .exact uk (c:=8) F8 rfl rfl
 .exact nok hb rfl rfl
theorem a4x(ha:VT a):wu (33,N) [a] sg:=by
 refine OY rfl rfl ?_;have he:dD (33,N) [a] sg=vI (33,N) a sg:=Jl _ _;have hr:RR (33,N) [a] sg=l9 (l7 (J8 0 N) (some (E5 N (o8 sg.2.1))) (some false)) λx=>l7 (D9 x) (some ((0,0),6)) (l9 (oU (33,N) a sg) λx=>l7 (D9 x.2) (some ((0,0),8)) (some (x.1,0))):=rfl;have hs:oU (33,N) a sg=l9 (G9 sg.2.1 N) λ(x:ak)=>l9 (bF x.2.1 sg.1) λ(x_1:Bool)=>l7 x_1 (l9 (bF x.2.2.1 sg.1) λ(x_2:Bool)=>l7 x_2 (some (x.2.2.1,fG (o9 a.1 x.2.1.1) (o9 a.2 x.2.1.2))) (some (x.2.2.1,false))) (some (x.2.2.1,false)):=rfl;rw[he,hr,hs];unfold vI;simp only[o9,Int.reduceEq,decide_false,o6,x8,aj,ug N 0,Jc (o8 sg.2.1) N];cases h0:J8 0 N
 .exact uk (c:=6) F8 rfl rfl
 cases h1:E5 N (o8 sg.2.1)
 .exact uk (c:=6) F8 rfl rfl
 rw[sK]at h0;rw[ku]at h1;obtain⟨x,hx,_⟩:=qA h0 h1;simp only[x8,aj,og,o6,hx,zq,rf,gz,o7];cases vty x.2.1 sg.1
 .exact uk (c:=8) F8 rfl rfl
 cases hv:vty x.2.2.1 sg.1
 .exact uk (c:=8) F8 rfl rfl
 simp only[G6,o6,o7,x8];cases fG (decide (a.1=x.2.1.1)) (decide (a.2=x.2.1.2))
 .exact uk (c:=8) F8 rfl rfl
 .exact nok (PT hv) rfl rfl
theorem T_(hN:kQ N)(ha:VT a):wu (34,N) [a] sg:=by
 refine OY rfl rfl ?_;have he:dD (34,N) [a] sg=vI (34,N) a sg:=Jl _ _;have hr:RR (34,N) [a] sg=l9 (l7 (J8 0 N) (some (J8 (dG N 8) 5)) (some false)) λx=>l7 (D9 x) (some ((0,0),3)) (l7 (D9 (E5 (cZ .i64 N 8) (o8 sg.2.1))) (some ((0,0),6)) (l9 (oU (34,N) a sg) λx=>l7 (D9 x.2) (some ((0,0),8)) (some (x.1,0)))):=rfl;have hs:oU (34,N) a sg=l9 (G9 sg.2.1 (cZ .i64 N 8)) λ(x:ak)=>l7 (o9 a.1 3) (l7 (fG (o9 x.2.1.1 3) (o9 x.2.1.2 0)) (some (a,fG (o9 x.2.2.1.1 4) (o9 x.2.2.1.2 0))) (some (a,false))) (some (a,false)):=rfl;rw[he,hr,hs];unfold vI pF;by_cases h0:0<=N
 case neg=>rw[aA (show N<0 by omega),V7 (show N<0 by omega)];exact uk (c:=3) F8 rfl rfl
 have hq:cZ .i64 N 8=N / 8:=by rw[Cf (by rw[kH h0];unfold kQ at*;omega),kH h0]
 rw[af h0,O6 h0,hq,zK h0];simp only[o9,Int.reduceEq,decide_true,o7,o6,af (show 0<=N % 8 by omega),x8];cases J8 (N % 8) 5
 .exact uk (c:=3) F8 rfl rfl
 simp only[G6,o6,x8,aj,O6 (show 0<=N / 8 by omega),Jc];cases h1:E5 (N / 8) (o8 sg.2.1)
 .exact uk (c:=6) F8 rfl rfl
 rw[ku]at h1;obtain⟨x,hx,_⟩:=qA (show 0<=N / 8 by omega) h1;simp only[hx,og,o6,x8,aj,zq,G6];obtain⟨nm,⟨k1,k2⟩,⟨v1,v2⟩,rows⟩:=x;dsimp only;by_cases hK:k1=3/\k2=0
 .obtain⟨rfl,rfl⟩:=hK;by_cases hV:v1=4/\v2=0
  .obtain⟨rfl,rfl⟩:=hV;rcases ha with rfl|rfl|rfl|rfl|rfl|⟨e,rfl⟩ <;>
    first
    |exact nok (VT.lit (k:=3) o5) rfl rfl
    |exact uk (c:=8) F8 rfl rfl
  .have hE:vty (v1,v2) sg.1=true->v1≠4:=λhv h=>by
    subst h;rcases PT hv with h|h|h|h|h|⟨e,h⟩<;>cases h;exact hV ⟨rfl,rfl⟩
   have hR:fG (decide (v1=4)) (decide (v2=0))=false:=by
    by_cases h1:v1=4
    .have:v2≠0:=λh2=>hV ⟨h1,h2⟩;simp[fG,h1,this]
    .simp[fG,h1]
   rw[hR];cases hv:vty (v1,v2) sg.1
   .rcases ha with rfl|rfl|rfl|rfl|rfl|⟨e,rfl⟩<;>exact uk (c:=8) F8 rfl rfl
   .have h4:=hE hv;rw[show decide (v1=4)=false by simp[h4]];rcases ha with rfl|rfl|rfl|rfl|rfl|⟨e,rfl⟩<;>exact uk (c:=8) F8 rfl rfl
 .have hR:fG (decide (k1=3)) (decide (k2=0))=false:=by
   by_cases h1:k1=3
   .have:k2≠0:=λh2=>hK ⟨h1,h2⟩;simp[fG,h1,this]
   .simp[fG,h1]
  rw[hR];cases hv:vty (k1,k2) sg.1
  .rcases ha with rfl|rfl|rfl|rfl|rfl|⟨e,rfl⟩<;>exact uk (c:=8) F8 rfl rfl
  cases hw:vty (v1,v2) sg.1
  .rcases ha with rfl|rfl|rfl|rfl|rfl|⟨e,rfl⟩<;>exact uk (c:=8) F8 rfl rfl
  have h3:k1≠3:=λh=>by subst h;rcases PT hv with h|h|h|h|h|⟨e,h⟩<;>cases h;exact hK ⟨rfl,rfl⟩
  simp only[show decide (k1=3)=false by simp[h3],G6,o6,o7,x8];cases fG (decide (a.1=k1)) (decide (a.2=k2))
  .cases decide (a.1=3)<;>exact uk (c:=8) F8 rfl rfl
  .cases decide (a.1=3)<;>exact uk (c:=8) F8 rfl rfl
theorem a8Z(n:Int×Int)(hN:kQ n.2)(ops:List (Int×Int))(hv:∀t∈ops,VT t)(hl:o8 ops=arF n.1):wu n ops sg:=by
 obtain⟨op,N⟩:=n;dsimp only at hN hl;have hr:1<=op/\op<=39:=by
  by_cases h:1<=op/\op<=39
  .exact h
  .have:arF op=-1:=by unfold arF;rw[a9j h];rfl
   rw[this]at hl;simp[o8]at hl
 have hc:op=1\/op=2\/op=3\/op=4\/op=5\/op=6\/op=7\/op=8\/op=9\/op=10\/op=11\/op=12\/op=13\/op=14\/op=15\/op=16\/op=17\/op=18\/op=19\/op=20\/op=21\/op=22\/op=23\/op=24\/op=25\/op=26\/op=27\/op=28\/op=29\/op=30\/op=31\/op=32\/op=33\/op=34\/op=35\/op=36\/op=37\/op=38\/op=39:=o5;have L0:arF op=0->ops=[]:=λh=>by rw[h]at hl;simp only[o8]at hl;exact O7.1 o5
 have L1:arF op=1->∃a,ops=[a]/\VT a:=λh=>by
  rw[h]at hl;simp only[o8]at hl;match ops,hl,hv with
  |[a],_,hv=>exact⟨a,rfl,hv a A7⟩|[],hl,_=>simp at hl|a::b::r,hl,_=>simp at hl;omega
 have L2:arF op=2->∃a b,ops=[a,b]/\VT a/\VT b:=λh=>by
  rw[h]at hl;simp only[o8]at hl;match ops,hl,hv with
  |[a,b],_,hv=>exact⟨a,b,rfl,hv a A7,hv b A7⟩|[],hl,_=>simp at hl|[a],hl,_=>simp at hl|a::b::c::r,hl,_=>simp at hl;omega
 have L3:arF op=3->∃a b c,ops=[a,b,c]/\VT a/\VT b:=λh=>by
  rw[h]at hl;simp only[o8]at hl;match ops,hl,hv with
  |[a,b,c],_,hv=>exact⟨a,b,c,rfl,hv a A7,hv b A7⟩|[],hl,_=>simp at hl|[a],hl,_=>simp at hl|[a,b],hl,_=>simp at hl|a::b::c::d::r,hl,_=>simp at hl;omega
 rcases hc with rfl|rfl|rfl|rfl|rfl|rfl|rfl|rfl|rfl|rfl|rfl|rfl|rfl|rfl|rfl|rfl|rfl|rfl|rfl|rfl|rfl|rfl|rfl|rfl|rfl|rfl|rfl|rfl|rfl|rfl|rfl|rfl|rfl|rfl|rfl|rfl|rfl|rfl|rfl <;>
  first
  |(rw[L0 rfl];first|exact b2S N sg o5|exact b0u N sg hN|exact b7m N sg|exact b2Q N sg|exact b0t N sg|exact a6M N sg|exact b2T N sg o5)
  |(obtain⟨a,rfl,ha⟩:=L1 rfl;first|exact b7n N sg o5 ha|exact a4x N sg ha|exact T_ N sg hN ha)
  |(obtain⟨a,b,rfl,ha,hb⟩:=L2 rfl;first|exact b2P N sg o5 ha hb|exact b0v N sg o5 ha hb|exact b0w N sg o5 ha)
  |(obtain⟨a,b,c,rfl,ha,hb⟩:=L3 rfl;exact b7l N sg ha hb)
end
end
section
def XT.wf:XT->Prop
 | .l0 n=>arF n.1=0| .l1 n a=>arF n.1=1/\a.wf| .l2 n a b=>arF n.1=2/\a.wf/\b.wf| .l3 n a b c=>arF n.1=3/\a.wf/\b.wf/\c.wf
theorem b7w{n:Int×Int}{ts ts' :List XT}(h:push n ts= .inr ts')(hw:∀t∈ts,t.wf):∀t∈ts',t.wf:=by
 unfold push at h;split at h
 .cases h;intro t ht;rcases D6.1 ht with rfl|ht
  .assumption
  .exact hw t ht
 split at h
 .split at h
  .cases h;intro t ht;rcases D6.1 ht with rfl|ht
   .exact⟨by assumption,hw _ A7⟩
   .exact hw t (by simp[ht])
  .cases h
 split at h
 .split at h
  .cases h;intro t ht;rcases D6.1 ht with rfl|ht
   .exact⟨by assumption,hw _ A7,hw _ A7⟩
   .exact hw t (by simp[ht])
  .cases h
 split at h
 .split at h
  .cases h;intro t ht;rcases D6.1 ht with rfl|ht
   .exact⟨by assumption,hw _ A7,hw _ A7,hw _ A7⟩
   .exact hw t (by simp[ht])
  .cases h
 .cases h
theorem a4J:∀(es:List (Int×Int)) (i:Nat) (ts ts' :List XT),zG i es ts= .inr ts' ->(∀t∈ts,t.wf)->∀t∈ts',t.wf
 |[],i,ts,ts',h,hw=>by cases h;exact hw|n::es,i,ts,ts',h,hw=>by
  unfold zG at h;cases hp:push n ts with
  |inl c=>rw[hp]at h;cases h|inr t2=>
   rw[hp]at h;simp only at h;split at h
   .cases h
   .exact a4J es (i+1) t2 ts' h (b7w hp hw)
variable {e:List (Int×Int)}
theorem Wh{t:XT}(h:oZ e= .inr t):t.wf:=by
 unfold oZ at h;split at h
 .cases h
 split at h
 .cases h
 split at h
 .cases h
 .rename_i t' hp;cases h;exact a4J e 0 [] [t] hp A7 t A7
 .cases h
def UF(n:Int×Int)(ops:List (Int×Int))(sg:J4):(Int×Int)×Int:=(zf n ops sg).getD ((0,0),0)
def Dx(sg:J4)(n:Int×Int)(ops:List (Int×Int))(i:Nat):(Int×Int)⊕(Int×Int):=if(UF n ops sg).2=0 then .inr (UF n ops sg).1 else .inl ((i:Int),(UF n ops sg).2)
def jc(sg:J4):XT->Nat->(Int×Int)⊕(Int×Int)
 | .l0 n,o=>Dx sg n [] o
 | .l1 n a,o=>match jc sg a o with
  | .inl x=> .inl x| .inr ta=>Dx sg n [ta] (o+a.size)
 | .l2 n a b,o=>match jc sg a o with
  | .inl x=> .inl x
  | .inr ta=>match jc sg b (o+a.size)with
   | .inl x=> .inl x| .inr tb=>Dx sg n [ta,tb] (o+a.size+b.size)
 | .l3 n a b c,o=>match jc sg a o with
  | .inl x=> .inl x
  | .inr ta=>match jc sg b (o+a.size)with
   | .inl x=> .inl x
   | .inr tb=>match jc sg c (o+a.size+b.size)with
    | .inl x=> .inl x| .inr tc=>Dx sg n [ta,tb,tc] (o+a.size+b.size+c.size)
variable {i:Nat}{sg:J4}{t:Int×Int}
theorem Ub{n:Int×Int}{ops:List (Int×Int)}(hN:kQ n.2)(hv:∀t∈ops,VT t)(hl:o8 ops=arF n.1)(h:Dx sg n ops i= .inr t):VT t:=by
 obtain⟨r,h1,h2,h3⟩:=a8Z sg n hN ops hv hl;unfold Dx at h;split at h
 .rename_i h0;cases h;have e:UF n ops sg=r:=by unfold UF;rw[h1];rfl
  rw[e]at h0 ⊢;exact h3 h0
 .cases h
section
variable (e:List (Int×Int)) (sg:J4) (z:Int×Int)
def b8w(f:(Int×Int)×List (Int×Int)×Int->Option (Out ((Int×Int)×List (Int×Int)×Int) ((Int×Int)×List (Int×Int)) ((Int×Int)×Int×Int))):Prop:=
 ∀(i:Nat) (n:Int×Int) (s ops:List (Int×Int)),e[i]? =some n->i<=100->o8 ops=arF n.1->(∀t∈ops,VT t)->s.length+ops.length<=100->
  f (z,s++ops,(i:Int))=some (match Dx sg n ops i with| .inl x=> .rt ((0,0),x)| .inr t=> .nx (z,s++[t],((i+1:Nat):Int)))
theorem b1h{f:(Int×Int)×List (Int×Int)×Int->Option (Out ((Int×Int)×List (Int×Int)×Int) ((Int×Int)×List (Int×Int)) ((Int×Int)×Int×Int))}
  (he:e.length<=48) (hI:∀n∈e,kQ n.2) (hs:b8w e sg z f):∀(t:XT),t.wf->∀(pre suf s:List (Int×Int)) (k:Nat),e=pre++t.post++suf->s.length<=pre.length->
  rX f (k+t.size) (z,s,(pre.length:Int))=(match jc sg t pre.length with| .inl x=>some (.inr ((0,0),x))| .inr r=>rX f k (z,s++[r],((pre.length+t.size:Nat):Int)))/\∀r,jc sg t pre.length= .inr r->VT r:=by
 intro t;have step:∀(i k:Nat) (n:Int×Int) (s ops:List (Int×Int)),e[i]? =some n->o8 ops=arF n.1->(∀t∈ops,VT t)->s.length+ops.length<=100->
   rX f (k+1) (z,s++ops,(i:Int))=(match Dx sg n ops i with| .inl x=>some (.inr ((0,0),x))| .inr r=>rX f k (z,s++[r],((i+1:Nat):Int))):=by
  intro i k n s ops h1 h2 h3 h4;rw[rX,hs i n s ops h1 (by have:=(aO.1 h1).1;omega) h2 h3 h4];cases Dx sg n ops i<;>rfl
 have getn:∀(pre suf:List (Int×Int)) (n:Int×Int),e=pre++[n]++suf->e[pre.length]? =some n:=by intro pre suf n h;rw[h,G5,H5 o5,bI];rfl
 have mem:∀(i:Nat) (n:Int×Int),e[i]? =some n->kQ n.2:=λi n h=>hI n (mM h);induction t with
 |l0 n=>
  intro hw pre suf s k hd hl;have hn:=getn pre suf n hd;have hlen:pre.length<e.length:=(aO.1 hn).1;have hz:o8 ([]:List (Int×Int))=arF n.1:=by rw[show arF n.1=0 from hw];rfl
  have h:=step pre.length k n s [] hn hz A7 aH;rw[G7]at h;exact⟨h,λr hr=>Ub (mem _ n hn) A7 hz hr⟩
 |l1 n a iha=>
  intro hw pre suf s k hd hl;simp only[XT.post,G5]at hd;have hpa:(pre++a.post).length=pre.length+a.size:=by simp[XT.post_len]
  have hn:=getn (pre++a.post) suf n (by simpa using hd);rw[hpa]at hn;have hlen:=(aO.1 hn).1;obtain⟨i1,i2⟩:=iha hw.2 pre ([n]++suf) s (k+1) (by simpa using hd) hl;simp only[XT.size,jc];rw[show k+(a.size+1)=(k+1)+a.size by omega,i1];cases ht:jc sg a pre.length with
  |inl x=>exact⟨rfl,λr hr=>by cases hr⟩|inr ta=>
   have hz:o8 [ta]=arF n.1:=by rw[show arF n.1=1 from hw.1];rfl
   have hv:∀t∈[ta],VT t:=by simpa using i2 ta ht
   exact⟨step _ k n s [ta] hn hz hv aH,λr hr=>Ub (mem _ n hn) hv hz hr⟩
 |l2 n a b iha ihb=>
  intro hw pre suf s k hd hl;simp only[XT.post,G5]at hd;have hpa:(pre++a.post).length=pre.length+a.size:=by simp[XT.post_len]
  have hpb:(pre++a.post++b.post).length=pre.length+a.size+b.size:=by simp[XT.post_len];omega
  have hn:=getn (pre++a.post++b.post) suf n (by simpa using hd);rw[hpb]at hn;have hlen:=(aO.1 hn).1;obtain⟨i1,i2⟩:=iha hw.2.1 pre (b.post++[n]++suf) s (k+1+b.size) (by simpa using hd) hl;simp only[XT.size,jc];rw[show k+(a.size+b.size+1)=(k+1+b.size)+a.size by omega,i1];cases ht:jc sg a pre.length with
  |inl x=>exact⟨rfl,λr hr=>by cases hr⟩|inr ta=>
   have hsa:=a.size_pos;obtain⟨j1,j2⟩:=ihb hw.2.2 (pre++a.post) ([n]++suf) (s++[ta]) (k+1) (by simpa using hd) (by simp[XT.post_len];omega);rw[hpa]at j1 j2;simp only;rw[j1];cases hu:jc sg b (pre.length+a.size)with
   |inl x=>exact⟨rfl,λr hr=>by cases hr⟩|inr tb=>
    have hz:o8 [ta,tb]=arF n.1:=by rw[show arF n.1=2 from hw.1];rfl
    have hv:∀t∈[ta,tb],VT t:=by simpa using ⟨i2 ta ht,j2 tb hu⟩
    have:=step _ k n s [ta,tb] hn hz hv aH;simp only[G5,bg,J9];rw[show pre.length+(a.size+b.size+1)=pre.length+a.size+b.size+1 by omega];exact⟨this,λr hr=>Ub (mem _ n hn) hv hz hr⟩
 |l3 n a b c iha ihb ihc=>
  intro hw pre suf s k hd hl;simp only[XT.post,G5]at hd;have hpa:(pre++a.post).length=pre.length+a.size:=by simp[XT.post_len]
  have hpb:(pre++a.post++b.post).length=pre.length+a.size+b.size:=by simp[XT.post_len];omega
  have hpc:(pre++a.post++b.post++c.post).length=pre.length+a.size+b.size+c.size:=by simp[XT.post_len];omega
  have hn:=getn (pre++a.post++b.post++c.post) suf n (by simpa using hd);rw[hpc]at hn;have hlen:=(aO.1 hn).1;obtain⟨i1,i2⟩:=iha hw.2.1 pre (b.post++(c.post++([n]++suf))) s (k+1+c.size+b.size) (by simpa using hd) hl;simp only[XT.size,jc];rw[show k+(a.size+b.size+c.size+1)=(k+1+c.size+b.size)+a.size by omega,i1];have hsa:=a.size_pos;have hsb:=b.size_pos;cases ht:jc sg a pre.length with
  |inl x=>exact⟨rfl,λr hr=>by cases hr⟩|inr ta=>
   obtain⟨j1,j2⟩:=ihb hw.2.2.1 (pre++a.post) (c.post++([n]++suf)) (s++[ta]) (k+1+c.size) (by simpa using hd) (by simp[XT.post_len];omega);rw[hpa]at j1 j2;simp only;rw[j1];cases hu:jc sg b (pre.length+a.size)with
   |inl x=>exact⟨rfl,λr hr=>by cases hr⟩|inr tb=>
    obtain⟨q1,q2⟩:=ihc hw.2.2.2 (pre++a.post++b.post) ([n]++suf) (s++[ta]++[tb]) (k+1) (by simpa using hd) (by simp[XT.post_len];omega);rw[hpb]at q1 q2;simp only;rw[q1];cases hc:jc sg c (pre.length+a.size+b.size)with
    |inl x=>exact⟨rfl,λr hr=>by cases hr⟩|inr tc=>
     have hz:o8 [ta,tb,tc]=arF n.1:=by rw[show arF n.1=3 from hw.1];rfl
     have hv:∀t∈[ta,tb,tc],VT t:=by simpa using ⟨i2 ta ht,j2 tb hu,q2 tc hc⟩
     have:=step _ k n s [ta,tb,tc] hn hz hv aH;simp only[G5,bg,J9];rw[show pre.length+(a.size+b.size+c.size+1)=pre.length+a.size+b.size+c.size+1 by omega];exact⟨this,λr hr=>Ub (mem _ n hn) hv hz hr⟩
end
def pg(e:List (Int×Int))(sg:J4):(Int×Int)×Int×Int:=match oZ e with
 | .inl x=>((0,0),x)
 | .inr t=>match jc sg t 0 with
  | .inl x=>((0,0),x)| .inr r=>(r,0,0)
variable {α:Type}
theorem a8b(s ops:List α)(k:Int)(hk:o8 ops=k)(h:s.length+ops.length<=100):
  G8 .i64 (o8 (s++ops)) k=(s.length:Int)/\pX (s.length:Int) (o8 (s++ops)) (o8 (s++ops))=true/\mP (s++ops) (U8 (s.length:Int)) (U8 (o8 (s++ops)))=ops
  /\pX 0 (s.length:Int) (o8 (s++ops))=true/\mP (s++ops) (U8 0) (U8 (s.length:Int))=s:=by
 subst hk;refine⟨?_,?_,?_,?_,?_⟩
 .rw[V4 (by unfold kQ;simp[o8];omega)];simp[o8]
 .simp[pX,o8];omega
 .show((s++ops).take (((s++ops).length:Nat):Int).toNat).drop s.length=ops;rw[Y3,bM,List.drop_left]
 .simp[pX,o8];omega
 .simp[mP,U8]
theorem a8a{f:(Int×Int)×List (Int×Int)×Int->Option (Out ((Int×Int)×List (Int×Int)×Int) ((Int×Int)×List (Int×Int)) ((Int×Int)×Int×Int))}
  (hI:∀n∈e,kQ n.2) (hs:b8w e sg (0,0) f) (hend:∀s,f ((0,0),s,(e.length:Int))=some (.ex ((0,0),s))) (hcode:∀x,oZ e= .inl x->x.2≠0):
  l7 (D9 (o9 (Gu e).2.2 0)) (some ((((0:Int),(0:Int)),(Gu e).2):(Int×Int)×Int×Int)) (l9 (U3 f (((0:Int),(0:Int)),([]:List (Int×Int)),(0:Int))) λ(o:(Int×Int)×List (Int×Int)⊕(Int×Int)×Int×Int)=>
   U4 o (λ(y:(Int×Int)×List (Int×Int))=>l9 (G9 y.2 0) λ(x:Int×Int)=>l9 (X8 y.2 (U8 0)) λ(x:Int×Int)=>some (x,0,0)) λ(r:(Int×Int)×Int×Int)=>some r)=some (pg e sg):=by
 unfold Gu pg;cases h:oZ e with
 |inl x=>simp only[U2 (hcode x h),gz,o7]|inr t=>
  obtain⟨hp,h48⟩:=ES h;have hw:=Wh h;obtain⟨l1,_⟩:=b1h e sg (0,0) h48 hI hs t hw [] [] [] (lH -t.size) (by simpa using hp) A7;have hsz:e.length=t.size:=by rw[hp,XT.post_len]
  have hlo:U3 f (((0:Int),(0:Int)),([]:List (Int×Int)),(0:Int))=rX f (lH -t.size+t.size) ((0,0),[],(([]:List (Int×Int)).length:Int)):=by unfold U3;rw[Nat.sub_add_cancel (by unfold lH;omega)];rfl
  simp only[X0 (rfl:(0:Int)=0),G6,o6];rw[hlo,l1];simp only[fQ,iq];cases jc sg t 0 with
  |inl x=>rfl|inr r=>obtain⟨k,hk⟩:∃k,lH -t.size=k+1:=⟨lH -t.size -1,by unfold lH;omega⟩;simp only[J9];rw[hk,rX,←hsz,hend];rfl
theorem Jt{x:Int×Int}(h:oZ e= .inl x):x.2≠0:=by
 have key:∀(es:List (Int×Int)) (i:Nat) (ts:List XT) (x:Int×Int),zG i es ts= .inl x->x.2≠0:=by
  intro es;induction es with
  |nil=>intro i ts x h;cases h|cons n es ih=>
   intro i ts x h;unfold zG at h;cases hp:push n ts with
   |inl c=>
    rw[hp]at h;cases h;show c≠0;unfold push at hp
    (repeat' split at hp)<;>first|(cases hp;done)|(cases hp;decide)
   |inr t2=>
    rw[hp]at h;simp only at h;split at h
    .cases h;show(16:Int)≠0;decide
    .exact ih _ _ _ h
 unfold oZ at h;split at h
 .cases h;show(4:Int)≠0;decide
 split at h
 .cases h;show(5:Int)≠0;decide
 split at h
 .rename_i y hp;cases h;exact key _ _ _ _ hp
 .cases h
 .cases h;show(4:Int)≠0;decide
theorem b1g(sg:J4)(hI:∀n∈e,kQ n.2):Ja e sg=some (pg e sg):=by
 unfold Ja;rw[UQ,x8];refine a8a hI (λi n s ops hn hi2 hl hv hlen=>?_) (λs=>?_) (λx h=>Jt h)
 .obtain⟨r,h1,h2,h3⟩:=a8Z sg n (hI n (mM hn)) ops hv hl;obtain⟨v1,v2,v3,v4,v5⟩:=a8b s ops _ hl hlen;have e' :UF n ops sg=r:=by unfold UF;rw[h1];rfl
  have hi:=(aO.1 hn).1;simp only[V6 hn,o7,I5,hn,x8,Yg,v1,v2,v3,v4,v5];unfold Dx;rw[e'];unfold EN at h2;have fin:dD n ops sg=some r->(l9 (dD n ops sg) λ(x_3:bQ×Int)=>l7 (D9 (o9 x_3.2 0)) (some (Out.rt ((((0:Int),(0:Int)),((i:Int),x_3.2)):(Int×Int)×Int×Int)))
    (l9 (dB s [x_3.1]) λ(x_4:List bQ)=>some (Out.nx (((0:Int),(0:Int)),x_4,C9 .i64 (i:Int) 1))))=
    some (match if r.2=0 then(.inr r.1:(Int×Int)⊕(Int×Int))else .inl ((i:Int),r.2)with| .inl x=>Out.rt ((0,0),x)| .inr t=>(Out.nx ((0,0),s++[t],((i+1:Nat):Int)):Out ((Int×Int)×List (Int×Int)×Int) ((Int×Int)×List (Int×Int)) ((Int×Int)×Int×Int))):=by
   intro hr;rw[hr,x8];by_cases h0:r.2=0
   .rw[if_pos h0,X0 h0];simp only[G6,o6];rw[nT _ o5,x8,iy o5]
   .rw[if_neg h0,U2 h0];rfl
  cases hz:o9 n.2 0
  .rw[hz]at h2;simp only[gz,o7]at h2 ⊢;cases hu:kJ n.1 with
   |none=>rw[hu]at h2;cases h2|some u=>
    rw[hu]at h2;simp only[x8]at h2 ⊢;cases u
    .simp only[gz,o7]at h2 ⊢;cases h2;rfl
    .exact fin h2
  .rw[hz]at h2;exact fin h2
 .rw[V5];rfl
section
variable {α β σ ε ρ:Type}
theorem AV(l:List α)(G:β->α->β)(mk:β->Int->σ)(fin:β->ε)(Inv:Nat->β->Prop){f:σ->Option (σ⊕ε)}{b:β}(hl:l.length<=1000000)(h0:Inv 0 b)
  (hin:∀(i:Nat) (a:α) (b:β),l[i]? =some a->i<=1000000->Inv i b->f (mk b (i:Int))=some (.inl (mk (G b a) ((i+1:Nat):Int)))/\Inv (i+1) (G b a))
  (hend:∀b,Inv l.length b->f (mk b (l.length:Int))=some (.inr (fin b))):
  aX f (mk b 0)=some (fin (l.foldl G b))/\Inv l.length (l.foldl G b):=by
 have key:∀(n i:Nat) (b:β),i<=l.length->l.length -i<n->Inv i b->sZ f n (mk b (i:Int))=some (fin ((l.drop i).foldl G b))/\Inv l.length ((l.drop i).foldl G b):=by
  intro n;induction n with
  |zero=>intro i b _ h _;omega|succ n ih=>
   intro i b hi hn hI;unfold sZ;by_cases h:i<l.length
   .have e:=fO h;obtain⟨h1,h2⟩:=hin i _ b e o5 hI;rw[h1,gm h];exact ih (i+1) _ o5 o5 h2
   .have:i=l.length:=o5;subst this;rw[hend b hI,Dw];exact⟨rfl,hI⟩
 have:=key lH 0 b o5 (by unfold lH;omega) h0;exact this
theorem yB{γ:Type}(l:List α)(G:β->α->β)(mk:β->Int->σ)(fin:β->ε)(Inv:Nat->β->Prop)(b:β){f:σ->Option (σ⊕ε)}{K:ε->Option γ}{r:Option γ}(hl:l.length<=1000000)(h0:Inv 0 b)
  (hin:∀(i:Nat) (a:α) (b:β),l[i]? =some a->i<=1000000->Inv i b->f (mk b (i:Int))=some (.inl (mk (G b a) ((i+1:Nat):Int)))/\Inv (i+1) (G b a))
  (hend:∀b,Inv l.length b->f (mk b (l.length:Int))=some (.inr (fin b))) (hk:Inv l.length (l.foldl G b)->K (fin (l.foldl G b))=r):l9 (aX f (mk b 0)) K=r:=by
 obtain⟨h1,h2⟩:=AV l G mk fin Inv hl h0 hin hend;rw[h1];exact hk h2
def dE(G:β->α->β⊕ρ):List α->β->β⊕ρ
 |[],b=> .inl b
 |a::l,b=>match G b a with| .inl b' =>dE G l b'| .inr r=> .inr r
theorem a6F(l:List α)(G:β->α->β⊕ρ)(mk:β->Int->σ)(fin:β->ε)(Inv:Nat->β->Prop){f:σ->Option (Out σ ε ρ)}{b:β}(hl:l.length<=1000000)(h0:Inv 0 b)
  (hin:∀(i:Nat) (a:α) (b:β),l[i]? =some a->i<=1000000->Inv i b->f (mk b (i:Int))=some (match G b a with| .inl b' => .nx (mk b' ((i+1:Nat):Int))| .inr r=> .rt r)/\∀b',G b a= .inl b' ->Inv (i+1) b')
  (hend:∀b,Inv l.length b->f (mk b (l.length:Int))=some (.ex (fin b))):
  U3 f (mk b 0)=some (match dE G l b with| .inl b' => .inl (fin b')| .inr r=> .inr r)/\∀b',dE G l b= .inl b' ->Inv l.length b' :=by
 have key:∀(n i:Nat) (b:β),i<=l.length->l.length -i<n->Inv i b->rX f n (mk b (i:Int))=some (match dE G (l.drop i) b with| .inl b' => .inl (fin b')| .inr r=> .inr r)/\∀b',dE G (l.drop i) b= .inl b' ->Inv l.length b' :=by
  intro n;induction n with
  |zero=>intro i b _ h _;omega|succ n ih=>
   intro i b hi hn hI;unfold rX;by_cases h:i<l.length
   .have e:=fO h;obtain⟨h1,h2⟩:=hin i _ b e o5 hI;rw[h1,gm h];unfold dE;cases hg:G b l[i]with
    |inr r=>exact⟨rfl,λb' hb=>by cases hb⟩|inl b' =>exact ih (i+1) _ o5 o5 (h2 b' hg)
   .have:i=l.length:=o5;subst this;rw[hend b hI,Dw];exact⟨rfl,λb' hb=>by cases hb;exact hI⟩
 have:=key lH 0 b o5 (by unfold lH;omega) h0;exact this
theorem rY{γ:Type}(l:List α)(G:β->α->β⊕ρ)(mk:β->Int->σ)(fin:β->ε)(Inv:Nat->β->Prop)(b:β){f:σ->Option (Out σ ε ρ)}{K:ε⊕ρ->Option γ}{r:Option γ}(hl:l.length<=1000000)(h0:Inv 0 b)
  (hin:∀(i:Nat) (a:α) (b:β),l[i]? =some a->i<=1000000->Inv i b->f (mk b (i:Int))=some (match G b a with| .inl b' => .nx (mk b' ((i+1:Nat):Int))| .inr r=> .rt r)/\∀b',G b a= .inl b' ->Inv (i+1) b')
  (hend:∀b,Inv l.length b->f (mk b (l.length:Int))=some (.ex (fin b)))
  (hk:(∀b',dE G l b= .inl b' ->Inv l.length b')->K (match dE G l b with| .inl b' => .inl (fin b')| .inr r=> .inr r)=r):l9 (U3 f (mk b 0)) K=r:=by
 obtain⟨h1,h2⟩:=a6F l G mk fin Inv hl h0 hin hend;rw[h1];exact hk h2
end
def a2P(c:UInt8):Bool:=decide (32<=c.toNat)&&decide (c.toNat<=126)&&decide (c.toNat≠34)
def a0e(s:d4H):Bool:=decide (s.length<=64)&&s.all a2P
theorem a8H(c:UInt8):∀s:d4H,decide (0<=Lib.indexByte s c)=s.any λx=>decide (x.toNat=c.toNat)
 |[]=>by simp[Lib.indexByte]|b::l=>by
  have ih:=a8H c l;have hge:=Lib.indexByte_ge l c;rw[List.any_cons,←ih];have e:Lib.indexByte (b::l) c=if b=c then 0 else if Lib.indexByte l c=-1 then -1 else Lib.indexByte l c+1:=by rw[Lib.indexByte];simp
  rw[e];by_cases h:b=c
  .subst h;simp
  .have h2:b.toNat≠c.toNat:=λhh=>h (UInt8.toNat_inj.1 hh);rw[if_neg h,show decide (b.toNat=c.toNat)=false by simp[h2],Si];by_cases h3:Lib.indexByte l c=-1
   .rw[h3];rfl
   .rw[if_neg h3];simp;omega
theorem b6m(c:UInt8):a2P c=(!E5 (c.toNat:Int) 32&&!E5 126 (c.toNat:Int)&&!o9 (c.toNat:Int) 34):=by unfold a2P E5 o9;rw[pK];simp;omega
theorem a8o(s:d4H)(p:UInt8->Bool):(∀(i:Nat) (a:UInt8),s[i]? =some a->p a=true)↔s.all p=true:=by rw[nN];exact⟨λh x hx=>by obtain⟨i,hi,rfl⟩:=Z9 hx;exact h i _ (fO hi),λh i a hi=>h a (mM hi)⟩
theorem y_{s:d4H}(h:s.length<=1000000):Ak s=some (a0e s):=by
 unfold Ak;have h5:E5 64 (o8 s)= !decide (s.length<=64):=by simp only[E5,o8];rw[←decide_not];congr 1;simp;omega
 rw[h5,show zH s [34]=some (s.any λx=>decide (x.toNat=(34:UInt8).toNat))from congrArg some (a8H 34 s)];unfold a0e;cases decide (s.length<=64)
 .rfl
 simp only[og,o6,x8,AU];cases h34:s.any λx=>decide (x.toNat=(34:UInt8).toNat)
 case true=>
  obtain⟨x,hx,hx2⟩:=nO.1 h34;simp only[decide_eq_true_eq]at hx2;have:s.all a2P=false:=by rw[List.all_eq_false];refine⟨x,hx,?_⟩;unfold a2P;rw[hx2];decide
  rw[this];rfl
 simp only[o6];refine fU (a0N s (λi a=>a2P a) false PUnit.unit _ o5 (λi x hx=>?_) ?_) ?_
 rotate_left 2
 .by_cases hw:s.all a2P=true
  .rw[if_pos ((a8o s a2P).2 hw),hw];rfl
  .rw[if_neg (λh=>hw ((a8o s a2P).1 h))];simp only[sQ]at hw;rw[hw];rfl
 .have hi:=(aO.1 hx).1;have hne:o9 (x.toNat:Int) 34=false:=by
   have:=(ig.1 h34) x (mM hx);simp only[decide_eq_true_eq]at this;exact U2 (by have h:(34:UInt8).toNat=34:=rfl;omega)
  simp only[V6 hx,o7,a9t,hx,jR,x8];rw[iy o5,b6m,hne];cases E5 (x.toNat:Int) 32<;>cases E5 126 (x.toNat:Int)<;>rfl
 .rw[V5];rfl
def Dz(e:List (Int×Int))(sg:J4)(t:Int×Int):Int:=l7 (o9 (pg e sg).2.2 0) (l7 (fG (o9 (pg e sg).1.1 t.1) (o9 (pg e sg).1.2 t.2)) 0 8) (pg e sg).2.2
theorem TE(sg:J4)(t:Int×Int)(hI:∀n∈e,kQ n.2):xk e sg t=some (Dz e sg t):=by
 unfold xk Dz;rw[b1g sg hI,x8];cases o9 (pg e sg).2.2 0
 .rfl
 simp only[G6,o6,o7];cases fG (o9 (pg e sg).1.1 t.1) (o9 (pg e sg).1.2 t.2)<;>rfl
def a5L(r:bf):Prop:=r.1.length<=4611686018427387904/\r.2.2.2.2.2.2.2.length<=1000000/\(∀n∈r.2.2.2.2.2.1,kQ n.2)/\(∀n∈r.2.2.2.2.2.2.1,kQ n.2)
def Ot(rs:List bf)(d:Int):Nat:=rs.countP λo=>o9 o.2.1 d
def JD(r:bf)(sg:J4)(t:Int×Int):Int:=
 l7 (E5 0 (o8 r.2.2.2.2.2.1)) (l7 (o9 (Dz r.2.2.2.2.2.1 sg (1,0)) 0) (Dz r.2.2.2.2.2.2.1 sg t) (Dz r.2.2.2.2.2.1 sg (1,0))) (Dz r.2.2.2.2.2.2.1 sg t)
def Dy(s:F5)(sg:J4)(k:Nat)(r:bf):Int:=
 l7 (AQ r.1) (l7 ((s.2.2.2.2.take k).any λx=>seq x.1 r.1) 7 (match G9 s.2.2.2.1 r.2.1 with
  |none=>6|some d=>l7 (l7 (o9 r.2.2.1 (-1)) false (l7 (E5 r.2.2.1 0) true (l7 (J8 k r.2.2.1) true (match G9 s.2.2.2.2 r.2.2.1 with|some q=>D9 (o9 q.2.1 r.2.1)|none=>true)))) 9
   (l7 (E5 r.2.2.2.1 0) 3 (l7 (E5 9 r.2.2.2.1) 3 (l7 (zI r.2.2.2.2.1) (l7 (o9 r.2.2.2.2.1.1 r.2.2.2.2.1.2) 3
    (l7 (J8 8 (Ot (s.2.2.2.2.take k) r.2.1)) 4 (l7 (a0e r.2.2.2.2.2.2.2) (JD r sg d.2) 2))) 3))))) 2
theorem zN{l:List α}{i:Int}(h:J8 0 i=false\/E5 i (o8 l)=false):G9 l i=none:=by
 unfold G9
 split
 .rename_i h0;rcases h with h|h
  .rw[Fa]at h;omega
  .rw[gU]at h;simp only[o8]at h;exact U5 o5
 .rfl
variable {s:F5}{r:bf}{k:Nat}
theorem a1B(sg:J4)(hr:s.2.2.2.2[k]? =some r)(hl:s.2.2.2.2.length<=100000)(h:a5L r):Et s (k:Int) sg=some (Dy s sg k r):=by
 have hk:=(aO.1 hr).1;have hcnt:Ot (s.2.2.2.2.take k) r.2.1<=100000:=by have:=List.countP_le_length (l:=s.2.2.2.2.take k) (p:=λ(o:bf)=>o9 o.2.1 r.2.1);unfold Ot;simp at this;omega
 unfold Et;rw[I5,hr,x8,BB o5,x8];refine fU (AV (s.2.2.2.2.take k) (λ(c:Nat) (o:bf)=>l7 (o9 o.2.1 r.2.1) (c+1) c) (λc i=>((c:Int),i)) (λc=>(c:Int)) (λi c=>c<=i) (b:=0) aH o5 (λi a c ha hi hc=>?_) (λc hc=>?_)).1 ?_
 rotate_left 2
 .have hf:∀(l:List bf) (c:Nat),l.foldl (λ(c:Nat) (o:bf)=>l7 (o9 o.2.1 r.2.1) (c+1) c) c=c+Ot l r.2.1:=by
   intro l;induction l with
   |nil=>intro c;rfl|cons a l ih=>intro c;rw[dA,ih];unfold Ot;rw[List.countP_cons];cases o9 a.2.1 r.2.1<;>simp<;>omega
  rw[hf,iq,x8,JR h.1,x8,x8,a6z _ aH,x8];unfold Dy;cases AQ r.1
  .rfl
  simp only[G6,o6,o7,x8];cases (s.2.2.2.2.take k).any λx=>seq x.1 r.1
  case true=>rfl
  simp only[o6];rw[ug r.2.1 0,Jc (o8 s.2.2.2.1) r.2.1];cases h0:J8 0 r.2.1
  .rw[zN (.inl h0)];rfl
  cases h1:E5 r.2.1 (o8 s.2.2.2.1)
  .rw[zN (.inr h1)];rfl
  obtain⟨d,hd,_⟩:=qA (sK.1 h0) (ku.1 h1);rw[hd];simp only[og,o6,x8,y_ h.2.1];have hpar:(l7 (D9 (o9 r.2.2.1 (-1))) (l7 (E5 r.2.2.1 0) (some true) (l7 (J8 (k:Int) r.2.2.1) (some true) (l9 (G9 s.2.2.2.2 r.2.2.1) λ(x_6:bf)=>some (D9 (o9 x_6.2.1 r.2.1))))) (some false))=
    some (l7 (o9 r.2.2.1 (-1)) false (l7 (E5 r.2.2.1 0) true (l7 (J8 k r.2.2.1) true (match G9 s.2.2.2.2 r.2.2.1 with|some q=>D9 (o9 q.2.1 r.2.1)|none=>true)))):=by
   cases o9 r.2.2.1 (-1)
   case true=>rfl
   simp only[gz,o7,o6];cases hp0:E5 r.2.2.1 0
   case true=>rfl
   cases hp1:J8 (k:Int) r.2.2.1
   case true=>rfl
   rw[gU]at hp0;rw[Fa]at hp1;obtain⟨q,hq,_⟩:=qA (l:=s.2.2.2.2) hp0 (by simp only[o8];omega);rw[hq];rfl
  rw[hpar,x8];cases (l7 (o9 r.2.2.1 (-1)) false (l7 (E5 r.2.2.1 0) true (l7 (J8 k r.2.2.1) true (match G9 s.2.2.2.2 r.2.2.1 with|some q=>D9 (o9 q.2.1 r.2.1)|none=>true))))
  case true=>rfl
  simp only[o6];cases E5 r.2.2.2.1 0
  case true=>rfl
  simp only[o6,x8];cases E5 9 r.2.2.2.1
  case true=>rfl
  simp only[o6];have hval:∀(A B:Option (bf⊕Int)),l7 (E5 r.2.2.2.2.1.1 0) A (l7 (J8 r.2.2.2.2.1.2 r.2.2.2.2.1.1) A (l7 (E5 109573 r.2.2.2.2.1.2) A B))=l7 (zI r.2.2.2.2.1) (l7 (o9 r.2.2.2.2.1.1 r.2.2.2.2.1.2) A B) A:=by
   intro A B;unfold zI;by_cases v0:r.2.2.2.2.1.1<(0:Int)
   .rw[V7 v0,aA (show r.2.2.2.2.1.1<(0:Int)from v0)];rfl
   rw[O6 (gW.1 v0),af (gW.1 v0)];by_cases v1:(r.2.2.2.2.1.2:Int)<=r.2.2.2.2.1.1
   .rw[af v1];by_cases v2:(r.2.2.2.2.1.1:Int)<=r.2.2.2.2.1.2
    .rw[af v2,X0 (Int.le_antisymm v2 v1)];cases J8 r.2.2.2.2.1.2 109573<;>rfl
    .rw[aA (lw.1 v2)];rfl
   .have v1' :=lw.1 v1;rw[aA v1',af (Int.le_of_lt v1'),U2 (λhh=>by rw[hh]at v1';exact Int.lt_irrefl _ v1'),ug];cases J8 r.2.2.2.2.1.2 109573<;>rfl
  rw[hval];cases zI r.2.2.2.2.1
  .rfl
  cases o9 r.2.2.2.2.1.1 r.2.2.2.2.1.2
  case true=>rfl
  simp only[o7,o6];cases J8 8 ((Ot (s.2.2.2.2.take k) r.2.1:Nat):Int)
  case true=>rfl
  cases a0e r.2.2.2.2.2.2.2
  .rfl
  simp only[G6,o6,o7,x8,aj,JD,hd,TE sg _ h.2.2.1,TE sg _ h.2.2.2];cases E5 0 (o8 r.2.2.2.2.2.1)
  .rfl
  simp only[o7];cases o9 (Dz r.2.2.2.2.2.1 sg (1,0)) 0<;>rfl
 .have hc' :c<=1000000:=o5;obtain⟨ha1,ha2⟩:=a5z ha;simp only[V6 ha,o7,I5,ha,x8];rw[iy (show i<=9000000000000000000 by omega),iy (show c<=9000000000000000000 by omega)];cases o9 a.2.1 r.2.1
  .exact⟨rfl,by show c<=i+1;omega⟩
  .exact⟨rfl,by show c+1<=i+1;omega⟩
 .simp only[V5];rfl
structure SmS (s:F5):Prop where
 nm:s.1.length<=1000000
 ni:s.2.2.1.length<=14
 nd:s.2.2.2.1.length<=14
 nr:s.2.2.2.2.length<=96
 fo:a2Y s
 ro:∀r∈s.2.2.2.2,a5L r/\r.2.2.2.2.2.1.length<=50/\r.2.2.2.2.2.2.1.length<=50
def isM(op:Int):Bool:=l7 (J8 36 op) (J8 op 39) false
theorem b9E(op:Int):isM op=l7 (o9 op 36) true (l7 (o9 op 37) true (l7 (o9 op 38) true (o9 op 39))):=by
 unfold isM;by_cases h1:36<=op
 .rw[af h1,o7];by_cases h2:op<=39
  .rw[af h2];have:op=36\/op=37\/op=38\/op=39:=o5;rcases this with rfl|rfl|rfl|rfl<;>rfl
  .rw[aA o5,U2 o5,U2 o5,U2 o5,U2 o5];rfl
 .rw[aA o5,U2 o5,U2 o5,U2 o5,U2 o5];rfl
def Uc(p:Int->Bool)(e:List (Int×Int)):d4I:=(e.filter λn=>p n.1).map (·.2)
def yI(e:List (Int×Int)):d4I×d4I×d4I:=(NW (Uc (λo=>o9 o 7) e),NW (Uc (λo=>o9 o 8) e),NW (Uc isM e))
def b7y(g:d4I->Int->d4I)(b:d4I×d4I×d4I)(n:Int×Int):d4I×d4I×d4I:=
 (l7 (o9 n.1 7) (g b.1 n.2) b.1,l7 (o9 n.1 8) (g b.2.1 n.2) b.2.1,l7 (isM n.1) (g b.2.2 n.2) b.2.2)
theorem a1f(g:d4I->Int->d4I):∀(e:List (Int×Int)) (b:d4I×d4I×d4I),e.foldl (b7y g) b=((Uc (λo=>o9 o 7) e).foldl g b.1,(Uc (λo=>o9 o 8) e).foldl g b.2.1,(Uc isM e).foldl g b.2.2)
 |[],b=>rfl|n::e,b=>by
  have hn:∀p:Int->Bool,Uc p (n::e)=l7 (p n.1) (n.2::Uc p e) (Uc p e):=λp=>by unfold Uc;rw[Y7];cases p n.1<;>rfl
  rw[dA,a1f g e,hn,hn,hn];unfold b7y;simp only;cases o9 n.1 7<;>cases o9 n.1 8<;>cases isM n.1<;>rfl
theorem a0C:∀(l b:d4I),l.foldl (λacc n=>acc++[n]) b=b++l
 |[],b=>by simp|a::l,b=>by rw[dA,a0C l];simp
theorem LK{a k:Int}(h:a=k)(m:Int)(hm:k≠m):o9 a m=false:=U2 o5
theorem IY{l:d4I}(hl:l.length<=1000000):xf l=some (NW l):=by unfold xf;have:=b8l (l:=l) hl;rw[show(λx=>l9 (tX x) λ(x:d4I)=>some x)=λx=>tX x from funext λx=>lm _];exact this
theorem Rw(h:e.length<=1000000):wY e=some (yI e):=by
 unfold wY;refine yB e (b7y (λacc n=>acc++[n])) (λb i=>(b.1,b.2.1,b.2.2,i)) (λb=>b) (λi b=>b.1.length<=i/\b.2.1.length<=i/\b.2.2.length<=i) (([],[],[]):d4I×d4I×d4I) h A7 (λi a b ha hi hI=>?_) (λb hI=>?_) (λh2=>?_)
 .obtain⟨b1,b2,b3⟩:=b;simp only at hI;simp only[V6 ha,o7,I5,ha,x8,nT a.2 (show b1.length<=1000000 by omega),nT a.2 (show b2.length<=1000000 by omega),nT a.2 (show b3.length<=1000000 by omega),b7y,b9E];rw[iy o5];by_cases h7:a.1=7
  .rw[X0 h7,LK h7 8 F8,LK h7 36 F8,LK h7 37 F8,LK h7 38 F8,LK h7 39 F8];exact⟨rfl,by simp<;>omega,by simp<;>omega,by simp<;>omega⟩
  rw[U2 h7];by_cases h8:a.1=8
  .rw[X0 h8,LK h8 36 F8,LK h8 37 F8,LK h8 38 F8,LK h8 39 F8];exact⟨rfl,by simp<;>omega,by simp<;>omega,by simp<;>omega⟩
  rw[U2 h8];cases o9 a.1 36<;>cases o9 a.1 37<;>cases o9 a.1 38<;>cases o9 a.1 39<;>exact⟨rfl,by simp<;>omega,by simp<;>omega,by simp<;>omega⟩
 .simp only[V5];rfl
 .rw[a1f]at h2 ⊢;simp only[a0C,J9]at h2 ⊢;rw[IY o5,x8,IY o5,x8,IY o5];rfl
theorem b2U(p:Int->Bool)(e:List (Int×Int)):(Uc p e).length<=e.length:=by unfold Uc;rw[H9];exact bz _ _
theorem QD(e:List (Int×Int)):(yI e).2.1.length<=e.length:=aU (WE _) (b2U _ e)
def inD(n d:Int):Bool:=l7 (J8 0 d) (E5 d n) false
def NE(n:Int)(r:bf):d4I:=(yI r.2.2.2.2.2.1).2.1.filter (inD n)++(yI r.2.2.2.2.2.2.1).2.1.filter (inD n)
theorem YQ(p:Int->Bool):∀(l b:d4I),l.foldl (λacc x=>l7 (p x) (acc++[x]) acc) b=b++l.filter p
 |[],b=>by simp|a::l,b=>by rw[dA,YQ p l,Y7];cases p a<;>simp
theorem a0z{f:d4I×Int->Option ((d4I×Int)⊕d4I)}(l b:d4I)(n:Int)(hl:l.length<=1000)(hb:b.length<=1000)
  (hin:∀(i:Nat) (a:Int) (acc:d4I),l[i]? =some a->i<=1000000->f (acc,(i:Int))=l7 (J8 0 a) (l7 (E5 a n) (l9 (dB acc [a]) λx=>some (.inl (x,C9 .i64 (i:Int) 1))) (some (.inl (acc,C9 .i64 (i:Int) 1)))) (some (.inl (acc,C9 .i64 (i:Int) 1))))
  (hend:∀acc,f (acc,(l.length:Int))=some (.inr acc)):aX f (b,0)=some (b++l.filter (inD n)):=by
 have key:=AV l (λ(acc:d4I) x=>l7 (inD n x) (acc++[x]) acc) (λb i=>(b,i)) (λb=>b) (λi acc=>acc.length<=1000+i) (f:=f) (b:=b) o5 o5 ?_ ?_
 .rw[key.1,YQ]
 .intro i a acc ha hi hI;have:=(aO.1 ha).1;rw[hin i a acc ha hi,iy o5,nT _ o5];unfold inD;cases J8 0 a
  .exact⟨rfl,by show acc.length<=_;omega⟩
  cases E5 a n
  .exact⟨rfl,by show acc.length<=_;omega⟩
  .exact⟨rfl,by simp;omega⟩
 .intro acc hI;rw[hend]
theorem Vm(n:Int)(h1:r.2.2.2.2.2.1.length<=50)(h2:r.2.2.2.2.2.2.1.length<=50):wB r n=some (NE n r):=by
 have g1:=QD r.2.2.2.2.2.1;have g2:=QD r.2.2.2.2.2.2.1;unfold wB NE;rw[Rw o5,x8,Rw o5,x8];refine fU (a0z (yI r.2.2.2.2.2.1).2.1 [] n o5 A7 (λi a acc ha hi=>?_) (λacc=>?_)) ?_
 rotate_left 2
 .rw[x8,lm,J9];have:=bz (inD n) (yI r.2.2.2.2.2.1).2.1;refine a0z (yI r.2.2.2.2.2.2.1).2.1 _ n o5 o5 (λi a acc ha hi=>?_) (λacc=>?_)
  .simp only[V6 ha,o7,I5,ha,x8];rw[show X8 (yI r.2.2.2.2.2.2.1).2.1 (U8 (i:Int))=some a from ha,x8]
  .simp only[V5];rfl
 .simp only[V6 ha,o7,I5,ha,x8];rw[show X8 (yI r.2.2.2.2.2.1).2.1 (U8 (i:Int))=some a from ha,x8]
 .simp only[V5];rfl
def nD(s:F5):Int:=o8 s.2.2.2.1
def dl(n:Int)(rs:List bf)(d:Int):d4I:=rs.flatMap λr=>l7 (o9 r.2.1 d) (NE n r) []
def U7(s:F5)(d:Int):d4I:=l7 (inD (nD s) d) (NW (dl (nD s) s.2.2.2.2 d)) []
theorem a1d(h:SmS s)(hr:r∈s.2.2.2.2)(n:Int):(NE n r).length<=100:=by obtain⟨_,h1,h2⟩:=h.ro r hr;have a1:=QD r.2.2.2.2.2.1;have a2:=QD r.2.2.2.2.2.2.1;have b1:=bz (inD n) (yI r.2.2.2.2.2.1).2.1;have b2:=bz (inD n) (yI r.2.2.2.2.2.2.1).2.1;unfold NE;rw[I9];omega
theorem a8C(n:Int)(rs:List bf)(r:bf)(d:Int):dl n (rs++[r]) d=dl n rs d++l7 (o9 r.2.1 d) (NE n r) []:=by unfold dl;rw[List.flatMap_append];simp
theorem b6X(n:Int)(rs:List bf)(r:bf)(d:Int):dl n (r::rs) d=l7 (o9 r.2.1 d) (NE n r) []++dl n rs d:=rfl
theorem a6m{s:F5}(h:SmS s)(n d:Int):∀(rs:List bf),(∀r∈rs,r∈s.2.2.2.2)->(dl n rs d).length<=100*rs.length
 |[],_=>by simp[dl]|r::rs,hm=>by
  have ih:=a6m h n d rs λr hr=>hm r (by simp[hr]);have h1:=a1d h (hm r A7) n;rw[b6X,I9,H8];cases o9 r.2.1 d
  .simp only[o6,fQ];omega
  .simp only[o7];omega
variable {d:Int}{x:Int}
theorem a1W{n:Int}{rs:List bf} :x∈dl n rs d↔∃r∈rs,r.2.1=d/\x∈NE n r:=by
 unfold dl;rw[List.mem_flatMap];constructor
 .rintro⟨r,hr,hx⟩;cases hq:o9 r.2.1 d<;>rw[hq]at hx
  .simp at hx
  .exact⟨r,hr,Z5.1 hq,hx⟩
 .rintro⟨r,hr,hq,hx⟩;exact⟨r,hr,by rw[X0 hq];exact hx⟩
theorem b4a{n:Int}(h:x∈NE n r):0<=x/\x<n:=by
 have key:inD n x=true:=by unfold NE at h;rcases E9.1 h with h|h<;>exact(Y8.1 h).2
 unfold inD at key;cases h0:J8 0 x<;>rw[h0]at key
 .cases key
 .exact⟨sK.1 h0,ku.1 key⟩
theorem Gz(s:F5)(d:Int):SI (U7 s d):=by
 unfold U7;cases inD (nD s) d
 .exact List.Pairwise.nil
 .exact a2B _
theorem DL(h:x∈U7 s d):0<=x/\x<nD s:=by
 unfold U7 at h;cases hq:inD (nD s) d<;>rw[hq]at h
 .simp at h
 .obtain⟨r,_,_,hx⟩:=a1W.1 ((zO _ _).1 h);exact b4a hx
theorem XD(m k:Nat)(f:Nat->α)(v:α):((List.range m).map f).set k v=(List.range m).map λd=>if d=k then v else f d:=by
 apply ai;intro i;rw[U0,S9,S9,H9,ik];by_cases hi:i<m
 .rw[oL hi];by_cases h:k=i
  .subst h;simp[hi]
  .simp[h,Ne.symm h]
 .have:(List.range m)[i]? =none:=by simp;omega
  rw[this];by_cases h:k=i
  .subst h;simp[hi]
  .simp[h]
def Yh(m:Nat)(rs:List bf):List d4I:=(List.range m).map λ(d:Nat)=>dl (m:Int) rs (d:Int)
theorem a2N{l:d4I}(hl:l.length<=1000000):Hf l=some (NW l):=IY hl
theorem FY(m:Nat)(f:Nat->α)(h:k<m):((List.range m).map f)[k]? =some (f k):=by rw[S9,oL h];rfl
theorem Tq(h:SmS s):yf s=some ((List.range s.2.2.2.1.length).map λ(d:Nat)=>U7 s (d:Int)):=by
 have hnr:=h.nr;have hnd:=h.nd;unfold yf;generalize hm:s.2.2.2.1.length=m at*;have hn:nD s=(m:Int):=by unfold nD o8;rw[hm]
 rw[show o8 s.2.2.2.1=(m:Int)from hn,show tq (m:Int) ([]:d4I)=some (Yh m []) by unfold tq Yh dl;rw[if_pos o5];simp[List.map_const'],x8];refine yB s.2.2.2.2 (λ(b:List d4I) r=>l7 (inD m r.2.1) (b.set r.2.1.toNat ((b.getD r.2.1.toNat [])++NE m r)) b) (λb i=>(b,i)) (λb=>b) (λi b=>b=Yh m (s.2.2.2.2.take i)) (Yh m []) o5 A7 (λi r b ha hi hI=>?_) (λb hI=>?_) (λh2=>?_)
 .have hlt:=(aO.1 ha).1;obtain⟨_,h1,h2⟩:=h.ro r (mM ha);have hst:s.2.2.2.2.take (i+1)=s.2.2.2.2.take i++[r]:=by
   rw[U1 hlt,(aO.1 ha).2]
  have hlb:o8 b=(m:Int):=by rw[hI];simp[o8,Yh]
  obtain⟨rd,hrd⟩:∃rd:Int,r.2.1=rd:=⟨r.2.1,rfl⟩;simp only[V6 ha,o7,I5,ha,x8,hlb,hrd];rw[iy o5,hst];by_cases hd:0<=rd/\rd<(m:Int)
  .obtain⟨d0,d1⟩:=hd;have hk:rd.toNat<m:=o5;have hkk:((rd.toNat:Nat):Int)=rd:=o5;have hg:b[rd.toNat]? =some (dl m (s.2.2.2.2.take i) rd):=by rw[hI];unfold Yh;rw[FY m _ hk,hkk]
   have hll:=a6m h m rd (s.2.2.2.2.take i) λr hr=>List.mem_of_mem_take hr;have hrl:=a1d h (mM ha) m;have htl:(s.2.2.2.2.take i).length<=96:=by simp;omega
   rw[af d0,V7 d1,show inb rd (m:Int)=true by unfold inb;simp;omega,show X8 b (U8 rd)=some (dl m (s.2.2.2.2.take i) rd)from hg,Vm _ h1 h2];simp only[o7,x8];rw[FX o5,show Fh (U8 rd) (U8 rd)=true by simp[Fh]];simp only[o7,x8];have hin:inD m rd=true:=by unfold inD;rw[af d0,V7 d1];rfl
   rw[hin,show b.getD rd.toNat []=dl m (s.2.2.2.2.take i) rd by rw[zM,hg];rfl];refine⟨rfl,?_⟩;show b.set rd.toNat _=_;rw[hI];unfold Yh;rw[XD];apply aT;intro d hdm;rw[a8C,hrd];by_cases hq:d=rd.toNat
   .subst hq;rw[if_pos rfl,hkk,X0 rfl];rfl
   .rw[if_neg hq,U2 o5];simp
  .have hin:inD m rd=false:=by
    unfold inD;by_cases d0:0<=rd
    .rw[af d0,O6 o5];rfl
    .rw[aA o5];rfl
   rw[hin];refine⟨?_,?_⟩
   .unfold inD at hin;cases q0:J8 0 rd
    .rfl
    .rw[q0]at hin;simp only[o7]at hin ⊢;rw[hin];rfl
   .show b=_;rw[hI];unfold Yh;apply aT;intro d hdm;have:=X7.1 hdm;rw[a8C,hrd,U2 o5];simp
 .simp only[V5];rfl
 .rw[bM]at h2;rw[h2];generalize hA:Yh m s.2.2.2.2=A;have hAl:o8 A=(m:Int):=by rw[←hA];simp[o8,Yh]
  refine yB (List.range m) (λ(b:List d4I) d=>b.set d (NW (b.getD d []))) (λb i=>(b,i)) (λb=>b) (λi b=>b=(List.range m).map λ(d:Nat)=>if d<i then NW (dl m s.2.2.2.2 (d:Int))else dl m s.2.2.2.2 (d:Int)) A aH (by rw[←hA];unfold Yh;simp) (λi d b ha hi hI=>?_) (λb hI=>?_) (λh3=>?_)
  .have hlt:=(aO.1 ha).1;simp only[ik]at hlt;have hdi:d=i:=by rw[oL hlt]at ha;exact(aQ ha).symm
   subst hdi;have hlb:o8 b=(m:Int):=by rw[hI];simp[o8]
   have hg:b[d]? =some (dl m s.2.2.2.2 (d:Int)):=by rw[hI,FY m _ hlt,if_neg o5]
   have hll:=a6m h m d s.2.2.2.2 λr hr=>hr;simp only[hAl,hlb];rw[V7 (show(d:Int)<(m:Int) by omega),show inb (d:Int) (m:Int)=true by unfold inb;simp;omega,show X8 b (U8 (d:Int))=some (dl m s.2.2.2.2 (d:Int))from hg];simp only[o7,x8];rw[a2N o5,show Fh (U8 (d:Int)) (U8 (d:Int))=true by simp[Fh],iy o5];simp only[o7,x8];rw[show b.getD d []=dl m s.2.2.2.2 (d:Int) by rw[zM,hg];rfl];refine⟨rfl,?_⟩;rw[hI,XD];apply aT;intro e he;by_cases hq:e=d
   .subst hq;rw[if_pos rfl,if_pos o5]
   .rw[if_neg hq];by_cases hq2:e<d
    .rw[if_pos hq2,if_pos o5]
    .rw[if_neg hq2,if_neg o5]
  .simp only[ik,hAl,O6 (show(m:Int)<=(m:Int) by omega)];rfl
  .rw[h3];apply congrArg some;apply aT;intro d hd;have:=X7.1 hd;simp only[ik];rw[if_pos this];unfold U7;rw[hn,show inD (m:Int) (d:Int)=true by unfold inD;rw[af o5,V7 o5];rfl];rfl
def Rch(D:Int->d4I)(d:Int)(L:d4I):Prop:=SI L/\(∀x∈D d,x∈L)/\(∀x∈L,∀y∈D x,y∈L)/\∀C:Int->Prop,(∀x∈D d,C x)->(∀x,C x->∀y∈D x,C y)->∀x∈L,C x
theorem Rch.unique{D:Int->d4I}{L M:d4I}(h:Rch D d L)(k:Rch D d M):L=M:=
 a7x h.1 k.1 λx=>⟨λhx=>h.2.2.2 (λy=>y∈M) k.2.1 k.2.2.1 x hx,λhx=>k.2.2.2 (λy=>y∈L) h.2.1 h.2.2.1 x hx⟩
theorem UR:∀{B A:d4I},SI A->SI B->(∀x∈A,x∈B)->A=B\/A.length<B.length
 |[],A,_,_,h=>by
  cases A with
  |nil=>exact .inl rfl|cons a A=>exact absurd (h a A7) A7
 |b::B,[],_,_,_=> .inr A7|b::B,a::A,hA,hB,h=>by
  have hA' :=Y4.1 hA;have hB' :=Y4.1 hB;rcases D6.1 (h a A7)with hab|hab
  .subst hab;rcases UR (B:=B) (A:=A) hA'.2 hB'.2 (λx hx=>by
    rcases D6.1 (h x (by simp[hx]))with h1|h1
    .have:=hA'.1 x hx;omega
    .exact h1)with h1|h1
   .exact .inl (by rw[h1])
   .exact .inr (by simp only[H8];omega)
  .have hab2:=hB'.1 a hab;rcases UR (B:=B) (A:=a::A) hA hB'.2 (λx hx=>by
    rcases D6.1 (h x hx)with h1|h1
    .rcases D6.1 hx with h2|h2
     .omega
     .have:=hA'.1 x h2;omega
    .exact h1)with h1|h1
   .exact .inr (by rw[h1];simp)
   .exact .inr (by simp only[H8]at*;omega)
def OX(D:Int->d4I)(L:d4I):d4I:=L.foldl (λacc x=>YZ (D x) acc) L
theorem KD(D:Int->d4I)(x:Int):∀(l acc:d4I),x∈l.foldl (λacc x=>YZ (D x) acc) acc↔x∈acc\/∃y∈l,x∈D y
 |[],acc=>by simp|a::l,acc=>by
  rw[dA,KD D x l,Zo];constructor
  .rintro((h|h)|⟨y,hy,h⟩)
   .exact .inr ⟨a,A7,h⟩
   .exact .inl h
   .exact .inr ⟨y,by simp[hy],h⟩
  .rintro(h|⟨y,hy,h⟩)
   .exact .inl (.inr h)
   .rcases D6.1 hy with rfl|hy
    .exact .inl (.inl h)
    .exact .inr ⟨y,hy,h⟩
theorem a8X(D:Int->d4I):∀(l:d4I) {acc:d4I},SI acc->SI (l.foldl (λacc x=>YZ (D x) acc) acc)
 |[],_,h=>h|a::l,_,h=>by rw[dA];exact a8X D l (a2A _ h)
theorem Zu(D:Int->d4I){L:d4I}(h:SI L):SI (OX D L):=a8X D L h
def itS(D:Int->d4I)(d:Int):Nat->d4I
 |0=>D d|k+1=>OX D (itS D d k)
section
variable {D:Int->d4I} {n:Nat} (hsi:∀x,SI (D x)) (hin:∀x,∀y∈D x,0<=y/\y<(n:Int))
include hsi hin
theorem a3W(d:Int):∀k,SI (itS D d k)
 |0=>hsi d|k+1=>Zu D (a3W d k)
theorem b2p(d:Int):∀k,∀x∈itS D d k,0<=x/\x<(n:Int)
 |0,x,hx=>hin d x hx|k+1,x,hx=>by
  rcases(KD D x _ _).1 hx with h|⟨y,_,h⟩
  .exact b2p d k x h
  .exact hin y x h
theorem a8K(d:Int)(k:Nat):OX D (itS D d k)=itS D d k\/(itS D d k).length<(OX D (itS D d k)).length:=by
 rcases UR (a3W hsi hin d k) (Zu D (a3W hsi hin d k)) (λx hx=>(KD D x _ _).2 (.inl hx))with h|h
 .exact .inl h.symm
 .exact .inr h
theorem a0M(d:Int):∀k,OX D (itS D d k)=itS D d k\/k<(OX D (itS D d k)).length
 |0=>by
  rcases a8K hsi hin d 0 with h|h
  .exact .inl h
  .exact .inr o5
 |k+1=>by
  rcases a0M d k with h|h
  .exact .inl (by show OX D (OX D (itS D d k))=OX D (itS D d k);rw[h,h])
  .rcases a8K hsi hin d (k+1)with h2|h2
   .exact .inl h2
   .exact .inr (by have:(itS D d (k+1)).length=(OX D (itS D d k)).length:=rfl;omega)
theorem b9F(d:Int):Rch D d (itS D d n):=by
 have hst:OX D (itS D d n)=itS D d n:=by
  rcases a0M hsi hin d n with h|h
  .exact h
  .have:=l_ n (Zu D (a3W hsi hin d n)) (b2p hsi hin d (n+1));omega
 refine⟨a3W hsi hin d n,?_,?_,?_⟩
 .intro x hx;have:∀k,x∈itS D d k:=by
   intro k;induction k with
   |zero=>exact hx|succ k ih=>exact(KD D x _ _).2 (.inl ih)
  exact this n
 .intro x hx y hy;rw[←hst];exact(KD D y _ _).2 (.inr ⟨x,hx,hy⟩)
 .intro C h1 h2;have:∀k,∀x∈itS D d k,C x:=by
   intro k;induction k with
   |zero=>exact h1|succ k ih=>
    intro x hx;rcases(KD D x _ _).1 hx with h|⟨y,hy,h⟩
    .exact ih x h
    .exact h2 y (ih y hy) x h
  exact this n
end
def uN(s:F5)(d:Int):d4I:=itS (U7 s) d s.2.2.2.1.length
theorem Eg(s:F5)(d:Int):Rch (U7 s) d (uN s d):=
 b9F (n:=s.2.2.2.1.length) (Gz s) (λx y hy=>DL hy) d
theorem b6A(h:x∈uN s d):0<=x/\x<nD s:=b2p (n:=s.2.2.2.1.length) (Gz s) (λx y hy=>DL hy) d _ x h
theorem YC(h:SmS s)(d:Int):(U7 s d).length<=14:=
 aU (l_ s.2.2.2.1.length (Gz s d) (λx hx=>DL hx)) h.nd
theorem Za(h:SmS s){l:d4I}(hs:SI l)(hi:∀x∈l,0<=x/\x<nD s):l.length<=14:=aU (l_ s.2.2.2.1.length hs hi) h.nd
def mk(S:List Bool)(x:Int):Bool:=if 0<=x then S.getD x.toNat false else false
def unm(S:List Bool):Nat:=S.count false
def rG(b:List Bool×d4I)(e:Int):List Bool×d4I:=l7 (mk b.1 e) b (b.1.set e.toNat true,b.2++[e])
variable {S:List Bool}
theorem b2F(h0:0<=x)(h1:x<o8 S):S[x.toNat]? =some (mk S x):=by
 unfold mk;rw[if_pos h0,zM];have:x.toNat<S.length:=by simp only[o8]at h1;omega
 rw[fO this];rfl
theorem b2G{e:Int}(h0:0<=e)(h1:e<o8 S)(x:Int):mk (S.set e.toNat true) x=l7 (o9 x e) true (mk S x):=by
 unfold mk;have hl:e.toNat<S.length:=by simp only[o8]at h1;omega
 by_cases hx:0<=x
 .rw[if_pos hx,if_pos hx,zM,zM,U0];by_cases hq:x=e
  .subst hq;rw[if_pos rfl,if_pos hl,X0 rfl];rfl
  .rw[if_neg o5,U2 hq];rfl
 .rw[if_neg hx,if_neg hx,U2 o5];rfl
theorem b8m{e:Int}(h0:0<=e)(h1:e<o8 S)(hm:mk S e=false):unm (S.set e.toNat true)+1=unm S:=by
 have hl:e.toNat<S.length:=by simp only[o8]at h1;omega
 have hg:=b2F h0 h1;rw[hm,fO hl]at hg;have hg' :S[e.toNat]=false:=aQ hg;unfold unm;rw[List.count_set hl,hg'];have:0<S.count false:=List.count_pos_iff.2 (by rw[←hg'];exact O5 hl);simp;omega
structure RInv (n:Nat) (S:List Bool) (Q:d4I) (l:d4I) (S' :List Bool) (Q' :d4I):Prop where
 len:S'.length=n
 seen:∀x:Int,0<=x->x<(n:Int)->(mk S' x=true↔mk S x=true\/x∈l)
 sum:Q'.length+unm S' =Q.length+unm S
 le:unm S' <=unm S
 old:∀x∈Q,x∈Q'
 new:∀x∈Q',x∈Q\/x∈l
 got:∀x,mk S' x=true->mk S x=true\/x∈Q'
theorem b4i{n:Nat} :∀(l:d4I) (S:List Bool) (Q:d4I),S.length=n->(∀x∈l,0<=x/\x<(n:Int))->RInv n S Q l (l.foldl rG (S,Q)).1 (l.foldl rG (S,Q)).2
 |[],S,Q,hl,_=>⟨hl,λx _ _=>by simp,rfl,E8 _,λx hx=>hx,λx hx=> .inl hx,λx hx=> .inl hx⟩|e::l,S,Q,hl,hi=>by
  have he:=hi e A7;have hel:e<o8 S:=by simp only[o8];omega
  rw[dA];cases hm:mk S e with
  |true=>
   rw[show rG (S,Q) e=(S,Q) by unfold rG;rw[hm];rfl];have ih:=b4i l S Q hl λx hx=>hi x (by simp[hx]);refine⟨ih.len,λx h0 h1=>?_,ih.sum,ih.le,ih.old,λx hx=>?_,ih.got⟩
   .rw[ih.seen x h0 h1,D6];constructor
    .rintro(h|h)
     .exact .inl h
     .exact .inr (.inr h)
    .rintro(h|h|h)
     .exact .inl h
     .subst h;exact .inl hm
     .exact .inr h
   .rcases ih.new x hx with h|h
    .exact .inl h
    .exact .inr (by simp[h])
  |false=>
   rw[show rG (S,Q) e=(S.set e.toNat true,Q++[e]) by unfold rG;rw[hm];rfl];have ih:=b4i l (S.set e.toNat true) (Q++[e]) (by simp[hl]) λx hx=>hi x (by simp[hx]);have hu:=b8m he.1 hel hm;refine⟨ih.len,λx h0 h1=>?_,?_,?_,λx hx=>ih.old x (by simp[hx]),λx hx=>?_,λx hx=>?_⟩
   .rw[ih.seen x h0 h1,b2G he.1 hel,D6];cases hq:o9 x e
    .rw[zC]at hq;simp[hq]
    .rw[Z5]at hq;simp[hq]
   .have:=ih.sum;simp only[I9,H8,fQ]at this;omega
   .have:=ih.le;omega
   .rcases ih.new x hx with h|h
    .rcases E9.1 h with h|h
     .exact .inl h
     .exact .inr (by simp at h;simp[h])
    .exact .inr (by simp[h])
   .rcases ih.got x hx with h|h
    .rw[b2G he.1 hel]at h;cases hq:o9 x e
     .rw[hq]at h;exact .inl h
     .rw[Z5]at hq;subst hq;exact .inr (ih.old _ A7)
    .exact .inr h
def WG(S:List Bool):d4I:=((List.range S.length).filter λi=>S.getD i false).map λ(i:Nat)=>(i:Int)
theorem Qq(x:Int):x∈WG S↔mk S x=true:=by
 unfold WG mk;rw[O9];constructor
 .rintro⟨i,hi,rfl⟩;rw[if_pos o5];exact(Y8.1 hi).2
 .intro h;split at h
  .refine⟨x.toNat,Y8.2 ⟨X7.2 ?_,h⟩,o5⟩;rw[zM]at h;cases hg:S[x.toNat]? with
   |none=>rw[hg]at h;cases h|some b=>exact(aO.1 hg).1
  .cases h
theorem b2C(S:List Bool):SI (WG S):=by unfold WG;refine List.Pairwise.map _ (R:=(·< ·)) (λa b h=>by omega) (List.Pairwise.filter _ qQ)
theorem a6I{f:d4I×Int->Option ((d4I×Int)⊕d4I)}(S:List Bool)(hS:S.length<=100)
  (hin:∀(i:Nat) (a:Bool) (acc:d4I),S[i]? =some a->i<=1000000->acc.length<=i->f (acc,(i:Int))=l7 a (l9 (dB acc [(i:Int)]) λx=>some (.inl (x,C9 .i64 (i:Int) 1))) (some (.inl (acc,C9 .i64 (i:Int) 1))))
  (hend:∀acc,f (acc,(S.length:Int))=some (.inr acc)):aX f ([],0)=some (WG S):=by
 have mk2:∀i,i<=S.length->((List.range i).filter λi=>S.getD i false).length<=i:=λi _=>by have:=bz (λi=>S.getD i false) (List.range i);simpa using this
 obtain⟨e,h1,h2⟩:=jg (f:=f) (s:=([],0)) (λx=>∃i:Nat,x=(((List.range i).filter λi=>S.getD i false).map λ(i:Nat)=>(i:Int),(i:Int))/\i<=S.length) (λe=>e=WG S) (λx=>S.length -x.2.toNat) ⟨0,rfl,o5⟩ aH (by
  rintro x ⟨i,rfl,hi⟩;by_cases h:i<S.length
  .have e:=fO h;have hst:(List.range (i+1)).filter (λi=>S.getD i false)=(List.range i).filter (λi=>S.getD i false)++l7 S[i] [i] []:=by
    rw[eP,lT];congr 1;rw[Y7,zM,e];cases S[i]<;>rfl
   have hl:=mk2 i hi;refine .inl ⟨(((List.range (i+1)).filter λi=>S.getD i false).map λ(i:Nat)=>(i:Int),((i+1:Nat):Int)),?_,⟨i+1,rfl,h⟩,by simp;omega⟩;rw[hin i _ _ e o5 (by simpa using hl),iy o5,hst,bJ,nT _ (by rw[H9];omega)];cases S[i]
   .simp
   .rfl
  .have:i=S.length:=o5;subst this;exact .inr ⟨_,hend _,rfl⟩)
 rw[h1,h2]
variable {n:Nat}
theorem a7c{D:Int->d4I}(hn:n<=14)(hsi:∀x,SI (D x))(hin:∀x,∀y∈D x,0<=y/\y<(n:Int))(h0:0<=d)(h1:d<(n:Int)):
  ∃L,FT ((List.range n).map λ(x:Nat)=>D (x:Int)) d=some L/\Rch D d L:=by
 have hA:o8 ((List.range n).map λ(x:Nat)=>D (x:Int))=(n:Int):=by simp[o8]
 have hget:∀x:Int,0<=x->x<n->G9 ((List.range n).map λ(x:Nat)=>D (x:Int)) x=some (D x):=λx a b=>by
  have:x.toNat<n:=o5;unfold G9
  rw[if_pos a,FY n _ this,X6 a]
 unfold FT;generalize (List.range n).map (λ(x:Nat)=>D (x:Int))=A at*;rw[hA,show tq (n:Int) false=some (List.replicate n false) by unfold tq;rw[if_pos o5];simp,x8];have hD14:∀x,(D x).length<=14:=λx=>aU (l_ n (hsi x) (hin x)) hn;have key:=jg (f:=λ(x:List Bool×d4I)=>l7 (E5 0 (o8 x.2)) (l9 (G9 x.2 0) λ(x_1:Int)=>l9 (X8 x.2 (U8 0)) λ(x_2:Int)=>l7 (pX 1 (o8 x.2) (o8 x.2)) (l9 (G9 A x_2) λ(x_3:d4I)=>
   l9 (aX (λ(x:List Bool×d4I×Int)=>l7 (E5 x.2.2 (o8 x_3)) (l9 (G9 x_3 x.2.2) λ(x_4:Int)=>l9 (G9 x.1 x_4) λ(x_5:Bool)=>l9 (X8 x.1 (U8 x_4)) λ(x_6:Bool)=>
     l7 (D9 x_6) (l9 (G9 x.1 x_4) λ(x_7:Bool)=>l9 (X8 x.1 (U8 x_4)) λ(x_8:Bool)=>l9 (dB x.2.1 [x_4]) λ(x_9:d4I)=>some (.inl (aW x.1 (U8 x_4) true,x_9,C9 .i64 x.2.2 1)))
      (some (.inl (x.1,x.2.1,C9 .i64 x.2.2 1)))) (some (.inr (x.1,x.2.1)))) (x.1,mP x.2 (U8 1) (U8 (o8 x.2)),0)) λ(y:List Bool×d4I)=>some (.inl y)) none) (some (.inr x.1)))
  (s:=(List.replicate n false,[d]))
  (λx=>x.1.length=n/\(∀q∈x.2,0<=q/\q<(n:Int))/\x.2.length+unm x.1<=n+1/\(∀q∈x.2,q=d\/mk x.1 q=true)/\(∀v,v=d\/mk x.1 v=true->v∈x.2\/∀y∈D v,mk x.1 y=true)/\
   (∀C:Int->Prop,(∀x∈D d,C x)->(∀x,C x->∀y∈D x,C y)->∀v,mk x.1 v=true->C v)/\(∀v,mk x.1 v=true->0<=v/\v<(n:Int)))
  (λS=>S.length=n/\Rch D d (WG S)) (λx=>2*unm x.1+x.2.length) ?_ ?_ ?_
 .obtain⟨S,k1,k2,k3⟩:=key;refine⟨WG S,?_,k3⟩;refine(um k1 _).trans ?_;rw[lm];refine a6I S o5 (λi a acc ha hi hacc=>?_) (λacc=>?_)
  .simp only[V6 ha,o7,I5,ha,x8];rw[show X8 S (U8 (i:Int))=some a from ha,x8]
  .simp only[V5];rfl
 .have hnone:∀v,mk (List.replicate n false) v=false:=λv=>by
   unfold mk;split
   .rw[zM,lC];split<;>rfl
   .rfl
  refine⟨A7,λq hq=>by simp at hq;omega,?_,λq hq=> .inl (by simpa using hq),λv hv=>?_,λC _ _ v hv=>(by rw[hnone]at hv;cases hv),λv hv=>(by rw[hnone]at hv;cases hv)⟩
  .simp[unm,List.count_replicate];omega
  .rcases hv with rfl|hv
   .exact .inl A7
   .rw[hnone]at hv;cases hv
 .simp[unm,List.count_replicate];omega
 .rintro⟨S,Q⟩ ⟨i1,i2,i3,i4,i5,i6,i7⟩;simp only at i1 i2 i3 i4 i5 i6 i7;cases Q with
  |nil=>
   right;refine⟨S,rfl,i1,b2C S,λx hx=>?_,λx hx y hy=>?_,λC c1 c2 x hx=>i6 C c1 c2 x ((Qq x).1 hx)⟩
   .rcases i5 d (.inl rfl)with h|h
    .cases h
    .exact(Qq x).2 (h x hx)
   .rcases i5 x (.inr ((Qq x).1 hx))with h|h
    .cases h
    .exact(Qq y).2 (h y hy)
  |cons q Q=>
   left;have hq:=i2 q A7;have hfold:=b4i (n:=n) (D q) S Q i1 (λx hx=>hin q x hx);refine⟨(D q).foldl rG (S,Q),?_,?_,?_⟩
   .simp only[V7 (show(0:Int)<o8 (q::Q) by simp[o8]<;>omega),o7,show G9 (q::Q) 0=some q from rfl,show X8 (q::Q) (U8 0)=some q from rfl,x8,hget q hq.1 hq.2,
     show pX 1 (o8 (q::Q)) (o8 (q::Q))=true by simp[pX,o8]<;>omega,show mP (q::Q) (U8 1) (U8 (o8 (q::Q)))=Q by simp[mP,U8,o8]]
    refine yB (D q) rG (λb i=>(b.1,b.2,i)) (λb=>b) (λi b=>b.1.length=n/\b.2.length<=100+i) (S,Q) (by have:=hD14 q;omega) ⟨i1,by simp at i3;show Q.length<=100+0;omega⟩ (λi e b he hi hI=>?_) (λb hI=>?_) (λh2=>rfl)
    .obtain⟨S1,Q1⟩:=b;simp only at hI;have hee:=hin q e (mM he);have hlt:=(aO.1 he).1;have hdl:=hD14 q;have hg:=b2F (S:=S1) hee.1 (by simp only[o8];omega);have hla:G9 S1 e=some (mk S1 e):=by unfold G9;rw[if_pos hee.1];exact hg
     have hlg:X8 S1 (U8 e)=some (mk S1 e):=hg;simp only[V6 he,o7,I5 (D q),he,x8,hla,hlg];rw[iy o5,nT _ o5];unfold rG;simp only;cases mk S1 e
     .exact⟨rfl,by simp[hI.1],by simp<;>omega⟩
     .exact⟨rfl,hI.1,by show Q1.length<=_;omega⟩
    .simp only[V5];rfl
   .obtain⟨j1,j2,j3,j4,j5,j6,j7⟩:=hfold;generalize (D q).foldl rG (S,Q)=b at*;obtain⟨S',Q'⟩:=b;simp only at j1 j2 j3 j4 j5 j6 j7 ⊢;have hrange:∀v,mk S' v=true->0<=v/\v<(n:Int):=λv hv=>by
     rcases j7 v hv with h|h
     .exact i7 v h
     .rcases j6 v h with h|h
      .exact i2 v (by simp[h])
      .exact hin q v h
    refine⟨j1,λx hx=>?_,?_,λx hx=>?_,λv hv=>?_,λC c1 c2 v hv=>?_,hrange⟩
    .rcases j6 x hx with h|h
     .exact i2 x (by simp[h])
     .exact hin q x h
    .simp only[H8]at i3;omega
    .rcases j6 x hx with h|h
     .rcases i4 x (by simp[h])with h2|h2
      .exact .inl h2
      .have hr:=i7 x h2;exact .inr ((j2 x hr.1 hr.2).2 (.inl h2))
     .have hr:=hin q x h;exact .inr ((j2 x hr.1 hr.2).2 (.inr h))
    .have up:∀y,mk S y=true->mk S' y=true:=λy hy=>by
      have hr:=i7 y hy;exact(j2 y hr.1 hr.2).2 (.inl hy)
     by_cases hvq:v=q
     .subst hvq;right;intro y hy;have hr:=hin v y hy;exact(j2 y hr.1 hr.2).2 (.inr hy)
     .by_cases hold:v=d\/mk S v=true
      .rcases i5 v hold with h|h
       .rcases D6.1 h with h|h
        .exact absurd h hvq
        .exact .inl (j5 v h)
       .exact .inr λy hy=>up y (h y hy)
      .rcases hv with h|h
       .exact absurd (.inl h) hold
       .rcases j7 v h with h2|h2
        .exact absurd (.inr h2) hold
        .exact .inl h2
    .by_cases hS:mk S v=true
     .exact i6 C c1 c2 v hS
     .have hr:=hrange v hv;rcases(j2 v hr.1 hr.2).1 hv with h|h
      .exact absurd h hS
      .rcases i4 q A7 with h2|h2
       .subst h2;exact c1 v h
       .exact c2 q (i6 C c1 c2 q h2) v h
   .have:=hfold.sum;have:=hfold.le;simp only[H8];omega
theorem a0g(h:SmS s)(h0:0<=d)(h1:d<nD s):Ac s d=some (uN s d):=by have hn:nD s=((s.2.2.2.1.length:Nat):Int):=rfl;unfold Ac;change l7 (E5 d 0) _ (l7 (J8 (nD s) d) _ _)=_;rw[O6 h0,o6,aA h1,o6,Tq h,x8,lm];obtain⟨L,k1,k2⟩:=a7c (D:=U7 s) h.nd (Gz s) (λx y hy=>DL hy) h0 (show d<((s.2.2.2.1.length:Nat):Int) by omega);rw[k1,Rch.unique k2 (Eg s d)]
structure SmL (l:U6):Prop where
 few:Few l
 en:a1t l
 tb:XX l
 sc:∀s∈l.2.2,SmS s
structure SwS (s:F5):Prop where
 nm:s.1.length<=1000000
 ni:s.2.2.1.length<=100000
 nd:s.2.2.2.1.length<=100000
 nr:s.2.2.2.2.length<=100000
 fo:a2Y s
 ro:∀r∈s.2.2.2.2,a5L r
structure SwL (l:U6):Prop where
 few:Few l
 en:a1t l
 tb:XX l
 sc:∀s∈l.2.2,SwS s
variable {l:U6}
theorem SwL.scopes(h:SwL l):a3d l:=λs hs=>by have hm:=h.sc s hs;exact⟨hm.nm,hm.ni,hm.nd,hm.nr⟩
theorem SmL.w(h:SmL l):SwL l:=⟨h.few,h.en,h.tb,λs hs=>by have hm:=h.sc s hs;exact⟨hm.nm,by have:=hm.ni;omega,by have:=hm.nd;omega,by have:=hm.nr;omega,hm.fo,λr hr=>(hm.ro r hr).1⟩⟩
theorem vJ{ε ρ:Type}{p:Nat->Option ρ}(n:Nat)(hn:n<=1000000)(e:ε){f:Int->Option (Out Int ε ρ)}
  (h1:∀i,i<n->f (i:Int)=some (match p i with|some r=> .rt r|none=> .nx (C9 .i64 (i:Int) 1))) (h2:f (n:Int)=some (.ex e)):
  U3 f 0=some (match ae n p with|some r=> .inr r|none=> .inl e):=
 OV n o5 e (λi hi=>by rw[h1 i hi,iy o5]<;>cases p i<;>rfl) h2
def Jn(l:U6)(s:F5)(k:Nat):Option (Int×Int):=match s.2.2.2.2[k]? with|some r=>Vq (Dy s (IK l s) k r) (300+k:Nat)|none=>none
def K_(s:F5)(d:Nat):Option (Int×Int):=l7 ((uN s d).any λx=>o9 (d:Int) x) (some (9,((200+d:Nat):Int))) none
def DX(l:U6)(i:Nat)(m:Int):Bool:=l7 (o9 m (-1)) false (l7 (E5 m 0) true (l7 (J8 (i:Int) m) true (match G9 l.2.2 m with|some q=>D9 (o9 q.2.1 (-1))|none=>true)))
def Pg(l:U6)(s:F5):Int×Int:=match yT l s with
 |some r=>r
 |none=>match ae s.2.2.2.2.length (Jn l s)with
  |some r=>r
  |none=>match ae s.2.2.2.1.length (K_ s)with
   |some r=>r|none=>(0,0)
def Iw(l:U6)(i:Nat)(s:F5):Int×Int:=
 l7 (AQ s.1) (l7 (EU l 3 i s.1) (7,0) (l7 (DX l i s.2.1) (6,0) (l7 (E5 12 (o8 s.2.2.1)) (4,112) (l7 (E5 12 (o8 s.2.2.2.1)) (4,212) (Pg l s))))) (2,0)
theorem B_(h:Dz e sg t=0):e.length<=50:=by
 unfold Dz pg at h;cases hs:oZ e with
 |inl x=>
  rw[hs]at h;simp only at h;cases hc:o9 x.2 0<;>rw[hc]at h
  .exact absurd h (zC.1 hc)
  .exact absurd (Z5.1 hc) (Jt hs)
 |inr x=>have:=(ES hs).2;omega
theorem b6U{m:Nat} :∀(D:d4I),(∀x∈D,0<=x/\x<(m:Int))->(∀d:Int,D.countP (λo=>o9 o d)<=8)->D.length<=m*8:=by
 induction m with
 |zero=>
  intro D h _;cases D with
  |nil=>simp|cons a D=>have:=h a A7;omega
 |succ m ih=>
  intro D h h8;have h1:=ih (D.filter λo=>D9 (o9 o (m:Int))) (λx hx=>by
   obtain⟨hx,hn⟩:=Y8.1 hx;have:=h x hx;have hn:x≠(m:Int):=λe=>by rw[X0 e]at hn;cases hn
   omega) (λd=>by rw[List.countP_filter];refine aU (List.countP_mono_left λx _ hx=>?_) (h8 d);simp only[D5]at hx;exact hx.1)
  have h2:=h8 (m:Int);have h3:∀D:d4I,D.length=D.countP (λo=>o9 o (m:Int))+(D.filter λo=>D9 (o9 o (m:Int))).length:=by
   intro D;induction D with
   |nil=>rfl|cons a D ih=>rw[List.countP_cons,Y7,H8,ih];cases o9 a (m:Int)<;>simp<;>omega
  have:=h3 D;omega
theorem d_(h:Dy s sg k r=0):(∃d,G9 s.2.2.2.1 r.2.1=some d/\JD r sg d.2=0)/\Ot (s.2.2.2.2.take k) r.2.1<8:=by
 unfold Dy at h;cases g1:AQ r.1<;>rw[g1]at h
 .exact absurd (show(2:Int)=0 from h) F8
 cases g2:(s.2.2.2.2.take k).any λx=>seq x.1 r.1<;>rw[g2]at h
 case true=>exact absurd (show(7:Int)=0 from h) F8
 simp only[o7,o6]at h;cases g3:G9 s.2.2.2.1 r.2.1 with
 |none=>rw[g3]at h;exact absurd (show(6:Int)=0 from h) F8|some d=>
  rw[g3]at h;simp only at h;generalize (l7 (o9 r.2.2.1 (-1)) false (l7 (E5 r.2.2.1 0) true (l7 (J8 (k:Int) r.2.2.1) true (match G9 s.2.2.2.2 r.2.2.1 with|some q=>D9 (o9 q.2.1 r.2.1)|none=>true))))=g4 at h;cases g4
  case true=>exact absurd (show(9:Int)=0 from h) F8
  cases g5:E5 r.2.2.2.1 0<;>rw[g5]at h
  case true=>exact absurd (show(3:Int)=0 from h) F8
  cases g6:E5 9 r.2.2.2.1<;>rw[g6]at h
  case true=>exact absurd (show(3:Int)=0 from h) F8
  cases g7:zI r.2.2.2.2.1<;>rw[g7]at h
  .exact absurd (show(3:Int)=0 from h) F8
  cases g8:o9 r.2.2.2.2.1.1 r.2.2.2.2.1.2<;>rw[g8]at h
  case true=>exact absurd (show(3:Int)=0 from h) F8
  cases g9:J8 8 (Ot (s.2.2.2.2.take k) r.2.1:Int)<;>rw[g9]at h
  case true=>exact absurd (show(4:Int)=0 from h) F8
  cases g10:a0e r.2.2.2.2.2.2.2<;>rw[g10]at h
  .exact absurd (show(2:Int)=0 from h) F8
  simp only[o7,o6]at h;have:=Fa.1 g9;exact⟨⟨d,rfl,h⟩,o5⟩
theorem a9Y(h:JD r sg t=0):r.2.2.2.2.2.1.length<=50/\r.2.2.2.2.2.2.1.length<=50:=by
 unfold JD at h;cases g:E5 0 (o8 r.2.2.2.2.2.1)<;>rw[g]at h
 .have:=gU.1 g;unfold o8 at this;exact⟨o5,B_ h⟩
 .rw[o7]at h;cases g2:o9 (Dz r.2.2.2.2.2.1 sg (1,0)) 0<;>rw[g2]at h
  .exact absurd h (zC.1 g2)
  .exact⟨B_ (Z5.1 g2),B_ h⟩
theorem a5f(hw:SwS s)(h1:s.2.2.1.length<=12)(h2:s.2.2.2.1.length<=12)(h:ae s.2.2.2.2.length (Jn l s)=none):SmS s:=by
 have hz:∀(k:Nat) (r:bf),s.2.2.2.2[k]? =some r->Dy s (IK l s) k r=0:=λk r hr=>by
  have:=oJ h k (aO.1 hr).1;unfold Jn at this;rw[hr]at this;unfold Vq at this;simp only at this;cases g:o9 (Dy s (IK l s) k r) 0<;>rw[g]at this
  .cases this
  .exact Z5.1 g
 have hk:∀k,k<=s.2.2.2.2.length->∀d:Int,((s.2.2.2.2.take k).map λ(o:bf)=>o.2.1).countP (λo=>o9 o d)<=8:=by
  intro k;induction k with
  |zero=>intro _ d;simp|succ k ih=>
   intro hk d;have e:=fO (show k<s.2.2.2.2.length by omega);have h3:=(d_ (hz k _ e)).2;unfold Ot at h3;have h4:=ih o5 d;rw[U1 o5,bJ,List.countP_append];rw[List.countP_map]at h4 ⊢;by_cases hd:(s.2.2.2.2[k]).2.1=d
   .have e5:List.countP ((λ(o:Int)=>o9 o d)∘λ(o:bf)=>o.2.1) (s.2.2.2.2.take k)=(s.2.2.2.2.take k).countP λ(o:bf)=>o9 o.2.1 (s.2.2.2.2[k]).2.1:=by rw[hd];rfl
    have e6:List.countP (λo=>o9 o d) [(s.2.2.2.2[k]).2.1]<=1:=List.countP_le_length;simp only[bW,jy];omega
   .have e6:List.countP (λo=>o9 o d) [(s.2.2.2.2[k]).2.1]=0:=by simp[U2 hd]
    simp only[bW,jy];omega
 have h8:=hk s.2.2.2.2.length (E8 _);rw[bM]at h8;have hc:=b6U (m:=12) (s.2.2.2.2.map λ(o:bf)=>o.2.1) (λx hx=>by obtain⟨r,hr,rfl⟩:=O9.1 hx;obtain⟨k,hk,e⟩:=Z9 hr;obtain⟨⟨d,hd,-⟩,-⟩:=d_ (hz k r (by rw[fO hk,e]));obtain⟨a,b,-⟩:=rq hd;unfold o8 at b;omega) h8
 rw[H9]at hc;refine⟨hw.nm,o5,o5,o5,hw.fo,λr hr=>⟨hw.ro r hr,?_⟩⟩;obtain⟨k,hk,e⟩:=Z9 hr;obtain⟨⟨d,-,hd⟩,-⟩:=d_ (hz k r (by rw[fO hk,e]));exact a9Y hd
theorem I_(hL:SwL l)(hs:l.2.2[i]? =some s):Cm l (i:Int)=some (Iw l i s):=by
 have hi:=(aO.1 hs).1;have hS:=hL.sc s (mM hs);have hf:=hL.few;have hf1:=hf.1;have hf2:=hf.2.1;have hf3:=hf.2.2;have n1:=hS.ni;have n2:=hS.nd;have n3:=hS.nr;unfold Cm Iw EU;rw[I5,hs,x8,BB o5,x8,RY _ o5,x8,WB _ o5,x8,a3R _ aH,x8];have hb:(l7 (l.1.any λx=>seq x.1 s.1) (some (s,true)) (l7 (l.2.1.any λx=>seq x.1 s.1) (some (s,true)) (some (s,(l.2.2.take i).any λx=>seq x.1 s.1))))=
   some (s,(l.1.any λx=>seq x.1 s.1) || (l.2.1.any λx=>seq x.1 s.1) || (l.2.2.take i).any λx=>seq x.1 s.1):=by
  cases l.1.any λx=>seq x.1 s.1
  .cases l.2.1.any λx=>seq x.1 s.1<;>rfl
  .rfl
 rw[hb,x8];simp only;rw[wS hS.nm,x8];cases AQ s.1
 .rfl
 simp only[G6,o6,o7];cases (l.1.any λx=>seq x.1 s.1) || (l.2.1.any λx=>seq x.1 s.1) || (l.2.2.take i).any λx=>seq x.1 s.1
 case true=>rfl
 simp only[o6];have hm:(l7 (D9 (o9 s.2.1 (-1))) (l7 (E5 s.2.1 0) (some true) (l7 (J8 (i:Int) s.2.1) (some true) (l9 (G9 (l.2.2.take i) s.2.1) λ(x:F5)=>some (D9 (o9 x.2.1 (-1)))))) (some false))=some (DX l i s.2.1):=by
  unfold DX;cases o9 s.2.1 (-1)
  case true=>rfl
  simp only[gz,o7,o6];cases h0:E5 s.2.1 0
  case true=>rfl
  cases h1:J8 (i:Int) s.2.1
  case true=>rfl
  rw[gU]at h0;rw[Fa]at h1;obtain⟨q,hq,_⟩:=qA (l:=l.2.2.take i) h0 (by simp only[o8,fB];omega);have hq2:G9 l.2.2 s.2.1=some q:=by have:=(rq hq).2.2.2;unfold G9;rw[if_pos h0];exact(a5z this).2
  rw[hq,hq2];rfl
 rw[hm,x8];cases DX l i s.2.1
 case true=>rfl
 simp only[o6];cases g12:E5 12 (o8 s.2.2.1)
 case true=>rfl
 cases g13:E5 12 (o8 s.2.2.2.1)
 case true=>rfl
 have m1:s.2.2.1.length<=12:=by have:=gU.1 g12;unfold o8 at this;omega
 have m2:s.2.2.2.1.length<=12:=by have:=gU.1 g13;unfold o8 at this;omega
 simp only[o6,x8,aj];unfold Pg yT;refine fU (vJ (p:=inP l s) s.2.2.1.length o5 PUnit.unit (λk hk=>?_) ?_) ?_
 rotate_left 2
 .cases ae s.2.2.1.length (inP l s)
  case some r=>rfl
  simp only[x8,aj];refine fU (vJ (p:=a6j l s) s.2.2.2.1.length o5 PUnit.unit (λk hk=>?_) ?_) ?_
  rotate_left 2
  .cases ae s.2.2.2.1.length (a6j l s)
   case some r=>rfl
   simp only[x8,aj];rw[SS hL.scopes hs,x8];refine fU (vJ (p:=Jn l s) s.2.2.2.2.length o5 PUnit.unit (λk hk=>?_) ?_) ?_
   rotate_left 2
   .cases hfr:ae s.2.2.2.2.length (Jn l s)
    case some r=>rfl
    have hS:=a5f hS m1 m2 hfr;simp only[x8,aj];refine fU (vJ (p:=K_ s) s.2.2.2.1.length o5 PUnit.unit (λk hk=>?_) ?_) ?_
    rotate_left 2
    .cases ae s.2.2.2.1.length (K_ s)<;>rfl
    .have e:=fO hk;simp only[V6 e,o7];rw[a0g hS o5 (by show(k:Int)<o8 s.2.2.2.1;simp only[o8];omega),x8,b0f _ (by
      have:=Za hS (Eg s (k:Int)).1 (λx hx=>b6A hx);omega),x8,show(200:Int)=((200:Nat):Int)from rfl,a8F o5 o5]
     unfold K_;cases (uN s (k:Int)).any λx=>o9 (k:Int) x<;>rfl
    .rw[V5];rfl
   .have e:=fO hk;have hr:=hS.ro _ (O5 hk);simp only[V6 e,o7];rw[a1B _ e o5 hr,x8,show(300:Int)=((300:Nat):Int)from rfl,a8F o5 o5];simp only[Jn,e,Vq];cases o9 (Dy s (IK l s) k s.2.2.2.2[k]) 0<;>rfl
   .rw[V5];rfl
  .have e:=fO hk;have hm:=hS.fo.2 _ (O5 hk);simp only[V6 e,o7,I5,e,x8];rw[BB o5,x8,QT hm o5 aH,x8,show(200:Int)=((200:Nat):Int)from rfl,a8F o5 o5];simp only[a6j,e,Vq];cases o9 (OE l.1 s.2.2.2.1[k] s.2.2.1 (s.2.2.2.1.take k)) 0<;>rfl
  .rw[V5];rfl
 .have e:=fO hk;have hm:=hS.fo.1 _ (O5 hk);simp only[V6 e,o7,I5,e,x8];rw[BB o5,x8,QT hm aH A7,x8,show(100:Int)=((100:Nat):Int)from rfl,a8F o5 o5];simp only[inP,e,Vq];cases o9 (OE l.1 s.2.2.1[k] (s.2.2.1.take k) []) 0<;>rfl
 .rw[V5];rfl
theorem Qk{c e:Int}{r:Int×Int}(h:Vq c e=some r):r.1≠0:=by
 unfold Vq at h;cases hc:o9 c 0<;>rw[hc]at h
 .cases h;exact zC.1 hc
 .cases h
theorem Jb{r:Int×Int}(h:yT l s=some r):r.1≠0:=by
 unfold yT at h;split at h
 .rename_i q hq;cases h;obtain⟨k,_,hk⟩:=gZ hq;unfold inP at hk;split at hk
  .exact Qk hk
  .cases hk
 .obtain⟨k,_,hk⟩:=gZ h;unfold a6j at hk;split at hk
  .exact Qk hk
  .cases hk
def MO(l:U6)(i:Nat):Option (Int×Int×Int×Int):=match l.2.2[i]? with|some s=>TJ 3 i (Iw l i s)|none=>none
def MP(l:U6):Int×Int×Int×Int:=l7 (E5 4 (o8 l.2.2)) (4,3,4,0) (match ae l.2.2.length (MO l)with|some r=>r|none=>(0,0,0,0))
def eX(l:U6):Int×Int×Int×Int:=l7 (o9 (BV l).1 0) (l7 (o9 (AA l).1 0) (MP l) (AA l)) (BV l)
theorem Yt(hL:SwL l):Ah l=some (MP l):=by
 have hf:=hL.few.2.2;unfold Ah MP;cases E5 4 (o8 l.2.2)
 case true=>rfl
 simp only[o6];refine fU (OG (p:=MO l) l.2.2.length o5 _ (0,0,0,0) (λi hi=>?_) ?_) ?_
 rotate_left 2
 .cases ae l.2.2.length (MO l)<;>rfl
 .have e:=fO hi;simp only[V6 e,o7,I_ hL e,x8,MO,e,TJ];cases o9 (Iw l i l.2.2[i]).1 0<;>rfl
 .rw[V5];rfl
theorem Nb(hL:SwL l):qV l=some (eX l):=by
 unfold qV eX;rw[H_ hL.few hL.en,x8];cases o9 (BV l).1 0
 .rfl
 simp only[G6,o6,o7];rw[Yu hL.few hL.tb,x8];cases o9 (AA l).1 0
 .rfl
 simp only[G6,o6,o7];rw[Yt hL];rfl
theorem a5G(hL:SmL l):qV l=some (eX l):=Nb hL.w
theorem Vr{k i:Int}{c:Int×Int}{r:Int×Int×Int×Int}(h:TJ k i c=some r):r.1≠0:=by
 unfold TJ at h;cases hc:o9 c.1 0<;>rw[hc]at h
 .cases h;exact zC.1 hc
 .cases h
structure SmC (c:pq):Prop where
 ni:c.2.1.length<=1000
 nm:c.2.2.length<=1000
 nv:∀v∈c.2.2,v.length<=1000
def b8n(en:List dI)(fs:List iH)(vs:List F6)(i:Nat):Option (Int×Int):=match vs[i]?,fs[i]? with
 |some v,some f=>l7 (o9 v.1 f.2.1) (l7 (o9 v.2.1 f.2.2) (l7 (inB v.2.2 (bnd f.2 en)) none (some ((i:Int),3))) (some ((i:Int),8))) (some ((i:Int),8))|_,_=>none
def Xi(en:List dI)(fs:List iH)(vs:List F6):Int×Int:=
 l7 (E5 (o8 vs) (o8 fs)) (o8 vs,5) (l7 (E5 (o8 fs) (o8 vs)) (o8 fs,4) (match ae vs.length (b8n en fs vs)with|some r=>r|none=>(0,0)))
theorem Oo(l:U6){vs:List F6}{fs:List iH}(hv:vs.length<=1000000):pz l vs fs=some (Xi l.1 fs vs):=by
 unfold pz Xi;cases h1:E5 (o8 vs) (o8 fs)
 case true=>rfl
 cases h2:E5 (o8 fs) (o8 vs)
 case true=>rfl
 simp only[o6];have hl:vs.length=fs.length:=by rw[gU]at h1 h2;simp only[o8]at h1 h2;omega
 refine fU (vJ (p:=b8n l.1 fs vs) vs.length hv PUnit.unit (λk hk=>?_) ?_) ?_
 rotate_left 2
 .cases ae vs.length (b8n l.1 fs vs)<;>rfl
 .have e:=fO hk;have e2:=fO (show k<fs.length by omega);simp only[V6 e,o7,I5,e,e2,x8,Vg,b8n,inB,ug];cases o9 vs[k].1 fs[k].2.1
  .rfl
  cases o9 vs[k].2.1 fs[k].2.2
  .rfl
  cases J8 (bnd fs[k].2 l.1).1 vs[k].2.2
  .rfl
  cases J8 vs[k].2.2 (bnd fs[k].2 l.1).2<;>rfl
 .rw[V5];rfl
def Fg(l:U6)(s:F5):List iH×Int:=match G9 l.2.2 s.2.1 with|some q=>(q.2.2.1,8)|none=>([],0)
def b7i(en:List dI)(fs:List iH)(ms:List (List F6))(i:Nat):Option (Int×Int×Int):=match ms[i]? with
 |some vs=>l7 (o9 (Xi en fs vs).2 0) none (some ((i:Int),Xi en fs vs))|none=>none
def IP(l:U6)(k:Int)(c:pq):Int×Int×Int:=match G9 l.2.2 k with
 |none=>(-1,-1,6)
 |some s=>l7 (E5 c.1 0) (-1,-1,3) (l7 (E5 109572 c.1) (-1,-1,3) (l7 (o9 (Xi l.1 s.2.2.1 c.2.1).2 0)
   (l7 (E5 (Fg l s).2 (o8 c.2.2)) ((Fg l s).2,-1,4) (match ae c.2.2.length (b7i l.1 (Fg l s).1 c.2.2)with|some r=>r|none=>(0,0,0))) (-1,Xi l.1 s.2.2.1 c.2.1)))
theorem b4X{k:Int}{A B:Option (PUnit⊕(Int×Int×Int))} :(∃s,G9 l.2.2 k=some s/\l7 (E5 k 0) A (l7 (J8 (o8 l.2.2) k) A B)=B/\s∈l.2.2)\/(G9 l.2.2 k=none/\l7 (E5 k 0) A (l7 (J8 (o8 l.2.2) k) A B)=A):=by
 rw[ug k 0,Jc (o8 l.2.2) k];cases h0:J8 0 k
 .exact .inr ⟨zN (.inl h0),rfl⟩
 cases h1:E5 k (o8 l.2.2)
 .exact .inr ⟨zN (.inr h1),rfl⟩
 obtain⟨s,hs,hm⟩:=qA (sK.1 h0) (ku.1 h1);exact .inl ⟨s,hs,rfl,hm⟩
theorem b6S(l:U6)(k:Int){c:pq}(hc:SmC c):xx l k c=some (IP l k c):=by
 unfold xx IP;rcases b4X (l:=l) (k:=k) (A:=some (.inr ((-1:Int),(-1:Int),(6:Int)))) (B:=some (.inl PUnit.unit))with⟨s,hs,hb,_⟩|⟨hs,hb⟩
 .rw[hb,hs];simp only[x8,aj];cases E5 c.1 0
  case true=>rfl
  cases E5 109572 c.1
  case true=>rfl
  simp only[o6,x8,aj];rw[Oo l (by have:=hc.ni;omega),x8];cases o9 (Xi l.1 s.2.2.1 c.2.1).2 0
  .rfl
  simp only[G6,o6,o7];have hm:sH l k=some (Fg l s):=by
   unfold sH Fg;rw[hs,x8,ug s.2.1 0,Jc (o8 l.2.2) s.2.1];cases h0:J8 0 s.2.1
   .rw[zN (.inl h0)];rfl
   cases h1:E5 s.2.1 (o8 l.2.2)
   .rw[zN (.inr h1)];rfl
   obtain⟨q,hq,_⟩:=qA (sK.1 h0) (ku.1 h1);rw[hq];rfl
  rw[hm,x8];cases E5 (Fg l s).2 (o8 c.2.2)
  case true=>rfl
  simp only[o6];refine fU (vJ (p:=b7i l.1 (Fg l s).1 c.2.2) c.2.2.length (by have:=hc.nm;omega) PUnit.unit (λj hj=>?_) ?_) ?_
  rotate_left 2
  .cases ae c.2.2.length (b7i l.1 (Fg l s).1 c.2.2)<;>rfl
  .have e:=fO hj;simp only[V6 e,o7,I5,e,x8];rw[Oo l (by have:=hc.nv _ (O5 hj);omega),x8];simp only[b7i,e];cases o9 (Xi l.1 (Fg l s).1 c.2.2[j]).2 0<;>rfl
  .rw[V5];rfl
 .rw[hb,hs];rfl
def sW(r:Int×Int)(t:Int):Bool:=l7 (zI r) (l7 (J8 r.1 t) (E5 t r.2) false) false
theorem Bg(r:Int×Int)(t:Int):je r t=some (sW r t):=by
 unfold je sW;rw[Qj,x8];cases zI r
 .rfl
 cases J8 r.1 t<;>rfl
theorem Un(r:Int×Int)(t:Int):Ip r t=some (sW r t):=Bg r t
section
variable (on:Nat->Bool) (par:Nat->Int)
def vF(i:Nat):Nat:=((List.range i).filter on).length
def DY(i:Nat):Int:=if on i=true then(vF on i:Int)else if h:0<=par i/\par i<(i:Int)then DY (par i).toNat else -1
termination_by i
decreasing_by omega
def anc(i:Nat):Int:=if 0<=par i/\par i<(i:Int)then DY on par (par i).toNat else -1
theorem XE(i:Nat):DY on par i=if on i=true then(vF on i:Int)else anc on par i:=by
 rw[DY];unfold anc;by_cases h:on i=true
 .rw[if_pos h,if_pos h]
 .rw[if_neg h,if_neg h];by_cases h2:0<=par i/\par i<(i:Int)
  .rw[dif_pos h2,if_pos h2]
  .rw[dif_neg h2,if_neg h2]
def onL(n:Nat):d4K:=(List.range n).filter on
theorem Ih(i:Nat):onL on (i+1)=onL on i++(bif on i then[i]else[]):=by unfold onL;rw[eP,lT];rw[show List.filter on [i]=bif on i then[i]else[] by rw[Y7];cases on i<;>rfl]
theorem Jf(i:Nat):(onL on i).length<=i:=by have:=bz on (List.range i);unfold onL;simpa using this
theorem a9c{n p:Nat}(hp:p<n)(h:on p=true):(onL on n)[vF on p]? =some p:=by
 induction n with
 |zero=>omega|succ n ih=>
  rw[Ih];by_cases hq:p=n
  .subst hq;rw[h,H5 (by unfold vF onL;omega)];unfold vF onL;simp
  .have:=ih o5;rw[N8 (aO.1 this).1];exact this
theorem VF(h:i∈onL on n):i<n/\on i=true:=by unfold onL at h;obtain⟨h1,h2⟩:=Y8.1 h;exact⟨X7.1 h1,h2⟩
end
def castL(l:d4K):d4I:=l.map λ(i:Nat)=>(i:Int)
theorem a9Q{l:d4K}{i a:Nat}(h:l[i]? =some a):(castL l)[i]? =some (a:Int):=by unfold castL;rw[S9,h];rfl
theorem a1h{rs:List bf}{on:Nat->Bool}{f:d4I×d4I×d4I×Int->Option ((d4I×d4I×d4I×Int)⊕(d4I×d4I))}(hl:rs.length<=1000)
  (hin:∀(i:Nat) (r:bf) (A B C:d4I),rs[i]? =some r->f (A,B,C,(i:Int))=l9 (l7 (J8 0 r.2.2.1) (l7 (E5 r.2.2.1 (i:Int)) (l9 (G9 C r.2.2.1) λ(x_2:Int)=>l9 (X8 C (U8 r.2.2.1)) λ(x:Int)=>some x) (some (-1))) (some (-1))) λ(x_2:Int)=>
   l9 (G9 C (i:Int)) λ(x_3:Int)=>l9 (X8 C (U8 (i:Int))) λ(x_4:Int)=>l7 (on i) (l9 (G9 (aW C (U8 (i:Int)) x_2) (i:Int)) λ(x_6:Int)=>l9 (X8 (aW C (U8 (i:Int)) x_2) (U8 (i:Int))) λ(x_7:Int)=>l9 (dB A [(i:Int)]) λ(x_8:d4I)=>l9 (dB B [x_2]) λ(x_9:d4I)=>
     some (.inl (x_8,x_9,aW (aW C (U8 (i:Int)) x_2) (U8 (i:Int)) (o8 A),C9 .i64 (i:Int) 1))) (some (.inl (A,B,aW C (U8 (i:Int)) x_2,C9 .i64 (i:Int) 1))))
  (hend:∀(A B C:d4I),f (A,B,C,(rs.length:Int))=some (.inr (A,B))):
  aX f ([],[],List.replicate rs.length 0,0)=some (castL (onL on rs.length),(onL on rs.length).map (anc on λi=>match rs[i]? with|some r=>r.2.2.1|none=>-1)):=by
 obtain⟨par,hpar⟩:∃par:Nat->Int,par=λi=>match rs[i]? with|some r=>r.2.2.1|none=>-1:=⟨_,rfl⟩
 rw[←hpar];obtain⟨e,h1,h2⟩:=jg (f:=f) (s:=([],[],List.replicate rs.length 0,0)) (λx=>∃i:Nat,x=(castL (onL on i),(onL on i).map (anc on par),pd ((List.range i).map (DY on par)) (rs.length -i),(i:Int))/\i<=rs.length)
  (λe=>e=(castL (onL on rs.length),(onL on rs.length).map (anc on par))) (λx=>rs.length -x.2.2.2.toNat) ⟨0,by simp[onL,castL,pd],o5⟩ aH (by
  rintro x ⟨i,rfl,hi⟩;by_cases h:i<rs.length
  .left;have e:=fO h;have hp:par i=rs[i].2.2.1:=by rw[hpar];simp only[e]
   obtain⟨p,hpp⟩:∃p:Int,p=par i:=⟨_,rfl⟩;have hp' :rs[i].2.2.1=p:=by rw[hpp,hp]
   have hlen:((List.range i).map (DY on par)).length=i:=A7;have hol:=Jf on i;obtain⟨m,hm⟩:∃m,rs.length -i=m+1:=⟨rs.length -i -1,o5⟩;have hanc:l9 (l7 (J8 0 p) (l7 (E5 p (i:Int)) (l9 (G9 (pd ((List.range i).map (DY on par)) (m+1)) p) λ(x_2:Int)=>l9 (X8 (pd ((List.range i).map (DY on par)) (m+1)) (U8 p)) λ(x:Int)=>some x) (some (-1))) (some (-1))) (λx=>some x)=some (anc on par i):=by
    unfold anc;rw[←hpp];by_cases h0:0<=p
    .rw[af h0];by_cases h1:p<(i:Int)
     .have hk:p.toNat<i:=o5;have hg:(pd ((List.range i).map (DY on par)) (m+1))[p.toNat]? =some (DY on par p.toNat):=by
       unfold pd;rw[N8 aH,FY _ _ hk]
      rw[V7 h1,if_pos ⟨h0,h1⟩];simp only[o7];rw[show G9 (pd ((List.range i).map (DY on par)) (m+1)) p=some (DY on par p.toNat) by unfold G9;rw[if_pos h0];exact hg,x8,show X8 (pd ((List.range i).map (DY on par)) (m+1)) (U8 p)=some (DY on par p.toNat)from hg];rfl
     .rw[O6 o5,if_neg o5];rfl
    .rw[aA o5,if_neg o5];rfl
   rw[lm]at hanc;refine⟨(castL (onL on (i+1)),(onL on (i+1)).map (anc on par),pd ((List.range (i+1)).map (DY on par)) (rs.length -(i+1)),((i+1:Nat):Int)),?_,⟨i+1,rfl,h⟩,by simp;omega⟩;rw[hin i _ _ _ _ e,hm,hp',hanc,x8,iy o5,show rs.length -(i+1)=m by omega,Ih,eP,bJ];have q1:=a2g ((List.range i).map (DY on par)) m;have q2:=a2h ((List.range i).map (DY on par)) m;have q3:=a6V ((List.range i).map (DY on par)) m (anc on par i);have q4:=Qv ((List.range i).map (DY on par)) m (anc on par i);have q5:=Ph ((List.range i).map (DY on par)) m (anc on par i);have q6:=Uk ((List.range i).map (DY on par)) m (anc on par i) (o8 (castL (onL on i)));rw[hlen]at q1 q2 q3 q4 q5 q6;rw[q1,x8,q2,x8,q3];have hna:(List.map (DY on par) (List.range i++[i]))=(List.range i).map (DY on par)++[if on i=true then(vF on i:Int)else anc on par i]:=by rw[bJ,List.map_singleton,XE]
   rw[hna];cases hon:on i
   .simp[castL]
   .simp only[o7,cond_true];rw[q4,x8,q5,x8,nT _ (by simp[castL];omega),x8,nT _ aH,x8,q6];simp[castL,o8,vF,onL]
  .right;have:i=rs.length:=o5;subst this;exact⟨_,hend _ _ _,rfl⟩)
 rw[h1,h2]
def onR(s:F5)(d t:Int)(i:Nat):Bool:=match s.2.2.2.2[i]? with|some r=>l7 (o9 r.2.1 d) (sW r.2.2.2.2.1 t) false|none=>false
def BM(s:F5)(i:Nat):Int:=match s.2.2.2.2[i]? with|some r=>r.2.2.1|none=>-1
def su(s:F5)(d t:Int):d4K:=onL (onR s d t) s.2.2.2.2.length
def a0Z(s:F5)(i:Nat):Int:=match s.2.2.2.2[i]? with|some r=>r.2.2.2.1|none=>0
def dF(s:F5)(d t:Int):d4I×d4I×d4I:=(castL (su s d t),(su s d t).map (anc (onR s d t) (BM s)),(su s d t).map (a0Z s))
theorem b9K(h:s.2.2.2.2[i]? =some r)(d t:Int):wC r d t=some (onR s d t i):=by unfold wC onR;rw[h,Bg];simp only;cases o9 r.2.1 d<;>rfl
theorem a2t(h:s.2.2.2.2.length<=1000)(d t:Int):uT s.2.2.2.2 (d,t)=some (castL (su s d t),(su s d t).map (anc (onR s d t) (BM s))):=by
 unfold uT;rw[show tq (o8 s.2.2.2.2) (0:Int)=some (List.replicate s.2.2.2.2.length 0) by unfold tq;rw[if_pos (by simp[o8];omega)];simp[o8],x8,lm];refine a1h h (λi r A B C hr=>?_) (λA B C=>?_)
 .simp only[V6 hr,o7,I5,hr,x8];rw[b9K hr];rfl
 .simp only[V5];rfl
theorem zn{d t:Int}(h:i∈su s d t):i<s.2.2.2.2.length/\onR s d t i=true:=VF _ h
theorem b1e(h:s.2.2.2.2.length<=1000)(d t:Int):yR s d t=some (dF s d t):=by
 have hl:=Jf (onR s d t) s.2.2.2.2.length;unfold yR;rw[a2t h,x8];refine fU (b2i (castL (su s d t)) (λ(k:Int)=>a0Z s k.toNat) (F:=id) (by unfold castL su;simp;omega) (λi a acc ha hacc=>?_) (λacc=>?_)) ?_
 rotate_left 2
 .rw[x8];unfold dF castL;rw[xJ];rfl
 .simp only[V6 ha,o7,I5 (castL (su s d t)),ha,x8];rw[show X8 (castL (su s d t)) (U8 (i:Int))=some a from ha,x8];obtain⟨k,hk,rfl⟩:∃k,k∈su s d t/\(k:Int)=a:=by
   have:=mM ha;unfold castL at this;exact O9.1 this
  have hlt:=zn hk;have e:=fO hlt.1;have hil:=(aO.1 ha).1;simp only[castL,H9]at hil;rw[I5,e,x8,nT _ (by unfold su at hil;omega),x8];simp only[a0Z,Y3,e]
 .simp only[V5];rfl
theorem b0y{l:d4K}(hl:l.Pairwise (·< ·)){i j a:Nat}(hi:l[i]? =some a)(hj:l[j]? =some a):i=j:=by
 obtain⟨h1,h2⟩:=aO.1 hi;obtain⟨h3,h4⟩:=aO.1 hj;rcases Nat.lt_trichotomy i j with h|h|h
 .have:=dM.1 hl i j h1 h3 h;omega
 .exact h
 .have:=dM.1 hl j i h3 h1 h;omega
theorem a6Q(on:Nat->Bool)(n:Nat):(onL on n).Pairwise (·< ·):=List.Pairwise.filter _ qQ
end
section
def v_(par prio:d4I)(i:Nat):d4M:=match par[i]?,prio[i]? with
 |some p,some q=>l7 (E5 p (-1)) (some 9) (l7 (J8 (i:Int) p) (some 9) (l7 (E5 q 0) (some 3) (l7 (E5 9 q) (some 3) none)))|_,_=>none
def RF(par prio:d4I):Int:=l7 (D9 (o9 (o8 par) (o8 prio))) 2 (l7 (E5 8 (o8 par)) 4 (match ae par.length (v_ par prio)with|some r=>r|none=>0))
theorem b6D(par prio:d4I):xM par prio=some (RF par prio):=by
 unfold xM RF;cases h1:o9 (o8 par) (o8 prio)
 .rfl
 simp only[G6,o6];cases h2:E5 8 (o8 par)
 case true=>rfl
 simp only[o6];have hl:par.length=prio.length:=by rw[Z5]at h1;simp only[o8]at h1;omega
 refine fU (vJ (p:=v_ par prio) par.length (by rw[gU]at h2;simp only[o8]at h2;omega) PUnit.unit (λk hk=>?_) ?_) ?_
 rotate_left 2
 .cases ae par.length (v_ par prio)<;>rfl
 .have e:=fO hk;have e2:=fO (show k<prio.length by omega);simp only[V6 e,o7,I5,e,e2,x8,v_];cases E5 par[k] (-1)
  case true=>rfl
  cases J8 (k:Int) par[k]
  case true=>rfl
  cases E5 prio[k] 0
  case true=>rfl
  cases E5 9 prio[k]<;>rfl
 .rw[V5];rfl
theorem Lc{par prio:d4I}(h:RF par prio=0):par.length=prio.length/\par.length<=8/\∀(i:Nat) (p:Int),par[i]? =some p->-1<=p/\p<(i:Int):=by
 unfold RF at h;cases h1:o9 (o8 par) (o8 prio)<;>rw[h1]at h
 .cases h
 simp only[G6,o6]at h;cases h2:E5 8 (o8 par)<;>rw[h2]at h
 case true=>cases h
 simp only[o6]at h;have hl:par.length=prio.length:=by rw[Z5]at h1;simp only[o8]at h1;omega
 refine⟨hl,by rw[gU]at h2;simp only[o8]at h2;omega,λi p hp=>?_⟩;have hi:=(aO.1 hp).1;cases hf:ae par.length (v_ par prio)with
 |some r=>
  rw[hf]at h;simp only at h;obtain⟨k,hk,hr⟩:=gZ hf;unfold v_ at hr;split at hr
  .subst h;rename_i a b _ _;cases c1:E5 a (-1)<;>rw[c1]at hr<;>try (cases hr;done)
   cases c2:J8 (k:Int) a<;>rw[c2]at hr<;>try (cases hr;done)
   cases c3:E5 b 0<;>rw[c3]at hr<;>try (cases hr;done)
   cases c4:E5 9 b<;>rw[c4]at hr<;>cases hr
  .cases hr
 |none=>
  have:=oJ hf i hi;unfold v_ at this;rw[hp,fO (show i<prio.length by omega)]at this;simp only at this;cases c1:E5 p (-1)<;>rw[c1]at this
  case true=>cases this
  cases c2:J8 (i:Int) p<;>rw[c2]at this
  case true=>cases this
  rw[gU]at c1;rw[Fa]at c2;exact⟨c1,c2⟩
def a3Z(par:d4I)(at' :Int)(i:Nat):Bool:=match par[i]? with|some p=>o9 p at'|none=>false
def Fb(par:d4I)(at' :Int):d4K:=onL (a3Z par at') par.length
variable {par:d4I}
theorem a3q(h:par.length<=1000)(at' :Int):xK par at' =some (castL (Fb par at')):=by
 unfold xK;rw[lm];obtain⟨e,h1,h2⟩:=jg (f:=λ(x:d4I×Int)=>l7 (E5 x.2 (o8 par)) (l9 (G9 par x.2) λ(x_1:Int)=>l7 (o9 x_1 at') (l9 (dB x.1 [x.2]) λ(x_2:d4I)=>some (.inl (x_2,C9 .i64 x.2 1))) (some (.inl (x.1,C9 .i64 x.2 1)))) (some (.inr x.1)))
  (s:=([],0)) (λx=>∃i:Nat,x=(castL (onL (a3Z par at') i),(i:Int))/\i<=par.length) (λe=>e=castL (Fb par at')) (λx=>par.length -x.2.toNat) ⟨0,rfl,o5⟩ aH (by
  rintro x ⟨i,rfl,hi⟩;by_cases hlt:i<par.length
  .left;have e:=fO hlt;have hol:=Jf (a3Z par at') i;refine⟨(castL (onL (a3Z par at') (i+1)),((i+1:Nat):Int)),?_,⟨i+1,rfl,hlt⟩,by simp;omega⟩;simp only[V6 e,o7,I5,e,x8];rw[iy o5,nT _ (by simp[castL];omega),Ih];have hon:a3Z par at' i=o9 par[i] at' :=by unfold a3Z;rw[e]
   rw[hon];cases o9 par[i] at'<;>simp[castL]
  .right;have:i=par.length:=o5;subst this;exact⟨_,by rw[V5];rfl,rfl⟩)
 rw[h1,h2]
theorem a1Q{at' :Int}{i:Nat}(h:i∈Fb par at'):i<par.length/\par[i]? =some at' :=by obtain⟨h1,h2⟩:=VF _ h;refine⟨h1,?_⟩;unfold a3Z at h2;rw[fO h1]at h2 ⊢;simp only[Z5]at h2;rw[h2]
def bG(oc pr:Int->Int)(acc:d4I)(a:Int):d4I:=l7 (o9 (oc a) (-1)) acc (match acc with
 |[]=>[a]
 |b::r=>l7 (E5 (pr b) (pr a)) [a] (l7 (o9 (pr a) (pr b)) (b::r++[a]) (b::r)))
theorem b1I(oc pr:Int->Int){acc:d4I}{a x:Int}(h:x∈bG oc pr acc a):x∈acc\/x=a:=by
 unfold bG at h;cases h1:o9 (oc a) (-1)<;>rw[h1]at h
 case true=>exact .inl h
 simp only[o6]at h;cases acc with
 |nil=>exact .inr (by simpa using h)|cons b r=>
  simp only at h;cases h2:E5 (pr b) (pr a)<;>rw[h2]at h
  .simp only[o6]at h;cases h3:o9 (pr a) (pr b)<;>rw[h3]at h
   .exact .inl h
   .simp only[o7]at h;rcases E9.1 h with h|h
    .exact .inl h
    .exact .inr (by simpa using h)
  .exact .inr (by simpa using h)
theorem b9w(oc pr:Int->Int)(acc:d4I)(a:Int):(bG oc pr acc a).length<=acc.length+1:=by
 unfold bG;cases o9 (oc a) (-1)
 case true=>simp
 simp only[o6];cases acc with
 |nil=>simp|cons b r=>
  simp only;cases E5 (pr b) (pr a)
  .cases o9 (pr a) (pr b)<;>simp
  .simp
def Oh(oc pr:Int->Int)(l:d4I):d4I:=l.foldl (bG oc pr) []
theorem a3m(oc pr:Int->Int):∀(l acc:d4I) (x:Int),x∈l.foldl (bG oc pr) acc->x∈acc\/x∈l
 |[],acc,x,h=> .inl h|a::l,acc,x,h=>by
  rcases a3m oc pr l _ x h with h|h
  .rcases b1I oc pr h with h|h
   .exact .inl h
   .exact .inr (by simp[h])
  .exact .inr (by simp[h])
variable {x:Int}
theorem Qe{oc pr:Int->Int}{l:d4I}(h:x∈Oh oc pr l):x∈l:=by
 rcases a3m oc pr l [] x h with h|h
 .cases h
 .exact h
theorem Yj{oc oc' pr:Int->Int} :∀(l acc:d4I),(∀x∈l,oc x=oc' x)->l.foldl (bG oc pr) acc=l.foldl (bG oc' pr) acc
 |[],acc,_=>rfl|a::l,acc,h=>by rw[dA,dA,Yj l _ λx hx=>h x (by simp[hx])];congr 1;unfold bG;rw[h a A7]
def chF(oc pr:Int->Int)(l:d4I):Int:=match Oh oc pr l with|[]=>-1|[b]=>oc b|_=>-2
theorem a0u{oc oc' pr:Int->Int}{l:d4I}(h:∀x∈l,oc x=oc' x):chF oc pr l=chF oc' pr l:=by
 have e:Oh oc pr l=Oh oc' pr l:=Yj l [] h;unfold chF;rw[e];cases hb:Oh oc' pr l with
 |nil=>rfl|cons b r=>
  cases r with
  |nil=>exact h b (Qe (oc:=oc') (pr:=pr) (by rw[hb];simp))|cons c r=>rfl
section
variable (par prio:d4I) (ap:List Bool)
def prF(i:Int):Int:=prio.getD i.toNat 0
def apF(i:Int):Bool:=ap.getD i.toNat false
def ocF:Nat->Int->Int
 |0,_=>-1|k+1,i=>l7 (o9 (chF (ocF k) (prF prio) (castL (Fb par i))) (-1)) (l7 (apF ap i) i (-1)) (chF (ocF k) (prF prio) (castL (Fb par i)))
variable (hv:RF par prio=0)
include hv
theorem Zd{i x:Int}(h:x∈castL (Fb par i)):i<x/\x<(par.length:Int)/\0<=x:=by unfold castL at h;obtain⟨k,hk,rfl⟩:=O9.1 h;obtain⟨h1,h2⟩:=a1Q hk;have:=(Lc hv).2.2 k i h2;omega
theorem a0R:∀(k k' :Nat) (i:Int),(par.length:Int) -i<=k->(par.length:Int) -i<=k' ->i<par.length->ocF par prio ap k i=ocF par prio ap k' i
 |0,_,i,h,_,h2=>by omega|_+1,0,i,_,h,h2=>by omega|k+1,k' +1,i,h,h',h2=>by
  unfold ocF;have:chF (ocF par prio ap k) (prF prio) (castL (Fb par i))=chF (ocF par prio ap k') (prF prio) (castL (Fb par i)):=
   a0u λx hx=>by have:=Zd par prio hv hx;exact a0R k k' x o5 o5 o5
  rw[this]
end
end
section
theorem XI{prio:d4I}{i:Int}(h0:0<=i)(h:i<o8 prio):G9 prio i=some (prF prio i):=by obtain⟨x,hx,_⟩:=qA h0 h;rw[hx];have:=(rq hx).2.2.2;unfold prF;rw[zM,this];rfl
theorem a9M{f:d4I×Int->Option ((d4I×Int)⊕d4I)}(oc:Int->Int)(prio:d4I)(l:d4I)(hl:l.length<=1000)(hr:∀x∈l,0<=x/\x<o8 prio)
  (hin:∀(i:Nat) (a:Int) (acc:d4I),l[i]? =some a->acc.length<=1000->(∀x∈acc,0<=x/\x<o8 prio)->0<=a->a<o8 prio->f (acc,(i:Int))=some (.inl (bG oc (prF prio) acc a,C9 .i64 (i:Int) 1)))
  (hend:∀acc,f (acc,(l.length:Int))=some (.inr acc)):aX f ([],0)=some (Oh oc (prF prio) l):=by
 refine(AV l (bG oc (prF prio)) (λb i=>(b,i)) (λb=>b) (λi acc=>acc.length<=i/\∀x∈acc,0<=x/\x<o8 prio) (b:=[]) o5 ⟨A7,A7⟩ (λi a acc ha hi hI=>?_) (λacc hI=>hend acc)).1;have hlt:=(aO.1 ha).1;have ham:=hr a (mM ha);rw[hin i a acc ha o5 hI.2 ham.1 ham.2,iy o5];refine⟨rfl,by have:=b9w oc (prF prio) acc a;omega,λx hx=>?_⟩;rcases b1I _ _ hx with h|h
 .exact hI.2 x h
 .rw[h];exact ham
section
variable (par prio:d4I) (ap:List Bool) (hv:RF par prio=0) (hap:ap.length=par.length)
def OC(i:Int):Int:=ocF par prio ap (par.length+1) i
def chS(at' :Int):Int:=chF (OC par prio ap) (prF prio) (castL (Fb par at'))
include hv in
theorem c3y{i:Int}(h0:-1<=i)(h:i<par.length):OC par prio ap i=l7 (o9 (chS par prio ap i) (-1)) (l7 (apF ap i) i (-1)) (chS par prio ap i):=by
 unfold OC chS;rw[ocF];have:chF (ocF par prio ap par.length) (prF prio) (castL (Fb par i))=chF (OC par prio ap) (prF prio) (castL (Fb par i)):=
  a0u λx hx=>by have:=Zd par prio hv hx;exact a0R par prio ap hv _ _ x o5 o5 o5
 rw[this]
include hv in
theorem b2r(i:Int):(castL (Fb par i)).length<=8:=by have h1:=Jf (a3Z par i) par.length;have h2:=(Lc hv).2.1;unfold castL Fb;rw[H9];omega
include hv in
theorem b0l{i x:Int}(h:x∈castL (Fb par i)):0<=x/\x<o8 prio:=by have:=Zd par prio hv h;have h2:=(Lc hv).1;simp only[o8];omega
include hv in
theorem b6u(arr:d4I)(i:Int)(hA:∀x∈castL (Fb par i),G9 arr x=some (OC par prio ap x)):wM (par,prio,arr) i=some (Oh (OC par prio ap) (prF prio) (castL (Fb par i))):=by
 unfold wM;rw[a3q (by have:=(Lc hv).2.1;simp only;omega),x8,lm];refine a9M (OC par prio ap) prio _ (by have:=b2r par prio hv i;omega) (λx hx=>b0l par prio hv hx) (λk a acc ha hl hacc h0 h1=>?_) (λacc=>?_)
 .simp only[V6 ha,o7,I5 (castL (Fb par i)),ha,x8];rw[show X8 (castL (Fb par i)) (U8 (k:Int))=some a from ha,x8,hA a (mM ha),x8];unfold bG;cases o9 (OC par prio ap a) (-1)
  case true=>rfl
  simp only[o6,XI h0 h1,x8];cases acc with
  |nil=>simp only[O6 (show o8 ([]:d4I)<=0 by simp[o8]),o6,x8,X0 (show o8 ([]:d4I)=0 from rfl),o7,nT a (show([]:d4I).length<=1000000 by simp)];rfl|cons b r=>
   have hb:=hacc b A7;simp only[V7 (show(0:Int)<o8 (b::r) by simp[o8]<;>omega),o7,show G9 (b::r) 0=some b from rfl,show X8 (b::r) (U8 0)=some b from rfl,x8,XI hb.1 hb.2];cases E5 (prF prio b) (prF prio a)
   .simp only[o6,x8,U2 (show o8 (b::r)≠0 by simp[o8]<;>omega),show G9 (b::r) 0=some b from rfl,show X8 (b::r) (U8 0)=some b from rfl,XI hb.1 hb.2];cases o9 (prF prio a) (prF prio b)
    .rfl
    .rw[o7,o7,nT _ o5];rfl
   .simp only[o7,show pX 0 0 (o8 (b::r))=true by simp[pX,o8]<;>omega,show mP (b::r) (U8 0) (U8 0)=[]from rfl,x8,X0 (show o8 ([]:d4I)=0 from rfl),nT a (show([]:d4I).length<=1000000 by simp)];rfl
 .simp only[V5];rfl
include hv in
theorem a9a(arr:d4I)(i:Int)(hA:∀x∈castL (Fb par i),G9 arr x=some (OC par prio ap x)):jm (par,prio,arr) i=some (chS par prio ap i):=by
 unfold jm chS chF;rw[b6u par prio ap hv arr i hA,x8];have hsub:∀x∈Oh (OC par prio ap) (prF prio) (castL (Fb par i)),G9 arr x=some (OC par prio ap x):=λx hx=>hA x (Qe hx);generalize Oh (OC par prio ap) (prF prio) (castL (Fb par i))=b at*;match b,hsub with
 |[],_=>rfl|[x],hsub=>simp only[U2 (show o8 [x]≠0 by simp[o8]),X0 (show o8 [x]=1 from rfl),o6,o7,show G9 [x] 0=some x from rfl,show X8 [x] (U8 0)=some x from rfl,x8,hsub x A7]|x::y::r,_=>rw[U2 (by simp[o8];omega),U2 (by simp[o8];omega)];rfl
include hv hap in
theorem a4I:∃arr,xN par prio ap=some arr/\∀x,0<=x->x<(par.length:Int)->G9 arr x=some (OC par prio ap x):=by
 have h8:=(Lc hv).2.1;unfold xN;rw[show tq (o8 par) (0:Int)=some (List.replicate par.length 0) by unfold tq;rw[if_pos (by simp[o8];omega)];simp[o8],x8];have key:=jg (f:=λ(x:mi×Int)=>l7 (J8 0 x.2) (l9 (jm x.1 x.2) λ(x_1:Int)=>l9 (G9 x.1.2.2 x.2) λ(x_2:Int)=>l9 (X8 x.1.2.2 (U8 x.2)) λ(x_3:Int)=>
   l9 (G9 (aW x.1.2.2 (U8 x.2) x_1) x.2) λ(x_4:Int)=>l9 (X8 (aW x.1.2.2 (U8 x.2) x_1) (U8 x.2)) λ(x_5:Int)=>l7 (o9 x_5 (-1)) (l9 (G9 ap x.2) λ(x_6:Bool)=>l7 x_6 (l9 (G9 (aW x.1.2.2 (U8 x.2) x_1) x.2) λ(x_7:Int)=>
    l9 (X8 (aW x.1.2.2 (U8 x.2) x_1) (U8 x.2)) λ(x_8:Int)=>some (.inl ((x.1.1,x.1.2.1,aW (aW x.1.2.2 (U8 x.2) x_1) (U8 x.2) x.2),G8 .i64 x.2 1))) (some (.inl ((x.1.1,x.1.2.1,aW x.1.2.2 (U8 x.2) x_1),G8 .i64 x.2 1))))
     (some (.inl ((x.1.1,x.1.2.1,aW x.1.2.2 (U8 x.2) x_1),G8 .i64 x.2 1)))) (some (.inr x.1)))
  (s:=((par,prio,List.replicate par.length 0),G8 .i64 (o8 par) 1)) (λx=>∃(arr:d4I) (i:Int),x=((par,prio,arr),i)/\-1<=i/\i<par.length/\arr.length=par.length/\∀x,i<x->x<(par.length:Int)->G9 arr x=some (OC par prio ap x))
  (λy=>∃arr:d4I,y=(par,prio,arr)/\∀x,0<=x->x<(par.length:Int)->G9 arr x=some (OC par prio ap x)) (λx=>(x.2+1).toNat) ?_ ?_ ?_
 .obtain⟨y,k1,arr,rfl,k3⟩:=key;refine⟨arr,(um k1 _).trans rfl,k3⟩
 .exact⟨_,_,rfl,by rw[V4 (by unfold kQ o8;omega)];simp[o8];omega,by rw[V4 (by unfold kQ o8;omega)];simp only[o8];omega,A7,λx h1 h2=>by rw[V4 (by unfold kQ o8;omega)]at h1;simp only[o8]at h1;omega⟩
 .rw[V4 (by unfold kQ o8;omega)];simp[o8];omega
 .rintro x ⟨arr,i,rfl,h1,h2,hlen,hA⟩;by_cases h0:0<=i
  .left;obtain⟨k,rfl⟩:∃k:Nat,i=(k:Int):=⟨i.toNat,o5⟩;have hk:k<arr.length:=o5;have hka:k<ap.length:=o5;have e:=fO hk;have ea:=fO hka;have hch:=a9a par prio ap hv arr (k:Int) (λx hx=>by
    have:=Zd par prio hv hx;exact hA x this.1 this.2.1)
   have hs:∀v:Int,G9 (aW arr (U8 (k:Int)) v) (k:Int)=some v:=λv=>by rw[I5];show(arr.set k v)[k]? =some v;rw[iE hk]
   have hs2:∀v:Int,X8 (aW arr (U8 (k:Int)) v) (U8 (k:Int))=some v:=λv=>by have:=hs v;rw[I5]at this;exact this
   have hsub:G8 .i64 (k:Int) 1=(k:Int) -1:=V4 P6;have hoc:=c3y par prio ap hv (i:=(k:Int)) o5 o5;have hapk:apF ap (k:Int)=ap[k]:=by unfold apF;rw[Y3,zM,ea];rfl
   rw[hapk]at hoc;refine⟨((par,prio,arr.set k (OC par prio ap (k:Int))),(k:Int) -1),?_,⟨_,_,rfl,o5,o5,by simp[hlen],λx hx1 hx2=>?_⟩,by simp<;>omega⟩
   .simp only[af h0,o7,hch,x8,I5 arr,e,show X8 arr (U8 (k:Int))=some arr[k]from e,hs,hs2,I5 ap,ea,hsub];rw[hoc];cases hq:o9 (chS par prio ap (k:Int)) (-1)
    .simp only[o6];rfl
    .simp only[o7];cases ap[k]
     .rw[Z5.1 hq];rfl
     .simp only[o7];show some (Sum.inl ((par,prio,(arr.set k _).set k _),_))=_;rw[List.set_set]
   .unfold G9
    rw[if_pos o5];by_cases hxk:x=(k:Int)
    .rw[hxk,Y3,iE hk]
    .have:=hA x o5 hx2;unfold G9 at this;rw[if_pos o5]at this;rw[U0,if_neg o5];exact this
  .right;exact⟨(par,prio,arr),by rw[aA o5];rfl,arr,rfl,λx hx1 hx2=>hA x o5 hx2⟩
end
def KT(par prio:d4I)(ap:List Bool):Int:=l7 (o9 (RF par prio) 0) (l7 (o9 (o8 ap) (o8 par)) (chS par prio ap (-1)) (-1)) (-1)
theorem b0X(par prio:d4I)(ap:List Bool):Aw par prio ap=some (KT par prio ap):=by
 unfold Aw KT;rw[b6D,x8];cases hv:o9 (RF par prio) 0
 .rfl
 simp only[G6,o6,o7];cases hl:o9 (o8 ap) (o8 par)
 .rfl
 simp only[G6,o6,o7];have hv' :=Z5.1 hv;have hl' :ap.length=par.length:=by rw[Z5]at hl;simp only[o8]at hl;omega
 obtain⟨arr,h1,h2⟩:=a4I par prio ap hv' hl';rw[h1,x8,lm];exact a9a par prio ap hv' arr (-1) λx hx=>by have:=Zd par prio hv' hx;exact h2 x this.2.2 this.2.1
variable {l:d4I}{i:Nat}
theorem b0h(h:i<l.length):G9 l (i:Int)=some (hg l i):=by rw[I5];exact yV h
variable {j:Nat}
theorem a3T(hi:i<l.length)(hj:j<l.length):eY l (i:Int) (j:Int)=some (E5 (hg l i) (hg l j)):=by unfold eY;rw[b0h hi,x8,b0h hj,x8]
theorem a3U(hi:i<l.length)(hj:j<l.length):gp l (i:Int) (j:Int)=some (swp l i j):=by
 unfold gp;have e1:X8 l (U8 (i:Int))=some (hg l i):=yV hi;have e2:X8 l (U8 (j:Int))=some (hg l j):=yV hj;have hj2:j<(aW l (U8 (i:Int)) (hg l j)).length:=by show j<(l.set i (hg l j)).length;simp[hj]
 have e3:X8 (aW l (U8 (i:Int)) (hg l j)) (U8 (j:Int))=some (hg (aW l (U8 (i:Int)) (hg l j)) j):=yV hj2;rw[b0h hj,x8,e2,x8,b0h hi,x8,e1,x8,x8,x8,b0h hj2,x8,e3,x8];rfl
theorem ZG{l m:d4I}(h:l.Perm m):l.length=m.length:=h.length_eq
theorem d1K(hl:l.length<=100000)(hj:j<l.length)(h:UW l j):∃l',xA l (j:Int)=some l' /\NZ l' l'.length/\l'.Perm l:=by
 unfold xA;have key:=jg (f:=λ(x:d4I×Int)=>l7 (o9 (cZ .i64 (G8 .i64 x.2 1) 2) x.2) (some (.inr x.1)) (l9 (eY x.1 x.2 (cZ .i64 (G8 .i64 x.2 1) 2)) λ(x_1:Bool)=>l7 (D9 x_1) (some (.inr x.1))
   (l9 (gp x.1 (cZ .i64 (G8 .i64 x.2 1) 2) x.2) λ(x_2:d4I)=>some (.inl (x_2,cZ .i64 (G8 .i64 x.2 1) 2)))))
  (s:=(l,(j:Int))) (λx=>∃(m:d4I) (k:Nat),x=(m,(k:Int))/\k<m.length/\UW m k/\m.Perm l) (λm=>NZ m m.length/\m.Perm l) (λx=>x.2.toNat) ⟨l,j,rfl,hj,h,List.Perm.refl _⟩ aH (by
  rintro x ⟨m,k,rfl,hk,hu,hp⟩;have hm:=ZG hp;by_cases h0:k=0
  .subst h0;exact .inr ⟨m,rfl,YU hu (.inl rfl),hp⟩
  have hpar:cZ .i64 (G8 .i64 (k:Int) 1) 2=(((k -1) / 2:Nat):Int):=by rw[V4 P6,Cf (by rw[kH o5];unfold kQ;omega),kH o5];omega
  simp only[hpar];rw[U2 o5,o6,a3T hk o5,x8];cases hc:E5 (hg m k) (hg m ((k -1) / 2))
  .exact .inr ⟨m,rfl,YU hu (.inr (by rw[gU]at hc;exact hc)),hp⟩
  .rw[G6,o6,a3U o5 hk];exact .inl ⟨(swp m ((k -1) / 2) k,(((k -1) / 2:Nat):Int)),rfl,⟨_,_,rfl,by rw[MV];omega,a3S hu o5 hk (ku.1 hc),(PQ o5 hk).trans hp⟩,by simp;omega⟩)
 obtain⟨m,k1,k2,k3⟩:=key;exact⟨m,(um k1 _).trans rfl,k2,k3⟩
theorem a0G(hl:l.length<=1000)(h:NZ l l.length)(x:Int):∃l',iL l x=some l' /\NZ l' l'.length/\l'.Perm (l++[x]):=by
 unfold iL BU lL;rw[nT _ o5,x8,x8,x8];have hlen:(l++[x]).length=l.length+1:=A7;have hu:UW (l++[x]) l.length:=by
  refine⟨λk k0 k1 k2=>?_,λh0 k k0 k1 k2=>by omega⟩;have hk:k<l.length:=o5;have hga:∀i,i<l.length->hg (l++[x]) i=hg l i:=λi hi=>by unfold hg;rw[zM,zM,N8 hi]
  rw[hga k hk,hga _ o5];exact h k k0 hk
 obtain⟨m,k1,k2,k3⟩:=d1K (l:=l++[x]) (j:=l.length) o5 o5 hu;refine⟨m,?_,k2,k3⟩;rw[show G8 .i64 (o8 (l++[x])) 1=((l.length:Nat):Int) by rw[V4 (by unfold kQ o8;omega)];simp[o8],k1];rfl
theorem b6Z{n i:Nat}(hl:l.length<=100000)(hn:n<=l.length)(hi:i<l.length)(h:JQ l n i):∃b l',uP l (i:Int) (n:Int)=some (b,l')/\NZ l' n/\l'.Perm l/\l'.drop n=l.drop n:=by
 unfold uP;have key:=jg (f:=λ(x:d4I×Int)=>l7 (J8 (n:Int) (C9 .i64 (Z7 .i64 2 x.2) 1)) (some (.inr x)) (l7 (E5 (C9 .i64 (Z7 .i64 2 x.2) 1) 0) (some (.inr x)) (l7 (E5 (C9 .i64 (C9 .i64 (Z7 .i64 2 x.2) 1) 1) (n:Int))
   (l9 (eY x.1 (C9 .i64 (C9 .i64 (Z7 .i64 2 x.2) 1) 1) (C9 .i64 (Z7 .i64 2 x.2) 1)) λ(x_1:Bool)=>l7 x_1 (l9 (eY x.1 (C9 .i64 (C9 .i64 (Z7 .i64 2 x.2) 1) 1) x.2) λ(x_2:Bool)=>l7 (D9 x_2) (some (.inr x))
     (l9 (gp x.1 x.2 (C9 .i64 (C9 .i64 (Z7 .i64 2 x.2) 1) 1)) λ(x_3:d4I)=>some (.inl (x_3,C9 .i64 (C9 .i64 (Z7 .i64 2 x.2) 1) 1)))) (l9 (eY x.1 (C9 .i64 (Z7 .i64 2 x.2) 1) x.2) λ(x_2:Bool)=>l7 (D9 x_2) (some (.inr x))
     (l9 (gp x.1 x.2 (C9 .i64 (Z7 .i64 2 x.2) 1)) λ(x_3:d4I)=>some (.inl (x_3,C9 .i64 (Z7 .i64 2 x.2) 1)))))
   (l9 (eY x.1 (C9 .i64 (Z7 .i64 2 x.2) 1) x.2) λ(x_1:Bool)=>l7 (D9 x_1) (some (.inr x)) (l9 (gp x.1 x.2 (C9 .i64 (Z7 .i64 2 x.2) 1)) λ(x_2:d4I)=>some (.inl (x_2,C9 .i64 (Z7 .i64 2 x.2) 1)))))))
  (s:=(l,(i:Int))) (λx=>∃(m:d4I) (k:Nat),x=(m,(k:Int))/\k<m.length/\JQ m n k/\m.Perm l/\m.drop n=l.drop n) (λy=>NZ y.1 n/\y.1.Perm l/\y.1.drop n=l.drop n) (λx=>l.length -x.2.toNat) ⟨l,i,rfl,hi,h,List.Perm.refl _,rfl⟩ aH (by
  rintro x ⟨m,k,rfl,hk,hd,hp,hdr⟩;have hm:=ZG hp;have hc1:C9 .i64 (Z7 .i64 2 (k:Int)) 1=((2*k+1:Nat):Int):=by rw[mJ P6,Z8 P6];omega
  have hc2:C9 .i64 (((2*k+1:Nat):Int)) 1=((2*k+2:Nat):Int):=by rw[Z8 P6];omega
  have dswp:∀a b,a<n->b<n->(swp m a b).drop n=l.drop n:=λa b ha hb=>by unfold swp;rw[List.drop_set_of_lt hb,List.drop_set_of_lt ha,hdr]
  simp only[hc1,hc2];by_cases h1:n<=2*k+1
  .rw[af o5,o7];exact .inr ⟨_,rfl,FV hd (λj j0 j1 j2=>by omega),hp,hdr⟩
  rw[aA o5,o6,O6 o5,o6];by_cases h2:2*k+2<n
  .rw[V7 o5,o7,a3T o5 o5,x8];cases hc:E5 (hg m (2*k+2)) (hg m (2*k+1))
   .rw[gU]at hc;rw[o6,a3T o5 hk,x8];cases hq:E5 (hg m (2*k+1)) (hg m k)
    .rw[gU]at hq;exact .inr ⟨_,rfl,FV hd (λj j0 j1 j2=>by have:j=2*k+1\/j=2*k+2:=o5;rcases this with rfl|rfl<;>(dsimp only;omega)),hp,hdr⟩
    .rw[G6,o6,a3U hk o5];exact .inl ⟨(swp m k (2*k+1),((2*k+1:Nat):Int)),rfl,⟨_,_,rfl,by rw[MV];omega,JH hd o5 o5 o5 o5 (λj j0 j1 j2=>by
      have:j=2*k+1\/j=2*k+2:=o5;rcases this with rfl|rfl
      .exact fV _
      .exact hc) (ku.1 hq),(PQ hk o5).trans hp,dswp _ _ o5 o5⟩,by simp;omega⟩
   .rw[ku]at hc;rw[o7,a3T o5 hk,x8];cases hq:E5 (hg m (2*k+2)) (hg m k)
    .rw[gU]at hq;exact .inr ⟨_,rfl,FV hd (λj j0 j1 j2=>by have:j=2*k+1\/j=2*k+2:=o5;rcases this with rfl|rfl<;>(dsimp only;omega)),hp,hdr⟩
    .rw[G6,o6,a3U hk o5];exact .inl ⟨(swp m k (2*k+2),((2*k+2:Nat):Int)),rfl,⟨_,_,rfl,by rw[MV];omega,JH hd o5 o5 o5 o5 (λj j0 j1 j2=>by
      have:j=2*k+1\/j=2*k+2:=o5;rcases this with rfl|rfl
      .omega
      .exact fV _) (ku.1 hq),(PQ hk o5).trans hp,dswp _ _ o5 o5⟩,by simp;omega⟩
  .rw[O6 o5,o6,a3T o5 hk,x8];cases hq:E5 (hg m (2*k+1)) (hg m k)
   .rw[gU]at hq;exact .inr ⟨_,rfl,FV hd (λj j0 j1 j2=>by have:j=2*k+1:=o5;subst this;omega),hp,hdr⟩
   .rw[G6,o6,a3U hk o5];exact .inl ⟨(swp m k (2*k+1),((2*k+1:Nat):Int)),rfl,⟨_,_,rfl,by rw[MV];omega,JH hd o5 o5 o5 o5 (λj j0 j1 j2=>by have:j=2*k+1:=o5;subst this;exact fV _) (ku.1 hq),(PQ hk o5).trans hp,dswp _ _ o5 o5⟩,by simp;omega⟩)
 obtain⟨y,k1,k2,k3,k4⟩:=key;exact⟨E5 (i:Int) y.2,y.1,(um k1 _).trans rfl,k2,k3,k4⟩
theorem b2l(hl:l.length<=1000)(h:NZ l l.length)(h0:0<l.length):∃l',rH l=some (hg l 0,l')/\NZ l' l'.length/\(l' ++[hg l 0]).Perm l:=by
 obtain⟨n,hn⟩:∃n,l.length=n+1:=⟨l.length -1,o5⟩;have hsub:G8 .i64 ((l.length:Nat):Int) 1=((n:Nat):Int):=by rw[V4 P6];omega
 unfold rH lL;rw[x8,show o8 l=((l.length:Nat):Int)from rfl,hsub,show(0:Int)=((0:Nat):Int)from rfl,a3U o5 o5,x8];have hlen:(swp l 0 n).length=n+1:=by rw[MV,hn]
 obtain⟨b,m,k1,k2,k3,k4⟩:=b6Z (l:=swp l 0 n) (n:=n) (i:=0) o5 o5 o5 (a6B h o5);rw[k1,x8];have hml:=ZG k3;have hmn:m.length=n+1:=o5;have hlast:hg m n=hg l 0:=by
  have e1:(m.drop n)[0]? =((swp l 0 n).drop n)[0]?:=by rw[k4]
  rw[P9,P9,dL,yV o5,yV o5]at e1;rw[aQ e1,a1M o5 o5,if_pos rfl]
 unfold DJ;dsimp only;have hs2:G8 .i64 (o8 m) 1=((n:Nat):Int):=by rw[show o8 m=((m.length:Nat):Int)from rfl,hmn,V4 P6];omega
 rw[hs2,b0h o5,x8,show X8 m (U8 (n:Int))=some (hg m n)from yV (i:=n) o5,x8,show pX 0 (n:Int) (o8 m)=true by simp[pX,o8];omega,o7,show mP m (U8 0) (U8 (n:Int))=m.take n by simp[mP,U8],hlast];refine⟨m.take n,rfl,?_,?_⟩
 .have:(m.take n).length=n:=by simp;omega
  rw[this];intro k k0 k1';have hga:∀i,i<n->hg (m.take n) i=hg m i:=λi hi=>by unfold hg;rw[zM,zM,eG hi]
  rw[hga k k1',hga _ o5];exact k2 k k0 k1'
 .have hcat:m.take n++[hg l 0]=m:=by
   rw[←hlast];have e:m.drop n=[hg m n]:=by
    apply ai;intro i;rw[P9];cases i with
    |zero=>rw[dL,yV o5];rfl|succ i=>rw[U5 o5];rfl
   rw[←e,iT]
  rw[hcat];exact k3.trans (PQ o5 o5)
def NU(O:d4I)(x:Int):Bool:=O.any λy=>o9 y x
variable {O:d4I}
theorem Hr{x:Int} :NU O x=true↔x∈O:=by
 unfold NU;rw[nO];constructor
 .rintro⟨y,hy,h⟩;rw[Z5]at h;exact h▸hy
 .exact λh=>⟨x,h,X0 rfl⟩
def b4b(s:F5)(d:Int)(O:d4I):Bool:=(U7 s d).all λx=>NU O x
def okN(s:F5)(O:d4I)(d:Nat):Bool:=l7 (NU O (d:Int)) false (b4b s (d:Int) O)
def WI(s:F5)(O:d4I)(d:Nat):Option Nat:=l7 (okN s O d) (some d) none
def Rf(s:F5)(O:d4I):Option Nat:=ae s.2.2.2.1.length (WI s O)
variable {s:F5}
theorem b2M{d r:Nat}(h:WI s O d=some r):r=d/\okN s O d=true:=by
 unfold WI at h;cases hq:okN s O d<;>rw[hq]at h
 .cases h
 .cases h;exact⟨rfl,rfl⟩
variable {d:Nat}
theorem Zt(h:Rf s O=some d):d<s.2.2.2.1.length/\okN s O d=true:=by obtain⟨i,hi,hp⟩:=gZ h;obtain⟨rfl,ho⟩:=b2M hp;exact⟨hi,ho⟩
theorem a4w(hd:d<s.2.2.2.1.length)(ho:okN s O d=true)(hn:∀j,j<d->okN s O j=false):Rf s O=some d:=by unfold Rf;exact a3P (p:=WI s O) (aK.2 λj hj=>by unfold WI;rw[hn j (X7.1 hj)];rfl) (by unfold WI;rw[ho];rfl) hd
theorem a6L(hn:∀j,j<s.2.2.2.1.length->okN s O j=false):Rf s O=none:=by unfold Rf ae;exact aK.2 λj hj=>by unfold WI;rw[hn j (X7.1 hj)];rfl
def ZB(s:F5):Nat->d4I->d4I⊕(d4I×Int)
 |0,O=> .inl O|k+1,O=>if O.length<s.2.2.2.1.length then(match Rf s O with|none=> .inr ([],9)|some d=>ZB s k (O++[(d:Int)]))else .inl O
def qW(s:F5):d4I×Int:=match ZB s 100 []with| .inl O=>(O,0)| .inr x=>x
def pY(s:F5)(e:Int)(i:Nat):d4K:=onL (λd=>decide (e∈U7 s (d:Int))) i
def TR(s:F5)(O:d4I)(d:Int):d4I:=(U7 s d).filter λx=> !NU O x
def hw(W:d4I)(d:Int):Int:=W.getD d.toNat 0
variable {W:d4I}
theorem b2m{d:Int}(h0:0<=d)(h:d<o8 W):G9 W d=some (hw W d)/\X8 W (U8 d)=some (hw W d):=by have:=XI h0 h;refine⟨this,?_⟩;unfold G9 at this;rw[if_pos h0]at this;exact this
theorem b2n{d:Int}(h0:0<=d)(h:d<o8 W)(v x:Int)(hx:0<=x):hw (aW W (U8 d) v) x=if x=d then v else hw W x:=by
 unfold hw;have hl:d.toNat<W.length:=by simp only[o8]at h;omega
 show(W.set d.toNat v).getD x.toNat 0=_;rw[zM,zM,U0];by_cases hq:x=d
 .subst hq;rw[if_pos rfl,if_pos hl,if_pos rfl];rfl
 .rw[if_neg o5,if_neg hq]
theorem Zk(W:d4I)(i:Nat)(v:Int):(aW W i v).length=W.length:=by show(W.set i v).length=_;simp
theorem VE{n:Nat}(hd:l.Nodup)(hr:∀x∈l,0<=x/\x<(n:Int)):l.length<=n:=by
 have hp:=Ht l;have hs:=FW l;have hnd:(Kv l).Nodup:=hp.nodup_iff.2 hd;have hsi:SI (Kv l):=by have:=List.Pairwise.and hs hnd;exact this.imp λ{a b} ⟨h1,h2⟩=>by omega
 have:=l_ n hsi λx hx=>hr x (hp.mem_iff.1 hx);rw[hp.length_eq]at this;exact this
theorem a3L(h:SI l){m:Int}(hm:m∉O):((l.filter λx=> !NU (O++[m]) x).length:Int)=((l.filter λx=> !NU O x).length:Int) -(if m∈l then 1 else 0):=by
 have hh:∀x,NU (O++[m]) x=(NU O x || o9 m x):=λx=>by unfold NU;rw[yu];simp
 induction l with
 |nil=>simp|cons a l ih=>
  have h' :=Y4.1 h;have ih' :=ih h'.2;rw[Y7,Y7,hh];by_cases hma:m=a
  .subst hma;have hno:m∉l:=λhx=>by have:=h'.1 m hx;omega
   rw[if_neg hno]at ih';have h1:NU O m=false:=by
    cases hq:NU O m
    .rfl
    .exact absurd (Hr.1 hq) hm
   have hA:(!(NU O m || o9 m m))=false:=by rw[X0 rfl];simp
   have hB:(!NU O m)=true:=by rw[h1];rfl
   rw[hA,hB,if_pos (show m∈m::l by simp)];simp only[gJ,if_false,if_true,H8];omega
  .rw[U2 hma,Bool.or_false];have:(if m∈a::l then(1:Int)else 0)=if m∈l then 1 else 0:=by simp[hma]
   rw[this];cases NU O a
   .simp only[Bool.not_false,if_true,H8];omega
   .simp only[og,gJ,if_false];exact ih'
structure KInv (s:F5) (O W H:d4I):Prop where
 nd:O.Nodup
 rng:∀x∈O,0<=x/\x<nD s
 cl:∀u∈O,∀x∈U7 s u,x∈O
 wl:W.length=s.2.2.2.1.length
 w:∀d,0<=d->d<nD s->hw W d=((TR s O d).length:Int)
 hp:NZ H H.length
 hnd:H.Nodup
 hm:∀d,d∈H↔0<=d/\d<nD s/\d∉O/\hw W d=0
theorem a6P :okN s O d=true↔(d:Int)∉O/\TR s O (d:Int)=[]:=by
 unfold okN b4b TR;cases hq:NU O (d:Int)
 .have h1:(d:Int)∉O:=λh=>by rw[Hr.2 h]at hq;cases hq
  simp only[o6,nN,lX,sQ,Bool.not_eq_false'];exact⟨λh=>⟨h1,λa ha=>by rw[h a ha]⟩,λh a ha=>h.2 a ha⟩
 .have h1:=Hr.1 hq;simp only[o7];exact⟨λh=>(by cases h),λh=>absurd h1 h.1⟩
variable {H:d4I}
theorem KInv.ready(h:KInv s O W H)(hd:d<s.2.2.2.1.length):okN s O d=true↔(d:Int)∈H:=by
 have hn:nD s=((s.2.2.2.1.length:Nat):Int):=rfl;rw[a6P,h.hm];have:=h.w (d:Int) o5 o5;constructor
 .rintro⟨h1,h2⟩;exact⟨o5,o5,h1,by rw[this,h2];rfl⟩
 .rintro⟨_,_,h1,h2⟩;refine⟨h1,O7.1 ?_⟩;rw[this]at h2;omega
theorem KInv.next_none(h:KInv s O W []):Rf s O=none:=
 a6L λj hj=>by
  cases hq:okN s O j
  .rfl
  .have:=(h.ready hj).1 hq;cases this
theorem KInv.next_some(h:KInv s O W H)(h0:0<H.length):∃m:Nat,hg H 0=(m:Int)/\Rf s O=some m/\m<s.2.2.2.1.length/\O.length<s.2.2.2.1.length:=by
 have hn:nD s=((s.2.2.2.1.length:Nat):Int):=rfl;have hmem:hg H 0∈H:=by have:=yV h0;exact mM this
 have hmm:=(h.hm _).1 hmem;obtain⟨m,hm⟩:∃m:Nat,hg H 0=(m:Int):=⟨(hg H 0).toNat,o5⟩;rw[hm]at hmem hmm;have hlt:m<s.2.2.2.1.length:=o5;refine⟨m,hm,a4w hlt ((h.ready hlt).2 hmem) λj hj=>?_,hlt,?_⟩
 .cases hq:okN s O j
  .rfl
  .have hjH:=(h.ready o5).1 hq;obtain⟨i,hi,he⟩:=Z9 hjH;have:=b2k h.hp i hi;have e:=yV hi;rw[fO hi,he]at e;have:=aQ e;omega
 .have hnd:(O++[(m:Int)]).Nodup:=L6.2 ⟨h.nd,A7,λa ha b hb=>by simp at hb;subst hb;intro hq;subst hq;exact hmm.2.2.1 ha⟩;have:=VE (n:=s.2.2.2.1.length) hnd λx hx=>by
   rcases E9.1 hx with hx|hx
   .exact h.rng x hx
   .simp at hx;subst hx;omega
  simp at this;omega
structure UInv (s:F5) (W H0:d4I) (us:d4I) (W' H' :d4I):Prop where
 wl:W'.length=s.2.2.2.1.length
 w:∀d,0<=d->d<nD s->hw W' d=hw W d -(if d∈us then 1 else 0)
 hp:NZ H' H'.length
 pm:∃P:d4I,H'.Perm (H0++P)/\P.Sublist us/\∀d,d∈P↔d∈us/\hw W d=1
theorem a8d(hs:SmS s){W H0 us:d4I}(hW:W.length=s.2.2.2.1.length)(hW2:∀d,0<=d->d<nD s->-1000<=hw W d/\hw W d<=1000)(hH:NZ H0 H0.length)(hHl:H0.length<=100)(hus:SI us)(hur:∀u∈us,0<=u/\u<nD s)
  {f:d4I×d4I×Int->Option ((d4I×d4I×Int)⊕(d4I×d4I))}
  (hin:∀(i:Nat) (u:Int) (A B:d4I),us[i]? =some u->f (A,B,(i:Int))=l9 (G9 A u) λ(x_8:Int)=>l9 (X8 A (U8 u)) λ(x_9:Int)=>l9 (G9 A u) λ(x_10:Int)=>l9 (X8 A (U8 u)) λ(x_11:Int)=>
   l9 (G9 (aW A (U8 u) (G8 .i64 x_9 1)) u) λ(x_12:Int)=>l9 (X8 (aW A (U8 u) (G8 .i64 x_9 1)) (U8 u)) λ(x_13:Int)=>l7 (o9 x_13 0) (l9 (iL B u) λ(x_14:d4I)=>some (.inl (aW A (U8 u) (G8 .i64 x_9 1),x_14,C9 .i64 (i:Int) 1)))
    (some (.inl (aW A (U8 u) (G8 .i64 x_9 1),B,C9 .i64 (i:Int) 1))))
  (hend:∀(A B:d4I),f (A,B,(us.length:Int))=some (.inr (A,B))):∃W' H',aX f (W,H0,0)=some (W',H')/\UInv s W H0 us W' H' :=by
 have hn:nD s=((s.2.2.2.1.length:Nat):Int):=rfl;have hul:us.length<=14:=Za hs hus hur;obtain⟨e,h1,h2⟩:=jg (f:=f) (s:=(W,H0,0)) (λx=>∃(i:Nat) (A B:d4I),x=(A,B,(i:Int))/\i<=us.length/\UInv s W H0 (us.take i) A B/\B.length<=H0.length+i) (λe=>UInv s W H0 us e.1 e.2) (λx=>us.length -x.2.2.toNat)
  ⟨0,W,H0,rfl,o5,⟨hW,λd _ _=>by simp,hH,[],A7,A7,λd=>by simp⟩,o5⟩ aH (by
  rintro x ⟨i,A,B,rfl,hi,hU,hBl⟩;by_cases hlt:i<us.length
  .left;have e:=fO hlt;generalize us[i]=u at e;have hu:=hur u (mM e);have hst:us.take (i+1)=us.take i++[u]:=by rw[U1 hlt,(aO.1 e).2]
   have hnot:u∉us.take i:=λhx=>by obtain⟨j,hj,hq⟩:=Z9 hx;simp only[fB]at hj;have h3:=dM.1 hus j i o5 hlt o5;rw[wG]at hq;have h4:=(aO.1 e).2;omega
   have hAl:=hU.wl;have hAu:=hU.w u hu.1 hu.2;rw[if_neg hnot]at hAu;have hbd:=hW2 u hu.1 hu.2;obtain⟨q1,q2⟩:=b2m (W:=A) hu.1 (by simp only[o8];omega);have hsub:G8 .i64 (hw A u) 1=hw A u -1:=V4 P6;have hA2:∀d,0<=d->d<nD s->hw (aW A (U8 u) (hw A u -1)) d=hw W d -(if d∈us.take (i+1)then 1 else 0):=λd d0 d1=>by
    rw[b2n hu.1 (by simp only[o8];omega) _ _ d0,hst];have:=hU.w d d0 d1;by_cases hq:d=u
    .subst hq;rw[if_pos rfl,if_pos A7];omega
    .rw[if_neg hq,this];simp[hq]
   obtain⟨q3,q4⟩:=b2m (W:=aW A (U8 u) (hw A u -1)) (d:=u) hu.1 (by simp only[o8,Zk];omega);have hv:hw (aW A (U8 u) (hw A u -1)) u=hw A u -1:=by rw[b2n hu.1 (by simp only[o8];omega) _ _ hu.1,if_pos rfl]
   rw[hv]at q3 q4;obtain⟨P,p1,p2,p3⟩:=hU.pm;rw[hin i u A B e,q1,x8,q2,x8,x8,x8,hsub,q3,x8,q4,x8,iy o5];by_cases hz:hw A u -1=0
   .obtain⟨B',b1,b2,b3⟩:=a0G (l:=B) o5 hU.hp u;rw[X0 hz,o7,b1,x8];have hB'l:B'.length=B.length+1:=by rw[b3.length_eq];simp
    refine⟨_,rfl,⟨i+1,_,_,rfl,hlt,⟨by rw[Zk];exact hAl,hA2,b2,P++[u],?_,?_,λd=>?_⟩,o5⟩,by simp;omega⟩
    .rw[←G5];exact b3.trans (p1.append_right [u])
    .rw[hst];exact p2.append (List.Sublist.refl _)
    .rw[E9,p3,hst,E9];constructor
     .rintro(⟨h,h'⟩|h)
      .exact⟨.inl h,h'⟩
      .simp at h;subst h;exact⟨.inr A7,o5⟩
     .rintro⟨h|h,h'⟩
      .exact .inl ⟨h,h'⟩
      .exact .inr h
   .rw[U2 hz,o6];refine⟨_,rfl,⟨i+1,_,_,rfl,hlt,⟨by rw[Zk];exact hAl,hA2,hU.hp,P,p1,?_,λd=>?_⟩,o5⟩,by simp;omega⟩
    .rw[hst];exact p2.trans (List.sublist_append_left _ _)
    .rw[p3,hst,E9];constructor
     .rintro⟨h,h'⟩;exact⟨.inl h,h'⟩
     .rintro⟨h|h,h'⟩
      .exact⟨h,h'⟩
      .simp at h;subst h;omega
  .right;have:i=us.length:=o5;subst this;rw[bM]at hU;exact⟨_,hend _ _,hU⟩)
 exact⟨e.1,e.2,h1,h2⟩
theorem MZ{m:Int}{d:Int} :d∈castL (pY s m s.2.2.2.1.length)↔0<=d/\d<nD s/\m∈U7 s d:=by
 have hn:nD s=((s.2.2.2.1.length:Nat):Int):=rfl;unfold castL;rw[O9];constructor
 .rintro⟨k,hk,rfl⟩;obtain⟨h1,h2⟩:=VF _ hk;exact⟨o5,o5,by simpa using h2⟩
 .rintro⟨h1,h2,h3⟩;refine⟨d.toNat,?_,o5⟩;unfold pY onL;rw[Y8,X7];exact⟨o5,by rw[X6 h1];simpa using h3⟩
theorem Yn{l:d4K}(h:l.Pairwise (·< ·)):SI (castL l):=List.Pairwise.map _ (λa b h=>by omega) h
theorem KInv.step(h:KInv s O W H)(h0:0<H.length){m:Nat}(hm:hg H 0=(m:Int)){R:d4I}(hR:NZ R R.length)(hRp:(R++[(m:Int)]).Perm H){W' H' :d4I}(hU:UInv s W R (castL (pY s (m:Int) s.2.2.2.1.length)) W' H'):KInv s (O++[(m:Int)]) W' H' :=by
 have hn:nD s=((s.2.2.2.1.length:Nat):Int):=rfl;have hmem:(m:Int)∈H:=by rw[←hm];have:=yV h0;exact mM this
 have hmm:=(h.hm _).1 hmem;have hleft:TR s O (m:Int)=[]:=by have:=h.w (m:Int) hmm.1 hmm.2.1;rw[hmm.2.2.2]at this;exact O7.1 o5
 have hdeps:∀x∈U7 s (m:Int),x∈O:=λx hx=>by have hnil:=lX.1 hleft x hx;simp only[sQ,Bool.not_eq_false']at hnil;exact Hr.1 hnil
 have hndR:(R++[(m:Int)]).Nodup:=hRp.nodup_iff.2 h.hnd;have hmR:(m:Int)∉R:=λhx=>by have:=(L6.1 hndR).2.2 _ hx _ (X5.2 rfl);exact this rfl
 have hRm:∀d,d∈R↔d∈H/\d≠(m:Int):=λd=>by
  rw[←hRp.mem_iff,E9,X5];constructor
  .intro hx;exact⟨.inl hx,λhq=>hmR (hq▸hx)⟩
  .rintro⟨hx|hx,hq⟩
   .exact hx
   .exact absurd hx hq
 obtain⟨P,p1,p2,p3⟩:=hU.pm;have huO:∀u,(m:Int)∈U7 s u->u∉O:=λu hu hx=>hmm.2.2.1 (h.cl u hx _ hu);refine⟨?_,?_,?_,hU.wl,λd d0 d1=>?_,hU.hp,?_,λd=>?_⟩
 .exact L6.2 ⟨h.nd,A7,λa ha b hb=>by simp at hb;subst hb;intro hq;subst hq;exact hmm.2.2.1 ha⟩
 .intro x hx;rcases E9.1 hx with hx|hx
  .exact h.rng x hx
  .simp at hx;subst hx;exact⟨hmm.1,hmm.2.1⟩
 .intro u hu x hx;rcases E9.1 hu with hu|hu
  .exact aF _ (h.cl u hu x hx)
  .simp at hu;subst hu;exact aF _ (hdeps x hx)
 .rw[hU.w d d0 d1,h.w d d0 d1];unfold TR;rw[a3L (Gz s d) hmm.2.2.1];congr 1;have:(d∈castL (pY s (m:Int) s.2.2.2.1.length))↔((m:Int)∈U7 s d):=by rw[MZ];exact⟨λh=>h.2.2,λh=>⟨d0,d1,h⟩⟩
  by_cases hq:(m:Int)∈U7 s d
  .rw[if_pos (this.2 hq),if_pos hq]
  .rw[if_neg (λhx=>hq (this.1 hx)),if_neg hq]
 .rw[p1.nodup_iff];refine L6.2 ⟨(L6.1 hndR).1,?_,λa ha b hb hq=>?_⟩
  .have:(castL (pY s (m:Int) s.2.2.2.1.length)).Nodup:=(Yn (a6Q _ _)).imp λ{a b} h=>by omega
   exact p2.nodup this
  .subst hq;have h1:=(h.hm a).1 ((hRm a).1 ha).1;have h2:=(p3 a).1 hb;omega
 .rw[p1.mem_iff,E9,hRm,p3,MZ,h.hm];have hw' :=λd0 d1=>hU.w d d0 d1;have hmemU:d∈castL (pY s (m:Int) s.2.2.2.1.length)↔0<=d/\d<nD s/\(m:Int)∈U7 s d:=MZ;constructor
  .rintro(⟨⟨d0,d1,dO,dw⟩,dm⟩|⟨⟨d0,d1,dd⟩,dw⟩)
   .refine⟨d0,d1,λhx=>?_,?_⟩
    .rcases E9.1 hx with hx|hx
     .exact dO hx
     .simp at hx;exact dm hx
    .have hnot:(m:Int)∉U7 s d:=λhx=>by
      have h1:=h.w d d0 d1;rw[dw]at h1;have h2:TR s O d=[]:=O7.1 o5;have h3:=lX.1 h2 _ hx;simp only[sQ,Bool.not_eq_false']at h3;exact hmm.2.2.1 (Hr.1 h3)
     rw[hw' d0 d1,dw,if_neg (λhx=>hnot (hmemU.1 hx).2.2)];rfl
   .refine⟨d0,d1,λhx=>?_,?_⟩
    .rcases E9.1 hx with hx|hx
     .exact huO d dd hx
     .simp at hx;rw[hx]at dd;exact hmm.2.2.1 (hdeps _ dd)
    .rw[hw' d0 d1,if_pos (hmemU.2 ⟨d0,d1,dd⟩)];omega
  .rintro⟨d0,d1,dO,dw⟩;rw[hw' d0 d1]at dw;have dO1:d∉O:=λhx=>dO (aF _ hx);have dm:d≠(m:Int):=λhx=>dO (by rw[hx];simp);by_cases hq:(m:Int)∈U7 s d
   .rw[if_pos (hmemU.2 ⟨d0,d1,hq⟩)]at dw;exact .inr ⟨⟨d0,d1,hq⟩,o5⟩
   .rw[if_neg (λhx=>hq (hmemU.1 hx).2.2)]at dw;exact .inl ⟨⟨d0,d1,dO1,o5⟩,dm⟩
def Ei(s:F5)(i:Nat):List d4I:=(List.range s.2.2.2.1.length).map λ(e:Nat)=>castL (pY s (e:Int) i)
theorem Gx(l:d4K):(castL l).length=l.length:=by unfold castL;rw[H9]
theorem a8e(s:F5)(e:Int)(i:Nat):castL (pY s e (i+1))=castL (pY s e i)++(if e∈U7 s (i:Int)then[(i:Int)]else[]):=by unfold pY;rw[Ih];by_cases h:e∈U7 s (i:Int)<;>simp[castL,h]
theorem a8c(hs:SmS s)(i:Nat)(hi:i<s.2.2.2.1.length){f:List d4I×Int->Option ((List d4I×Int)⊕List d4I)}
  (hin:∀(k:Nat) (e:Int) (A:List d4I),(U7 s (i:Int))[k]? =some e->f (A,(k:Int))=l7 (inb e (o8 A)) (l9 (X8 A (U8 e)) λ(x_7:d4I)=>l9 (dB x_7 [(i:Int)]) λ(x_8:d4I)=>l7 (inb e (o8 A)) (l7 (Fh (U8 e) (U8 e)) (l9 (X8 A (U8 e)) λ(x_9:d4I)=>some (.inl (aW A (U8 e) x_8,C9 .i64 (k:Int) 1))) none) none) none)
  (hend:∀A,f (A,((U7 s (i:Int)).length:Int))=some (.inr A)):aX f (Ei s i,0)=some (Ei s (i+1)):=by
 have hn:nD s=((s.2.2.2.1.length:Nat):Int):=rfl;have hdl:=YC hs (i:Int);have hnd:=hs.nd;have hsi:=Gz s (i:Int);refine(AV (U7 s (i:Int)) (λ(A:List d4I) e=>A.set e.toNat (A.getD e.toNat []++[(i:Int)])) (λb k=>(b,k)) (λb=>b) (λk A=>A=(List.range s.2.2.2.1.length).map λ(e:Nat)=>castL (pY s (e:Int) i)++(if(e:Int)∈(U7 s (i:Int)).take k then[(i:Int)]else[])) (b:=Ei s i) o5 (by simp[Ei]) (λk e A he hk hA=>?_) (λA hA=>hend A)).1.trans ?_
 .have hlt:=(aO.1 he).1;have her:=DL (mM he);have hst:(U7 s (i:Int)).take (k+1)=(U7 s (i:Int)).take k++[e]:=by rw[U1 hlt,(aO.1 he).2]
  have hnot:e∉(U7 s (i:Int)).take k:=λhx=>by obtain⟨j,hj,hq⟩:=Z9 hx;simp only[fB]at hj;have h3:=dM.1 hsi j k o5 hlt o5;rw[wG]at hq;have h4:=(aO.1 he).2;omega
  have hlA:A.length=s.2.2.2.1.length:=by rw[hA];simp
  have hg:A[e.toNat]? =some (castL (pY s e i)):=by rw[hA,FY _ _ (show e.toNat<s.2.2.2.1.length by omega),X6 her.1,if_neg hnot,G7]
  have hul:(castL (pY s e i)).length<=i:=by rw[Gx];exact Jf _ _
  rw[hin k e A he,show inb e (o8 A)=true from decide_eq_true ⟨her.1,by simp only[o8];omega⟩,o7,show X8 A (U8 e)=some (castL (pY s e i))from hg,x8,nT _ o5,x8,o7,show Fh (U8 e) (U8 e)=true by simp[Fh],o7,x8,iy o5];rw[show A.getD e.toNat []=castL (pY s e i) by rw[zM,hg];rfl];refine⟨rfl,?_⟩;rw[hA,XD];apply aT;intro d hd;rw[hst];by_cases hq:d=e.toNat
  .subst hq;rw[if_pos rfl,X6 her.1,if_pos A7]
  .rw[if_neg hq];have:(if(d:Int)∈(U7 s (i:Int)).take k++[e]then[(i:Int)]else[])=if(d:Int)∈(U7 s (i:Int)).take k then[(i:Int)]else[]:=by
    have:(d:Int)≠e:=o5;simp[this]
   rw[this]
 .have h2:=(AV (U7 s (i:Int)) (λ(A:List d4I) e=>A.set e.toNat (A.getD e.toNat []++[(i:Int)])) (λb k=>(b,k)) (λb=>b) (λk A=>A=(List.range s.2.2.2.1.length).map λ(e:Nat)=>castL (pY s (e:Int) i)++(if(e:Int)∈(U7 s (i:Int)).take k then[(i:Int)]else[])) (f:=f) (b:=Ei s i) o5 (by simp[Ei]) (λk e A he hk hA=>by
   have hlt:=(aO.1 he).1;have her:=DL (mM he);have hst:(U7 s (i:Int)).take (k+1)=(U7 s (i:Int)).take k++[e]:=by rw[U1 hlt,(aO.1 he).2]
   have hnot:e∉(U7 s (i:Int)).take k:=λhx=>by obtain⟨j,hj,hq⟩:=Z9 hx;simp only[fB]at hj;have h3:=dM.1 hsi j k o5 hlt o5;rw[wG]at hq;have h4:=(aO.1 he).2;omega
   have hlA:A.length=s.2.2.2.1.length:=by rw[hA];simp
   have hg:A[e.toNat]? =some (castL (pY s e i)):=by rw[hA,FY _ _ (show e.toNat<s.2.2.2.1.length by omega),X6 her.1,if_neg hnot,G7]
   have hul:(castL (pY s e i)).length<=i:=by rw[Gx];exact Jf _ _
   rw[hin k e A he,show inb e (o8 A)=true from decide_eq_true ⟨her.1,by simp only[o8];omega⟩,o7,show X8 A (U8 e)=some (castL (pY s e i))from hg,x8,nT _ o5,x8,o7,show Fh (U8 e) (U8 e)=true by simp[Fh],o7,x8,iy o5];rw[show A.getD e.toNat []=castL (pY s e i) by rw[zM,hg];rfl];refine⟨rfl,?_⟩;rw[hA,XD];apply aT;intro d hd;rw[hst];by_cases hq:d=e.toNat
   .subst hq;rw[if_pos rfl,X6 her.1,if_pos A7]
   .rw[if_neg hq];have:(if(d:Int)∈(U7 s (i:Int)).take k++[e]then[(i:Int)]else[])=if(d:Int)∈(U7 s (i:Int)).take k then[(i:Int)]else[]:=by
     have:(d:Int)≠e:=o5;simp[this]
    rw[this]) (λA hA=>hend A)).2
  rw[h2];unfold Ei;apply congrArg some;apply aT;intro d hd;rw[a8e,bM]
theorem b2e{α β σ:Type}{o:Option α}{x:α}{K:α->Option (σ⊕β)}{Q:σ->Prop}(h:o=some x)(hk:∃s',K x=some (.inl s')/\Q s'):∃s',l9 o K=some (.inl s')/\Q s' :=by rw[h];exact hk
structure IInv (s:F5) (i:Nat) (U:List d4I) (W H:d4I):Prop where
 u:U=Ei s i
 w:W=pd ((List.range i).map λ(d:Nat)=>((U7 s (d:Int)).length:Int)) (s.2.2.2.1.length -i)
 hp:NZ H H.length
 hnd:H.Nodup
 hm:∀d,d∈H↔0<=d/\d<(i:Int)/\U7 s d=[]
 hl:H.length<=i
theorem b3j(hs:SmS s):tY s=some (qW s):=by
 have hn:nD s=((s.2.2.2.1.length:Nat):Int):=rfl;have hnd:=hs.nd;unfold tY;rw[Tq hs,x8];have hAl:o8 ((List.range s.2.2.2.1.length).map λ(d:Nat)=>U7 s (d:Int))=((s.2.2.2.1.length:Nat):Int):=by simp[o8]
 have hAg:∀i,i<s.2.2.2.1.length->((List.range s.2.2.2.1.length).map λ(d:Nat)=>U7 s (d:Int))[i]? =some (U7 s (i:Int)):=λi hi=>FY _ _ hi;generalize (List.range s.2.2.2.1.length).map (λ(d:Nat)=>U7 s (d:Int))=A at*;rw[hAl,show tq ((s.2.2.2.1.length:Nat):Int) ([]:d4I)=some (Ei s 0) by
  unfold tq Ei pY onL castL;rw[if_pos o5];simp[List.map_const'],x8,show tq ((s.2.2.2.1.length:Nat):Int) (0:Int)=some (pd ((List.range 0).map λ(d:Nat)=>((U7 s (d:Int)).length:Int)) (s.2.2.2.1.length -0)) by
  unfold tq pd;rw[if_pos o5];simp,x8]
 obtain⟨e,k1,k2⟩:=jg (f:=λ(x_3:List d4I×d4I×d4I×Int)=>l7 (E5 x_3.2.2.2 ((s.2.2.2.1.length:Nat):Int)) (l9 (G9 A x_3.2.2.2) λ(x:d4I)=>l9 (G9 x_3.2.1 x_3.2.2.2) λ(x_4:Int)=>l9 (X8 x_3.2.1 (U8 x_3.2.2.2)) λ(x_5:Int)=>
   l9 (aX (λ(x_6:List d4I×Int)=>l7 (E5 x_6.2 (o8 x)) (l9 (G9 x x_6.2) λ(x:Int)=>l7 (inb x (o8 x_6.1)) (l9 (X8 x_6.1 (U8 x)) λ(x_7:d4I)=>l9 (dB x_7 [x_3.2.2.2]) λ(x_8:d4I)=>l7 (inb x (o8 x_6.1)) (l7 (Fh (U8 x) (U8 x)) (l9 (X8 x_6.1 (U8 x)) λ(x_9:d4I)=>some (.inl (aW x_6.1 (U8 x) x_8,C9 .i64 x_6.2 1))) none) none) none) (some (.inr x_6.1))) (x_3.1,0)) λ(y:List d4I)=>
   l7 (o9 (o8 x) 0) (l9 (iL x_3.2.2.1 x_3.2.2.2) λ(x_6:d4I)=>some (.inl (y,aW x_3.2.1 (U8 x_3.2.2.2) (o8 x),x_6,C9 .i64 x_3.2.2.2 1))) (some (.inl (y,aW x_3.2.1 (U8 x_3.2.2.2) (o8 x),x_3.2.2.1,C9 .i64 x_3.2.2.2 1)))) (some (.inr (x_3.1,x_3.2.1,x_3.2.2.1))))
  (s:=(Ei s 0,pd ((List.range 0).map λ(d:Nat)=>((U7 s (d:Int)).length:Int)) (s.2.2.2.1.length -0),[],0)) (λx=>∃(i:Nat) (U:List d4I) (W H:d4I),x=(U,W,H,(i:Int))/\i<=s.2.2.2.1.length/\IInv s i U W H) (λy=>IInv s s.2.2.2.1.length y.1 y.2.1 y.2.2) (λx=>s.2.2.2.1.length -x.2.2.2.toNat)
  ⟨0,_,_,_,rfl,o5,rfl,rfl,λk k0 k1=>by simp at k1,A7,λd=>by simp;omega,A7⟩ aH (by
  rintro x ⟨i,U,W,H,rfl,hi,hI⟩;by_cases hlt:i<s.2.2.2.1.length
  .left;obtain⟨m,hm⟩:∃m,s.2.2.2.1.length -i=m+1:=⟨s.2.2.2.1.length -i -1,o5⟩;have hlen:((List.range i).map λ(d:Nat)=>((U7 s (d:Int)).length:Int)).length=i:=A7;have q1:=a2g ((List.range i).map λ(d:Nat)=>((U7 s (d:Int)).length:Int)) m;have q2:=a2h ((List.range i).map λ(d:Nat)=>((U7 s (d:Int)).length:Int)) m;have q3:=a6V ((List.range i).map λ(d:Nat)=>((U7 s (d:Int)).length:Int)) m (o8 (U7 s (i:Int)));rw[hlen]at q1 q2 q3;have hW:=hI.w;rw[hm]at hW;have hl14:=hI.hl;have hus:=a8c hs i hlt (f:=λ(x_6:List d4I×Int)=>l7 (E5 x_6.2 (o8 (U7 s (i:Int)))) (l9 (G9 (U7 s (i:Int)) x_6.2) λ(x:Int)=>l7 (inb x (o8 x_6.1)) (l9 (X8 x_6.1 (U8 x)) λ(x_7:d4I)=>l9 (dB x_7 [(i:Int)]) λ(x_8:d4I)=>l7 (inb x (o8 x_6.1)) (l7 (Fh (U8 x) (U8 x)) (l9 (X8 x_6.1 (U8 x)) λ(x_9:d4I)=>some (.inl (aW x_6.1 (U8 x) x_8,C9 .i64 x_6.2 1))) none) none) none) (some (.inr x_6.1)))
    (λk e A he=>by simp only[V6 he,o7,I5,he,x8]) (λA=>by simp only[V5];rfl)
   simp only;rw[V7 o5,o7,I5,hAg i hlt,x8,hW,q1,x8,q2,x8,hI.u];refine b2e hus ?_;rw[q3,iy o5];have hwn:pd ((List.range i).map (λ(d:Nat)=>((U7 s (d:Int)).length:Int))++[o8 (U7 s (i:Int))]) m=pd ((List.range (i+1)).map λ(d:Nat)=>((U7 s (d:Int)).length:Int)) (s.2.2.2.1.length -(i+1)):=by rw[eP,bJ,show s.2.2.2.1.length -(i+1)=m by omega];rfl
   rw[hwn];by_cases hz:(U7 s (i:Int)).length=0
   .obtain⟨H',b1,b2,b3⟩:=a0G (l:=H) o5 hI.hp (i:Int);have hnil:=O7.1 hz;rw[X0 (by simp[o8,hz]),o7,b1,x8];have hni:(i:Int)∉H:=λhx=>by have:=(hI.hm _).1 hx;omega
    refine⟨_,rfl,⟨i+1,_,_,_,rfl,hlt,rfl,rfl,b2,?_,λd=>?_,by rw[b3.length_eq];simp;omega⟩,by simp;omega⟩
    .rw[b3.nodup_iff];exact L6.2 ⟨hI.hnd,A7,λa ha b hb=>by simp at hb;subst hb;intro hq;subst hq;exact hni ha⟩
    .rw[b3.mem_iff,E9,hI.hm,X5];constructor
     .rintro(⟨h1,h2,h3⟩|h)
      .exact⟨h1,o5,h3⟩
      .subst h;exact⟨o5,o5,hnil⟩
     .rintro⟨h1,h2,h3⟩;by_cases hq:d=(i:Int)
      .exact .inr hq
      .exact .inl ⟨h1,o5,h3⟩
   .rw[U2 (by simp only[o8];omega),o6];refine⟨_,rfl,⟨i+1,_,_,_,rfl,hlt,rfl,rfl,hI.hp,hI.hnd,λd=>?_,o5⟩,by simp;omega⟩;rw[hI.hm];constructor
    .rintro⟨h1,h2,h3⟩;exact⟨h1,o5,h3⟩
    .rintro⟨h1,h2,h3⟩;refine⟨h1,?_,h3⟩;by_cases hq:d=(i:Int)
     .subst hq;rw[h3]at hz;exact absurd rfl hz
     .omega
  .right;have:i=s.2.2.2.1.length:=o5;subst this;exact⟨(U,W,H),by simp only[O6 (show((s.2.2.2.1.length:Nat):Int)<=((s.2.2.2.1.length:Nat):Int) by omega)];rfl,hI⟩)
 refine(um k1 _).trans ?_;obtain⟨U,W,H⟩:=e;simp only at k2 ⊢;have hwd:∀d,0<=d->d<nD s->hw W d=((U7 s d).length:Int):=λd d0 d1=>by have hd:d.toNat<s.2.2.2.1.length:=o5;rw[k2.w,bI];unfold hw pd;rw[zM,List.replicate_zero,G7,FY _ _ hd,X6 d0];rfl
 have hK:KInv s [] W H:=by
  refine⟨A7,A7,A7,by rw[k2.w];simp[pd],λd d0 d1=>?_,k2.hp,k2.hnd,λd=>?_⟩
  .rw[hwd d d0 d1];have:TR s [] d=U7 s d:=List.filter_eq_self.2 λa _=>rfl;rw[this]
  .rw[k2.hm];constructor
   .rintro⟨h1,h2,h3⟩;exact⟨h1,o5,A7,by rw[hwd d h1 o5,h3];rfl⟩
   .rintro⟨h1,h2,_,h4⟩;rw[hwd d h1 h2]at h4;exact⟨h1,o5,O7.1 o5⟩
 have hU:=k2.u;subst hU;have hlatU:∀m:Nat,m<s.2.2.2.1.length->G9 (Ei s s.2.2.2.1.length) (m:Int)=some (castL (pY s (m:Int) s.2.2.2.1.length)):=λm hm=>by rw[I5];exact FY _ _ hm
 have key:∀(k j:Nat) (O W H:d4I),KInv s O W H->s.2.2.2.1.length -O.length<k->k<=j->∃y,sZ (λ(x:List d4I×mi)=>l9 (lL x.2.2.1) λ(x_3:Int)=>l7 (E5 0 x_3) (l9 (rH x.2.2.1) λ(x_4:Int×d4I)=>l9 (dB x.2.2.2 [x_4.1]) λ(x_5:d4I)=>l9 (G9 x.1 x_4.1) λ(x_6:d4I)=>
   l9 (aX (λ(x:d4I×d4I×Int)=>l7 (E5 x.2.2 (o8 x_6)) (l9 (G9 x_6 x.2.2) λ(x_7:Int)=>l9 (G9 x.1 x_7) λ(x_8:Int)=>l9 (X8 x.1 (U8 x_7)) λ(x_9:Int)=>l9 (G9 x.1 x_7) λ(x_10:Int)=>l9 (X8 x.1 (U8 x_7)) λ(x_11:Int)=>l9 (G9 (aW x.1 (U8 x_7) (G8 .i64 x_9 1)) x_7) λ(x_12:Int)=>l9 (X8 (aW x.1 (U8 x_7) (G8 .i64 x_9 1)) (U8 x_7)) λ(x_13:Int)=>
     l7 (o9 x_13 0) (l9 (iL x.2.1 x_7) λ(x_14:d4I)=>some (.inl (aW x.1 (U8 x_7) (G8 .i64 x_9 1),x_14,C9 .i64 x.2.2 1))) (some (.inl (aW x.1 (U8 x_7) (G8 .i64 x_9 1),x.2.1,C9 .i64 x.2.2 1)))) (some (.inr (x.1,x.2.1)))) (x.2.1,x_4.2,0)) λ(y:d4I×d4I)=>some (.inl (x.1,y.1,y.2,x_5))) (some (.inr x.2.2.2))) j (Ei s s.2.2.2.1.length,W,H,O)=some y/\ZB s k O=(if y.length<s.2.2.2.1.length then .inr ([],9)else .inl y):=by
  intro k;induction k with
  |zero=>intro j O W H hK hk;omega|succ k ih=>
   intro j O W H hK hk hj;obtain⟨j,rfl⟩:∃j',j=j' +1:=⟨j -1,o5⟩;rw[sZ];simp only[lL,x8];cases H with
   |nil=>refine⟨O,rfl,?_⟩;unfold ZB;rw[hK.next_none]|cons h0 H=>
    generalize hHH:h0::H=HH at*;have hpos:0<HH.length:=by rw[←hHH];simp
    obtain⟨m,hm1,hm2,hm3,hm4⟩:=hK.next_some hpos;have hHl:HH.length<=14:=aU (VE (n:=s.2.2.2.1.length) hK.hnd λx hx=>by have:=(hK.hm x).1 hx;omega) hnd;obtain⟨R,r1,r2,r3⟩:=b2l (l:=HH) o5 hK.hp hpos;rw[hm1]at r1 r3;have hRl:R.length<=14:=by have:=r3.length_eq;simp at this;omega
    have hOl:O.length<=14:=o5;obtain⟨W',H',u1,u2⟩:=a8d hs (W:=W) (H0:=R) (us:=castL (pY s (m:Int) s.2.2.2.1.length)) hK.wl (λd d0 d1=>by
      have h1:=hK.w d d0 d1;have h2:=bz (λx=> !NU O x) (U7 s d);have h3:=YC hs d;unfold TR at h1;omega) r2 o5 (Yn (a6Q _ _)) (λu hu=>by have:=MZ.1 hu;omega)
     (f:=λ(x:d4I×d4I×Int)=>l7 (E5 x.2.2 (o8 (castL (pY s (m:Int) s.2.2.2.1.length)))) (l9 (G9 (castL (pY s (m:Int) s.2.2.2.1.length)) x.2.2) λ(x_7:Int)=>l9 (G9 x.1 x_7) λ(x_8:Int)=>l9 (X8 x.1 (U8 x_7)) λ(x_9:Int)=>l9 (G9 x.1 x_7) λ(x_10:Int)=>l9 (X8 x.1 (U8 x_7)) λ(x_11:Int)=>l9 (G9 (aW x.1 (U8 x_7) (G8 .i64 x_9 1)) x_7) λ(x_12:Int)=>l9 (X8 (aW x.1 (U8 x_7) (G8 .i64 x_9 1)) (U8 x_7)) λ(x_13:Int)=>
     l7 (o9 x_13 0) (l9 (iL x.2.1 x_7) λ(x_14:d4I)=>some (.inl (aW x.1 (U8 x_7) (G8 .i64 x_9 1),x_14,C9 .i64 x.2.2 1))) (some (.inl (aW x.1 (U8 x_7) (G8 .i64 x_9 1),x.2.1,C9 .i64 x.2.2 1)))) (some (.inr (x.1,x.2.1))))
     (λi u A B hu=>by simp only[V6 hu,o7,I5 (castL (pY s (m:Int) s.2.2.2.1.length)),hu,x8]) (λA B=>by simp only[V5];rfl)
    have hK2:=hK.step hpos hm1 r2 r3 u2;obtain⟨y,y1,y2⟩:=ih j (O++[(m:Int)]) W' H' hK2 aH o5;refine⟨y,?_,?_⟩
    .rw[V7 (show(0:Int)<o8 HH by simp only[o8];omega),o7,r1,x8,nT _ o5,x8,hlatU m hm3,x8,u1,x8];exact y1
    .unfold ZB;rw[if_pos hm4,hm2];exact y2
 obtain⟨y,y1,y2⟩:=key 100 lH [] W H hK aH (by unfold lH;omega);refine(um y1 _).trans ?_;unfold qW;rw[y2];by_cases hl:y.length<s.2.2.2.1.length
 .rw[if_pos hl,V7 (by simp only[o8];omega)];rfl
 .rw[if_neg hl,O6 (by simp only[o8];omega)];rfl
end
end Go.GP
namespace Gt
open Go Go.GP
def il(y:Int):Bool:=if y % 4=0 then(if y % 100≠0 then true else decide (y % 400=0))else false
def ys(y:Int):Int:=(y -1900)*365+((y -1) / 4 -(y -1) / 100+(y -1) / 400) -460
def diy(y:Int):Int:=if il y then 366 else 365
theorem Jy(y:Int):ys (y+1)=ys y+diy y:=by unfold ys diy il;by_cases h4:y % 4=0<;>by_cases h100:y % 100=0<;>by_cases h400:y % 400=0<;>simp[h4,h100,h400]<;>omega
theorem QM(a b:Int):a<b\/b<=a:=o5
theorem Vo(y:Int):365<=diy y/\diy y<=366:=by unfold diy;split<;>omega
theorem uy{y y' :Int}(h:y<=y'):ys y<=ys y' :=by
 obtain⟨n,rfl⟩:∃n:Nat,y' =y+n:=⟨(y' -y).toNat,o5⟩;clear h;induction n with
 |zero=>simp|succ n ih=>have:=Jy (y+n);have:=Vo (y+n);have e:y+((n+1:Nat):Int)=y+n+1:=o5;rw[e];omega
variable {y:Int}
theorem QK(h:1900<=y):0<=ys y:=by
 have:=uy h;have e:ys 1900=0:=by decide+kernel
 omega
theorem b1l{y y' d:Int}(h1:ys y<=d)(h2:d<ys (y+1))(h3:ys y' <=d)(h4:d<ys (y' +1)):y=y' :=by
 rcases Int.lt_trichotomy y y' with h|h|h
 .have:=uy (y:=y+1) (y' :=y') o5;omega
 .exact h
 .have:=uy (y:=y' +1) (y' :=y) o5;omega
def dim(y m:Int):Int:=
 if m=2 then(if il y then 29 else 28)else if m=4\/m=6\/m=9\/m=11 then 30 else 31
theorem DK(y m:Int):28<=dim y m/\dim y m<=31:=by
 unfold dim;repeat' split
 all_goals omega
theorem Ou(h:0<=y):IV y=some (il y):=by
 unfold IV il;simp only[zK h];by_cases h4:y % 4=0
 .rw[En (X0 h4),if_pos h4];by_cases h100:y % 100=0
  .simp[o9,h100]
  .simp[o9,h100]
 .rw[FP (U2 h4),if_neg h4]
theorem NF(h:0<=y):Gf y=some (il y):=Ou h
theorem FK(h:0<=y):kE y=some (diy y):=by unfold kE diy;rw[NF h,x8];cases il y<;>rfl
variable {m:Int}
theorem m12(h:1<=m/\m<=12):m=1\/m=2\/m=3\/m=4\/m=5\/m=6\/m=7\/m=8\/m=9\/m=10\/m=11\/m=12:=o5
theorem uQ(h:0<=y)(hm:1<=m/\m<=12):jZ y m=some (dim y m):=by
 unfold jZ;rcases m12 hm with rfl|rfl|rfl|rfl|rfl|rfl|rfl|rfl|rfl|rfl|rfl|rfl
 all_goals first|rfl|(rw[Ou h];unfold dim;cases il y<;>rfl)
theorem uo(h:0<=y)(hm:1<=m/\m<=12):iw y m=some (dim y m):=by
 unfold iw;rcases m12 hm with rfl|rfl|rfl|rfl|rfl|rfl|rfl|rfl|rfl|rfl|rfl|rfl
 all_goals first|rfl|(rw[NF h];unfold dim;cases il y<;>rfl)
theorem IX(h:0<=y)(h2:y<=1000000):xZ y=some (y / 4 -y / 100+y / 400):=by unfold xZ;simp only[cZ,kH h];rw[mW P6,mW P6,mW P6,V4 P6,Z8 P6]
theorem BR(h:1<=y)(h2:y<=1000000):rJ y=some (ys y):=by unfold rJ;have e1:G8 .i64 y 1900=y -1900:=V4 P6;have e2:Z7 .i64 (y -1900) 365=(y -1900)*365:=mJ P6;rw[V4 (a:=y) (b:=1) P6,IX o5 o5,x8,IX o5 o5,x8,e1,e2,Z8 P6,V4 P6];unfold ys;congr 1
def mo(y:Int):Nat->Int->Int×Int
 |0,d=>(d,13)|n+1,d=>if d<dim y (12 -n)then(d,12 -n)else mo y n (d -dim y (12 -n))
theorem a8V(y:Int)(n:Nat)(d:Int):mo y (n+1) d=if d<dim y (12 -(n:Int))then(d,12 -(n:Int))else mo y n (d -dim y (12 -(n:Int))):=rfl
def rem(y:Int):Nat->Int
 |0=>0|n+1=>dim y (12 -n)+rem y n
theorem b4f(y:Int):rem y 12=diy y:=by unfold diy;cases h:il y<;>simp[rem,dim,h]
theorem b2H(y:Int):∀(n:Nat) (d:Int),n<=12->0<=d->d<rem y n->1<=(mo y n d).2/\(mo y n d).2<=12/\0<=(mo y n d).1/\(mo y n d).1<dim y (mo y n d).2
 |0,d,_,h0,h=>by simp[rem]at h;omega|n+1,d,hn,h0,h=>by
  unfold mo;by_cases hd:d<dim y (12 -n)
  .rw[if_pos hd];refine⟨?_,?_,h0,hd⟩<;>simp<;>omega
  .rw[if_neg hd];refine b2H y n _ o5 o5 ?_;simp only[rem]at h;omega
def yOf(d:Int):Int:=((((List.range 300).find? (λ(k:Nat)=>decide (d<ys (1900+(k:Int)+1)))).getD 0:Nat):Int)+1900
variable {d:Int}
theorem UU(h0:0<=d)(h:d<=109572):1900<=yOf d/\yOf d<=2199/\ys (yOf d)<=d/\d<ys (yOf d+1):=by
 unfold yOf;cases hf:(List.range 300).find? (λ(k:Nat)=>decide (d<ys (1900+(k:Int)+1)))with
 |none=>
  have:=List.find?_eq_none.1 hf 299 A7;simp only[decide_eq_true_eq]at this;have e:ys (1900+(299:Nat)+1)=109573:=by decide+kernel
  omega
 |some k=>
  have h1:=List.find?_some hf;simp only[decide_eq_true_eq]at h1;have h2:=List.mem_of_find?_eq_some hf;simp only[X7]at h2;simp only[fD];refine⟨o5,o5,?_,?_⟩
  .cases k with
   |zero=>
    have e:ys 1900=0:=by decide+kernel
    simp[e,h0]
   |succ j=>have h3:=List.find?_range_eq_some.1 hf;have h4:=h3.2.2 j o5;simp only[dW,decide_eq_false_iff_not,gW]at h4;have e:(((j+1:Nat):Int)+1900)=1900+(j:Int)+1:=o5;rw[e];exact h4
  .have e:(k:Int)+1900+1=1900+k+1:=o5;rw[e];exact h1
def qf(d:Int):Int×Int×Int:=let y:=yOf d;let r:=mo y 12 (d -ys y);(y,r.2,r.1+1)
theorem Eo(h0:0<=d)(h:d<=109572):ww d=some (qf d):=by
 obtain⟨y1,y2,y3,y4⟩:=UU h0 h;have y0:=QK y1;unfold ww wz;rw[En (af h0),x8,af h,G6,o6];have e0:C9 .i64 1900 (cZ .i64 d 366)=1900+d / 366:=by
  have e:cZ .i64 d 366=d / 366:=by rw[Cf (by rw[kH h0];unfold kQ;omega),kH h0]
  rw[e,Z8 P6]
 rw[e0];obtain⟨y,hy,hq⟩:=jg (f:=λ(x:Int)=>l9 (rJ (C9 IntKind.i64 x 1)) λ(x_1:Int)=>l7 (J8 x_1 d) (some (Sum.inl (C9 IntKind.i64 x 1))) (some (Sum.inr x))) (s:=1900+d / 366)
  (λy=>1900<=y/\y<=yOf d) (λy=>y=yOf d) (λy=>(2200 -y).toNat) (by
   refine⟨o5,?_⟩;have e:∀n:Nat,ys (1900+n)<=366*n:=by
    intro n;induction n with
    |zero=>decide+kernel|succ n ih=>have:=Jy (1900+n);have:=Vo (1900+n);have e:(1900:Int)+((n+1:Nat):Int)=1900+n+1:=o5;rw[e];omega
   have e1:=e (d / 366).toNat
   have e2:((d / 366).toNat:Int)=d / 366:=o5;rw[e2]at e1;rcases QM (yOf d) (1900+d / 366)with hlt|hge
   .have:=uy (y:=yOf d+1) (y' :=1900+d / 366) o5;omega
   .exact hge) o5 (by
   intro y ⟨hy1,hy2⟩
   try simp only
   rw[Z8 P6,BR o5 o5,x8];by_cases hle:ys (y+1)<=d
   .refine .inl ⟨y+1,by rw[En (af hle)],⟨o5,?_⟩,o5⟩;rcases QM (yOf d) (y+1)with hlt|hge
    .have:=uy (y:=yOf d+1) (y' :=y+1) o5;omega
    .exact hge
   .refine .inr ⟨y,by rw[FP (aA o5)],?_⟩;rcases QM y (yOf d)with hlt|hge
    .have:=uy (y:=y+1) (y' :=yOf d) o5;omega
    .omega)
 rw[hy,x8,hq,BR o5 o5,x8,V4 P6];have hs:=Jy (yOf d);have hr:=b4f (yOf d);rcases DW (f:=λ(x:Int×Int)=>l7 (E5 x.2 12) (l9 (jZ (yOf d) (C9 IntKind.i64 x.2 1)) λ(x_1:Int)=>l7 (E5 x.1 x_1) (some (Out.rt (yOf d,C9 IntKind.i64 x.2 1,C9 IntKind.i64 x.1 1))) (some (Out.nx (G8 IntKind.i64 x.1 x_1,C9 IntKind.i64 x.2 1)))) (some (Out.ex PUnit.unit))) (s:=(d -ys (yOf d),0))
  (λs=>∃n:Nat,n<=12/\s.2=12 -n/\mo (yOf d) n s.1=mo (yOf d) 12 (d -ys (yOf d))/\0<=s.1/\s.1<rem (yOf d) n/\s.1<=400) (λ_=>False) (λr=>r=qf d) (λs=>(12 -s.2).toNat)
  ⟨12,o5,A7,rfl,o5,by rw[hr];show d -ys (yOf d)<_;omega,by have:=Vo (yOf d);show d -ys (yOf d)<=400;omega⟩ A7 (by
   rintro⟨r,i⟩ ⟨n,hn,hi,hm,hr0,hrn,hr4⟩;simp only at hi hm hr0 hrn hr4 ⊢;cases n with
   |zero=>simp[rem]at hrn;omega|succ n=>
    have ei:i+1=12 -n:=o5;rw[En (V7 o5),Z8 P6,ei,uQ o5 o5,x8];have hb:=DK (yOf d) (12 -n);rw[a8V (yOf d) n r]at hm;by_cases hlt:r<dim (yOf d) (12 -n)
    .rw[if_pos hlt]at hm;refine .inr (.inr ⟨_,by rw[En (V7 hlt)],?_⟩);rw[Z8 P6];unfold qf
     try simp only
     rw[←hm]
    .rw[if_neg hlt]at hm;refine .inl ⟨_,by rw[FP (O6 o5),V4 P6],⟨n,o5,A7,hm,?_,?_,?_⟩,?_⟩
     .simp;omega
     .simp only[rem]at hrn ⊢;omega
     .simp;omega
     .simp;omega)with⟨_,_,hf⟩|⟨r,he,hr⟩
 .exact hf.elim
 .rw[he,x8,Iy,hr]
theorem Pn(h0:0<=d)(h:d<=109572):yF d=some (qf d):=by
 obtain⟨y1,y2,y3,y4⟩:=UU h0 h;have y0:=QK y1;unfold yF uq;rw[En (af h0),x8,af h,G6,o6];obtain⟨⟨r,y⟩,hy,hq⟩:=jg (f:=λ(x:Int×Int)=>l9 (kE x.2) λ(x_1:Int)=>l7 (J8 x_1 x.1) (l9 (kE x.2) λ(x_2:Int)=>some (Sum.inl (G8 IntKind.i64 x.1 x_2,C9 IntKind.i64 x.2 1))) (some (Sum.inr x))) (s:=(d,1900))
  (λs=>1900<=s.2/\s.2<=yOf d/\s.1=d -ys s.2) (λs=>s=(d -ys (yOf d),yOf d)) (λs=>(2200 -s.2).toNat)
  ⟨A7,by simpa using y1,by(have e:ys 1900=0:=by decide+kernel);simp[e]⟩ A7 (by
   rintro⟨r,y⟩ ⟨h1,h2,h3⟩;simp only at h1 h2 h3 ⊢;have hb:=Vo y;have hs:=Jy y;have hm:=uy h2;have hpos:0<=ys y:=by
     have:=uy (y:=1900) (y' :=y) h1;have e:ys 1900=0:=by decide+kernel
     omega
   rw[FK o5,x8];by_cases hle:diy y<=r
   .refine .inl ⟨(r -diy y,y+1),?_,⟨by simp;omega,?_,?_⟩,?_⟩
    .rw[En (af hle),x8,V4 P6,Z8 P6]
    .simp only;rcases QM (yOf d) (y+1)with hlt|hge
     .have:=uy (y:=yOf d+1) (y' :=y+1) o5;omega
     .exact hge
    .simp only;omega
    .simp;omega
   .refine .inr ⟨_,by rw[FP (aA o5)],?_⟩;have e:y=yOf d:=b1l (d:=d) o5 o5 y3 y4;subst e;rw[h3])
 rw[hy,x8,hq]
 try simp only
 have hs:=Jy (yOf d);have hr:=b4f (yOf d);obtain⟨⟨r,m⟩,he,hq2⟩:=jg (f:=λ(x:Int×Int)=>l9 (iw (yOf d) x.2) λ(x_1:Int)=>l7 (J8 x_1 x.1) (l9 (iw (yOf d) x.2) λ(x_2:Int)=>some (Sum.inl (G8 IntKind.i64 x.1 x_2,C9 IntKind.i64 x.2 1))) (some (Sum.inr x))) (s:=(d -ys (yOf d),1))
  (λs=>∃n:Nat,n<=12/\s.2=13 -n/\mo (yOf d) n s.1=mo (yOf d) 12 (d -ys (yOf d))/\0<=s.1/\s.1<rem (yOf d) n/\s.1<=400) (λs=>s=mo (yOf d) 12 (d -ys (yOf d))) (λs=>(13 -s.2).toNat)
  ⟨12,o5,A7,rfl,o5,by rw[hr];show d -ys (yOf d)<_;omega,by have:=Vo (yOf d);show d -ys (yOf d)<=400;omega⟩ A7 (by
   rintro⟨r,i⟩ ⟨n,hn,hi,hm,hr0,hrn,hr4⟩;simp only at hi hm hr0 hrn hr4 ⊢;cases n with
   |zero=>simp[rem]at hrn;omega|succ n=>
    have ei:i=12 -n:=o5;subst ei;rw[uo o5 o5,x8];have hb:=DK (yOf d) (12 -n);rw[a8V (yOf d) n r]at hm;by_cases hlt:r<dim (yOf d) (12 -n)
    .rw[if_pos hlt]at hm;exact .inr ⟨_,by rw[FP (aA o5)],hm⟩
    .rw[if_neg hlt]at hm;refine .inl ⟨(r -dim (yOf d) (12 -n),12 -n+1),by rw[En (af o5),x8,V4 P6,Z8 P6],⟨n,o5,by simp;omega,hm,?_,?_,?_⟩,?_⟩
     .simp;omega
     .simp only[rem]at hrn ⊢;omega
     .simp;omega
     .simp;omega)
 rw[he,x8,hq2];have hb:=b2H (yOf d) 12 (d -ys (yOf d)) o5 o5 (by rw[hr];omega);have hb2:=DK (yOf d) (mo (yOf d) 12 (d -ys (yOf d))).2;rw[Z8 P6];rfl
theorem PX(h0:0<=d)(h:d<=109572):1900<=(qf d).1/\(qf d).1<=2199/\1<=(qf d).2.1/\(qf d).2.1<=12/\1<=(qf d).2.2/\(qf d).2.2<=31:=by
 obtain⟨y1,y2,y3,y4⟩:=UU h0 h;have y0:=QK y1;have hs:=Jy (yOf d);have hb:=b2H (yOf d) 12 (d -ys (yOf d)) o5 o5 (by rw[b4f];omega);have hb2:=DK (yOf d) (mo (yOf d) 12 (d -ys (yOf d))).2;unfold qf
 try simp only
 omega
end Gt
namespace Go.GP
open Gt
set_option maxRecDepth 100000
def wH(y:Int):Nat->Int
 |0=>0|k+1=>wH y k+dim y ((k:Int)+1)
def a3C(y m d:Int):Int:=ys y+wH y (m -1).toNat+d -1
theorem TZ(y:Int):∀k:Nat,k<=12->28*k<=wH y k/\wH y k<=31*k
 |0,_=>by simp[wH]|k+1,h=>by have:=TZ y k o5;have:=DK y ((k:Int)+1);unfold wH;omega
theorem b0p(y:Int):wH y 12=diy y:=by unfold wH wH wH wH wH wH wH wH wH wH wH wH wH dim diy;simp;cases il y<;>simp
theorem a8W(y:Int):∀j k:Nat,j<=k->wH y j<=wH y k
 |j,0,h=>by have:j=0:=o5;subst this;omega|j,k+1,h=>by
  by_cases hq:j=k+1
  .subst hq;omega
  .have:=a8W y j k o5;have:=DK y ((k:Int)+1);show wH y j<=wH y k+dim y ((k:Int)+1);omega
variable {m:Int}{d:Int}{y:Int}
theorem b6Y(hm:1<=m/\m<=12)(h1:1<=d)(h2:d<=dim y m):ys y<=a3C y m d/\a3C y m d<ys (y+1):=by
 have h3:=a8W y ((m -1).toNat+1) 12 o5;rw[b0p]at h3;have h4:wH y ((m -1).toNat+1)=wH y (m -1).toNat+dim y m:=by show wH y (m -1).toNat+dim y (((m -1).toNat:Int)+1)=_;rw[X6 o5];congr 2;omega
 have h5:=TZ y (m -1).toNat o5;have h6:=Jy y;unfold a3C;omega
theorem b6L(h:1900<=y)(h2:y<=2200):0<=ys y/\ys y<=109573:=by
 have h1:=QK h;have h3:=uy h2;have:ys 2200=109573:=by decide
 omega
theorem a6w(hy:1900<=y/\y<=2199)(hm:1<=m/\m<=12)(h1:1<=d)(h2:d<=dim y m):BQ y m d=some (a3C y m d,0):=by
 have hyb:=b6L hy.1 o5;have hdb:=DK y m;unfold BQ;rw[O6 hy.1,o6,O6 hy.2,o6,O6 hm.1,o6,O6 hm.2,o6,O6 h1,o6,uQ o5 hm,x8,O6 h2,o6,x8,aj,BR o5 o5,x8];have hs:G8 .i64 m 1=m -1:=V4 P6;obtain⟨e,k1,k2⟩:=jg (f:=λ(x:Int×Int)=>l7 (E5 x.2 (G8 .i64 m 1)) (l9 (jZ y (C9 .i64 x.2 1)) λ(x_1:Int)=>some (.inl (C9 .i64 x.1 x_1,C9 .i64 x.2 1))) (some (.inr x.1)))
  (s:=(ys y,0)) (λx=>∃i:Nat,x=(ys y+wH y i,(i:Int))/\(i:Int)<=m -1) (λe=>e=ys y+wH y (m -1).toNat) (λx=>(m -1 -x.2).toNat) ⟨0,by simp[wH],o5⟩ aH (by
  rintro x ⟨i,rfl,hi⟩;simp only[hs];by_cases hlt:(i:Int)<m -1
  .have hb:=TZ y i o5;have hd:=DK y ((i:Int)+1);left;refine⟨(ys y+wH y (i+1),((i+1:Nat):Int)),?_,⟨i+1,rfl,o5⟩,by simp;omega⟩;rw[V7 hlt,o7,iy o5,show(((i+1:Nat):Int))=(i:Int)+1 by omega,uQ o5 o5,x8,Z8 P6];simp only[wH];rw[Int.add_assoc]
  .right;have:i=(m -1).toNat:=o5;subst this;exact⟨_,by rw[O6 o5];rfl,rfl⟩)
 refine(um k1 _).trans ?_;have hb:=TZ y (m -1).toNat o5;rw[k2,Z8 P6,V4 P6];rfl
theorem a4M(hy:1900<=y/\y<=2199)(hm:1<=m/\m<=12)(h1:1<=d)(h2:d<=dim y m):zT y m d=some (a3C y m d,0):=by
 have hyb:=b6L hy.1 o5;have hdb:=DK y m;unfold zT;rw[O6 hy.1,o6,O6 hy.2,o6,O6 h1,o6,uo o5 hm,x8,O6 h2,o6,x8,aj,V4 P6];obtain⟨e,k1,k2⟩:=jg (f:=λ(x:Int×Int)=>l7 (E5 x.2 y) (l9 (kE x.2) λ(x_1:Int)=>some (.inl (C9 .i64 x.1 x_1,C9 .i64 x.2 1))) (some (.inr x.1)))
  (s:=(d -1,1900)) (λx=>∃i:Int,x=(d -1+ys i,i)/\1900<=i/\i<=y) (λe=>e=d -1+ys y) (λx=>(y -x.2).toNat) ⟨1900,by simp[show ys 1900=0 by decide],o5,o5⟩ aH (by
  rintro x ⟨i,rfl,hi,hi2⟩;by_cases hlt:i<y
  .left;have hb:=b6L hi o5;have hd:=Vo i;refine⟨(d -1+ys (i+1),i+1),?_,⟨i+1,rfl,o5,o5⟩,by simp;omega⟩;simp only;rw[V7 hlt,o7,FK o5,x8,Z8 P6,Z8 P6,Jy,Int.add_assoc]
  .right;have:i=y:=o5;subst this;exact⟨_,by simp only[O6 (show i<=i by omega)];rfl,rfl⟩)
 refine(um k1 _).trans ?_;subst k2;obtain⟨e,k1,k2⟩:=jg (f:=λ(x:Int×Int)=>l7 (E5 x.2 m) (l9 (iw y x.2) λ(x_1:Int)=>some (.inl (C9 .i64 x.1 x_1,C9 .i64 x.2 1))) (some (.inr x.1)))
  (s:=(d -1+ys y,1)) (λx=>∃i:Nat,x=(d -1+ys y+wH y i,(i:Int)+1)/\(i:Int)<=m -1) (λe=>e=d -1+ys y+wH y (m -1).toNat) (λx=>(m -x.2).toNat) ⟨0,by simp[wH],o5⟩ aH (by
  rintro x ⟨i,rfl,hi⟩;by_cases hlt:(i:Int)+1<m
  .have hb:=TZ y i o5;have hd:=DK y ((i:Int)+1);left;refine⟨(d -1+ys y+wH y (i+1),((i+1:Nat):Int)+1),?_,⟨i+1,rfl,o5⟩,by simp;omega⟩;simp only;rw[V7 hlt,o7,uo o5 o5,x8,Z8 P6,Z8 P6];simp only[wH];rw[Int.add_assoc (d -1+ys y)];simp
  .right;have:i=(m -1).toNat:=o5;subst this;exact⟨_,by simp only[O6 (show m<=((m -1).toNat:Int)+1 by omega)];rfl,rfl⟩)
 refine(um k1 _).trans ?_;rw[k2];unfold a3C;rw[show d -1+ys y+wH y (m -1).toNat=ys y+wH y (m -1).toNat+d -1 by omega]
def a9I(d n:Int):Int×Int:=
 if ¬(0<=d/\d<=109572)\/n< -3600\/3600<n then(0,3)else
  if((qf d).1 -1900)*12+(qf d).2.1 -1+n<0\/3599<((qf d).1 -1900)*12+(qf d).2.1 -1+n then(0,3)else
   (a3C (1900+(((qf d).1 -1900)*12+(qf d).2.1 -1+n) / 12) ((((qf d).1 -1900)*12+(qf d).2.1 -1+n) % 12+1) (qG (qf d).2.2 (dim (1900+(((qf d).1 -1900)*12+(qf d).2.1 -1+n) / 12) ((((qf d).1 -1900)*12+(qf d).2.1 -1+n) % 12+1))),0)
theorem Qm(a b:Int):qG a b=if b<a then b else a:=rfl
theorem Tn(d n:Int):vG d n=some (a9I d n):=by
 unfold vG wz a9I;by_cases h0:0<=d/\d<=109572
 case neg=>
  rw[if_pos (.inl h0)];by_cases h1:0<=d
  .rw[af h1,aA o5];rfl
  .rw[aA o5];rfl
 rw[af h0.1,af h0.2,o7,x8,G6,o6];by_cases h1:n< -3600
 .rw[V7 h1,if_pos (.inr (.inl h1))];rfl
 by_cases h2:3600<n
 .rw[O6 o5,V7 h2,if_pos (.inr (.inr h2))];rfl
 rw[O6 o5,O6 o5,if_neg o5,o6,o6,x8,aj,Eo h0.1 h0.2,x8];obtain⟨b1,b2,b3,b4,b5,b6⟩:=PX h0.1 h0.2;generalize qf d=q at*;obtain⟨y,m,dd⟩:=q;simp only at b1 b2 b3 b4 b5 b6 ⊢;have e1:G8 .i64 y 1900=y -1900:=V4 P6;have e2:Z7 .i64 (y -1900) 12=(y -1900)*12:=mJ P6;have e3:C9 .i64 ((y -1900)*12) m=(y -1900)*12+m:=Z8 P6;have e4:G8 .i64 ((y -1900)*12+m) 1=(y -1900)*12+m -1:=V4 P6;have e5:C9 .i64 ((y -1900)*12+m -1) n=(y -1900)*12+m -1+n:=Z8 P6;rw[e1,e2,e3,e4,e5];generalize ht:(y -1900)*12+m -1+n=t;by_cases t0:t<0
 .rw[V7 t0,if_pos (.inl t0)];rfl
 by_cases t1:3599<t
 .rw[O6 o5,V7 t1,if_pos (.inr t1)];rfl
 rw[O6 o5,O6 o5,if_neg o5,o6,o6];have e6:cZ .i64 t 12=t / 12:=by rw[Cf (by rw[kH o5];unfold kQ;omega),kH o5]
 have e7:dG t 12=t % 12:=zK o5;have e8:C9 .i64 1900 (t / 12)=1900+t / 12:=Z8 P6;have e9:C9 .i64 (t % 12) 1=t % 12+1:=Z8 P6;rw[e6,e7,e8,e9,uQ o5 o5,x8];have hd:=DK (1900+t / 12) (t % 12+1);rw[a6w o5 o5 (by rw[Qm];split<;>omega) (by rw[Qm];split<;>omega)];rfl
theorem Rj(d n:Int):qC d n=some (a9I d n):=by
 unfold qC uq a9I;by_cases h0:0<=d/\d<=109572
 case neg=>
  rw[if_pos (.inl h0)];by_cases h1:0<=d
  .rw[af h1,aA o5];rfl
  .rw[aA o5];rfl
 rw[af h0.1,af h0.2,o7,x8,G6,o6];by_cases h1:n< -3600
 .rw[V7 h1,if_pos (.inr (.inl h1))];rfl
 by_cases h2:3600<n
 .rw[O6 o5,V7 h2,if_pos (.inr (.inr h2))];rfl
 rw[O6 o5,O6 o5,if_neg o5,o6,o6,x8,aj,Pn h0.1 h0.2,x8];obtain⟨b1,b2,b3,b4,b5,b6⟩:=PX h0.1 h0.2;generalize qf d=q at*;obtain⟨y,m,dd⟩:=q;simp only at b1 b2 b3 b4 b5 b6 ⊢;have e2:Z7 .i64 12 y=12*y:=mJ P6;have e3:C9 .i64 (12*y) m=12*y+m:=Z8 P6;have e4:G8 .i64 (12*y+m) 1=12*y+m -1:=V4 P6;have e5:C9 .i64 (12*y+m -1) n=12*y+m -1+n:=Z8 P6;rw[e2,e3,e4,e5];generalize ht:(y -1900)*12+m -1+n=t;have hk:12*y+m -1+n=t+22800:=o5;rw[hk];have e6:cZ .i64 (t+22800) 12=1900+t / 12:=by rw[Cf (by rw[kH o5];unfold kQ;omega),kH o5];omega
 have e7:dG (t+22800) 12=t % 12:=by rw[zK o5];omega
 have e9:C9 .i64 (t % 12) 1=t % 12+1:=Z8 P6;rw[e6,e7,e9,uo o5 o5,x8];have hd:=DK (1900+t / 12) (t % 12+1);by_cases t0:t<0
 .rw[if_pos (.inl t0)];unfold zT;rw[V7 (show 1900+t / 12<1900 by omega)];rfl
 by_cases t1:3599<t
 .rw[if_pos (.inr t1)];unfold zT;rw[O6 (show 1900<=1900+t / 12 by omega),V7 (show 2199<1900+t / 12 by omega)];rfl
 rw[if_neg o5,a4M o5 o5 (by rw[Qm];split<;>omega) (by rw[Qm];split<;>omega)];rfl
def yrl(a k:Int):Int:=a3C ((qf a).1+k) (qf a).2.1 (qG (qf a).2.2 (dim ((qf a).1+k) (qf a).2.1))
variable {a:Int}
theorem a0i(h0:0<=a/\a<=109572){k:Int}(hk:0<=k)(hk2:k<=300):a9I a (12*k)=if(qf a).1+k<=2199 then(yrl a k,0)else(0,3):=by
 obtain⟨b1,b2,b3,b4,b5,b6⟩:=PX h0.1 h0.2;unfold a9I yrl;rw[if_neg o5];generalize qf a=q at*;obtain⟨y,m,dd⟩:=q;simp only at b1 b2 b3 b4 b5 b6 ⊢;have e1:1900+((y -1900)*12+m -1+12*k) / 12=y+k:=o5;have e2:((y -1900)*12+m -1+12*k) % 12+1=m:=o5;by_cases h:y+k<=2199
 .rw[if_neg o5,if_pos h,e1,e2]
 .rw[if_pos o5,if_neg h]
theorem b6K(h0:0<=a/\a<=109572)(k:Int):ys ((qf a).1+k)<=yrl a k/\yrl a k<ys ((qf a).1+k+1):=by obtain⟨b1,b2,b3,b4,b5,b6⟩:=PX h0.1 h0.2;have hd:=DK ((qf a).1+k) (qf a).2.1;unfold yrl;exact b6Y ⟨b3,b4⟩ (by rw[Qm];split<;>omega) (by rw[Qm];split<;>omega)
theorem UV(h0:0<=a/\a<=109572):ys (qf a).1<=a/\a<ys ((qf a).1+1):=by have:=UU h0.1 h0.2;exact⟨this.2.2.1,this.2.2.2⟩
def a2U(a b:Int):Int:=if 0<=a/\a<=109572/\0<=b/\b<=109572/\a<=b then
  (if(qf b).1 -(qf a).1<=0 then 0 else if yrl a ((qf b).1 -(qf a).1)<=b then(qf b).1 -(qf a).1 else(qf b).1 -(qf a).1 -1)else 0
theorem Xx(a b:Int):qg a b=some (a2U a b):=by
 unfold qg wz a2U;by_cases ha0:0<=a
 case neg=>rw[aA o5,if_neg o5];rfl
 by_cases ha1:a<=109572
 case neg=>rw[af ha0,aA o5,if_neg o5];rfl
 rw[af ha0,af ha1,o7,x8,G6,o6];by_cases hb0:0<=b
 case neg=>rw[aA o5,if_neg o5];rfl
 by_cases hb1:b<=109572
 case neg=>rw[af hb0,aA o5,if_neg o5];rfl
 rw[af hb0,af hb1,o7,x8,G6,o6];by_cases hab:a<=b
 case neg=>rw[V7 o5,if_neg o5];rfl
 rw[O6 hab,o6,if_pos ⟨ha0,ha1,hb0,hb1,hab⟩,Eo ha0 ha1,x8,Eo hb0 hb1,x8];obtain⟨p1,p2,_,_,_,_⟩:=PX ha0 ha1;obtain⟨q1,q2,_,_,_,_⟩:=PX hb0 hb1;have ya:=UV ⟨ha0,ha1⟩;have yb:=UV ⟨hb0,hb1⟩;have hK:0<=(qf b).1 -(qf a).1:=by
  rcases QM (qf b).1 (qf a).1 with h|h
  .have:=uy (show(qf b).1+1<=(qf a).1 by omega);omega
  .omega
 rw[V4 (show kQ ((qf b).1 -(qf a).1) by unfold kQ;omega)];have hle:(qf a).1+((qf b).1 -(qf a).1)<=2199:=o5;generalize (qf b).1 -(qf a).1=K at*;rw[mJ (show kQ (12*K) by unfold kQ;omega),Tn,x8,a0i ⟨ha0,ha1⟩ hK o5,if_pos hle];simp only[X0 (rfl:(0:Int)=0),G6,o6];rw[V4 (show kQ (K -1) by unfold kQ;omega)];have im:∀x:Int,mZ x 0=if x<0 then 0 else x:=λx=>rfl;by_cases hz:K<=0
 .have:K=0:=o5;subst this;rw[if_pos o5];cases E5 b (yrl a 0)<;>rfl
 .rw[if_neg hz];by_cases hq:yrl a K<=b
  .rw[if_pos hq,O6 hq,o6,im,if_neg o5]
  .rw[if_neg hq,V7 o5,o7,im,if_neg o5]
theorem VK(a b:Int):wJ a b=some (a2U a b):=by
 unfold wJ uq a2U;by_cases ha0:0<=a
 case neg=>rw[aA o5,if_neg o5];rfl
 by_cases ha1:a<=109572
 case neg=>rw[af ha0,aA o5,if_neg o5];rfl
 rw[af ha0,af ha1,o7,x8,G6,o6];by_cases hb0:0<=b
 case neg=>rw[aA o5,if_neg o5];rfl
 by_cases hb1:b<=109572
 case neg=>rw[af hb0,aA o5,if_neg o5];rfl
 rw[af hb0,af hb1,o7,x8,G6,o6];obtain⟨p1,p2,_,_,_,_⟩:=PX ha0 ha1;obtain⟨q1,q2,_,_,_,_⟩:=PX hb0 hb1;have ya:=UV ⟨ha0,ha1⟩;have yb:=UV ⟨hb0,hb1⟩;have key:=DW (f:=λ(x:Int)=>l9 (qC a (Z7 .i64 12 (C9 .i64 x 1))) λ(x_1:Int×Int)=>l7 (D9 (o9 x_1.2 0)) (some (.rt x)) (l7 (E5 b x_1.1) (some (.rt x)) (some (.nx (C9 .i64 x 1)))))
  (s:=0) (λx=>0<=x/\(x=0\/(x<=(qf b).1 -(qf a).1/\yrl a x<=b))) (λ(_:PUnit)=>False) (λr=>r=(if a<=b then(if(qf b).1 -(qf a).1<=0 then 0 else if yrl a ((qf b).1 -(qf a).1)<=b then(qf b).1 -(qf a).1 else(qf b).1 -(qf a).1 -1)else 0)) (λx=>(300 -x).toNat) ⟨o5,.inl rfl⟩ A7 (by
  rintro x ⟨hx0,hx⟩;have hx300:x<=299:=o5;rw[Z8 (show kQ (x+1) by unfold kQ;omega),mJ (show kQ (12*(x+1)) by unfold kQ;omega),Rj,x8,a0i ⟨ha0,ha1⟩ o5 o5];have hyb:=b6K ⟨ha0,ha1⟩ (x+1);have hyx:=b6K ⟨ha0,ha1⟩ x;have hmono:ys ((qf a).1+x+1)<=ys ((qf a).1+(x+1)):=uy o5;have hax:a<yrl a (x+1):=by have:=uy (show(qf a).1+1<=(qf a).1+(x+1) by omega);omega
  by_cases hq:(qf a).1+(x+1)<=2199/\yrl a (x+1)<=b
  .left;obtain⟨hq1,hq2⟩:=hq;have hK:x+1<=(qf b).1 -(qf a).1:=by
    rcases QM (qf b).1 ((qf a).1+(x+1))with h|h
    .have:=uy (show(qf b).1+1<=(qf a).1+(x+1) by omega);omega
    .omega
   refine⟨x+1,?_,⟨o5,.inr ⟨hK,hq2⟩⟩,o5⟩;rw[if_pos hq1];simp only[X0 (rfl:(0:Int)=0),G6,o6,O6 hq2]
  .right;right;refine⟨x,?_,?_⟩
   .by_cases hq1:(qf a).1+(x+1)<=2199
    .rw[if_pos hq1];simp only[X0 (rfl:(0:Int)=0),G6,o6,V7 (show b<yrl a (x+1) by omega),o7]
    .rw[if_neg hq1];rfl
   .by_cases hab:a<=b
    case neg=>
     rw[if_neg hab];by_cases hx1:x=0
     .exact hx1
     .exfalso;have:=uy (show(qf a).1+1<=(qf a).1+x by omega);omega
    rw[if_pos hab];have hK:0<=(qf b).1 -(qf a).1:=by
     rcases QM (qf b).1 (qf a).1 with h|h
     .have:=uy (show(qf b).1+1<=(qf a).1 by omega);omega
     .omega
    have hxK:x<=(qf b).1 -(qf a).1:=o5;by_cases hxe:x=(qf b).1 -(qf a).1
    .by_cases hz:(qf b).1 -(qf a).1<=0
     .rw[if_pos hz];omega
     .rw[if_neg hz];rcases hx with hx|hx
      .omega
      .rw[←hxe,if_pos hx.2]
    .have hlt:x+1<=(qf b).1 -(qf a).1:=o5;rw[if_neg o5];have hyr:(qf a).1+(x+1)<=2199:=o5;have hgt:b<yrl a (x+1):=by
      have:=λh=>hq ⟨hyr,h⟩;omega
     have heq:x+1=(qf b).1 -(qf a).1:=by
      rcases QM (x+1) ((qf b).1 -(qf a).1)with h|h
      .have:=uy (show(qf a).1+(x+1)+1<=(qf b).1 by omega);omega
      .omega
     rw[←heq,if_neg o5];omega)
 rcases key with⟨e,_,h⟩|⟨r,k1,k2⟩
 .exact h.elim
 .refine(um k1 _).trans ?_;rw[k2];by_cases hab:a<=b
  .rw[if_pos hab,if_pos (show 0<=a/\a<=109572/\0<=b/\b<=109572/\a<=b from⟨ha0,ha1,hb0,hb1,hab⟩)];rfl
  .rw[if_neg hab,if_neg o5];rfl
def a8N:d4H:=(List.range 256).map λn=>UInt8.ofNat (if n=0 then 0 else Nat.log2 n+1)
theorem b2y:∀n:Fin 256,∃k:Fin 9,a8N[n.val]? =some (UInt8.ofNat k.val)/\n.val<2^k.val/\(0<n.val->0<k.val/\2^(k.val -1)<=n.val):=by decide+kernel
def a9E(n:Int)(k:Nat):Prop:=n<2^k/\(0<n->0<k/\2^(k -1)<=n)
variable {n:Int}
theorem b8r(h0:0<=n)(h:n<256):wrap .u8 n=n:=by unfold wrap IntKind.wrap;simp[IntKind.signed,IntKind.bits];omega
theorem b7f(h0:0<=n)(h:n<256):∃k:Nat,k<=8/\sat a8N (wrap .u8 n)=some (k:Int)/\a9E n k:=by
 rw[b8r h0 h];obtain⟨k,k1,k2,k3⟩:=b2y ⟨n.toNat,o5⟩;refine⟨k.val,o5,?_,?_,λhp=>?_⟩
 .unfold sat
  rw[if_pos h0];simp only at k1;rw[k1];simp;have:=k.isLt;omega
 .simp only at k2;have:((n.toNat:Nat):Int)<((2^k.val:Nat):Int):=o5;rw[X6 h0,uj]at this;exact this
 .simp only at k3;obtain⟨a,b⟩:=k3 o5;refine⟨a,?_⟩;have:((2^(k.val -1):Nat):Int)<=((n.toNat:Nat):Int):=o5;rw[X6 h0,uj]at this;exact this
theorem TN{k:Nat}(hk:k<=64):uG .u64 n (k:Int)=n / 2^k:=by unfold uG;rw[Y3,show IntKind.bits .u64=64 from rfl,show min k 64=k by omega];exact Int.fdiv_eq_ediv_of_nonneg _ (Int.pow_nonneg o5)
theorem a9E.shift{j k:Nat}(h:a9E (n / 2^j) k)(hn:2^j<=n):a9E n (j+k):=by
 have hp:(0:Int)<2^j:=Int.pow_pos o5;have h1:0<n / 2^j:=by have:=rQ hp (show 1*2^j<=n by omega);omega
 obtain⟨a,b⟩:=h;obtain⟨b1,b2⟩:=b h1;have hdm:=Int.mul_ediv_add_emod n (2^j);have hm:=N7 n hp;have hm0:=P5 n (show(2:Int)^j≠0 by omega);refine⟨?_,λ_=>⟨o5,?_⟩⟩
 .have:(2:Int)^j*(n / 2^j+1)<=2^j*2^k:=Int.mul_le_mul_of_nonneg_left o5 o5;rw[Int.mul_add,Int.mul_one]at this;rw[Int.pow_add];omega
 .have:(2:Int)^j*2^(k -1)<=2^j*(n / 2^j):=Int.mul_le_mul_of_nonneg_left b2 o5;rw[show j+k -1=j+(k -1) by omega,Int.pow_add];omega
theorem b2x:(MW:d4H)=a8N:=by decide+kernel
theorem pJ(h0:0<=n)(h:n<=1000):wrap .i64 n=n:=mW P6
variable {b:Int}
theorem Nz(h0:0<=a)(h1:a<=1000)(h2:0<=b)(h3:b<=1000):C9 .i64 a b=a+b:=Z8 P6
theorem b2w(h0:0<=n)(h:n<18446744073709551616):∃k:Nat,k<=64/\Am n=some (k:Int)/\a9E n k:=by
 have s32:∀m:Int,uG .u64 m 32=m / 2^32:=λm=>TN (k:=32) o5;have s16:∀m:Int,uG .u64 m 16=m / 2^16:=λm=>TN (k:=16) o5;have s8:∀m:Int,uG .u64 m 8=m / 2^8:=λm=>TN (k:=8) o5;unfold Am;rw[b2x,s32,s16,s16,s8,s8,s8,s8];have ow:∀(m:Int) (a:Int) (K:Nat),0<=m->m<256->a=(K:Int)->K<=56->∀(g:Int->Int),(∀x,0<=x->x<=8->g x=a+x)->∃k:Nat,k<=8/\(l9 (sat a8N (wrap .u8 m)) λ(x:Int)=>some (g x))=some (((K+k:Nat):Int))/\a9E m k:=by intro m a K m0 m1 ha hK g hg;obtain⟨k,k1,k2,k3⟩:=b7f m0 m1;refine⟨k,k1,?_,k3⟩;rw[k2,x8,hg _ o5 o5,ha];simp
 by_cases c32:4294967296<=n
 .rw[af c32,o7];by_cases c16:65536<=n / 2^32
  .rw[af c16,o7];by_cases c8:256<=n / 2^32 / 2^16
   .rw[af c8,o7];obtain⟨k,k1,k2,k3⟩:=ow (n / 2^32 / 2^16 / 2^8) 56 56 o5 o5 rfl o5 (λx=>C9 .i64 (C9 .i64 (C9 .i64 32 16) 8) (wrap .i64 x)) (λx x0 x1=>by
     rw[pJ x0 o5,show C9 .i64 (C9 .i64 32 16) 8=56 by decide,Nz o5 o5 o5 o5])
    exact⟨56+k,o5,k2,by have:=((k3.shift (j:=8) o5).shift (j:=16) o5).shift (j:=32) o5;rw[show 32+(16+(8+k))=56+k by omega]at this;exact this⟩
   .rw[aA o5,o6];obtain⟨k,k1,k2,k3⟩:=ow (n / 2^32 / 2^16) 48 48 o5 o5 rfl o5 (λx=>C9 .i64 (C9 .i64 32 16) (wrap .i64 x)) (λx x0 x1=>by
     rw[pJ x0 o5,Nz (a:=32) o5 o5 o5 o5,Nz o5 o5 o5 o5];rfl)
    exact⟨48+k,o5,k2,by have:=(k3.shift (j:=16) o5).shift (j:=32) o5;rw[show 32+(16+k)=48+k by omega]at this;exact this⟩
  .rw[aA o5,o6];by_cases c8:256<=n / 2^32
   .rw[af c8,o7];obtain⟨k,k1,k2,k3⟩:=ow (n / 2^32 / 2^8) 40 40 o5 o5 rfl o5 (λx=>C9 .i64 (C9 .i64 32 8) (wrap .i64 x)) (λx x0 x1=>by
     rw[pJ x0 o5,Nz (a:=32) o5 o5 o5 o5,Nz o5 o5 o5 o5];rfl)
    exact⟨40+k,o5,k2,by have:=(k3.shift (j:=8) o5).shift (j:=32) o5;rw[show 32+(8+k)=40+k by omega]at this;exact this⟩
   .rw[aA o5,o6];obtain⟨k,k1,k2,k3⟩:=ow (n / 2^32) 32 32 o5 o5 rfl o5 (λx=>C9 .i64 32 (wrap .i64 x)) (λx x0 x1=>by
     rw[pJ x0 o5,Nz o5 o5 o5 o5])
    exact⟨32+k,o5,k2,k3.shift (j:=32) o5⟩
 .rw[aA o5,o6];by_cases c16:65536<=n
  .rw[af c16,o7];by_cases c8:256<=n / 2^16
   .rw[af c8,o7];obtain⟨k,k1,k2,k3⟩:=ow (n / 2^16 / 2^8) 24 24 o5 o5 rfl o5 (λx=>C9 .i64 (C9 .i64 (C9 .i64 0 16) 8) (wrap .i64 x)) (λx x0 x1=>by
     rw[pJ x0 o5,show C9 .i64 (C9 .i64 0 16) 8=24 by decide,Nz o5 o5 o5 o5])
    exact⟨24+k,o5,k2,by have:=(k3.shift (j:=8) o5).shift (j:=16) o5;rw[show 16+(8+k)=24+k by omega]at this;exact this⟩
   .rw[aA o5,o6];obtain⟨k,k1,k2,k3⟩:=ow (n / 2^16) 16 16 o5 o5 rfl o5 (λx=>C9 .i64 (C9 .i64 0 16) (wrap .i64 x)) (λx x0 x1=>by
     rw[pJ x0 o5,Nz (a:=0) o5 o5 o5 o5,Nz o5 o5 o5 o5];rfl)
    exact⟨16+k,o5,k2,k3.shift (j:=16) o5⟩
  .rw[aA o5,o6];by_cases c8:256<=n
   .rw[af c8,o7];obtain⟨k,k1,k2,k3⟩:=ow (n / 2^8) 8 8 o5 o5 rfl o5 (λx=>C9 .i64 (C9 .i64 0 8) (wrap .i64 x)) (λx x0 x1=>by
     rw[pJ x0 o5,Nz (a:=0) o5 o5 o5 o5,Nz o5 o5 o5 o5];rfl)
    exact⟨8+k,o5,k2,k3.shift (j:=8) o5⟩
   .rw[aA o5,o6];obtain⟨k,k1,k2,k3⟩:=ow n 0 0 o5 o5 rfl o5 (λx=>C9 .i64 0 (wrap .i64 x)) (λx x0 x1=>by
     rw[pJ x0 o5,Nz o5 o5 o5 o5])
    exact⟨0+k,o5,k2,by rw[iq];exact k3⟩
theorem FB(h0:0<=n)(h:n<18446744073709551616):IntKind.wrap .u64 n=n:=b6I (by unfold U64;omega)
theorem zX(n:Int):IntKind.wrap .u64 n=n % 18446744073709551616:=by unfold IntKind.wrap;simp[IntKind.signed,IntKind.bits]
def a6R{σ ε:Type}(f:σ->Option (σ⊕ε))(m:Nat)(o:Option (σ⊕ε)):Option ε:=match o with
 |some (.inl s')=>sZ f m s'|some (.inr e)=>some e|none=>none
theorem b0o{σ ε:Type}(f:σ->Option (σ⊕ε))(m:Nat)(s:σ):sZ f (m+1) s=a6R f m (f s):=by
 rw[sZ];unfold a6R;cases f s with
 |none=>rfl|some o=>cases o<;>rfl
variable {σ:Type}
theorem YB(mkp:Int->Int->σ){f:σ->Option (σ⊕Int)}{y1 y0 U d:Int}(hy1:2147483648<=y1)(hy1' :y1<4294967296)(hy0:0<=y0)(hy0' :y0<4294967296)(hU:0<=U)(hUY:U<y1*4294967296+y0)(hd:0<=d)(hd' :d<4294967296)
  (hf:∀q r,0<=q->q<=4294967297->0<=r->r<4294967296->f (mkp q r)=l7 (J8 4294967296 q) (l7 (J8 4294967296 (C9 .u64 r y1)) (some (.inr (G8 .u64 q 1))) (some (.inl (mkp (G8 .u64 q 1) (C9 .u64 r y1)))))
   (l7 (E5 (C9 .u64 (Z7 .u64 4294967296 r) d) (Z7 .u64 q y0)) (l7 (J8 4294967296 (C9 .u64 r y1)) (some (.inr (G8 .u64 q 1))) (some (.inl (mkp (G8 .u64 q 1) (C9 .u64 r y1))))) (some (.inr q)))):
  ∃Q,aX f (mkp (U / y1) (U -U / y1*y1))=some Q/\0<=Q/\Q<4294967296/\Q*(y1*4294967296+y0)<=U*4294967296+d/\U*4294967296+d<(Q+1)*(y1*4294967296+y0):=by
 obtain⟨Y,hY⟩:∃Y,Y=y1*4294967296+y0:=⟨_,rfl⟩;have hYe:∀q:Int,q*Y=q*y1*4294967296+q*y0:=λq=>by rw[hY,Int.mul_add,←Int.mul_assoc]
 have hq0:0<=U / y1:=Y2 hU o5;have hdm:=X3 U y1;have hm0:=P5 U (show y1≠0 by omega);have hm1:=N7 U (show 0<y1 by omega);have hqB:U / y1<=4294967297:=by
  rcases QM 4294967297 (U / y1)with h|h
  .have:=O0 (show 4294967298<=U / y1 by omega) (show 0<=y1 by omega);omega
  .exact h
 obtain⟨n,hn⟩:∃n,n=(U / y1).toNat+1:=⟨_,rfl⟩;have key:∀(n:Nat) (q r:Int),0<=q->q<=4294967297->0<=r->r<4294967296->U=q*y1+r->U*4294967296+d<(q+1)*Y->q.toNat<n->∀m,n<=m->∃Q,sZ f m (mkp q r)=some Q/\0<=Q/\Q<4294967296/\Q*Y<=U*4294967296+d/\U*4294967296+d<(Q+1)*Y:=by
  intro n;induction n with
  |zero=>intro q r _ _ _ _ _ _ h;omega|succ n ih=>
   intro q r q0 qB r0 rB hUq hlt hqn m hm;obtain⟨m,rfl⟩:∃m',m=m' +1:=⟨m -1,o5⟩;rw[b0o,hf q r q0 qB r0 rB];have e1:=hYe q;have e2:(q+1)*Y=q*Y+Y:=by rw[iP,fZ]
   have hry:C9 .u64 r y1=r+y1:=FB o5 o5;have g0:0<=q*y0:=P7 q0 hy0;have less:U*4294967296+d<q*Y->1<=q/\G8 .u64 q 1=q -1/\U=(q -1)*y1+(r+y1)/\(q -1+1)*Y=q*Y/\(q -1)*Y=q*Y -Y/\(q -1)*y0=q*y0 -y0:=by
    intro hgt;have hq1:1<=q:=by
     rcases QM q 1 with h|h
     .have:q=0:=o5;subst this;simp at hgt;omega
     .exact h
    refine⟨hq1,FB o5 o5,?_,?_,?_,?_⟩
    .rw[lS,fZ];omega
    .rw[show q -1+1=q by omega]
    .rw[lS,fZ]
    .rw[lS,fZ]
   have dec:U*4294967296+d<q*Y->∃Q,a6R f m (l7 (J8 4294967296 (r+y1)) (some (Sum.inr (G8 .u64 q 1))) (some (Sum.inl (mkp (G8 .u64 q 1) (r+y1)))))=some Q/\0<=Q/\Q<4294967296/\Q*Y<=U*4294967296+d/\U*4294967296+d<(Q+1)*Y:=by
    intro hgt;obtain⟨l1,l2,l3,l4,l5,l6⟩:=less hgt;rw[l2];by_cases hr:4294967296<=r+y1
    .rw[af hr];have h6:(q -1)*y0<=4294967296*y0:=O0 o5 hy0;have h7:=hYe (q -1);have hle:(q -1)*Y<=U*4294967296+d:=by rw[h7,l3];omega
     refine⟨q -1,rfl,o5,?_,hle,by rw[l4];exact hgt⟩;rcases QM (q -1) 4294967296 with h|h
     .exact h
     .have:=O0 h (show 0<=Y by omega);omega
    .rw[aA o5];exact ih (q -1) (r+y1) o5 o5 o5 o5 l3 (by rw[l4];exact hgt) o5 m o5
   by_cases hqb:4294967296<=q
   .rw[af hqb,o7,hry];have:=O0 hqb (show 0<=Y by omega);exact dec o5
   .rw[aA o5,o6,hry];have g1:q*y0<=4294967295*y0:=O0 o5 hy0;have m1:Z7 .u64 4294967296 r=4294967296*r:=FB o5 o5;have m2:C9 .u64 (4294967296*r) d=4294967296*r+d:=FB o5 o5;have m3:Z7 .u64 q y0=q*y0:=FB g0 o5;rw[m1,m2,m3];by_cases hc:4294967296*r+d<q*y0
    .rw[V7 hc,o7];exact dec (by rw[e1];omega)
    .rw[O6 o5,o6];exact⟨q,rfl,q0,o5,by rw[e1];omega,hlt⟩
 rw[←hY];refine key n (U / y1) (U -U / y1*y1) hq0 hqB o5 o5 o5 ?_ o5 lH (by unfold lH;omega);have e1:=hYe (U / y1);rw[iP,fZ,e1];have:=P7 hq0 hy0;omega
theorem TB(h0:0<=n)(h:n<18446744073709551616):(BitVec.ofInt 64 n).toNat=n.toNat:=by rw[BitVec.toNat_ofInt];have e:((2^64:Nat):Int)=18446744073709551616:=rfl;rw[e,Int.emod_eq_of_lt h0 h]
theorem a0I(h0:0<=n)(h:n<18446744073709551616):a3V .u64 n 4294967295=n % 4294967296:=by unfold a3V;rw[show IntKind.bits .u64=64 from rfl,BitVec.toNat_and,TB h0 h,TB F8 F8];rw[show(4294967295:Int).toNat=2^32 -1 from rfl,Nat.and_two_pow_sub_one_eq_mod];rw[FB o5 o5];omega
theorem b7d{a c:Int}{s:Nat}(ha0:0<=a)(hc0:0<=c)(hc:c<2^s)(h:a*2^s+c<18446744073709551616):ior .u64 (a*2^s) c=a*2^s+c:=by
 have hp:(0:Int)<2^s:=Int.pow_pos o5;have hap:0<=a*2^s:=P7 ha0 o5;unfold ior;rw[show IntKind.bits .u64=64 from rfl,BitVec.toNat_or,TB hap o5,TB hc0 o5];obtain⟨m,rfl⟩:∃m:Nat,a=(m:Int):=⟨a.toNat,o5⟩;obtain⟨k,rfl⟩:∃k:Nat,c=(k:Int):=⟨c.toNat,o5⟩;have hk:k<2^s:=by exact_mod_cast hc
 have e1:((m:Int)*2^s).toNat=m<<<s:=by
  rw[Nat.shiftLeft_eq];have:((m:Int)*2^s)=((m*2^s:Nat):Int):=by rw[ui,uj];rfl
  rw[this];rfl
 rw[e1,Y3,←Nat.shiftLeft_add_eq_or_of_lt hk,Nat.shiftLeft_eq];have e2:((m*2^s+k:Nat):Int)=(m:Int)*2^s+(k:Int):=by rw[Int.natCast_add,ui,uj];rfl
 rw[e2];exact FB o5 h
theorem a3B(a b c d:Int):G8 .u64 (C9 .u64 (Z7 .u64 a 4294967296) b) (Z7 .u64 c d)=(a*4294967296+b -c*d) % 18446744073709551616:=by unfold G8 C9 Z7;rw[zX,zX,zX,zX];generalize c*d=z;omega
theorem c3Y(h0:0<y)(h:y<18446744073709551616):∃s:Nat,s<=63/\oO y=some (s:Int)/\9223372036854775808<=y*2^s/\y*2^s<18446744073709551616:=by
 obtain⟨k,k1,k2,k3,k4⟩:=b2w (n:=y) o5 h;obtain⟨k5,k6⟩:=k4 h0;refine⟨64 -k,o5,?_,?_,?_⟩
 .unfold oO;rw[k2,x8,V4 P6];congr 1;omega
 .have:=O0 k6 (show(0:Int)<=2^(64 -k)from Int.pow_nonneg o5);rw[←Int.pow_add,show k -1+(64 -k)=63 by omega]at this;exact this
 .have:=Int.mul_lt_mul_of_pos_right k3 (show(0:Int)<2^(64 -k)from Int.pow_pos o5);rw[←Int.pow_add,show k+(64 -k)=64 by omega]at this;exact this
theorem Qn(ha:0<=a)(ha' :a<18446744073709551616)(hb:0<b):qH .u64 a b=some (a / b):=by unfold qH;rw[if_neg o5,kH ha];have h1:=Y2 ha (show 0<=b by omega);have h2:=fA b ha;rw[FB h1 o5]
theorem Bv(ha:0<=a)(hb:0<b):zt a b=some (a % b):=by unfold zt;rw[if_neg o5];congr 1;exact zK ha
theorem YE{hi lo y:Int}(h0:0<=hi)(h1:hi<y)(hy:y<18446744073709551616)(l0:0<=lo)(l1:lo<18446744073709551616):
  ny hi lo y=some ((hi*18446744073709551616+lo) / y,(hi*18446744073709551616+lo) % y):=by
 unfold ny;rw[U2 (show y≠0 by omega),o6,x8,aA h1,o6,x8];by_cases hz:hi=0
 .subst hz;rw[X0 rfl,o7,Qn l0 l1 o5,x8,Bv l0 o5,x8];simp
 rw[U2 hz,o6];obtain⟨s,s1,s2,s3,s4⟩:=c3Y (y:=y) o5 hy;rw[s2,x8,show wrap .u64 ((s:Nat):Int)=(s:Int)from FB o5 o5,show G8 .u64 64 (s:Int)=((64 -s:Nat):Int) by unfold G8;rw[FB o5 o5];omega];have hshl:∀v:Int,Zb .u64 v (s:Int)=some ((v*2^s) % 18446744073709551616):=λv=>by unfold Zb b2o;rw[if_neg o5,Y3,show IntKind.bits .u64=64 from rfl,show min s 64=s by omega,zX]
 have hshr:∀(v:Int) (k:Nat),k<=64->Zc .u64 v (k:Int)=some (v / 2^k):=λv k hk=>by unfold Zc;rw[if_neg o5,TN hk]
 rw[hshl,x8,hshl,x8,hshr _ _ o5,x8,hshl,x8];have hpp:(2:Int)^s*2^(64 -s)=18446744073709551616:=by rw[←Int.pow_add,show s+(64 -s)=64 by omega];rfl
 have hp:(0:Int)<2^s:=Int.pow_pos o5;have hp' :(0:Int)<2^(64 -s):=Int.pow_pos o5;have hcb:lo / 2^(64 -s)<2^s:=mO hp' (by rw[hpp];exact l1);have hc0:0<=lo / 2^(64 -s):=Y2 l0 o5;have hcd:=X3 lo (2^(64 -s));have he0:=P5 lo (show(2:Int)^(64 -s)≠0 by omega);have he1:=N7 lo hp';have hioP:∀a c:Int,0<=a->0<=c->c<2^s->a*2^s+c<18446744073709551616->ior .u64 (a*2^s) c=a*2^s+c:=λa c a0 c0 c1 h=>b7d a0 c0 c1 h;have hshrs:∀v:Int,Zc .u64 v (s:Int)=some (v / 2^s):=λv=>hshr v s o5;generalize (2:Int)^s=p at*;generalize (2:Int)^(64 -s)=p' at*;generalize lo / p' =c at*;generalize lo % p' =e at*;have hlop:lo*p=c*18446744073709551616+e*p:=by rw[←hcd,iP,Int.mul_assoc,Int.mul_comm p' p,hpp]
 have hep0:0<=e*p:=P7 he0 o5;have hep1:e*p<18446744073709551616:=by have:=Int.mul_lt_mul_of_pos_right he1 hp;rw[Int.mul_comm p' p,hpp]at this;exact this
 rw[show(lo*p) % 18446744073709551616=e*p by omega];have hhp0:0<=hi*p:=P7 h0 o5;have hhp1:hi*p<=y*p -p:=by have:=O0 (show hi<=y -1 by omega) (show 0<=p by omega);rw[lS,fZ]at this;exact this
 rw[show(y*p) % 18446744073709551616=y*p by omega,show(hi*p) % 18446744073709551616=hi*p by omega,hioP hi c h0 hc0 hcb o5];have hN:(hi*18446744073709551616+lo)*p=(hi*p+c)*18446744073709551616+e*p:=by rw[iP,hlop,jF];omega
 have hsh32:∀v:Int,uG .u64 v 32=v / 4294967296:=λv=>TN (k:=32) o5;rw[hsh32,hsh32,a0I o5 s4,a0I hep0 hep1];obtain⟨Y,hY⟩:∃Y,Y=y*p:=⟨_,rfl⟩;obtain⟨N,hNN⟩:∃N,N=hi*18446744073709551616+lo:=⟨_,rfl⟩;rw[←hNN]at hN ⊢;rw[←hY]at s3 s4 hhp1 ⊢;generalize hU:hi*p+c=U at*;generalize e*p=E at*;have hUY:U<Y:=o5;have hU0:0<=U:=o5;obtain⟨Q1,q1,q2,q3,q4,q5⟩:=YB (σ:=Int×Int) (λq r=>(q,r)) (y1:=Y / 4294967296) (y0:=Y % 4294967296) (U:=U) (d:=E / 4294967296) o5 o5 o5 o5 hU0 o5 o5 o5
  (f:=λ(x:Int×Int)=>l7 (J8 4294967296 x.1) (l7 (J8 4294967296 (C9 .u64 x.2 (Y / 4294967296))) (some (.inr (G8 .u64 x.1 1))) (some (.inl (G8 .u64 x.1 1,C9 .u64 x.2 (Y / 4294967296))))) (l7 (E5 (C9 .u64 (Z7 .u64 4294967296 x.2) (E / 4294967296)) (Z7 .u64 x.1 (Y % 4294967296))) (l7 (J8 4294967296 (C9 .u64 x.2 (Y / 4294967296))) (some (.inr (G8 .u64 x.1 1))) (some (.inl (G8 .u64 x.1 1,C9 .u64 x.2 (Y / 4294967296))))) (some (.inr x.1))))
  (λq r _ _ _ _=>rfl)
 have hYe:Y / 4294967296*4294967296+Y % 4294967296=Y:=o5;rw[hYe]at q4 q5;have hst:∀V:Int,0<=V->V<Y->G8 .u64 V (Z7 .u64 (V / (Y / 4294967296)) (Y / 4294967296))=V -V / (Y / 4294967296)*(Y / 4294967296):=λV v0 v1=>by have a1:=X3 V (Y / 4294967296);have a2:=P5 V (show Y / 4294967296≠0 by omega);have a3:=N7 V (show 0<Y / 4294967296 by omega);have a4:=P7 (Y2 v0 (show 0<=Y / 4294967296 by omega)) (show 0<=Y / 4294967296 by omega);rw[show Z7 .u64 (V / (Y / 4294967296)) (Y / 4294967296)=V / (Y / 4294967296)*(Y / 4294967296)from FB a4 o5];exact FB o5 o5
 rw[Qn hU0 o5 o5,x8,hst U hU0 hUY];refine(um q1 _).trans ?_;rw[a3B];have hA1:(Q1+1)*Y=Q1*Y+Y:=by rw[iP,fZ]
 rw[hA1]at q5;obtain⟨A1,hAA⟩:∃A1,A1=Q1*Y:=⟨_,rfl⟩;rw[←hAA]at q4 q5 ⊢;rw[show(U*4294967296+E / 4294967296 -A1) % 18446744073709551616=U*4294967296+E / 4294967296 -A1 by omega];generalize hV:U*4294967296+E / 4294967296 -A1=V at*;have hV0:0<=V:=o5;have hVY:V<Y:=o5;obtain⟨Q0,r1,r2,r3,r4,r5⟩:=YB (σ:=Int×Int) (λq r=>(r,q)) (y1:=Y / 4294967296) (y0:=Y % 4294967296) (U:=V) (d:=E % 4294967296) o5 o5 o5 o5 hV0 o5 o5 o5
  (f:=λ(x:Int×Int)=>l7 (J8 4294967296 x.2) (l7 (J8 4294967296 (C9 .u64 x.1 (Y / 4294967296))) (some (.inr (G8 .u64 x.2 1))) (some (.inl (C9 .u64 x.1 (Y / 4294967296),G8 .u64 x.2 1)))) (l7 (E5 (C9 .u64 (Z7 .u64 4294967296 x.1) (E % 4294967296)) (Z7 .u64 x.2 (Y % 4294967296))) (l7 (J8 4294967296 (C9 .u64 x.1 (Y / 4294967296))) (some (.inr (G8 .u64 x.2 1))) (some (.inl (C9 .u64 x.1 (Y / 4294967296),G8 .u64 x.2 1)))) (some (.inr x.2))))
  (λq r _ _ _ _=>rfl)
 rw[hYe]at r4 r5;rw[Qn hV0 o5 o5,x8,hst V hV0 hVY];refine(um r1 _).trans ?_;rw[a3B];have hA0:(Q0+1)*Y=Q0*Y+Y:=by rw[iP,fZ]
 rw[hA0]at r5;have hQY:(Q1*4294967296+Q0)*Y=A1*4294967296+Q0*Y:=by rw[iP,jF,←hAA]
 generalize Q0*Y=A0 at*;rw[show(V*4294967296+E % 4294967296 -A0) % 18446744073709551616=V*4294967296+E % 4294967296 -A0 by omega,hshrs,x8];rw[show Z7 .u64 Q1 4294967296=Q1*4294967296 from FB o5 o5,show C9 .u64 (Q1*4294967296) Q0=Q1*4294967296+Q0 from FB o5 o5];generalize hQ:Q1*4294967296+Q0=Q at*;have hR:V*4294967296+E % 4294967296 -A0=(N -Q*y)*p:=by rw[lS,Int.mul_assoc,←hY,hQY,hN];omega
 rw[hR];have hge:0<=N -Q*y:=by
  rcases QM (N -Q*y) 0 with h|h
  .have:=O0 (show N -Q*y<=-1 by omega) (show 0<=p by omega);omega
  .exact h
 have hlt:N -Q*y<y:=by
  rcases QM (N -Q*y) y with h|h
  .exact h
  .have:=O0 h (show 0<=p by omega);omega
 have hq:N / y=Q:=by have e1:N=(N -Q*y)+Q*y:=o5;rw[e1,aY _ _ o5,lW hge hlt];omega
 have hr:N % y=N -Q*y:=by have:=X3 N y;rw[hq]at this;omega
 rw[hq,hr,Int.mul_ediv_cancel _ o5]
def ax(n:Int):Int:=if n<0 then -n else n
def upS(q r d:Int)(neg:Bool)(mode:Int):Bool:=l7 (o9 r 0) false (l7 (o9 mode 0) neg (l7 (o9 mode 1) (D9 neg) (l7 (o9 mode 3) true (l7 (o9 mode 4) (J8 (d -r) r) (l7 (o9 mode 5) (l7 (E5 (d -r) r) true (l7 (o9 r (d -r)) (o9 (dG q 2) 1) false)) false)))))
def q1(q:Int)(u:Bool):Int:=l7 u (q+1) q
def sg(q:Int)(neg:Bool):Int:=l7 neg (-q) q
def pU(m:Int):Bool:=l7 (J8 0 m) (J8 m 5) false
theorem Dq(m:Int):tJ m=some (pU m):=by unfold tJ pU;cases J8 0 m<;>rfl
theorem Uo(m:Int):Io m=some (pU m):=Dq m
theorem WQ(m:Int):CU m=some (pU m):=Dq m
def kZ(n m:Int):Bool:=l7 (E5 m n) true (E5 n (-m))
theorem xe(n:Int)(h0:0<=m)(h:m<=9000000000000000000):oP n m=some (kZ n m):=by unfold oP kZ;rw[V4 P6,show(0:Int) -m=-m by omega];cases E5 m n<;>rfl
theorem uH(n:Int)(h0:0<=m)(h:m<=9000000000000000000):kD n m=some (kZ n m):=xe n h0 h
theorem zS(n:Int)(h0:0<=m)(h:m<=9000000000000000000):yE n m=some (kZ n m):=xe n h0 h
theorem yC(n:Int)(h0:0<=m)(h:m<=9000000000000000000):lD n m=some (kZ n m):=xe n h0 h
theorem qL(h:kZ n m=false):-m<=n/\n<=m:=by
 unfold kZ at h;cases h1:E5 m n<;>rw[h1]at h
 .rw[gU]at h1;simp only[o6]at h;rw[gU]at h;omega
 .cases h
theorem a5S(h:kZ n m=true):n< -m\/m<n:=by
 unfold kZ at h;cases h1:E5 m n<;>rw[h1]at h
 .simp only[o6]at h;rw[ku]at h;omega
 .rw[ku]at h1;omega
theorem TA :kZ n m=true↔n< -m\/m<n:=by
 constructor
 .exact a5S
 .intro h;cases hq:kZ n m
  .have:=qL hq;omega
  .rfl
theorem Qg(h:-m<=n/\n<=m):kZ n m=false:=by
 cases hq:kZ n m
 .rfl
 .have:=a5S hq;omega
theorem CQ(h:-9000000000000000000<=n)(h2:n<=9000000000000000000):nz n=some (ax n):=by
 unfold nz ax;by_cases h0:n<0
 .rw[V7 h0,if_pos h0,o7];congr 1;show IntKind.wrap .u64 (0 -IntKind.wrap .u64 n)=_;rw[zX,zX];omega
 .rw[O6 o5,if_neg h0,o6,show wrap .u64 n=n from FB o5 o5]
theorem QA(h:-9000000000000000000<=n)(h2:n<=9000000000000000000):BD n=some (ax n):=by
 unfold BD ax;by_cases h0:n<0
 .rw[V7 h0,if_pos h0,V4 P6];simp
 .rw[O6 o5,if_neg h0];rfl
variable {q:Int}
theorem a1k(neg:Bool)(h0:0<=q)(h:q<=9000000000000000000):CS q neg=some (sg q neg):=by unfold CS sg;rw[show wrap .i64 q=q from mW P6,V4 P6,show(0:Int) -q=-q by omega];cases neg<;>rfl
variable {r:Int}
theorem Xc(neg:Bool)(mode:Int)(hq:0<=q)(hq2:q<=9000000000000000000)(hr:0<=r)(hrd:r<d)(hd:d<=9000000000000000000):pV q r d neg mode=some (q1 q (upS q r d neg mode)):=by
 unfold pV upS q1;rw[show C9 .u64 q 1=q+1 from FB o5 o5,show G8 .u64 d r=d -r from FB o5 o5];cases o9 r 0
 case true=>rfl
 cases o9 mode 0
 case true=>cases neg<;>rfl
 cases o9 mode 1
 case true=>cases neg<;>rfl
 cases o9 mode 3
 case true=>rfl
 cases o9 mode 4
 case true=>cases J8 (d -r) r<;>rfl
 cases o9 mode 5
 .rfl
 cases E5 (d -r) r
 case true=>rfl
 cases o9 r (d -r)
 .rfl
 cases o9 (dG q 2) 1<;>rfl
theorem a4V(neg:Bool)(mode:Int)(hr:0<=r)(hrd:r<d)(hd:d<=9000000000000000000):Ew q r d neg mode=some (upS q r d neg mode):=by
 unfold Ew upS;rw[show G8 .u64 d r=d -r from FB o5 o5];cases o9 r 0
 case true=>rfl
 cases o9 mode 0
 case true=>rfl
 cases o9 mode 1
 case true=>rfl
 cases o9 mode 3
 case true=>rfl
 cases o9 mode 4
 case true=>rfl
 cases o9 mode 5
 .rfl
 cases E5 (d -r) r
 case true=>rfl
 cases o9 r (d -r)<;>rfl
theorem EJ(neg:Bool)(mode:Int)(hq:0<=q)(hq2:q<=9000000000000000000)(hr:0<=r)(hrd:r<d)(hd:d<=9000000000000000000):oQ q r d neg mode=some (sg (q1 q (upS q r d neg mode)) neg):=by
 unfold oQ upS q1 sg;rw[Z8 (show kQ (q+1) by unfold kQ;omega),V4 (show kQ (d -r) by unfold kQ;omega),V4 (show kQ (0 -(q+1)) by unfold kQ;omega),V4 (show kQ (0 -q) by unfold kQ;omega),show(0:Int) -(q+1)=-(q+1) by omega,show(0:Int) -q=-q by omega];by_cases hz:r=0
 .rw[X0 hz,O6 (show r<=0 by omega),aA (show r<d -r by omega),O6 (show r<=d -r by omega),U2 (show r≠d -r by omega)];cases o9 mode 0<;>cases o9 mode 1<;>cases o9 mode 3<;>cases o9 mode 4<;>cases o9 mode 5<;>cases neg<;>rfl
 .rw[U2 hz,V7 (show 0<r by omega)];cases o9 mode 0
  case true=>cases neg<;>rfl
  cases o9 mode 1
  case true=>cases neg<;>rfl
  cases o9 mode 3
  case true=>cases neg<;>rfl
  cases o9 mode 4
  case true=>cases J8 (d -r) r<;>cases neg<;>rfl
  cases o9 mode 5
  .cases neg<;>rfl
  cases E5 (d -r) r
  case true=>cases neg<;>rfl
  cases o9 r (d -r)
  .cases neg<;>rfl
  cases o9 (dG q 2) 1<;>cases neg<;>rfl
theorem lQ(n:Int):0<=ax n:=by unfold ax;split<;>omega
theorem yX(h:-m<=n/\n<=m):ax n<=m:=by unfold ax;split<;>omega
theorem OL(h:n≠0):0<ax n:=by unfold ax;split<;>omega
def rnd(n d mode:Int):Int:=sg (q1 (ax n / ax d) (upS (ax n / ax d) (ax n % ax d) (ax d) (D9 (jY (E5 n 0) (E5 d 0))) mode)) (D9 (jY (E5 n 0) (E5 d 0)))
def a6l(n d mode:Int):Int×Int:=l7 (pU mode) (l7 (o9 d 0) (0,12) (l7 (kZ n 4611686018427387904) (0,3) (l7 (kZ d 4611686018427387904) (0,3) (rnd n d mode,0)))) (0,1)
theorem ZI(q:Int)(u:Bool):q<=q1 q u/\q1 q u<=q+1:=by unfold q1;cases u<;>simp only[o7,o6]<;>omega
theorem IZ(n d mode:Int):jS n d mode=some (a6l n d mode):=by
 unfold jS a6l;rw[Dq,x8];cases pU mode
 .rfl
 simp only[G6,o6,o7];cases hd:o9 d 0
 case true=>rfl
 rw[zC]at hd;simp only[o6];rw[xe n o5 o5,x8];cases h1:kZ n 4611686018427387904
 case true=>rfl
 simp only[o6];rw[xe d o5 o5,x8];cases h2:kZ d 4611686018427387904
 case true=>rfl
 have b1:=qL h1;have b2:=qL h2;have a1:=lQ n;have a2:=yX b1;have a3:=OL hd;have a4:=yX b2;have e0:=Y2 a1 (show 0<=ax d by omega);have e1:=fA (ax d) a1;have e2:=P5 (ax n) (show ax d≠0 by omega);have e3:=N7 (ax n) a3;have q:=ZI (ax n / ax d) (upS (ax n / ax d) (ax n % ax d) (ax d) (D9 (jY (E5 n 0) (E5 d 0))) mode);simp only[o6];rw[CQ o5 o5,x8,CQ o5 o5,x8,Qn a1 o5 a3,x8,Bv a1 a3,x8,Xc _ _ e0 o5 e2 e3 o5,x8,a1k _ o5 o5];rfl
theorem xh(ha:0<=a)(ha' :a<=9000000000000000000)(hb:0<b):qH .i64 a b=some (a / b):=by unfold qH;rw[if_neg o5,kH ha];have h1:=Y2 ha (show 0<=b by omega);have h2:=fA b ha;rw[mW P6]
theorem a2k(n d mode:Int):CW n d mode=some (a6l n d mode):=by
 unfold CW a6l;rw[Uo,x8];cases pU mode
 .rfl
 simp only[G6,o6,o7];cases hd:o9 d 0
 case true=>rfl
 rw[zC]at hd;simp only[o6];rw[uH n o5 o5,x8];cases h1:kZ n 4611686018427387904
 case true=>rfl
 simp only[o6];rw[uH d o5 o5,x8];cases h2:kZ d 4611686018427387904
 case true=>rfl
 have b1:=qL h1;have b2:=qL h2;have a1:=lQ n;have a2:=yX b1;have a3:=OL hd;have a4:=yX b2;have e0:=Y2 a1 (show 0<=ax d by omega);have e1:=fA (ax d) a1;have e2:=P5 (ax n) (show ax d≠0 by omega);have e3:=N7 (ax n) a3;simp only[o6];rw[QA o5 o5,x8,QA o5 o5,x8,xh a1 o5 a3,x8,Bv a1 a3,x8,EJ _ _ e0 o5 e2 e3 o5];rfl
def toS(c u mode:Int):Int×Int:=l7 (pU mode) (l7 (E5 u 1) (0,12) (l7 (kZ c 1000000000000000) (0,3) (l7 (E5 1000000000000000 u) (0,3) (l7 (kZ (Z7 .i64 (rnd c u mode) u) 1000000000000000) (0,3) (Z7 .i64 (rnd c u mode) u,0))))) (0,1)
theorem a7f(c u mode:Int):zQ c u mode=some (toS c u mode):=by
 unfold zQ toS;rw[Dq,x8];cases hm:pU mode
 .rfl
 simp only[G6,o6,o7];cases hu:E5 u 1
 case true=>rfl
 rw[gU]at hu;simp only[o6];rw[xe c o5 o5,x8];cases h1:kZ c 1000000000000000
 case true=>rfl
 have b1:=qL h1;simp only[o6];cases h2:E5 1000000000000000 u
 case true=>rfl
 rw[gU]at h2;simp only[o6];have n1:kZ c 4611686018427387904=false:=Qg o5;have n2:kZ u 4611686018427387904=false:=Qg o5;rw[IZ,x8];unfold a6l;rw[hm,U2 (show u≠0 by omega),n1,n2];simp only[o7,o6,X0 (rfl:(0:Int)=0),G6];rw[xe _ o5 o5,x8];cases kZ (Z7 .i64 (rnd c u mode) u) 1000000000000000<;>rfl
theorem a4O(c u mode:Int):Ey c u mode=some (toS c u mode):=by
 unfold Ey toS;rw[Uo,x8];cases hm:pU mode
 .rfl
 simp only[G6,o6,o7];cases hu:E5 u 1
 case true=>rfl
 rw[gU]at hu;simp only[o6];rw[uH c o5 o5,x8];cases h1:kZ c 1000000000000000
 case true=>rfl
 have b1:=qL h1;simp only[o6];cases h2:E5 1000000000000000 u
 case true=>rfl
 rw[gU]at h2;simp only[o6];have a1:=lQ c;have a2:=yX b1;have hu' :ax u=u:=by unfold ax;rw[if_neg o5]
 have e0:=Y2 a1 (show 0<=u by omega);have e1:=fA u a1;have e2:=P5 (ax c) (show u≠0 by omega);have e3:=N7 (ax c) (show 0<u by omega);rw[QA o5 o5,x8,xh a1 o5 o5,x8,Bv a1 o5,x8,EJ _ _ e0 o5 e2 e3 o5,x8];have hr:sg (q1 (ax c / u) (upS (ax c / u) (ax c % u) u (E5 c 0) mode)) (E5 c 0)=rnd c u mode:=by unfold rnd;rw[hu',show D9 (jY (E5 c 0) (E5 u 0))=E5 c 0 by rw[O6 (show(0:Int)<=u by omega)];cases E5 c 0<;>rfl]
 rw[hr,uH _ o5 o5,x8];cases kZ (Z7 .i64 (rnd c u mode) u) 1000000000000000<;>rfl
def mdS(c num den mode:Int):Int×Int:=l7 (pU mode) (l7 (o9 den 0) (0,12) (l7 (kZ c 1000000000000000) (0,3) (l7 (kZ num 1000000000) (0,3) (l7 (kZ den 1000000000) (0,3)
 (l7 (E5 1000000000000000 (q1 (ax c*ax num / ax den) (upS (ax c*ax num / ax den) (ax c*ax num % ax den) (ax den) (D9 (jY (D9 (jY (E5 c 0) (E5 num 0))) (E5 den 0))) mode))) (0,3)
  (sg (q1 (ax c*ax num / ax den) (upS (ax c*ax num / ax den) (ax c*ax num % ax den) (ax den) (D9 (jY (D9 (jY (E5 c 0) (E5 num 0))) (E5 den 0))) mode)) (D9 (jY (D9 (jY (E5 c 0) (E5 num 0))) (E5 den 0))),0)))))) (0,1)
theorem Ua(a0:0<=a)(a1:a<18446744073709551616)(b0:0<=b)(b1:b<18446744073709551616):uY a b=some (a*b / 18446744073709551616,a*b % 18446744073709551616):=by unfold uY;rw[if_pos ⟨a0,a1,b0,b1⟩]
theorem b0q(c num den mode:Int):FZ c num den mode=some (mdS c num den mode):=by
 unfold FZ mdS;rw[Dq,x8];cases pU mode
 .rfl
 simp only[G6,o6,o7];cases hd:o9 den 0
 case true=>rfl
 rw[zC]at hd;simp only[o6];rw[xe c o5 o5,x8];cases h1:kZ c 1000000000000000
 case true=>rfl
 rw[xe num o5 o5];cases h2:kZ num 1000000000
 case true=>rfl
 rw[xe den o5 o5];cases h3:kZ den 1000000000
 case true=>rfl
 have b1:=qL h1;have b2:=qL h2;have b3:=qL h3;have a1:=lQ c;have a2:=yX b1;have x1:=lQ num;have x2:=yX b2;have d1:=OL hd;have d2:=yX b3;simp only[o6,x8,aj];rw[CQ o5 o5,x8,CQ o5 o5,x8,Ua a1 o5 x1 o5,x8,CQ o5 o5,x8];have hA:0<=ax c*ax num:=P7 a1 x1;generalize ax c*ax num=A at*;generalize ax den=b at*;have hre:A / 18446744073709551616*18446744073709551616+A % 18446744073709551616=A:=o5;have q:=ZI (A / b) (upS (A / b) (A % b) b (D9 (jY (D9 (jY (E5 c 0) (E5 num 0))) (E5 den 0))) mode);have hdm:=X3 A b;have e2:=P5 A (show b≠0 by omega);have e3:=N7 A d1;have e0:=Y2 hA (show 0<=b by omega);by_cases hh:b<=A / 18446744073709551616
 .have hge:18446744073709551616<=A / b:=rQ d1 o5;rw[af hh,V7 (show(1000000000000000:Int)<q1 (A / b) (upS (A / b) (A % b) b (D9 (jY (D9 (jY (E5 c 0) (E5 num 0))) (E5 den 0))) mode) by omega)];rfl
 .rw[aA o5,o6,YE o5 o5 o5 o5 o5,x8,hre];simp only;by_cases hM:1000000000000000<A / b
  .rw[V7 hM,V7 (show(1000000000000000:Int)<q1 (A / b) (upS (A / b) (A % b) b (D9 (jY (D9 (jY (E5 c 0) (E5 num 0))) (E5 den 0))) mode) by omega)];rfl
  .rw[O6 o5,o6,Xc _ _ e0 o5 e2 e3 o5,x8];cases hq:E5 1000000000000000 (q1 (A / b) (upS (A / b) (A % b) b (D9 (jY (D9 (jY (E5 c 0) (E5 num 0))) (E5 den 0))) mode))
   .rw[gU]at hq;rw[o6,a1k _ o5 o5];rfl
   .rfl
theorem b1J(h:0<=q)(neg:Bool)(hm:0<=m):kZ (sg q neg) m=E5 m q:=by rw[pK,TA,ku];unfold sg;cases neg<;>simp only[o7,o6]<;>omega
theorem a7b(c num den mode:Int):LY c num den mode=some (mdS c num den mode):=by
 unfold LY mdS;rw[Uo,x8];cases pU mode
 .rfl
 simp only[G6,o6,o7];cases hd:o9 den 0
 case true=>rfl
 rw[zC]at hd;simp only[o6];rw[uH c o5 o5,x8];cases h1:kZ c 1000000000000000
 case true=>rfl
 rw[uH num o5 o5];cases h2:kZ num 1000000000
 case true=>rfl
 rw[uH den o5 o5];cases h3:kZ den 1000000000
 case true=>rfl
 have b1:=qL h1;have b2:=qL h2;have b3:=qL h3;have a1:=lQ c;have a2:=yX b1;have x1:=lQ num;have x2:=yX b2;have d1:=OL hd;have d2:=yX b3;simp only[o6,x8,aj];rw[QA o5 o5,x8,QA o5 o5,x8,QA o5 o5,x8];generalize D9 (jY (D9 (jY (E5 c 0) (E5 num 0))) (E5 den 0))=neg;generalize ax c=a at*;generalize ax num=x at*;generalize ax den=b at*;have hdm:=X3 a b;have f0:=Y2 a1 (show 0<=b by omega);have f1:=P5 a (show b≠0 by omega);have f2:=N7 a d1;have m1:0<=a % b*x:=P7 f1 x1;have m2:a % b*x<=1000000000*1000000000:=kK o5 x2 x1 o5;have m3:0<=a / b*x:=P7 f0 x1;have hA:a*x=a / b*x*b+a % b*x:=by
  calc a*x=(a / b*b+a % b)*x:=by rw[hdm]
   _=_:=by rw[iP,jF]
 have hQ:a*x / b=a / b*x+a % b*x / b:=by rw[hA,Int.add_comm,aY _ _ o5,Int.add_comm]
 have hR:a*x % b=a % b*x % b:=by rw[hA,Int.add_comm,bV]
 have g0:=Y2 m1 (show 0<=b by omega);have g1:=fA b m1;have g2:=P5 (a % b*x) (show b≠0 by omega);have g3:=N7 (a % b*x) d1;have tail:a / b*x<=1000000000000000->(l9 (zt a b) λ(x_5:Int)=>l9 (some (a / b)) λ(x_8:Int)=>l9 (qH .i64 (Z7 .i64 x_5 x) b) λ(x_6:Int)=>l9 (zt (Z7 .i64 x_5 x) b) λ(x_7:Int)=>
   l9 (oQ (C9 .i64 (Z7 .i64 x_8 x) x_6) x_7 b neg mode) λ(x_9:Int)=>l9 (kD x_9 1000000000000000) λ(x_8:Bool)=>l7 x_8 (some ((0:Int),(3:Int))) (some (x_9,0)))=
   some (l7 (E5 1000000000000000 (q1 (a*x / b) (upS (a*x / b) (a*x % b) b neg mode))) (0,3) (sg (q1 (a*x / b) (upS (a*x / b) (a*x % b) b neg mode)) neg,0)):=by
  intro hle;have q:=ZI (a / b*x+a % b*x / b) (upS (a / b*x+a % b*x / b) (a % b*x % b) b neg mode);rw[Bv a1 d1,x8,x8,mJ (show kQ (a % b*x) by unfold kQ;omega),xh m1 o5 d1,x8,Bv m1 d1,x8,mJ (show kQ (a / b*x) by unfold kQ;omega),Z8 (show kQ (a / b*x+a % b*x / b) by unfold kQ;omega),
   EJ _ _ o5 o5 g2 g3 o5,x8,uH _ o5 o5,x8,b1J o5 _ o5,hQ,hR]
  cases E5 1000000000000000 (q1 (a / b*x+a % b*x / b) (upS (a / b*x+a % b*x / b) (a % b*x % b) b neg mode))<;>rfl
 by_cases hx:0<x
 .rw[V7 hx,o7,xh a1 o5 d1,x8,xh o5 o5 hx,x8];have hMx:=X3 1000000000000000 x;have hMr:=N7 1000000000000000 hx;have hMr0:=P5 1000000000000000 (show x≠0 by omega);by_cases hc:1000000000000000 / x<a / b
  .have:=O0 (show 1000000000000000 / x+1<=a / b by omega) x1;rw[iP,fZ]at this;have q:=ZI (a*x / b) (upS (a*x / b) (a*x % b) b neg mode);rw[V7 hc,V7 (show(1000000000000000:Int)<q1 (a*x / b) (upS (a*x / b) (a*x % b) b neg mode) by omega)];rfl
  .have:=O0 (show a / b<=1000000000000000 / x by omega) x1;rw[O6 o5,o6];exact tail o5
 .have:x=0:=o5;rw[O6 o5,o6,xh a1 o5 d1];exact tail (by subst this;simp)
theorem b1E(c r mode:Int):Ik c r mode=some (mdS c r 1000000 mode):=by unfold Ik;rw[b0q];rfl
theorem b0O(c r mode:Int):Ji c r mode=some (mdS c r 1000000 mode):=by unfold Ji;rw[a7b];rfl
theorem a3N(h1:-9000000000000000000<=n)(h2:n<=9000000000000000000)(hd:0<d)(hd2:d<=9000000000000000000):BF n d=some (n / d,n % d):=by
 unfold BF qH zt;rw[if_neg o5,if_neg o5,x8,x8];by_cases h0:0<=n
 .have e0:=Y2 h0 (show 0<=d by omega);have e1:=fA d h0;have e2:=P5 n (show d≠0 by omega);rw[kH h0,fK h0,mW P6,O6 e2];rfl
 .obtain⟨m,hm⟩:∃m,m=-n:=⟨_,rfl⟩;have hn:n=-m:=o5;subst hn;have e0:=Y2 (show 0<=m by omega) (show 0<=d by omega);have e1:=fA d (show 0<=m by omega);have e2:=P5 m (show d≠0 by omega);have e3:=N7 m hd;have hdm:=X3 m d;rw[Int.neg_tdiv,Int.neg_tmod,kH o5,fK o5,mW P6];by_cases hz:m % d=0
  .rw[hz,show -(0:Int)=0 from rfl,O6 o5,o6];have hme:-m=0+(-(m / d))*d:=by rw[kz];omega
   have q1:-m / d=-(m / d):=by rw[hme,aY _ _ o5];simp
   have q2:-m % d=0:=by rw[hme,bV];simp
   rw[q1,q2]
  .rw[V7 o5,o7,V4 P6,Z8 P6];have hme:-m=(d -m % d)+(-(m / d) -1)*d:=by rw[lS,kz,fZ];omega
   have q1:-m / d=-(m / d) -1:=by rw[hme,aY _ _ o5,lW o5 o5];omega
   have q2:-m % d=d -m % d:=by rw[hme,bV,Int.emod_eq_of_lt o5 o5]
   rw[q1,q2,show -(m % d)+d=d -m % d by omega]
theorem Je(h:pU m=true):m=0\/m=1\/m=2\/m=3\/m=4\/m=5:=by
 unfold pU at h;cases h0:J8 0 m<;>rw[h0]at h
 .cases h
 .simp only[o7]at h;rw[sK]at h0 h;omega
variable {mode:Int}
theorem Jm(h1:-9000000000000000000<=n / d)(h2:n / d<=9000000000000000000)(hd:0<d)(hd2:d<=9000000000000000000)(hm:pU mode=true):dX (n / d) (n % d) d mode=some (rnd n d mode):=by
 have hdm:=X3 n d;have f0:=P5 n (show d≠0 by omega);have f1:=N7 n hd;have hid:ax d=d:=by unfold ax;rw[if_neg o5]
 have hneg:D9 (jY (E5 n 0) (E5 d 0))=E5 n 0:=by rw[O6 (show(0:Int)<=d by omega)];cases E5 n 0<;>rfl
 unfold rnd;rw[hid,hneg];have R0:∀F R:Int,dX F R d 0=l7 (o9 R 0) (some F) (some F):=λF R=>rfl;have R1:∀F R:Int,dX F R d 1=l7 (o9 R 0) (some F) (some (C9 .i64 F 1)):=λF R=>rfl;have R2:∀F R:Int,dX F R d 2=l7 (o9 R 0) (some F) (l9 (l7 (E5 F 0) (some true) (some false)) λx=>l7 x (some (C9 .i64 F 1)) (some F)):=λF R=>rfl;have R3:∀F R:Int,dX F R d 3=l7 (o9 R 0) (some F) (l9 (some (J8 0 F)) λx=>l7 x (some (C9 .i64 F 1)) (some F)):=λF R=>rfl;have R4:∀F R:Int,dX F R d 4=l7 (o9 R 0) (some F) (l7 (o9 R (G8 .i64 d R)) (l7 (J8 0 F) (some (C9 .i64 F 1)) (some F)) (l7 (E5 (G8 .i64 d R) R) (some (C9 .i64 F 1)) (some F))):=λF R=>rfl;have R5:∀F R:Int,dX F R d 5=l7 (o9 R 0) (some F) (l7 (o9 R (G8 .i64 d R)) (l7 (D9 (o9 (dG F 2) 0)) (some (C9 .i64 F 1)) (some F)) (l7 (E5 (G8 .i64 d R) R) (some (C9 .i64 F 1)) (some F))):=λF R=>rfl;have u0:∀q r:Int,∀b,upS q r d b 0=l7 (o9 r 0) false b:=λq r b=>rfl;have u1:∀q r:Int,∀b,upS q r d b 1=l7 (o9 r 0) false (D9 b):=λq r b=>rfl;have u2:∀q r:Int,∀b,upS q r d b 2=l7 (o9 r 0) false false:=λq r b=>rfl;have u3:∀q r:Int,∀b,upS q r d b 3=l7 (o9 r 0) false true:=λq r b=>rfl;have u4:∀q r:Int,∀b,upS q r d b 4=l7 (o9 r 0) false (J8 (d -r) r):=λq r b=>rfl;have u5:∀q r:Int,∀b,upS q r d b 5=l7 (o9 r 0) false (l7 (E5 (d -r) r) true (l7 (o9 r (d -r)) (o9 (dG q 2) 1) false)):=λq r b=>rfl;by_cases h0:0<=n
 .have e0:=Y2 h0 (show 0<=d by omega);have e1:=fA d h0;rw[show ax n=n by unfold ax;rw[if_neg o5],O6 h0];have hi:C9 .i64 (n / d) 1=n / d+1:=Z8 P6;have hs:G8 .i64 d (n % d)=d -n % d:=V4 P6;have hir:dG (n / d) 2=(n / d) % 2:=zK e0;generalize n / d=F at*;generalize n % d=R at*;rcases Je hm with rfl|rfl|rfl|rfl|rfl|rfl
  .rw[R0,u0];cases o9 R 0<;>rfl
  .rw[R1,u1,hi];cases o9 R 0<;>rfl
  .rw[R2,u2,hi,O6 e0];cases o9 R 0<;>rfl
  .rw[R3,u3,hi,af e0];cases o9 R 0<;>rfl
  .rw[R4,u4,hi,hs,af e0];cases o9 R 0
   case true=>rfl
   by_cases ht:R=d -R
   .rw[X0 ht,af (show d -R<=R by omega)];rfl
   .rw[U2 ht];by_cases hl:d -R<R
    .rw[V7 hl,af (show d -R<=R by omega)];rfl
    .rw[O6 (show R<=d -R by omega),aA (show R<d -R by omega)];rfl
  .rw[R5,u5,hi,hs,hir];cases o9 R 0
   case true=>rfl
   by_cases ht:R=d -R
   .rw[X0 ht,O6 (show R<=d -R by omega)];by_cases hp:F % 2=0
    .rw[X0 hp,U2 (show F % 2≠1 by omega)];rfl
    .rw[U2 hp,X0 (show F % 2=1 by omega)];rfl
   .rw[U2 ht];by_cases hl:d -R<R
    .rw[V7 hl];rfl
    .rw[O6 (show R<=d -R by omega)];rfl
 .obtain⟨m,hmm⟩:∃m,m=-n:=⟨_,rfl⟩;have e0:=Y2 (show 0<=m by omega) (show 0<=d by omega);have e1:=fA d (show 0<=m by omega);have e2:=P5 m (show d≠0 by omega);have e3:=N7 m hd;have hdm2:=X3 m d;rw[show ax n=m by unfold ax;rw[if_pos o5];omega,V7 o5];by_cases hz:m % d=0
  .have hne:n=0+(-(m / d))*d:=by rw[kz];omega
   have q1:n / d=-(m / d):=by rw[hne,aY _ _ o5];simp
   have q2:n % d=0:=by rw[hne,bV];simp
   rw[q1,q2,hz];rcases Je hm with rfl|rfl|rfl|rfl|rfl|rfl<;>rfl
  .have hne:n=(d -m % d)+(-(m / d) -1)*d:=by rw[lS,kz,fZ];omega
   have q1:n / d=-(m / d) -1:=by rw[hne,aY _ _ o5,lW o5 o5];omega
   have q2:n % d=d -m % d:=by rw[hne,bV,Int.emod_eq_of_lt o5 o5]
   rw[q1]at h1 h2;rw[q1,q2];generalize m / d=q at*;generalize m % d=r at*;have hi:C9 .i64 (-q -1) 1=-q:=by rw[Z8 P6];omega
   have hs:G8 .i64 d (d -r)=r:=by rw[V4 P6];omega
   have hF:∀k:Int,Go.GP.q1 q false=q/\Go.GP.q1 q true=q+1:=λk=>⟨rfl,rfl⟩;have sg1:sg (Go.GP.q1 q true) true=-q -1:=by show -(q+1)=-q -1;omega
   have sg0:sg (Go.GP.q1 q false) true=-q:=rfl;have hr0:o9 (d -r) 0=false:=U2 o5;have hr1:o9 r 0=false:=U2 hz;rcases Je hm with rfl|rfl|rfl|rfl|rfl|rfl
   .rw[R0,u0,hr0,hr1,o6,o6,sg1]
   .rw[R1,u1,hi,hr0,hr1,o6,o6,G6,sg0]
   .rw[R2,u2,hi,hr0,hr1,o6,o6,sg0,V7 o5];rfl
   .rw[R3,u3,hi,hr0,hr1,o6,o6,sg1,aA o5];rfl
   .rw[R4,u4,hi,hs,hr0,hr1,o6,o6,aA (show -q -1<0 by omega)];by_cases ht:d -r=r
    .rw[X0 ht,af (show d -r<=r by omega),sg1];rfl
    .rw[U2 ht];by_cases hl:r<d -r
     .rw[V7 hl,aA hl,sg0];rfl
     .rw[O6 (show d -r<=r by omega),af (show d -r<=r by omega),sg1];rfl
   .rw[R5,u5,hi,hs,hr0,hr1,o6,o6];by_cases ht:d -r=r
    .rw[X0 ht,O6 (show r<=d -r by omega),X0 ht.symm];have hodd:dG (-q -1) 2=-((q+1) % 2):=by
      unfold dG;rw[show -q -1=-(q+1) by omega,Int.neg_tmod,fK o5]
     have hir:dG q 2=q % 2:=zK e0;rw[hodd,hir];simp only[o7,o6];by_cases hp:q % 2=1
     .rw[X0 (show -((q+1) % 2)=0 by omega),X0 hp,sg1];rfl
     .rw[U2 (show -((q+1) % 2)≠0 by omega),U2 hp,sg0];rfl
    .rw[U2 ht,U2 (show r≠d -r by omega)];by_cases hl:r<d -r
     .rw[V7 hl,O6 (show r<=d -r by omega)];simp only[o7,o6];rw[sg0]
     .rw[O6 (show d -r<=r by omega),V7 (show d -r<r by omega)];simp only[o7,o6];rw[sg1]
def a9p(a b mode:Int):Int×Int:=l7 (pU mode) (l7 (kZ a 1000000000) (0,3) (l7 (kZ b 1000000000) (0,3) (l7 (kZ (rnd (a*b) 1000000 mode) 1000000000) (0,3) (rnd (a*b) 1000000 mode,0)))) (0,1)
theorem a9g{a b A B:Int}(h1:-A<=a/\a<=A)(h2:-B<=b/\b<=B):-(A*B)<=a*b/\a*b<=A*B:=by
 have hA:0<=A:=o5;have hB:0<=B:=o5;have k1:a*b<=A*B/\-(A*B)<=a*b:=by
  rcases QM a 0 with ha|ha
  .have e:a*b=-((-a)*b):=by rw[kz];omega
   rcases QM b 0 with hb|hb
   .have e2:a*b=(-a)*(-b):=by rw[Int.neg_mul_neg]
    have:=kK (show -a<=A by omega) (show -b<=B by omega) o5 hA;have:=P7 (show 0<=-a by omega) (show 0<=-b by omega);have:=P7 hA hB;omega
   .have:=kK (show -a<=A by omega) h2.2 hb hA;have:=P7 (show 0<=-a by omega) hb;have:=P7 hA hB;omega
  .rcases QM b 0 with hb|hb
   .have e:a*b=-(a*(-b)):=by rw[Int.mul_neg];omega
    have:=kK h1.2 (show -b<=B by omega) o5 hA;have:=P7 ha (show 0<=-b by omega);have:=P7 hA hB;omega
   .have:=kK h1.2 h2.2 hb hA;have:=P7 ha hb;have:=P7 hA hB;omega
 exact⟨k1.2,k1.1⟩
theorem b7H(a b mode:Int):Pm a b mode=some (a9p a b mode):=by
 unfold Pm a9p;rw[WQ,x8];cases hm:pU mode
 .rfl
 simp only[G6,o6,o7];rw[zS a o5 o5,x8];cases h1:kZ a 1000000000
 case true=>rfl
 simp only[o6];rw[zS b o5 o5,x8];cases h2:kZ b 1000000000
 case true=>rfl
 simp only[o6];have pb:=a9g (qL h1) (qL h2);rw[mJ P6,IZ,x8];unfold a6l;rw[hm,U2 (show(1000000:Int)≠0 by decide),Qg o5,Qg o5];simp only[o7,o6,X0 (rfl:(0:Int)=0),G6];rw[zS _ o5 o5,x8];cases kZ (rnd (a*b) 1000000 mode) 1000000000<;>rfl
theorem a4s{A B:Option (PUnit⊕(Int×Int))} :l7 (E5 m 0) A (l7 (E5 5 m) A B)=l7 (pU m) B A:=by unfold pU;rw[ug m 0,ug 5 m];cases J8 0 m<;>cases J8 m 5<;>rfl
theorem b3Y(a b mode:Int):QB a b mode=some (a9p a b mode):=by
 unfold QB a9p;have hmode:∀A B:Option (Int×Int),l7 (E5 mode 0) A (l7 (E5 5 mode) A B)=l7 (pU mode) B A:=λA B=>by unfold pU;rw[ug mode 0,ug 5 mode];cases J8 0 mode<;>cases J8 mode 5<;>rfl
 rw[hmode];cases hm:pU mode
 .rfl
 simp only[o7];rw[yC a o5 o5,x8];cases h1:kZ a 1000000000
 case true=>rfl
 simp only[o6];rw[yC b o5 o5,x8];cases h2:kZ b 1000000000
 case true=>rfl
 simp only[o6];have pb:=a9g (qL h1) (qL h2);rw[mJ P6,a3N o5 o5 o5 o5,x8];simp only;rw[Jm o5 o5 o5 o5 hm,x8,yC _ o5 o5,x8];cases kZ (rnd (a*b) 1000000 mode) 1000000000<;>rfl
theorem a7e(mode:Int)(hd:0<d):n / d<=rnd n d mode/\rnd n d mode<=n / d+1:=by
 have hid:ax d=d:=by unfold ax;rw[if_neg o5]
 have hneg:D9 (jY (E5 n 0) (E5 d 0))=E5 n 0:=by rw[O6 (show(0:Int)<=d by omega)];cases E5 n 0<;>rfl
 unfold rnd;rw[hid,hneg];by_cases h0:0<=n
 .rw[show ax n=n by unfold ax;rw[if_neg o5],O6 h0];exact ZI _ _
 .obtain⟨m,hmm⟩:∃m,m=-n:=⟨_,rfl⟩;have e2:=P5 m (show d≠0 by omega);have e3:=N7 m hd;have hdm2:=X3 m d;rw[show ax n=m by unfold ax;rw[if_pos o5];omega,V7 o5];have hq:=ZI (m / d) (upS (m / d) (m % d) d true mode);by_cases hz:m % d=0
  .have hne:n=0+(-(m / d))*d:=by rw[kz];omega
   have q1:n / d=-(m / d):=by rw[hne,aY _ _ o5];simp
   have hu:upS (m / d) (m % d) d true mode=false:=by unfold upS;rw[X0 hz];rfl
   rw[q1,hu];show -(m / d)<=-(m / d)/\-(m / d)<=-(m / d)+1;omega
  .have hne:n=(d -m % d)+(-(m / d) -1)*d:=by rw[lS,kz,fZ];omega
   have q1:n / d=-(m / d) -1:=by rw[hne,aY _ _ o5,lW o5 o5];omega
   rw[q1];show -(m / d) -1<=-(Go.GP.q1 _ _)/\-(Go.GP.q1 _ _)<=_;omega
theorem b7I(n d mode:Int)(hd:d<0):rnd n d mode=rnd (-n) (-d) mode:=by
 have e1:ax (-n)=ax n:=by unfold ax;split<;>split<;>omega
 have e2:ax (-d)=ax d:=by unfold ax;rw[if_neg o5,if_pos hd]
 unfold rnd;rw[e1,e2,V7 hd,O6 (show 0<=-d by omega)];by_cases h0:n=0
 .subst h0;have hz:ax 0=0:=rfl;rw[hz,Int.zero_ediv,Int.zero_emod];have hu:∀b,upS 0 0 (ax d) b mode=false:=λb=>rfl;rw[hu,hu];rfl
 .by_cases h1:n<0
  .rw[V7 h1,O6 (show 0<=-n by omega)];rfl
  .rw[O6 o5,V7 (show -n<0 by omega)];rfl
def b7x(num den mode:Int):Int×Int:=l7 (pU mode) (l7 (o9 den 0) (0,12) (l7 (kZ num 1000000000000000) (0,3) (l7 (kZ den 1000000000000000) (0,3) (l7 (kZ (rnd (num*1000000) den mode) 1000000000) (0,3) (rnd (num*1000000) den mode,0))))) (0,1)
theorem TM(h:-9000000000000000000<=n)(h2:n<=9000000000000000000):wrap .u64 (mZ n (G8 .i64 0 n))=ax n:=by
 rw[V4 P6];unfold mZ ax;by_cases h0:n<0
 .rw[if_pos o5,if_pos h0,show(0:Int) -n=-n by omega];exact FB o5 o5
 .rw[if_neg h0];by_cases hz:n=0
  .subst hz;rfl
  .rw[if_neg o5];exact FB o5 o5
theorem a1K(num den mode:Int):yD num den mode=some (b7x num den mode):=by
 unfold yD b7x;rw[WQ,x8];cases hm:pU mode
 .rfl
 simp only[G6,o6,o7];cases hd:o9 den 0
 case true=>rfl
 rw[zC]at hd;simp only[o6];rw[zS num o5 o5,x8];cases h1:kZ num 1000000000000000
 case true=>rfl
 simp only[o6];rw[zS den o5 o5,x8];cases h2:kZ den 1000000000000000
 case true=>rfl
 simp only[o6];have b1:=qL h1;have b2:=qL h2;have a1:=lQ num;have a2:=yX b1;have d1:=OL hd;have d2:=yX b2;rw[TM o5 o5,TM o5 o5,Ua a1 o5 o5 o5,x8];have hN:ax (num*1000000)=ax num*1000000:=by unfold ax;split<;>split<;>omega
 have hsgn:E5 (num*1000000) 0=E5 num 0:=by
  by_cases h:num<0
  .rw[V7 h,V7 o5]
  .rw[O6 o5,O6 o5]
 have hA:0<=ax num*1000000:=o5;have hrn:rnd (num*1000000) den mode=sg (q1 (ax num*1000000 / ax den) (upS (ax num*1000000 / ax den) (ax num*1000000 % ax den) (ax den) (D9 (jY (E5 num 0) (E5 den 0))) mode)) (D9 (jY (E5 num 0) (E5 den 0))):=by unfold rnd;rw[hN,hsgn]
 rw[hrn];have hA2:ax num*1000000<18446744073709551616*1000:=o5;generalize ax num*1000000=A at*;generalize ax den=b at*;generalize D9 (jY (E5 num 0) (E5 den 0))=neg at*;have hre:A / 18446744073709551616*18446744073709551616+A % 18446744073709551616=A:=o5;have q:=ZI (A / b) (upS (A / b) (A % b) b neg mode);have e0:=Y2 hA (show 0<=b by omega);have e2:=P5 A (show b≠0 by omega);have e3:=N7 A d1;rw[b1J o5 _ o5];by_cases hh:b<=A / 18446744073709551616
 .have hge:18446744073709551616<=A / b:=rQ d1 o5;rw[af hh,V7 (show(1000000000:Int)<q1 (A / b) (upS (A / b) (A % b) b neg mode) by omega)];rfl
 .rw[aA o5,o6,YE o5 o5 o5 o5 o5,x8,hre];simp only;by_cases hM:1000000000<A / b
  .rw[V7 hM,V7 (show(1000000000:Int)<q1 (A / b) (upS (A / b) (A % b) b neg mode) by omega)];rfl
  .have w1:wrap .i64 (A / b)=A / b:=mW P6;have w2:C9 .i64 (A / b) 1=A / b+1:=Z8 P6;have w3:G8 .i64 0 (A / b+1)=-(A / b+1):=by rw[V4 P6];omega
   have w4:G8 .i64 0 (A / b)=-(A / b):=by rw[V4 P6];omega
   rw[O6 o5,o6,a4V _ _ e2 e3 o5,x8,w1,w2,w3,w4];unfold Go.GP.q1 sg;cases upS (A / b) (A % b) b neg mode
   .simp only[o6];cases E5 1000000000 (A / b)<;>cases neg<;>rfl
   .simp only[o7];cases E5 1000000000 (A / b+1)<;>cases neg<;>rfl
theorem ZJ(h1:-1000000000000000<=n)(h2:n<=1000000000000000)(hd:0<d)(hd2:d<=1000000000000000)(hm:pU mode=true):
  (l9 (BF n d) λ(x:Int×Int)=>l9 (lD x.1 1001) λ(x_1:Bool)=>l7 x_1 (some ((0:Int),(3:Int))) (l9 (qH .i64 (Z7 .i64 x.2 1000) d) λ(x_2:Int)=>l9 (zt (Z7 .i64 x.2 1000) d) λ(x_3:Int)=>
   l9 (qH .i64 (Z7 .i64 x_3 1000) d) λ(x_4:Int)=>l9 (zt (Z7 .i64 x_3 1000) d) λ(x_5:Int)=>l9 (dX (C9 .i64 (C9 .i64 (Z7 .i64 x.1 1000000) (Z7 .i64 x_2 1000)) x_4) x_5 d mode) λ(x:Int)=>
    l9 (lD x 1000000000) λ(x_6:Bool)=>l7 x_6 (some (0,3)) (some (x,0))))=some (l7 (kZ (rnd (n*1000000) d mode) 1000000000) (0,3) (rnd (n*1000000) d mode,0)):=by
 have hdm:=X3 n d;have r0:=P5 n (show d≠0 by omega);have r1:=N7 n hd;have hrb:=a7e (n:=n*1000000) mode hd;rw[a3N o5 o5 hd o5,x8];simp only;rw[yC _ o5 o5,x8];have hN:n*1000000=n % d*1000000+(n / d*1000000)*d:=by rw[jF];omega
 have hF:n*1000000 / d=n % d*1000000 / d+n / d*1000000:=by rw[hN,aY _ _ o5]
 have hR:n*1000000 % d=n % d*1000000 % d:=by rw[hN,bV]
 have s0:0<=n % d*1000000 / d:=Y2 o5 o5;have s1:n % d*1000000 / d<1000000:=mO hd o5;cases hb:kZ (n / d) 1001
 case true=>have hbb:=a5S hb;have:kZ (rnd (n*1000000) d mode) 1000000000=true:=TA.2 o5;rw[this];rfl
 have bb:=qL hb;simp only[o6];generalize n % d=r at*;generalize n / d=q at*;have t1:Z7 .i64 r 1000=r*1000:=mJ P6;have e1:=X3 (r*1000) d;have e2:=P5 (r*1000) (show d≠0 by omega);have e3:=N7 (r*1000) hd;have e4:=Y2 (show 0<=r*1000 by omega) (show 0<=d by omega);have e5:r*1000 / d<1000:=mO hd o5;rw[t1,xh o5 o5 hd,x8,Bv o5 hd,x8];generalize hr1:r*1000 % d=r1 at*;generalize ha:r*1000 / d=a at*;have t2:Z7 .i64 r1 1000=r1*1000:=mJ P6;have f1:=X3 (r1*1000) d;have f2:=P5 (r1*1000) (show d≠0 by omega);have f3:=N7 (r1*1000) hd;have f4:=Y2 (show 0<=r1*1000 by omega) (show 0<=d by omega);have f5:r1*1000 / d<1000:=mO hd o5;rw[t2,xh o5 o5 hd,x8,Bv o5 hd,x8];have hr6:r*1000000=r1*1000+(a*1000)*d:=by rw[jF];omega
 have hF2:r*1000000 / d=r1*1000 / d+a*1000:=by rw[hr6,aY _ _ o5]
 have hR2:r*1000000 % d=r1*1000 % d:=by rw[hr6,bV]
 rw[mJ (show kQ (q*1000000) by unfold kQ;omega),mJ (show kQ (a*1000) by unfold kQ;omega),Z8 (show kQ (q*1000000+a*1000) by unfold kQ;omega),Z8 (show kQ (q*1000000+a*1000+r1*1000 / d) by unfold kQ;omega)];rw[show q*1000000+a*1000+r1*1000 / d=n*1000000 / d by rw[hF,hF2];omega,show r1*1000 % d=n*1000000 % d by rw[hR,hR2]];rw[Jm (by rw[hF];omega) (by rw[hF];omega) hd o5 hm,x8,yC _ o5 o5,x8];cases kZ (rnd (n*1000000) d mode) 1000000000<;>rfl
theorem X_(num den mode:Int):Ap num den mode=some (b7x num den mode):=by
 unfold Ap b7x;rw[a4s];cases hm:pU mode
 .rfl
 simp only[o7,x8,aj];cases hd:o9 den 0
 case true=>rfl
 rw[zC]at hd;simp only[o6];rw[yC num o5 o5,x8];cases h1:kZ num 1000000000000000
 case true=>rfl
 simp only[o6];rw[yC den o5 o5,x8];cases h2:kZ den 1000000000000000
 case true=>rfl
 simp only[o6];have b1:=qL h1;have b2:=qL h2;by_cases hn:den<0
 .rw[V7 hn,o7,V4 (show kQ (0 -num) by unfold kQ;omega),V4 (show kQ (0 -den) by unfold kQ;omega),show(0:Int) -num=-num by omega,show(0:Int) -den=-den by omega,b7I _ _ _ hn,show -(num*1000000)=-num*1000000 by rw[kz]];exact ZJ o5 o5 o5 o5 hm
 .rw[O6 o5,o6];exact ZJ o5 o5 o5 o5 hm
def ED(len n:Int):Int×Int×Bool:=l7 (E5 1000000000000000 (len*ax n / 1000000)) (0,0,false) (l7 (E5 n 0) (-(len*ax n / 1000000),-(len*ax n % 1000000),true) (len*ax n / 1000000,len*ax n % 1000000,true))
theorem b6V{len n:Int}(h1:1<=len)(h2:len<=1000000000000000)(hn:kQ n):wP len n=some (ED len n):=by
 unfold kQ at hn;have key:∀m:Int,m=ax n->(l9 (uY (wrap .u64 len) m) λ(x:Int×Int)=>l7 (J8 1000000 x.1) (some ((0:Int),(0:Int),false)) (l9 (ny x.1 x.2 1000000) λ(x:Int×Int)=>l7 (E5 1000000000000000 x.1) (some (0,0,false))
   (l7 (E5 n 0) (some (G8 .i64 0 (wrap .i64 x.1),G8 .i64 0 (wrap .i64 x.2),true)) (some (wrap .i64 x.1,wrap .i64 x.2,true)))))=some (ED len n):=by
  intro m hm;have m0:=lQ n;have m1:m<=9223372036854775808:=by rw[hm];unfold ax;split<;>omega
  rw[←hm]at m0;rw[show wrap .u64 len=len from FB o5 o5,Ua o5 o5 m0 o5,x8];unfold ED;rw[←hm];have hA:0<=len*m:=P7 o5 m0;generalize len*m=A at*;have hre:A / 18446744073709551616*18446744073709551616+A % 18446744073709551616=A:=o5;simp only;by_cases hh:1000000<=A / 18446744073709551616
  .rw[af hh,V7 (show(1000000000000000:Int)<A / 1000000 by omega)];rfl
  .rw[aA o5,o6,YE o5 o5 o5 o5 o5,x8,hre];simp only;by_cases hM:1000000000000000<A / 1000000
   .rw[V7 hM];rfl
   .rw[O6 o5,o6,o6,show wrap .i64 (A / 1000000)=A / 1000000 from mW P6,show wrap .i64 (A % 1000000)=A % 1000000 from mW P6,V4 P6,V4 P6,
     show(0:Int) -A / 1000000=-(A / 1000000) by omega,show(0:Int) -A % 1000000=-(A % 1000000) by omega]
    cases E5 n 0<;>rfl
 unfold wP;by_cases h0:n<0
 .have hk:=key (G8 .u64 0 (wrap .u64 n)) (by
   show IntKind.wrap .u64 (0 -IntKind.wrap .u64 n)=_;unfold ax;rw[if_pos h0,zX,zX];omega)
  rw[V7 h0]at hk ⊢;exact hk
 .have hk:=key (wrap .u64 n) (by
   show IntKind.wrap .u64 n=_;unfold ax;rw[if_neg h0,zX];omega)
  rw[O6 o5]at hk ⊢;exact hk
theorem b3V{len n:Int}(h1:1<=len)(h2:len<=1000000000000000)(hn:kQ n):AY len n=some (ED len n):=by
 unfold kQ at hn;have hm:(l7 (E5 n 0) (some (C9 .u64 (wrap .u64 (G8 .i64 0 (C9 .i64 n 1))) 1)) (some (wrap .u64 n)))=some (ax n):=by
  by_cases h0:n<0
  .rw[V7 h0,o7,Z8 P6,V4 P6,show wrap .u64 (0 -(n+1))=-n -1 from(FB o5 o5).trans o5,show C9 .u64 (-n -1) 1=-n from(FB o5 o5).trans o5];unfold ax;rw[if_pos h0]
  .rw[O6 o5,o6,show wrap .u64 n=n from FB o5 o5];unfold ax;rw[if_neg h0]
 have m0:=lQ n;have m1:ax n<=9223372036854775808:=by unfold ax;split<;>omega
 unfold AY ED;rw[hm,x8];generalize ax n=m at*;have c1:cZ .u64 m 1000000=m / 1000000:=by unfold cZ;rw[kH m0,FB o5 o5]
 have c2:dG m 1000000=m % 1000000:=zK m0;have c3:wrap .i64 (m / 1000000)=m / 1000000:=mW P6;have c4:wrap .i64 (m % 1000000)=m % 1000000:=mW P6;have c5:cZ .i64 len 1000000=len / 1000000:=by rw[Cf (by rw[kH o5];unfold kQ;omega),kH o5]
 have c6:dG len 1000000=len % 1000000:=zK o5;rw[c1,c2,c3,c4,c5,c6];have hmd:m=m / 1000000*1000000+m % 1000000:=o5;have b0:0<=m % 1000000:=o5;have b1:m % 1000000<1000000:=o5;have a0:0<=m / 1000000:=o5;have a1:m / 1000000<=9223372036855:=o5;have hA:len*m=(len*(m / 1000000)+len / 1000000*(m % 1000000))*1000000+len % 1000000*(m % 1000000):=by
  have e1:len*m=len*(m / 1000000)*1000000+len*(m % 1000000):=by
   calc len*m=len*(m / 1000000*1000000+m % 1000000):=by rw[←hmd]
    _=_:=by rw[Int.mul_add,Int.mul_assoc]
  have e2:len*(m % 1000000)=len / 1000000*(m % 1000000)*1000000+len % 1000000*(m % 1000000):=by
   calc len*(m % 1000000)=(len / 1000000*1000000+len % 1000000)*(m % 1000000):=by rw[show len / 1000000*1000000+len % 1000000=len by omega]
    _=_:=by rw[iP,jF]
  rw[e1,e2];omega
 have l0:0<=len % 1000000*(m % 1000000):=P7 o5 b0;have l1:len % 1000000*(m % 1000000)<=1000000*1000000:=kK o5 o5 b0 o5;have p0:0<=len / 1000000*(m % 1000000):=P7 o5 b0;have p1:len / 1000000*(m % 1000000)<=1000000000*1000000:=kK o5 o5 b0 o5;have k0:0<=len*(m / 1000000):=P7 o5 a0;have c7:Z7 .i64 (len % 1000000) (m % 1000000)=len % 1000000*(m % 1000000):=mJ P6;have c8:Z7 .i64 (len / 1000000) (m % 1000000)=len / 1000000*(m % 1000000):=mJ P6;rw[c7,c8];have hdiv:len*m / 1000000=len*(m / 1000000)+len / 1000000*(m % 1000000)+len % 1000000*(m % 1000000) / 1000000:=by rw[hA];omega
 have hmod:len*m % 1000000=len % 1000000*(m % 1000000) % 1000000:=by rw[hA];omega
 rw[hdiv,hmod];have c9:cZ .i64 (len % 1000000*(m % 1000000)) 1000000=len % 1000000*(m % 1000000) / 1000000:=by rw[Cf (by rw[kH l0];unfold kQ;omega),kH l0]
 have c10:dG (len % 1000000*(m % 1000000)) 1000000=len % 1000000*(m % 1000000) % 1000000:=zK l0;rw[c9,c10];have tail:len*(m / 1000000)<=1000000000000000->l7 (E5 1000000000000000 (C9 .i64 (C9 .i64 (Z7 .i64 len (m / 1000000)) (len / 1000000*(m % 1000000))) (len % 1000000*(m % 1000000) / 1000000))) (some ((0:Int),(0:Int),false))
   (l7 (E5 n 0) (some (G8 .i64 0 (C9 .i64 (C9 .i64 (Z7 .i64 len (m / 1000000)) (len / 1000000*(m % 1000000))) (len % 1000000*(m % 1000000) / 1000000)),G8 .i64 0 (len % 1000000*(m % 1000000) % 1000000),true)) (some (C9 .i64 (C9 .i64 (Z7 .i64 len (m / 1000000)) (len / 1000000*(m % 1000000))) (len % 1000000*(m % 1000000) / 1000000),len % 1000000*(m % 1000000) % 1000000,true)))=
   some (l7 (E5 1000000000000000 (len*(m / 1000000)+len / 1000000*(m % 1000000)+len % 1000000*(m % 1000000) / 1000000)) (0,0,false) (l7 (E5 n 0) (-(len*(m / 1000000)+len / 1000000*(m % 1000000)+len % 1000000*(m % 1000000) / 1000000),-(len % 1000000*(m % 1000000) % 1000000),true) (len*(m / 1000000)+len / 1000000*(m % 1000000)+len % 1000000*(m % 1000000) / 1000000,len % 1000000*(m % 1000000) % 1000000,true))):=by
  intro hle;rw[mJ (show kQ (len*(m / 1000000)) by unfold kQ;omega)];generalize len*(m / 1000000)=K at*;generalize len / 1000000*(m % 1000000)=P at*;generalize len % 1000000*(m % 1000000)=L at*;rw[Z8 (show kQ (K+P) by unfold kQ;omega),Z8 (show kQ (K+P+L / 1000000) by unfold kQ;omega),V4 (show kQ (0 -(K+P+L / 1000000)) by unfold kQ;omega),V4 (show kQ (0 -L % 1000000) by unfold kQ;omega),show(0:Int) -(K+P+L / 1000000)=-(K+P+L / 1000000) by omega,show(0:Int) -L % 1000000=-(L % 1000000) by omega];cases E5 1000000000000000 (K+P+L / 1000000)<;>cases E5 n 0<;>rfl
 by_cases ha:0<m / 1000000
 .rw[V7 ha,o7,xh o5 o5 ha,x8];have hMx:=X3 1000000000000000 (m / 1000000);have hMr:=N7 1000000000000000 ha;have hMr0:=P5 1000000000000000 (show m / 1000000≠0 by omega);by_cases hc:1000000000000000 / (m / 1000000)<len
  .have:=O0 (show 1000000000000000 / (m / 1000000)+1<=len by omega) a0;rw[iP,fZ]at this;rw[V7 hc,V7 (show(1000000000000000:Int)<len*(m / 1000000)+len / 1000000*(m % 1000000)+len % 1000000*(m % 1000000) / 1000000 by omega)];rfl
  .have:=O0 (show len<=1000000000000000 / (m / 1000000) by omega) a0;rw[O6 o5,o6];exact tail o5
 .have:m / 1000000=0:=o5;rw[O6 o5,o6];exact tail (by rw[this];simp)
theorem ZY{F R j:Int}(hm:pU mode=true)(h1:-4000000000000000000<=F)(h2:F<=4000000000000000000)(h3:-2000000000000000000<=j)(h4:j<=2000000000000000000)(hR:0<=R)(hR2:R<1000000)(hs:0<=F↔0<=F+2*j):
  dX (F+2*j) R 1000000 mode=(dX F R 1000000 mode).map λv=>v+2*j:=by
 have R0:∀F R:Int,dX F R 1000000 0=l7 (o9 R 0) (some F) (some F):=λF R=>rfl;have R1:∀F R:Int,dX F R 1000000 1=l7 (o9 R 0) (some F) (some (C9 .i64 F 1)):=λF R=>rfl;have R2:∀F R:Int,dX F R 1000000 2=l7 (o9 R 0) (some F) (l9 (l7 (E5 F 0) (some true) (some false)) λx=>l7 x (some (C9 .i64 F 1)) (some F)):=λF R=>rfl;have R3:∀F R:Int,dX F R 1000000 3=l7 (o9 R 0) (some F) (l9 (some (J8 0 F)) λx=>l7 x (some (C9 .i64 F 1)) (some F)):=λF R=>rfl;have R4:∀F R:Int,dX F R 1000000 4=l7 (o9 R 0) (some F) (l7 (o9 R (G8 .i64 1000000 R)) (l7 (J8 0 F) (some (C9 .i64 F 1)) (some F)) (l7 (E5 (G8 .i64 1000000 R) R) (some (C9 .i64 F 1)) (some F))):=λF R=>rfl;have R5:∀F R:Int,dX F R 1000000 5=l7 (o9 R 0) (some F) (l7 (o9 R (G8 .i64 1000000 R)) (l7 (D9 (o9 (dG F 2) 0)) (some (C9 .i64 F 1)) (some F)) (l7 (E5 (G8 .i64 1000000 R) R) (some (C9 .i64 F 1)) (some F))):=λF R=>rfl;have hi:C9 .i64 F 1=F+1:=Z8 P6;have hi2:C9 .i64 (F+2*j) 1=F+1+2*j:=by rw[Z8 P6];omega
 have hlt:E5 (F+2*j) 0=E5 F 0:=by
  by_cases h:0<=F
  .rw[O6 h,O6 (hs.1 h)]
  .rw[V7 o5,V7 (by have:=λh' =>h (hs.2 h');omega)]
 have hle:J8 0 (F+2*j)=J8 0 F:=by rw[Jc,Jc,hlt]
 have hpar:o9 (dG (F+2*j) 2) 0=o9 (dG F 2) 0:=by
  unfold dG o9;congr 1;have e1:∀x:Int,x.tmod 2=0↔x % 2=0:=λx=>by rw[←Int.dvd_iff_tmod_eq_zero,Int.dvd_iff_emod_eq_zero]
  simp only[e1];congr 1;omega
 rcases Je hm with rfl|rfl|rfl|rfl|rfl|rfl
 .rw[R0,R0];cases o9 R 0<;>rfl
 .rw[R1,R1,hi,hi2];cases o9 R 0<;>rfl
 .rw[R2,R2,hi,hi2,hlt];cases o9 R 0<;>cases E5 F 0<;>rfl
 .rw[R3,R3,hi,hi2,hle];cases o9 R 0<;>cases J8 0 F<;>rfl
 .rw[R4,R4,hi,hi2,hle];cases o9 R 0<;>cases o9 R (G8 .i64 1000000 R)<;>cases J8 0 F<;>cases E5 (G8 .i64 1000000 R) R<;>rfl
 .rw[R5,R5,hi,hi2,hpar];cases o9 R 0<;>cases o9 R (G8 .i64 1000000 R)<;>cases o9 (dG F 2) 0<;>cases E5 (G8 .i64 1000000 R) R<;>rfl
variable {j:Int}
theorem b0T(hm:pU mode=true)(h1:-4000000000000000000<=n)(h2:n<=4000000000000000000)(h3:-2000000000000000<=j)(h4:j<=2000000000000000)(hs:0<=n↔0<=n+2*j*1000000):rnd (n+2*j*1000000) 1000000 mode=rnd n 1000000 mode+2*j:=by
 have a1:=Jm (n:=n) (d:=1000000) (mode:=mode) o5 o5 o5 o5 hm;have a2:=Jm (n:=n+2*j*1000000) (d:=1000000) (mode:=mode) o5 o5 o5 o5 hm;rw[show(n+2*j*1000000) / 1000000=n / 1000000+2*j by omega,show(n+2*j*1000000) % 1000000=n % 1000000 by omega,
  ZY hm o5 o5 o5 o5 o5 o5 o5,a1]at a2
 exact(aQ a2).symm
def a0f(W L mode:Int):Int×Int:=l7 (kZ (rnd (W*1000000+L) 1000000 mode) 1000000000000000) (0,3) (rnd (W*1000000+L) 1000000 mode,0)
theorem p_{V p L j mode:Int}(hm:pU mode=true)(hV:-2000000000000000<=V)(hV2:V<=2000000000000000)(hp:-3<=p)(hp2:p<=3)(hL:-1000000<L)(hL2:L<1000000)(hj:V -p=2*j)(hs:0<=p*1000000+L↔0<=V*1000000+L):
  (l9 (jS (C9 .i64 (Z7 .i64 p 1000000) L) 1000000 mode) λ(x:Int×Int)=>l7 (D9 (o9 x.2 0)) (some ((0:Int),x.2)) (l7 (E5 (C9 .i64 (G8 .i64 V p) x.1) (-1000000000000000)) (some (0,3)) (l7 (E5 1000000000000000 (C9 .i64 (G8 .i64 V p) x.1)) (some (0,3)) (some (C9 .i64 (G8 .i64 V p) x.1,0)))))=
  some (a0f V L mode):=by
 rw[mJ (show kQ (p*1000000) by unfold kQ;omega),Z8 (show kQ (p*1000000+L) by unfold kQ;omega),V4 (show kQ (V -p) by unfold kQ;omega),IZ,x8];unfold a6l;rw[hm,U2 (show(1000000:Int)≠0 by decide),Qg o5,Qg o5];have hb:=a7e (n:=p*1000000+L) (d:=1000000) mode o5;have hsh:=b0T (n:=p*1000000+L) (j:=j) hm o5 o5 o5 o5 (by rw[show p*1000000+L+2*j*1000000=V*1000000+L by omega];exact hs);rw[show p*1000000+L+2*j*1000000=V*1000000+L by omega]at hsh;simp only[o7,o6,X0 (rfl:(0:Int)=0),G6];unfold a0f kZ;rw[hsh,hj,Z8 (show kQ (2*j+rnd (p*1000000+L) 1000000 mode) by unfold kQ;omega),show rnd (p*1000000+L) 1000000 mode+2*j=2*j+rnd (p*1000000+L) 1000000 mode by omega];cases E5 (2*j+rnd (p*1000000+L) 1000000 mode) (-1000000000000000)<;>cases E5 1000000000000000 (2*j+rnd (p*1000000+L) 1000000 mode)<;>rfl
theorem a9z(hd:0<d):(0<=n->0<=n.tmod d/\n.tmod d<d)/\(n<=0->-d<n.tmod d/\n.tmod d<=0):=by
 refine⟨λh=>?_,λh=>?_⟩
 .rw[fK h];exact⟨P5 n o5,N7 n hd⟩
 .obtain⟨m,hm⟩:∃m,n=-m:=⟨-n,o5⟩;subst hm;rw[Int.neg_tmod,fK o5];have:=P5 m (show d≠0 by omega);have:=N7 m hd;omega
theorem a4U{W L mode:Int}(hm:pU mode=true)(hW:-1000000000000000000<=W)(hW2:W<=1000000000000000000)(hL:-1000000000<=L)(hL2:L<=1000000000):Dp W L mode=some (a0f W L mode):=by
 unfold Dp;have hd:=Int.tdiv_mul_add_tmod L 1000000;have htm:=a9z (n:=L) (d:=1000000) o5;have t1:cZ .i64 L 1000000=L.tdiv 1000000:=Cf P6;have t2:dG L 1000000=L.tmod 1000000:=rfl;have hr1:-1000000<L.tmod 1000000:=o5;have hr2:L.tmod 1000000<1000000:=o5;rw[t1,t2,Z8 (show kQ (W+L.tdiv 1000000) by unfold kQ;omega)];have hT:W*1000000+L=(W+L.tdiv 1000000)*1000000+L.tmod 1000000:=o5;have hsum:a0f W L mode=a0f (W+L.tdiv 1000000) (L.tmod 1000000) mode:=by unfold a0f;rw[hT]
 rw[hsum];have hVb:-2000000000000000000<=W+L.tdiv 1000000/\W+L.tdiv 1000000<=2000000000000000000:=o5;generalize W+L.tdiv 1000000=V at*;generalize L.tmod 1000000=M at*;have hb:=a7e (n:=V*1000000+M) (d:=1000000) mode o5;by_cases c1:V< -2000000000000000
 .rw[V7 c1,o7];unfold a0f;rw[TA.2 o5];rfl
 by_cases c2:2000000000000000<V
 .rw[O6 o5,o6,V7 c2,o7];unfold a0f;rw[TA.2 o5];rfl
 rw[O6 o5,o6,O6 o5,o6];have t3:dG V 2=V.tmod 2:=rfl;rw[t3];have hv2:=Int.tdiv_mul_add_tmod V 2;have htv:=a9z (n:=V) (d:=2) o5;by_cases c3:1<V
 .rw[V7 c3,o7,Z8 (show kQ (V.tmod 2+2) by unfold kQ;omega)];exact p_ (j:=V.tdiv 2 -1) hm o5 o5 o5 o5 hr1 hr2 o5 o5
 rw[O6 o5,o6];by_cases c4:V< -1
 .rw[V7 c4,o7,V4 (show kQ (V.tmod 2 -2) by unfold kQ;omega)];exact p_ (j:=V.tdiv 2+1) hm o5 o5 o5 o5 hr1 hr2 o5 o5
 rw[O6 o5,o6];exact p_ (j:=V.tdiv 2) hm o5 o5 o5 o5 hr1 hr2 o5 o5
theorem Y_{W L mode:Int}(hm:pU mode=true)(hW:-1000000000000000000<=W)(hW2:W<=1000000000000000000)(hL:-1000000000<=L)(hL2:L<=1000000000):JM W L mode=some (rnd (W*1000000+L) 1000000 mode):=by
 unfold JM;obtain⟨e,k1,k2⟩:=jg (f:=λ(x:Int×Int)=>l7 (E5 x.2 0) (some (.inl (G8 .i64 x.1 1,C9 .i64 x.2 1000000))) (some (.inr x)))
  (s:=(W,L)) (λx=>x.1*1000000+x.2=W*1000000+L/\-1000000000<=x.2/\x.2<=1000000000/\-2000000000000000000<=x.1/\x.1<=2000000000000000000) (λx=>x.1*1000000+x.2=W*1000000+L/\0<=x.2/\x.2<=1000000000/\-2000000000000000000<=x.1/\x.1<=2000000000000000000) (λx=>(1000000000 -x.2).toNat) ⟨by rfl,hL,hL2,o5,o5⟩ o5 (by
  rintro⟨a,b⟩ ⟨h1,h2,h3,h4,h5⟩;simp only at h1 h2 h3 h4 h5 ⊢;by_cases hb:b<0
  .left;rw[V7 hb,o7,V4 (show kQ (a -1) by unfold kQ;omega),Z8 (show kQ (b+1000000) by unfold kQ;omega)];exact⟨_,rfl,⟨by simp only;omega,by simp only;omega,by simp only;omega,by simp only;omega,by simp only;omega⟩,by simp only;omega⟩
  .right;rw[O6 o5];exact⟨(a,b),rfl,h1,o5,h3,h4,h5⟩)
 refine(um k1 _).trans ?_;obtain⟨a,b⟩:=e;simp only at k2;obtain⟨e,l1,l2⟩:=jg (f:=λ(x:Int×Int)=>l7 (J8 1000000 x.2) (some (.inl (C9 .i64 x.1 1,G8 .i64 x.2 1000000))) (some (.inr x)))
  (s:=(a,b)) (λx=>x.1*1000000+x.2=W*1000000+L/\0<=x.2/\x.2<=1000000000/\-2000000000000000000<=x.1/\x.1<=2000000000000000000) (λx=>x.1=(W*1000000+L) / 1000000/\x.2=(W*1000000+L) % 1000000) (λx=>x.2.toNat) k2 (by simp only;omega) (by
  rintro⟨a,b⟩ ⟨h1,h2,h3,h4,h5⟩;simp only at h1 h2 h3 h4 h5 ⊢;by_cases hb:1000000<=b
  .left;rw[af hb,o7,Z8 (show kQ (a+1) by unfold kQ;omega),V4 (show kQ (b -1000000) by unfold kQ;omega)];exact⟨_,rfl,⟨by simp only;omega,by simp only;omega,by simp only;omega,by simp only;omega,by simp only;omega⟩,by simp only;omega⟩
  .right;rw[aA o5];exact⟨(a,b),rfl,by simp only;omega,by simp only;omega⟩)
 refine(um l1 _).trans ?_;obtain⟨F,R⟩:=e;simp only at l2 ⊢;obtain⟨rfl,rfl⟩:=l2;generalize hT:W*1000000+L=T at*;have hid:ax 1000000=1000000:=rfl;have hneg:D9 (jY (E5 T 0) (E5 1000000 0))=E5 T 0:=by rw[O6 (show(0:Int)<=1000000 by omega)];cases E5 T 0<;>rfl
 by_cases h0:0<=T
 .rw[af (show 0<=T / 1000000 by omega),o7,EJ _ _ o5 o5 o5 o5 o5,x8];unfold rnd;rw[hid,hneg,O6 h0,show ax T=T by unfold ax;rw[if_neg o5]]
 .rw[aA (show T / 1000000<0 by omega),o6];unfold rnd;rw[hid,hneg,V7 o5,show ax T=-T by unfold ax;rw[if_pos o5]];by_cases hz:T % 1000000=0
  .rw[X0 hz,o7];have hu:upS (-T / 1000000) (-T % 1000000) 1000000 true mode=false:=by unfold upS;rw[X0 (show -T % 1000000=0 by omega)];rfl
   rw[hu];show some (T / 1000000)=some (-(-T / 1000000));congr 1;omega
  .rw[U2 hz,o6,V4 (show kQ (0 -T / 1000000) by unfold kQ;omega),V4 (show kQ (0 -T / 1000000 -1) by unfold kQ;omega),V4 (show kQ (1000000 -T % 1000000) by unfold kQ;omega),EJ _ _ o5 o5 o5 o5 o5,x8];rw[show 0 -T / 1000000 -1=-T / 1000000 by omega,show 1000000 -T % 1000000=-T % 1000000 by omega]
end Go.GP
