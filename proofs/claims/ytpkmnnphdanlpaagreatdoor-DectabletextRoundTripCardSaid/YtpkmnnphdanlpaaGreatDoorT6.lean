import Derived.Test.YtpkmnnphdanlpaaGreatDoorT5
import Derived.Test.YtpkmnnphdanlpaaGreatDoorT1
import Derived.Test.YtpkmnnphdanlpaaGreatDoorT3
import Derived.Lib.ItoaLen
set_option linter.all false
namespace Go.GP
variable {a:Int}{b:Int}{n:Int}
section
variable {α β σ ε ρ:Type}
@[simp] theorem o9 (x:α) (f:α->Option β):o6 (some x) f=f x:=rfl
@[simp] theorem a9K (f:α->Option β):o6 none f=none:=rfl
theorem Xr{o:Option α}{x:α}(h:o=some x)(f:α->Option β):o6 o f=f x:=by rw[h];rfl
theorem J3{o o' :Option α}(h:o=o'){K:α->Option β}{r:Option β}(h2:o6 o' K=r):o6 o K=r:=by rw[h];exact h2
theorem bb(a b:Bool):l9 a (some b) (some false)=some (a&&b):=by cases a<;>rfl
theorem aB(o:Option α):o6 o (λx=>some x)=o:=by cases o<;>rfl
@[simp] theorem o7 (x y:α):l9 true x y=x:=rfl
@[simp] theorem o5 (x y:α):l9 false x y=y:=rfl
theorem sO(b:Bool)(x y:α):l9 b x y=if b=true then x else y:=by cases b<;>rfl
theorem mM{b:Bool}(h:b=true)(x y:α):l9 b x y=x:=by rw[h];rfl
theorem nG{b:Bool}(h:b=false)(x y:α):l9 b x y=y:=by rw[h];rfl
@[simp] theorem J7 (s:σ) (f:σ->α) (g:ε->α):bP (.inl s) f g=f s:=rfl
@[simp] theorem jg (s:ε) (f:σ->α) (g:ε->α):bP (.inr s) f g=g s:=rfl
@[simp] theorem F5:H9 true=false:=rfl
@[simp] theorem P7:H9 false=true:=rfl
theorem Y0(h:a<b):I8 a b=true:=by simp[I8,h]
theorem O6(h:b<=a):I8 a b=false:=by simp[I8];omega
theorem X9(h:a<=b):V6 a b=true:=by simp[V6,h]
theorem bG(h:b<a):V6 a b=false:=by simp[V6];omega
theorem J4(h:a=b):D5 a b=true:=by simp[D5,h]
theorem I9(h:a≠b):D5 a b=false:=by simp[D5,h]
theorem wo :I8 a b=true↔a<b:=by simp[I8]
theorem ul :V6 a b=true↔a<=b:=by simp[V6]
theorem dO :D5 a b=true↔a=b:=by simp[D5]
theorem rY :I8 a b=false↔b<=a:=by simp[I8]
theorem Vf :V6 a b=false↔b<a:=by simp[V6]
theorem xq :D5 a b=false↔a≠b:=by simp[D5]
theorem mW{a b:List UInt8} :seq a b=true↔a=b:=by simp[seq]
theorem sF{a b:List UInt8} :seq a b=false↔a≠b:=by simp[seq]
theorem nz(h:0<=a):a.tdiv b=a / b:=Int.tdiv_eq_ediv_of_nonneg h
theorem yU(h:0<=a):iY a b=a % b:=Int.tmod_eq_emod_of_nonneg h
def fJ(n:Int):Prop:=-9223372036854775808<=n/\n<=9223372036854775807
theorem af{p:Int}(h:fJ p:=by unfold fJ;omega):fJ p:=h
def U64(n:Int):Prop:=0<=n/\n<=18446744073709551615
theorem tu(h:fJ n):IntKind.wrap .i64 n=n:=by unfold fJ at h;unfold IntKind.wrap;simp[IntKind.signed,IntKind.bits];omega
theorem KZ(h:U64 n):IntKind.wrap .u64 n=n:=by unfold U64 at h;unfold IntKind.wrap;simp[IntKind.signed,IntKind.bits];omega
theorem aA(h:fJ (a+b)):I5 .i64 a b=a+b:=tu h
theorem fA(h:fJ (a -b)):ae .i64 a b=a -b:=tu h
theorem EY(h:fJ (a*b)):JK .i64 a b=a*b:=tu h
theorem JL(h:fJ (a.tdiv b)):dX .i64 a b=a.tdiv b:=tu h
theorem WV(h:U64 (a+b)):I5 .u64 a b=a+b:=KZ h
theorem a3u(h:U64 (a.tdiv b)):dX .u64 a b=a.tdiv b:=KZ h
theorem Jv(h:(Lit.int .i64 n).wf=true):fJ n:=by simp[Lit.wf,IntKind.min,IntKind.max,IntKind.signed,IntKind.bits]at h;unfold fJ;omega
theorem Xf(l:List α):0<=x9 l:=by simp[x9]
theorem V4(l:List α)(i:Nat):X0 l (i:Int)=l[i]?:=by simp[X0]
theorem iQ{l:List α}{i:Int}{x:α}(h:X0 l i=some x):0<=i/\i<x9 l/\x∈l/\l[i.toNat]? =some x:=by
 unfold X0 at h;split at h
 .rename_i h0;obtain⟨h1,h2⟩:=aO.1 h;refine⟨h0,by simp[x9];omega,?_,h⟩;rw[←h2];exact X6 h1
 .cases h
theorem ug{l:List α}{i:Int}(h0:0<=i)(h:i<x9 l):∃x,X0 l i=some x/\x∈l:=by
 unfold x9 at h;refine⟨l[i.toNat]'l7,?_,X6 _⟩;unfold X0
 rw[if_pos h0,lG]
theorem oJ(l:List UInt8)(i:Nat):sat l (i:Int)=(l[i]?).map λc=>(c.toNat:Int):=by simp[sat]
theorem L8{a b:List UInt8}(h:a.length+b.length<=4611686018427387904):Z7 a b=some (a++b):=by simp[Z7,h]
theorem OC{a b:List α}(h:a.length+b.length<=1073741824):jV a b=some (a++b):=by simp[jV,h]
theorem GM{l:List α}{lo hi:Int}(h0:0<=lo)(h1:lo<=hi)(h2:hi<=l.length):bQ l lo hi=some ((l.take hi.toNat).drop lo.toNat):=by simp[bQ,h0,h1,h2]
theorem qA{l:List α}{hi:Int}(h1:0<=hi)(h2:hi<=l.length):bQ l 0 hi=some (l.take hi.toNat):=by rw[GM l7 h1 h2];simp
theorem iR{l:List α}{lo:Int}(h1:0<=lo)(h2:lo<=l.length):bQ l lo (x9 l)=some (l.drop lo.toNat):=by rw[GM h1 (by simp[x9];omega) (by simp[x9])];simp[x9]
end
section
variable {σ ε ρ:Type}
theorem Nz{f:σ->Option (σ⊕ε)}(Inv:σ->Prop)(Q:ε->Prop)(meas:σ->Nat)
  (h:∀s,Inv s->(∃s',f s=some (.inl s')/\Inv s' /\meas s' <meas s)\/(∃e,f s=some (.inr e)/\Q e)):
  ∀n s,Inv s->meas s<n->∃e,vS f n s=some e/\Q e
 |0,_,_,h=>by omega|n+1,s,hi,hm=>by
  unfold vS;rcases h s hi with⟨s',e,hi',hm'⟩|⟨x,e,hx⟩
  .rw[e];exact Nz Inv Q meas h n s' hi' l7
  .rw[e];exact⟨x,rfl,hx⟩
theorem qO{f:σ->Option (σ⊕ε)}{s:σ}(Inv:σ->Prop)(Q:ε->Prop)(meas:σ->Nat)(hi:Inv s)(hm:meas s<18446744073709551616)
  (h:∀s,Inv s->(∃s',f s=some (.inl s')/\Inv s' /\meas s' <meas s)\/(∃e,f s=some (.inr e)/\Q e)):∃e,lT f s=some e/\Q e:=
 Nz Inv Q meas h _ s hi hm
theorem Qu{f:σ->Option (Out σ ε ρ)}(Inv:σ->Prop)(Q:ε->Prop)(Qr:ρ->Prop)(meas:σ->Nat)
  (h:∀s,Inv s->(∃s',f s=some (.nx s')/\Inv s' /\meas s' <meas s)\/(∃e,f s=some (.ex e)/\Q e)\/(∃r,f s=some (.rt r)/\Qr r)):
  ∀n s,Inv s->meas s<n->(∃e,dW f n s=some (.inl e)/\Q e)\/(∃r,dW f n s=some (.inr r)/\Qr r)
 |0,_,_,h=>by omega|n+1,s,hi,hm=>by
  unfold dW;rcases h s hi with⟨s',e,hi',hm'⟩|⟨x,e,hx⟩|⟨x,e,hx⟩
  .rw[e];exact Qu Inv Q Qr meas h n s' hi' l7
  .rw[e];exact .inl ⟨x,rfl,hx⟩
  .rw[e];exact .inr ⟨x,rfl,hx⟩
theorem gJ{f:σ->Option (Out σ ε ρ)}{s:σ}(Inv:σ->Prop)(Q:ε->Prop)(Qr:ρ->Prop)(meas:σ->Nat)(hi:Inv s)(hm:meas s<18446744073709551616)
  (h:∀s,Inv s->(∃s',f s=some (.nx s')/\Inv s' /\meas s' <meas s)\/(∃e,f s=some (.ex e)/\Q e)\/(∃r,f s=some (.rt r)/\Qr r)):
  (∃e,P8 f s=some (.inl e)/\Q e)\/(∃r,P8 f s=some (.inr r)/\Qr r):=
 Qu Inv Q Qr meas h _ s hi hm
end
section
variable {α β ε ρ:Type}
open Classical in
theorem TW(l:List α)(p:Nat->α->Bool)(r:ρ)(e:ε)(f:Int->Option (Out Int ε ρ))(hl:l.length<18446744073709551616)
  (hin:∀(i:Nat) (a:α),l[i]? =some a->f (i:Int)=if p i a=true then some (.nx ((i+1:Nat):Int))else some (.rt r))
  (hend:f (l.length:Int)=some (.ex e)):
  P8 f 0=if(∀i a,l[i]? =some a->p i a=true)then some (.inl e)else some (.inr r):=by
 have key:∀(n i:Nat),i<=l.length->l.length -i<n->(∀j a,j<i->l[j]? =some a->p j a=true)->dW f n (i:Int)=if(∀i a,l[i]? =some a->p i a=true)then some (.inl e)else some (.inr r):=by
  intro n;induction n with
  |zero=>intro i _ h;omega|succ n ih=>
   intro i hi hn hp;unfold dW;by_cases h:i<l.length
   .have e' :=lG h;rw[hin i _ e'];by_cases hpi:p i l[i]=true
    .rw[if_pos hpi];exact ih (i+1) l7 l7 λj a hj ha=>by
      by_cases hji:j=i
      .subst hji;rw[e']at ha;cases ha;exact hpi
      .exact hp j a l7 ha
    .rw[if_neg hpi,if_neg];intro hall;exact hpi (hall i _ e')
   .have:i=l.length:=l7;subst this;rw[hend,if_pos];intro j a ha;exact hp j a (aO.1 ha).1 ha
 exact key _ 0 (bI _) hl λj a hj=>by omega
end
end Go.GP
namespace Go.GP
section
variable {α β α' β' σ τ ε ε' ρ ρ' :Type}
theorem Fe{p:Nat->Option ρ}(n:Nat)(hn:n<18446744073709551616)(e:ε){f:Int->Option (Out Int ε ρ)}
  (h1:∀i,i<n->f (i:Int)=some (match p i with|some r=> .rt r|none=> .nx ((i+1:Nat):Int))) (h2:f (n:Int)=some (.ex e)):
  P8 f 0=some (match(List.range n).findSome? p with|some r=> .inr r|none=> .inl e):=by
 have key:∀m i,i+m=n->∀k,m<k->dW f k (i:Int)=some (match(List.range' i m).findSome? p with|some r=> .inr r|none=> .inl e):=by
  intro m;induction m with
  |zero=>intro i hi k hk;obtain⟨k,rfl⟩:∃k',k=k' +1:=⟨k -1,l7⟩;have:i=n:=l7;subst this;unfold dW;rw[h2];rfl
  |succ m ih=>
   intro i hi k hk;obtain⟨k,rfl⟩:∃k',k=k' +1:=⟨k -1,l7⟩;unfold dW;rw[h1 i l7,lS,List.findSome?_cons];cases hp:p i with
   |some r=>rfl|none=>exact ih (i+1) l7 k l7
 have:=key n 0 l7 au hn;rw[List.range_eq_range'];exact this
end
end Go.GP
namespace Go.GP
open Gt
set_option maxRecDepth 100000
variable {i:Nat}
theorem Z8(h:i<=9000000000000000000):I5 .i64 (i:Int) 1=((i+1:Nat):Int):=by rw[aA af];omega
def Ci(c:UInt8):Bool:=decide (97<=c.toNat)&&decide (c.toNat<=122)
def tq(c:UInt8):Bool:=Ci c || (decide (48<=c.toNat)&&decide (c.toNat<=57)) || decide (c.toNat=95)
def KJ:List (List UInt8):=AB.getD []
def lL(s:List UInt8):Bool:=match s with|[]=>false|c::r=>decide (s.length<=16)&&Ci c&&s.all tq&&!(KJ.any λw=>seq s w)
theorem CS(c:UInt8)(r:List UInt8):lL (c::r)=(decide ((c::r).length<=16)&&Ci c&&(c::r).all tq&&!(KJ.any λw=>seq (c::r) w)):=rfl
theorem yX(c:UInt8):jo (c.toNat:Int)=some (Ci c):=by
 unfold jo Ci;cases h:decide (97<=c.toNat)<;>simp only[decide_eq_true_eq,decide_eq_false_iff_not]at h
 .rw[bG l7];rfl
 .rw[X9 l7];simp only[o7,rZ,V6];congr 1;by_cases h2:c.toNat<=122<;>simp[h2]<;>omega
def qM(c:UInt8):Bool:=decide (48<=c.toNat)&&decide (c.toNat<=57)
theorem Ae(c:UInt8):dG (c.toNat:Int)=some (qM c):=by
 unfold dG qM;cases h:decide (48<=c.toNat)<;>simp only[decide_eq_true_eq,decide_eq_false_iff_not]at h
 .rw[bG l7];rfl
 .rw[X9 l7];simp only[o7,rZ,V6];congr 1;by_cases h2:c.toNat<=57<;>simp[h2]<;>omega
theorem a8j(c:UInt8):D5 (c.toNat:Int) 95=decide (c.toNat=95):=by unfold D5;by_cases h:c.toNat=95<;>simp[h]<;>omega
theorem SN{s:List UInt8}(h:s.length<=1000000):∃k,mf s=some k/\(k=x9 s↔s.all tq=true):=by
 unfold mf;have:=qO (f:=λ(x:Int)=>l9 (I8 x (x9 s)) (o6 (sat s x) λx_1=>o6 (jo x_1) λx_2=>l9 x_2 (some (Sum.inl (I5 IntKind.i64 x 1)))
   (o6 (sat s x) λx_3=>o6 (dG x_3) λx_4=>l9 x_4 (some (Sum.inl (I5 IntKind.i64 x 1))) (o6 (sat s x) λx_5=>l9 (D5 x_5 95) (some (Sum.inl (I5 IntKind.i64 x 1))) (some (Sum.inr x))))) (some (Sum.inr x)))
  (s:=0) (λx=>∃i:Nat,x=i/\i<=s.length/\(s.take i).all tq=true) (λk=>k=x9 s↔s.all tq=true) (λx=>s.length -x.toNat) ⟨0,rfl,l7,rfl⟩ F9 ?_
 .obtain⟨k,h1,h2⟩:=this;refine⟨k,?_,h2⟩;rw[aB];exact h1
 .rintro x ⟨i,rfl,hi,hall⟩;by_cases hl:i<s.length
  .have e:=lG hl;simp only[Y0 (show(i:Int)<x9 s by simp[x9];omega),o7,oJ,e,aQ,o9,yX,Ae,a8j];have hst:(s.take (i+1)).all tq=((s.take i).all tq&&tq s[i]):=by rw[bT hl,List.all_append];simp
   have hw:tq s[i]=(Ci s[i] || qM s[i] || decide (s[i].toNat=95)):=rfl;cases hwb:tq s[i]with
   |true=>left;refine⟨((i+1:Nat):Int),?_,⟨i+1,rfl,hl,by rw[hst,hall,hwb];rfl⟩,by simp;omega⟩;rw[Z8 l7];rw[hw]at hwb;cases h1:Ci s[i]<;>cases h2:qM s[i]<;>cases h3:decide (s[i].toNat=95)<;>rw[h1,h2,h3]at hwb<;>first|rfl|cases hwb
   |false=>
    right;refine⟨(i:Int),?_,?_⟩
    .rw[hw]at hwb;cases h1:Ci s[i]<;>cases h2:qM s[i]<;>cases h3:decide (s[i].toNat=95)<;>rw[h1,h2,h3]at hwb<;>first|rfl|cases hwb
    .constructor
     .intro h;simp[x9]at h;omega
     .intro h;have:=bV.1 h s[i] (X6 hl);rw[hwb]at this;cases this
  .right;have:i=s.length:=l7;subst this;rw[bY]at hall;exact⟨_,by rw[O6 (by simp[x9])];rfl,by simp[x9,hall]⟩
theorem a2m{a:List UInt8}{w:List UInt8}{r:Option Bool}{x:Bool}(h:r=some x):l9 (seq a w) (some (seq a w)) r=some (seq a w || x):=by rw[h];cases seq a w<;>rfl
theorem XM(s:List UInt8):xB s=some (KJ.any λw=>seq s w):=by
 unfold xB;refine J3 (o' :=some (KJ.any λw=>seq s w)) ?_ (by cases KJ.any λw=>seq s w<;>rfl);have hr:KJ=(AB).getD []:=rfl;rw[show(KJ.any λw=>seq s w)=List.foldr (λw b=>seq s w || b) false KJ from by induction KJ with|nil=>rfl|cons w l ih=>simp[List.any_cons,ih]];unfold KJ AB;simp only[bF,List.foldr]
 repeat (refine a2m ?_)
 simp
theorem jY{s:List UInt8}(h:s.length<=1000000):cO s=some (lL s):=by
 unfold cO;cases s with
 |nil=>rfl|cons c r=>
  have h1:seq (c::r) []=false:=by simp[seq]
  obtain⟨k,h2,h3⟩:=SN h;rw[h1];simp only[P7,o7];rw[show sat (c::r) 0=some (c.toNat:Int)from rfl,o9,yX,o9,h2,o9,XM,o9];have h4:D5 k (x9 (c::r))=(c::r).all tq:=by rw[kK,dO];exact h3
  have h5:V6 (x9 (c::r)) 16=decide ((c::r).length<=16):=by simp only[V6,x9];congr 1;simp;omega
  rw[h4,h5,CS];cases Ci c<;>cases (c::r).all tq<;>cases decide ((c::r).length<=16)<;>rfl
theorem sJ(t:Int×Int)(en:List dU):bM t en=aS t en:=by
 unfold bM aS;by_cases h1:t.1=1
 .simp[D5,h1,V6]
 by_cases h2:t.1=2
 .simp[D5,h2,V6]
 by_cases h3:t.1=3
 .simp[D5,h3,V6]
 by_cases h4:t.1=4
 .simp[D5,h4,V6]
 by_cases h5:t.1=5
 .simp[D5,h5,V6]
 by_cases h6:t.1=6
 .simp[D5,h6,V6]
 .simp only[D5,h1,h2,h3,h4,h5,h6,decide_false,o5,o9];by_cases h7:1<=t.1
  .rw[mM (X9 h7),nG (bG l7)]
  .rw[nG (bG l7)]
theorem Gv(t:Int×Int)(en:List dU):lC t en=dR t en:=by unfold lC dR;rw[sJ]
def vty(t:Int×Int)(en:List dU):Bool:=l9 (D5 t.1 6) (l9 (V6 0 t.2) (I8 t.2 (x9 en)) false) (l9 (V6 1 t.1) (l9 (V6 t.1 5) (D5 t.2 0) false) false)
theorem oO(t:Int×Int)(en:List dU):aS t en=some (vty t en):=by unfold aS vty;cases D5 t.1 6<;>cases V6 0 t.2<;>cases V6 1 t.1<;>cases V6 t.1 5<;>rfl
theorem vO(t:Int×Int)(en:List dU):bM t en=some (vty t en):=(sJ t en).trans (oO t en)
theorem Vx(t:Int×Int)(en:List dU):∃b:Int×Int,dR t en=some b:=by
 unfold dR;rw[oO,o9];cases hv:vty t en
 .exact⟨_,rfl⟩
 simp only[F5,o5];cases h1:D5 t.1 1<;>simp only[o7,o5]
 .cases h2:D5 t.1 2<;>simp only[o7,o5]
  .cases h3:D5 t.1 3<;>simp only[o7,o5]
   .cases h4:D5 t.1 4<;>simp only[o7,o5]
    .cases h5:D5 t.1 5<;>simp only[o7,o5]
     .have h6:D5 t.1 6=true/\V6 0 t.2=true/\I8 t.2 (x9 en)=true:=by
       unfold vty at hv;rw[xq]at h1 h2 h3 h4 h5;cases h6:D5 t.1 6<;>rw[h6]at hv
       .rw[xq]at h6;cases h7:V6 1 t.1<;>rw[h7]at hv
        .cases hv
        cases h8:V6 t.1 5<;>rw[h8]at hv
        .cases hv
        rw[ul]at h7 h8;omega
       .cases h7:V6 0 t.2<;>rw[h7]at hv
        .cases hv
        .exact⟨rfl,rfl,hv⟩
      obtain⟨x,hx,_⟩:=ug (ul.1 h6.2.1) (wo.1 h6.2.2);rw[hx];exact⟨_,rfl⟩
     .exact⟨_,rfl⟩
    .exact⟨_,rfl⟩
   .exact⟨_,rfl⟩
  .exact⟨_,rfl⟩
 .exact⟨_,rfl⟩
def bnd(t:Int×Int)(en:List dU):Int×Int:=(dR t en).getD (0,0)
theorem QS(t:Int×Int)(en:List dU):dR t en=some (bnd t en):=by obtain⟨b,h⟩:=Vx t en;unfold bnd;rw[h];rfl
theorem Tz(t:Int×Int)(en:List dU):lC t en=some (bnd t en):=(Gv t en).trans (QS t en)
def inB(n:Int)(b:Int×Int):Bool:=l9 (V6 b.1 n) (V6 n b.2) false
def LG(r:Int×Int):Bool:=l9 (V6 0 r.1) (l9 (V6 r.1 r.2) (V6 r.2 109573) false) false
theorem LH(r:Int×Int):sS r=some (LG r):=by unfold sS LG;cases V6 0 r.1<;>cases V6 r.1 r.2<;>rfl
def W_(a b:Int×Int):(Int×Int)×Bool:=l9 (LG a) (l9 (LG b) (l9 (V6 (zk a.2 b.2) (zi a.1 b.1)) ((0,0),false) ((zi a.1 b.1,zk a.2 b.2),true)) ((0,0),false)) ((0,0),false)
theorem a7y(a b:Int×Int):qU a b=some (W_ a b):=by
 unfold qU uj W_;rw[LH,o9,LH,o9];cases LG a
 .rfl
 simp only[o7];cases h1:I8 a.1 a.2
 .rw[rY]at h1;rw[X9 (show zk a.2 b.2<=zi a.1 b.1 by unfold zk zi;omega)];cases LG b<;>rfl
 simp only[o9,F5,o5];cases LG b
 .rfl
 simp only[o7];cases h2:I8 b.1 b.2
 .rw[rY]at h2;rw[X9 (show zk a.2 b.2<=zi a.1 b.1 by unfold zk zi;omega)];rfl
 .cases V6 (zk a.2 b.2) (zi a.1 b.1)<;>rfl
def Bc(a b:Ob):Bool:=l9 (W_ a.1 b.1).2 (I8 (zi a.2.1 b.2.1) (zk a.2.2.1 b.2.2.1)) false
theorem WE(a b:Ob):xU a b=some (Bc a b):=by unfold xU Bc;rw[a7y,o9];cases (W_ a.1 b.1).2<;>rfl
theorem a3l{l:List Ob}(r:Ob)(h:l.length<=1000000):∃k:Int,qW l r=some (k,l.any λy=>Bc y r):=by
 unfold qW;have key:=gJ (f:=λ(x:Int)=>l9 (I8 x (x9 l)) (o6 (X0 l x) λx_1=>o6 (rJ x_1 r) λx_2=>l9 x_2 (some (Out.rt (x,true))) (some (Out.nx (I5 IntKind.i64 x 1)))) (some (Out.ex PUnit.unit)))
   (s:=0) (λx=>∃i:Nat,x=i/\i<=l.length/\(l.take i).any (λy=>Bc y r)=false) (λ_=>(l.any λy=>Bc y r)=false) (λk=>k.2=true/\(l.any λy=>Bc y r)=true) (λx=>l.length -x.toNat) ⟨0,rfl,l7,rfl⟩ F9 ?_
 .rcases key with⟨e,h1,h2⟩|⟨k,h1,h2,h3⟩
  .exact⟨0,by rw[h1,h2];rfl⟩
  .refine⟨k.1,?_⟩;rw[h1,h3,←h2];rfl
 .rintro x ⟨i,rfl,hi,hall⟩;by_cases hl:i<l.length
  .have e:=lG hl;have hst:(l.take (i+1)).any (λy=>Bc y r)=((l.take i).any (λy=>Bc y r) || Bc l[i] r):=by rw[bT hl,yV];simp
   have hv:rJ l[i] r=some (Bc l[i] r):=by unfold rJ;rw[WE];rfl
   simp only[Y0 (show(i:Int)<x9 l by simp[x9];omega),o7,V4,e,o9,hv];cases hc:Bc l[i] r with
   |true=>exact .inr (.inr ⟨_,rfl,rfl,uf.2 ⟨l[i],X6 hl,hc⟩⟩)|false=>exact .inl ⟨((i+1:Nat):Int),by rw[Z8 l7];rfl,⟨i+1,rfl,hl,by rw[hst,hall,hc];rfl⟩,by simp;omega⟩
  .have:i=l.length:=l7;subst this;rw[bY]at hall;exact .inr (.inl ⟨_,by rw[O6 (by simp[x9])];rfl,hall⟩)
def w_(x:Ob)(bl br:Int×Int):Bool:=
 l9 (LG x.1) (l9 (D5 x.1.1 x.1.2) true (l9 (V6 x.2.2.1 x.2.1) true (l9 (inB x.2.1 bl) (l9 (inB (ae .i64 x.2.2.1 1) bl) (H9 (inB x.2.2.2 br)) true) true))) true
def ZL(t:nR)(en:List dU)(i:Nat):Option (Int×Int):=match t.2.2.2[i]? with
 |some x=>l9 (w_ x (bnd t.2.1 en) (bnd t.2.2.1 en)) (some ((i:Int),3)) (l9 ((t.2.2.2.take i).any λy=>Bc y x) (some ((i:Int),11)) none)|none=>none
def Oq(t:nR)(en:List dU):Int×Int:=
 l9 (I8 64 (x9 t.2.2.2)) (64,4) (l9 (vty t.2.1 en) (l9 (vty t.2.2.1 en) (match(List.range t.2.2.2.length).findSome? (ZL t en)with|some r=>r|none=>(0,0)) (-1,8)) (-1,8))
theorem Bj(a b:Int):I8 a b= !V6 b a:=by simp only[I8,V6];rw[←decide_not];congr 1;simp
variable {α:Type}
theorem wQ{l:List α}(h:i<=l.length):bQ l 0 (i:Int)=some (l.take i):=by rw[qA l7 l7];simp
theorem a5M(t:nR)(en:List dU):xR t en=some (Oq t en):=by
 unfold xR Oq;rw[vO,o9,vO,o9];cases h64:I8 64 (x9 t.2.2.2)
 case true=>rfl
 simp only[o5];cases vty t.2.1 en
 .rfl
 cases vty t.2.2.1 en
 .rfl
 simp only[F5,o5,o9,J7,o7,Tz];have hlen:t.2.2.2.length<=64:=by rw[rY]at h64;simp only[x9]at h64;omega
 refine J3 (Fe (p:=ZL t en) t.2.2.2.length l7 PUnit.unit (λi hi=>?_) ?_) ?_
 rotate_left 2
 .cases (List.range t.2.2.2.length).findSome? (ZL t en)<;>rfl
 .have e:=lG hi;simp only[Y0 (show(i:Int)<x9 t.2.2.2 by simp only[x9];omega),o7,V4,e,o9,ZL,LH,wQ (show i<=t.2.2.2.length by omega)];obtain⟨k,hk⟩:=a3l (l:=t.2.2.2.take i) t.2.2.2[i] F9;rw[hk,Z8 l7];unfold w_ inB;simp only[Bj];generalize bnd t.2.1 en=bl;generalize bnd t.2.2.1 en=br;cases LG t.2.2.2[i].1
  .rfl
  cases D5 t.2.2.2[i].1.1 t.2.2.2[i].1.2
  case true=>rfl
  cases V6 t.2.2.2[i].2.2.1 t.2.2.2[i].2.1
  case true=>rfl
  cases V6 bl.1 t.2.2.2[i].2.1
  .rfl
  cases V6 t.2.2.2[i].2.1 bl.2
  .rfl
  cases V6 bl.1 (ae IntKind.i64 t.2.2.2[i].2.2.1 1)
  .rfl
  cases V6 (ae IntKind.i64 t.2.2.2[i].2.2.1 1) bl.2
  .rfl
  cases V6 br.1 t.2.2.2[i].2.2.2
  .rfl
  cases V6 t.2.2.2[i].2.2.2 br.2
  .rfl
  cases (t.2.2.2.take i).any λy=>Bc y t.2.2.2[i]<;>rfl
 .rw[O6 (by simp[x9])];rfl
section
variable {α ε ρ:Type}
theorem JA(l:List α)(p:α->Bool)(r:ρ)(e:ε){f:Int->Option (Out Int ε ρ)}(hl:l.length<=1000000)
  (hin:∀(i:Nat) (a:α),l[i]? =some a->f (i:Int)=some (bif p a then .rt r else .nx (I5 .i64 (i:Int) 1))) (hend:f (l.length:Int)=some (.ex e)):
  P8 f 0=some (bif l.any p then .inr r else .inl e):=by
 rw[TW l (λi a=> !p a) r e f l7 (λi a ha=>?_) hend]
 .have hb:(∀(j:Nat) (a:α),l[j]? =some a->(!p a)=true)↔l.any p=false:=by
   rw[fB];constructor
   .intro h x hx;obtain⟨j,hj,rfl⟩:=jT hx;have:=h j _ (lG hj);simpa using this
   .intro h j a hj;have:=h a (yw hj);simpa using this
  by_cases hv:l.any p=false
  .rw[if_pos (hb.2 hv),hv];rfl
  .rw[if_neg (λh=>hv (hb.1 h))];simp only[DI]at hv;rw[hv];rfl
 .have hi:=(aO.1 ha).1;rw[hin i a ha,Z8 l7];cases p a<;>rfl
theorem yu(l:List α)(p:α->Bool){f:Int->Option (Out Int PUnit Int)}(hl:l.length<=1000000)
  (hin:∀(i:Nat) (a:α),l[i]? =some a->f (i:Int)=some (bif p a then .rt (i:Int)else .nx (I5 .i64 (i:Int) 1))) (hend:f (l.length:Int)=some (.ex PUnit.unit)):
  o6 (o6 (P8 f 0) λo=>bP o (λ_=>some (-1)) λr=>some r) (λx=>some (V6 0 x))=some (l.any p):=by
 have key:=gJ (f:=f) (s:=0) (λx=>∃i:Nat,x=i/\i<=l.length/\(l.take i).any p=false) (λ_=>l.any p=false) (λk=>0<=k/\l.any p=true) (λx=>l.length -x.toNat) ⟨0,rfl,l7,rfl⟩ F9 ?_
 .rcases key with⟨e,h1,h2⟩|⟨k,h1,h2,h3⟩
  .rw[h1,h2];rfl
  .rw[h1,h3,o9,jg,o9,X9 h2]
 .rintro x ⟨i,rfl,hi,hall⟩;by_cases h:i<l.length
  .have e:=lG h;have hst:(l.take (i+1)).any p=((l.take i).any p || p l[i]):=by rw[bT h,yV];simp
   rw[hin i _ e];cases hc:p l[i]with
   |true=>exact .inr (.inr ⟨_,rfl,l7,uf.2 ⟨l[i],X6 h,hc⟩⟩)|false=>exact .inl ⟨((i+1:Nat):Int),by rw[Z8 l7];rfl,⟨i+1,rfl,h,by rw[hst,hall,hc];rfl⟩,by simp;omega⟩
  .have:i=l.length:=l7;subst this;rw[bY]at hall;exact .inr (.inl ⟨_,hend,hall⟩)
theorem V8{l:List α}{a:α}(h:l[i]? =some a):I8 (i:Int) (x9 l)=true:=Y0 (by have:=(aO.1 h).1;simp only[x9];omega)
theorem aG(l:List α):I8 (l.length:Int) (x9 l)=false:=O6 (by simp[x9])
end
theorem IR{l:List dU}(n:List UInt8)(h:l.length<=1000000):wP l n=some (l.any λx=>seq x.1 n):=by unfold wP jw kD;rw[aB];refine yu l (λx=>seq x.1 n) h (λi a ha=>?_) (by rw[aG];rfl);rw[V8 ha,o7,V4,ha,o9];unfold Ce;rw[o9];cases seq a.1 n<;>rfl
theorem Nu{l:List nR}(n:List UInt8)(h:l.length<=1000000):xA l n=some (l.any λx=>seq x.1 n):=by unfold xA iL jI;rw[aB];refine yu l (λx=>seq x.1 n) h (λi a ha=>?_) (by rw[aG];rfl);rw[V8 ha,o7,V4,ha,o9];unfold Aj;rw[o9];cases seq a.1 n<;>rfl
theorem WU{l:List O0}(s:O0)(h:l.length<=1000000):eP l s=some (l.any λx=>seq x.1 s.1):=by unfold eP jH;refine yu l (λx=>seq x.1 s.1) h (λi a ha=>?_) (by rw[aG];rfl);rw[V8 ha,o7,V4,ha,o9];unfold yz;rw[o9];cases seq a.1 s.1<;>rfl
theorem Ze{l:List kV}(s:kV)(h:l.length<=1000000):fU l s=some (l.any λx=>seq x.1 s.1):=by unfold fU kE;refine yu l (λx=>seq x.1 s.1) h (λi a ha=>?_) (by rw[aG];rfl);rw[V8 ha,o7,V4,ha,o9];unfold zl;rw[o9];cases seq a.1 s.1<;>rfl
theorem Nr{l:List jq}(s:jq)(h:l.length<=1000000):bK l s=some (l.any λx=>seq x.1 s.1):=by unfold bK jG;refine yu l (λx=>seq x.1 s.1) h (λi a ha=>?_) (by rw[aG];rfl);rw[V8 ha,o7,V4,ha,o9];unfold yx;rw[o9];cases seq a.1 s.1<;>rfl
theorem a1B{l:List (List UInt8)}(s:List UInt8)(h:l.length<=1000000):jM l s=some (l.any λx=>seq s x):=by unfold jM aV;refine yu l (λx=>seq s x) h (λi a ha=>?_) (by rw[aG];rfl);rw[V8 ha,o7,V4,ha,o9];cases seq s a<;>rfl
theorem a1A{l:List Int}(s:Int)(h:l.length<=1000000):nN l s=some (l.any λx=>D5 s x):=by unfold nN uT;refine yu l (λx=>D5 s x) h (λi a ha=>?_) (by rw[aG];rfl);rw[V8 ha,o7,V4,ha,o9];cases D5 s a<;>rfl
theorem a0k(i k:Nat):I8 (i:Int) (k:Int)=decide (i<k):=by unfold I8;by_cases h:i<k<;>simp[h]<;>omega
def FY(l:gV)(kind:Nat)(k:Nat)(n:List UInt8):Bool:=
 match kind with
 |1=>(l.1.take k).any λx=>seq x.1 n|2=>(l.1.any λx=>seq x.1 n) || ((l.2.1.take k).any λx=>seq x.1 n)|_=>(l.1.any λx=>seq x.1 n) || (l.2.1.any λx=>seq x.1 n) || ((l.2.2.take k).any λx=>seq x.1 n)
def Few(l:gV):Prop:=l.1.length<=1000/\l.2.1.length<=1000/\l.2.2.length<=1000
def Xk(ms:List (List UInt8))(i:Nat):Option (Int×Int):=match ms[i]? with
 |some m=>l9 (lL m) (l9 ((ms.take i).any λx=>seq m x) (some (7,((100+i:Nat):Int))) none) (some (2,((100+i:Nat):Int)))|none=>none
def WH(l:gV)(i:Nat)(e:dU):Int×Int:=
 l9 (lL e.1) (l9 (FY l 1 i e.1) (7,0) (l9 (D5 (x9 e.2) 0) (5,0) (l9 (I8 16 (x9 e.2)) (4,116) (match(List.range e.2.length).findSome? (Xk e.2)with|some r=>r|none=>(0,0))))) (2,0)
theorem a6w(h:i<=1000000):I5 .i64 100 (i:Int)=((100+i:Nat):Int):=by rw[aA af];omega
variable {l:gV}
theorem UH(h:Few l)(hi:i<=l.1.length)(e:dU)(h1:e.1.length<=1000000)(h2:∀m∈e.2,m.length<=1000000):
  yK l (i:Int) e=some (WH l i e):=by
 unfold yK WH FY;rw[jY h1,o9,wQ hi,o9,IR _ (by have:=h.1;simp;omega),o9];cases lL e.1
 .rfl
 simp only[F5,o5,o7];cases (l.1.take i).any λx=>seq x.1 e.1
 case true=>rfl
 cases D5 (x9 e.2) 0
 case true=>rfl
 cases h16:I8 16 (x9 e.2)
 case true=>rfl
 simp only[o5];have hlen:e.2.length<=16:=by rw[rY]at h16;simp only[x9]at h16;omega
 refine J3 (Fe (p:=Xk e.2) e.2.length l7 PUnit.unit (λj hj=>?_) ?_) ?_
 rotate_left 2
 .cases (List.range e.2.length).findSome? (Xk e.2)<;>rfl
 .have e' :=lG hj;rw[V8 e',o7,V4,e',o9,jY (h2 _ (X6 hj)),o9,wQ l7,o9,a1B _ F9,o9,a6w l7,Z8 l7];simp only[Xk,e'];cases lL e.2[j]
  .rfl
  cases (e.2.take j).any λx=>seq e.2[j] x<;>rfl
 .rw[aG];rfl
variable {β:Type}
theorem a3o{p:Nat->Option β}{n j:Nat}{c:β}(h0:(List.range j).findSome? p=none)(h1:p j=some c)(hj:j<n):(List.range n).findSome? p=some c:=by
 induction n with
 |zero=>omega|succ n ih=>
  rw[jd,uC];by_cases h:j<n
  .rw[ih h];rfl
  .have:j=n:=l7;subst this;rw[h0];simp[h1]
theorem a6v{p:Nat->Option β}{j:Nat}(h0:(List.range j).findSome? p=none)(h1:p j=none):(List.range (j+1)).findSome? p=none:=by rw[jd,uC,h0];simp[h1]
variable {ρ:Type}
def iH(n:Nat)(p:Nat->Option ρ):Option ρ:=(List.range n).findSome? p
theorem ET{σ ε ρ:Type}{p:Nat->Option ρ}(n:Nat)(hn:n<=1000000)(a:σ)(e:ε){f:σ×Int->Option (Out (σ×Int) ε ρ)}
  (h1:∀i,i<n->f (a,(i:Int))=some (match p i with|some r=> .rt r|none=> .nx (a,I5 .i64 (i:Int) 1))) (h2:f (a,(n:Int))=some (.ex e)):
  P8 f (a,0)=some (match iH n p with|some r=> .inr r|none=> .inl e):=by
 have key:=gJ (f:=f) (s:=(a,0)) (λx=>∃i:Nat,x=(a,(i:Int))/\i<=n/\iH i p=none) (λx=>x=e/\iH n p=none) (λr=>iH n p=some r) (λx=>n -x.2.toNat) ⟨0,rfl,l7,rfl⟩ F9 ?_
 .rcases key with⟨x,k1,rfl,k2⟩|⟨r,k1,k2⟩
  .rw[k1,k2]
  .rw[k1,k2]
 .rintro x ⟨i,rfl,hi,hnone⟩;by_cases h:i<n
  .rw[h1 i h];cases hp:p i with
   |some r=>exact .inr (.inr ⟨_,rfl,a3o hnone hp h⟩)|none=>exact .inl ⟨(a,((i+1:Nat):Int)),by rw[Z8 l7],⟨i+1,rfl,h,a6v hnone hp⟩,by simp;omega⟩
  .have:i=n:=l7;subst this;exact .inr (.inl ⟨_,h2,rfl,hnone⟩)
def LM(kind i:Int)(r:Int×Int):Option (Int×Int×Int×Int):=l9 (D5 r.1 0) none (some (r.1,kind,i,r.2))
def PY(l:gV)(i:Nat):Option (Int×Int×Int×Int):=match l.1[i]? with|some e=>LM 1 i (WH l i e)|none=>none
def BX(l:gV):Int×Int×Int×Int:=l9 (I8 8 (x9 l.1)) (4,1,8,0) (match iH l.1.length (PY l)with|some r=>r|none=>(0,0,0,0))
def z_(l:gV):Prop:=∀e∈l.1,e.1.length<=1000000/\∀m∈e.2,m.length<=1000000
theorem Sv(h:Few l)(hE:z_ l):xx l=some (BX l):=by
 unfold xx BX;cases I8 8 (x9 l.1)
 case true=>rfl
 simp only[o5];refine J3 (ET (p:=PY l) l.1.length (by have:=h.1;omega) _ (0,0,0,0) (λi hi=>?_) ?_) ?_
 rotate_left 2
 .cases iH l.1.length (PY l)<;>rfl
 .have e:=lG hi;have hm:=hE _ (X6 hi);simp only[V8 e,o7,V4,e,o9,UH h (show i<=l.1.length by omega) _ hm.1 hm.2,PY,LM];cases D5 (WH l i l.1[i]).1 0<;>rfl
 .rw[aG];rfl
variable {n:Nat}
theorem qp{p:Nat->Option ρ}{r:ρ}(h:iH n p=some r):∃i,i<n/\p i=some r:=by unfold iH at h;obtain⟨i,hi,hp⟩:=List.exists_of_findSome?_eq_some h;exact⟨i,ed.1 hi,hp⟩
theorem a5L(t:nR)(en:List dU):(Oq t en).1=-1\/0<=(Oq t en).1:=by
 unfold Oq;cases I8 64 (x9 t.2.2.2)
 case true=>right;simp only[o7];decide
 cases vty t.2.1 en
 .left;rfl
 cases vty t.2.2.1 en
 .left;rfl
 right;simp only[o7,o5];cases hf:(List.range t.2.2.2.length).findSome? (ZL t en)with
 |none=>exact oQ _|some r=>
  obtain⟨i,hi,hp⟩:=qp (p:=ZL t en) hf;unfold ZL at hp;split at hp
  .rename_i x hx;cases hw:w_ x (bnd t.2.1 en) (bnd t.2.2.1 en)<;>rw[hw]at hp
   .cases ha:(t.2.2.2.take i).any λy=>Bc y x<;>rw[ha]at hp
    .cases hp
    .cases hp;show(0:Int)<=(i:Int);omega
   .cases hp;show(0:Int)<=(i:Int);omega
  .cases hp
def j_(l:gV)(i:Nat)(t:nR):Int×Int:=
 l9 (lL t.1) (l9 (FY l 2 i t.1) (7,0) (l9 (D5 (Oq t l.1).2 0) (0,0) ((Oq t l.1).2,l9 (V6 0 (Oq t l.1).1) (I5 .i64 100 (Oq t l.1).1) 0))) (2,0)
def Jq(l:gV)(i:Nat):Option (Int×Int×Int×Int):=match l.2.1[i]? with|some t=>LM 2 i (j_ l i t)|none=>none
def zH(l:gV):Int×Int×Int×Int:=l9 (I8 8 (x9 l.2.1)) (4,2,8,0) (match iH l.2.1.length (Jq l)with|some r=>r|none=>(0,0,0,0))
def Wn(l:gV):Prop:=∀t∈l.2.1,t.1.length<=1000000
theorem PL(h:Few l)(hT:Wn l):ww l=some (zH l):=by
 unfold ww zH;cases I8 8 (x9 l.2.1)
 case true=>rfl
 simp only[o5];refine J3 (ET (p:=Jq l) l.2.1.length (by have:=h.2.1;omega) _ (0,0,0,0) (λi hi=>?_) ?_) ?_
 rotate_left 2
 .cases iH l.2.1.length (Jq l)<;>rfl
 .have e:=lG hi;have hm:=hT _ (X6 hi);simp only[V8 e,o7,V4,e,o9,a5M,jY hm,IR _ (show l.1.length<=1000000 by have:=h.1;omega),wQ (show i<=l.2.1.length by omega),
   Nu _ (show(l.2.1.take i).length<=1000000 by have:=h.2.1;simp;omega),Jq,j_,FY]
  cases lL l.2.1[i].1
  .rfl
  cases l.1.any λx=>seq x.1 l.2.1[i].1
  case true=>rfl
  cases (l.2.1.take i).any λx=>seq x.1 l.2.1[i].1
  case true=>rfl
  simp only[F5,o5,o7,o9,Bool.or_false];cases hz:D5 (Oq l.2.1[i] l.1).2 0
  case true=>rfl
  simp only[P7,o7,o5,LM,hz];rcases a5L l.2.1[i] l.1 with hr|hr
  .rw[J4 hr,bG (show(Oq l.2.1[i] l.1).1<0 by omega)];simp only[F5,o5,o9,hz,P7,o7]
  .rw[I9 (show(Oq l.2.1[i] l.1).1≠-1 by omega),X9 hr];simp only[P7,o7,o9,hz]
 .rw[aG];rfl
variable {ε:Type}
theorem Zc(l:List α)(g:α->β)(hl:l.length<=1000000){f:List β×Int->Option ((List β×Int)⊕ε)}{F:List β->ε}
  (hin:∀(i:Nat) (a:α) (acc:List β),l[i]? =some a->acc.length=i->f (acc,(i:Int))=some (.inl (acc++[g a],I5 .i64 (i:Int) 1))) (hend:∀acc,f (acc,(l.length:Int))=some (.inr (F acc))):
  lT f ([],0)=some (F (l.map g)):=by
 obtain⟨e,h1,h2⟩:=qO (f:=f) (s:=([],0)) (λx=>∃i:Nat,x=((l.take i).map g,(i:Int))/\i<=l.length) (λe=>e=F (l.map g)) (λx=>l.length -x.2.toNat) ⟨0,rfl,l7⟩ F9 (by
  rintro x ⟨i,rfl,hi⟩;by_cases h:i<l.length
  .have e:=lG h;refine .inl ⟨((l.take (i+1)).map g,((i+1:Nat):Int)),?_,⟨i+1,rfl,h⟩,by simp;omega⟩;rw[hin i _ _ e F9,Z8 l7,bT h,gY];rfl
  .have:i=l.length:=l7;subst this;refine .inr ⟨_,hend _,?_⟩;rw[bY])
 rw[h1,h2]
theorem Cb{l:List jq}(h:l.length<=1000000):ru l=some (l.map (·.2)):=by
 unfold ru;rw[aB];refine Zc (F:=id) l (λx=>x.2) h (λi a acc ha hacc=>?_) (λacc=>?_)
 .have hi:=(aO.1 ha).1;simp only[V8 ha,o7,V4,ha,o9];rw[OC (by simp[hacc];omega)];rfl
 .simp only[aG];rfl
def Wl(l:gV):Prop:=∀s∈l.2.2,s.1.length<=1000000/\s.2.2.1.length<=1000/\s.2.2.2.1.length<=1000/\s.2.2.2.2.length<=1000
def a2r(l:gV)(s:O0):List dU×List nR×List (Int×Int)×List (Int×Int)×List (Int×Int)×Bool:=
 match(if 0<=s.2.1 then l.2.2[s.2.1.toNat]? else none)with
 |some k=>(l.1,l.2.1,s.2.2.1.map (·.2),s.2.2.2.1.map (·.2),k.2.2.2.1.map (·.2),true)|none=>(l.1,l.2.1,s.2.2.1.map (·.2),s.2.2.2.1.map (·.2),[],false)
theorem Jm(h:Wl l){s:O0}(hs:l.2.2[i]? =some s):qV l (i:Int)=some (a2r l s):=by
 have hm:=h s (yw hs);unfold qV a2r;rw[V4,hs,o9,Cb l7,o9,Cb l7,o9];by_cases h0:0<=s.2.1
 .rw[X9 h0,if_pos h0,o7];by_cases h1:s.2.1<x9 l.2.2
  .obtain⟨k,hk,hkm⟩:=ug h0 h1;have hk' :l.2.2[s.2.1.toNat]? =some k:=(iQ hk).2.2.2;rw[Y0 h1,o7,hk,o9,Cb (by have:=h k hkm;omega),o9,hk']
  .have h1' :x9 l.2.2<=s.2.1:=sW.1 h1;rw[O6 h1',o5,Y2 (by simp only[x9]at h1';exact Int.le_toNat h0 |>.2 h1')]
 .have h0' :s.2.1<(0:Int):=sV.1 h0;rw[bG h0',if_neg h0];rfl
abbrev SI(l:List Int):Prop:=l.Pairwise (·< ·)
theorem ZU:∀{a b:List Int},SI a->SI b->(∀x,x∈a↔x∈b)->a=b
 |[],[],_,_,_=>rfl|[],y::b,_,_,h=>absurd ((h y).2 A7) A7|x::a,[],_,_,h=>absurd ((h x).1 A7) A7|x::a,y::b,ha,hb,h=>by
  have ha' :=U5.1 ha;have hb' :=U5.1 hb;have hxy:x=y:=by
   rcases D6.1 ((h x).1 A7)with h1|h1
   .exact h1
   .rcases D6.1 ((h y).2 A7)with h2|h2
    .exact h2.symm
    .have:=hb'.1 _ h1;have:=ha'.1 _ h2;omega
  subst hxy;congr 1;refine ZU ha'.2 hb'.2 λz=>⟨λhz=>?_,λhz=>?_⟩
  .rcases D6.1 ((h z).1 (by simp[hz]))with h1|h1
   .have:=ha'.1 _ hz;omega
   .exact h1
  .rcases D6.1 ((h z).2 (by simp[hz]))with h1|h1
   .have:=hb'.1 _ hz;omega
   .exact h1
def ins(n:Int):List Int->List Int
 |[]=>[n]|a::l=>if n<=a then(if n<a then n::a::l else a::l)else a::ins n l
theorem Vm(n x:Int):∀l,x∈ins n l↔x=n\/x∈l
 |[]=>by simp[ins]|a::l=>by
  unfold ins;by_cases h:n<=a
  .rw[if_pos h];by_cases h2:n<a
   .rw[if_pos h2];simp
   .rw[if_neg h2];have:n=a:=l7;subst this;simp
  .rw[if_neg h,D6,Vm n x l,D6];constructor
   .rintro(h|h|h)<;>simp[h]
   .rintro(h|h|h)<;>simp[h]
theorem a5c(n:Int):∀{l},SI l->SI (ins n l)
 |[],_=>List.pairwise_singleton _ _|a::l,h=>by
  have h' :=U5.1 h;unfold ins;by_cases h1:n<=a
  .rw[if_pos h1];by_cases h2:n<a
   .rw[if_pos h2];refine U5.2 ⟨λx hx=>?_,h⟩;rcases D6.1 hx with rfl|hx
    .exact h2
    .have:=h'.1 x hx;omega
   .rw[if_neg h2];exact h
  .rw[if_neg h1];refine U5.2 ⟨λx hx=>?_,a5c n h'.2⟩;rcases(Vm n x l).1 hx with rfl|hx
   .omega
   .exact h'.1 x hx
def Qo(ns:List Int)(l:List Int):List Int:=ns.foldl (λacc n=>ins n acc) l
theorem Qz(x:Int):∀ns l,x∈Qo ns l↔x∈ns\/x∈l
 |[],l=>by simp[Qo]|n::ns,l=>by
  show x∈Qo ns (ins n l)↔_;rw[Qz x ns,Vm,D6];constructor
  .rintro(h|h|h)<;>simp[h]
  .rintro((h|h)|h)<;>simp[h]
theorem VM:∀ns {l},SI l->SI (Qo ns l)
 |[],_,h=>h|n::ns,_,h=>VM ns (a5c n h)
def Jo(l:List Int):List Int:=Qo l []
theorem Xl(x:Int)(l:List Int):x∈Jo l↔x∈l:=by unfold Jo;rw[Qz];simp
theorem a0P(l:List Int):SI (Jo l):=VM l List.Pairwise.nil
theorem Qq(n:Int):∀l,(ins n l).length<=l.length+1
 |[]=>by simp[ins]|a::l=>by
  unfold ins;by_cases h1:n<=a
  .rw[if_pos h1];by_cases h2:n<a
   .rw[if_pos h2];simp
   .rw[if_neg h2];simp
  .rw[if_neg h1];have:=Qq n l;simp only[D9];omega
theorem Ny:∀ns l,(Qo ns l).length<=l.length+ns.length
 |[],l=>by simp[Qo]|n::ns,l=>by have h1:=Ny ns (ins n l);have h2:=Qq n l;show(Qo ns (ins n l)).length<=_;simp only[D9];omega
theorem Xe(l:List Int):(Jo l).length<=l.length:=by have:=Ny l [];unfold Jo;simpa using this
theorem ZV{l:List Int}(n:Nat)(h:SI l)(h2:∀x∈l,0<=x/\x<n):l.length<=n:=by
 have key:∀(l:List Int) (lo:Int),SI l->(∀x∈l,lo<=x/\x<n)->lo<=n->(l.length:Int)<=n -lo:=by
  intro l;induction l with
  |nil=>intro lo _ _ hlo;simp;omega|cons a l ih=>intro lo hs hb hlo;have h' :=U5.1 hs;have ha:=hb a A7;have:=ih (a+1) h'.2 (λx hx=>⟨by have:=h'.1 x hx;omega,(hb x (by simp[hx])).2⟩) l7;simp only[D9];omega
 have:=key l 0 h (λx hx=>h2 x hx) l7;omega
theorem PP(x:Int):∀(l:List Int) (p:Int),(p::l).Pairwise (·<=·)->SI (p::ddp p l)/\(x∈p::ddp p l↔x∈p::l)
 |[],p,_=>⟨List.pairwise_singleton _ _,Iff.rfl⟩|a::l,p,h=>by
  have h1:=U5.1 h;obtain⟨i1,i2⟩:=PP x l a h1.2;have h2:=U5.1 h1.2;have hpa:=h1.1 a A7;unfold ddp;cases hq:D5 a p
  .rw[xq]at hq;simp only[cond_false];refine⟨U5.2 ⟨λy hy=>?_,i1⟩,?_⟩
   .rcases D6.1 hy with rfl|hy
    .omega
    .have:=(U5.1 i1).1 y hy;omega
   .rw[D6,i2,D6 (a:=x) (b:=p)]
  .rw[dO]at hq;subst hq;simp only[cond_true];refine⟨i1,?_⟩;rw[i2];simp
theorem a2Y(l:List Int):dd (EZ l)=Jo l:=by
 have hs:=DF l;have hp:=DD l;refine ZU ?_ (a0P l) λx=>?_
 .cases he:EZ l with
  |nil=>exact List.Pairwise.nil|cons a r=>rw[he]at hs;exact(PP a r a hs).1
 .rw[Xl,←hp.mem_iff];cases he:EZ l with
  |nil=>exact Iff.rfl|cons a r=>rw[he]at hs;exact(PP x r a hs).2
theorem a1E(l:List Int):(EZ l).length=l.length:=(DD l).length_eq
theorem a7I{l:List Int}(h:l.length<=1000000):o6 (zW l) (λx=>ql x)=some (Jo l):=by unfold zW ql;rw[show Nat.blt l.length 4611686018427387904=true from by simp[Nat.blt];omega];simp only[cond_true,o9];rw[show Nat.blt (EZ l).length 4611686018427387904=true from by rw[a1E];simp[Nat.blt];omega];rw[cond_true,a2Y]
def hg(l:List Int)(i:Nat):Int:=l.getD i 0
theorem Yl{l:List α}{a:α}(h:(l.take n)[i]? =some a):i<n/\l[i]? =some a:=by
 rw[V9]at h;split at h
 .exact⟨by assumption,h⟩
 .cases h
def ES(en:List dU)(f:jq)(a b:List jq):Int:=
 l9 (lL f.1) (l9 (a.any λx=>seq x.1 f.1) 7 (l9 (b.any λx=>seq x.1 f.1) 7 (l9 (vty f.2 en) 0 8))) 2
theorem Ic{f:jq}{a b:List jq}(h:f.1.length<=1000000)(ha:a.length<=1000000)(hb:b.length<=1000000):uI l f a b=some (ES l.1 f a b):=by
 unfold uI ES;rw[jY h,o9,Nr _ ha,o9,Nr _ hb,o9,vO,o9];cases lL f.1
 .rfl
 cases a.any λx=>seq x.1 f.1
 case true=>rfl
 cases b.any λx=>seq x.1 f.1
 case true=>rfl
 cases vty f.2 l.1<;>rfl
def PZ(c e:Int):Option (Int×Int):=l9 (D5 c 0) none (some (c,e))
def inP(l:gV)(s:O0)(i:Nat):Option (Int×Int):=match s.2.2.1[i]? with|some f=>PZ (ES l.1 f (s.2.2.1.take i) []) (100+i:Nat)|none=>none
def a1w(l:gV)(s:O0)(i:Nat):Option (Int×Int):=match s.2.2.2.1[i]? with|some f=>PZ (ES l.1 f s.2.2.1 (s.2.2.2.1.take i)) (200+i:Nat)|none=>none
def a2F(s:O0):Prop:=(∀f∈s.2.2.1,f.1.length<=1000000)/\(∀f∈s.2.2.2.1,f.1.length<=1000000)
theorem a0e{c i:Nat}(hc:c<=1000)(h:i<=1000000):I5 .i64 (c:Int) (i:Int)=((c+i:Nat):Int):=by rw[aA af];omega
def Dx(l:gV)(s:O0):Option (Int×Int):=match iH s.2.2.1.length (inP l s)with|some r=>some r|none=>iH s.2.2.2.1.length (a1w l s)
def arF(op:Int):Int:=(oN op).getD 0
variable {op:Int}
theorem QN(h:1<=op/\op<=39):∃k:Fin 40,op=(k.val:Int):=⟨⟨op.toNat,l7⟩,by simp;omega⟩
theorem b1L:∀k:Fin 40,1<=k.val->(kW (k.val:Int)=oN (k.val:Int))/\(oN (k.val:Int)=some 0\/oN (k.val:Int)=some 1\/oN (k.val:Int)=some 2\/oN (k.val:Int)=some 3):=by decide+kernel
theorem Ve(h:¬(1<=op/\op<=39))(k:Int)(h1:1<=k)(h2:k<=39):D5 op k=false:=I9 l7
theorem Vw(h:¬(1<=op/\op<=39)):oN op=some (-1):=by
 unfold oN;by_cases h1:1<=op
 .rw[X9 h1,o7,bG (show(9:Int)<op by omega),o5,bG (show(39:Int)<op by omega),bG (show(30:Int)<op by omega)];simp[Ve h];cases V6 35 op<;>cases V6 11 op<;>rfl
 .rw[bG (show op<1 by omega),o5,bG (show op<35 by omega),bG (show op<11 by omega)];simp[Ve h]
theorem a9s(h:¬(1<=op/\op<=39)):kW op=some (-1):=by unfold kW;simp[Ve h]
theorem Pn(op:Int):kW op=some (arF op)/\oN op=some (arF op)/\(arF op=-1\/arF op=0\/arF op=1\/arF op=2\/arF op=3):=by
 unfold arF;by_cases h:1<=op/\op<=39
 .obtain⟨k,rfl⟩:=QN h;obtain⟨h1,h2⟩:=b1L k l7;rcases h2 with h2|h2|h2|h2<;>rw[h1,h2]<;>simp
 .rw[a9s h,Vw h];simp
theorem a2N(op:Int):kW op=some (arF op):=(Pn op).1
inductive XT where
 |l0 (n:Int×Int)|l1 (n:Int×Int) (a:XT)|l2 (n:Int×Int) (a b:XT)|l3 (n:Int×Int) (a b c:XT)
def XT.size:XT->Nat
 | .l0 _=>1| .l1 _ a=>a.size+1| .l2 _ a b=>a.size+b.size+1| .l3 _ a b c=>a.size+b.size+c.size+1
def XT.post:XT->List (Int×Int)
 | .l0 n=>[n]| .l1 n a=>a.post++[n]| .l2 n a b=>a.post++b.post++[n]| .l3 n a b c=>a.post++b.post++c.post++[n]
def XT.sts(o:Nat):XT->List Int
 | .l0 _=>[(o:Int)]| .l1 _ a=>a.sts o++[(o:Int)]| .l2 _ a b=>a.sts o++b.sts (o+a.size)++[(o:Int)]| .l3 _ a b c=>a.sts o++b.sts (o+a.size)++c.sts (o+a.size+b.size)++[(o:Int)]
theorem XT.size_pos(t:XT):0<t.size:=by cases t<;>simp[XT.size]
theorem XT.post_len(t:XT):t.post.length=t.size:=by
 induction t with
 |l0 n=>rfl|l1 n a ha=>simp[XT.post,XT.size,ha]|l2 n a b ha hb=>simp[XT.post,XT.size,ha,hb];try omega
 |l3 n a b c ha hb hc=>simp[XT.post,XT.size,ha,hb,hc];try omega
theorem XT.sts_len(t:XT):∀o,(t.sts o).length=t.size:=by
 induction t with
 |l0 n=>intro o;rfl|l1 n a ha=>intro o;simp[XT.sts,XT.size,ha]|l2 n a b ha hb=>intro o;simp[XT.sts,XT.size,ha,hb];try omega
 |l3 n a b c ha hb hc=>intro o;simp[XT.sts,XT.size,ha,hb,hc];try omega
def kT:List XT->Nat
 |[]=>0|t::r=>kT r+t.size
def Em:List XT->List (Int×Int)
 |[]=>[]|t::r=>Em r++t.post
def stR:List XT->List Int
 |[]=>[]|t::r=>stR r++t.sts (kT r)
def rM:List XT->List Int
 |[]=>[]|t::r=>rM r++[(kT r:Int)]
theorem rD:∀ts,(rM ts).length=ts.length
 |[]=>rfl|t::r=>by simp[rM,rD r]
theorem KW:∀ts,(stR ts).length=kT ts
 |[]=>rfl|t::r=>by simp[stR,kT,KW r,XT.sts_len]
theorem GY:∀ts,(Em ts).length=kT ts
 |[]=>rfl|t::r=>by simp[Em,kT,GY r,XT.post_len]
def push(n:Int×Int)(ts:List XT):Int⊕List XT:=
 if arF n.1=0 then .inr (.l0 n::ts)
 else if arF n.1=1 then(match ts with|a::r=> .inr (.l1 n a::r)|_=> .inl 5)
 else if arF n.1=2 then(match ts with|b::a::r=> .inr (.l2 n a b::r)|_=> .inl 5)
 else if arF n.1=3 then(match ts with|c::b::a::r=> .inr (.l3 n a b c::r)|_=> .inl 5)
 else .inl 2
def vT:Nat->List (Int×Int)->List XT->(Int×Int)⊕List XT
 |_,[],ts=> .inr ts
 |i,n::es,ts=>match push n ts with
  | .inl c=> .inl ((i:Int),c)| .inr ts' =>if 12<ts'.length then .inl ((i:Int),16)else vT (i+1) es ts'
def oK(e:List (Int×Int)):(Int×Int)⊕XT:=
 if 48<e.length then .inl (0,4)else if e.length=0 then .inl (0,5)else
  match vT 0 e []with
  | .inl x=> .inl x| .inr [t]=> .inr t| .inr _=> .inl ((e.length:Int),4)
theorem Uf{n:Int×Int}{ts ts' :List XT}(h:push n ts= .inr ts'):Em ts' =Em ts++[n]/\ts' ≠[]:=by
 unfold push at h;split at h
 .cases h;exact⟨rfl,A7⟩
 split at h
 .split at h
  .cases h;exact⟨by simp[Em,XT.post],A7⟩
  .cases h
 split at h
 .split at h
  .cases h;exact⟨by simp[Em,XT.post],A7⟩
  .cases h
 split at h
 .split at h
  .cases h;exact⟨by simp[Em,XT.post],A7⟩
  .cases h
 .cases h
theorem Ha{n:Int×Int}{ts ts' :List XT}(h:push n ts= .inr ts'):kT ts' =kT ts+1:=by rw[←GY,←GY,(Uf h).1];simp
theorem DL:∀(es:List (Int×Int)) (i:Nat) (ts ts' :List XT),vT i es ts= .inr ts' ->Em ts' =Em ts++es/\(ts≠[]\/es≠[]->ts' ≠[])
 |[],i,ts,ts',h=>by cases h;exact⟨A7,A7⟩|n::es,i,ts,ts',h=>by
  unfold vT at h;cases hp:push n ts with
  |inl c=>rw[hp]at h;cases h|inr t2=>
   rw[hp]at h;simp only at h;split at h
   .cases h
   .obtain⟨h1,h2⟩:=DL es (i+1) t2 ts' h;obtain⟨h3,h4⟩:=Uf hp;exact⟨by rw[h1,h3];simp,λ_=>h2 (.inl h4)⟩
theorem wX{e:List (Int×Int)}{t:XT}(h:oK e= .inr t):e=t.post/\e.length<=48:=by
 unfold oK at h;split at h
 .cases h
 split at h
 .cases h
 split at h
 .cases h
 .rename_i t' hp;cases h;have:=(DL e 0 [] [t] hp).1;exact⟨by simpa[Em]using this.symm,l7⟩
 .cases h
theorem Yh{σ ε ρ:Type}(e:List (Int×Int))(he:e.length<=48)(g:List XT->σ)(fin:List XT->ε)(rt:Int×Int->ρ){f:σ->Option (Out σ ε ρ)}
  (hs:∀(i:Nat) (n:Int×Int) (ts:List XT),e[i]? =some n->i=kT ts->ts.length<=12->f (g ts)=some (match push n ts with
   | .inl c=> .rt (rt ((i:Int),c))
   | .inr ts' =>if 12<ts'.length then .rt (rt ((i:Int),16))else .nx (g ts')))
  (hend:∀ts,kT ts=e.length->f (g ts)=some (.ex (fin ts))):
  P8 f (g [])=some (match vT 0 e []with| .inl x=> .inr (rt x)| .inr ts=> .inl (fin ts)):=by
 have key:∀(es:List (Int×Int)) (i:Nat) (ts:List XT) (k:Nat),e.drop i=es->i=kT ts->ts.length<=12->i<=e.length->es.length<k->
   dW f k (g ts)=some (match vT i es ts with| .inl x=> .inr (rt x)| .inr ts=> .inl (fin ts)):=by
  intro es;induction es with
  |nil=>
   intro i ts k hd hi hl hle hk;obtain⟨k,rfl⟩:∃k',k=k' +1:=⟨k -1,l7⟩;have:i=e.length:=by have:=congrArg List.length hd;simp at this;omega
   unfold dW;rw[hend ts l7];rfl
  |cons n es ih=>
   intro i ts k hd hi hl hle hk;obtain⟨k,rfl⟩:∃k',k=k' +1:=⟨k -1,l7⟩;have hn:e[i]? =some n:=by
    have:(e.drop i)[0]? =some n:=by rw[hd];rfl
    simpa using this
   have hlt:=(aO.1 hn).1;unfold dW;rw[hs i n ts hn hi hl];unfold vT;cases hp:push n ts with
   |inl c=>rfl|inr ts' =>
    simp only;by_cases h12:12<ts'.length
    .rw[if_pos h12,if_pos h12]
    .rw[if_neg h12,if_neg h12];exact ih (i+1) ts' k (by rw[←U3,hd];rfl) (by rw[Ha hp,hi]) l7 l7 (by simp at hk;omega)
 exact key e 0 [] au rfl rfl A7 l7 (by unfold au;omega)
theorem Xt:∀(p r:List XT),∃X,rM (p++r)=rM r++X/\X.length=p.length/\(p≠[]->X.head?=some (kT r:Int))
 |[],r=>⟨[],A7,rfl,λh=>absurd rfl h⟩|a::p,r=>by
  obtain⟨X,h1,h2,h3⟩:=Xt p r;refine⟨X++[(kT (p++r):Int)],?_,by simp[h2],λ_=>?_⟩
  .show rM (p++r)++[(kT (p++r):Int)]=_;rw[h1,E9]
  .cases p with
   |nil=>simp at h2;subst h2;rfl|cons b p=>rw[List.head?_append,h3 A7];rfl
theorem Zz(p r:List XT)(k:Int)(hk:k=(p.length:Int))(h:p.length+r.length<=100)(hp:p≠[]):
  ae .i64 (x9 (rM (p++r))) k=(r.length:Int)/\X0 (rM (p++r)) (r.length:Int)=some (kT r:Int)/\qN (rM (p++r)) (jC (r.length:Int))=some (kT r:Int)
  /\mJ 0 (r.length:Int) (x9 (rM (p++r)))=true/\kN (rM (p++r)) (jC 0) (jC (r.length:Int))=rM r:=by
 obtain⟨X,h1,h2,h3⟩:=Xt p r;have hl:(rM (p++r)).length=r.length+p.length:=by rw[rD];simp;omega
 have hg:(rM (p++r))[r.length]? =some (kT r:Int):=by rw[h1,F7 (by rw[rD];omega),rD,aI,←List.head?_eq_getElem?];exact h3 hp
 refine⟨?_,?_,?_,?_,?_⟩
 .simp only[x9,hl];rw[fA af];omega
 .rw[V4];exact hg
 .exact hg
 .simp only[mJ,x9,hl,decide_eq_true_eq];omega
 .show((rM (p++r)).take r.length).drop 0=_;rw[h1,aX,Y3 (by rw[rD];omega),P6 (by rw[rD];omega)]
theorem a0j(ts:List XT):I8 12 (x9 (rM ts))=decide (12<ts.length):=by rw[show x9 (rM ts)=((ts.length:Nat):Int) by simp[x9,rD]];exact a0k 12 ts.length
theorem nJ{l:List α}(x:α)(h:l.length<=1000000):jV l [x]=some (l++[x]):=OC F9
theorem Ql(ts:List XT)(k:Nat):I8 (x9 (rM ts)) (k:Int)=decide (ts.length<k):=by rw[show x9 (rM ts)=((ts.length:Nat):Int) by simp[x9,rD]];exact a0k _ _
def xQ(e:List (Int×Int)):List Int×Int×Int:=match oK e with| .inl x=>([],x)| .inr t=>(t.sts 0,0,0)
theorem a2c{e:List (Int×Int)}(h0:e.length≠0){K:List Int×Int×Int->List Int×Int×Int}(h48:¬48<e.length)
  {r:List Int×Int×Int} (h:∀ts,vT 0 e []= .inr ts->r=l9 (I8 1 (x9 (rM ts))) ([],x9 e,4) (stR ts,0,0)) (hi:∀x,vT 0 e []= .inl x->r=([],x)):r=xQ e:=by
 unfold xQ oK;rw[if_neg h48,if_neg h0];cases hp:vT 0 e []with
 |inl x=>exact hi x hp|inr ts=>
  rw[h ts hp];have:=(DL e 0 [] ts hp).2 (.inr (by intro he;subst he;exact h0 rfl));match ts,this with
  |[t],_=>simp[rM,x9,I8,stR,kT]|a::b::ts,_=>rw[Y0 (by simp[x9,rD];omega)];rfl
def pd(l:List Int)(k:Nat):List Int:=l++List.replicate k 0
theorem a4k(l:List Int)(m:Nat):X0 (pd l (m+1)) (l.length:Int)=some 0:=by rw[V4];unfold pd;rw[F7 l7,aI];rfl
theorem a7b(l:List Int)(m:Nat):qN (pd l (m+1)) (jC (l.length:Int))=some 0:=by have:=a4k l m;rw[V4]at this;exact this
theorem a9S(l:List Int)(m:Nat)(v:Int):wI (pd l (m+1)) (jC (l.length:Int)) v=pd (l++[v]) m:=by show(l++List.replicate (m+1) 0).set l.length v=_;rw[pG _ _ l7,aI,jU];simp[pd]
theorem OI(l:List Int)(m:Nat)(v w:Int):wI (pd (l++[v]) m) (jC (l.length:Int)) w=pd (l++[w]) m:=by show(l++[v]++List.replicate m 0).set l.length w=_;rw[E9,pG _ _ l7,aI];simp[pd]
theorem Kr(l:List Int)(m:Nat)(v:Int):X0 (pd (l++[v]) m) (l.length:Int)=some v:=by rw[V4];unfold pd;rw[E9,F7 l7,aI];rfl
theorem Kt(l:List Int)(m:Nat)(v:Int):qN (pd (l++[v]) m) (jC (l.length:Int))=some v:=by have:=Kr l m v;rw[V4]at this;exact this
theorem zG(e:List (Int×Int)):uA e=some (xQ e):=by
 unfold uA;by_cases h48:48<e.length
 .rw[Y0 (by simp[x9];omega),o7];unfold xQ oK;rw[if_pos h48]
 by_cases h0:e.length=0
 .rw[O6 (by simp[x9];omega),o5,J4 (by simp[x9,h0]),o7];unfold xQ oK;rw[if_neg h48,if_pos h0]
 rw[O6 (by simp[x9];omega),o5,I9 (by simp[x9];intro h;exact h0 (by simp[h])),o5];rw[show Ja (x9 e) (0:Int)=some (pd (stR []) (e.length -kT [])) by simp[Ja,x9,pd,stR,kT];omega,o9];refine J3 (Yh e l7 (λts=>(pd (stR ts) (e.length -kT ts),rM ts,(kT ts:Int))) (λts=>(pd (stR ts) (e.length -kT ts),rM ts)) (λx=>(([]:List Int),x)) (λi n ts hn hi hl=>?_) (λts hsz=>?_)) ?_
 rotate_left 2
 .rw[←a2c h0 h48 (K:=id) (r:=match vT 0 e []with| .inl x=>([],x)| .inr ts=>l9 (I8 1 (x9 (rM ts))) ([],x9 e,4) (stR ts,0,0)) (λts h=>by rw[h]) (λx h=>by rw[h])];cases hp:vT 0 e []with
  |inl x=>rfl|inr ts=>
   have:=(DL e 0 [] ts hp).1;have hz:e.length -kT ts=0:=by have:=congrArg List.length this;rw[GY]at this;simp[Em]at this;omega
   simp only[o9,J7,hz,pd,List.replicate_zero,E5];cases I8 1 (x9 (rM ts))<;>rfl
 .subst hi;have hlt:=(aO.1 hn).1;have hst:=KW ts;have hof:=rD ts;obtain⟨m,hm⟩:∃m,e.length -kT ts=m+1:=⟨e.length -kT ts -1,l7⟩;simp only[V8 hn,o7,V4 e,hn,o9,a2N,hm];rw[←hst];simp only[a4k,a7b,o9,a9S,Kr,Kt,OI];rw[hst];rcases(Pn n.1).2.2 with h|h|h|h|h
  .rw[show push n ts= .inl 2 by simp[push,h],h];rfl
  .have e0:ae .i64 (x9 (rM ts)) 0=((rM ts).length:Int):=by rw[fA (by unfold fJ x9;omega)];simp[x9]
   rw[show push n ts= .inr (.l0 n::ts) by simp[push,h],h,O6 l7,o5,O6 (Xf _),o5,o5,e0,show mJ 0 ((rM ts).length:Int) (x9 (rM ts))=true by simp[mJ,x9],o7,
    show kN (rM ts) (jC 0) (jC ((rM ts).length:Int))=rM ts by simp[kN,jC],nJ _ l7,o9,Z8 l7]
   rw[show rM ts++[(kT ts:Int)]=rM (.l0 n::ts)from rfl,a0j];by_cases hc:12<(XT.l0 n::ts).length
   .simp only[hc,decide_true,if_true,o7]
   .simp only[hc,decide_false,if_false,o5,kT,XT.size,stR,XT.sts,show e.length -(kT ts+1)=m by omega]
  .match ts with
   |[]=>rw[show push n []= .inl 5 by simp[push,h],h];rfl|a::r=>
    obtain⟨p1,p2,p3,p4,p5⟩:=Zz [a] r 1 rfl (by simp at hl ⊢;omega) A7;simp only[N8,H7]at p1 p2 p3 p4 p5;have:=KW (a::r);have:=rD r;simp only[D9]at hl;rw[show push n (a::r)= .inr (.l1 n a::r) by simp[push,h],h,O6 l7,o5,show(1:Int)=((1:Nat):Int)from rfl,Ql,show decide ((a::r).length<1)=false by simp];simp only[Int.natCast_one]at p1 ⊢;rw[o5,Y0 l7,o7,p1,p2,o9,p3,o9,p4,o7,p5];rw[←hst]
    try simp only[OI,Kr,Kt,o9]
    rw[hst,nJ _ l7,o9,Z8 l7];rw[show rM r++[(kT r:Int)]=rM (.l1 n a::r)from rfl,a0j];have hz:=Ha (show push n (a::r)= .inr (.l1 n a::r) by simp[push,h]);by_cases hc:12<(XT.l1 n a::r).length
    .simp only[hc,decide_true,if_true,o7]
    .simp only[hc,decide_false,if_false,o5,hz,show e.length -(kT (a::r)+1)=m by omega,stR,XT.sts,E9]
  .match ts with
   |[]=>rw[show push n []= .inl 5 by simp[push,h],h];rfl|[a]=>rw[show push n [a]= .inl 5 by simp[push,h],h];rfl|b::a::r=>
    obtain⟨p1,p2,p3,p4,p5⟩:=Zz [b,a] r 2 rfl (by simp at hl ⊢;omega) A7;simp only[N8,H7]at p1 p2 p3 p4 p5;have:=KW (b::a::r);have:=rD r;simp only[D9]at hl;rw[show push n (b::a::r)= .inr (.l2 n a b::r) by simp[push,h],h,O6 l7,o5,show(2:Int)=((2:Nat):Int)from rfl,Ql,show decide ((b::a::r).length<2)=false by simp];rw[o5,Y0 l7,o7,show((2:Nat):Int)=2 from rfl,p1,p2,o9,p3,o9,p4,o7,p5];rw[←hst]
    try simp only[OI,Kr,Kt,o9]
    rw[hst,nJ _ l7,o9,Z8 l7];rw[show rM r++[(kT r:Int)]=rM (.l2 n a b::r)from rfl,a0j];have hz:=Ha (show push n (b::a::r)= .inr (.l2 n a b::r) by simp[push,h]);by_cases hc:12<(XT.l2 n a b::r).length
    .simp only[hc,decide_true,if_true,o7]
    .rw[hz,show e.length -(kT (b::a::r)+1)=m by omega,show stR (.l2 n a b::r)=stR (b::a::r)++[(kT r:Int)] by simp only[stR,XT.sts,E9,kT]];simp only[hc,decide_false,if_false,o5]
  .match ts with
   |[]=>rw[show push n []= .inl 5 by simp[push,h],h];rfl|[a]=>rw[show push n [a]= .inl 5 by simp[push,h],h];rfl|[b,a]=>rw[show push n [b,a]= .inl 5 by simp[push,h],h];rfl|c::b::a::r=>
    obtain⟨p1,p2,p3,p4,p5⟩:=Zz [c,b,a] r 3 rfl (by simp at hl ⊢;omega) A7;simp only[N8,H7]at p1 p2 p3 p4 p5;have:=KW (c::b::a::r);have:=rD r;simp only[D9]at hl;rw[show push n (c::b::a::r)= .inr (.l3 n a b c::r) by simp[push,h],h,O6 l7,o5,show(3:Int)=((3:Nat):Int)from rfl,Ql,show decide ((c::b::a::r).length<3)=false by simp];rw[o5,Y0 l7,o7,show((3:Nat):Int)=3 from rfl,p1,p2,o9,p3,o9,p4,o7,p5];rw[←hst]
    try simp only[OI,Kr,Kt,o9]
    rw[hst,nJ _ l7,o9,Z8 l7];rw[show rM r++[(kT r:Int)]=rM (.l3 n a b c::r)from rfl,a0j];have hz:=Ha (show push n (c::b::a::r)= .inr (.l3 n a b c::r) by simp[push,h]);by_cases hc:12<(XT.l3 n a b c::r).length
    .simp only[hc,decide_true,if_true,o7]
    .rw[hz,show e.length -(kT (c::b::a::r)+1)=m by omega,show stR (.l3 n a b c::r)=stR (c::b::a::r)++[(kT r:Int)] by simp only[stR,XT.sts,E9,kT]];simp only[hc,decide_false,if_false,o5]
 .simp only[hsz,aG];rfl
end Go.GP
namespace Go.GP
open Gt
set_option maxRecDepth 100000
def VT(t:Int×Int):Prop:=t=(1,0)\/t=(2,0)\/t=(3,0)\/t=(4,0)\/t=(5,0)\/∃e,t=(6,e)
theorem Gh{t:Int×Int}{en:List dU}(h:vty t en=true):VT t:=by
 obtain⟨k,e⟩:=t;unfold vty at h;simp only at h;cases h6:D5 k 6
 .rw[h6,o5]at h;cases h1:V6 1 k<;>rw[h1]at h
  .cases h
  cases h5:V6 k 5<;>rw[h5]at h
  .cases h
  simp only[o7,dO]at h;rw[ul]at h1 h5;subst h;have:k=1\/k=2\/k=3\/k=4\/k=5:=l7;rcases this with rfl|rfl|rfl|rfl|rfl<;>simp[VT]
 .rw[dO]at h6;subst h6;exact .inr (.inr (.inr (.inr (.inr ⟨e,rfl⟩))))
def EN(n:Int×Int)(ops:List (Int×Int))(sg:X5):Option ((Int×Int)×Int):=
 l9 (H9 (D5 n.2 0)) (o6 (cu n.1) λu=>l9 (H9 u) (some ((0,0),2)) (bn n ops sg)) (bn n ops sg)
def rV(n:Int×Int)(ops:List (Int×Int))(sg:X5):Prop:=∃r:(Int×Int)×Int,zC n ops sg=some r/\EN n ops sg=some r/\(r.2=0->VT r.1)
variable {k:Int}
theorem VT.lit(h:1<=k/\k<=5):VT (k,0):=by have:k=1\/k=2\/k=3\/k=4\/k=5:=l7;rcases this with rfl|rfl|rfl|rfl|rfl<;>simp[VT]
theorem Oz(a b:Int):V6 a b= !I8 b a:=by simp only[I8,V6];rw[←decide_not];congr 1;simp
theorem BD{α β:Type}(o:Option β)(f:α->Option β):o6 (o6 o λx=>some (Sum.inr x)) (λq=>bP q f λr=>some r)=o:=by cases o<;>rfl
theorem VT.enum(e:Int):VT (6,e):=.inr (.inr (.inr (.inr (.inr ⟨e,rfl⟩))))
theorem qB{R E:Option ((Int×Int)×Int)}{c:Int}(hc:c≠0)(h1:R=some ((0,0),c))(h2:E=some ((0,0),c)):∃r:(Int×Int)×Int,R=some r/\E=some r/\(r.2=0->VT r.1):=⟨_,h1,h2,λh=>absurd h hc⟩
theorem nok{R E:Option ((Int×Int)×Int)}{t:Int×Int}(hv:VT t)(h1:R=some (t,0))(h2:E=some (t,0)):∃r:(Int×Int)×Int,R=some r/\E=some r/\(r.2=0->VT r.1):=⟨_,h1,h2,λ_=>hv⟩
def RR(a0:Int×Int)(a1:List (Int×Int))(a2:X5):Option ((Int×Int)×Int):=
 o6 (vH a0 a2) λ(x:Bool)=>l9 (H9 x) (some ((0,0),3)) (o6 (wS a0 a2) λ(x:Bool)=>l9 (H9 x) (some ((0,0),6))
  (l9 (D5 (x9 a1) 0) (o6 (nZ a0 a2) λ(x:H5×Bool)=>l9 (H9 x.2) (some ((0,0),8)) (some (x.1,0)))
  (l9 (D5 (x9 a1) 1) (o6 (X0 a1 0) λ(x:H5)=>o6 (vI a0 x a2) λ(x:H5×Bool)=>l9 (H9 x.2) (some ((0,0),8)) (some (x.1,0)))
  (l9 (D5 (x9 a1) 2) (o6 (X0 a1 0) λ(x:H5)=>o6 (X0 a1 1) λ(x_1:H5)=>o6 (xI a0.1 x x_1) λ(x:H5×Bool)=>l9 (H9 x.2) (some ((0,0),8)) (some (x.1,0)))
  (o6 (X0 a1 1) λ(x:H5)=>o6 (X0 a1 0) λ(x_1:H5)=>l9 (D5 x_1.1 1) (o6 (X0 a1 1) λ(x_2:H5)=>o6 (X0 a1 2) λ(x_3:H5)=>
   l9 (H9 (oP (D5 x_2.1 x_3.1) (D5 x_2.2 x_3.2))) (some ((0,0),8)) (some (x,0))) (l9 (H9 false) (some ((0,0),8)) (some (x,0))))))))
theorem b1C(n:Int×Int)(ops:List (Int×Int))(sg:X5):zC n ops sg=l9 (H9 (D5 n.2 0)) (o6 (jX n.1) λx=>l9 x (RR n ops sg) (some ((0,0),2))) (RR n ops sg):=by
 unfold zC;cases D5 n.2 0
 .simp only[P7,o7];cases jX n.1 with
  |none=>rfl|some b=>cases b<;>rfl
 .rfl
theorem Fp{op N:Int}{ops:List (Int×Int)}{sg:X5}(h1:cu op=some true)(h2:jX op=some true)
  (h:∃r:(Int×Int)×Int,RR (op,N) ops sg=some r/\bn (op,N) ops sg=some r/\(r.2=0->VT r.1)):rV (op,N) ops sg:=by
 unfold rV;rw[b1C];unfold EN;dsimp only;rw[h1,h2];cases D5 N 0<;>exact h
theorem MC{op N:Int}{ops:List (Int×Int)}{sg:X5}(h1:cu op=some false)(h2:jX op=some false)
  (h:∃r:(Int×Int)×Int,RR (op,0) ops sg=some r/\bn (op,0) ops sg=some r/\(r.2=0->VT r.1)):rV (op,N) ops sg:=by
 unfold rV;rw[b1C];unfold EN;dsimp only;rw[h1,h2];cases hz:D5 N 0
 .exact qB (c:=2) F6 rfl rfl
 .rw[dO]at hz;subst hz;exact h
section
variable (N:Int) (sg:X5)
theorem a3Q(hk:k=1\/k=2\/k=3\/k=4\/k=5):rV (k,N) [] sg:=by
 have hv:vty (k,0) sg.1=true:=by rcases hk with rfl|rfl|rfl|rfl|rfl<;>rfl
 have hm:cu k=some true/\jX k=some true:=by rcases hk with rfl|rfl|rfl|rfl|rfl<;>exact⟨rfl,rfl⟩
 refine Fp hm.1 hm.2 ?_;have key:bn (k,N) [] sg=kH N k sg:=by rcases hk with rfl|rfl|rfl|rfl|rfl<;>exact BD _ _
 have key2:RR (k,N) [] sg=o6 (o6 (dR (k,0) sg.1) λ(x:H5)=>l9 (V6 x.1 N) (some (V6 N x.2)) (some false)) λ(x:Bool)=>l9 (H9 x) (some ((0,0),3)) (some ((k,0),0)):=by rcases hk with rfl|rfl|rfl|rfl|rfl<;>rfl
 rw[key,key2];unfold kH;rw[Tz,QS,o9,o9,Bj,Bj];cases V6 (bnd (k,0) sg.1).1 N
 .exact qB (c:=3) F6 rfl rfl
 cases V6 N (bnd (k,0) sg.1).2
 .exact qB (c:=3) F6 rfl rfl
 .exact nok (Gh hv) rfl rfl
theorem a1R(hN:fJ N):rV (6,N) [] sg:=by
 have hq:0<=N->dX .i64 N 16=N / 16:=λh=>by rw[JL (by rw[nz h];unfold fJ at*;omega),nz h]
 refine Fp rfl rfl ?_;have hf:wS (6,N) sg=l9 (I8 (dX .i64 N 16) (x9 sg.1)) (o6 (X0 sg.1 (dX .i64 N 16)) λ(x:dU)=>some (I8 (iY N 16) (x9 x.2))) (some false):=rfl;have hl:nZ (6,N) sg=some ((6,dX .i64 N 16),vty (6,dX .i64 N 16) sg.1):=by unfold nZ;simp only[oO];rfl
 rw[show bn (6,N) [] sg=yJ N sg from BD _ _];unfold RR yJ;rw[hf,show vH (6,N) sg=some (V6 0 N)from rfl,hl];by_cases h0:0<=N
 .rw[O6 h0,X9 h0,hq h0];by_cases h1:N / 16<x9 sg.1
  .obtain⟨x,hx,_⟩:=ug (show 0<=N / 16 by omega) h1;rw[Y0 h1,bG h1,hx,show vty (6,N / 16) sg.1=true by unfold vty;simp only[X9 (show 0<=N / 16 by omega),Y0 h1];rfl];simp only[o9,Bj];cases V6 (x9 x.2) (iY N 16)
   .exact nok (VT.enum (N / 16)) rfl rfl
   .exact qB (c:=6) F6 rfl rfl
  .have h1' :x9 sg.1<=N / 16:=l7;rw[O6 h1',X9 h1'];exact qB (c:=6) F6 rfl rfl
 .rw[Y0 (show N<0 by omega),bG (show N<0 by omega)];exact qB (c:=3) F6 rfl rfl
theorem xC(ts:List (Int×Int))(en:X5):(∃x,X0 ts N=some x/\V6 0 N=true/\I8 N (x9 ts)=true/\jZ N ts en=some (l9 (vty x en.1) (x,0) ((0,0),8)))\/((V6 0 N=false\/V6 0 N=true/\I8 N (x9 ts)=false)/\jZ N ts en=some ((0,0),6)):=by
 unfold jZ;rw[Bj N 0,Oz (x9 ts) N];cases h0:V6 0 N
 .exact .inr ⟨.inl A7,rfl⟩
 cases h1:I8 N (x9 ts)
 .exact .inr ⟨.inr A7,rfl⟩
 rw[ul]at h0;rw[wo]at h1;obtain⟨x,hx,_⟩:=ug h0 h1;rw[hx];simp only[pz,Bool.not_false,o5,o7,o9,vO];exact .inl ⟨x,rfl,A7,A7,by cases vty x en.1<;>rfl⟩
theorem a6N:rV (7,N) [] sg:=by
 refine Fp rfl rfl ?_;rw[show bn (7,N) [] sg=jZ N sg.2.2.1 sg from BD _ _];have hf:wS (7,N) sg=l9 (V6 0 N) (some (I8 N (x9 sg.2.2.1))) (some false):=rfl;unfold RR;rw[hf,show vH (7,N) sg=some true from rfl];rcases xC N sg.2.2.1 sg with⟨x,h1,h2,h3,h4⟩|⟨h1|⟨h1,h2⟩,h4⟩
 .have hl:nZ (7,N) sg=some (x,vty x sg.1):=by
   unfold nZ;dsimp only;rw[h1];simp only[oO];rfl
  rw[h2,h3,h4,hl];cases hv:vty x sg.1
  .exact qB (c:=8) F6 rfl rfl
  .exact nok (Gh hv) rfl rfl
 .rw[h1,h4];exact qB (c:=6) F6 rfl rfl
 .rw[h1,h2,h4];exact qB (c:=6) F6 rfl rfl
theorem a3P:rV (8,N) [] sg:=by
 refine Fp rfl rfl ?_;rw[show bn (8,N) [] sg=jZ N sg.2.2.2.1 sg from BD _ _];have hf:wS (8,N) sg=l9 (V6 0 N) (some (I8 N (x9 sg.2.2.2.1))) (some false):=rfl;unfold RR;rw[hf,show vH (8,N) sg=some true from rfl];rcases xC N sg.2.2.2.1 sg with⟨x,h1,h2,h3,h4⟩|⟨h1|⟨h1,h2⟩,h4⟩
 .have hl:nZ (8,N) sg=some (x,vty x sg.1):=by
   unfold nZ;dsimp only;rw[h1];simp only[oO];rfl
  rw[h2,h3,h4,hl];cases hv:vty x sg.1
  .exact qB (c:=8) F6 rfl rfl
  .exact nok (Gh hv) rfl rfl
 .rw[h1,h4];exact qB (c:=6) F6 rfl rfl
 .rw[h1,h2,h4];exact qB (c:=6) F6 rfl rfl
theorem a1Q:rV (9,N) [] sg:=MC rfl rfl (nok (VT.lit (k:=5) l7) rfl rfl)
theorem Zp:rV (35,N) [] sg:=by
 refine MC rfl rfl ?_;rw[show bn (35,0) [] sg=qc (35,0) sg from BD _ _];unfold RR qc;simp only[vH,wS,nZ,oO,o9];cases sg.2.2.2.2.2
 .exact qB (c:=6) F6 rfl rfl
 .exact nok (VT.lit (k:=2) l7) rfl rfl
theorem a3R(hk:k=36\/k=37\/k=38\/k=39):rV (k,N) [] sg:=by
 have hm:cu k=some true/\jX k=some true/\D5 k 35=false:=by rcases hk with rfl|rfl|rfl|rfl<;>exact⟨rfl,rfl,rfl⟩
 refine Fp hm.1 hm.2.1 ?_;rw[show bn (k,N) [] sg=qc (k,N) sg by rcases hk with rfl|rfl|rfl|rfl<;>exact BD _ _];have hr:RR (k,N) [] sg=o6 (l9 sg.2.2.2.2.2 (l9 (V6 0 N) (some (I8 N (x9 sg.2.2.2.2.1))) (some false)) (some false)) λ(x:Bool)=>l9 (H9 x) (some ((0,0),6))
   (o6 (nZ (k,N) sg) λ(x:H5×Bool)=>l9 (H9 x.2) (some ((0,0),8)) (some (x.1,0))):=by rcases hk with rfl|rfl|rfl|rfl<;>rfl
 rw[hr];unfold qc;rw[hm.2.2,o5];cases sg.2.2.2.2.2
 .exact qB (c:=6) F6 rfl rfl
 simp only[o7,F5,o5];rcases xC N sg.2.2.2.2.1 sg with⟨x,h1,h2,h3,h4⟩|⟨h1|⟨h1,h2⟩,h4⟩
 .rw[h2,h3,h4];have hl:nZ (k,N) sg=o6 (some (l9 (D5 k 36) (l9 (vty x sg.1) (l9 (D5 x.1 2) true (D5 x.1 3)) false) (l9 (D5 k 39) (l9 (vty x sg.1) (l9 (D5 x.1 2) true (l9 (D5 x.1 3) true (l9 (D5 x.1 4) true (D5 x.1 5)))) false) (l9 (vty x sg.1) (D5 x.1 1) false)))) λb=>some (x,b):=by
   unfold nZ;simp only[oO,tK,xJ];rcases hk with rfl|rfl|rfl|rfl<;>(rw[h1];simp only[D5,Int.reduceEq,decide_true,decide_false,o7,o5,o9];cases vty x sg.1<;>cases decide (x.1=2)<;>cases decide (x.1=3)<;>cases decide (x.1=4)<;>rfl)
  rw[hl];simp only[o9,mP];cases hv:vty x sg.1
  .rcases hk with rfl|rfl|rfl|rfl<;>exact qB (c:=8) F6 rfl rfl
  .have hx:=Gh hv;rcases hk with rfl|rfl|rfl|rfl<;>rcases hx with rfl|rfl|rfl|rfl|rfl|⟨e,rfl⟩ <;>
    first
    |exact nok (Gh hv) rfl rfl
    |exact qB (c:=8) F6 rfl rfl
 .rw[h1,h4];exact qB (c:=6) F6 rfl rfl
 .rw[h1,h2,h4];exact qB (c:=6) F6 rfl rfl
end
end Go.GP
namespace Go.GP
open Gt
set_option maxRecDepth 100000
variable {a:Int×Int}{k:Int}{b:Int×Int}
section
variable (N:Int) (sg:X5)
theorem a6O(hk:k=10\/k=25\/k=31\/k=32)(ha:VT a):rV (k,N) [a] sg:=by
 have hm:cu k=some false/\jX k=some false:=by rcases hk with rfl|rfl|rfl|rfl<;>exact⟨rfl,rfl⟩
 refine MC hm.1 hm.2 ?_;rcases hk with rfl|rfl|rfl|rfl<;>rcases ha with rfl|rfl|rfl|rfl|rfl|⟨e,rfl⟩ <;>
  first
  |exact nok (VT.lit (k:=1) l7) rfl rfl
  |exact nok (VT.lit (k:=2) l7) rfl rfl
  |exact nok (VT.lit (k:=3) l7) rfl rfl
  |exact nok (VT.lit (k:=4) l7) rfl rfl
  |exact qB (c:=8) F6 rfl rfl
theorem a3O(hk:k=13\/k=23\/k=24\/k=27\/k=28\/k=29\/k=30)(ha:VT a)(hb:VT b):rV (k,N) [a,b] sg:=by
 have hm:cu k=some false/\jX k=some false:=by rcases hk with rfl|rfl|rfl|rfl|rfl|rfl|rfl<;>exact⟨rfl,rfl⟩
 refine MC hm.1 hm.2 ?_;rcases hk with rfl|rfl|rfl|rfl|rfl|rfl|rfl<;>rcases ha with rfl|rfl|rfl|rfl|rfl|⟨e,rfl⟩<;>rcases hb with rfl|rfl|rfl|rfl|rfl|⟨f,rfl⟩ <;>
  first
  |exact qB (c:=8) F6 rfl rfl
  |exact nok (VT.lit (k:=1) l7) rfl rfl
  |exact nok (VT.lit (k:=2) l7) rfl rfl
  |exact nok (VT.lit (k:=3) l7) rfl rfl
  |exact nok (VT.lit (k:=4) l7) rfl rfl
  |exact nok (VT.lit (k:=5) l7) rfl rfl
theorem a1S(hk:k=14\/k=15\/k=16)(ha:VT a)(hb:VT b):rV (k,N) [a,b] sg:=by
 have hm:cu k=some true/\jX k=some true:=by rcases hk with rfl|rfl|rfl<;>exact⟨rfl,rfl⟩
 refine Fp hm.1 hm.2 ?_;have hr:RR (k,N) [a,b] sg=o6 (l9 (V6 0 N) (some (V6 N 5)) (some false)) λx=>l9 (H9 x) (some ((0,0),3)) (o6 (xI k a b) λx=>l9 (H9 x.2) (some ((0,0),8)) (some (x.1,0))):=by rcases hk with rfl|rfl|rfl<;>rfl
 have he:bn (k,N) [a,b] sg=o6 (l9 (V6 0 N) (some (V6 N 5)) (some false)) λx=>l9 (H9 x) (some ((0,0),3)) (o6 (nT k [a,b]) λx=>l9 (H9 x.2) (some ((0,0),8)) (some (x.1,0))):=by
  rcases hk with rfl|rfl|rfl <;>
   (show o6 (o6 (mY N) λx=>l9 (H9 x) (some (Sum.inr (((0:Int),(0:Int)),(3:Int)))) (some (.inl ((0:Int),(0:Int))))) _=_
    unfold mY;cases V6 0 N<;>cases V6 N 5<;>rfl)
 rw[hr,he];cases V6 0 N
 .exact qB (c:=3) F6 rfl rfl
 cases V6 N 5
 .exact qB (c:=3) F6 rfl rfl
 rcases hk with rfl|rfl|rfl<;>rcases ha with rfl|rfl|rfl|rfl|rfl|⟨e,rfl⟩<;>rcases hb with rfl|rfl|rfl|rfl|rfl|⟨f,rfl⟩ <;>
  first
  |exact qB (c:=8) F6 rfl rfl
  |exact nok (VT.lit (k:=2) l7) rfl rfl
  |exact nok (VT.lit (k:=3) l7) rfl rfl
  |exact nok (VT.lit (k:=4) l7) rfl rfl
theorem a1T(hk:k=11\/k=12\/k=17\/k=18\/k=19\/k=20\/k=21\/k=22)(ha:VT a):rV (k,N) [a,b] sg:=by
 have hm:cu k=some false/\jX k=some false:=by rcases hk with rfl|rfl|rfl|rfl|rfl|rfl|rfl|rfl<;>exact⟨rfl,rfl⟩
 refine MC hm.1 hm.2 ?_;have hr:RR (k,0) [a,b] sg=o6 (xI k a b) λx=>l9 (H9 x.2) (some ((0,0),8)) (some (x.1,0)):=by rcases hk with rfl|rfl|rfl|rfl|rfl|rfl|rfl|rfl<;>rfl
 have he:bn (k,0) [a,b] sg=o6 (nT k [a,b]) λx=>l9 (H9 x.2) (some ((0,0),8)) (some (x.1,0)):=by rcases hk with rfl|rfl|rfl|rfl|rfl|rfl|rfl|rfl<;>rfl
 rw[hr,he];unfold xI nT;simp only[show X0 [a,b] 0=some a from rfl,show X0 [a,b] 1=some b from rfl,o9,xJ,tK,jF,mP];cases h1:D5 a.1 b.1
 .rcases hk with rfl|rfl|rfl|rfl|rfl|rfl|rfl|rfl<;>exact qB (c:=8) F6 rfl rfl
 cases h2:D5 a.2 b.2
 .rcases hk with rfl|rfl|rfl|rfl|rfl|rfl|rfl|rfl<;>exact qB (c:=8) F6 rfl rfl
 have ha' :=ha;rcases hk with rfl|rfl|rfl|rfl|rfl|rfl|rfl|rfl<;>rcases ha with rfl|rfl|rfl|rfl|rfl|⟨e,rfl⟩ <;>
  first
  |exact nok ha' rfl rfl
  |exact nok (VT.lit (k:=1) l7) rfl rfl
  |exact qB (c:=8) F6 rfl rfl
theorem a6M{a b c:Int×Int}(ha:VT a)(hb:VT b):rV (26,N) [a,b,c] sg:=by
 refine MC rfl rfl ?_;have hr:RR (26,0) [a,b,c] sg=l9 (D5 a.1 1) (l9 (H9 (oP (D5 b.1 c.1) (D5 b.2 c.2))) (some ((0,0),8)) (some (b,0))) (some ((0,0),8)):=rfl;have he:bn (26,0) [a,b,c] sg=o6 (nT 26 [a,b,c]) λx=>l9 (H9 x.2) (some ((0,0),8)) (some (x.1,0)):=rfl;have he2:nT 26 [a,b,c]=o6 (l9 (D5 a.1 1) (some (Sum.inr (b,oP (D5 b.1 c.1) (D5 b.2 c.2)))) (some (Sum.inr (b,false)))) λ(o:H5⊕H5×Bool)=>bP o (λ(x:H5)=>some ((0,0),false)) λ(r:H5×Bool)=>some r:=rfl;rw[hr,he,he2];cases D5 a.1 1
 .exact qB (c:=8) F6 rfl rfl
 cases D5 b.1 c.1
 .exact qB (c:=8) F6 rfl rfl
 cases D5 b.2 c.2
 .exact qB (c:=8) F6 rfl rfl
 .exact nok hb rfl rfl
theorem Xq(ha:VT a):rV (33,N) [a] sg:=by
 refine Fp rfl rfl ?_;have he:bn (33,N) [a] sg=qZ (33,N) a sg:=BD _ _;have hr:RR (33,N) [a] sg=o6 (l9 (V6 0 N) (some (I8 N (x9 sg.2.1))) (some false)) λx=>l9 (H9 x) (some ((0,0),6)) (o6 (vI (33,N) a sg) λx=>l9 (H9 x.2) (some ((0,0),8)) (some (x.1,0))):=rfl;have hs:vI (33,N) a sg=o6 (X0 sg.2.1 N) λ(x:nR)=>o6 (aS x.2.1 sg.1) λ(x_1:Bool)=>l9 x_1 (o6 (aS x.2.2.1 sg.1) λ(x_2:Bool)=>l9 x_2 (some (x.2.2.1,oP (D5 a.1 x.2.1.1) (D5 a.2 x.2.1.2))) (some (x.2.2.1,false))) (some (x.2.2.1,false)):=rfl;rw[he,hr,hs];unfold qZ;simp only[D5,Int.reduceEq,decide_false,o5,o9,J7,Bj N 0,Oz (x9 sg.2.1) N];cases h0:V6 0 N
 .exact qB (c:=6) F6 rfl rfl
 cases h1:I8 N (x9 sg.2.1)
 .exact qB (c:=6) F6 rfl rfl
 rw[ul]at h0;rw[wo]at h1;obtain⟨x,hx,_⟩:=ug h0 h1;simp only[o9,J7,pz,o5,hx,vO,oO,P7,o7];cases vty x.2.1 sg.1
 .exact qB (c:=8) F6 rfl rfl
 cases hv:vty x.2.2.1 sg.1
 .exact qB (c:=8) F6 rfl rfl
 simp only[F5,o5,o7,o9];cases oP (decide (a.1=x.2.1.1)) (decide (a.2=x.2.1.2))
 .exact qB (c:=8) F6 rfl rfl
 .exact nok (Gh hv) rfl rfl
theorem SQ(hN:fJ N)(ha:VT a):rV (34,N) [a] sg:=by
 refine Fp rfl rfl ?_;have he:bn (34,N) [a] sg=qZ (34,N) a sg:=BD _ _;have hr:RR (34,N) [a] sg=o6 (l9 (V6 0 N) (some (V6 (iY N 8) 5)) (some false)) λx=>l9 (H9 x) (some ((0,0),3)) (l9 (H9 (I8 (dX .i64 N 8) (x9 sg.2.1))) (some ((0,0),6)) (o6 (vI (34,N) a sg) λx=>l9 (H9 x.2) (some ((0,0),8)) (some (x.1,0)))):=rfl;have hs:vI (34,N) a sg=o6 (X0 sg.2.1 (dX .i64 N 8)) λ(x:nR)=>l9 (D5 a.1 3) (l9 (oP (D5 x.2.1.1 3) (D5 x.2.1.2 0)) (some (a,oP (D5 x.2.2.1.1 4) (D5 x.2.2.1.2 0))) (some (a,false))) (some (a,false)):=rfl;rw[he,hr,hs];unfold qZ mY;by_cases h0:0<=N
 case neg=>rw[bG (show N<0 by omega),Y0 (show N<0 by omega)];exact qB (c:=3) F6 rfl rfl
 have hq:dX .i64 N 8=N / 8:=by rw[JL (by rw[nz h0];unfold fJ at*;omega),nz h0]
 rw[X9 h0,O6 h0,hq,yU h0];simp only[D5,Int.reduceEq,decide_true,o7,o5,X9 (show 0<=N % 8 by omega),o9];cases V6 (N % 8) 5
 .exact qB (c:=3) F6 rfl rfl
 simp only[F5,o5,o9,J7,O6 (show 0<=N / 8 by omega),Oz];cases h1:I8 (N / 8) (x9 sg.2.1)
 .exact qB (c:=6) F6 rfl rfl
 rw[wo]at h1;obtain⟨x,hx,_⟩:=ug (show 0<=N / 8 by omega) h1;simp only[hx,pz,o5,o9,J7,vO,F5];obtain⟨nm,⟨k1,k2⟩,⟨v1,v2⟩,rows⟩:=x;dsimp only;by_cases hK:k1=3/\k2=0
 .obtain⟨rfl,rfl⟩:=hK;by_cases hV:v1=4/\v2=0
  .obtain⟨rfl,rfl⟩:=hV;rcases ha with rfl|rfl|rfl|rfl|rfl|⟨e,rfl⟩ <;>
    first
    |exact nok (VT.lit (k:=3) l7) rfl rfl
    |exact qB (c:=8) F6 rfl rfl
  .have hE:vty (v1,v2) sg.1=true->v1≠4:=λhv h=>by
    subst h;rcases Gh hv with h|h|h|h|h|⟨e,h⟩<;>cases h;exact hV ⟨rfl,rfl⟩
   have hR:oP (decide (v1=4)) (decide (v2=0))=false:=by
    by_cases h1:v1=4
    .have:v2≠0:=λh2=>hV ⟨h1,h2⟩;simp[oP,h1,this]
    .simp[oP,h1]
   rw[hR];cases hv:vty (v1,v2) sg.1
   .rcases ha with rfl|rfl|rfl|rfl|rfl|⟨e,rfl⟩<;>exact qB (c:=8) F6 rfl rfl
   .have h4:=hE hv;rw[show decide (v1=4)=false by simp[h4]];rcases ha with rfl|rfl|rfl|rfl|rfl|⟨e,rfl⟩<;>exact qB (c:=8) F6 rfl rfl
 .have hR:oP (decide (k1=3)) (decide (k2=0))=false:=by
   by_cases h1:k1=3
   .have:k2≠0:=λh2=>hK ⟨h1,h2⟩;simp[oP,h1,this]
   .simp[oP,h1]
  rw[hR];cases hv:vty (k1,k2) sg.1
  .rcases ha with rfl|rfl|rfl|rfl|rfl|⟨e,rfl⟩<;>exact qB (c:=8) F6 rfl rfl
  cases hw:vty (v1,v2) sg.1
  .rcases ha with rfl|rfl|rfl|rfl|rfl|⟨e,rfl⟩<;>exact qB (c:=8) F6 rfl rfl
  have h3:k1≠3:=λh=>by subst h;rcases Gh hv with h|h|h|h|h|⟨e,h⟩<;>cases h;exact hK ⟨rfl,rfl⟩
  simp only[show decide (k1=3)=false by simp[h3],F5,o5,o7,o9];cases oP (decide (a.1=k1)) (decide (a.2=k2))
  .cases decide (a.1=3)<;>exact qB (c:=8) F6 rfl rfl
  .cases decide (a.1=3)<;>exact qB (c:=8) F6 rfl rfl
theorem a0y(n:Int×Int)(hN:fJ n.2)(ops:List (Int×Int))(hv:∀t∈ops,VT t)(hl:x9 ops=arF n.1):rV n ops sg:=by
 obtain⟨op,N⟩:=n;dsimp only at hN hl;have hr:1<=op/\op<=39:=by
  by_cases h:1<=op/\op<=39
  .exact h
  .have:arF op=-1:=by unfold arF;rw[Vw h];rfl
   rw[this]at hl;simp[x9]at hl
 have hc:op=1\/op=2\/op=3\/op=4\/op=5\/op=6\/op=7\/op=8\/op=9\/op=10\/op=11\/op=12\/op=13\/op=14\/op=15\/op=16\/op=17\/op=18\/op=19\/op=20\/op=21\/op=22\/op=23\/op=24\/op=25\/op=26\/op=27\/op=28\/op=29\/op=30\/op=31\/op=32\/op=33\/op=34\/op=35\/op=36\/op=37\/op=38\/op=39:=l7;have L0:arF op=0->ops=[]:=λh=>by rw[h]at hl;simp only[x9]at hl;exact Y4.1 l7
 have L1:arF op=1->∃a,ops=[a]/\VT a:=λh=>by
  rw[h]at hl;simp only[x9]at hl;match ops,hl,hv with
  |[a],_,hv=>exact⟨a,rfl,hv a A7⟩|[],hl,_=>simp at hl|a::b::r,hl,_=>simp at hl;omega
 have L2:arF op=2->∃a b,ops=[a,b]/\VT a/\VT b:=λh=>by
  rw[h]at hl;simp only[x9]at hl;match ops,hl,hv with
  |[a,b],_,hv=>exact⟨a,b,rfl,hv a A7,hv b A7⟩|[],hl,_=>simp at hl|[a],hl,_=>simp at hl|a::b::c::r,hl,_=>simp at hl;omega
 have L3:arF op=3->∃a b c,ops=[a,b,c]/\VT a/\VT b:=λh=>by
  rw[h]at hl;simp only[x9]at hl;match ops,hl,hv with
  |[a,b,c],_,hv=>exact⟨a,b,c,rfl,hv a A7,hv b A7⟩|[],hl,_=>simp at hl|[a],hl,_=>simp at hl|[a,b],hl,_=>simp at hl|a::b::c::d::r,hl,_=>simp at hl;omega
 rcases hc with rfl|rfl|rfl|rfl|rfl|rfl|rfl|rfl|rfl|rfl|rfl|rfl|rfl|rfl|rfl|rfl|rfl|rfl|rfl|rfl|rfl|rfl|rfl|rfl|rfl|rfl|rfl|rfl|rfl|rfl|rfl|rfl|rfl|rfl|rfl|rfl|rfl|rfl|rfl <;>
  first
  |(rw[L0 rfl];first|exact a3Q N sg l7|exact a1R N sg hN|exact a6N N sg|exact a3P N sg|exact a1Q N sg|exact Zp N sg|exact a3R N sg l7)
  |(obtain⟨a,rfl,ha⟩:=L1 rfl;first|exact a6O N sg l7 ha|exact Xq N sg ha|exact SQ N sg hN ha)
  |(obtain⟨a,b,rfl,ha,hb⟩:=L2 rfl;first|exact a3O N sg l7 ha hb|exact a1S N sg l7 ha hb|exact a1T N sg l7 ha)
  |(obtain⟨a,b,c,rfl,ha,hb⟩:=L3 rfl;exact a6M N sg ha hb)
end
end Go.GP
namespace Go.GP
open Gt
set_option maxRecDepth 100000
def XT.wf:XT->Prop
 | .l0 n=>arF n.1=0| .l1 n a=>arF n.1=1/\a.wf| .l2 n a b=>arF n.1=2/\a.wf/\b.wf| .l3 n a b c=>arF n.1=3/\a.wf/\b.wf/\c.wf
theorem a7e{n:Int×Int}{ts ts' :List XT}(h:push n ts= .inr ts')(hw:∀t∈ts,t.wf):∀t∈ts',t.wf:=by
 unfold push at h;split at h
 .cases h;intro t ht;rcases D6.1 ht with rfl|ht
  .assumption
  .exact hw t ht
 split at h
 .split at h
  .cases h;intro t ht;rcases D6.1 ht with rfl|ht
   .exact⟨by assumption,hw _ A7⟩
   .exact hw t (by simp[ht])
  .cases h
 split at h
 .split at h
  .cases h;intro t ht;rcases D6.1 ht with rfl|ht
   .exact⟨by assumption,hw _ A7,hw _ A7⟩
   .exact hw t (by simp[ht])
  .cases h
 split at h
 .split at h
  .cases h;intro t ht;rcases D6.1 ht with rfl|ht
   .exact⟨by assumption,hw _ A7,hw _ A7,hw _ A7⟩
   .exact hw t (by simp[ht])
  .cases h
 .cases h
theorem Xy:∀(es:List (Int×Int)) (i:Nat) (ts ts' :List XT),vT i es ts= .inr ts' ->(∀t∈ts,t.wf)->∀t∈ts',t.wf
 |[],i,ts,ts',h,hw=>by cases h;exact hw|n::es,i,ts,ts',h,hw=>by
  unfold vT at h;cases hp:push n ts with
  |inl c=>rw[hp]at h;cases h|inr t2=>
   rw[hp]at h;simp only at h;split at h
   .cases h
   .exact Xy es (i+1) t2 ts' h (a7e hp hw)
variable {e:List (Int×Int)}
theorem Hq{t:XT}(h:oK e= .inr t):t.wf:=by
 unfold oK at h;split at h
 .cases h
 split at h
 .cases h
 split at h
 .cases h
 .rename_i t' hp;cases h;exact Xy e 0 [] [t] hp A7 t A7
 .cases h
def ZJ(n:Int×Int)(ops:List (Int×Int))(sg:X5):(Int×Int)×Int:=(zC n ops sg).getD ((0,0),0)
def Io(sg:X5)(n:Int×Int)(ops:List (Int×Int))(i:Nat):(Int×Int)⊕(Int×Int):=if(ZJ n ops sg).2=0 then .inr (ZJ n ops sg).1 else .inl ((i:Int),(ZJ n ops sg).2)
def xW(sg:X5):XT->Nat->(Int×Int)⊕(Int×Int)
 | .l0 n,o=>Io sg n [] o
 | .l1 n a,o=>match xW sg a o with
  | .inl x=> .inl x| .inr ta=>Io sg n [ta] (o+a.size)
 | .l2 n a b,o=>match xW sg a o with
  | .inl x=> .inl x
  | .inr ta=>match xW sg b (o+a.size)with
   | .inl x=> .inl x| .inr tb=>Io sg n [ta,tb] (o+a.size+b.size)
 | .l3 n a b c,o=>match xW sg a o with
  | .inl x=> .inl x
  | .inr ta=>match xW sg b (o+a.size)with
   | .inl x=> .inl x
   | .inr tb=>match xW sg c (o+a.size+b.size)with
    | .inl x=> .inl x| .inr tc=>Io sg n [ta,tb,tc] (o+a.size+b.size+c.size)
theorem JU{sg:X5}{n:Int×Int}{ops:List (Int×Int)}{i:Nat}{t:Int×Int}(hN:fJ n.2)(hv:∀t∈ops,VT t)(hl:x9 ops=arF n.1)(h:Io sg n ops i= .inr t):VT t:=by
 obtain⟨r,h1,h2,h3⟩:=a0y sg n hN ops hv hl;unfold Io at h;split at h
 .rename_i h0;cases h;have e:ZJ n ops sg=r:=by unfold ZJ;rw[h1];rfl
  rw[e]at h0 ⊢;exact h3 h0
 .cases h
section
variable (e:List (Int×Int)) (sg:X5) (z:Int×Int)
def a7X(f:(Int×Int)×List (Int×Int)×Int->Option (Out ((Int×Int)×List (Int×Int)×Int) ((Int×Int)×List (Int×Int)) ((Int×Int)×Int×Int))):Prop:=
 ∀(i:Nat) (n:Int×Int) (s ops:List (Int×Int)),e[i]? =some n->i<=100->x9 ops=arF n.1->(∀t∈ops,VT t)->s.length+ops.length<=100->
  f (z,s++ops,(i:Int))=some (match Io sg n ops i with| .inl x=> .rt ((0,0),x)| .inr t=> .nx (z,s++[t],((i+1:Nat):Int)))
theorem a2y{f:(Int×Int)×List (Int×Int)×Int->Option (Out ((Int×Int)×List (Int×Int)×Int) ((Int×Int)×List (Int×Int)) ((Int×Int)×Int×Int))}
  (he:e.length<=48) (hI:∀n∈e,fJ n.2) (hs:a7X e sg z f):∀(t:XT),t.wf->∀(pre suf s:List (Int×Int)) (k:Nat),e=pre++t.post++suf->s.length<=pre.length->
  dW f (k+t.size) (z,s,(pre.length:Int))=(match xW sg t pre.length with| .inl x=>some (.inr ((0,0),x))| .inr r=>dW f k (z,s++[r],((pre.length+t.size:Nat):Int)))/\∀r,xW sg t pre.length= .inr r->VT r:=by
 intro t;have step:∀(i k:Nat) (n:Int×Int) (s ops:List (Int×Int)),e[i]? =some n->x9 ops=arF n.1->(∀t∈ops,VT t)->s.length+ops.length<=100->
   dW f (k+1) (z,s++ops,(i:Int))=(match Io sg n ops i with| .inl x=>some (.inr ((0,0),x))| .inr r=>dW f k (z,s++[r],((i+1:Nat):Int))):=by
  intro i k n s ops h1 h2 h3 h4;rw[dW,hs i n s ops h1 (by have:=(aO.1 h1).1;omega) h2 h3 h4];cases Io sg n ops i<;>rfl
 have getn:∀(pre suf:List (Int×Int)) (n:Int×Int),e=pre++[n]++suf->e[pre.length]? =some n:=by intro pre suf n h;rw[h,E9,F7 l7,aI];rfl
 have mem:∀(i:Nat) (n:Int×Int),e[i]? =some n->fJ n.2:=λi n h=>hI n (yw h);induction t with
 |l0 n=>
  intro hw pre suf s k hd hl;have hn:=getn pre suf n hd;have hlen:pre.length<e.length:=(aO.1 hn).1;have hz:x9 ([]:List (Int×Int))=arF n.1:=by rw[show arF n.1=0 from hw];rfl
  have h:=step pre.length k n s [] hn hz A7 F9;rw[E5]at h;exact⟨h,λr hr=>JU (mem _ n hn) A7 hz hr⟩
 |l1 n a iha=>
  intro hw pre suf s k hd hl;simp only[XT.post,E9]at hd;have hpa:(pre++a.post).length=pre.length+a.size:=by simp[XT.post_len]
  have hn:=getn (pre++a.post) suf n (by simpa using hd);rw[hpa]at hn;have hlen:=(aO.1 hn).1;obtain⟨i1,i2⟩:=iha hw.2 pre ([n]++suf) s (k+1) (by simpa using hd) hl;simp only[XT.size,xW];rw[show k+(a.size+1)=(k+1)+a.size by omega,i1];cases ht:xW sg a pre.length with
  |inl x=>exact⟨rfl,λr hr=>by cases hr⟩|inr ta=>
   have hz:x9 [ta]=arF n.1:=by rw[show arF n.1=1 from hw.1];rfl
   have hv:∀t∈[ta],VT t:=by simpa using i2 ta ht
   exact⟨step _ k n s [ta] hn hz hv F9,λr hr=>JU (mem _ n hn) hv hz hr⟩
 |l2 n a b iha ihb=>
  intro hw pre suf s k hd hl;simp only[XT.post,E9]at hd;have hpa:(pre++a.post).length=pre.length+a.size:=by simp[XT.post_len]
  have hpb:(pre++a.post++b.post).length=pre.length+a.size+b.size:=by simp[XT.post_len];omega
  have hn:=getn (pre++a.post++b.post) suf n (by simpa using hd);rw[hpb]at hn;have hlen:=(aO.1 hn).1;obtain⟨i1,i2⟩:=iha hw.2.1 pre (b.post++[n]++suf) s (k+1+b.size) (by simpa using hd) hl;simp only[XT.size,xW];rw[show k+(a.size+b.size+1)=(k+1+b.size)+a.size by omega,i1];cases ht:xW sg a pre.length with
  |inl x=>exact⟨rfl,λr hr=>by cases hr⟩|inr ta=>
   have hsa:=a.size_pos;obtain⟨j1,j2⟩:=ihb hw.2.2 (pre++a.post) ([n]++suf) (s++[ta]) (k+1) (by simpa using hd) (by simp[XT.post_len];omega);rw[hpa]at j1 j2;simp only;rw[j1];cases hu:xW sg b (pre.length+a.size)with
   |inl x=>exact⟨rfl,λr hr=>by cases hr⟩|inr tb=>
    have hz:x9 [ta,tb]=arF n.1:=by rw[show arF n.1=2 from hw.1];rfl
    have hv:∀t∈[ta,tb],VT t:=by simpa using ⟨i2 ta ht,j2 tb hu⟩
    have:=step _ k n s [ta,tb] hn hz hv F9;simp only[E9,N8,H7];rw[show pre.length+(a.size+b.size+1)=pre.length+a.size+b.size+1 by omega];exact⟨this,λr hr=>JU (mem _ n hn) hv hz hr⟩
 |l3 n a b c iha ihb ihc=>
  intro hw pre suf s k hd hl;simp only[XT.post,E9]at hd;have hpa:(pre++a.post).length=pre.length+a.size:=by simp[XT.post_len]
  have hpb:(pre++a.post++b.post).length=pre.length+a.size+b.size:=by simp[XT.post_len];omega
  have hpc:(pre++a.post++b.post++c.post).length=pre.length+a.size+b.size+c.size:=by simp[XT.post_len];omega
  have hn:=getn (pre++a.post++b.post++c.post) suf n (by simpa using hd);rw[hpc]at hn;have hlen:=(aO.1 hn).1;obtain⟨i1,i2⟩:=iha hw.2.1 pre (b.post++(c.post++([n]++suf))) s (k+1+c.size+b.size) (by simpa using hd) hl;simp only[XT.size,xW];rw[show k+(a.size+b.size+c.size+1)=(k+1+c.size+b.size)+a.size by omega,i1];have hsa:=a.size_pos;have hsb:=b.size_pos;cases ht:xW sg a pre.length with
  |inl x=>exact⟨rfl,λr hr=>by cases hr⟩|inr ta=>
   obtain⟨j1,j2⟩:=ihb hw.2.2.1 (pre++a.post) (c.post++([n]++suf)) (s++[ta]) (k+1+c.size) (by simpa using hd) (by simp[XT.post_len];omega);rw[hpa]at j1 j2;simp only;rw[j1];cases hu:xW sg b (pre.length+a.size)with
   |inl x=>exact⟨rfl,λr hr=>by cases hr⟩|inr tb=>
    obtain⟨q1,q2⟩:=ihc hw.2.2.2 (pre++a.post++b.post) ([n]++suf) (s++[ta]++[tb]) (k+1) (by simpa using hd) (by simp[XT.post_len];omega);rw[hpb]at q1 q2;simp only;rw[q1];cases hc:xW sg c (pre.length+a.size+b.size)with
    |inl x=>exact⟨rfl,λr hr=>by cases hr⟩|inr tc=>
     have hz:x9 [ta,tb,tc]=arF n.1:=by rw[show arF n.1=3 from hw.1];rfl
     have hv:∀t∈[ta,tb,tc],VT t:=by simpa using ⟨i2 ta ht,j2 tb hu,q2 tc hc⟩
     have:=step _ k n s [ta,tb,tc] hn hz hv F9;simp only[E9,N8,H7];rw[show pre.length+(a.size+b.size+c.size+1)=pre.length+a.size+b.size+c.size+1 by omega];exact⟨this,λr hr=>JU (mem _ n hn) hv hz hr⟩
end
def yP(e:List (Int×Int))(sg:X5):(Int×Int)×Int×Int:=match oK e with
 | .inl x=>((0,0),x)
 | .inr t=>match xW sg t 0 with
  | .inl x=>((0,0),x)| .inr r=>(r,0,0)
variable {α:Type}
theorem p_(s ops:List α)(k:Int)(hk:x9 ops=k)(h:s.length+ops.length<=100):
  ae .i64 (x9 (s++ops)) k=(s.length:Int)/\mJ (s.length:Int) (x9 (s++ops)) (x9 (s++ops))=true/\kN (s++ops) (jC (s.length:Int)) (jC (x9 (s++ops)))=ops
  /\mJ 0 (s.length:Int) (x9 (s++ops))=true/\kN (s++ops) (jC 0) (jC (s.length:Int))=s:=by
 subst hk;refine⟨?_,?_,?_,?_,?_⟩
 .rw[fA (by unfold fJ;simp[x9];omega)];simp[x9]
 .simp[mJ,x9];omega
 .show((s++ops).take (((s++ops).length:Nat):Int).toNat).drop s.length=ops;rw[D8,bY,X4]
 .simp[mJ,x9];omega
 .simp[kN,jC]
theorem o_{sg:X5}{f:(Int×Int)×List (Int×Int)×Int->Option (Out ((Int×Int)×List (Int×Int)×Int) ((Int×Int)×List (Int×Int)) ((Int×Int)×Int×Int))}
  (hI:∀n∈e,fJ n.2) (hs:a7X e sg (0,0) f) (hend:∀s,f ((0,0),s,(e.length:Int))=some (.ex ((0,0),s))) (hcode:∀x,oK e= .inl x->x.2≠0):
  l9 (H9 (D5 (xQ e).2.2 0)) (some ((((0:Int),(0:Int)),(xQ e).2):(Int×Int)×Int×Int)) (o6 (P8 f (((0:Int),(0:Int)),([]:List (Int×Int)),(0:Int))) λ(o:(Int×Int)×List (Int×Int)⊕(Int×Int)×Int×Int)=>
   bP o (λ(y:(Int×Int)×List (Int×Int))=>o6 (X0 y.2 0) λ(x:Int×Int)=>o6 (qN y.2 (jC 0)) λ(x:Int×Int)=>some (x,0,0)) λ(r:(Int×Int)×Int×Int)=>some r)=some (yP e sg):=by
 unfold xQ yP;cases h:oK e with
 |inl x=>simp only[I9 (hcode x h),P7,o7]|inr t=>
  obtain⟨hp,h48⟩:=wX h;have hw:=Hq h;obtain⟨l1,_⟩:=a2y e sg (0,0) h48 hI hs t hw [] [] [] (au -t.size) (by simpa using hp) A7;have hsz:e.length=t.size:=by rw[hp,XT.post_len]
  have hlo:P8 f (((0:Int),(0:Int)),([]:List (Int×Int)),(0:Int))=dW f (au -t.size+t.size) ((0,0),[],(([]:List (Int×Int)).length:Int)):=by unfold P8;rw[Nat.sub_add_cancel (by unfold au;omega)];rfl
  simp only[J4 (rfl:(0:Int)=0),F5,o5];rw[hlo,l1];simp only[H6,fE];cases xW sg t 0 with
  |inl x=>rfl|inr r=>obtain⟨k,hk⟩:∃k,au -t.size=k+1:=⟨au -t.size -1,by unfold au;omega⟩;simp only[H7];rw[hk,dW,←hsz,hend];rfl
theorem BH{x:Int×Int}(h:oK e= .inl x):x.2≠0:=by
 have key:∀(es:List (Int×Int)) (i:Nat) (ts:List XT) (x:Int×Int),vT i es ts= .inl x->x.2≠0:=by
  intro es;induction es with
  |nil=>intro i ts x h;cases h|cons n es ih=>
   intro i ts x h;unfold vT at h;cases hp:push n ts with
   |inl c=>
    rw[hp]at h;cases h;show c≠0;unfold push at hp
    (repeat' split at hp)<;>first|(cases hp;done)|(cases hp;decide)
   |inr t2=>
    rw[hp]at h;simp only at h;split at h
    .cases h;show(16:Int)≠0;decide
    .exact ih _ _ _ h
 unfold oK at h;split at h
 .cases h;show(4:Int)≠0;decide
 split at h
 .cases h;show(5:Int)≠0;decide
 split at h
 .rename_i y hp;cases h;exact key _ _ _ _ hp
 .cases h
 .cases h;show(4:Int)≠0;decide
theorem a2x(sg:X5)(hI:∀n∈e,fJ n.2):Bh e sg=some (yP e sg):=by
 unfold Bh;rw[zG,o9];refine o_ hI (λi n s ops hn hi2 hl hv hlen=>?_) (λs=>?_) (λx h=>BH h)
 .obtain⟨r,h1,h2,h3⟩:=a0y sg n (hI n (yw hn)) ops hv hl;obtain⟨v1,v2,v3,v4,v5⟩:=p_ s ops _ hl hlen;have e' :ZJ n ops sg=r:=by unfold ZJ;rw[h1];rfl
  have hi:=(aO.1 hn).1;simp only[V8 hn,o7,V4,hn,o9,a2N,v1,v2,v3,v4,v5];unfold Io;rw[e'];unfold EN at h2;have fin:bn n ops sg=some r->(o6 (bn n ops sg) λ(x_3:H5×Int)=>l9 (H9 (D5 x_3.2 0)) (some (Out.rt ((((0:Int),(0:Int)),((i:Int),x_3.2)):(Int×Int)×Int×Int)))
    (o6 (jV s [x_3.1]) λ(x_4:List H5)=>some (Out.nx (((0:Int),(0:Int)),x_4,I5 .i64 (i:Int) 1))))=
    some (match if r.2=0 then(.inr r.1:(Int×Int)⊕(Int×Int))else .inl ((i:Int),r.2)with| .inl x=>Out.rt ((0,0),x)| .inr t=>(Out.nx ((0,0),s++[t],((i+1:Nat):Int)):Out ((Int×Int)×List (Int×Int)×Int) ((Int×Int)×List (Int×Int)) ((Int×Int)×Int×Int))):=by
   intro hr;rw[hr,o9];by_cases h0:r.2=0
   .rw[if_pos h0,J4 h0];simp only[F5,o5];rw[nJ _ l7,o9,Z8 l7]
   .rw[if_neg h0,I9 h0];rfl
  cases hz:D5 n.2 0
  .rw[hz]at h2;simp only[P7,o7]at h2 ⊢;cases hu:cu n.1 with
   |none=>rw[hu]at h2;cases h2|some u=>
    rw[hu]at h2;simp only[o9]at h2 ⊢;cases u
    .simp only[P7,o7]at h2 ⊢;cases h2;rfl
    .exact fin h2
  .rw[hz]at h2;exact fin h2
 .rw[aG];rfl
section
variable {α β σ ε ρ:Type}
theorem IY(l:List α)(G:β->α->β)(mk:β->Int->σ)(fin:β->ε)(Inv:Nat->β->Prop){f:σ->Option (σ⊕ε)}{b:β}(hl:l.length<=1000000)(h0:Inv 0 b)
  (hin:∀(i:Nat) (a:α) (b:β),l[i]? =some a->i<=1000000->Inv i b->f (mk b (i:Int))=some (.inl (mk (G b a) ((i+1:Nat):Int)))/\Inv (i+1) (G b a))
  (hend:∀b,Inv l.length b->f (mk b (l.length:Int))=some (.inr (fin b))):
  lT f (mk b 0)=some (fin (l.foldl G b))/\Inv l.length (l.foldl G b):=by
 have key:∀(n i:Nat) (b:β),i<=l.length->l.length -i<n->Inv i b->vS f n (mk b (i:Int))=some (fin ((l.drop i).foldl G b))/\Inv l.length ((l.drop i).foldl G b):=by
  intro n;induction n with
  |zero=>intro i b _ h _;omega|succ n ih=>
   intro i b hi hn hI;unfold vS;by_cases h:i<l.length
   .have e:=lG h;obtain⟨h1,h2⟩:=hin i _ b e l7 hI;rw[h1,Y8 h];exact ih (i+1) _ l7 l7 h2
   .have:i=l.length:=l7;subst this;rw[hend b hI,xY];exact⟨rfl,hI⟩
 have:=key au 0 b l7 (by unfold au;omega) h0;exact this
theorem Am{γ:Type}(l:List α)(G:β->α->β)(mk:β->Int->σ)(fin:β->ε)(Inv:Nat->β->Prop)(b:β){f:σ->Option (σ⊕ε)}{K:ε->Option γ}{r:Option γ}(hl:l.length<=1000000)(h0:Inv 0 b)
  (hin:∀(i:Nat) (a:α) (b:β),l[i]? =some a->i<=1000000->Inv i b->f (mk b (i:Int))=some (.inl (mk (G b a) ((i+1:Nat):Int)))/\Inv (i+1) (G b a))
  (hend:∀b,Inv l.length b->f (mk b (l.length:Int))=some (.inr (fin b))) (hk:Inv l.length (l.foldl G b)->K (fin (l.foldl G b))=r):o6 (lT f (mk b 0)) K=r:=by
 obtain⟨h1,h2⟩:=IY l G mk fin Inv hl h0 hin hend;rw[h1];exact hk h2
def gX(G:β->α->β⊕ρ):List α->β->β⊕ρ
 |[],b=> .inl b
 |a::l,b=>match G b a with| .inl b' =>gX G l b'| .inr r=> .inr r
theorem IZ(l:List α)(G:β->α->β⊕ρ)(mk:β->Int->σ)(fin:β->ε)(Inv:Nat->β->Prop){f:σ->Option (Out σ ε ρ)}{b:β}(hl:l.length<=1000000)(h0:Inv 0 b)
  (hin:∀(i:Nat) (a:α) (b:β),l[i]? =some a->i<=1000000->Inv i b->f (mk b (i:Int))=some (match G b a with| .inl b' => .nx (mk b' ((i+1:Nat):Int))| .inr r=> .rt r)/\∀b',G b a= .inl b' ->Inv (i+1) b')
  (hend:∀b,Inv l.length b->f (mk b (l.length:Int))=some (.ex (fin b))):
  P8 f (mk b 0)=some (match gX G l b with| .inl b' => .inl (fin b')| .inr r=> .inr r)/\∀b',gX G l b= .inl b' ->Inv l.length b' :=by
 have key:∀(n i:Nat) (b:β),i<=l.length->l.length -i<n->Inv i b->dW f n (mk b (i:Int))=some (match gX G (l.drop i) b with| .inl b' => .inl (fin b')| .inr r=> .inr r)/\∀b',gX G (l.drop i) b= .inl b' ->Inv l.length b' :=by
  intro n;induction n with
  |zero=>intro i b _ h _;omega|succ n ih=>
   intro i b hi hn hI;unfold dW;by_cases h:i<l.length
   .have e:=lG h;obtain⟨h1,h2⟩:=hin i _ b e l7 hI;rw[h1,Y8 h];unfold gX;cases hg:G b l[i]with
    |inr r=>exact⟨rfl,λb' hb=>by cases hb⟩|inl b' =>exact ih (i+1) _ l7 l7 (h2 b' hg)
   .have:i=l.length:=l7;subst this;rw[hend b hI,xY];exact⟨rfl,λb' hb=>by cases hb;exact hI⟩
 have:=key au 0 b l7 (by unfold au;omega) h0;exact this
theorem Qv{γ:Type}(l:List α)(G:β->α->β⊕ρ)(mk:β->Int->σ)(fin:β->ε)(Inv:Nat->β->Prop)(b:β){f:σ->Option (Out σ ε ρ)}{K:ε⊕ρ->Option γ}{r:Option γ}(hl:l.length<=1000000)(h0:Inv 0 b)
  (hin:∀(i:Nat) (a:α) (b:β),l[i]? =some a->i<=1000000->Inv i b->f (mk b (i:Int))=some (match G b a with| .inl b' => .nx (mk b' ((i+1:Nat):Int))| .inr r=> .rt r)/\∀b',G b a= .inl b' ->Inv (i+1) b')
  (hend:∀b,Inv l.length b->f (mk b (l.length:Int))=some (.ex (fin b)))
  (hk:(∀b',gX G l b= .inl b' ->Inv l.length b')->K (match gX G l b with| .inl b' => .inl (fin b')| .inr r=> .inr r)=r):o6 (P8 f (mk b 0)) K=r:=by
 obtain⟨h1,h2⟩:=IZ l G mk fin Inv hl h0 hin hend;rw[h1];exact hk h2
end
def VQ(c:UInt8):Bool:=decide (32<=c.toNat)&&decide (c.toNat<=126)&&decide (c.toNat≠34)
def a7J(s:List UInt8):Bool:=decide (s.length<=64)&&s.all VQ
theorem a0i(c:UInt8):∀s:List UInt8,decide (0<=Lib.indexByte s c)=s.any λx=>decide (x.toNat=c.toNat)
 |[]=>by simp[Lib.indexByte]|b::l=>by
  have ih:=a0i c l;have hge:=Lib.indexByte_ge l c;rw[List.any_cons,←ih];have e:Lib.indexByte (b::l) c=if b=c then 0 else if Lib.indexByte l c=-1 then -1 else Lib.indexByte l c+1:=by rw[Lib.indexByte];simp
  rw[e];by_cases h:b=c
  .subst h;simp
  .have h2:b.toNat≠c.toNat:=λhh=>h (UInt8.toNat_inj.1 hh);rw[if_neg h,show decide (b.toNat=c.toNat)=false by simp[h2],IW];by_cases h3:Lib.indexByte l c=-1
   .rw[h3];rfl
   .rw[if_neg h3];simp;omega
theorem a5G(c:UInt8):VQ c=(!I8 (c.toNat:Int) 32&&!I8 126 (c.toNat:Int)&&!D5 (c.toNat:Int) 34):=by unfold VQ I8 D5;rw[kK];simp;omega
theorem E_(s:List UInt8)(p:UInt8->Bool):(∀(i:Nat) (a:UInt8),s[i]? =some a->p a=true)↔s.all p=true:=by rw[bV];exact⟨λh x hx=>by obtain⟨i,hi,rfl⟩:=jT hx;exact h i _ (lG hi),λh i a hi=>h a (yw hi)⟩
theorem RX{s:List UInt8}(h:s.length<=1000000):wz s=some (a7J s):=by
 unfold wz;have h5:I8 64 (x9 s)= !decide (s.length<=64):=by simp only[I8,x9];rw[←decide_not];congr 1;simp;omega
 rw[h5,show qI s [34]=some (s.any λx=>decide (x.toNat=(34:UInt8).toNat))from congrArg some (a0i 34 s)];unfold a7J;cases decide (s.length<=64)
 .rfl
 simp only[pz,o5,o9,rZ];cases h34:s.any λx=>decide (x.toNat=(34:UInt8).toNat)
 case true=>
  obtain⟨x,hx,hx2⟩:=uf.1 h34;simp only[decide_eq_true_eq]at hx2;have:s.all VQ=false:=by rw[List.all_eq_false];refine⟨x,hx,?_⟩;unfold VQ;rw[hx2];decide
  rw[this];rfl
 simp only[o5];refine J3 (TW s (λi a=>VQ a) false PUnit.unit _ l7 (λi x hx=>?_) ?_) ?_
 rotate_left 2
 .by_cases hw:s.all VQ=true
  .rw[if_pos ((E_ s VQ).2 hw),hw];rfl
  .rw[if_neg (λh=>hw ((E_ s VQ).1 h))];simp only[Ew]at hw;rw[hw];rfl
 .have hi:=(aO.1 hx).1;have hne:D5 (x.toNat:Int) 34=false:=by
   have:=(fB.1 h34) x (yw hx);simp only[decide_eq_true_eq]at this;exact I9 (by have h:(34:UInt8).toNat=34:=rfl;omega)
  simp only[V8 hx,o7,oJ,hx,aQ,o9];rw[Z8 l7,a5G,hne];cases I8 (x.toNat:Int) 32<;>cases I8 126 (x.toNat:Int)<;>rfl
 .rw[aG];rfl
def RZ(e:List (Int×Int))(sg:X5)(t:Int×Int):Int:=l9 (D5 (yP e sg).2.2 0) (l9 (oP (D5 (yP e sg).1.1 t.1) (D5 (yP e sg).1.2 t.2)) 0 8) (yP e sg).2.2
theorem JC(sg:X5)(t:Int×Int)(hI:∀n∈e,fJ n.2):tJ e sg t=some (RZ e sg t):=by
 unfold tJ RZ;rw[a2x sg hI,o9];cases D5 (yP e sg).2.2 0
 .rfl
 simp only[F5,o5,o7];cases oP (D5 (yP e sg).1.1 t.1) (D5 (yP e sg).1.2 t.2)<;>rfl
def a2I(r:kV):Prop:=r.1.length<=1000000/\r.2.2.2.2.2.2.2.length<=1000000/\(∀n∈r.2.2.2.2.2.1,fJ n.2)/\(∀n∈r.2.2.2.2.2.2.1,fJ n.2)
def a1u(rs:List kV)(d:Int):Nat:=rs.countP λo=>D5 o.2.1 d
def a3i(r:kV)(sg:X5)(t:Int×Int):Int:=
 l9 (I8 0 (x9 r.2.2.2.2.2.1)) (l9 (D5 (RZ r.2.2.2.2.2.1 sg (1,0)) 0) (RZ r.2.2.2.2.2.2.1 sg t) (RZ r.2.2.2.2.2.1 sg (1,0))) (RZ r.2.2.2.2.2.2.1 sg t)
def Ru(s:O0)(sg:X5)(k:Nat)(r:kV):Int:=
 l9 (lL r.1) (l9 ((s.2.2.2.2.take k).any λx=>seq x.1 r.1) 7 (match X0 s.2.2.2.1 r.2.1 with
  |none=>6|some d=>l9 (l9 (D5 r.2.2.1 (-1)) false (l9 (I8 r.2.2.1 0) true (l9 (V6 k r.2.2.1) true (match X0 s.2.2.2.2 r.2.2.1 with|some q=>H9 (D5 q.2.1 r.2.1)|none=>true)))) 9
   (l9 (I8 r.2.2.2.1 0) 3 (l9 (I8 9 r.2.2.2.1) 3 (l9 (LG r.2.2.2.2.1) (l9 (D5 r.2.2.2.2.1.1 r.2.2.2.2.1.2) 3
    (l9 (V6 8 (a1u (s.2.2.2.2.take k) r.2.1)) 4 (l9 (a7J r.2.2.2.2.2.2.2) (a3i r sg d.2) 2))) 3))))) 2
theorem Xd{l:List α}{i:Int}(h:V6 0 i=false\/I8 i (x9 l)=false):X0 l i=none:=by
 unfold X0
 split
 .rename_i h0;rcases h with h|h
  .rw[Vf]at h;omega
  .rw[rY]at h;simp only[x9]at h;exact Y2 l7
 .rfl
variable {s:O0}{r:kV}
theorem UI(sg:X5){k:Nat}(hr:s.2.2.2.2[k]? =some r)(hl:s.2.2.2.2.length<=1000)(h:a2I r):yL s (k:Int) sg=some (Ru s sg k r):=by
 have hk:=(aO.1 hr).1;have hcnt:a1u (s.2.2.2.2.take k) r.2.1<=1000:=by have:=List.countP_le_length (l:=s.2.2.2.2.take k) (p:=λ(o:kV)=>D5 o.2.1 r.2.1);unfold a1u;simp at this;omega
 unfold yL;rw[V4,hr,o9,wQ l7,o9];refine J3 (IY (s.2.2.2.2.take k) (λ(c:Nat) (o:kV)=>l9 (D5 o.2.1 r.2.1) (c+1) c) (λc i=>((c:Int),i)) (λc=>(c:Int)) (λi c=>c<=i) (b:=0) F9 l7 (λi a c ha hi hc=>?_) (λc hc=>?_)).1 ?_
 rotate_left 2
 .have hf:∀(l:List kV) (c:Nat),l.foldl (λ(c:Nat) (o:kV)=>l9 (D5 o.2.1 r.2.1) (c+1) c) c=c+a1u l r.2.1:=by
   intro l;induction l with
   |nil=>intro c;rfl|cons a l ih=>intro c;rw[dE,ih];unfold a1u;rw[List.countP_cons];cases D5 a.2.1 r.2.1<;>simp<;>omega
  rw[hf,fE,o9,jY h.1,o9,o9,Ze _ F9,o9];unfold Ru;cases lL r.1
  .rfl
  simp only[F5,o5,o7,o9];cases (s.2.2.2.2.take k).any λx=>seq x.1 r.1
  case true=>rfl
  simp only[o5];rw[Bj r.2.1 0,Oz (x9 s.2.2.2.1) r.2.1];cases h0:V6 0 r.2.1
  .rw[Xd (.inl h0)];rfl
  cases h1:I8 r.2.1 (x9 s.2.2.2.1)
  .rw[Xd (.inr h1)];rfl
  obtain⟨d,hd,_⟩:=ug (ul.1 h0) (wo.1 h1);rw[hd];simp only[pz,o5,o9,RX h.2.1];have hpar:(l9 (H9 (D5 r.2.2.1 (-1))) (l9 (I8 r.2.2.1 0) (some true) (l9 (V6 (k:Int) r.2.2.1) (some true) (o6 (X0 s.2.2.2.2 r.2.2.1) λ(x_6:kV)=>some (H9 (D5 x_6.2.1 r.2.1))))) (some false))=
    some (l9 (D5 r.2.2.1 (-1)) false (l9 (I8 r.2.2.1 0) true (l9 (V6 k r.2.2.1) true (match X0 s.2.2.2.2 r.2.2.1 with|some q=>H9 (D5 q.2.1 r.2.1)|none=>true)))):=by
   cases D5 r.2.2.1 (-1)
   case true=>rfl
   simp only[P7,o7,o5];cases hp0:I8 r.2.2.1 0
   case true=>rfl
   cases hp1:V6 (k:Int) r.2.2.1
   case true=>rfl
   rw[rY]at hp0;rw[Vf]at hp1;obtain⟨q,hq,_⟩:=ug (l:=s.2.2.2.2) hp0 (by simp only[x9];omega);rw[hq];rfl
  rw[hpar,o9];cases (l9 (D5 r.2.2.1 (-1)) false (l9 (I8 r.2.2.1 0) true (l9 (V6 k r.2.2.1) true (match X0 s.2.2.2.2 r.2.2.1 with|some q=>H9 (D5 q.2.1 r.2.1)|none=>true))))
  case true=>rfl
  simp only[o5];cases I8 r.2.2.2.1 0
  case true=>rfl
  simp only[o5,o9];cases I8 9 r.2.2.2.1
  case true=>rfl
  simp only[o5];have hval:∀(A B:Option (kV⊕Int)),l9 (I8 r.2.2.2.2.1.1 0) A (l9 (V6 r.2.2.2.2.1.2 r.2.2.2.2.1.1) A (l9 (I8 109573 r.2.2.2.2.1.2) A B))=l9 (LG r.2.2.2.2.1) (l9 (D5 r.2.2.2.2.1.1 r.2.2.2.2.1.2) A B) A:=by
   intro A B;unfold LG;by_cases v0:r.2.2.2.2.1.1<(0:Int)
   .rw[Y0 v0,bG (show r.2.2.2.2.1.1<(0:Int)from v0)];rfl
   rw[O6 (sW.1 v0),X9 (sW.1 v0)];by_cases v1:(r.2.2.2.2.1.2:Int)<=r.2.2.2.2.1.1
   .rw[X9 v1];by_cases v2:(r.2.2.2.2.1.1:Int)<=r.2.2.2.2.1.2
    .rw[X9 v2,J4 (Int.le_antisymm v2 v1)];cases V6 r.2.2.2.2.1.2 109573<;>rfl
    .rw[bG (sV.1 v2)];rfl
   .have v1' :=sV.1 v1;rw[bG v1',X9 (Int.le_of_lt v1'),I9 (λhh=>by rw[hh]at v1';exact Int.lt_irrefl _ v1'),Bj];cases V6 r.2.2.2.2.1.2 109573<;>rfl
  rw[hval];cases LG r.2.2.2.2.1
  .rfl
  cases D5 r.2.2.2.2.1.1 r.2.2.2.2.1.2
  case true=>rfl
  simp only[o7,o5];cases V6 8 ((a1u (s.2.2.2.2.take k) r.2.1:Nat):Int)
  case true=>rfl
  cases a7J r.2.2.2.2.2.2.2
  .rfl
  simp only[F5,o5,o7,o9,J7,a3i,hd,JC sg _ h.2.2.1,JC sg _ h.2.2.2];cases I8 0 (x9 r.2.2.2.2.2.1)
  .rfl
  simp only[o7];cases D5 (RZ r.2.2.2.2.2.1 sg (1,0)) 0<;>rfl
 .have hc' :c<=1000000:=l7;obtain⟨ha1,ha2⟩:=Yl ha;simp only[V8 ha,o7,V4,ha,o9];rw[Z8 (show i<=9000000000000000000 by omega),Z8 (show c<=9000000000000000000 by omega)];cases D5 a.2.1 r.2.1
  .exact⟨rfl,by show c<=i+1;omega⟩
  .exact⟨rfl,by show c+1<=i+1;omega⟩
 .simp only[aG];rfl
structure SmS (s:O0):Prop where
 nm:s.1.length<=1000000
 ni:s.2.2.1.length<=14
 nd:s.2.2.2.1.length<=14
 nr:s.2.2.2.2.length<=60
 fo:a2F s
 ro:∀r∈s.2.2.2.2,a2I r/\r.2.2.2.2.2.1.length<=50/\r.2.2.2.2.2.2.1.length<=50
def isM(op:Int):Bool:=l9 (V6 36 op) (V6 op 39) false
theorem a9D(op:Int):isM op=l9 (D5 op 36) true (l9 (D5 op 37) true (l9 (D5 op 38) true (D5 op 39))):=by
 unfold isM;by_cases h1:36<=op
 .rw[X9 h1,o7];by_cases h2:op<=39
  .rw[X9 h2];have:op=36\/op=37\/op=38\/op=39:=l7;rcases this with rfl|rfl|rfl|rfl<;>rfl
  .rw[bG l7,I9 l7,I9 l7,I9 l7,I9 l7];rfl
 .rw[bG l7,I9 l7,I9 l7,I9 l7,I9 l7];rfl
def Om(p:Int->Bool)(e:List (Int×Int)):List Int:=(e.filter λn=>p n.1).map (·.2)
def FD(e:List (Int×Int)):List Int×List Int×List Int:=(Jo (Om (λo=>D5 o 7) e),Jo (Om (λo=>D5 o 8) e),Jo (Om isM e))
def a7f(g:List Int->Int->List Int)(b:List Int×List Int×List Int)(n:Int×Int):List Int×List Int×List Int:=
 (l9 (D5 n.1 7) (g b.1 n.2) b.1,l9 (D5 n.1 8) (g b.2.1 n.2) b.2.1,l9 (isM n.1) (g b.2.2 n.2) b.2.2)
theorem Ui(g:List Int->Int->List Int):∀(e:List (Int×Int)) (b:List Int×List Int×List Int),e.foldl (a7f g) b=((Om (λo=>D5 o 7) e).foldl g b.1,(Om (λo=>D5 o 8) e).foldl g b.2.1,(Om isM e).foldl g b.2.2)
 |[],b=>rfl|n::e,b=>by
  have hn:∀p:Int->Bool,Om p (n::e)=l9 (p n.1) (n.2::Om p e) (Om p e):=λp=>by unfold Om;rw[lQ];cases p n.1<;>rfl
  rw[dE,Ui g e,hn,hn,hn];unfold a7f;simp only;cases D5 n.1 7<;>cases D5 n.1 8<;>cases isM n.1<;>rfl
theorem TL:∀(l b:List Int),l.foldl (λacc n=>acc++[n]) b=b++l
 |[],b=>by simp|a::l,b=>by rw[dE,TL l];simp
theorem DC{a k:Int}(h:a=k)(m:Int)(hm:k≠m):D5 a m=false:=I9 l7
theorem Bg{l:List Int}(hl:l.length<=1000000):tH l=some (Jo l):=by unfold tH;have:=a7I (l:=l) hl;rw[show(λx=>o6 (ql x) λ(x:List Int)=>some x)=λx=>ql x from funext λx=>aB _];exact this
theorem Ir(h:e.length<=1000000):sU e=some (FD e):=by
 unfold sU;refine Am e (a7f (λacc n=>acc++[n])) (λb i=>(b.1,b.2.1,b.2.2,i)) (λb=>b) (λi b=>b.1.length<=i/\b.2.1.length<=i/\b.2.2.length<=i) (([],[],[]):List Int×List Int×List Int) h A7 (λi a b ha hi hI=>?_) (λb hI=>?_) (λh2=>?_)
 .obtain⟨b1,b2,b3⟩:=b;simp only at hI;simp only[V8 ha,o7,V4,ha,o9,nJ a.2 (show b1.length<=1000000 by omega),nJ a.2 (show b2.length<=1000000 by omega),nJ a.2 (show b3.length<=1000000 by omega),a7f,a9D];rw[Z8 l7];by_cases h7:a.1=7
  .rw[J4 h7,DC h7 8 F6,DC h7 36 F6,DC h7 37 F6,DC h7 38 F6,DC h7 39 F6];exact⟨rfl,by simp<;>omega,by simp<;>omega,by simp<;>omega⟩
  rw[I9 h7];by_cases h8:a.1=8
  .rw[J4 h8,DC h8 36 F6,DC h8 37 F6,DC h8 38 F6,DC h8 39 F6];exact⟨rfl,by simp<;>omega,by simp<;>omega,by simp<;>omega⟩
  rw[I9 h8];cases D5 a.1 36<;>cases D5 a.1 37<;>cases D5 a.1 38<;>cases D5 a.1 39<;>exact⟨rfl,by simp<;>omega,by simp<;>omega,by simp<;>omega⟩
 .simp only[aG];rfl
 .rw[Ui]at h2 ⊢;simp only[TL,H7]at h2 ⊢;rw[Bg l7,o9,Bg l7,o9,Bg l7];rfl
theorem a3T(p:Int->Bool)(e:List (Int×Int)):(Om p e).length<=e.length:=by unfold Om;rw[O7];exact gB _ _
theorem He(e:List (Int×Int)):(FD e).2.1.length<=e.length:=jJ (Xe _) (a3T _ e)
def inD(n d:Int):Bool:=l9 (V6 0 d) (I8 d n) false
def Fz(n:Int)(r:kV):List Int:=(FD r.2.2.2.2.2.1).2.1.filter (inD n)++(FD r.2.2.2.2.2.2.1).2.1.filter (inD n)
theorem Qe(p:Int->Bool):∀(l b:List Int),l.foldl (λacc x=>l9 (p x) (acc++[x]) acc) b=b++l.filter p
 |[],b=>by simp|a::l,b=>by rw[dE,Qe p l,lQ];cases p a<;>simp
theorem TK{f:List Int×Int->Option ((List Int×Int)⊕List Int)}(l b:List Int)(n:Int)(hl:l.length<=1000)(hb:b.length<=1000)
  (hin:∀(i:Nat) (a:Int) (acc:List Int),l[i]? =some a->i<=1000000->f (acc,(i:Int))=l9 (V6 0 a) (l9 (I8 a n) (o6 (jV acc [a]) λx=>some (.inl (x,I5 .i64 (i:Int) 1))) (some (.inl (acc,I5 .i64 (i:Int) 1)))) (some (.inl (acc,I5 .i64 (i:Int) 1))))
  (hend:∀acc,f (acc,(l.length:Int))=some (.inr acc)):lT f (b,0)=some (b++l.filter (inD n)):=by
 have key:=IY l (λ(acc:List Int) x=>l9 (inD n x) (acc++[x]) acc) (λb i=>(b,i)) (λb=>b) (λi acc=>acc.length<=1000+i) (f:=f) (b:=b) l7 l7 ?_ ?_
 .rw[key.1,Qe]
 .intro i a acc ha hi hI;have:=(aO.1 ha).1;rw[hin i a acc ha hi,Z8 l7,nJ _ l7];unfold inD;cases V6 0 a
  .exact⟨rfl,by show acc.length<=_;omega⟩
  cases I8 a n
  .exact⟨rfl,by show acc.length<=_;omega⟩
  .exact⟨rfl,by simp;omega⟩
 .intro acc hI;rw[hend]
theorem Lt(n:Int)(h1:r.2.2.2.2.2.1.length<=50)(h2:r.2.2.2.2.2.2.1.length<=50):rX r n=some (Fz n r):=by
 have g1:=He r.2.2.2.2.2.1;have g2:=He r.2.2.2.2.2.2.1;unfold rX Fz;rw[Ir l7,o9,Ir l7,o9];refine J3 (TK (FD r.2.2.2.2.2.1).2.1 [] n l7 A7 (λi a acc ha hi=>?_) (λacc=>?_)) ?_
 rotate_left 2
 .rw[o9,aB,H7];have:=gB (inD n) (FD r.2.2.2.2.2.1).2.1;refine TK (FD r.2.2.2.2.2.2.1).2.1 _ n l7 l7 (λi a acc ha hi=>?_) (λacc=>?_)
  .simp only[V8 ha,o7,V4,ha,o9];rw[show qN (FD r.2.2.2.2.2.2.1).2.1 (jC (i:Int))=some a from ha,o9]
  .simp only[aG];rfl
 .simp only[V8 ha,o7,V4,ha,o9];rw[show qN (FD r.2.2.2.2.2.1).2.1 (jC (i:Int))=some a from ha,o9]
 .simp only[aG];rfl
def nD(s:O0):Int:=x9 s.2.2.2.1
def dl(n:Int)(rs:List kV)(d:Int):List Int:=rs.flatMap λr=>l9 (D5 r.2.1 d) (Fz n r) []
def zx(s:O0)(d:Int):List Int:=l9 (inD (nD s) d) (Jo (dl (nD s) s.2.2.2.2 d)) []
theorem Ug(h:SmS s)(hr:r∈s.2.2.2.2)(n:Int):(Fz n r).length<=100:=by obtain⟨_,h1,h2⟩:=h.ro r hr;have a1:=He r.2.2.2.2.2.1;have a2:=He r.2.2.2.2.2.2.1;have b1:=gB (inD n) (FD r.2.2.2.2.2.1).2.1;have b2:=gB (inD n) (FD r.2.2.2.2.2.2.1).2.1;unfold Fz;rw[E8];omega
theorem S_(n:Int)(rs:List kV)(r:kV)(d:Int):dl n (rs++[r]) d=dl n rs d++l9 (D5 r.2.1 d) (Fz n r) []:=by unfold dl;rw[List.flatMap_append];simp
theorem a6p(n:Int)(rs:List kV)(r:kV)(d:Int):dl n (r::rs) d=l9 (D5 r.2.1 d) (Fz n r) []++dl n rs d:=rfl
theorem YQ{s:O0}(h:SmS s)(n d:Int):∀(rs:List kV),(∀r∈rs,r∈s.2.2.2.2)->(dl n rs d).length<=100*rs.length
 |[],_=>by simp[dl]|r::rs,hm=>by
  have ih:=YQ h n d rs λr hr=>hm r (by simp[hr]);have h1:=Ug h (hm r A7) n;rw[a6p,E8,D9];cases D5 r.2.1 d
  .simp only[o5,H6];omega
  .simp only[o7];omega
variable {d:Int}{x:Int}
theorem a9G{n:Int}{rs:List kV} :x∈dl n rs d↔∃r∈rs,r.2.1=d/\x∈Fz n r:=by
 unfold dl;rw[List.mem_flatMap];constructor
 .rintro⟨r,hr,hx⟩;cases hq:D5 r.2.1 d<;>rw[hq]at hx
  .simp at hx
  .exact⟨r,hr,dO.1 hq,hx⟩
 .rintro⟨r,hr,hq,hx⟩;exact⟨r,hr,by rw[J4 hq];exact hx⟩
theorem a4y{n:Int}(h:x∈Fz n r):0<=x/\x<n:=by
 have key:inD n x=true:=by unfold Fz at h;rcases I4.1 h with h|h<;>exact(qx.1 h).2
 unfold inD at key;cases h0:V6 0 x<;>rw[h0]at key
 .cases key
 .exact⟨ul.1 h0,wo.1 key⟩
theorem LD(s:O0)(d:Int):SI (zx s d):=by
 unfold zx;cases inD (nD s) d
 .exact List.Pairwise.nil
 .exact a0P _
theorem LC(h:x∈zx s d):0<=x/\x<nD s:=by
 unfold zx at h;cases hq:inD (nD s) d<;>rw[hq]at h
 .simp at h
 .obtain⟨r,_,_,hx⟩:=a9G.1 ((Xl _ _).1 h);exact a4y hx
theorem a0q(m k:Nat)(f:Nat->α)(v:α):((List.range m).map f).set k v=(List.range m).map λd=>if d=k then v else f d:=by
 apply fC;intro i;rw[Y9,dC,dC,O7,ik];by_cases hi:i<m
 .rw[List.getElem?_range hi];by_cases h:k=i
  .subst h;simp[hi]
  .simp[h,Ne.symm h]
 .have:(List.range m)[i]? =none:=by simp;omega
  rw[this];by_cases h:k=i
  .subst h;simp[hi]
  .simp[h]
def Po(m:Nat)(rs:List kV):List (List Int):=(List.range m).map λ(d:Nat)=>dl (m:Int) rs (d:Int)
theorem VO{l:List Int}(hl:l.length<=1000000):Ad l=some (Jo l):=Bg hl
theorem Vl(m:Nat)(f:Nat->α){k:Nat}(h:k<m):((List.range m).map f)[k]? =some (f k):=by rw[dC,List.getElem?_range h];rfl
theorem UF(h:SmS s):xf s=some ((List.range s.2.2.2.1.length).map λ(d:Nat)=>zx s (d:Int)):=by
 have hnr:=h.nr;have hnd:=h.nd;unfold xf;generalize hm:s.2.2.2.1.length=m at*;have hn:nD s=(m:Int):=by unfold nD x9;rw[hm]
 rw[show x9 s.2.2.2.1=(m:Int)from hn,show Ja (m:Int) ([]:List Int)=some (Po m []) by unfold Ja Po dl;rw[if_pos l7];simp[List.map_const'],o9];refine Am s.2.2.2.2 (λ(b:List (List Int)) r=>l9 (inD m r.2.1) (b.set r.2.1.toNat ((b.getD r.2.1.toNat [])++Fz m r)) b) (λb i=>(b,i)) (λb=>b) (λi b=>b=Po m (s.2.2.2.2.take i)) (Po m []) l7 A7 (λi r b ha hi hI=>?_) (λb hI=>?_) (λh2=>?_)
 .have hlt:=(aO.1 ha).1;obtain⟨_,h1,h2⟩:=h.ro r (yw ha);have hst:s.2.2.2.2.take (i+1)=s.2.2.2.2.take i++[r]:=by
   rw[bT hlt,(aO.1 ha).2]
  have hlb:x9 b=(m:Int):=by rw[hI];simp[x9,Po]
  obtain⟨rd,hrd⟩:∃rd:Int,r.2.1=rd:=⟨r.2.1,rfl⟩;simp only[V8 ha,o7,V4,ha,o9,hlb,hrd];rw[Z8 l7,hst];by_cases hd:0<=rd/\rd<(m:Int)
  .obtain⟨d0,d1⟩:=hd;have hk:rd.toNat<m:=l7;have hkk:((rd.toNat:Nat):Int)=rd:=l7;have hg:b[rd.toNat]? =some (dl m (s.2.2.2.2.take i) rd):=by rw[hI];unfold Po;rw[Vl m _ hk,hkk]
   have hll:=YQ h m rd (s.2.2.2.2.take i) λr hr=>lI hr;have hrl:=Ug h (yw ha) m;have htl:(s.2.2.2.2.take i).length<=60:=by simp;omega
   rw[X9 d0,Y0 d1,show inb rd (m:Int)=true by unfold inb;simp;omega,show qN b (jC rd)=some (dl m (s.2.2.2.2.take i) rd)from hg,Lt _ h1 h2];simp only[o7,o9];rw[OC l7,show Zm (jC rd) (jC rd)=true by simp[Zm]];simp only[o7,o9];have hin:inD m rd=true:=by unfold inD;rw[X9 d0,Y0 d1];rfl
   rw[hin,show b.getD rd.toNat []=dl m (s.2.2.2.2.take i) rd by rw[Oi,hg];rfl];refine⟨rfl,?_⟩;show b.set rd.toNat _=_;rw[hI];unfold Po;rw[a0q];apply iD;intro d hdm;rw[S_,hrd];by_cases hq:d=rd.toNat
   .subst hq;rw[if_pos rfl,hkk,J4 rfl];rfl
   .rw[if_neg hq,I9 l7];simp
  .have hin:inD m rd=false:=by
    unfold inD;by_cases d0:0<=rd
    .rw[X9 d0,O6 l7];rfl
    .rw[bG l7];rfl
   rw[hin];refine⟨?_,?_⟩
   .unfold inD at hin;cases q0:V6 0 rd
    .rfl
    .rw[q0]at hin;simp only[o7]at hin ⊢;rw[hin];rfl
   .show b=_;rw[hI];unfold Po;apply iD;intro d hdm;have:=ed.1 hdm;rw[S_,hrd,I9 l7];simp
 .simp only[aG];rfl
 .rw[bY]at h2;rw[h2];generalize hA:Po m s.2.2.2.2=A;have hAl:x9 A=(m:Int):=by rw[←hA];simp[x9,Po]
  refine Am (List.range m) (λ(b:List (List Int)) d=>b.set d (Jo (b.getD d []))) (λb i=>(b,i)) (λb=>b) (λi b=>b=(List.range m).map λ(d:Nat)=>if d<i then Jo (dl m s.2.2.2.2 (d:Int))else dl m s.2.2.2.2 (d:Int)) A F9 (by rw[←hA];unfold Po;simp) (λi d b ha hi hI=>?_) (λb hI=>?_) (λh3=>?_)
  .have hlt:=(aO.1 ha).1;simp only[ik]at hlt;have hdi:d=i:=by rw[List.getElem?_range hlt]at ha;exact(qy ha).symm
   subst hdi;have hlb:x9 b=(m:Int):=by rw[hI];simp[x9]
   have hg:b[d]? =some (dl m s.2.2.2.2 (d:Int)):=by rw[hI,Vl m _ hlt,if_neg l7]
   have hll:=YQ h m d s.2.2.2.2 λr hr=>hr;simp only[hAl,hlb];rw[Y0 (show(d:Int)<(m:Int) by omega),show inb (d:Int) (m:Int)=true by unfold inb;simp;omega,show qN b (jC (d:Int))=some (dl m s.2.2.2.2 (d:Int))from hg];simp only[o7,o9];rw[VO l7,show Zm (jC (d:Int)) (jC (d:Int))=true by simp[Zm],Z8 l7];simp only[o7,o9];rw[show b.getD d []=dl m s.2.2.2.2 (d:Int) by rw[Oi,hg];rfl];refine⟨rfl,?_⟩;rw[hI,a0q];apply iD;intro e he;by_cases hq:e=d
   .subst hq;rw[if_pos rfl,if_pos l7]
   .rw[if_neg hq];by_cases hq2:e<d
    .rw[if_pos hq2,if_pos l7]
    .rw[if_neg hq2,if_neg l7]
  .simp only[ik,hAl,O6 (show(m:Int)<=(m:Int) by omega)];rfl
  .rw[h3];apply congrArg some;apply iD;intro d hd;have:=ed.1 hd;simp only[ik];rw[if_pos this];unfold zx;rw[hn,show inD (m:Int) (d:Int)=true by unfold inD;rw[X9 l7,Y0 l7];rfl];rfl
def Rch(D:Int->List Int)(d:Int)(L:List Int):Prop:=SI L/\(∀x∈D d,x∈L)/\(∀x∈L,∀y∈D x,y∈L)/\∀C:Int->Prop,(∀x∈D d,C x)->(∀x,C x->∀y∈D x,C y)->∀x∈L,C x
theorem Rch.unique{D:Int->List Int}{L M:List Int}(h:Rch D d L)(k:Rch D d M):L=M:=
 ZU h.1 k.1 λx=>⟨λhx=>h.2.2.2 (λy=>y∈M) k.2.1 k.2.2.1 x hx,λhx=>k.2.2.2 (λy=>y∈L) h.2.1 h.2.2.1 x hx⟩
theorem VS:∀{B A:List Int},SI A->SI B->(∀x∈A,x∈B)->A=B\/A.length<B.length
 |[],A,_,_,h=>by
  cases A with
  |nil=>exact .inl rfl|cons a A=>exact absurd (h a A7) A7
 |b::B,[],_,_,_=> .inr A7|b::B,a::A,hA,hB,h=>by
  have hA' :=U5.1 hA;have hB' :=U5.1 hB;rcases D6.1 (h a A7)with hab|hab
  .subst hab;rcases VS (B:=B) (A:=A) hA'.2 hB'.2 (λx hx=>by
    rcases D6.1 (h x (by simp[hx]))with h1|h1
    .have:=hA'.1 x hx;omega
    .exact h1)with h1|h1
   .exact .inl (by rw[h1])
   .exact .inr (by simp only[D9];omega)
  .have hab2:=hB'.1 a hab;rcases VS (B:=B) (A:=a::A) hA hB'.2 (λx hx=>by
    rcases D6.1 (h x hx)with h1|h1
    .rcases D6.1 hx with h2|h2
     .omega
     .have:=hA'.1 x h2;omega
    .exact h1)with h1|h1
   .exact .inr (by rw[h1];simp)
   .exact .inr (by simp only[D9]at*;omega)
def Fj(D:Int->List Int)(L:List Int):List Int:=L.foldl (λacc x=>Qo (D x) acc) L
theorem CY(D:Int->List Int)(x:Int):∀(l acc:List Int),x∈l.foldl (λacc x=>Qo (D x) acc) acc↔x∈acc\/∃y∈l,x∈D y
 |[],acc=>by simp|a::l,acc=>by
  rw[dE,CY D x l,Qz];constructor
  .rintro((h|h)|⟨y,hy,h⟩)
   .exact .inr ⟨a,A7,h⟩
   .exact .inl h
   .exact .inr ⟨y,by simp[hy],h⟩
  .rintro(h|⟨y,hy,h⟩)
   .exact .inl (.inr h)
   .rcases D6.1 hy with rfl|hy
    .exact .inl (.inl h)
    .exact .inr ⟨y,hy,h⟩
theorem a0x(D:Int->List Int):∀(l:List Int) {acc:List Int},SI acc->SI (l.foldl (λacc x=>Qo (D x) acc) acc)
 |[],_,h=>h|a::l,_,h=>by rw[dE];exact a0x D l (VM _ h)
theorem QI(D:Int->List Int){L:List Int}(h:SI L):SI (Fj D L):=a0x D L h
def itS(D:Int->List Int)(d:Int):Nat->List Int
 |0=>D d|k+1=>Fj D (itS D d k)
section
variable {D:Int->List Int} {n:Nat} (hsi:∀x,SI (D x)) (hin:∀x,∀y∈D x,0<=y/\y<(n:Int))
include hsi hin
theorem WY(d:Int):∀k,SI (itS D d k)
 |0=>hsi d|k+1=>QI D (WY d k)
theorem a3v(d:Int):∀k,∀x∈itS D d k,0<=x/\x<(n:Int)
 |0,x,hx=>hin d x hx|k+1,x,hx=>by
  rcases(CY D x _ _).1 hx with h|⟨y,_,h⟩
  .exact a3v d k x h
  .exact hin y x h
theorem a0n(d:Int)(k:Nat):Fj D (itS D d k)=itS D d k\/(itS D d k).length<(Fj D (itS D d k)).length:=by
 rcases VS (WY hsi hin d k) (QI D (WY hsi hin d k)) (λx hx=>(CY D x _ _).2 (.inl hx))with h|h
 .exact .inl h.symm
 .exact .inr h
theorem TT(d:Int):∀k,Fj D (itS D d k)=itS D d k\/k<(Fj D (itS D d k)).length
 |0=>by
  rcases a0n hsi hin d 0 with h|h
  .exact .inl h
  .exact .inr l7
 |k+1=>by
  rcases TT d k with h|h
  .exact .inl (by show Fj D (Fj D (itS D d k))=Fj D (itS D d k);rw[h,h])
  .rcases a0n hsi hin d (k+1)with h2|h2
   .exact .inl h2
   .exact .inr (by have:(itS D d (k+1)).length=(Fj D (itS D d k)).length:=rfl;omega)
theorem a9E(d:Int):Rch D d (itS D d n):=by
 have hst:Fj D (itS D d n)=itS D d n:=by
  rcases TT hsi hin d n with h|h
  .exact h
  .have:=ZV n (QI D (WY hsi hin d n)) (a3v hsi hin d (n+1));omega
 refine⟨WY hsi hin d n,?_,?_,?_⟩
 .intro x hx;have:∀k,x∈itS D d k:=by
   intro k;induction k with
   |zero=>exact hx|succ k ih=>exact(CY D x _ _).2 (.inl ih)
  exact this n
 .intro x hx y hy;rw[←hst];exact(CY D y _ _).2 (.inr ⟨x,hx,hy⟩)
 .intro C h1 h2;have:∀k,∀x∈itS D d k,C x:=by
   intro k;induction k with
   |zero=>exact h1|succ k ih=>
    intro x hx;rcases(CY D x _ _).1 hx with h|⟨y,hy,h⟩
    .exact ih x h
    .exact h2 y (ih y hy) x h
  exact this n
end
def RS(s:O0)(d:Int):List Int:=itS (zx s) d s.2.2.2.1.length
theorem Uu(s:O0)(d:Int):Rch (zx s) d (RS s d):=
 a9E (n:=s.2.2.2.1.length) (LD s) (λx y hy=>LC hy) d
theorem a5U(h:x∈RS s d):0<=x/\x<nD s:=a3v (n:=s.2.2.2.1.length) (LD s) (λx y hy=>LC hy) d _ x h
theorem Zh(h:SmS s){l:List Int}(hs:SI l)(hi:∀x∈l,0<=x/\x<nD s):l.length<=14:=jJ (ZV s.2.2.2.1.length hs hi) h.nd
def mk(S:List Bool)(x:Int):Bool:=if 0<=x then S.getD x.toNat false else false
def unm(S:List Bool):Nat:=S.count false
def rG(b:List Bool×List Int)(e:Int):List Bool×List Int:=l9 (mk b.1 e) b (b.1.set e.toNat true,b.2++[e])
variable {S:List Bool}
theorem a3I(h0:0<=x)(h1:x<x9 S):S[x.toNat]? =some (mk S x):=by
 unfold mk;rw[if_pos h0,Oi];have:x.toNat<S.length:=by simp only[x9]at h1;omega
 rw[lG this];rfl
theorem a3J{e:Int}(h0:0<=e)(h1:e<x9 S)(x:Int):mk (S.set e.toNat true) x=l9 (D5 x e) true (mk S x):=by
 unfold mk;have hl:e.toNat<S.length:=by simp only[x9]at h1;omega
 by_cases hx:0<=x
 .rw[if_pos hx,if_pos hx,Oi,Oi,Y9];by_cases hq:x=e
  .subst hq;rw[if_pos rfl,if_pos hl,J4 rfl];rfl
  .rw[if_neg l7,I9 hq];rfl
 .rw[if_neg hx,if_neg hx,I9 l7];rfl
theorem a7Q{e:Int}(h0:0<=e)(h1:e<x9 S)(hm:mk S e=false):unm (S.set e.toNat true)+1=unm S:=by
 have hl:e.toNat<S.length:=by simp only[x9]at h1;omega
 have hg:=a3I h0 h1;rw[hm,lG hl]at hg;have hg' :S[e.toNat]=false:=qy hg;unfold unm;rw[List.count_set hl,hg'];have:0<S.count false:=List.count_pos_iff.2 (by rw[←hg'];exact X6 hl);simp;omega
structure RInv (n:Nat) (S:List Bool) (Q:List Int) (l:List Int) (S' :List Bool) (Q' :List Int):Prop where
 len:S'.length=n
 seen:∀x:Int,0<=x->x<(n:Int)->(mk S' x=true↔mk S x=true\/x∈l)
 sum:Q'.length+unm S' =Q.length+unm S
 le:unm S' <=unm S
 old:∀x∈Q,x∈Q'
 new:∀x∈Q',x∈Q\/x∈l
 got:∀x,mk S' x=true->mk S x=true\/x∈Q'
theorem a4E{n:Nat} :∀(l:List Int) (S:List Bool) (Q:List Int),S.length=n->(∀x∈l,0<=x/\x<(n:Int))->RInv n S Q l (l.foldl rG (S,Q)).1 (l.foldl rG (S,Q)).2
 |[],S,Q,hl,_=>⟨hl,λx _ _=>by simp,rfl,C9 _,λx hx=>hx,λx hx=> .inl hx,λx hx=> .inl hx⟩|e::l,S,Q,hl,hi=>by
  have he:=hi e A7;have hel:e<x9 S:=by simp only[x9];omega
  rw[dE];cases hm:mk S e with
  |true=>
   rw[show rG (S,Q) e=(S,Q) by unfold rG;rw[hm];rfl];have ih:=a4E l S Q hl λx hx=>hi x (by simp[hx]);refine⟨ih.len,λx h0 h1=>?_,ih.sum,ih.le,ih.old,λx hx=>?_,ih.got⟩
   .rw[ih.seen x h0 h1,D6];constructor
    .rintro(h|h)
     .exact .inl h
     .exact .inr (.inr h)
    .rintro(h|h|h)
     .exact .inl h
     .subst h;exact .inl hm
     .exact .inr h
   .rcases ih.new x hx with h|h
    .exact .inl h
    .exact .inr (by simp[h])
  |false=>
   rw[show rG (S,Q) e=(S.set e.toNat true,Q++[e]) by unfold rG;rw[hm];rfl];have ih:=a4E l (S.set e.toNat true) (Q++[e]) (by simp[hl]) λx hx=>hi x (by simp[hx]);have hu:=a7Q he.1 hel hm;refine⟨ih.len,λx h0 h1=>?_,?_,?_,λx hx=>ih.old x (by simp[hx]),λx hx=>?_,λx hx=>?_⟩
   .rw[ih.seen x h0 h1,a3J he.1 hel,D6];cases hq:D5 x e
    .rw[xq]at hq;simp[hq]
    .rw[dO]at hq;simp[hq]
   .have:=ih.sum;simp only[E8,D9,H6]at this;omega
   .have:=ih.le;omega
   .rcases ih.new x hx with h|h
    .rcases I4.1 h with h|h
     .exact .inl h
     .exact .inr (by simp at h;simp[h])
    .exact .inr (by simp[h])
   .rcases ih.got x hx with h|h
    .rw[a3J he.1 hel]at h;cases hq:D5 x e
     .rw[hq]at h;exact .inl h
     .rw[dO]at hq;subst hq;exact .inr (ih.old _ A7)
    .exact .inr h
def NC(S:List Bool):List Int:=((List.range S.length).filter λi=>S.getD i false).map λ(i:Nat)=>(i:Int)
theorem GN(x:Int):x∈NC S↔mk S x=true:=by
 unfold NC mk;rw[aH];constructor
 .rintro⟨i,hi,rfl⟩;rw[if_pos l7];exact(qx.1 hi).2
 .intro h;split at h
  .refine⟨x.toNat,qx.2 ⟨ed.2 ?_,h⟩,l7⟩;rw[Oi]at h;cases hg:S[x.toNat]? with
   |none=>rw[hg]at h;cases h|some b=>exact(aO.1 hg).1
  .cases h
theorem a3G(S:List Bool):SI (NC S):=by unfold NC;refine List.Pairwise.map _ (R:=(·< ·)) (λa b h=>by omega) (List.Pairwise.filter _ List.pairwise_lt_range)
theorem Zl{f:List Int×Int->Option ((List Int×Int)⊕List Int)}(S:List Bool)(hS:S.length<=100)
  (hin:∀(i:Nat) (a:Bool) (acc:List Int),S[i]? =some a->i<=1000000->acc.length<=i->f (acc,(i:Int))=l9 a (o6 (jV acc [(i:Int)]) λx=>some (.inl (x,I5 .i64 (i:Int) 1))) (some (.inl (acc,I5 .i64 (i:Int) 1))))
  (hend:∀acc,f (acc,(S.length:Int))=some (.inr acc)):lT f ([],0)=some (NC S):=by
 have mk2:∀i,i<=S.length->((List.range i).filter λi=>S.getD i false).length<=i:=λi _=>by have:=gB (λi=>S.getD i false) (List.range i);simpa using this
 obtain⟨e,h1,h2⟩:=qO (f:=f) (s:=([],0)) (λx=>∃i:Nat,x=(((List.range i).filter λi=>S.getD i false).map λ(i:Nat)=>(i:Int),(i:Int))/\i<=S.length) (λe=>e=NC S) (λx=>S.length -x.2.toNat) ⟨0,rfl,l7⟩ F9 (by
  rintro x ⟨i,rfl,hi⟩;by_cases h:i<S.length
  .have e:=lG h;have hst:(List.range (i+1)).filter (λi=>S.getD i false)=(List.range i).filter (λi=>S.getD i false)++l9 S[i] [i] []:=by
    rw[jd,List.filter_append];congr 1;rw[lQ,Oi,e];cases S[i]<;>rfl
   have hl:=mk2 i hi;refine .inl ⟨(((List.range (i+1)).filter λi=>S.getD i false).map λ(i:Nat)=>(i:Int),((i+1:Nat):Int)),?_,⟨i+1,rfl,h⟩,by simp;omega⟩;rw[hin i _ _ e l7 (by simpa using hl),Z8 l7,hst,gY,nJ _ (by rw[O7];omega)];cases S[i]
   .simp
   .rfl
  .have:i=S.length:=l7;subst this;exact .inr ⟨_,hend _,rfl⟩)
 rw[h1,h2]
theorem ZB{D:Int->List Int}{n:Nat}(hn:n<=14)(hsi:∀x,SI (D x))(hin:∀x,∀y∈D x,0<=y/\y<(n:Int))(h0:0<=d)(h1:d<(n:Int)):
  ∃L,zu ((List.range n).map λ(x:Nat)=>D (x:Int)) d=some L/\Rch D d L:=by
 have hA:x9 ((List.range n).map λ(x:Nat)=>D (x:Int))=(n:Int):=by simp[x9]
 have hget:∀x:Int,0<=x->x<n->X0 ((List.range n).map λ(x:Nat)=>D (x:Int)) x=some (D x):=λx a b=>by
  have:x.toNat<n:=l7;unfold X0
  rw[if_pos a,Vl n _ this,N7 a]
 unfold zu;generalize (List.range n).map (λ(x:Nat)=>D (x:Int))=A at*;rw[hA,show Ja (n:Int) false=some (List.replicate n false) by unfold Ja;rw[if_pos l7];simp,o9];have hD14:∀x,(D x).length<=14:=λx=>jJ (ZV n (hsi x) (hin x)) hn;have key:=qO (f:=λ(x:List Bool×List Int)=>l9 (I8 0 (x9 x.2)) (o6 (X0 x.2 0) λ(x_1:Int)=>o6 (qN x.2 (jC 0)) λ(x_2:Int)=>l9 (mJ 1 (x9 x.2) (x9 x.2)) (o6 (X0 A x_2) λ(x_3:List Int)=>
   o6 (lT (λ(x:List Bool×List Int×Int)=>l9 (I8 x.2.2 (x9 x_3)) (o6 (X0 x_3 x.2.2) λ(x_4:Int)=>o6 (X0 x.1 x_4) λ(x_5:Bool)=>o6 (qN x.1 (jC x_4)) λ(x_6:Bool)=>
     l9 (H9 x_6) (o6 (X0 x.1 x_4) λ(x_7:Bool)=>o6 (qN x.1 (jC x_4)) λ(x_8:Bool)=>o6 (jV x.2.1 [x_4]) λ(x_9:List Int)=>some (.inl (wI x.1 (jC x_4) true,x_9,I5 .i64 x.2.2 1)))
      (some (.inl (x.1,x.2.1,I5 .i64 x.2.2 1)))) (some (.inr (x.1,x.2.1)))) (x.1,kN x.2 (jC 1) (jC (x9 x.2)),0)) λ(y:List Bool×List Int)=>some (.inl y)) none) (some (.inr x.1)))
  (s:=(List.replicate n false,[d]))
  (λx=>x.1.length=n/\(∀q∈x.2,0<=q/\q<(n:Int))/\x.2.length+unm x.1<=n+1/\(∀q∈x.2,q=d\/mk x.1 q=true)/\(∀v,v=d\/mk x.1 v=true->v∈x.2\/∀y∈D v,mk x.1 y=true)/\
   (∀C:Int->Prop,(∀x∈D d,C x)->(∀x,C x->∀y∈D x,C y)->∀v,mk x.1 v=true->C v)/\(∀v,mk x.1 v=true->0<=v/\v<(n:Int)))
  (λS=>S.length=n/\Rch D d (NC S)) (λx=>2*unm x.1+x.2.length) ?_ ?_ ?_
 .obtain⟨S,k1,k2,k3⟩:=key;refine⟨NC S,?_,k3⟩;refine(Xr k1 _).trans ?_;rw[aB];refine Zl S l7 (λi a acc ha hi hacc=>?_) (λacc=>?_)
  .simp only[V8 ha,o7,V4,ha,o9];rw[show qN S (jC (i:Int))=some a from ha,o9]
  .simp only[aG];rfl
 .have hnone:∀v,mk (List.replicate n false) v=false:=λv=>by
   unfold mk;split
   .rw[Oi,List.getElem?_replicate];split<;>rfl
   .rfl
  refine⟨A7,λq hq=>by simp at hq;omega,?_,λq hq=> .inl (by simpa using hq),λv hv=>?_,λC _ _ v hv=>(by rw[hnone]at hv;cases hv),λv hv=>(by rw[hnone]at hv;cases hv)⟩
  .simp[unm,List.count_replicate];omega
  .rcases hv with rfl|hv
   .exact .inl A7
   .rw[hnone]at hv;cases hv
 .simp[unm,List.count_replicate];omega
 .rintro⟨S,Q⟩ ⟨i1,i2,i3,i4,i5,i6,i7⟩;simp only at i1 i2 i3 i4 i5 i6 i7;cases Q with
  |nil=>
   right;refine⟨S,rfl,i1,a3G S,λx hx=>?_,λx hx y hy=>?_,λC c1 c2 x hx=>i6 C c1 c2 x ((GN x).1 hx)⟩
   .rcases i5 d (.inl rfl)with h|h
    .cases h
    .exact(GN x).2 (h x hx)
   .rcases i5 x (.inr ((GN x).1 hx))with h|h
    .cases h
    .exact(GN y).2 (h y hy)
  |cons q Q=>
   left;have hq:=i2 q A7;have hfold:=a4E (n:=n) (D q) S Q i1 (λx hx=>hin q x hx);refine⟨(D q).foldl rG (S,Q),?_,?_,?_⟩
   .simp only[Y0 (show(0:Int)<x9 (q::Q) by simp[x9]<;>omega),o7,show X0 (q::Q) 0=some q from rfl,show qN (q::Q) (jC 0)=some q from rfl,o9,hget q hq.1 hq.2,
     show mJ 1 (x9 (q::Q)) (x9 (q::Q))=true by simp[mJ,x9]<;>omega,show kN (q::Q) (jC 1) (jC (x9 (q::Q)))=Q by simp[kN,jC,x9]]
    refine Am (D q) rG (λb i=>(b.1,b.2,i)) (λb=>b) (λi b=>b.1.length=n/\b.2.length<=100+i) (S,Q) (by have:=hD14 q;omega) ⟨i1,by simp at i3;show Q.length<=100+0;omega⟩ (λi e b he hi hI=>?_) (λb hI=>?_) (λh2=>rfl)
    .obtain⟨S1,Q1⟩:=b;simp only at hI;have hee:=hin q e (yw he);have hlt:=(aO.1 he).1;have hdl:=hD14 q;have hg:=a3I (S:=S1) hee.1 (by simp only[x9];omega);have hla:X0 S1 e=some (mk S1 e):=by unfold X0;rw[if_pos hee.1];exact hg
     have hlg:qN S1 (jC e)=some (mk S1 e):=hg;simp only[V8 he,o7,V4 (D q),he,o9,hla,hlg];rw[Z8 l7,nJ _ l7];unfold rG;simp only;cases mk S1 e
     .exact⟨rfl,by simp[hI.1],by simp<;>omega⟩
     .exact⟨rfl,hI.1,by show Q1.length<=_;omega⟩
    .simp only[aG];rfl
   .obtain⟨j1,j2,j3,j4,j5,j6,j7⟩:=hfold;generalize (D q).foldl rG (S,Q)=b at*;obtain⟨S',Q'⟩:=b;simp only at j1 j2 j3 j4 j5 j6 j7 ⊢;have hrange:∀v,mk S' v=true->0<=v/\v<(n:Int):=λv hv=>by
     rcases j7 v hv with h|h
     .exact i7 v h
     .rcases j6 v h with h|h
      .exact i2 v (by simp[h])
      .exact hin q v h
    refine⟨j1,λx hx=>?_,?_,λx hx=>?_,λv hv=>?_,λC c1 c2 v hv=>?_,hrange⟩
    .rcases j6 x hx with h|h
     .exact i2 x (by simp[h])
     .exact hin q x h
    .simp only[D9]at i3;omega
    .rcases j6 x hx with h|h
     .rcases i4 x (by simp[h])with h2|h2
      .exact .inl h2
      .have hr:=i7 x h2;exact .inr ((j2 x hr.1 hr.2).2 (.inl h2))
     .have hr:=hin q x h;exact .inr ((j2 x hr.1 hr.2).2 (.inr h))
    .have up:∀y,mk S y=true->mk S' y=true:=λy hy=>by
      have hr:=i7 y hy;exact(j2 y hr.1 hr.2).2 (.inl hy)
     by_cases hvq:v=q
     .subst hvq;right;intro y hy;have hr:=hin v y hy;exact(j2 y hr.1 hr.2).2 (.inr hy)
     .by_cases hold:v=d\/mk S v=true
      .rcases i5 v hold with h|h
       .rcases D6.1 h with h|h
        .exact absurd h hvq
        .exact .inl (j5 v h)
       .exact .inr λy hy=>up y (h y hy)
      .rcases hv with h|h
       .exact absurd (.inl h) hold
       .rcases j7 v h with h2|h2
        .exact absurd (.inr h2) hold
        .exact .inl h2
    .by_cases hS:mk S v=true
     .exact i6 C c1 c2 v hS
     .have hr:=hrange v hv;rcases(j2 v hr.1 hr.2).1 hv with h|h
      .exact absurd h hS
      .rcases i4 q A7 with h2|h2
       .subst h2;exact c1 v h
       .exact c2 q (i6 C c1 c2 q h2) v h
   .have:=hfold.sum;have:=hfold.le;simp only[D9];omega
theorem Ti(h:SmS s)(h0:0<=d)(h1:d<nD s):vY s d=some (RS s d):=by have hn:nD s=((s.2.2.2.1.length:Nat):Int):=rfl;unfold vY;change l9 (I8 d 0) _ (l9 (V6 (nD s) d) _ _)=_;rw[O6 h0,o5,bG h1,o5,UF h,o9,aB];obtain⟨L,k1,k2⟩:=ZB (D:=zx s) h.nd (LD s) (λx y hy=>LC hy) h0 (show d<((s.2.2.2.1.length:Nat):Int) by omega);rw[k1,Rch.unique k2 (Uu s d)]
structure SmL (l:gV):Prop where
 few:Few l
 en:z_ l
 tb:Wn l
 sc:∀s∈l.2.2,SmS s
variable {l:gV}
theorem SmL.scopes(h:SmL l):Wl l:=λs hs=>by have hm:=h.sc s hs;exact⟨hm.nm,by have:=hm.ni;omega,by have:=hm.nd;omega,by have:=hm.nr;omega⟩
theorem GG{ε ρ:Type}{p:Nat->Option ρ}(n:Nat)(hn:n<=1000000)(e:ε){f:Int->Option (Out Int ε ρ)}
  (h1:∀i,i<n->f (i:Int)=some (match p i with|some r=> .rt r|none=> .nx (I5 .i64 (i:Int) 1))) (h2:f (n:Int)=some (.ex e)):
  P8 f 0=some (match iH n p with|some r=> .inr r|none=> .inl e):=
 Fe n l7 e (λi hi=>by rw[h1 i hi,Z8 l7]<;>cases p i<;>rfl) h2
def Rt(l:gV)(s:O0)(k:Nat):Option (Int×Int):=match s.2.2.2.2[k]? with|some r=>PZ (Ru s (a2r l s) k r) (300+k:Nat)|none=>none
def a6n(s:O0)(d:Nat):Option (Int×Int):=l9 ((RS s d).any λx=>D5 (d:Int) x) (some (9,((200+d:Nat):Int))) none
def MB(l:gV)(i:Nat)(m:Int):Bool:=l9 (D5 m (-1)) false (l9 (I8 m 0) true (l9 (V6 (i:Int) m) true (match X0 l.2.2 m with|some q=>H9 (D5 q.2.1 (-1))|none=>true)))
def QQ(l:gV)(s:O0):Int×Int:=match Dx l s with
 |some r=>r
 |none=>match iH s.2.2.2.2.length (Rt l s)with
  |some r=>r
  |none=>match iH s.2.2.2.1.length (a6n s)with
   |some r=>r|none=>(0,0)
def Ea(l:gV)(i:Nat)(s:O0):Int×Int:=
 l9 (lL s.1) (l9 (FY l 3 i s.1) (7,0) (l9 (MB l i s.2.1) (6,0) (l9 (I8 12 (x9 s.2.2.1)) (4,112) (l9 (I8 12 (x9 s.2.2.2.1)) (4,212) (QQ l s))))) (2,0)
theorem Sz(hL:SmL l){i:Nat}(hs:l.2.2[i]? =some s):xy l (i:Int)=some (Ea l i s):=by
 have hi:=(aO.1 hs).1;have hS:=hL.sc s (yw hs);have hf:=hL.few;have hf1:=hf.1;have hf2:=hf.2.1;have hf3:=hf.2.2;have n1:=hS.ni;have n2:=hS.nd;have n3:=hS.nr;unfold xy Ea FY;rw[V4,hs,o9,wQ l7,o9,IR _ l7,o9,Nu _ l7,o9,WU _ F9,o9];have hb:(l9 (l.1.any λx=>seq x.1 s.1) (some (s,true)) (l9 (l.2.1.any λx=>seq x.1 s.1) (some (s,true)) (some (s,(l.2.2.take i).any λx=>seq x.1 s.1))))=
   some (s,(l.1.any λx=>seq x.1 s.1) || (l.2.1.any λx=>seq x.1 s.1) || (l.2.2.take i).any λx=>seq x.1 s.1):=by
  cases l.1.any λx=>seq x.1 s.1
  .cases l.2.1.any λx=>seq x.1 s.1<;>rfl
  .rfl
 rw[hb,o9];simp only;rw[jY hS.nm,o9];cases lL s.1
 .rfl
 simp only[F5,o5,o7];cases (l.1.any λx=>seq x.1 s.1) || (l.2.1.any λx=>seq x.1 s.1) || (l.2.2.take i).any λx=>seq x.1 s.1
 case true=>rfl
 simp only[o5];have hm:(l9 (H9 (D5 s.2.1 (-1))) (l9 (I8 s.2.1 0) (some true) (l9 (V6 (i:Int) s.2.1) (some true) (o6 (X0 (l.2.2.take i) s.2.1) λ(x:O0)=>some (H9 (D5 x.2.1 (-1)))))) (some false))=some (MB l i s.2.1):=by
  unfold MB;cases D5 s.2.1 (-1)
  case true=>rfl
  simp only[P7,o7,o5];cases h0:I8 s.2.1 0
  case true=>rfl
  cases h1:V6 (i:Int) s.2.1
  case true=>rfl
  rw[rY]at h0;rw[Vf]at h1;obtain⟨q,hq,_⟩:=ug (l:=l.2.2.take i) h0 (by simp only[x9,gp];omega);have hq2:X0 l.2.2 s.2.1=some q:=by have:=(iQ hq).2.2.2;unfold X0;rw[if_pos h0];exact(Yl this).2
  rw[hq,hq2];rfl
 rw[hm,o9];cases MB l i s.2.1
 case true=>rfl
 simp only[o5];cases I8 12 (x9 s.2.2.1)
 case true=>rfl
 cases I8 12 (x9 s.2.2.2.1)
 case true=>rfl
 simp only[o5,o9,J7];unfold QQ Dx;refine J3 (GG (p:=inP l s) s.2.2.1.length l7 PUnit.unit (λk hk=>?_) ?_) ?_
 rotate_left 2
 .cases iH s.2.2.1.length (inP l s)
  case some r=>rfl
  simp only[o9,J7];refine J3 (GG (p:=a1w l s) s.2.2.2.1.length l7 PUnit.unit (λk hk=>?_) ?_) ?_
  rotate_left 2
  .cases iH s.2.2.2.1.length (a1w l s)
   case some r=>rfl
   simp only[o9,J7];rw[Jm hL.scopes hs,o9];refine J3 (GG (p:=Rt l s) s.2.2.2.2.length l7 PUnit.unit (λk hk=>?_) ?_) ?_
   rotate_left 2
   .cases iH s.2.2.2.2.length (Rt l s)
    case some r=>rfl
    simp only[o9,J7];refine J3 (GG (p:=a6n s) s.2.2.2.1.length l7 PUnit.unit (λk hk=>?_) ?_) ?_
    rotate_left 2
    .cases iH s.2.2.2.1.length (a6n s)<;>rfl
    .have e:=lG hk;simp only[V8 e,o7];rw[Ti hS l7 (by show(k:Int)<x9 s.2.2.2.1;simp only[x9];omega),o9,a1A _ (by
      have:=Zh hS (Uu s (k:Int)).1 (λx hx=>a5U hx);omega),o9,show(200:Int)=((200:Nat):Int)from rfl,a0e l7 l7]
     unfold a6n;cases (RS s (k:Int)).any λx=>D5 (k:Int) x<;>rfl
    .rw[aG];rfl
   .have e:=lG hk;have hr:=(hS.ro _ (X6 hk)).1;simp only[V8 e,o7];rw[UI _ e l7 hr,o9,show(300:Int)=((300:Nat):Int)from rfl,a0e l7 l7];simp only[Rt,e,PZ];cases D5 (Ru s (a2r l s) k s.2.2.2.2[k]) 0<;>rfl
   .rw[aG];rfl
  .have e:=lG hk;have hm:=hS.fo.2 _ (X6 hk);simp only[V8 e,o7,V4,e,o9];rw[wQ l7,o9,Ic hm l7 F9,o9,show(200:Int)=((200:Nat):Int)from rfl,a0e l7 l7];simp only[a1w,e,PZ];cases D5 (ES l.1 s.2.2.2.1[k] s.2.2.1 (s.2.2.2.1.take k)) 0<;>rfl
  .rw[aG];rfl
 .have e:=lG hk;have hm:=hS.fo.1 _ (X6 hk);simp only[V8 e,o7,V4,e,o9];rw[wQ l7,o9,Ic hm F9 A7,o9,show(100:Int)=((100:Nat):Int)from rfl,a0e l7 l7];simp only[inP,e,PZ];cases D5 (ES l.1 s.2.2.1[k] (s.2.2.1.take k) []) 0<;>rfl
 .rw[aG];rfl
theorem LK{c e:Int}{r:Int×Int}(h:PZ c e=some r):r.1≠0:=by
 unfold PZ at h;cases hc:D5 c 0<;>rw[hc]at h
 .cases h;exact xq.1 hc
 .cases h
theorem Np{r:Int×Int}(h:Dx l s=some r):r.1≠0:=by
 unfold Dx at h;split at h
 .rename_i q hq;cases h;obtain⟨k,_,hk⟩:=qp hq;unfold inP at hk;split at hk
  .exact LK hk
  .cases hk
 .obtain⟨k,_,hk⟩:=qp h;unfold a1w at hk;split at hk
  .exact LK hk
  .cases hk
def DZ(l:gV)(i:Nat):Option (Int×Int×Int×Int):=match l.2.2[i]? with|some s=>LM 3 i (Ea l i s)|none=>none
def KT(l:gV):Int×Int×Int×Int:=l9 (I8 4 (x9 l.2.2)) (4,3,4,0) (match iH l.2.2.length (DZ l)with|some r=>r|none=>(0,0,0,0))
def pY(l:gV):Int×Int×Int×Int:=l9 (D5 (BX l).1 0) (l9 (D5 (zH l).1 0) (KT l) (zH l)) (BX l)
theorem PK(hL:SmL l):wu l=some (KT l):=by
 have hf:=hL.few.2.2;unfold wu KT;cases I8 4 (x9 l.2.2)
 case true=>rfl
 simp only[o5];refine J3 (ET (p:=DZ l) l.2.2.length l7 _ (0,0,0,0) (λi hi=>?_) ?_) ?_
 rotate_left 2
 .cases iH l.2.2.length (DZ l)<;>rfl
 .have e:=lG hi;simp only[V8 e,o7,Sz hL e,o9,DZ,e,LM];cases D5 (Ea l i l.2.2[i]).1 0<;>rfl
 .rw[aG];rfl
theorem Gg(hL:SmL l):xw l=some (pY l):=by
 unfold xw pY;rw[Sv hL.few hL.en,o9];cases D5 (BX l).1 0
 .rfl
 simp only[F5,o5,o7];rw[PL hL.few hL.tb,o9];cases D5 (zH l).1 0
 .rfl
 simp only[F5,o5,o7];rw[PK hL];rfl
theorem TG{k i:Int}{c:Int×Int}{r:Int×Int×Int×Int}(h:LM k i c=some r):r.1≠0:=by
 unfold LM at h;cases hc:D5 c.1 0<;>rw[hc]at h
 .cases h;exact xq.1 hc
 .cases h
theorem xm{ρ:Type}{n:Nat}{p:Nat->Option ρ}(h:iH n p=none):∀i,i<n->p i=none:=by unfold iH at h;intro i hi;exact List.findSome?_eq_none_iff.1 h i (ed.2 hi)
def hw(W:List Int)(d:Int):Int:=W.getD d.toNat 0
end Go.GP
namespace Gt
open Go Go.GP
def il(y:Int):Bool:=if y % 4=0 then(if y % 100≠0 then true else decide (y % 400=0))else false
def ys(y:Int):Int:=(y -1900)*365+((y -1) / 4 -(y -1) / 100+(y -1) / 400) -460
def diy(y:Int):Int:=if il y then 366 else 365
theorem BM(y:Int):ys (y+1)=ys y+diy y:=by unfold ys diy il;by_cases h4:y % 4=0<;>by_cases h100:y % 100=0<;>by_cases h400:y % 400=0<;>simp[h4,h100,h400]<;>omega
theorem a6E(a b:Int):a<b\/b<=a:=l7
theorem PT(y:Int):365<=diy y/\diy y<=366:=by unfold diy;split<;>omega
theorem yQ{y y' :Int}(h:y<=y'):ys y<=ys y' :=by
 obtain⟨n,rfl⟩:∃n:Nat,y' =y+n:=⟨(y' -y).toNat,l7⟩;clear h;induction n with
 |zero=>simp|succ n ih=>have:=BM (y+n);have:=PT (y+n);have e:y+((n+1:Nat):Int)=y+n+1:=l7;rw[e];omega
variable {y:Int}
theorem Hr(h:1900<=y):0<=ys y:=by
 have:=yQ h;have e:ys 1900=0:=by decide+kernel
 omega
theorem a2B{y y' d:Int}(h1:ys y<=d)(h2:d<ys (y+1))(h3:ys y' <=d)(h4:d<ys (y' +1)):y=y' :=by
 rcases Int.lt_trichotomy y y' with h|h|h
 .have:=yQ (y:=y+1) (y' :=y') l7;omega
 .exact h
 .have:=yQ (y:=y' +1) (y' :=y) l7;omega
def dim(y m:Int):Int:=
 if m=2 then(if il y then 29 else 28)else if m=4\/m=6\/m=9\/m=11 then 30 else 31
theorem EQ(y m:Int):28<=dim y m/\dim y m<=31:=by
 unfold dim;repeat' split
 all_goals omega
theorem EL(h:0<=y):Be y=some (il y):=by
 unfold Be il;simp only[yU h];by_cases h4:y % 4=0
 .rw[mM (J4 h4),if_pos h4];by_cases h100:y % 100=0
  .simp[D5,h100]
  .simp[D5,h100]
 .rw[nG (I9 h4),if_neg h4]
theorem Ep(h:0<=y):DT y=some (il y):=EL h
theorem Hw(h:0<=y):oU y=some (diy y):=by unfold oU diy;rw[Ep h,o9];cases il y<;>rfl
variable {m:Int}
theorem m12(h:1<=m/\m<=12):m=1\/m=2\/m=3\/m=4\/m=5\/m=6\/m=7\/m=8\/m=9\/m=10\/m=11\/m=12:=l7
theorem qR(h:0<=y)(hm:1<=m/\m<=12):kF y m=some (dim y m):=by
 unfold kF;rcases m12 hm with rfl|rfl|rfl|rfl|rfl|rfl|rfl|rfl|rfl|rfl|rfl|rfl
 all_goals first|rfl|(rw[EL h];unfold dim;cases il y<;>rfl)
theorem FB(h:0<=y)(hm:1<=m/\m<=12):nM y m=some (dim y m):=by
 unfold nM;rcases m12 hm with rfl|rfl|rfl|rfl|rfl|rfl|rfl|rfl|rfl|rfl|rfl|rfl
 all_goals first|rfl|(rw[Ep h];unfold dim;cases il y<;>rfl)
theorem Bf(h:0<=y)(h2:y<=1000000):uy y=some (y / 4 -y / 100+y / 400):=by unfold uy;simp only[dX,nz h];rw[tu af,tu af,tu af,fA af,aA af]
theorem xe(h:1<=y)(h2:y<=1000000):pg y=some (ys y):=by unfold pg;have e1:ae .i64 y 1900=y -1900:=fA af;have e2:JK .i64 (y -1900) 365=(y -1900)*365:=EY af;rw[fA (a:=y) (b:=1) af,Bf l7 l7,o9,Bf l7 l7,o9,e1,e2,aA af,fA af];unfold ys;congr 1
def mo(y:Int):Nat->Int->Int×Int
 |0,d=>(d,13)|n+1,d=>if d<dim y (12 -n)then(d,12 -n)else mo y n (d -dim y (12 -n))
theorem Vo(y:Int)(n:Nat)(d:Int):mo y (n+1) d=if d<dim y (12 -(n:Int))then(d,12 -(n:Int))else mo y n (d -dim y (12 -(n:Int))):=rfl
def rem(y:Int):Nat->Int
 |0=>0|n+1=>dim y (12 -n)+rem y n
theorem XJ(y:Int):rem y 12=diy y:=by unfold diy;cases h:il y<;>simp[rem,dim,h]
theorem a0u(y:Int):∀(n:Nat) (d:Int),n<=12->0<=d->d<rem y n->1<=(mo y n d).2/\(mo y n d).2<=12/\0<=(mo y n d).1/\(mo y n d).1<dim y (mo y n d).2
 |0,d,_,h0,h=>by simp[rem]at h;omega|n+1,d,hn,h0,h=>by
  unfold mo;by_cases hd:d<dim y (12 -n)
  .rw[if_pos hd];refine⟨?_,?_,h0,hd⟩<;>simp<;>omega
  .rw[if_neg hd];refine a0u y n _ l7 l7 ?_;simp only[rem]at h;omega
def yOf(d:Int):Int:=((((List.range 300).find? (λ(k:Nat)=>decide (d<ys (1900+(k:Int)+1)))).getD 0:Nat):Int)+1900
variable {d:Int}
theorem Gl(h0:0<=d)(h:d<=109572):1900<=yOf d/\yOf d<=2199/\ys (yOf d)<=d/\d<ys (yOf d+1):=by
 unfold yOf;cases hf:(List.range 300).find? (λ(k:Nat)=>decide (d<ys (1900+(k:Int)+1)))with
 |none=>
  have:=List.find?_eq_none.1 hf 299 A7;simp only[decide_eq_true_eq]at this;have e:ys (1900+(299:Nat)+1)=109573:=by decide+kernel
  omega
 |some k=>
  have h1:=List.find?_some hf;simp only[decide_eq_true_eq]at h1;have h2:=List.mem_of_find?_eq_some hf;simp only[ed]at h2;simp only[bF];refine⟨l7,l7,?_,?_⟩
  .cases k with
   |zero=>
    have e:ys 1900=0:=by decide+kernel
    simp[e,h0]
   |succ j=>have h3:=List.find?_range_eq_some.1 hf;have h4:=h3.2.2 j l7;simp only[aU,decide_eq_false_iff_not,sW]at h4;have e:(((j+1:Nat):Int)+1900)=1900+(j:Int)+1:=l7;rw[e];exact h4
  .have e:(k:Int)+1900+1=1900+k+1:=l7;rw[e];exact h1
def ymd(d:Int):Int×Int×Int:=let y:=yOf d;let r:=mo y 12 (d -ys y);(y,r.2,r.1+1)
theorem SC(h0:0<=d)(h:d<=109572):Dn d=some (ymd d):=by
 obtain⟨y1,y2,y3,y4⟩:=Gl h0 h;have y0:=Hr y1;unfold Dn Ac;rw[mM (X9 h0),o9,X9 h,F5,o5];have e0:I5 .i64 1900 (dX .i64 d 366)=1900+d / 366:=by
  have e:dX .i64 d 366=d / 366:=by rw[JL (by rw[nz h0];unfold fJ;omega),nz h0]
  rw[e,aA af]
 rw[e0];obtain⟨y,hy,hq⟩:=qO (f:=λ(x:Int)=>o6 (pg (I5 IntKind.i64 x 1)) λ(x_1:Int)=>l9 (V6 x_1 d) (some (Sum.inl (I5 IntKind.i64 x 1))) (some (Sum.inr x))) (s:=1900+d / 366)
  (λy=>1900<=y/\y<=yOf d) (λy=>y=yOf d) (λy=>(2200 -y).toNat) (by
   refine⟨l7,?_⟩;have e:∀n:Nat,ys (1900+n)<=366*n:=by
    intro n;induction n with
    |zero=>decide+kernel|succ n ih=>have:=BM (1900+n);have:=PT (1900+n);have e:(1900:Int)+((n+1:Nat):Int)=1900+n+1:=l7;rw[e];omega
   have e1:=e (d / 366).toNat
   have e2:((d / 366).toNat:Int)=d / 366:=l7;rw[e2]at e1;rcases a6E (yOf d) (1900+d / 366)with hlt|hge
   .have:=yQ (y:=yOf d+1) (y' :=1900+d / 366) l7;omega
   .exact hge) l7 (by
   intro y ⟨hy1,hy2⟩
   try simp only
   rw[aA af,xe l7 l7,o9];by_cases hle:ys (y+1)<=d
   .refine .inl ⟨y+1,by rw[mM (X9 hle)],⟨l7,?_⟩,l7⟩;rcases a6E (yOf d) (y+1)with hlt|hge
    .have:=yQ (y:=yOf d+1) (y' :=y+1) l7;omega
    .exact hge
   .refine .inr ⟨y,by rw[nG (bG l7)],?_⟩;rcases a6E y (yOf d)with hlt|hge
    .have:=yQ (y:=y+1) (y' :=yOf d) l7;omega
    .omega)
 rw[hy,o9,hq,xe l7 l7,o9,fA af];have hs:=BM (yOf d);have hr:=XJ (yOf d);rcases gJ (f:=λ(x:Int×Int)=>l9 (I8 x.2 12) (o6 (kF (yOf d) (I5 IntKind.i64 x.2 1)) λ(x_1:Int)=>l9 (I8 x.1 x_1) (some (Out.rt (yOf d,I5 IntKind.i64 x.2 1,I5 IntKind.i64 x.1 1))) (some (Out.nx (ae IntKind.i64 x.1 x_1,I5 IntKind.i64 x.2 1)))) (some (Out.ex PUnit.unit))) (s:=(d -ys (yOf d),0))
  (λs=>∃n:Nat,n<=12/\s.2=12 -n/\mo (yOf d) n s.1=mo (yOf d) 12 (d -ys (yOf d))/\0<=s.1/\s.1<rem (yOf d) n/\s.1<=400) (λ_=>False) (λr=>r=ymd d) (λs=>(12 -s.2).toNat)
  ⟨12,l7,A7,rfl,l7,by rw[hr];show d -ys (yOf d)<_;omega,by have:=PT (yOf d);show d -ys (yOf d)<=400;omega⟩ A7 (by
   rintro⟨r,i⟩ ⟨n,hn,hi,hm,hr0,hrn,hr4⟩;simp only at hi hm hr0 hrn hr4 ⊢;cases n with
   |zero=>simp[rem]at hrn;omega|succ n=>
    have ei:i+1=12 -n:=l7;rw[mM (Y0 l7),aA af,ei,qR l7 l7,o9];have hb:=EQ (yOf d) (12 -n);rw[Vo (yOf d) n r]at hm;by_cases hlt:r<dim (yOf d) (12 -n)
    .rw[if_pos hlt]at hm;refine .inr (.inr ⟨_,by rw[mM (Y0 hlt)],?_⟩);rw[aA af];unfold ymd
     try simp only
     rw[←hm]
    .rw[if_neg hlt]at hm;refine .inl ⟨_,by rw[nG (O6 l7),fA af],⟨n,l7,A7,hm,?_,?_,?_⟩,?_⟩
     .simp;omega
     .simp only[rem]at hrn ⊢;omega
     .simp;omega
     .simp;omega)with⟨_,_,hf⟩|⟨r,he,hr⟩
 .exact hf.elim
 .rw[he,o9,jg,hr]
theorem QW(h0:0<=d)(h:d<=109572):FC d=some (ymd d):=by
 obtain⟨y1,y2,y3,y4⟩:=Gl h0 h;have y0:=Hr y1;unfold FC Bz;rw[mM (X9 h0),o9,X9 h,F5,o5];obtain⟨⟨r,y⟩,hy,hq⟩:=qO (f:=λ(x:Int×Int)=>o6 (oU x.2) λ(x_1:Int)=>l9 (V6 x_1 x.1) (o6 (oU x.2) λ(x_2:Int)=>some (Sum.inl (ae IntKind.i64 x.1 x_2,I5 IntKind.i64 x.2 1))) (some (Sum.inr x))) (s:=(d,1900))
  (λs=>1900<=s.2/\s.2<=yOf d/\s.1=d -ys s.2) (λs=>s=(d -ys (yOf d),yOf d)) (λs=>(2200 -s.2).toNat)
  ⟨A7,by simpa using y1,by(have e:ys 1900=0:=by decide+kernel);simp[e]⟩ A7 (by
   rintro⟨r,y⟩ ⟨h1,h2,h3⟩;simp only at h1 h2 h3 ⊢;have hb:=PT y;have hs:=BM y;have hm:=yQ h2;have hpos:0<=ys y:=by
     have:=yQ (y:=1900) (y' :=y) h1;have e:ys 1900=0:=by decide+kernel
     omega
   rw[Hw l7,o9];by_cases hle:diy y<=r
   .refine .inl ⟨(r -diy y,y+1),?_,⟨by simp;omega,?_,?_⟩,?_⟩
    .rw[mM (X9 hle),o9,fA af,aA af]
    .simp only;rcases a6E (yOf d) (y+1)with hlt|hge
     .have:=yQ (y:=yOf d+1) (y' :=y+1) l7;omega
     .exact hge
    .simp only;omega
    .simp;omega
   .refine .inr ⟨_,by rw[nG (bG l7)],?_⟩;have e:y=yOf d:=a2B (d:=d) l7 l7 y3 y4;subst e;rw[h3])
 rw[hy,o9,hq]
 try simp only
 have hs:=BM (yOf d);have hr:=XJ (yOf d);obtain⟨⟨r,m⟩,he,hq2⟩:=qO (f:=λ(x:Int×Int)=>o6 (nM (yOf d) x.2) λ(x_1:Int)=>l9 (V6 x_1 x.1) (o6 (nM (yOf d) x.2) λ(x_2:Int)=>some (Sum.inl (ae IntKind.i64 x.1 x_2,I5 IntKind.i64 x.2 1))) (some (Sum.inr x))) (s:=(d -ys (yOf d),1))
  (λs=>∃n:Nat,n<=12/\s.2=13 -n/\mo (yOf d) n s.1=mo (yOf d) 12 (d -ys (yOf d))/\0<=s.1/\s.1<rem (yOf d) n/\s.1<=400) (λs=>s=mo (yOf d) 12 (d -ys (yOf d))) (λs=>(13 -s.2).toNat)
  ⟨12,l7,A7,rfl,l7,by rw[hr];show d -ys (yOf d)<_;omega,by have:=PT (yOf d);show d -ys (yOf d)<=400;omega⟩ A7 (by
   rintro⟨r,i⟩ ⟨n,hn,hi,hm,hr0,hrn,hr4⟩;simp only at hi hm hr0 hrn hr4 ⊢;cases n with
   |zero=>simp[rem]at hrn;omega|succ n=>
    have ei:i=12 -n:=l7;subst ei;rw[FB l7 l7,o9];have hb:=EQ (yOf d) (12 -n);rw[Vo (yOf d) n r]at hm;by_cases hlt:r<dim (yOf d) (12 -n)
    .rw[if_pos hlt]at hm;exact .inr ⟨_,by rw[nG (bG l7)],hm⟩
    .rw[if_neg hlt]at hm;refine .inl ⟨(r -dim (yOf d) (12 -n),12 -n+1),by rw[mM (X9 l7),o9,fA af,aA af],⟨n,l7,by simp;omega,hm,?_,?_,?_⟩,?_⟩
     .simp;omega
     .simp only[rem]at hrn ⊢;omega
     .simp;omega
     .simp;omega)
 rw[he,o9,hq2];have hb:=a0u (yOf d) 12 (d -ys (yOf d)) l7 l7 (by rw[hr];omega);have hb2:=EQ (yOf d) (mo (yOf d) 12 (d -ys (yOf d))).2;rw[aA af];rfl
theorem Si(h0:0<=d)(h:d<=109572):1900<=(ymd d).1/\(ymd d).1<=2199/\1<=(ymd d).2.1/\(ymd d).2.1<=12/\1<=(ymd d).2.2/\(ymd d).2.2<=31:=by
 obtain⟨y1,y2,y3,y4⟩:=Gl h0 h;have y0:=Hr y1;have hs:=BM (yOf d);have hb:=a0u (yOf d) 12 (d -ys (yOf d)) l7 l7 (by rw[XJ];omega);have hb2:=EQ (yOf d) (mo (yOf d) 12 (d -ys (yOf d))).2;unfold ymd
 try simp only
 omega
end Gt
namespace Go.GP
open Gt
set_option maxRecDepth 100000
def CW(y:Int):Nat->Int
 |0=>0|k+1=>CW y k+dim y ((k:Int)+1)
def b1U(y m d:Int):Int:=ys y+CW y (m -1).toNat+d -1
theorem OD(y:Int):∀k:Nat,k<=12->28*k<=CW y k/\CW y k<=31*k
 |0,_=>by simp[CW]|k+1,h=>by have:=OD y k l7;have:=EQ y ((k:Int)+1);unfold CW;omega
theorem a9k{y:Int}(h:1900<=y)(h2:y<=2200):0<=ys y/\ys y<=109573:=by
 have h1:=Hr h;have h3:=yQ h2;have:ys 2200=109573:=by decide
 omega
theorem Qg{y m d:Int}(hy:1900<=y/\y<=2199)(hm:1<=m/\m<=12)(h1:1<=d)(h2:d<=dim y m):mO y m d=some (b1U y m d,0):=by
 have hyb:=a9k hy.1 l7;have hdb:=EQ y m;unfold mO;rw[O6 hy.1,o5,O6 hy.2,o5,O6 hm.1,o5,O6 hm.2,o5,O6 h1,o5,qR l7 hm,o9,O6 h2,o5,o9,J7,xe l7 l7,o9];have hs:ae .i64 m 1=m -1:=fA af;obtain⟨e,k1,k2⟩:=qO (f:=λ(x:Int×Int)=>l9 (I8 x.2 (ae .i64 m 1)) (o6 (kF y (I5 .i64 x.2 1)) λ(x_1:Int)=>some (.inl (I5 .i64 x.1 x_1,I5 .i64 x.2 1))) (some (.inr x.1)))
  (s:=(ys y,0)) (λx=>∃i:Nat,x=(ys y+CW y i,(i:Int))/\(i:Int)<=m -1) (λe=>e=ys y+CW y (m -1).toNat) (λx=>(m -1 -x.2).toNat) ⟨0,by simp[CW],l7⟩ F9 (by
  rintro x ⟨i,rfl,hi⟩;simp only[hs];by_cases hlt:(i:Int)<m -1
  .have hb:=OD y i l7;have hd:=EQ y ((i:Int)+1);left;refine⟨(ys y+CW y (i+1),((i+1:Nat):Int)),?_,⟨i+1,rfl,l7⟩,by simp;omega⟩;rw[Y0 hlt,o7,Z8 l7,show(((i+1:Nat):Int))=(i:Int)+1 by omega,qR l7 l7,o9,aA af];simp only[CW];rw[Int.add_assoc]
  .right;have:i=(m -1).toNat:=l7;subst this;exact⟨_,by rw[O6 l7];rfl,rfl⟩)
 refine(Xr k1 _).trans ?_;have hb:=OD y (m -1).toNat l7;rw[k2,aA af,fA af];rfl
def q1(q:Int)(u:Bool):Int:=l9 u (q+1) q
def sg(q:Int)(neg:Bool):Int:=l9 neg (-q) q
def a7W(r:Ob):Prop:=fJ r.2.1/\fJ r.2.2.1/\fJ r.2.2.2
def a9l(t:nR):Prop:=t.2.2.2.length<=200/\∀r∈t.2.2.2,a7W r
abbrev V3:Type:=Int×Int×Int
theorem LV{α β ρ:Type}(G:β->α->β⊕ρ)(P:ρ->Prop)(hG:∀b a r,G b a= .inr r->P r):∀(l:List α) (b:β) (r:ρ),gX G l b= .inr r->P r
 |[],b,r,h=>by cases h|a::l,b,r,h=>by
  unfold gX at h;cases hg:G b a with
  |inr r' =>rw[hg]at h;simp only at h;cases h;exact hG _ _ _ hg|inl b' =>rw[hg]at h;exact LV G P hG l b' r h
theorem a9q:∀i:Fin 40,(arF ((i.1:Nat):Int)=0->i.1∈[1,2,3,4,5,6,7,8,9,35,36,37,38,39])/\(arF ((i.1:Nat):Int)=1->i.1∈[10,25,31,32,33,34])/\(arF ((i.1:Nat):Int)=2->i.1∈[11,12,13,14,15,16,17,18,19,20,21,22,23,24,27,28,29,30])/\(arF ((i.1:Nat):Int)=3->i.1=26):=by decide+kernel
variable {k:Int}
theorem b1K(h:k<1\/39<k):arF k=-1:=by
 unfold arF oN;rw[I9 (show k≠10 by omega),I9 (show k≠25 by omega),I9 (show k≠31 by omega),I9 (show k≠32 by omega),I9 (show k≠33 by omega),I9 (show k≠34 by omega),I9 (show k≠26 by omega)];rcases h with h|h
 .rw[bG (show k<1 by omega),bG (show k<35 by omega),bG (show k<11 by omega)];rfl
 .rw[X9 (show 1<=k by omega),bG (show 9<k by omega),X9 (show 35<=k by omega),bG (show 39<k by omega),X9 (show 11<=k by omega),bG (show 30<k by omega)];rfl
theorem b5O(h:arF k≠-1):∃i:Fin 40,k=((i.1:Nat):Int):=by
 by_cases g:1<=k/\k<=39
 .exact⟨⟨k.toNat,l7⟩,by simp;omega⟩
 .exact absurd (b1K l7) h
def XT.node:XT->Int×Int
 | .l0 n=>n| .l1 n _=>n| .l2 n _ _=>n| .l3 n _ _ _=>n
def rtI(t:XT)(o:Nat):Nat:=o+t.size -1
def At(e:List (Int×Int))(S:List Int)(t:XT)(o:Nat):Prop:=∃pre suf S1 S2,e=pre++t.post++suf/\S=S1++t.sts o++S2/\pre.length=o/\S1.length=o
variable {n:Nat}
theorem TV{σ ε:Type}{f:σ->Option (σ⊕ε)}{s s' :σ}(h:f s=some (.inl s')):vS f (n+1) s=vS f n s' :=by rw[vS,h]
theorem GL{σ ε:Type}{f:σ->Option (σ⊕ε)}{s:σ}{e:ε}(h:f s=some (.inr e)):vS f (n+1) s=some e:=by rw[vS,h]
abbrev VSt:Type:=V3×List V3×Int
structure VStep (ops:List Int) (ev:Int->Option (V3×Int)) (pad:List V3->List V3) (f:VSt->Option (Out VSt (V3×List V3) (V3×Int))):Prop where
 step:∀(l:List V3) (c:Int) (r:V3×Int),ops[l.length]? =some c->ev c=some r->f ((0,0,0),pad l,(l.length:Int))=some (l9 (D5 r.2 0) (.nx ((0,0,0),pad (l++[r.1]),((l.length+1:Nat):Int))) (.rt ((0,0,0),r.2)))
 stop:∀(l:List V3),l.length=ops.length->f ((0,0,0),pad l,(l.length:Int))=some (.ex ((0,0,0),l))
section
variable {ev:Int->Option (V3×Int)} {pad:List V3->List V3} {f:VSt->Option (Out VSt (V3×List V3) (V3×Int))}
theorem v0(h:VStep [] ev pad f):P8 f ((0,0,0),pad [],0)=some (.inl ((0,0,0),[])):=by obtain⟨k,hk⟩:∃k,au=k+1:=⟨au -1,by unfold au;omega⟩;unfold P8;rw[hk,dW,show f ((0,0,0),pad [],0)=some (.ex ((0,0,0),[]))from h.stop [] rfl]
theorem v1{c:Int}{r:V3×Int}(h:VStep [c] ev pad f)(h1:ev c=some r):P8 f ((0,0,0),pad [],0)=some (l9 (D5 r.2 0) (.inl ((0,0,0),[r.1])) (.inr ((0,0,0),r.2))):=by
 obtain⟨k,hk⟩:∃k,au=k+1+1:=⟨au -2,by unfold au;omega⟩;unfold P8;rw[hk,dW,show f ((0,0,0),pad [],0)=_ from h.step [] c r rfl h1];cases D5 r.2 0
 .rfl
 .simp only[o7];rw[dW,show f ((0,0,0),pad ([]++[r.1]),(([].length+1:Nat):Int))=_ from h.stop [r.1] rfl]
theorem v2{c d:Int}{r q:V3×Int}(h:VStep [c,d] ev pad f)(h1:ev c=some r)(h2:ev d=some q):P8 f ((0,0,0),pad [],0)=some (l9 (D5 r.2 0) (l9 (D5 q.2 0) (.inl ((0,0,0),[r.1,q.1])) (.inr ((0,0,0),q.2))) (.inr ((0,0,0),r.2))):=by
 obtain⟨k,hk⟩:∃k,au=k+1+1+1:=⟨au -3,by unfold au;omega⟩;unfold P8;rw[hk,dW,show f ((0,0,0),pad [],0)=_ from h.step [] c r rfl h1];cases D5 r.2 0
 .rfl
 .simp only[o7];rw[dW,show f ((0,0,0),pad ([]++[r.1]),(([].length+1:Nat):Int))=_ from h.step [r.1] d q rfl h2];cases D5 q.2 0
  .rfl
  .simp only[o7];rw[dW,show f ((0,0,0),pad ([r.1]++[q.1]),(([r.1].length+1:Nat):Int))=_ from h.stop [r.1,q.1] rfl]
end
theorem a9r(h:arF k=3):k=26:=by obtain⟨i,rfl⟩:=b5O (by rw[h];decide);rw[(a9q i).2.2.2 h];rfl
theorem a2O{e:List (Int×Int)}{t:XT}(h:oK e= .inr t):At e (t.sts 0) t 0/\e.length<=48/\e.length=t.size/\ae .i64 (x9 e) 1=(rtI t 0:Int):=by
 obtain⟨hp,h48⟩:=wX h;have hsz:e.length=t.size:=by rw[hp,XT.post_len]
 have hpos:=t.size_pos;refine⟨⟨[],[],[],[],by simp[←hp],A7,rfl,rfl⟩,h48,hsz,?_⟩;rw[fA (by unfold fJ x9;omega)];unfold x9 rtI;omega
variable {l:gV}{s:O0}{i:Nat}
theorem a5Y(h:(pY l).1=0)(hs:l.2.2[i]? =some s):(Ea l i s).1=0:=by
 unfold pY at h;cases h1:D5 (BX l).1 0<;>rw[h1]at h
 .simp only[o5]at h;rw[J4 h]at h1;cases h1
 cases h2:D5 (zH l).1 0<;>rw[h2]at h
 .simp only[o7,o5]at h;rw[J4 h]at h2;cases h2
 simp only[o7]at h;unfold KT at h;cases h3:I8 4 (x9 l.2.2)<;>rw[h3]at h
 case true=>exact absurd (show(4:Int)=0 from h) F6
 simp only[o5]at h;have hi:=(aO.1 hs).1;cases hf:iH l.2.2.length (DZ l)with
 |some r=>
  rw[hf]at h;simp only at h;obtain⟨j,hj,hp⟩:=qp hf;unfold DZ at hp;cases hq:l.2.2[j]? with
  |none=>rw[hq]at hp;cases hp|some q=>
   rw[hq]at hp;simp only at hp;unfold LM at hp;exact absurd h (by cases he:D5 (Ea l j q).1 0<;>rw[he]at hp<;>cases hp;simp only;intro h4;rw[J4 h4]at he;cases he)
 |none=>
  have hn:=xm hf i hi;unfold DZ at hn;rw[hs]at hn;simp only at hn;unfold LM at hn;cases he:D5 (Ea l i s).1 0<;>rw[he]at hn
  .cases hn
  exact dO.1 he
theorem Uw(h:(pY l).1=0)(hs:l.2.2[i]? =some s):MB l i s.2.1=false/\(QQ l s).1=0:=by
 have he:=a5Y h hs;unfold Ea at he;cases g1:lL s.1<;>rw[g1]at he
 .exact absurd (show(2:Int)=0 from he) F6
 cases g2:FY l 3 i s.1<;>rw[g2]at he
 case true=>exact absurd (show(7:Int)=0 from he) F6
 cases g3:MB l i s.2.1<;>rw[g3]at he
 case true=>exact absurd (show(6:Int)=0 from he) F6
 cases g4:I8 12 (x9 s.2.2.1)<;>rw[g4]at he
 case true=>exact absurd (show(4:Int)=0 from he) F6
 cases g5:I8 12 (x9 s.2.2.2.1)<;>rw[g5]at he
 case true=>exact absurd (show(4:Int)=0 from he) F6
 exact⟨rfl,he⟩
theorem df{α:Type}{l:List α}(h:I8 (n:Int) (x9 l)=false):l.length<=n:=by rw[rY]at h;unfold x9 at h;omega
def Il(r:kV):Bool:=l9 (I8 80 (x9 r.1)) true (l9 (I8 80 (x9 r.2.2.2.2.2.2.2)) true (l9 (I8 50 (x9 r.2.2.2.2.2.1)) true (I8 50 (x9 r.2.2.2.2.2.2.1))))
def smS(s:O0):Bool:=l9 (I8 80 (x9 s.1)) false (l9 (I8 14 (x9 s.2.2.1)) false (l9 (I8 14 (x9 s.2.2.2.1)) false (l9 (I8 60 (x9 s.2.2.2.2)) false
 (l9 (s.2.2.1.any λf=>I8 80 (x9 f.1)) false (l9 (s.2.2.2.1.any λf=>I8 80 (x9 f.1)) false (H9 (s.2.2.2.2.any Il)))))))
theorem Qb{fs:List jq}(h:fs.length<=1000000):P8 (λ(x:Int)=>l9 (I8 x (x9 fs)) (o6 (X0 fs x) λ(x_1:jq)=>l9 (I8 80 (x9 x_1.1)) (some (Out.rt false)) (some (Out.nx (I5 IntKind.i64 x 1)))) (some (Out.ex PUnit.unit))) 0=some (bif fs.any (λf=>I8 80 (x9 f.1))then .inr false else .inl PUnit.unit):=by
 refine JA fs (λf=>I8 80 (x9 f.1)) false PUnit.unit h (λi a ha=>?_) ?_
 .simp only[V8 ha,o7,V4,ha,o9];cases I8 80 (x9 a.1)<;>rfl
 .rw[aG];rfl
theorem Td(s:O0):wE s=some (smS s):=by
 unfold wE smS;cases h1:I8 80 (x9 s.1)
 case true=>rfl
 cases h2:I8 14 (x9 s.2.2.1)
 case true=>rfl
 cases h3:I8 14 (x9 s.2.2.2.1)
 case true=>rfl
 cases h4:I8 60 (x9 s.2.2.2.2)
 case true=>rfl
 have l2:=df (n:=14) h2;have l3:=df (n:=14) h3;have l4:=df (n:=60) h4;simp only[o5,o9,J7];rw[Qb l7,Qb l7,o9];cases s.2.2.1.any λf=>I8 80 (x9 f.1)
 case true=>rfl
 simp only[cond_false,J7,o5,o9];cases s.2.2.2.1.any λf=>I8 80 (x9 f.1)
 case true=>rfl
 simp only[cond_false,J7,o5];refine J3 (JA s.2.2.2.2 Il false PUnit.unit l7 (λi a ha=>?_) ?_) ?_
 rotate_left 2
 .cases s.2.2.2.2.any Il<;>rfl
 .simp only[V8 ha,o7,V4,ha,o9];unfold Il;cases I8 80 (x9 a.1)<;>cases I8 80 (x9 a.2.2.2.2.2.2.2)<;>cases I8 50 (x9 a.2.2.2.2.2.1)<;>cases I8 50 (x9 a.2.2.2.2.2.2.1)<;>rfl
 .rw[aG];rfl
def ScI(s:O0):Prop:=∀r∈s.2.2.2.2,(∀n∈r.2.2.2.2.2.1,fJ n.2)/\∀n∈r.2.2.2.2.2.2.1,fJ n.2
theorem zX{a b:Bool}(h:l9 a false b=true):a=false/\b=true:=by cases a<;>cases b<;>first|exact⟨rfl,rfl⟩|cases h
theorem ED{α:Type}{l:List α}{p:α->Bool}(h:l.any p=false):∀a∈l,p a=false:=by
 intro a ha;rw[fB]at h;have:=h a ha;cases hp:p a
 .rfl
 .exact absurd hp this
theorem b0o(h:smS s=true)(hI:ScI s):SmS s:=by
 unfold smS at h;obtain⟨h1,h⟩:=zX h;obtain⟨h2,h⟩:=zX h;obtain⟨h3,h⟩:=zX h;obtain⟨h4,h⟩:=zX h;obtain⟨h5,h⟩:=zX h;obtain⟨h6,h⟩:=zX h;have h7:s.2.2.2.2.any Il=false:=by cases hq:s.2.2.2.2.any Il<;>rw[hq]at h<;>first|rfl|cases h
 refine⟨by have:=df (n:=80) h1;omega,df (n:=14) h2,df (n:=14) h3,df (n:=60) h4,⟨λf hf=>?_,λf hf=>?_⟩,λr hr=>?_⟩
 .have:=df (n:=80) (ED h5 f hf);omega
 .have:=df (n:=80) (ED h6 f hf);omega
 .have hl:=ED h7 r hr;unfold Il at hl;cases g1:I8 80 (x9 r.1)<;>rw[g1]at hl
  case true=>cases hl
  cases g2:I8 80 (x9 r.2.2.2.2.2.2.2)<;>rw[g2]at hl
  case true=>cases hl
  cases g3:I8 50 (x9 r.2.2.2.2.2.1)<;>rw[g3]at hl
  case true=>cases hl
  have k1:=df (n:=80) g1;have k2:=df (n:=80) g2;exact⟨⟨l7,l7,(hI r hr).1,(hI r hr).2⟩,df (n:=50) g3,df (n:=50) hl⟩
def TU(e:dU):Bool:=l9 (I8 80 (x9 e.1)) true (l9 (I8 20 (x9 e.2)) true (e.2.any λm=>I8 80 (x9 m)))
def tG(b:Int)(t:nR):Int⊕Bool:=l9 (I8 80 (x9 t.1)) (.inr false) (l9 (I8 150 (I5 .i64 b (x9 t.2.2.2))) (.inr false) (.inl (I5 .i64 b (x9 t.2.2.2))))
def sG(b:Int)(s:O0):Int⊕Bool:=l9 (I8 60 (I5 .i64 b (x9 s.2.2.2.2))) (.inr false) (l9 (smS s) (.inl (I5 .i64 b (x9 s.2.2.2.2))) (.inr false))
def smL(l:gV):Bool:=l9 (I8 9 (x9 l.1)) false (l9 (I8 9 (x9 l.2.1)) false (l9 (I8 5 (x9 l.2.2)) false (l9 (l.1.any TU) false
 (match gX tG l.2.1 0 with| .inr _=>false| .inl _=>match gX sG l.2.2 0 with| .inr _=>false| .inl _=>true))))
theorem b1s:∀(b:Int) (t:nR) (r:Bool),tG b t= .inr r->r=false:=by intro b t r h;unfold tG at h;cases g0:I8 80 (x9 t.1)<;>cases g:I8 150 (I5 .i64 b (x9 t.2.2.2))<;>simp only[g0,g,o7,o5]at h<;>cases h<;>rfl
theorem b0m:∀(b:Int) (s:O0) (r:Bool),sG b s= .inr r->r=false:=by intro b s r h;unfold sG at h;cases g:I8 60 (I5 .i64 b (x9 s.2.2.2.2))<;>cases g2:smS s<;>simp only[g,g2,o7,o5]at h<;>cases h<;>rfl
theorem Yb(l:gV):yM l=some (smL l):=by
 unfold yM smL;cases h1:I8 9 (x9 l.1)
 case true=>rfl
 cases h2:I8 9 (x9 l.2.1)
 case true=>rfl
 cases h3:I8 5 (x9 l.2.2)
 case true=>rfl
 have l1:=df (n:=9) h1;have l2:=df (n:=9) h2;have l3:=df (n:=5) h3;simp only[o5,o9,J7];refine J3 (JA l.1 TU false PUnit.unit l7 (λi a ha=>?_) ?_) ?_
 .simp only[V8 ha,o7,V4,ha,o9];unfold TU;cases I8 80 (x9 a.1)
  case true=>rfl
  cases h5:I8 20 (x9 a.2)
  case true=>rfl
  have l5:=df (n:=20) h5;simp only[o5];refine J3 (JA a.2 (λm=>I8 80 (x9 m)) false PUnit.unit l7 (λj m hm=>?_) ?_) ?_
  .simp only[V8 hm,o7,V4,hm,o9];cases I8 80 (x9 m)<;>rfl
  .rw[aG];rfl
  .cases a.2.any λm=>I8 80 (x9 m)<;>rfl
 .rw[aG];rfl
 cases l.1.any TU
 case true=>rfl
 simp only[cond_false,J7,o5];apply Qv l.2.1 tG (λb i=>((b,i):Int×Int)) (λ_=>PUnit.unit) (λ_ _=>True) 0 l7 trivial
 .intro i t b hi hi' _;refine⟨?_,λ_ _=>trivial⟩;simp only[V8 hi,o7,V4,hi,o9];unfold tG;rw[Z8 l7];cases I8 80 (x9 t.1)<;>cases I8 150 (I5 .i64 b (x9 t.2.2.2))<;>rfl
 .intro b _;rw[aG];rfl
 .intro _;cases ht:gX tG l.2.1 0 with
  |inr r=>rw[LV tG (λr=>r=false) b1s _ _ _ ht];rfl|inl b=>
   simp only[J7];apply Qv l.2.2 sG (λb i=>((b,i):Int×Int)) (λ_=>PUnit.unit) (λ_ _=>True) 0 l7 trivial
   .intro i s b hi hi' _;refine⟨?_,λ_ _=>trivial⟩;simp only[V8 hi,o7,V4,hi,o9,Td];unfold sG;rw[Z8 l7];cases I8 60 (I5 .i64 b (x9 s.2.2.2.2))<;>cases smS s<;>rfl
   .intro b _;rw[aG];rfl
   .intro _;cases hs:gX sG l.2.2 0 with
    |inr r=>rw[LV sG (λr=>r=false) b0m _ _ _ hs];rfl|inl b=>rfl
structure WfL (l:gV):Prop where
 rl:∀t∈l.2.1,t.2.2.2.length<=4611686018427387904
 ri:∀t∈l.2.1,∀r∈t.2.2.2,a7W r
 sl:∀s∈l.2.2,s.2.2.2.2.length<=4611686018427387904
 si:∀s∈l.2.2,ScI s
theorem h_:∀(L:List nR) (b b' :Int),0<=b->b<=150->(∀t∈L,t.2.2.2.length<=4611686018427387904)->gX tG L b= .inl b' ->∀t∈L,t.1.length<=80/\t.2.2.2.length<=150
 |[],_,_,_,_,_,_=>by simp|t::L,b,b',h0,h1,hw,h=>by
  have hwt:=hw t A7;have ha:I5 .i64 b (x9 t.2.2.2)=b+x9 t.2.2.2:=aA (by unfold fJ x9;omega);unfold gX tG at h;rw[ha]at h;cases g0:I8 80 (x9 t.1)<;>rw[g0]at h
  case true=>cases h
  cases g1:I8 150 (b+x9 t.2.2.2)<;>rw[g1]at h
  case true=>cases h
  rw[rY]at g1;intro x hx;rcases D6.1 hx with rfl|hx
  .exact⟨df (n:=80) g0,by unfold x9 at g1;omega⟩
  .exact h_ L (b+x9 t.2.2.2) b' (by unfold x9;omega) g1 (λq hq=>hw q (by simp[hq])) h x hx
theorem ZQ:∀(L:List O0) (b b' :Int),0<=b->b<=60->(∀s∈L,s.2.2.2.2.length<=4611686018427387904)->gX sG L b= .inl b' ->∀s∈L,smS s=true
 |[],_,_,_,_,_,_=>by simp|s::L,b,b',h0,h1,hw,h=>by
  have hwt:=hw s A7;have ha:I5 .i64 b (x9 s.2.2.2.2)=b+x9 s.2.2.2.2:=aA (by unfold fJ x9;omega);unfold gX sG at h;rw[ha]at h;cases g1:I8 60 (b+x9 s.2.2.2.2)<;>rw[g1]at h
  case true=>cases h
  cases g2:smS s<;>rw[g2]at h
  case false=>cases h
  rw[rY]at g1;intro x hx;rcases D6.1 hx with rfl|hx
  .exact g2
  .exact ZQ L (b+x9 s.2.2.2.2) b' (by unfold x9;omega) g1 (λq hq=>hw q (by simp[hq])) h x hx
theorem ZX(h:smL l=true)(hW:WfL l):SmL l/\∀t∈l.2.1,a9l t:=by
 unfold smL at h;obtain⟨h1,h⟩:=zX h;obtain⟨h2,h⟩:=zX h;obtain⟨h3,h⟩:=zX h;obtain⟨h4,h⟩:=zX h;have l1:=df (n:=9) h1;have l2:=df (n:=9) h2;have l3:=df (n:=5) h3;cases ht:gX tG l.2.1 0 with
 |inr r=>rw[ht]at h;cases h|inl b=>
  rw[ht]at h;simp only at h;cases hs:gX sG l.2.2 0 with
  |inr r=>rw[hs]at h;cases h|inl b' =>
   have T:=h_ l.2.1 0 b l7 l7 hW.rl ht;have S:=ZQ l.2.2 0 b' l7 l7 hW.sl hs;refine⟨⟨⟨l7,l7,l7⟩,λe he=>?_,λt ht=>by have:=(T t ht).1;omega,λs hs=>b0o (S s hs) (hW.si s hs)⟩,λt ht=>⟨by have:=(T t ht).2;omega,hW.ri t ht⟩⟩;have hl:=ED h4 e he;unfold TU at hl;cases g1:I8 80 (x9 e.1)<;>rw[g1]at hl
   case true=>cases hl
   cases g2:I8 20 (x9 e.2)<;>rw[g2]at hl
   case true=>cases hl
   have k1:=df (n:=80) g1;exact⟨l7,λm hm=>by have:=df (n:=80) (ED hl m hm);omega⟩
theorem XD:reachBytes<=4611686018427387904:=by decide
theorem b5J(h:wf b6j l):WfL l:=by
 refine⟨λt ht=>?_,λt ht r hr=>?_,λs hs=>?_,λs hs r hr=>⟨λn hn=>?_,λn hn=>?_⟩⟩
 .have:=(h.2.1.2 t ht).2.2.2.1;exact jJ this XD
 .have:=(h.2.1.2 t ht).2.2.2.2 r hr;exact⟨Jv this.2.1,Jv this.2.2.1,Jv this.2.2.2⟩
 .have:=(h.2.2.2 s hs).2.2.2.2.1;exact jJ this XD
 .have:=(h.2.2.2 s hs).2.2.2.2.2 r hr;exact Jv (this.2.2.2.2.2.1.2 n hn).2
 .have:=(h.2.2.2 s hs).2.2.2.2.2 r hr;exact Jv (this.2.2.2.2.2.2.1.2 n hn).2
theorem u_(h:(pY l).1=0)(hs:l.2.2[i]? =some s){k:Nat}{r:kV}(hr:s.2.2.2.2[k]? =some r):Ru s (a2r l s) k r=0:=by
 have hp:=(Uw h hs).2;unfold QQ at hp;cases h1:Dx l s with
 |some q=>rw[h1]at hp;exact absurd hp (Np h1)|none=>
  rw[h1]at hp;simp only at hp;cases h2:iH s.2.2.2.2.length (Rt l s)with
  |some q=>
   rw[h2]at hp;obtain⟨j,hj,hq⟩:=qp h2;unfold Rt at hq;cases h3:s.2.2.2.2[j]? with
   |none=>rw[h3]at hq;cases hq|some q2=>rw[h3]at hq;exact absurd hp (LK hq)
  |none=>
   have hn:=xm h2 k (aO.1 hr).1;unfold Rt at hn;rw[hr]at hn;simp only at hn;unfold PZ at hn;cases he:D5 (Ru s (a2r l s) k r) 0<;>rw[he]at hn
   .cases hn
   .exact dO.1 he
end Go.GP
namespace Gt
open Go Go.GP
variable {n:Int}
theorem a6x(h:fJ n):Cj n=some (Lib.itoa n):=by unfold Cj;rw[if_pos (show -9223372036854775808<=n/\n<=9223372036854775807 from h)]
theorem Ul{s:List UInt8}{c:Nat}(h:c<=1000000)(hs:s.length<=1000000):rU s (c:Int)=some (Lib.repeatL s c):=by
 unfold rU
 have:s.length*c<=1000000*1000000:=Nat.mul_le_mul hs h;rw[if_pos ⟨l7,l7,by rw[D8];omega⟩,D8]
theorem b3x(x:UInt8)(c:Nat):Lib.repeatL [x] c=List.replicate c x:=by have:=Lib.repeatL_replicate x 1 c;simpa using this
theorem Yq{d:Int}(h0:0<=d)(h:d<10):Hy (wrap .u8 (I5 .u64 48 d))=UInt8.ofNat (48+d.toNat):=by
 rw[WV (by unfold U64;omega)];have e:wrap .u8 (48+d)=((48+d.toNat:Nat):Int):=by unfold wrap IntKind.wrap;simp[IntKind.signed,IntKind.bits];omega
 rw[e];unfold Hy;rw[D8]
theorem a8a(n:Int):BR [n]=[Hy n]:=rfl
theorem WF:∀(k u:Nat),u<k->u<18446744073709551616->vG k (u:Int)=some (Lib.decDigits u)
 |0,u,h,_=>by omega|k+1,u,h,hu=>by
  show xG (vG k) (u:Int)=_;unfold xG;by_cases h10:u<10
  .try simp only[a8a]
   rw[mM (Y0 l7),Yq l7 l7,Lib.decDigits,dif_pos h10,D8]
  .have e1:(u:Int).tdiv 10=((u / 10:Nat):Int):=by rw[nz l7];omega
   have e2:iY (u:Int) 10=((u % 10:Nat):Int):=by rw[yU l7];omega
   try simp only[a8a]
   rw[nG (O6 l7),a3u (by rw[e1];unfold U64;omega)];rw[e1,WF k (u / 10) l7 l7,o9,e2,Yq l7 l7,L8,o9,D8]
   .congr 1
    conv=>rhs;rw[Lib.decDigits,dif_neg h10]
   .have:=Lib.nDigits_le20 (u / 10) l7;rw[Lib.decDigits_length];simp;omega
theorem En(h:U64 n):DN n=some (Lib.decDigits n.toNat):=by unfold U64 at h;have:=WF au n.toNat (by unfold au;omega) l7;rw[N7 h.1]at this;exact this
theorem JM(h:fJ n):(Lib.itoa n).length<=21:=Lib.itoa_length_le n h.1 h.2
variable {u:Nat}
theorem qL(h:u<18446744073709551616):1<=(Lib.decDigits u).length/\(Lib.decDigits u).length<=20:=by rw[Lib.decDigits_length];exact⟨Lib.nDigits_pos u,Lib.nDigits_le20 u h⟩
theorem su(h:fJ n):qi n=some (Lib.itoa n):=by
 unfold fJ at h;unfold qi Lib.itoa;by_cases hn:n<0
 .rw[mM (Y0 hn),if_pos hn,aA af,fA af];rw[show wrap .u64 (0 -(n+1))=0 -(n+1)from KZ (by unfold U64;omega),WV (by unfold U64;omega),En (by unfold U64;omega),o9];have e:(0 -(n+1)+1).toNat=n.natAbs:=l7;rw[e,L8,o9]
  .rfl
  .have:=(qL (u:=n.natAbs) l7).2;simp;omega
 .rw[nG (O6 l7),if_neg hn,show wrap .u64 n=n from KZ (by unfold U64;omega),En (by unfold U64;omega),o9]
theorem ny(h:fJ n):nK n=some (Lib.itoa n):=by unfold nK;rw[a6x h];rfl
def tX(u k:Nat):List UInt8:=
 let d:=List.replicate (k+1 -(Lib.decDigits u).length) 48++Lib.decDigits u
 d.take (d.length -k)++46::d.drop (d.length -k)
def EU(n:Int)(k:Nat):List UInt8:=if n<0 then 45::tX n.natAbs k else tX n.natAbs k
variable {k:Nat}
theorem YZ(hu:u<18446744073709551616)(hk:k<=9):(tX u k).length<=31:=by have:=qL hu;unfold tX;simp;omega
theorem GH(h:fJ n)(hk:k<=9):(EU n k).length<=32:=by unfold fJ at h;have:=YZ (u:=n.natAbs) (k:=k) l7 hk;unfold EU;split<;>simp<;>omega
variable {d:List UInt8}
theorem a2W(h1:k<d.length)(h2:d.length<=100):
  bQ d 0 (ae .i64 (x9 d) (k:Int))=some (d.take (d.length -k))/\bQ d (ae .i64 (x9 d) (k:Int)) (x9 d)=some (d.drop (d.length -k)):=by
 have e:ae .i64 (x9 d) (k:Int)=((d.length -k:Nat):Int):=by rw[fA (by unfold fJ x9;omega)];unfold x9;omega
 rw[e];exact⟨by rw[qA l7 l7];simp,by rw[iR l7 l7];simp⟩
theorem a1c{d p:List UInt8}(h1:k<d.length)(h2:d.length<=100)(hp:p.length<=100):
  (o6 (bQ d 0 (ae .i64 (x9 d) (k:Int))) λx=>o6 (Z7 p x) λy=>o6 (Z7 y [46]) λz=>o6 (bQ d (ae .i64 (x9 d) (k:Int)) (x9 d)) λt=>o6 (Z7 z t) λx=>some x)
   =some (p++(d.take (d.length -k)++46::d.drop (d.length -k))):=by
 obtain⟨c1,c2⟩:=a2W h1 h2;rw[c1,o9,L8 F9,o9,L8 F9,o9,c2,o9,L8 F9,o9];simp
theorem jv(h:fJ n)(hk:1<=k/\k<=9):dA n (k:Int)=some (EU n k):=by
 have hI:=h;unfold fJ at h;have ek:zi 0 (zk (k:Int) 9)=(k:Int):=by unfold zi zk;split<;>split<;>omega
 unfold dA iG;rw[o9,ek,ny hI,o9,nG (I9 l7)];have hd:=qL (u:=n.natAbs) l7;have rest:∀(d p:List UInt8),1<=d.length->d.length<=20->p.length<=1->
   l9 (V6 (x9 d) (k:Int))
    (o6 (rU [48] (ae .i64 (I5 .i64 (k:Int) 1) (x9 d))) λx3=>o6 (Z7 x3 d) λx4=>o6 (bQ x4 0 (ae .i64 (x9 x4) (k:Int))) λx5=>o6 (Z7 p x5) λx6=>o6 (Z7 x6 [46]) λx7=>
     o6 (bQ x4 (ae .i64 (x9 x4) (k:Int)) (x9 x4)) λx=>o6 (Z7 x7 x) λx=>some x)
    (o6 (bQ d 0 (ae .i64 (x9 d) (k:Int))) λx=>o6 (Z7 p x) λy=>o6 (Z7 y [46]) λz=>o6 (bQ d (ae .i64 (x9 d) (k:Int)) (x9 d)) λt=>o6 (Z7 z t) λx=>some x)
   =some (p++(let e:=List.replicate (k+1 -d.length) 48++d;e.take (e.length -k)++46::e.drop (e.length -k))):=by
  intro d p h1 h2 h3;by_cases hle:d.length<=k
  .rw[mM (X9 (by unfold x9;omega))];have e:ae .i64 (I5 .i64 (k:Int) 1) (x9 d)=((k+1 -d.length:Nat):Int):=by
    rw[aA af,fA (by unfold fJ x9;omega)];unfold x9;omega
   rw[e,Ul l7 A7,b3x,o9,L8 F9,o9];exact a1c F9 F9 l7
  .rw[nG (bG (by unfold x9;omega)),a1c l7 l7 l7];have:k+1 -d.length=0:=l7;rw[this];simp
 unfold Lib.itoa EU tX;by_cases hn:n<0
 .rw[if_pos hn,if_pos hn,mM (Y0 hn)];have e:bQ (45::Lib.decDigits n.natAbs) 1 (x9 (45::Lib.decDigits n.natAbs))=some (Lib.decDigits n.natAbs):=by
   rw[iR l7 F9];simp
  rw[e,o9];exact rest (Lib.decDigits n.natAbs) [45] hd.1 hd.2 A7
 .rw[if_neg hn,if_neg hn,nG (O6 l7)];have e:n.toNat=n.natAbs:=l7;rw[e];exact rest (Lib.decDigits n.natAbs) [] hd.1 hd.2 A7
theorem a6j :∀(h:d=Lib.decDigits u),∀c∈d,48<=c.toNat/\c.toNat<=57:=by intro h c hc;subst h;rw[Lib.decDigits_eq]at hc;obtain⟨t,_,rfl⟩:=aH.1 hc;unfold Lib.dg;have:u / 10^(Lib.nDigits u -1 -t) % 10<10:=Nat.mod_lt _ l7;generalize u / 10^(Lib.nDigits u -1 -t) % 10=r at this;simp;omega
theorem EO{c:UInt8}(hc:c∈Lib.decDigits u):48<=c.toNat/\c.toNat<=57:=a6j rfl c hc
theorem QU(h:∀c∈d,48<=c.toNat/\c.toNat<=57)(h1:1<=d.length):AA d=some (d,false):=by
 unfold AA;rw[mM (Y0 (by unfold x9;omega))];match d,h1 with
 |c::r,_=>have e:sat (c::r) 0=some (c.toNat:Int):=rfl;have:=h c A7;rw[e,o9,nG (I9 l7)]
theorem QV :AA (45::d)=some (d,true):=by unfold AA;rw[mM (Y0 (by unfold x9;simp))];have e:sat (45::d) 0=some (45:Int):=rfl;rw[e,o9,mM (J4 rfl),iR l7 F9,o9];simp
theorem a6Y(hk:k<=100)(hd:d.length<=100):
  lT (λ(x_3:List UInt8)=>l9 (V6 (x9 x_3) (k:Int)) (o6 (Z7 [48] x_3) λ(x:List UInt8)=>some (Sum.inl x)) (some (Sum.inr x_3))) d=some (List.replicate (k+1 -d.length) 48++d):=by
 obtain⟨e,h1,h2⟩:=qO (f:=λ(x_3:List UInt8)=>l9 (V6 (x9 x_3) (k:Int)) (o6 (Z7 [48] x_3) λ(x:List UInt8)=>some (Sum.inl x)) (some (Sum.inr x_3))) (s:=d)
  (λs=>s.length<=102/\List.replicate (k+1 -s.length) 48++s=List.replicate (k+1 -d.length) 48++d) (λe=>e=List.replicate (k+1 -d.length) 48++d) (λs=>k+1 -s.length) ⟨l7,rfl⟩ l7 (by
   intro s ⟨hs,he⟩;by_cases hle:s.length<=k
   .refine .inl ⟨48::s,?_,⟨by simp;omega,?_⟩,by simp;omega⟩
    .rw[mM (X9 (by unfold x9;omega)),L8 F9];rfl
    .rw[←he];have e1:k+1 -s.length=(k+1 -(48::s).length)+1:=by simp;omega
     rw[e1,pW];simp
   .refine .inr ⟨s,?_,?_⟩
    .rw[nG (bG (by unfold x9;omega))]
    .rw[←he,show k+1 -s.length=0 by omega];simp)
 rw[h1,h2]
theorem qE(h:fJ n)(hk:1<=k/\k<=9):jL n (k:Int)=some (EU n k):=by
 have hI:=h;unfold fJ at h;have ek:zk (zi (k:Int) 0) 9=(k:Int):=by unfold zi zk;split<;>split<;>omega
 unfold jL NM;have hd:=qL (u:=n.natAbs) l7;rw[o9,ek,nG (I9 l7),su hI,o9];have rest:∀(d:List UInt8) (b:Bool),1<=d.length->d.length<=20->
   (o6 (lT (λ(x_3:List UInt8)=>l9 (V6 (x9 x_3) (k:Int)) (o6 (Z7 [48] x_3) λ(x:List UInt8)=>some (Sum.inl x)) (some (Sum.inr x_3))) (d,b).1) λ(y:List UInt8)=>
    o6 (bQ y 0 (ae .i64 (x9 y) (k:Int))) λ(x_3:List UInt8)=>o6 (Z7 x_3 [46]) λ(x_4:List UInt8)=>o6 (bQ y (ae .i64 (x9 y) (k:Int)) (x9 y)) λ(x:List UInt8)=>
     o6 (Z7 x_4 x) λ(x:List UInt8)=>l9 (d,b).2 (o6 (Z7 [45] x) λ(x:List UInt8)=>some x) (some x))
   =some ((if b then[45]else[])++(let e:=List.replicate (k+1 -d.length) 48++d;e.take (e.length -k)++46::e.drop (e.length -k))):=by
  intro d b h1 h2;rw[a6Y (d:=d) l7 l7,o9];generalize he:List.replicate (k+1 -d.length) 48++d=e;have hl:k<e.length/\e.length<=40:=by subst he;simp;omega
  obtain⟨c1,c2⟩:=a2W hl.1 l7;rw[c1,o9,L8 F9,o9,c2,o9,L8 F9,o9];cases b
  .simp
  .show o6 (Z7 [45] _) _=_;rw[L8 F9,o9];simp
 unfold Lib.itoa EU tX;by_cases hn:n<0
 .rw[if_pos hn,if_pos hn,QV,o9];exact rest (Lib.decDigits n.natAbs) true hd.1 hd.2
 .rw[if_neg hn,if_neg hn];have e:n.toNat=n.natAbs:=l7;rw[e,QU (λc hc=>EO hc) hd.1,o9];exact rest (Lib.decDigits n.natAbs) false hd.1 hd.2
def CZ(n:Int)(w:Nat):List UInt8:=List.replicate (w -(Lib.itoa n).length) 48++Lib.itoa n
variable {w:Nat}
theorem xE(h:fJ n)(hw:w<=4):(CZ n w).length<=25:=by have:=JM h;unfold CZ;simp;omega
theorem EM(h:fJ n)(hw:w<=4):Aa n (w:Int)=some (CZ n w):=by
 have hl:=JM h;unfold Aa;rw[ny h,o9];have e:zi 0 (ae .i64 (w:Int) (x9 (Lib.itoa n)))=((w -(Lib.itoa n).length:Nat):Int):=by rw[fA (by unfold fJ x9;omega)];unfold zi x9;split<;>omega
 rw[e,Ul l7 A7,b3x,o9,L8 F9,o9];rfl
theorem DU(h:fJ n)(hw:w<=4):zN n (w:Int)=some (CZ n w):=by
 have hl:=JM h;unfold zN;rw[su h,o9];show _=some (List.replicate (w -(Lib.itoa n).length) 48++Lib.itoa n);generalize Lib.itoa n=d at hl ⊢;obtain⟨e,h1,h2⟩:=qO (f:=λ(x:List UInt8)=>l9 (I8 (x9 x) (w:Int)) (o6 (Z7 [48] x) λ(x:List UInt8)=>some (Sum.inl x)) (some (Sum.inr x))) (s:=d)
  (λs=>s.length<=30/\List.replicate (w -s.length) 48++s=List.replicate (w -d.length) 48++d) (λe=>e=List.replicate (w -d.length) 48++d) (λs=>w -s.length) ⟨l7,rfl⟩ l7 (by
   intro s ⟨hs,he⟩;by_cases hle:s.length<w
   .refine .inl ⟨48::s,?_,⟨by simp;omega,?_⟩,by simp;omega⟩
    .rw[mM (Y0 (by unfold x9;omega)),L8 F9];rfl
    .rw[←he];have e1:w -s.length=(w -(48::s).length)+1:=by simp;omega
     rw[e1,pW];simp
   .refine .inr ⟨s,?_,?_⟩
    .rw[nG (O6 (by unfold x9;omega))]
    .rw[←he,show w -s.length=0 by omega];simp)
 rw[h1,o9,h2]
def lJ(d:Int):List UInt8:=if 0<=d/\d<=109572 then CZ (ymd d).1 4++45::CZ (ymd d).2.1 2++45::CZ (ymd d).2.2 2 else[]
theorem a8m{a b c:List UInt8}(ha:a.length<=100)(hb:b.length<=100)(hc:c.length<=100){A C B:Option (List UInt8)}(eb:B=some b)(ec:C=some c):
  (o6 (Z7 a [45]) λx2=>o6 B λx3=>o6 (Z7 x2 x3) λx4=>o6 (Z7 x4 [45]) λx5=>o6 C λx=>o6 (Z7 x5 x) λx=>some x)=some (a++45::b++45::c):=by
 rw[L8 F9,o9,eb,o9,L8 F9,o9,L8 F9,o9,ec,o9,L8 F9,o9];simp
theorem vz(h1:-1000000<=n)(h2:n<=1000000):fJ n:=by unfold fJ;omega
theorem zZ(d:Int):Bd d=some (lJ d):=by
 unfold Bd Ac lJ;by_cases h0:0<=d
 .rw[mM (X9 h0),o9];by_cases h:d<=109572
  .rw[X9 h,F5,o5,SC h0 h,o9,if_pos ⟨h0,h⟩];have hb:=Si h0 h;have p1:=vz (n:=(ymd d).1) l7 l7;have p2:=vz (n:=(ymd d).2.1) l7 l7;have p3:=vz (n:=(ymd d).2.2) l7 l7;rw[show Aa (ymd d).1 4=_ from EM (w:=4) p1 l7,o9];have l1:=xE (w:=4) p1 l7;have l2:=xE (w:=2) p2 l7;have l3:=xE (w:=2) p3 l7;exact a8m (A:=none) l7 l7 l7 (EM (w:=2) p2 l7) (EM (w:=2) p3 l7)
  .rw[bG l7,P7,o7,if_neg l7]
 .rw[nG (bG l7),o9,P7,o7,if_neg l7]
theorem Eo(d:Int):DR d=some (lJ d):=by
 unfold DR Bz lJ;by_cases h0:0<=d
 .rw[mM (X9 h0),o9];by_cases h:d<=109572
  .rw[X9 h,F5,o5,QW h0 h,o9,if_pos ⟨h0,h⟩];have hb:=Si h0 h;have p1:=vz (n:=(ymd d).1) l7 l7;have p2:=vz (n:=(ymd d).2.1) l7 l7;have p3:=vz (n:=(ymd d).2.2) l7 l7;rw[show zN (ymd d).1 4=_ from DU (w:=4) p1 l7,o9];have l1:=xE (w:=4) p1 l7;have l2:=xE (w:=2) p2 l7;have l3:=xE (w:=2) p3 l7;exact a8m (A:=none) l7 l7 l7 (DU (w:=2) p2 l7) (DU (w:=2) p3 l7)
  .rw[bG l7,P7,o7,if_neg l7]
 .rw[nG (bG l7),o9,P7,o7,if_neg l7]
theorem UQ(d:Int):(lJ d).length<=100:=by
 unfold lJ;split
 .rename_i h;have hb:=Si h.1 h.2;have l1:=xE (w:=4) (vz (n:=(ymd d).1) l7 l7) l7;have l2:=xE (w:=2) (vz (n:=(ymd d).2.1) l7 l7) l7;have l3:=xE (w:=2) (vz (n:=(ymd d).2.2) l7 l7) l7;simp;omega
 .simp
theorem sJ(t:Int×Int)(en:List dU):bM t en=aS t en:=by
 unfold bM aS;by_cases h1:t.1=1
 .simp[D5,h1,V6]
 by_cases h2:t.1=2
 .simp[D5,h2,V6]
 by_cases h3:t.1=3
 .simp[D5,h3,V6]
 by_cases h4:t.1=4
 .simp[D5,h4,V6]
 by_cases h5:t.1=5
 .simp[D5,h5,V6]
 by_cases h6:t.1=6
 .simp[D5,h6,V6]
 .simp only[D5,h1,h2,h3,h4,h5,h6,decide_false,o5,o9];by_cases h7:1<=t.1
  .rw[mM (X9 h7),nG (bG l7)]
  .rw[nG (bG l7)]
theorem Gv(t:Int×Int)(en:List dU):lC t en=dR t en:=by unfold lC dR;rw[sJ]
theorem a2A(n:Int)(t:Int×Int)(en:List dU):qH n t en=Kz n t en:=by unfold qH Kz;rw[Gv]
theorem wF{v:BP}(en:List dU)(h:fJ v.2.2):lD v en=xH v en:=by
 unfold lD xH wK;rw[o9,sJ];cases hv:aS (v.1,v.2.1) en with
 |none=>rfl|some b=>
  rw[o9,o9];cases b with
  |false=>rfl|true=>
   rw[F5,o5,o5];have e:BA v en=qH v.2.2 (v.1,v.2.1) en:=by unfold BA wK;rw[o9,hv,o9,o7,o9,aB,a2A]
   rw[e,ny h,su h,show dA v.2.2 2=_ from jv (k:=2) h l7,show jL v.2.2 2=_ from qE (k:=2) h l7,
    show dA v.2.2 4=_ from jv (k:=4) h l7,show jL v.2.2 4=_ from qE (k:=4) h l7,zZ,Eo]
theorem Et{B:Nat}(hB:100<=B)(hB2:B<=200000000000000){v:Int×Int×Int}{en:List dU}(h:fJ v.2.2)(hm:∀e∈en,e.2.length<=B/\∀m∈e.2,m.length<=B):∃t,lD v en=some t/\t.1.length<=B:=by
 unfold lD
 cases hv:bM (v.1,v.2.1) en with
 |none=>
  exfalso;rw[sJ]at hv;unfold aS at hv;simp only[sO]at hv
  repeat' split at hv
  all_goals cases hv
 |some b=>
  rw[o9];cases b with
  |false=>exact⟨_,rfl,A7⟩|true=>
   rw[F5,o5];unfold qH lC;rw[hv];simp only[o9,F5,o5];have f1:=JM h;have f2:=GH (k:=2) h l7;have f4:=GH (k:=4) h l7;have f5:=UQ v.2.2;rw[ny h,show dA v.2.2 2=_ from jv (k:=2) h l7,show dA v.2.2 4=_ from jv (k:=4) h l7,zZ];simp only[o9];rw[L8 (a:=EU v.2.2 4) F9];simp only[o9];by_cases h1:v.1=1
   .simp only[J4 h1,o7,o9];simp only[bb,o9];simp only[sO];repeat' split
    all_goals exact⟨_,rfl,by first|omega|(simp<;>omega)⟩
   by_cases h2:v.1=2
   .simp only[I9 h1,J4 h2,o7,o5,o9];simp only[bb,o9];simp only[sO];repeat' split
    all_goals exact⟨_,rfl,by first|omega|(simp<;>omega)⟩
   by_cases h3:v.1=3
   .simp only[I9 h1,I9 h2,J4 h3,o7,o5,o9];simp only[bb,o9];simp only[sO];repeat' split
    all_goals exact⟨_,rfl,by first|omega|(simp<;>omega)⟩
   by_cases h4:v.1=4
   .simp only[I9 h1,I9 h2,I9 h3,J4 h4,o7,o5,o9];simp only[bb,o9];simp only[sO];repeat' split
    all_goals exact⟨_,rfl,by first|omega|(simp<;>omega)⟩
   by_cases h5:v.1=5
   .simp only[I9 h1,I9 h2,I9 h3,I9 h4,J4 h5,o7,o5,o9];simp only[bb,o9];simp only[sO];repeat' split
    all_goals exact⟨_,rfl,by first|omega|(simp<;>omega)⟩
   .simp only[I9 h1,I9 h2,I9 h3,I9 h4,I9 h5,o5];have hk:v.1=6/\0<=v.2.1/\v.2.1<x9 en:=by
     unfold bM at hv;simp only[I9 h1,I9 h2,I9 h3,I9 h4,I9 h5,o5,o9]at hv;simp only[sO,dO,ul]at hv;split at hv
     .split at hv
      .simp only[G5,wo]at hv;exact⟨by assumption,by assumption,hv⟩
      .cases hv
     .cases hv
    obtain⟨e,he,hmem⟩:=ug hk.2.1 hk.2.2;rw[he];simp only[o9];have hle:=(hm e hmem).1;have hll:x9 e.2=(e.2.length:Int):=rfl;rw[fA af];by_cases hw0:0<=v.2.2
    .by_cases hw1:v.2.2<=x9 e.2 -1
     .rw[X9 hw0,o7,X9 hw1,o9,F5,o5];obtain⟨m,hm1,hm2⟩:=ug (l:=e.2) hw0 l7;rw[hm1];exact⟨_,rfl,(hm e hmem).2 m hm2⟩
     .rw[X9 hw0,o7,bG (sV.1 hw1),o9,P7,o7];exact⟨_,rfl,A7⟩
    .rw[bG (sV.1 hw0),o5];exact⟨_,rfl,A7⟩
end Gt
namespace Go.GP
open Gt
theorem YA:uH=some true:=by decide+kernel
theorem SE(l:List jq):rq l=mD l:=by unfold rq mD;rfl
theorem YI{α:Type}{l:List α}(h:l.length<=1000000):zJ l=some l:=by unfold zJ;rw[OC F9,H7]
theorem RJ{l:gV}(hc:uJ l.1=some l.1)(k:Int):qg l k=um l k:=by unfold qg um;simp only[hc,SE];rfl
end Go.GP
namespace Go.GP
open Gt
set_option maxRecDepth 100000
def gtN(l:List (List UInt8))(i:Int):List UInt8:=(X0 l i).getD []
def dB(k:Int):List UInt8:=(AC k).getD []
def jW(k:Int):List UInt8:=(dJ k).getD []
def jy(k:Int):List UInt8×Int:=(mV k).getD ([],0)
def yB(k:Int):Bool:=l9 (D5 k 2) true (l9 (D5 k 3) true (D5 k 4))
variable {b:Bool}
theorem a9v{x y:Option (List UInt8)}(hx:∃s,x=some s/\s.length<=10)(hy:∃s,y=some s/\s.length<=10):∃s,l9 b x y=some s/\s.length<=10:=by cases b<;>assumption
theorem a1g(k:Int):∃s,AC k=some s/\s.length<=10:=by
 unfold AC
 repeat (refine a9v ⟨_,rfl,F6⟩ ?_)
 exact⟨_,rfl,F6⟩
theorem b1z(k:Int):AC k=some (dB k):=by obtain⟨s,h,-⟩:=a1g k;unfold dB;rw[h];rfl
theorem qm(k:Int):gK k=some (dB k):=(show gK k=AC k from rfl).trans (b1z k)
theorem Fh(k:Int):dJ k=some (jW k):=by
 unfold jW;have:∃s,dJ k=some s:=by
  unfold dJ;simp only[sO];repeat' split
  all_goals exact⟨_,rfl⟩
 obtain⟨s,h⟩:=this;rw[h];rfl
theorem b1r(k:Int):mV k=some (jy k):=by
 unfold jy;have:∃s,mV k=some s:=by
  unfold mV;simp only[sO];repeat' split
  all_goals exact⟨_,rfl⟩
 obtain⟨s,h⟩:=this;rw[h];rfl
theorem a0Q(k:Int):gm k=some (jy k):=(show gm k=mV k from rfl).trans (b1r k)
theorem uZ(k:Int):(dB k).length<=10:=by obtain⟨s,h,h2⟩:=a1g k;unfold dB;rw[h];exact h2
theorem JS(k:Int):(jW k).length<=10:=by
 unfold jW dJ;simp only[sO];repeat' split
 all_goals simp
theorem a1b(k:Int):(jy k).1.length<=10:=by
 unfold jy mV;simp only[sO];repeat' split
 all_goals simp
structure NmOk (N:D7):Prop where
 e:∀e∈N.1,e.1.length<=1000/\∀m∈e.2,m.length<=1000
 t:∀s∈N.2.1,s.length<=1000
 i:∀s∈N.2.2.1,s.length<=1000
 d:∀s∈N.2.2.2.1,s.length<=1000
 m:∀s∈N.2.2.2.2,s.length<=1000
abbrev Tx:Type:=List UInt8×Int
def wiS(p:Tx)(c:Int):List UInt8:=l9 (I8 p.2 c) ([40]++p.1++[41]) p.1
def sZ(n:Int×Int)(N:D7):Tx:=
 l9 (V6 n.1 5) (((xH (n.1,0,n.2) []).getD ([],0)).1,l9 (I8 n.2 0) 6 7)
 (l9 (D5 n.1 6) (((X0 N.1 (dX .i64 n.2 16)).getD ([],[])).1++[58]++gtN ((X0 N.1 (dX .i64 n.2 16)).getD ([],[])).2 (iY n.2 16),7)
 (l9 (D5 n.1 7) (gtN N.2.2.1 n.2,7)
 (l9 (D5 n.1 8) (gtN N.2.2.2.1 n.2,7)
 (l9 (D5 n.1 9) ([116,111,100,97,121],7)
 (l9 (D5 n.1 35) ([99,111,117,110,116,40,41],7) (dB n.1++[40]++gtN N.2.2.2.2 n.2++[41],7))))))
def Jf(n:Int×Int)(N:D7)(num:Bool)(a:Tx):Tx:=
 l9 (D5 n.1 33) (dB n.1++[40]++gtN N.2.1 n.2++[44,32]++a.1++[41],7)
 (l9 (D5 n.1 34) (dB n.1++[40]++gtN N.2.1 (dX .i64 n.2 8)++[44,32]++a.1++[44,32]++jW (iY n.2 8)++[41],7)
 (l9 (D5 n.1 25) ([110,111,116,32]++wiS a 6,6)
 (l9 (D5 n.1 10) ([45]++l9 num ([40]++a.1++[41]) (wiS a 6),6) (dB n.1++[40]++a.1++[41],7))))
def Px(k:Int):Bool:=l9 (D5 k 17) true (l9 (D5 k 18) true (l9 (D5 k 27) true (l9 (D5 k 28) true (l9 (D5 k 29) true (D5 k 30)))))
def VH(k:Int):Bool:=l9 (D5 k 14) true (l9 (D5 k 15) true (D5 k 16))
def Ee(n:Int×Int)(a b:Tx):Tx:=
 l9 (Px n.1) (dB n.1++[40]++a.1++[44,32]++b.1++[41],7)
 (l9 (VH n.1) (dB n.1++[40]++a.1++[44,32]++b.1++[44,32]++jW n.2++[41],7)
 (wiS a (l9 (D5 (jy n.1).2 3) 4 (jy n.1).2)++[32]++(jy n.1).1++[32]++wiS b ((jy n.1).2+1),(jy n.1).2))
def ifX(a b c:Tx):Tx:=([105,102,32]++a.1++[32,116,104,101,110,32]++b.1++[32,101,108,115,101,32]++c.1,0)
def txT(N:D7):XT->Tx
 | .l0 n=>sZ n N| .l1 n a=>Jf n N (yB a.node.1) (txT N a)| .l2 n a b=>Ee n (txT N a) (txT N b)| .l3 n a b c=>ifX (txT N a) (txT N b) (txT N c)
def pcT(N:D7)(t:XT):H8:=((txT N t).1,(txT N t).2,yB t.node.1)
def BO(n:Int×Int)(args:List H8)(N:D7)(p:Tx):Prop:=
 ∃c,Z5 n N=some c/\W9 n args N=some (l9 (D5 c 0) ((p.1,p.2,yB n.1),0) (([],0,false),c))
variable {α:Type}
theorem lx0(a:α)(l:List α):X0 (a::l) 0=some a:=rfl
theorem lx1(a b:α)(l:List α):X0 (a::b::l) 1=some b:=rfl
theorem lx2(a b c:α)(l:List α):X0 (a::b::c::l) 2=some c:=rfl
theorem Di(p:H8)(c:Int)(h:p.1.length<=1000000000):eX p c=some (wiS (p.1,p.2.1) c):=by unfold eX wiS;rw[L8 F9,o9,L8 F9,o9];cases I8 p.2.1 c<;>rfl
theorem Jw(p:Tx)(c:Int):(wiS p c).length<=p.1.length+2:=by unfold wiS;cases I8 p.2 c<;>simp
theorem arN(k:Int):1<=k/\k<=39\/arF k=-1:=by
 by_cases h:1<=k/\k<=39
 .exact .inl h
 .refine .inr ?_;unfold arF;rw[Vw h];rfl
variable {k:Int}
theorem ar0(h:arF k=0):k=1\/k=2\/k=3\/k=4\/k=5\/k=6\/k=7\/k=8\/k=9\/k=35\/k=36\/k=37\/k=38\/k=39:=by
 rcases arN k with h1|h1
 .obtain⟨j,rfl⟩:=QN h1;revert h;revert j;decide
 .omega
theorem ar1(h:arF k=1):k=10\/k=25\/k=31\/k=32\/k=33\/k=34:=by
 rcases arN k with h1|h1
 .obtain⟨j,rfl⟩:=QN h1;revert h;revert j;decide
 .omega
theorem ar2(h:arF k=2):k=11\/k=12\/k=13\/k=14\/k=15\/k=16\/k=17\/k=18\/k=19\/k=20\/k=21\/k=22\/k=23\/k=24\/k=27\/k=28\/k=29\/k=30:=by
 rcases arN k with h1|h1
 .obtain⟨j,rfl⟩:=QN h1;revert h;revert j;decide
 .omega
theorem ar3(h:arF k=3):k=26:=a9r h
variable {N:D7}{n:Int×Int}
theorem a0L{args:List H8}{p:Tx}(c:Int)(h1:Z5 n N=some c)(h2:W9 n args N=some (l9 (D5 c 0) ((p.1,p.2,yB n.1),0) (([],0,false),c))):BO n args N p:=⟨c,h1,h2⟩
variable {m:Int}
theorem a6B(hk:k=1\/k=2\/k=3\/k=4\/k=5)(hm:fJ m)(N:D7):∃c s,Z5 (k,m) N=some c/\lD (k,0,m) []=some (s,c):=by
 have b1:∀lo hi:Int,dR (k,0) []=some (lo,hi)->aS (k,0) []=some true->∃c s,Z5 (k,m) N=some c/\lD (k,0,m) []=some (s,c):=by
  intro lo hi hb hv;have hf:Z5 (k,m) N=some (l9 (I8 m lo) 3 (l9 (I8 hi m) 3 0)):=by
   unfold Z5 tN;simp only[X9 (show 1<=k by omega),X9 (show k<=5 by omega),o7,o9,hb];cases I8 m lo
   .cases I8 hi m<;>rfl
   .rfl
  have hw:qH m (k,0) []=some (l9 (V6 lo m) (V6 m hi) false):=by unfold qH;rw[Gv,hb,o9];cases V6 lo m<;>rfl
  rw[hf];obtain⟨t,ht,-⟩:=Et (B:=100) l7 l7 (v:=(k,0,m)) (en:=[]) hm (λe h=>by cases h);unfold lD at ht ⊢;simp only[sJ,hv,hw,o9,F5,o5]at ht ⊢;by_cases h1:lo<=m
  .by_cases h2:m<=hi
   .rw[X9 h1,X9 h2,o7,F5,o5]at ht ⊢;rw[O6 h1,O6 h2,o5,o5];refine⟨0,t.1,rfl,?_⟩;rw[ht];have e:t.2=0:=by
     rcases hk with rfl|rfl|rfl|rfl|rfl
     .simp (disch:=decide) only[J4,o7]at ht;revert ht;cases D5 m 1<;>cases D5 m 0<;>intro ht<;>cases ht<;>rfl
     .simp (disch:=decide) only[J4,I9,o7,o5,ny hm,o9,G5]at ht;rw[←ht]
     .simp (disch:=decide) only[J4,I9,o7,o5]at ht;rw[show dA m 2=_ from jv (k:=2) hm l7]at ht;simp only[o9,G5]at ht;rw[←ht]
     .simp (disch:=decide) only[J4,I9,o7,o5]at ht;have f4:=GH (k:=4) hm l7;rw[show dA m 4=_ from jv (k:=4) hm l7,o9,L8 F9]at ht;simp only[o9,G5]at ht;rw[←ht]
     .simp (disch:=decide) only[J4,I9,o7,o5,zZ,o9,G5]at ht;rw[←ht]
    rw[←e]
   .rw[X9 h1,bG l7,o7,P7,o7,O6 h1,Y0 l7,o5,o7];exact⟨3,[],rfl,rfl⟩
  .rw[bG l7,o5,P7,o7,Y0 l7,o7];exact⟨3,[],rfl,rfl⟩
 rcases hk with rfl|rfl|rfl|rfl|rfl
 .exact b1 0 1 rfl rfl
 .exact b1 _ _ rfl rfl
 .exact b1 _ _ rfl rfl
 .exact b1 _ _ rfl rfl
 .exact b1 _ _ rfl rfl
theorem AP(hk:k=1\/k=2\/k=3\/k=4\/k=5)(hm:fJ m)(N:D7):BO (k,m) [] N (sZ (k,m) N):=by
 obtain⟨c,s,h1,h2⟩:=a6B hk hm N;refine a0L c h1 ?_;have e:sZ (k,m) N=(s,l9 (I8 m 0) 6 7):=by unfold sZ;rw[X9 (show k<=5 by omega),o7,←wF [] hm,h2];rfl
 have hc:c=0\/c=3:=by
  unfold Z5 tN at h1;have h:=h1;simp only[X9 (show 1<=k by omega),X9 (show k<=5 by omega),o7,o9]at h;cases hb:dR (k,0) []with
  |none=>rw[hb]at h;cases h|some b=>rw[hb,o9]at h;cases hx:I8 m b.1<;>cases hy:I8 b.2 m<;>simp only[hx,hy,o7,o5,G5]at h<;>omega
 have hr:oC (k,m)=some (l9 (D5 c 0) ((s,l9 (l9 (yB k) (I8 m 0) false) 6 7,yB k),0) (([],0,false),c)):=by
  unfold oC yB;simp only[h2,o9];rcases hc with rfl|rfl
  .simp only[J4 (rfl:(0:Int)=0),F5,o5,o7,aJ,o9];cases I8 m 0<;>cases D5 k 2<;>cases D5 k 3<;>cases D5 k 4<;>rfl
  .rfl
 rw[e];unfold W9;rw[hr];have hneg:c=0->l9 (l9 (yB k) (I8 m 0) false) (6:Int) 7=l9 (I8 m 0) 6 7:=by
  intro h0;subst h0;cases hg:I8 m 0
  .cases yB k<;>rfl
  rcases hk with rfl|rfl|rfl|rfl|rfl
  .exfalso;unfold Z5 tN at h1;simp only[show dR (1,0) []=some (0,1)from rfl,X9 (show(1:Int)<=1 by omega),X9 (show(1:Int)<=5 by omega),o7,o9,hg,G5]at h1;omega
  .rfl
  .rfl
  .rfl
  .exfalso;unfold Z5 tN at h1;simp only[show dR (5,0) []=some (0,109572)from rfl,X9 (show(1:Int)<=5 by omega),X9 (show(5:Int)<=5 by omega),o7,o9,hg,G5]at h1;omega
 rcases hc with rfl|rfl
 .rw[hneg rfl];rcases hk with rfl|rfl|rfl|rfl|rfl<;>rfl
 .rcases hk with rfl|rfl|rfl|rfl|rfl<;>rfl
theorem IX{l:List (List UInt8)}{i:Int}(h0:0<=i)(h:i<x9 l):X0 l i=some (gtN l i)/\gtN l i∈l:=by obtain⟨x,h1,h2⟩:=ug h0 h;unfold gtN;rw[h1];exact⟨rfl,h2⟩
theorem IQ{l:List (List UInt8)}{B:Nat}(h:∀s∈l,s.length<=B)(i:Int):(gtN l i).length<=B:=by
 unfold gtN;cases hl:X0 l i with
 |none=>simp|some x=>exact h x (iQ hl).2.2.1
theorem NS(k m:Int)(args:List H8)(N:D7)(hk:k=6\/k=7\/k=8\/k=36\/k=37\/k=38\/k=39):W9 (k,m) args N=dZ (k,m) N:=by unfold W9;generalize hq:dZ (k,m) N=q;rcases hk with rfl|rfl|rfl|rfl|rfl|rfl|rfl<;>simp (disch:=decide) only[J4,I9,o7,o5,o9,hq]<;>cases q<;>rfl
theorem wW(hk:k=7\/k=8\/k=36\/k=37\/k=38\/k=39)(hN:NmOk N):BO (k,m) [] N (sZ (k,m) N):=by
 have key:∀(l:List (List UInt8)) (before after:List UInt8),(∀s∈l,s.length<=1000)->before.length<=100->after.length<=100->
   Z5 (k,m) N=l9 (I8 m 0) (some 6) (l9 (V6 (x9 l) m) (some 6) (some 0))->
   dZ (k,m) N=l9 (I8 m 0) (some (([],0,false),6))
    (l9 (V6 (x9 l) m) (some (([],0,false),6))
     (o6 (X0 l m) λ(x_1:List UInt8)=>
      o6 (Z7 before x_1) λ(x_2:List UInt8)=>
       o6 (Z7 x_2 after) λ(x:List UInt8)=>some ((x,7,false),0)))->
   sZ (k,m) N=(before++gtN l m++after,7)->BO (k,m) [] N (sZ (k,m) N):=by
  intro l before after hl hb ha hf0 hr he;have hf:Z5 (k,m) N=some (l9 (I8 m 0) 6 (l9 (V6 (x9 l) m) 6 0)):=by rw[hf0];cases I8 m 0<;>cases V6 (x9 l) m<;>rfl
  refine a0L _ hf ?_;have hnum:yB k=false:=by rcases hk with rfl|rfl|rfl|rfl|rfl|rfl<;>rfl
  rw[NS _ _ _ _ l7,hr,he,hnum];by_cases h0:m<0
  .rw[Y0 h0];rfl
  by_cases h1:x9 l<=m
  .simp only[O6 (show 0<=m by omega),X9 h1];rfl
  .have:=IX (l:=l) (i:=m) l7 l7;have h2:=hl _ this.2;simp only[O6 (show 0<=m by omega),bG (show m<x9 l by omega),o5,this.1,o9];rw[L8 l7,o9,L8 F9,o9];rfl
 have mem:∀k:Int,(k=36\/k=37\/k=38\/k=39)->dZ (k,m) N=l9 (I8 m 0) (some (([],0,false),6))
    (l9 (V6 (x9 N.2.2.2.2) m) (some (([],0,false),6))
     (o6 (X0 N.2.2.2.2 m) λ(x_1:List UInt8)=>
      o6 (Z7 (dB k++[40]) x_1) λ(x_2:List UInt8)=>
       o6 (Z7 x_2 [41]) λ(x:List UInt8)=>some ((x,7,false),0))):=by
  intro k hk;have hw:=uZ k;unfold dZ aJ;simp only[I9 (show k≠6 by omega),I9 (show k≠7 by omega),I9 (show k≠8 by omega),o5,qm,o9,L8 (a:=dB k) (b:=[40]) F9,J7]
 have lf:∀k:Int,(k=36\/k=37\/k=38\/k=39)->sZ (k,m) N=(dB k++[40]++gtN N.2.2.2.2 m++[41],7):=by intro k hk;unfold sZ;simp only[bG (show 5<k by omega),I9 (show k≠6 by omega),I9 (show k≠7 by omega),I9 (show k≠8 by omega),I9 (show k≠9 by omega),I9 (show k≠35 by omega),o5]
 have wl:=λk=>uZ k;rcases hk with rfl|rfl|rfl|rfl|rfl|rfl
 .refine key N.2.2.1 [] [] hN.i A7 A7 rfl ?_ ?_
  .unfold dZ aJ;simp (disch:=decide) only[J4,I9,o7,o5,o9,J7]
  .unfold sZ;simp (disch:=decide) only[J4,I9,bG,o7,o5];simp
 .refine key N.2.2.2.1 [] [] hN.d A7 A7 rfl ?_ ?_
  .unfold dZ aJ;simp (disch:=decide) only[J4,I9,o7,o5,o9,J7]
  .unfold sZ;simp (disch:=decide) only[J4,I9,bG,o7,o5];simp
 .exact key N.2.2.2.2 (dB 36++[40]) [41] hN.m F6 F6 rfl (mem _ l7) (lf _ l7)
 .exact key N.2.2.2.2 (dB 37++[40]) [41] hN.m F6 F6 rfl (mem _ l7) (lf _ l7)
 .exact key N.2.2.2.2 (dB 38++[40]) [41] hN.m F6 F6 rfl (mem _ l7) (lf _ l7)
 .exact key N.2.2.2.2 (dB 39++[40]) [41] hN.m F6 F6 rfl (mem _ l7) (lf _ l7)
theorem Ky(h:fJ m)(d:Int)(hd:d=8\/d=16):dX .i64 m d=m.tdiv d:=by
 refine JL ?_;unfold fJ at h ⊢;rcases hd with rfl|rfl
 all_goals
  rcases Int.lt_or_le m 0 with h0|h0
  .have e:=Int.neg_tdiv (a:=-m) (b:=8);have e' :=Int.neg_tdiv (a:=-m) (b:=16);rw[Int.neg_neg]at e e';have q1:=nz (a:=-m) (b:=8) l7;have q2:=nz (a:=-m) (b:=16) l7;omega
  .have q1:=nz (a:=m) (b:=8) l7;have q2:=nz (a:=m) (b:=16) l7;omega
theorem XL(hm:fJ m)(hN:NmOk N):BO (6,m) [] N (sZ (6,m) N):=by
 have hf:Z5 (6,m) N=(l9 (I8 m 0) (some 6)
    (l9 (V6 (x9 N.1) (dX .i64 m 16)) (some 6)
     (o6 (X0 N.1 (dX .i64 m 16)) λ(x:dU)=>
      l9 (V6 (x9 x.2) (iY m 16)) (some 6) (some 0)))):=rfl
 have hr:dZ (6,m) N=o6 (l9 (I8 m 0) (some (Sum.inr (([],0,false),6)))
   (l9 (V6 (x9 N.1) (dX IntKind.i64 m 16)) (some (Sum.inr (([],0,false),6)))
    (o6 (X0 N.1 (dX IntKind.i64 m 16)) λ(x:dU)=>
     o6 (Z7 x.1 [58]) λ(x_1:List UInt8)=>some (Sum.inl (([],0,false),x.2,iY m 16,x_1,[]))))) λ(o:H8×List (List UInt8)×Int×List UInt8×List UInt8⊕H8×Int)=>
 bP o
  (λ(x:H8×List (List UInt8)×Int×List UInt8×List UInt8)=>
   l9 (I8 x.2.2.1 0) (some (([],0,false),6))
    (l9 (V6 (x9 x.2.1) x.2.2.1) (some (([],0,false),6))
     (o6 (X0 x.2.1 x.2.2.1) λ(x_1:List UInt8)=>
      o6 (Z7 x.2.2.2.1 x_1) λ(x_2:List UInt8)=>
       o6 (Z7 x_2 x.2.2.2.2) λ(x:List UInt8)=>
        o6 (aJ x) λ(x:H8)=>some (x,0))))
  λ(r:H8×Int)=>some r:=rfl
 have hl:sZ (6,m) N=(((X0 N.1 (dX .i64 m 16)).getD ([],[])).1++[58]++gtN ((X0 N.1 (dX .i64 m 16)).getD ([],[])).2 (iY m 16),7):=rfl;unfold BO;rw[hf,NS _ _ _ _ l7,hr,hl];by_cases h0:m<0
 .rw[Y0 h0];exact⟨6,rfl,rfl⟩
 rw[O6 l7,o5,o5];by_cases h1:x9 N.1<=dX .i64 m 16
 .rw[X9 h1];exact⟨6,rfl,rfl⟩
 rw[bG l7,o5,o5];have hq:0<=dX .i64 m 16:=by rw[Ky hm 16 (.inr rfl),nz l7];omega
 obtain⟨e,he,hmem⟩:=ug (l:=N.1) hq l7;have hb:=hN.e e hmem;have hr0:iY m 16=m % 16:=yU l7;simp only[he,o9,bF,L8 (a:=e.1) (b:=[58]) F9,J7];rw[O6 (show 0<=iY m 16 by omega),o5];by_cases h2:x9 e.2<=iY m 16
 .rw[X9 h2];exact⟨6,rfl,rfl⟩
 rw[bG l7,o5,o5];have hg:=IX (l:=e.2) (i:=iY m 16) l7 l7;have h3:=hb.2 _ hg.2;refine⟨0,rfl,?_⟩;rw[hg.1,o9,L8 F9,o9,L8 F9,o9];simp only[aJ,o9,E5];rfl
theorem a4C :BO (9,0) [] N (sZ (9,0) N):=⟨0,rfl,rfl⟩
theorem a2l :BO (35,0) [] N (sZ (35,0) N):=⟨0,rfl,rfl⟩
theorem a7h(hN:NmOk N)(hm:fJ m)(ha:arF k=0)(hu:m=0\/cu k=some true):BO (k,m) [] N (sZ (k,m) N):=by
 have hz:(k=9\/k=35)->m=0:=by
  intro h;rcases hu with h1|h1
  .exact h1
  .exfalso;rcases h with rfl|rfl<;>exact absurd h1 F6
 rcases ar0 ha with rfl|rfl|rfl|rfl|rfl|rfl|rfl|rfl|rfl|rfl|rfl|rfl|rfl|rfl
 .exact AP l7 hm N
 .exact AP l7 hm N
 .exact AP l7 hm N
 .exact AP l7 hm N
 .exact AP l7 hm N
 .exact XL hm hN
 .exact wW l7 hN
 .exact wW l7 hN
 .rw[hz l7];exact a4C
 .rw[hz l7];exact a2l
 .exact wW l7 hN
 .exact wW l7 hN
 .exact wW l7 hN
 .exact wW l7 hN
theorem ZH(hm:fJ m)(hN:NmOk N)(a:H8)(h1:a.1.length<=1000000000):BO (33,m) [a] N (Jf (33,m) N b (a.1,a.2.1)):=by
 have hf:Z5 (33,m) N=l9 (I8 m 0) (some 6) (l9 (V6 (x9 N.2.1) m) (some 6) (some 0)):=rfl;have hr:W9 (33,m) [a] N=gW (33,m) a N:=by unfold W9;generalize hq:gW (33,m) a N=q;simp (disch:=decide) only[J4,I9,o7,o5,o9,lx0,hq];cases q<;>rfl
 have hx:Jf (33,m) N b (a.1,a.2.1)=(dB 33++[40]++gtN N.2.1 m++[44,32]++a.1++[41],7):=rfl;unfold BO;rw[hf,hr,hx];unfold gW aJ;simp (disch:=decide) only[J4,I9,o7,o5,o9,qm];by_cases h0:m<0
 .rw[Y0 h0];exact⟨6,rfl,rfl⟩
 rw[O6 l7,o5,o5];by_cases h2:x9 N.2.1<=m
 .rw[X9 h2];exact⟨6,rfl,rfl⟩
 rw[bG l7,o5,o5];have hg:=IX (l:=N.2.1) (i:=m) l7 l7;have h3:=hN.t _ hg.2;have hw:=uZ 33;refine⟨0,rfl,?_⟩;rw[o9,J7,L8 F9,o9,hg.1,o9,L8 F9,o9,L8 F9,o9,L8 F9,o9,L8 F9,o9];rfl
theorem Xm(h:0<=m):seq (jW m) []=I8 5 m:=by
 by_cases h5:m<=5
 .rw[O6 h5];obtain⟨k,rfl⟩:∃k:Fin 6,m=(k.val:Int):=⟨⟨m.toNat,l7⟩,by simp;omega⟩;revert k;decide
 .rw[Y0 l7];unfold jW dJ;simp only[I9 (show m≠0 by omega),I9 (show m≠1 by omega),I9 (show m≠2 by omega),I9 (show m≠3 by omega),I9 (show m≠4 by omega),I9 (show m≠5 by omega),o5];rfl
theorem a3K(h:m<0):seq (jW m) []=true:=by unfold jW dJ;simp only[I9 (show m≠0 by omega),I9 (show m≠1 by omega),I9 (show m≠2 by omega),I9 (show m≠3 by omega),I9 (show m≠4 by omega),I9 (show m≠5 by omega),o5];rfl
theorem XK(hm:fJ m)(hN:NmOk N)(a:H8)(h1:a.1.length<=1000000000):BO (34,m) [a] N (Jf (34,m) N b (a.1,a.2.1)):=by
 have hf:Z5 (34,m) N=l9 (I8 m 0) (some 6) (l9 (V6 (x9 N.2.1) (dX .i64 m 8)) (some 6) (l9 (I8 5 (iY m 8)) (some 3) (some 0))):=rfl;have hr:W9 (34,m) [a] N=gW (34,m) a N:=by unfold W9;generalize hq:gW (34,m) a N=q;simp (disch:=decide) only[J4,I9,o7,o5,o9,lx0,hq];cases q<;>rfl
 have hx:Jf (34,m) N b (a.1,a.2.1)=(dB 34++[40]++gtN N.2.1 (dX .i64 m 8)++[44,32]++a.1++[44,32]++jW (iY m 8)++[41],7):=rfl;unfold BO;rw[hf,hr,hx];unfold gW aJ;simp (disch:=decide) only[J4,I9,o7,o5,o9,qm,Fh];by_cases h0:m<0
 .rw[Y0 h0,O6 (show m<=0 by omega)];simp only[o7,o5,o9,Y0 h0,jg];exact⟨6,rfl,rfl⟩
 have hq:dX .i64 m 8=m / 8:=by rw[Ky hm 8 (.inl rfl),nz l7]
 have hi:(l9 (I8 0 m) (some (dX .i64 m 8)) (some m):Option Int)=some (dX .i64 m 8):=by
  by_cases h:0<m
  .rw[Y0 h];rfl
  .rw[O6 l7,o5,show dX .i64 m 8=m by omega]
 rw[hi,o9,O6 (show 0<=m by omega),o5,O6 (show 0<=dX .i64 m 8 by omega),o5];by_cases h2:x9 N.2.1<=dX .i64 m 8
 .rw[X9 h2];exact⟨6,rfl,rfl⟩
 rw[bG l7,o5,o5];have hg:=IX (l:=N.2.1) (i:=dX .i64 m 8) l7 l7;have h3:=hN.t _ hg.2;have hw:=uZ 34;have hm:=JS (iY m 8);have hr0:iY m 8=m % 8:=yU l7;rw[o9,J7,L8 F9,o9,hg.1,o9,L8 F9,o9,L8 F9,o9,L8 F9,o9,Xm (show 0<=iY m 8 by omega)];cases I8 5 (iY m 8)
 .refine⟨0,rfl,?_⟩;rw[o5,L8 F9,o9,L8 F9,o9,L8 F9,o9];simp[l9];rfl
 .exact⟨3,rfl,rfl⟩
theorem a7i(hN:NmOk N)(hm:fJ m)(ha:arF k=1)(hu:m=0\/cu k=some true)(a:H8)(h1:a.1.length<=1000000000):BO (k,m) [a] N (Jf (k,m) N a.2.2 (a.1,a.2.1)):=by
 have hz:(k=10\/k=25\/k=31\/k=32)->m=0:=by
  intro h;rcases hu with h1|h1
  .exact h1
  .exfalso;rcases h with rfl|rfl|rfl|rfl<;>exact absurd h1 F6
 have hw:=Jw (a.1,a.2.1) 6;simp only at hw;rcases ar1 ha with rfl|rfl|rfl|rfl|rfl|rfl
 .rw[hz l7];refine⟨0,rfl,?_⟩;unfold W9 Jf;simp (disch:=decide) only[J4,I9,o7,o5,o9,lx0,Di a 6 h1];cases h:a.2.2
  .simp only[o5,o7];rw[L8 F9,o9,o9,jg];rfl
  .simp only[o7];rw[L8 F9,o9,L8 F9,o9,L8 F9,o9,o9,jg];rfl
 .rw[hz l7];refine⟨0,rfl,?_⟩;unfold W9 Jf;simp (disch:=decide) only[J4,I9,o7,o5,o9,lx0,Di a 6 h1];rw[L8 F9,o9,o9,jg];rfl
 .rw[hz l7];refine⟨0,rfl,?_⟩;have hl:=uZ 31;unfold W9 Jf aJ;simp (disch:=decide) only[J4,I9,o7,o5,o9,lx0,qm];rw[L8 F9,o9,L8 F9,o9,L8 F9,o9,o9,jg];rfl
 .rw[hz l7];refine⟨0,rfl,?_⟩;have hl:=uZ 32;unfold W9 Jf aJ;simp (disch:=decide) only[J4,I9,o7,o5,o9,lx0,qm];rw[L8 F9,o9,L8 F9,o9,L8 F9,o9,o9,jg];rfl
 .exact ZH hm hN a h1
 .exact XK hm hN a h1
theorem ZF(hk:k=17\/k=18\/k=27\/k=28\/k=29\/k=30)(a b:H8)(h1:a.1.length<=1000000000)(h2:b.1.length<=1000000000):BO (k,0) [a,b] N (Ee (k,0) (a.1,a.2.1) (b.1,b.2.1)):=by
 have hl:=uZ k;rcases hk with rfl|rfl|rfl|rfl|rfl|rfl
 all_goals
  refine⟨0,rfl,?_⟩;unfold W9 Ee aJ Px;simp (disch:=decide) only[J4,I9,o7,o5,o9,lx0,lx1,qm];rw[L8 F9,o9,L8 F9,o9,L8 F9,o9,L8 F9,o9,L8 F9,o9,o9,jg];rfl
theorem ZG(hk:k=14\/k=15\/k=16)(a b:H8)(h1:a.1.length<=1000000000)(h2:b.1.length<=1000000000):BO (k,m) [a,b] N (Ee (k,m) (a.1,a.2.1) (b.1,b.2.1)):=by
 have hl:=uZ k;have hm:=JS m;have hf:Z5 (k,m) N=some (l9 (seq (jW m) []) 3 0):=by
  have:Z5 (k,m) N=l9 (I8 m 0) (some 3) (l9 (I8 5 m) (some 3) (some 0)):=by rcases hk with rfl|rfl|rfl<;>rfl
  rw[this];by_cases h0:m<0
  .rw[Y0 h0,a3K h0];rfl
  .rw[O6 l7,Xm l7];cases I8 5 m<;>rfl
 refine a0L _ hf ?_;rcases hk with rfl|rfl|rfl
 all_goals
  unfold W9 Ee aJ Px VH;simp (disch:=decide) only[J4,I9,o7,o5,o9,lx0,lx1,qm,Fh];cases seq (jW m) []
  .rw[o5,L8 F9,o9,L8 F9,o9,L8 F9,o9,L8 F9,o9,L8 F9,o9,L8 F9,o9,L8 F9,o9,o9,jg];rfl
  .rfl
theorem ZE(hk:k=11\/k=12\/k=13\/k=19\/k=20\/k=21\/k=22\/k=23\/k=24)(a b:H8)(h1:a.1.length<=1000000)(h2:b.1.length<=1000000):BO (k,0) [a,b] N (Ee (k,0) (a.1,a.2.1) (b.1,b.2.1)):=by
 have hl:=a1b k;have hc:1<=(jy k).2/\(jy k).2<=5:=by rcases hk with rfl|rfl|rfl|rfl|rfl|rfl|rfl|rfl|rfl<;>decide
 have w1:=Jw (a.1,a.2.1) 4;have w2:=Jw (a.1,a.2.1) (jy k).2;have w3:=Jw (b.1,b.2.1) ((jy k).2+1);simp only at w1 w2 w3;have hx:W9 (k,0) [a,b] N=o6 (gm k) λ(x:List UInt8×Int)=>
    l9 (D5 x.2 3)
     (o6 (eX a 4) λ(x_2:List UInt8)=>
       o6 (Z7 x_2 [32]) λ(x_3:List UInt8)=>
        o6 (Z7 x_3 x.1) λ(x_4:List UInt8)=>
         o6 (Z7 x_4 [32]) λ(x_5:List UInt8)=>
           o6 (eX b (I5 IntKind.i64 x.2 1)) λ(x_7:List UInt8)=>
            o6 (Z7 x_5 x_7) λ(x_8:List UInt8)=>some ((x_8,x.2,false),0))
     (o6 (eX a x.2) λ(x_2:List UInt8)=>
       o6 (Z7 x_2 [32]) λ(x_3:List UInt8)=>
        o6 (Z7 x_3 x.1) λ(x_4:List UInt8)=>
         o6 (Z7 x_4 [32]) λ(x_5:List UInt8)=>
           o6 (eX b (I5 IntKind.i64 x.2 1)) λ(x_7:List UInt8)=>
            o6 (Z7 x_5 x_7) λ(x_8:List UInt8)=>some ((x_8,x.2,false),0)):=by
  rcases hk with rfl|rfl|rfl|rfl|rfl|rfl|rfl|rfl|rfl<;>rfl
 have hf:Z5 (k,0) N=some 0:=by rcases hk with rfl|rfl|rfl|rfl|rfl|rfl|rfl|rfl|rfl<;>rfl
 have hn:yB k=false:=by rcases hk with rfl|rfl|rfl|rfl|rfl|rfl|rfl|rfl|rfl<;>rfl
 have hb:Px k=false/\VH k=false:=by rcases hk with rfl|rfl|rfl|rfl|rfl|rfl|rfl|rfl|rfl<;>exact⟨rfl,rfl⟩
 refine a0L _ hf ?_;rw[hx,a0Q,o9];unfold Ee;simp only[hb.1,hb.2,hn,o5,aA (show fJ ((jy k).2+1) by unfold fJ;omega)];rw[Di a 4 l7,Di a _ l7,Di b _ l7];simp only[o9];cases D5 (jy k).2 3
 .simp only[o5];rw[L8 F9,o9,L8 F9,o9,L8 F9,o9,L8 F9,o9];rfl
 .simp only[o7];rw[L8 F9,o9,L8 F9,o9,L8 F9,o9,L8 F9,o9];rfl
theorem a7j(ha:arF k=2)(hu:m=0\/cu k=some true)(a b:H8)(h1:a.1.length<=1000000)(h2:b.1.length<=1000000):BO (k,m) [a,b] N (Ee (k,m) (a.1,a.2.1) (b.1,b.2.1)):=by
 have hz:¬(k=14\/k=15\/k=16)->m=0:=by
  intro h;rcases hu with h1|h1
  .exact h1
  .exfalso;rcases ar2 ha with rfl|rfl|rfl|rfl|rfl|rfl|rfl|rfl|rfl|rfl|rfl|rfl|rfl|rfl|rfl|rfl|rfl|rfl<;>first|omega|exact absurd h1 F6
 by_cases h:k=14\/k=15\/k=16
 .exact ZG h a b l7 l7
 rw[hz h];by_cases h' :k=17\/k=18\/k=27\/k=28\/k=29\/k=30
 .exact ZF h' a b l7 l7
 .exact ZE (by have:=ar2 ha;omega) a b h1 h2
theorem a7k(hu:m=0\/cu 26=some true)(a b c:H8)(h1:a.1.length<=1000000)(h2:b.1.length<=1000000)(h3:c.1.length<=1000000):BO (26,m) [a,b,c] N (ifX (a.1,a.2.1) (b.1,b.2.1) (c.1,c.2.1)):=by
 have hz:m=0:=by
  rcases hu with h1|h1
  .exact h1
  .exact absurd h1 F6
 rw[hz];refine⟨0,rfl,?_⟩;unfold W9 ifX;simp (disch:=decide) only[J4,I9,o7,o5,o9,lx0,lx1,lx2];rw[L8 F9,o9,L8 F9,o9,L8 F9,o9,L8 F9,o9,L8 F9,o9,o9,jg];rfl
def flS(n:Int×Int)(N:D7):Int:=(Z5 n N).getD 0
theorem Za{c:Int}(h:Z5 n N=some c):flS n N=c:=by unfold flS;rw[h];rfl
theorem a7R(h:0<=arF k):cu k=some true\/cu k=some false:=by
 rcases arN k with h1|h1
 .obtain⟨j,rfl⟩:=QN h1;revert h;revert j;decide
 .omega
theorem a8q(ha:0<=arF k)(hm:m≠0)(hu:cu k=some false):Z5 (k,m) N=some 2:=by
 have h3:arF k=0\/arF k=1\/arF k=2\/arF k=3:=by have:=(Pn k).2.2;omega
 have key:Z5 (k,m) N=l9 (H9 (D5 m 0)) (some 2) (some 0)->Z5 (k,m) N=some 2:=by intro h;rw[h,I9 hm];rfl
 rcases h3 with h|h|h|h
 .rcases ar0 h with rfl|rfl|rfl|rfl|rfl|rfl|rfl|rfl|rfl|rfl|rfl|rfl|rfl|rfl<;>first|exact absurd hu F6|exact key rfl
 .rcases ar1 h with rfl|rfl|rfl|rfl|rfl|rfl<;>first|exact absurd hu F6|exact key rfl
 .rcases ar2 h with rfl|rfl|rfl|rfl|rfl|rfl|rfl|rfl|rfl|rfl|rfl|rfl|rfl|rfl|rfl|rfl|rfl|rfl<;>first|exact absurd hu F6|exact key rfl
 .have:=ar3 h;subst this;exact key rfl
def fmF(a0:List (Int×Int))(a1:D7)(x:List H8×Int):Option (Out (List H8×Int) (List H8) (List UInt8×Int)):=
     l9 (I8 x.2 (x9 a0))
      (o6 (X0 a0 x.2) λ(x_1:Int×Int)=>
       l9 (H9 (D5 x_1.2 0))
        (o6 (cu x_1.1) λ(x_2:Bool)=>
         l9 (H9 x_2) (some (Out.rt ([],2)))
          (o6 (kW x_1.1) λ(x_3:Int)=>
           l9 (mJ (ae IntKind.i64 (x9 x.1) x_3) (x9 x.1) (x9 x.1))
            (o6
             (W9 x_1 (kN x.1 (jC (ae IntKind.i64 (x9 x.1) x_3)) (jC (x9 x.1))) a1)
             λ(x_4:H8×Int)=>
             l9 (H9 (D5 x_4.2 0)) (some (Out.rt ([],x_4.2)))
              (l9 (mJ 0 (ae IntKind.i64 (x9 x.1) x_3) (x9 x.1))
               (o6 (jV (kN x.1 (jC 0) (jC (ae IntKind.i64 (x9 x.1) x_3))) [x_4.1])
                λ(x_5:List H8)=>some (Out.nx (x_5,I5 IntKind.i64 x.2 1)))
               none))
            none))
        (o6 (kW x_1.1) λ(x_2:Int)=>
         l9 (mJ (ae IntKind.i64 (x9 x.1) x_2) (x9 x.1) (x9 x.1))
          (o6 (W9 x_1 (kN x.1 (jC (ae IntKind.i64 (x9 x.1) x_2)) (jC (x9 x.1))) a1)
           λ(x_3:H8×Int)=>
           l9 (H9 (D5 x_3.2 0)) (some (Out.rt ([],x_3.2)))
            (l9 (mJ 0 (ae IntKind.i64 (x9 x.1) x_2) (x9 x.1))
             (o6 (jV (kN x.1 (jC 0) (jC (ae IntKind.i64 (x9 x.1) x_2))) [x_3.1])
              λ(x_4:List H8)=>some (Out.nx (x_4,I5 IntKind.i64 x.2 1)))
             none))
          none))
      (some (Out.ex x.1))
def fmG(N:D7)(n:Int×Int)(p:List H8)(x:Tx)(i:Nat):Option (Out (List H8×Int) (List H8) (List UInt8×Int)):=
 some (l9 (D5 (flS n N) 0) (.nx (p++[(x.1,x.2,yB n.1)],((i+1:Nat):Int))) (.rt ([],flS n N)))
variable {e:List (Int×Int)}
theorem a6r{i:Nat}{p args:List H8}{x:Tx}(hn:e[i]? =some n)(hi:i<=1000)(hp:p.length<=1000)(hl:args.length<=3)(ha:arF n.1=(args.length:Int))
  (hr:(n.2=0\/cu n.1=some true)->BO n args N x):fmF e N (p++args,(i:Int))=fmG N n p x i:=by
 have hx:ae .i64 (x9 (p++args)) (arF n.1)=(p.length:Int):=by rw[fA (by unfold fJ x9;simp;omega),ha];unfold x9;simp
 have r1:mJ (p.length:Int) (x9 (p++args)) (x9 (p++args))=true:=by unfold mJ x9;simp<;>omega
 have r2:mJ 0 (p.length:Int) (x9 (p++args))=true:=by unfold mJ x9;simp<;>omega
 have v1:kN (p++args) (jC (p.length:Int)) (jC (x9 (p++args)))=args:=by unfold kN jC x9;rw[D8,D8,P6 (C9 _),X4]
 have v2:kN (p++args) (jC 0) (jC (p.length:Int))=p:=by unfold kN jC;rw[D8,eF];rfl
 have main:(n.2=0\/cu n.1=some true)->(o6 (kW n.1) λ(x_2:Int)=>
         l9 (mJ (ae IntKind.i64 (x9 (p++args)) x_2) (x9 (p++args)) (x9 (p++args)))
          (o6 (W9 n (kN (p++args) (jC (ae IntKind.i64 (x9 (p++args)) x_2)) (jC (x9 (p++args)))) N)
           λ(x_3:H8×Int)=>
           l9 (H9 (D5 x_3.2 0)) (some (Out.rt ([],x_3.2)))
            (l9 (mJ 0 (ae IntKind.i64 (x9 (p++args)) x_2) (x9 (p++args)))
             (o6 (jV (kN (p++args) (jC 0) (jC (ae IntKind.i64 (x9 (p++args)) x_2))) [x_3.1])
              λ(x_4:List H8)=>some (Out.nx (x_4,I5 IntKind.i64 (i:Int) 1)))
             none))
          none)=fmG N n p x i:=by
  intro hu;obtain⟨c,h1,h2⟩:=hr hu;rw[a2N,o9,hx,r1,o7,v1,h2,o9,r2,v2];unfold fmG;rw[Za h1];cases hc:D5 c 0
  .rw[o5];simp only[hc,P7,o7];rfl
  .rw[o7];simp only[J4 (rfl:(0:Int)=0),F5,o5,o7];rw[nJ _ l7,o9,Z8 l7]
 unfold fmF;simp only[V8 hn,o7,V4,hn,o9];by_cases h0:n.2=0
 .rw[J4 h0,F5,o5];exact main (.inl h0)
 .rw[I9 h0,P7,o7];rcases a7R (k:=n.1) l7 with hu|hu
  .rw[hu,o9,F5,o5];exact main (.inr hu)
  .rw[hu,o9,P7,o7];unfold fmG;rw[Za (a8q (k:=n.1) (m:=n.2) l7 h0 hu)];rfl
def ffS(N:D7):List (Int×Int)->Int
 |[]=>0|n::l=>l9 (D5 (flS n N) 0) (ffS N l) (flS n N)
theorem IP(N:D7):∀a b,ffS N (a++b)=l9 (D5 (ffS N a) 0) (ffS N b) (ffS N a)
 |[],b=>by rw[show ffS N []=0 from rfl,J4 rfl];rfl|n::a,b=>by
  show l9 (D5 (flS n N) 0) (ffS N (a++b)) (flS n N)=l9 (D5 (l9 (D5 (flS n N) 0) (ffS N a) (flS n N)) 0) (ffS N b) (l9 (D5 (flS n N) 0) (ffS N a) (flS n N));rw[IP N a b];cases h:D5 (flS n N) 0
  .simp only[o5,h]
  .simp only[o7]
theorem a3z(hN:NmOk N)(hI:fJ n.2):(sZ n N).1.length<=3000:=by
 unfold sZ;have hw:=uZ n.1;have g1:=IQ hN.i n.2;have g2:=IQ hN.d n.2;have g3:=IQ hN.m n.2;have hv:((xH (n.1,0,n.2) []).getD ([],0)).1.length<=100:=by obtain⟨t,ht,hl⟩:=Et (B:=100) l7 l7 (v:=(n.1,0,n.2)) (en:=[]) hI (λe h=>by cases h);rw[←wF [] hI,ht];exact hl
 have he:((X0 N.1 (dX .i64 n.2 16)).getD ([],[])).1.length<=1000/\(gtN ((X0 N.1 (dX .i64 n.2 16)).getD ([],[])).2 (iY n.2 16)).length<=1000:=by
  cases hx:X0 N.1 (dX .i64 n.2 16)with
  |none=>exact⟨A7,IQ (B:=1000) (λs h=>by cases h) _⟩|some e=>have:=hN.e e (iQ hx).2.2.1;exact⟨this.1,IQ this.2 _⟩
 cases V6 n.1 5
 case true=>simp only[o7];omega
 cases D5 n.1 6
 case true=>simp only[o7,o5];simp;omega
 cases D5 n.1 7
 case true=>simp only[o7,o5];omega
 cases D5 n.1 8
 case true=>simp only[o7,o5];omega
 cases D5 n.1 9
 case true=>simp[l9]
 cases D5 n.1 35
 case true=>simp[l9]
 .simp only[o5];simp;omega
theorem a6Q(hN:NmOk N)(b:Bool)(a:Tx):(Jf n N b a).1.length<=a.1.length+3000:=by
 unfold Jf;have hw:=uZ n.1;have hm:=JS (iY n.2 8);have g1:=IQ hN.t n.2;have g2:=IQ hN.t (dX .i64 n.2 8);have w:=Jw a 6;cases D5 n.1 33
 case true=>simp only[o7];simp;omega
 cases D5 n.1 34
 case true=>simp only[o7,o5];simp;omega
 cases D5 n.1 25
 case true=>simp only[o7,o5];simp;omega
 cases D5 n.1 10
 case true=>simp only[o7,o5];cases b<;>simp<;>omega
 .simp only[o5];simp;omega
theorem a7P(a b:Tx):(Ee n a b).1.length<=a.1.length+b.1.length+3000:=by
 unfold Ee;have hw:=uZ n.1;have hm:=JS n.2;have hs:=a1b n.1;have w1:=Jw a (l9 (D5 (jy n.1).2 3) 4 (jy n.1).2);have w2:=Jw b ((jy n.1).2+1);cases Px n.1
 case true=>simp only[o7];simp;omega
 cases VH n.1
 case true=>simp only[o7,o5];simp;omega
 .simp only[o5];simp;omega
theorem yI{N:D7}(hN:NmOk N):∀(t:XT),(∀n∈t.post,fJ n.2)->(txT N t).1.length<=3000*t.size
 | .l0 n,h=>a3z hN (h n (by simp[XT.post]))| .l1 n a,h=>by have h1:=yI hN a (λm hm=>h m (by simp[XT.post,hm]));have h2:=a6Q (n:=n) hN (yB a.node.1) (txT N a);simp only[txT,XT.size];omega| .l2 n a b,h=>by have h1:=yI hN a (λm hm=>h m (by simp[XT.post,hm]));have h2:=yI hN b (λm hm=>h m (by simp[XT.post,hm]));have h3:=a7P (n:=n) (txT N a) (txT N b);simp only[txT,XT.size];omega| .l3 n a b c,h=>by have h1:=yI hN a (λm hm=>h m (by simp[XT.post,hm]));have h2:=yI hN b (λm hm=>h m (by simp[XT.post,hm]));have h3:=yI hN c (λm hm=>h m (by simp[XT.post,hm]));simp only[txT,XT.size,ifX];simp;omega
theorem bJ{σ ε ρ:Type}(f:σ->Option (Out σ ε ρ))(n:Nat)(s:σ):dW f (n+1) s=match f s with|some (.nx s')=>dW f n s'|some (.ex e)=>some (.inl e)|some (.rt r)=>some (.inr r)|none=>none:=by rw[dW]<;>rfl
theorem a6s(he:e.length<=48)(hN:NmOk N)(hI:∀n∈e,fJ n.2):∀(t:XT) (pre suf:List (Int×Int)) (p:List H8) (m:Nat),e=pre++t.post++suf->t.wf->p.length+t.size<=60->
  dW (fmF e N) (m+t.size) (p,(pre.length:Int))=l9 (D5 (ffS N t.post) 0) (dW (fmF e N) m (p++[pcT N t],((pre.length+t.size:Nat):Int))) (some (.inr ([],ffS N t.post))):=by
 have stepN:∀(n:Int×Int) (pre suf:List (Int×Int)) (p args:List H8) (x:Tx) (m:Nat),e=pre++[n]++suf->p.length<=60->args.length<=3->arF n.1=(args.length:Int)->((n.2=0\/cu n.1=some true)->BO n args N x)->
   dW (fmF e N) (m+1) (p++args,(pre.length:Int))=l9 (D5 (flS n N) 0) (dW (fmF e N) m (p++[(x.1,x.2,yB n.1)],((pre.length+1:Nat):Int))) (some (.inr ([],flS n N))):=by
  intro n pre suf p args x m h1 h2 h3 h4 h5;have hn:e[pre.length]? =some n:=by rw[h1,E9,F7 (C9 _),aI];rfl
  have hlt:=(aO.1 hn).1;rw[bJ,a6r hn l7 l7 h3 h4 h5];unfold fmG;cases D5 (flS n N) 0<;>rfl
 intro t;induction t with
 |l0 n=>
  intro pre suf p m h hw hs;have hI1:=hI n (by rw[h];simp[XT.post]);have:=stepN n pre suf p [] (sZ n N) m h l7 A7 hw (λhu=>a7h hN hI1 hw hu);rw[E5]at this;rw[show(XT.l0 n).size=1 from rfl,this];unfold XT.post ffS ffS;cases hf:D5 (flS n N) 0
  .simp only[o5,hf]
  .simp only[o7,J4 (rfl:(0:Int)=0)];rfl
 |l1 n a iha=>
  intro pre suf p m h hw hs;simp only[XT.post,XT.size]at h hs ⊢;have hI1:=hI n (by rw[h];simp);have hIa:∀n∈a.post,fJ n.2:=λq hq=>hI q (by rw[h];simp[hq]);have hl:=yI hN a hIa;rw[show m+(a.size+1)=(m+1)+a.size by omega,iha pre ([n]++suf) p (m+1) (by rw[h];simp) hw.2 l7,IP];cases hf:D5 (ffS N a.post) 0
  .simp only[o5,hf]
  have:=stepN n (pre++a.post) suf p [pcT N a] (Jf n N (yB a.node.1) (txT N a)) m (by rw[h];simp) l7 A7 hw.1 (λhu=>a7i hN hI1 hw.1 hu (pcT N a) (by simp only[pcT];omega));rw[show(pre++a.post).length=pre.length+a.size by simp[XT.post_len]]at this;simp only[o7];rw[this];unfold ffS ffS;cases hg:D5 (flS n N) 0
  .simp only[o5,hg]
  .simp only[o7,J4 (rfl:(0:Int)=0)];rfl
 |l2 n a b iha ihb=>
  intro pre suf p m h hw hs;simp only[XT.post,XT.size]at h hs ⊢;have hI1:=hI n (by rw[h];simp);have hIa:∀n∈a.post,fJ n.2:=λq hq=>hI q (by rw[h];simp[hq]);have hIb:∀n∈b.post,fJ n.2:=λq hq=>hI q (by rw[h];simp[hq]);have hla:=yI hN a hIa;have hlb:=yI hN b hIb;have s1:=a.size_pos;have s2:=b.size_pos;rw[show m+(a.size+b.size+1)=(m+1+b.size)+a.size by omega,iha pre (b.post++[n]++suf) p (m+1+b.size) (by rw[h];simp) hw.2.1 l7,IP,IP];cases hf:D5 (ffS N a.post) 0
  .simp only[o5,hf]
  have i2:=ihb (pre++a.post) ([n]++suf) (p++[pcT N a]) (m+1) (by rw[h];simp) hw.2.2 F9;rw[show(pre++a.post).length=pre.length+a.size by simp[XT.post_len]]at i2;simp only[o7];rw[i2];cases hf2:D5 (ffS N b.post) 0
  .simp only[o5,hf2]
  have:=stepN n (pre++a.post++b.post) suf p [pcT N a,pcT N b] (Ee n (txT N a) (txT N b)) m (by rw[h];simp) l7 A7 hw.1 (λhu=>a7j hw.1 hu (pcT N a) (pcT N b) (by simp only[pcT];omega) (by simp only[pcT];omega));rw[show(pre++a.post++b.post).length=pre.length+a.size+b.size by simp[XT.post_len];omega,show pre.length+a.size+b.size+1=pre.length+(a.size+b.size+1) by omega]at this;simp only[o7];rw[show p++[pcT N a]++[pcT N b]=p++[pcT N a,pcT N b] by simp,this];unfold ffS ffS;cases hg:D5 (flS n N) 0
  .simp only[o5,hg]
  .simp only[o7,J4 (rfl:(0:Int)=0)];rfl
 |l3 n a b c iha ihb ihc=>
  intro pre suf p m h hw hs;simp only[XT.post,XT.size]at h hs ⊢;have hI1:=hI n (by rw[h];simp);have hIa:∀n∈a.post,fJ n.2:=λq hq=>hI q (by rw[h];simp[hq]);have hIb:∀n∈b.post,fJ n.2:=λq hq=>hI q (by rw[h];simp[hq]);have hIc:∀n∈c.post,fJ n.2:=λq hq=>hI q (by rw[h];simp[hq]);have hla:=yI hN a hIa;have hlb:=yI hN b hIb;have hlc:=yI hN c hIc;have s1:=a.size_pos;have s2:=b.size_pos;have s3:=c.size_pos;have h26:=ar3 hw.1;rw[show m+(a.size+b.size+c.size+1)=(m+1+c.size+b.size)+a.size by omega,iha pre (b.post++c.post++[n]++suf) p (m+1+c.size+b.size) (by rw[h];simp) hw.2.1 l7,IP,IP,IP];cases hf:D5 (ffS N a.post) 0
  .simp only[o5,hf]
  have i2:=ihb (pre++a.post) (c.post++[n]++suf) (p++[pcT N a]) (m+1+c.size) (by rw[h];simp) hw.2.2.1 F9;rw[show(pre++a.post).length=pre.length+a.size by simp[XT.post_len]]at i2;simp only[o7];rw[i2];cases hf2:D5 (ffS N b.post) 0
  .simp only[o5,hf2]
  have i3:=ihc (pre++a.post++b.post) ([n]++suf) (p++[pcT N a]++[pcT N b]) (m+1) (by rw[h];simp) hw.2.2.2 F9;rw[show(pre++a.post++b.post).length=pre.length+a.size+b.size by simp[XT.post_len];omega]at i3;simp only[o7];rw[i3];cases hf3:D5 (ffS N c.post) 0
  .simp only[o5,hf3]
  have:=stepN n (pre++a.post++b.post++c.post) suf p [pcT N a,pcT N b,pcT N c] (ifX (txT N a) (txT N b) (txT N c)) m (by rw[h];simp) l7 A7 hw.1 (λhu=>by obtain⟨k,v⟩:=n;simp only at h26 hu;subst h26;exact a7k hu (pcT N a) (pcT N b) (pcT N c) (by simp only[pcT];omega) (by simp only[pcT];omega) (by simp only[pcT];omega))
  rw[show(pre++a.post++b.post++c.post).length=pre.length+a.size+b.size+c.size by simp[XT.post_len];omega,show pre.length+a.size+b.size+c.size+1=pre.length+(a.size+b.size+c.size+1) by omega]at this;simp only[o7];rw[show p++[pcT N a]++[pcT N b]++[pcT N c]=p++[pcT N a,pcT N b,pcT N c] by simp,this];unfold ffS ffS;cases hg:D5 (flS n N) 0
  .simp only[o5,hg]
  .simp only[o7,J4 (rfl:(0:Int)=0)];rfl
def tY(e:List (Int×Int))(N:D7):List UInt8×Int:=match oK e with
 | .inl x=>([],x.2)| .inr t=>l9 (D5 (ffS N e) 0) ((txT N t).1,0) ([],ffS N e)
theorem UY(hN:NmOk N)(hI:∀n∈e,fJ n.2):jl e N=some (tY e N):=by
 unfold jl rQ tY;rw[zG];unfold xQ;cases h:oK e with
 |inl x=>simp only[o9,I9 (BH h)];rfl|inr t=>
  obtain⟨h1,h2,h3,h4⟩:=a2O h;obtain⟨hp,-⟩:=wX h;simp only[o9,J4 (rfl:(0:Int)=0),F5,o5];have hl:P8 (fmF e N) ([],0)=some (l9 (D5 (ffS N e) 0) (.inl [pcT N t]) (.inr ([],ffS N e))):=by
   unfold P8;rw[show au=(au -t.size)+t.size by unfold au;omega];have:=a6s h2 hN hI t [] [] [] (au -t.size) (by simp[←hp]) (Hq h) F9;rw[show(([]:List (Int×Int)).length:Int)=0 from rfl]at this;rw[this,←hp];cases D5 (ffS N e) 0
   .rfl
   .simp only[o7];rw[show au -t.size=(au -t.size -1)+1 by unfold au;omega];rw[bJ];unfold fmF;simp only[H6,fE];rw[←h3,show I8 ((e.length:Nat):Int) (x9 e)=false from aG e];rfl
  refine J3 hl ?_;rw[o9];cases D5 (ffS N e) 0<;>rfl
theorem Bi{l:List (List UInt8)}(hf:Z5 n N=l9 (I8 n.2 0) (some 6) (l9 (V6 (x9 l) n.2) (some 6) (some 0)))(h:flS n N=0):X0 l n.2=some (gtN l n.2):=by
 unfold flS at h;rw[hf]at h;by_cases h0:n.2<0
 .rw[Y0 h0]at h;cases h
 by_cases h1:x9 l<=n.2
 .rw[O6 l7,X9 h1]at h;cases h
 exact(IX l7 l7).1
theorem Z_(hm:fJ m)(h:flS (34,m) N=0):X0 N.2.1 (dX .i64 m 8)=some (gtN N.2.1 (dX .i64 m 8))/\0<=iY m 8/\iY m 8<=5:=by
 have hf:Z5 (34,m) N=l9 (I8 m 0) (some 6) (l9 (V6 (x9 N.2.1) (dX .i64 m 8)) (some 6) (l9 (I8 5 (iY m 8)) (some 3) (some 0))):=rfl;unfold flS at h;rw[hf]at h;by_cases h0:m<0
 .rw[Y0 h0]at h;cases h
 by_cases h1:x9 N.2.1<=dX .i64 m 8
 .rw[O6 l7,X9 h1]at h;cases h
 by_cases h2:5<iY m 8
 .rw[O6 l7,bG l7,Y0 h2]at h;cases h
 have hq:dX .i64 m 8=m / 8:=by rw[Ky hm 8 (.inl rfl),nz l7]
 have hr0:iY m 8=m % 8:=yU l7;exact⟨(IX l7 l7).1,l7,l7⟩
theorem a3m(hk:k=14\/k=15\/k=16)(h:flS (k,m) N=0):0<=m/\m<=5:=by
 have hf:Z5 (k,m) N=l9 (I8 m 0) (some 3) (l9 (I8 5 m) (some 3) (some 0)):=by rcases hk with rfl|rfl|rfl<;>rfl
 unfold flS at h;rw[hf]at h;by_cases h0:m<0
 .rw[Y0 h0]at h;cases h
 by_cases h2:5<m
 .rw[O6 l7,Y0 h2]at h;cases h
 omega
theorem UW{N:D7} :∀{l:List (Int×Int)},ffS N l=0->∀n∈l,flS n N=0
 |[],_,n,h=>by cases h|a::l,h,n,hn=>by
  unfold ffS at h;cases hf:D5 (flS a N) 0
  .rw[hf]at h;rw[o5]at h;exact absurd h (xq.1 hf)
  .rw[hf]at h;rw[o7]at h;rcases D6.1 hn with rfl|hn
   .exact dO.1 hf
   .exact UW h n hn
theorem a6t(hN:NmOk N)(hI:∀n∈e,fJ n.2):(tY e N).1.length<=150000:=by
 unfold tY;cases h:oK e with
 |inl x=>simp|inr t=>
  obtain⟨hp,h48⟩:=wX h;have:=yI hN t (by rw[←hp];exact hI);rw[←t.post_len,←hp]at this;simp only;cases D5 (ffS N e) 0
  .simp[l9]
  .simp only[o7];omega
def clB(n:Int):Int:=l9 (I8 n 0) 0 (l9 (I8 8 n) 8 n)
theorem Lm(n:Int):0<=clB n/\clB n<=8:=by
 unfold clB;by_cases h:n<0
 .rw[Y0 h];simp[l9]
 by_cases h2:8<n
 .rw[O6 l7,Y0 h2];simp[l9]
 .rw[O6 l7,O6 l7];exact⟨by simp[l9];omega,by simp[l9];omega⟩
theorem PM{n:Int}(h:0<=n/\n<=8):clB n=n:=by unfold clB;rw[O6 l7,O6 l7];rfl
theorem JD(n:Int):qG n=some (clB n):=by
 unfold qG clB zk zi;simp only[sO,wo]
 repeat' split
 all_goals first|rfl|omega|(congr 1;omega)
theorem a5d:∀k:Fin 9,a0l .i64 1 (k.val:Int)=some (2^k.val)/\ZC (k.val:Int)=some (2^k.val):=by decide+kernel
def tvS(p:Int×Int)(n:Int):Bool:=l9 (V6 0 p.1) (l9 (I8 p.1 (2^(clB n).toNat)) (l9 (V6 0 p.2) (D5 (tZ .i64 p.2 p.1) p.2) false) false) false
theorem b5E(p:Int×Int)(n:Int):yO p n=some (tvS p n):=by
 unfold yO tvS;rw[JD,o9];obtain⟨k,hk⟩:∃k:Fin 9,clB n=(k.val:Int):=⟨⟨(clB n).toNat,by have:=Lm n;omega⟩,by have:=Lm n;simp;omega⟩;rw[hk,(a5d k).1,o9,D8];cases V6 0 p.1
 .rfl
 cases I8 p.1 (2^k.val)
 .rfl
 cases V6 0 p.2<;>rfl
theorem Wy:∀v:Fin 256,∀i:Fin 8,D5 (tZ .i64 (WX .i64 (v.val:Int) (i.val:Int)) 1) 0=D5 (tZ .i64 (v.val:Int) (2^i.val)) 0/\D5 (tZ .i64 (WX .i64 (v.val:Int) (i.val:Int)) 1) 1=H9 (D5 (tZ .i64 (v.val:Int) (2^i.val)) 0):=by decide+kernel
theorem G_:∀a:Fin 256,∀b:Nat,b<9223372036854775808->(BitVec.ofInt 64 (b:Int)&&& BitVec.ofInt 64 (a.val:Int)).toNat<=a.val:=by
 intro a b hb;rw[BitVec.toNat_and];have h:(BitVec.ofInt 64 ((a.val:Nat):Int)).toNat=a.val:=by rw[kJ];have:=a.isLt;omega
 rw[h];exact Nat.and_le_right
variable {p:Int×Int}
theorem FZ{n:Int}(hI:fJ p.2)(h:tvS p n=true):(0<=p.1/\p.1<2^(clB n).toNat/\p.1<=255)/\0<=p.2/\p.2<=p.1:=by
 unfold tvS at h;cases h1:V6 0 p.1<;>rw[h1]at h
 .cases h
 cases h2:I8 p.1 (2^(clB n).toNat)<;>rw[h2]at h
 .cases h
 cases h3:V6 0 p.2<;>rw[h3]at h
 .cases h
 rw[o7,o7,o7]at h;have h1:=ul.1 h1;have h2:=wo.1 h2;have h3:=ul.1 h3;have h4:=dO.1 h;have h255:p.1<=255:=by
  obtain⟨k,hk⟩:∃k:Fin 9,(clB n).toNat=k.val:=⟨⟨(clB n).toNat,by have:=Lm n;omega⟩,rfl⟩;rw[hk]at h2;have:∀k:Fin 9,(2:Int)^k.val<=256:=by decide
  have:=this k;omega
 refine⟨⟨h1,h2,h255⟩,h3,?_⟩;unfold fJ at hI;have:=G_ ⟨p.1.toNat,l7⟩ p.2.toNat l7;rw[N7 h3]at this;simp only at this;rw[N7 h1]at this;have e:tZ .i64 p.2 p.1=((BitVec.ofInt 64 p.2&&& BitVec.ofInt 64 p.1).toNat:Int):=by unfold tZ;refine tu ?_;show fJ ((BitVec.ofInt 64 p.2&&& BitVec.ofInt 64 p.1).toNat:Int);unfold fJ;omega
 rw[e]at h4;omega
def Dk(p:Int×Int)(i:Nat):Int:=l9 (D5 (tZ .i64 p.1 (2^i)) 0) 45 (l9 (D5 (tZ .i64 p.2 (2^i)) 0) 48 49)
def yS(p:Int×Int):Nat->List Int
 |0=>[]|k+1=>Dk p k::yS p k
theorem Gs(p:Int×Int):∀k,(yS p k).length=k
 |0=>rfl|k+1=>by unfold yS;simp[Gs p k]
def Fv(p:Int×Int)(n:Int):List UInt8:=BR (yS p (clB n).toNat)
theorem a6f(h1:0<=p.1/\p.1<=255)(h2:0<=p.2/\p.2<=255){i:Nat}(hi:i<8)(acc:List Int)(hacc:acc.length<=100):
  (o6 (Ii IntKind.i64 p.1 (i:Int)) λ(x_1:Int)=>
      l9 (D5 (tZ IntKind.i64 x_1 1) 0)
       (o6 (jV acc [45]) λ(x_2:List Int)=>some (Sum.inl (x_2,ae IntKind.i64 (i:Int) 1)))
       (o6 (Ii IntKind.i64 p.2 (i:Int)) λ(x_2:Int)=>
        l9 (D5 (tZ IntKind.i64 x_2 1) 1)
         (o6 (jV acc [49]) λ(x_3:List Int)=>some (Sum.inl (x_3,ae IntKind.i64 (i:Int) 1)))
         (o6 (jV acc [48]) λ(x_3:List Int)=>some (Sum.inl (x_3,ae IntKind.i64 (i:Int) 1)))))=(some (.inl (acc++[Dk p i],(i:Int) -1)):Option ((List Int×Int)⊕List Int)):=by
 have a1:=Wy ⟨p.1.toNat,l7⟩ ⟨i,hi⟩;have a2:=Wy ⟨p.2.toNat,l7⟩ ⟨i,hi⟩;simp only[N7 h1.1,N7 h2.1]at a1 a2;have so:∀v:Int,Ii .i64 v (i:Int)=some (WX .i64 v (i:Int)):=by intro v;unfold Ii;rw[if_neg l7]
 rw[so,so,o9,o9,a1.1,a2.2,fA (show fJ ((i:Int) -1) by unfold fJ;omega)];rw[nJ _ l7,nJ _ l7,nJ _ l7,o9,o9,o9];unfold Dk;cases D5 (tZ .i64 p.1 (2^i)) 0<;>cases D5 (tZ .i64 p.2 (2^i)) 0<;>rfl
theorem a9R{n:Int}(hI:fJ p.2)(h:tvS p n=true):uX p n=some (Fv p n):=by
 obtain⟨⟨b1,-,b2⟩,b3,b4⟩:=FZ hI h;obtain⟨k,hk⟩:∃k:Nat,clB n=(k:Int):=⟨(clB n).toNat,by have:=Lm n;omega⟩;have hk8:k<=8:=by have:=Lm n;omega
 unfold uX Fv;rw[JD,o9,hk,D8,fA af];have key:∀(k m:Nat) (acc:List Int),k<=8->acc.length+k<=50->vS (λ(x:List Int×Int)=>
    l9 (V6 0 x.2)
     (o6 (Ii IntKind.i64 p.1 x.2) λ(x_1:Int)=>
      l9 (D5 (tZ IntKind.i64 x_1 1) 0)
       (o6 (jV x.1 [45]) λ(x_2:List Int)=>some (Sum.inl (x_2,ae IntKind.i64 x.2 1)))
       (o6 (Ii IntKind.i64 p.2 x.2) λ(x_2:Int)=>
        l9 (D5 (tZ IntKind.i64 x_2 1) 1)
         (o6 (jV x.1 [49]) λ(x_3:List Int)=>some (Sum.inl (x_3,ae IntKind.i64 x.2 1)))
         (o6 (jV x.1 [48]) λ(x_3:List Int)=>some (Sum.inl (x_3,ae IntKind.i64 x.2 1)))))
     (some (Sum.inr x.1))) (m+k+1) (acc,(k:Int) -1)=some (acc++yS p k):=by
  intro k;induction k with
  |zero=>intro m acc _ _;refine(GL (e:=acc) ?_).trans (by rw[show yS p 0=[]from rfl,E5]);rfl|succ k ih=>
   intro m acc hk ha;rw[show m+(k+1)+1=(m+k+1)+1 by omega,show(((k+1:Nat):Int) -1)=(k:Int) by omega];rw[TV (s' :=(acc++[Dk p k],(k:Int) -1)) (by simp only[X9 (show(0:Int)<=(k:Int) by omega),o7];exact a6f ⟨b1,b2⟩ ⟨b3,l7⟩ l7 acc l7)]
   rw[ih m _ l7 (by simp;have:=ha;omega)];rw[show yS p (k+1)=Dk p k::yS p k from rfl];simp
 have:=key k (au -k -1) [] hk8 F9;rw[show au -k -1+k+1=au by unfold au;omega]at this;refine J3 this ?_;rfl
theorem a6Z(p:Int×Int)(n:Int):(Fv p n).length<=8:=by have:=Lm n;unfold Fv BR;rw[O7,Gs];omega
theorem a2T{a:List dU}(h:a.length<=1000000)(h2:∀e∈a,e.2.length<=1000000):uJ a=some a:=by
 unfold uJ;refine J3 (Zc a (λe=>e) h (F:=λx=>x) (λi e acc he hi=>?_) (λacc=>?_)) ?_
 rotate_left 2
 .rw[o9,List.map_id']
 .have hlt:=(aO.1 he).1;simp only[V8 he,o7,V4,he,o9,YI (h2 e (yw he))];rw[nJ _ l7];rfl
 .simp only[aG a,o5]
theorem Zb{l:List jq}(h:l.length<=1000000):mD l=some (l.map (·.1)):=by
 unfold mD;refine J3 (Zc l (λ(f:jq)=>f.1) h (F:=λx=>x) (λi e acc he hi=>?_) (λacc=>?_)) ?_
 rotate_left 2
 .rfl
 .have hlt:=(aO.1 he).1;simp only[V8 he,o7,V4,he,o9];rw[nJ _ l7];rfl
 .simp only[aG l,o5]
def nmS(l:gV)(s:O0):D7:=(l.1,l.2.1.map (·.1),s.2.2.1.map (·.1),s.2.2.2.1.map (·.1),l9 (V6 0 s.2.1) (match X0 l.2.2 s.2.1 with|some q=>q.2.2.2.1.map (·.1)|none=>[]) [])
structure NmL (l:gV):Prop where
 ne:l.1.length<=9
 nt:l.2.1.length<=9
 e:∀e∈l.1,e.2.length<=20/\e.1.length<=80/\∀m∈e.2,m.length<=80
 t:∀t∈l.2.1,t.1.length<=80
 s:∀s∈l.2.2,s.2.2.1.length<=14/\s.2.2.2.1.length<=14/\s.2.2.2.2.length<=60/\(∀f∈s.2.2.1,f.1.length<=80)/\(∀f∈s.2.2.2.1,f.1.length<=80)/\∀r∈s.2.2.2.2,r.1.length<=80
variable {l:gV}
theorem Zo(h:smL l=true)(hW:WfL l):NmL l:=by
 unfold smL at h;obtain⟨h1,h⟩:=zX h;obtain⟨h2,h⟩:=zX h;obtain⟨h3,h⟩:=zX h;obtain⟨h4,h⟩:=zX h;cases ht:gX tG l.2.1 0 with
 |inr r=>rw[ht]at h;cases h|inl b=>
  rw[ht]at h;simp only at h;cases hs:gX sG l.2.2 0 with
  |inr r=>rw[hs]at h;cases h|inl b' =>
   have T:=h_ l.2.1 0 b l7 l7 hW.rl ht;have S:=ZQ l.2.2 0 b' l7 l7 hW.sl hs;refine⟨df (n:=9) h1,df (n:=9) h2,λe he=>?_,λt ht=>(T t ht).1,λs hs=>?_⟩
   .have hl:=ED h4 e he;unfold TU at hl;cases g1:I8 80 (x9 e.1)<;>rw[g1]at hl
    case true=>cases hl
    cases g2:I8 20 (x9 e.2)<;>rw[g2]at hl
    case true=>cases hl
    refine⟨df (n:=20) g2,df (n:=80) g1,λm hm=>?_⟩;have:=ED (p:=λm=>I8 80 (x9 m)) hl m hm;exact df (n:=80) this
   .have h:=S s hs;unfold smS at h;obtain⟨a1,h⟩:=zX h;obtain⟨a2,h⟩:=zX h;obtain⟨a3,h⟩:=zX h;obtain⟨a4,h⟩:=zX h;obtain⟨a5,h⟩:=zX h;obtain⟨a6,h⟩:=zX h;have a7:s.2.2.2.2.any Il=false:=by revert h;cases s.2.2.2.2.any Il<;>intro h<;>first|rfl|cases h
    refine⟨df (n:=14) a2,df (n:=14) a3,df (n:=60) a4,λf hf=>df (n:=80) (ED a5 f hf),λf hf=>df (n:=80) (ED a6 f hf),λr hr=>?_⟩;have hl:=ED a7 r hr;unfold Il at hl;cases g1:I8 80 (x9 r.1)<;>rw[g1]at hl
    case true=>cases hl
    exact df (n:=80) g1
variable {s:O0}
theorem a6K(h:NmL l)(hs:s∈l.2.2):NmOk (nmS l s):=by
 obtain⟨s1,s2,s3,s4,s5,s6⟩:=h.s s hs;refine⟨λe he=>?_,λx hx=>?_,λx hx=>?_,λx hx=>?_,λx hx=>?_⟩
 .have:=h.e e he;exact⟨l7,λm hm=>by have:=this.2.2 m hm;omega⟩
 .obtain⟨t,ht,rfl⟩:=aH.1 hx;have:=h.t t ht;omega
 .obtain⟨f,hf,rfl⟩:=aH.1 hx;have:=s4 f hf;omega
 .obtain⟨f,hf,rfl⟩:=aH.1 hx;have:=s5 f hf;omega
 .unfold nmS at hx;simp only at hx;cases g:V6 0 s.2.1<;>rw[g]at hx
  .cases hx
  .simp only[o7]at hx;split at hx
   .rename_i q hq;obtain⟨f,hf,rfl⟩:=aH.1 hx;have:=(h.s q (iQ hq).2.2.1).2.2.2.2.1 f hf;omega
   .cases hx
theorem a2j(h:NmL l)(hs:X0 l.2.2 k=some s):um l k=some (nmS l s):=by
 obtain⟨k0,k1,hm,-⟩:=iQ hs;obtain⟨s1,s2,-⟩:=h.s s hm;have nt:=h.nt;unfold um;rw[O6 k0,bG k1,o5,o5,o9,J7,hs,o9,Zb l7,o9,Zb l7,o9];refine Am l.2.1 (λ(b:D7) (t:nR)=>((b.1,b.2.1++[t.1],b.2.2):D7)) (λb i=>(b,i)) (λb=>b) (λi b=>b.2.1.length=i) (l.1,[],s.2.2.1.map (·.1),s.2.2.2.1.map (·.1),[]) l7 rfl (λi t b hx hi hI=>?_) (λb _=>?_) (λ_=>?_)
 .have hlt:=(aO.1 hx).1;simp only[V8 hx,o7,V4,hx,o9];rw[nJ _ l7,o9,Z8 l7];exact⟨rfl,by simp;omega⟩
 .simp only[aG l.2.1,o5]
 .have e:∀(L:List nR) (b:D7),L.foldl (λ(b:D7) (t:nR)=>((b.1,b.2.1++[t.1],b.2.2):D7)) b=(b.1,b.2.1++L.map (·.1),b.2.2):=by
   intro L;induction L with
   |nil=>intro b;simp|cons t L ih=>intro b;rw[dE,ih];simp
  rw[e];unfold nmS;cases g:V6 0 s.2.1
  .simp[l9]
  .by_cases g2:s.2.1<x9 l.2.2
   .obtain⟨q,hq,hmq⟩:=ug (ul.1 g) g2;have:=(h.s q hmq).2.1;rw[Y0 g2,hq];simp only[o7,o9];rw[Zb l7,o9];simp
   .rw[O6 (sW.1 g2)];have:X0 l.2.2 s.2.1=none:=by
     cases hq:X0 l.2.2 s.2.1 with
     |none=>rfl|some q=>exact absurd (iQ hq).2.1 g2
    rw[this];simp[l9]
theorem QG(h:NmL l)(hs:X0 l.2.2 k=some s):qg l k=some (nmS l s):=by rw[RJ (a2T (by have:=h.ne;omega) (λe he=>by have:=(h.e e he).1;omega)) k];exact a2j h hs
def smT(t:O9):Bool:=l9 (I8 10 (x9 t.2.1)) false (l9 (I8 20 (x9 t.2.2.1)) false (l9 (I8 60 (x9 t.2.2.2)) false (H9 (t.2.1.any λe=>I8 60 (x9 e)))))
theorem ZY(t:O9):BB t=some (smT t):=by
 unfold BB smT;cases h1:I8 10 (x9 t.2.1)
 case true=>rfl
 cases h2:I8 20 (x9 t.2.2.1)
 case true=>rfl
 cases h3:I8 60 (x9 t.2.2.2)
 case true=>rfl
 have l1:=df (n:=10) h1;simp only[o5,o9,J7];refine J3 (JA t.2.1 (λe=>I8 60 (x9 e)) false PUnit.unit l7 (λi a ha=>?_) ?_) ?_
 rotate_left 2
 .cases t.2.1.any λe=>I8 60 (x9 e)<;>rfl
 .simp only[V8 ha,o7,V4,ha,o9];cases I8 60 (x9 a)<;>rfl
 .rw[aG];rfl
def SzT(t:O9):Prop:=t.2.1.length<=10/\t.2.2.1.length<=20/\t.2.2.2.length<=10000
theorem a5f{t:O9}(h:smT t=true):t.2.1.length<=10/\t.2.2.1.length<=20/\t.2.2.2.length<=60/\∀e∈t.2.1,e.length<=60:=by
 unfold smT at h;obtain⟨a1,h⟩:=zX h;obtain⟨a2,h⟩:=zX h;obtain⟨a3,h⟩:=zX h;have a4:(t.2.1.any λe=>I8 60 (x9 e))=false:=by revert h;cases (t.2.1.any λe=>I8 60 (x9 e))<;>intro h<;>first|rfl|cases h
 exact⟨df (n:=10) a1,df (n:=20) a2,df (n:=60) a3,λe he=>df (n:=60) (ED a4 e he)⟩
theorem b0p{t:O9}(h:smT t=true):SzT t:=by obtain⟨a,b,c,-⟩:=a5f h;exact⟨a,b,l7⟩
abbrev Tm:Type:=List UInt8×Int
def ruB(s:O0)(r:Int):Bool:=l9 (V6 0 r) (I8 r (x9 s.2.2.2.2)) false
def ruN(s:O0)(r:Int):List UInt8:=((X0 s.2.2.2.2 r).map (·.1)).getD []
theorem Ro{r:Int}(h:ruB s r=true):I8 r 0=false/\V6 (x9 s.2.2.2.2) r=false/\V6 0 r=true/\I8 r (x9 s.2.2.2.2)=true/\∃q,X0 s.2.2.2.2 r=some q/\q.1=ruN s r/\q∈s.2.2.2.2:=by
 unfold ruB at h;cases h1:V6 0 r<;>rw[h1]at h
 .cases h
 rw[o7]at h;have a:=ul.1 h1;have b:=wo.1 h;obtain⟨q,hq,hm⟩:=ug a b;exact⟨O6 a,bG b,rfl,h,q,hq,by unfold ruN;rw[hq];rfl,hm⟩
theorem b3D{r:Int}(h:ruB s r=false):I8 r 0=true\/(I8 r 0=false/\V6 (x9 s.2.2.2.2) r=true):=by
 unfold ruB at h;by_cases h1:0<=r
 .rw[X9 h1,o7]at h;exact .inr ⟨O6 h1,X9 (rY.1 h)⟩
 .exact .inl (Y0 l7)
def Yt(s:O0)(r:Int)(t:List UInt8):List UInt8:=[119,104,101,110,32]++ruN s r++[32]++t++[10]
abbrev FmF:Type:=List (Int×Int)->D7->List UInt8×Int
def BV(F:FmF)(s:O0)(N:D7)(t:List UInt8)(x:List (Int×Int)×Int):List UInt8⊕Tm:=
 l9 (ruB s x.2) (l9 (D5 (F x.1 N).2 0) (.inl (t++Yt s x.2 (F x.1 N).1)) (.inr ([],(F x.1 N).2))) (.inr ([],6))
def xF(p:Int×Int)(n:Int):List UInt8:=l9 (I8 0 n) (Fv p n) [46]
def Hu(s:O0)(o:Int):List UInt8:=l9 (D5 o (-1)) [110,111,110,101] (l9 (D5 o (-2)) [99,111,110,102,108,105,99,116] ([114,117,108,101,32]++ruN s o))
def Tc(s:O0)(r:L6)(n:Int):List UInt8:=[114,111,119,32]++xF r.1 n++[32]++Hu s r.2++[10]
def SX(s:O0)(o:Int):Bool:=l9 (D5 o (-1)) true (l9 (D5 o (-2)) true (ruB s o))
def AQ(s:O0)(n:Int)(r:L6):Int:=l9 (tvS r.1 n) (l9 (SX s r.2) 0 6) 3
def KL(s:O0)(n:Int)(t:List UInt8)(r:L6):List UInt8⊕Tm:=l9 (D5 (AQ s n r) 0) (.inl (t++Tc s r n)) (.inr ([],AQ s n r))
def ZM(s:O0)(n:Int)(t:List UInt8)(r:L6):List UInt8⊕Tm:=l9 (D5 (AQ s n r) 0) (.inl (l9 (V6 (x9 t) 65536) (t++Tc s r n) t)) (.inr ([],AQ s n r))
theorem OQ(h:∀r∈s.2.2.2.2,r.1.length<=80)(o:Int):(ruN s o).length<=80:=by
 unfold ruN;cases hq:X0 s.2.2.2.2 o with
 |none=>simp|some q=>exact h q (iQ hq).2.2.1
theorem a4f(h:∀r∈s.2.2.2.2,r.1.length<=80)(o:Int):(Hu s o).length<=90:=by have:=OQ h o;unfold Hu;cases D5 o (-1)<;>cases D5 o (-2)<;>simp[l9]<;>omega
theorem MI(p:Int×Int)(n:Int):(xF p n).length<=8:=by
 have:=a6Z p n;unfold xF;cases I8 0 n
 .simp[l9]
 .exact this
theorem XP(h:∀r∈s.2.2.2.2,r.1.length<=80)(r:L6)(n:Int):1<=(Tc s r n).length/\(Tc s r n).length<=110:=by have h1:=a4f h r.2;have h2:=MI r.1 n;unfold Tc;simp;omega
theorem ZK(h:∀r∈s.2.2.2.2,r.1.length<=80){r:L6}(hI:fJ r.1.2)(n:Int):mX s r n=some (l9 (D5 (AQ s n r) 0) (Tc s r n,0) ([],AQ s n r)):=by
 have hl:=MI r.1 n;have ho:=OQ h r.2;unfold mX AQ;rw[b5E,o9];cases ht:tvS r.1 n
 .rfl
 have hp:(l9 (I8 0 n) (o6 (uX r.1 n) λ(x:List UInt8)=>some x) (some [46]))=some (xF r.1 n):=by
  unfold xF;cases I8 0 n
  .rfl
  .rw[a9R hI ht];rfl
 simp only[F5,o5,o7];rw[hp,o9];unfold SX Tc Hu;cases h1:D5 r.2 (-1)
 case true=>simp only[o7,J4 (rfl:(0:Int)=0)];rw[L8 F9,o9,L8 F9,o9];simp
 cases h2:D5 r.2 (-2)
 case true=>simp only[o7,o5,J4 (rfl:(0:Int)=0)];rw[L8 F9,o9,L8 F9,o9];simp
 simp only[o5];cases h3:ruB s r.2
 .unfold ruB at h3;cases h4:V6 0 r.2
  .rfl
  .rw[h4,o7]at h3;rw[h3];rfl
 .obtain⟨a1,a2,a3,a4,q,a5,a6,a7⟩:=Ro h3;rw[a3,a4,a5];simp only[o7,J4 (rfl:(0:Int)=0),o9];rw[L8 F9,o9,L8 F9,o9,a6,L8 F9,o9,L8 F9,o9];simp
theorem XR{s:O0}(h:∀r∈s.2.2.2.2,r.1.length<=80)(n:Int):∀(L:List L6) (a b:List UInt8),a=b\/(65536<x9 a/\65536<x9 b)->
  (∃c,gX (ZM s n) L a= .inr c/\gX (KL s n) L b= .inr c)\/∃x y,gX (ZM s n) L a= .inl x/\gX (KL s n) L b= .inl y/\(x=y\/(65536<x9 x/\65536<x9 y))
 |[],a,b,hr=> .inr ⟨a,b,rfl,rfl,hr⟩|r::L,a,b,hr=>by
  unfold gX ZM KL;cases D5 (AQ s n r) 0
  .exact .inl ⟨_,rfl,rfl⟩
  simp only[o7];refine XR h n L _ _ ?_;have hl:=XP h r n;rcases hr with rfl|⟨h1,h2⟩
  .by_cases g:x9 a<=65536
   .rw[X9 g,o7];exact .inl rfl
   .rw[bG l7,o5];refine .inr ⟨l7,?_⟩;unfold x9 at g ⊢;simp;omega
  .rw[bG h1,o5];refine .inr ⟨h1,?_⟩;unfold x9 at h2 ⊢;simp;omega
end Go.GP
namespace Go.GP
open Gt
set_option maxRecDepth 100000
def dfS(F:FmF)(l:gV)(k:Int)(t:O9):Tm:=
 l9 (D5 (pY l).1 0) (match X0 l.2.2 k with
  |none=>([],6)
  |some s=>match X0 s.2.2.2.1 t.1 with
   |none=>([],6)
   |some d=>l9 (I8 8 (x9 t.2.1)) ([],4) (l9 (D5 (x9 t.2.2.1) (x9 t.2.1)) (match gX (BV F s (nmS l s)) (t.2.1.zip t.2.2.1) ([100,101,99,105,115,105,111,110,32]++d.1++[10])with
    | .inr r=>r
    | .inl b=>match gX (KL s (x9 t.2.1)) t.2.2.2 b with
     | .inr r=>r
     | .inl y=>l9 (I8 65536 (x9 y)) ([],4) (y,0)) ([],2))) ([],1)
theorem a3y{α:Type}{l:List α}{k:Int}(h:I8 k 0=true\/I8 k 0=false/\V6 (x9 l) k=true):X0 l k=none:=by
 cases hq:X0 l k with
 |none=>rfl|some q=>
  obtain⟨a,b,-,-⟩:=iQ hq;rcases h with h|⟨-,h⟩
  .have:=wo.1 h;omega
  .have:=ul.1 h;omega
structure WfT (t:O9):Prop where
 n:∀e∈t.2.1,∀n∈e,fJ n.2
 r:∀r∈t.2.2.2,fJ r.1.2
def b1B(F:FmF)(N:D7)(t:O9):Prop:=∀e∈t.2.1,jl e N=some (F e N)/\(F e N).1.length<=150000
theorem La{α β:Type}{a:List α}{b:List β}{i:Nat}{x:α×β}(h:(a.zip b)[i]? =some x):a[i]? =some x.1/\b[i]? =some x.2:=by rw[List.getElem?_zip_eq_some]at h;exact h
theorem WB{F:FmF}{s:O0}{N:D7}(hs:∀r∈s.2.2.2.2,r.1.length<=80){t t' :List UInt8}{x:List (Int×Int)×Int}(h1:(F x.1 N).1.length<=150000)(h:BV F s N t x= .inl t'):t'.length<=t.length+151000:=by
 unfold BV at h;have h2:=OQ hs x.2;cases g1:ruB s x.2<;>rw[g1]at h
 .cases h
 cases g2:D5 (F x.1 N).2 0<;>rw[g2]at h
 .cases h
 simp only[o7]at h;cases h;unfold Yt;simp;omega
section
variable {F:FmF} {l:gV} {k:Int} {t:O9} {s:O0} (hL:NmL l) (hs:X0 l.2.2 k=some s) (hT:SzT t) (hF:b1B F (nmS l s) t) (hW:∀r∈t.2.2.2,fJ r.1.2) (hlen:t.2.2.1.length=t.2.1.length)
include hL hs hT hF hW hlen
theorem a2f(b:List UInt8)(hb:b.length<=1000):P8
                  (λ(x_7:List UInt8×Int)=>
                   l9 (I8 x_7.2 (x9 t.2.1))
                    (o6 (X0 t.2.1 x_7.2) λ(x_8:List H5)=>
                     o6 (X0 t.2.2.1 x_7.2) λ(x_9:Int)=>
                      l9 (I8 x_9 0) (some (Out.rt (([]:List UInt8),(6:Int))))
                       (l9 (V6 (x9 s.2.2.2.2) x_9) (some (Out.rt ([],6)))
                        (o6 (jl x_8 (nmS l s)) λ(x_10:List UInt8×Int)=>
                         l9 (H9 (D5 x_10.2 0)) (some (Out.rt ([],x_10.2)))
                          (o6 (X0 s.2.2.2.2 x_9) λ(x:kV)=>
                           o6 (Z7 [119,104,101,110,32] x.1) λ(x:List UInt8)=>
                            o6 (Z7 x [32]) λ(x:List UInt8)=>
                             o6 (Z7 x x_10.1) λ(x:List UInt8)=>
                              o6 (Z7 x [10]) λ(x:List UInt8)=>
                               o6 (lV x_7.1 x)
                                λ(x:Int×PUnit×List UInt8)=>
                                some (Out.nx (x.2.2,I5 IntKind.i64 x_7.2 1))))))
                    (some (Out.ex x_7.1)))
                  (b,0)=some (gX (BV F s (nmS l s)) (t.2.1.zip t.2.2.1) b):=by
 obtain⟨a1,a2,a3⟩:=hT;obtain⟨-,-,hm,-⟩:=iQ hs;have hr:=(hL.s s hm).2.2.2.2.2;have hz:(t.2.1.zip t.2.2.1).length=t.2.1.length:=by rw[uG];omega
 refine Eq.trans (IZ (t.2.1.zip t.2.2.1) (BV F s (nmS l s)) (λb i=>(b,i)) (λb=>b) (λi b=>b.length<=1000+i*151000) l7 l7 (λi x b hx hi hI=>?_) (λb hI=>?_)).1 ?_
 .obtain⟨h1,h2⟩:=La hx;have hlt:=(aO.1 h1).1;obtain⟨hf1,hfl⟩:=hF x.1 (yw h1);refine⟨?_,λb' hb' =>by have:=WB hr hfl hb';omega⟩;simp only[V8 h1,o7,V4,h1,h2,o9,hf1];unfold BV;cases g1:ruB s x.2
  .rcases b3D g1 with g|⟨g,g'⟩
   .rw[g];rfl
   .rw[g,g'];rfl
  .obtain⟨b1,b2,b3,b4,q,b5,b6,b7⟩:=Ro g1;have hq:=OQ hr x.2;simp only[b1,b2,b5,b6,o5,o7,o9];cases D5 (F x.1 (nmS l s)).2 0
   .rfl
   .simp only[F5,o5,o7];rw[L8 F9,o9,L8 F9,o9,L8 F9,o9,L8 F9,o9];unfold lV;rw[if_pos F9,o9,Z8 l7];rfl
 .simp only;rw[hz,aG];rfl
 .cases gX (BV F s (nmS l s)) (t.2.1.zip t.2.2.1) b<;>rfl
theorem a2U{b b' :List UInt8}(hb:b.length<=1000)(h:gX (BV F s (nmS l s)) (t.2.1.zip t.2.2.1) b= .inl b'):b'.length<=2000000:=by
 obtain⟨a1,a2,a3⟩:=hT;obtain⟨-,-,hm,-⟩:=iQ hs;have hr:=(hL.s s hm).2.2.2.2.2;have key:∀(L:List (List (Int×Int)×Int)) (b:List UInt8),(∀x∈L,(F x.1 (nmS l s)).1.length<=150000)->gX (BV F s (nmS l s)) L b= .inl b' ->b'.length<=b.length+L.length*151000:=by
  intro L;induction L with
  |nil=>intro b _ h;cases h;simp|cons x L ih=>
   intro b hx h;unfold gX at h;cases hg:BV F s (nmS l s) b x with
   |inr r=>rw[hg]at h;cases h|inl c=>rw[hg]at h;have h1:=WB hr (hx x A7) hg;have h2:=ih c (λy hy=>hx y (by simp[hy])) h;rw[D9,I7];omega
 have:=key _ b (λx hx=>by obtain⟨i,hi,rfl⟩:=jT hx;exact(hF _ (yw (La (lG hi)).1)).2) h
 have hz:(t.2.1.zip t.2.2.1).length<=10:=by rw[uG];omega
 have:(t.2.1.zip t.2.2.1).length*151000<=10*151000:=G7 _ hz;omega
theorem a2g(b:List UInt8)(hb:b.length<=2000000):P8
                     (λ(x_7:List UInt8×Int)=>
                      l9 (I8 x_7.2 (x9 t.2.2.2))
                       (o6 (X0 t.2.2.2 x_7.2) λ(x_8:L6)=>
                        o6 (mX s x_8 (x9 t.2.1))
                         λ(x:List UInt8×Int)=>
                         l9 (H9 (D5 x.2 0)) (some (Out.rt (([]:List UInt8),x.2)))
                          (o6 (zU x_7.1) λ(x_9:Int×List UInt8)=>
                           l9 (V6 x_9.1 65536)
                            (o6 (lV x_9.2 x.1)
                             λ(x:Int×PUnit×List UInt8)=>
                             some (Out.nx (x.2.2,I5 IntKind.i64 x_7.2 1)))
                            (some (Out.nx (x_9.2,I5 IntKind.i64 x_7.2 1)))))
                       (some (Out.ex x_7.1)))
                     (b,0)=some (gX (ZM s (x9 t.2.1)) t.2.2.2 b):=by
 obtain⟨a1,a2,a3⟩:=hT;obtain⟨-,-,hm,-⟩:=iQ hs;have hr:=(hL.s s hm).2.2.2.2.2;refine Eq.trans (IZ t.2.2.2 (ZM s (x9 t.2.1)) (λb i=>(b,i)) (λb=>b) (λi b=>b.length<=2000000+i*200) l7 l7 (λi x b hx hi hI=>?_) (λb hI=>?_)).1 ?_
 .have hlt:=(aO.1 hx).1;have hrl:=XP hr x (x9 t.2.1);simp only[V8 hx,o7,V4,hx,o9,ZK hr (hW x (yw hx)) (x9 t.2.1)];unfold ZM;cases hc:D5 (AQ s (x9 t.2.1) x) 0
  .simp only[o5,hc,P7,o7];exact⟨trivial,λb' h=>by cases h⟩
  .simp only[o7,J4 (rfl:(0:Int)=0),F5,o5];unfold zU;simp only[o9];rw[show((b.length:Nat):Int)=x9 b from rfl];cases V6 (x9 b) 65536
   .simp only[o5];rw[Z8 l7];exact⟨rfl,λb' h=>by cases h;omega⟩
   .simp only[o7];unfold lV;rw[if_pos l7,o9,Z8 l7];exact⟨rfl,λb' h=>by cases h;simp;omega⟩
 .simp only[aG,o5]
 .cases gX (ZM s (x9 t.2.1)) t.2.2.2 b<;>rfl
end
end Go.GP
namespace Go.GP
open Gt
set_option maxRecDepth 100000
theorem LZ{α:Type}(l:List α)(k:Int):(I8 k 0=true\/I8 k 0=false/\V6 (x9 l) k=true)\/(I8 k 0=false/\V6 (x9 l) k=false/\∃x,X0 l k=some x/\x∈l):=by
 by_cases h0:k<0
 .exact .inl (.inl (Y0 h0))
 by_cases h1:x9 l<=k
 .exact .inl (.inr ⟨O6 l7,X9 h1⟩)
 .exact .inr ⟨O6 l7,bG l7,ug l7 l7⟩
theorem b1y{l:gV}(h:(pY l).1=0):pY l=(0,0,0,0):=by
 unfold pY at h ⊢;cases h1:D5 (BX l).1 0<;>rw[h1]at h
 .simp only[o5]at h;rw[J4 h]at h1;cases h1
 cases h2:D5 (zH l).1 0<;>rw[h2]at h
 .simp only[o7,o5]at h;rw[J4 h]at h2;cases h2
 simp only[o7]at h ⊢;unfold KT at h ⊢;cases h3:I8 4 (x9 l.2.2)<;>rw[h3]at h
 case true=>exact absurd (show(4:Int)=0 from h) F6
 simp only[o5]at h ⊢;cases hf:iH l.2.2.length (DZ l)with
 |none=>rfl|some r=>
  rw[hf]at h;simp only at h;obtain⟨j,hj,hp⟩:=qp hf;unfold DZ at hp;cases hq:l.2.2[j]? with
  |none=>rw[hq]at hp;cases hp|some q=>
   rw[hq]at hp;simp only at hp;unfold LM at hp;exact absurd h (by cases he:D5 (Ea l j q).1 0<;>rw[he]at hp<;>cases hp;simp only;intro h4;rw[J4 h4]at he;cases he)
variable {k:Int}
theorem a3a{F:FmF}{l:gV}{t:O9}(hS:SmL l)(hL:NmL l)(hT:SzT t)(hF:∀s,X0 l.2.2 k=some s->b1B F (nmS l s) t)(hW:∀r∈t.2.2.2,fJ r.1.2):dY l k t=some (dfS F l k t):=by
 obtain⟨a1,a2,a3⟩:=id hT;unfold dY dfS;rw[Gg hS,o9];cases hv:D5 (pY l).1 0
 case false=>rfl
 rw[b1y (dO.1 hv)];simp only[J4 (rfl:(0:Int)=0),oP,F5,o5,o7];rcases LZ l.2.2 k with h|⟨h1,h2,s,hs,hm⟩
 .rw[a3y h];rcases h with h|⟨h,h'⟩
  .rw[h];rfl
  .rw[h,h'];rfl
 obtain⟨s1,s2,s3,s4,s5,s6⟩:=hL.s s hm;rw[h1,h2,hs];simp only[o5,o9,J7];rcases LZ s.2.2.2.1 t.1 with h|⟨g1,g2,d,hd,hdm⟩
 .rw[a3y h];rcases h with h|⟨h,h'⟩
  .rw[h];rfl
  .rw[h,h'];rfl
 have hdl:=s5 d hdm;rw[g1,g2,hd];simp only[o5,o9,J7];cases h8:I8 8 (x9 t.2.1)
 case true=>rfl
 simp only[o5];cases hq:D5 (x9 t.2.2.1) (x9 t.2.1)
 case false=>rfl
 have hlen:t.2.2.1.length=t.2.1.length:=by have:=dO.1 hq;unfold x9 at this;omega
 simp only[F5,o5,o7];rw[L8 F9,o9,L8 F9,o9];have e0:lV [] ([100,101,99,105,115,105,111,110,32]++d.1++[10])=some (x9 ([100,101,99,105,115,105,111,110,32]++d.1++[10]),(),[100,101,99,105,115,105,111,110,32]++d.1++[10]):=by unfold lV;rw[if_pos F9];rfl
 rw[e0,o9,QG hL hs,o9];have hb0:([100,101,99,105,115,105,111,110,32]++d.1++[10]:List UInt8).length<=1000:=by simp;omega
 refine J3 (a2f hL hs hT (hF s hs) hW hlen _ hb0) ?_;rw[o9];cases hc:gX (BV F s (nmS l s)) (t.2.1.zip t.2.2.1) ([100,101,99,105,115,105,111,110,32]++d.1++[10])with
 |inr r=>rfl|inl b=>
  have hb:=a2U hL hs hT (hF s hs) hW hlen hb0 hc;simp only[J7];refine J3 (a2g hL hs hT (hF s hs) hW hlen b hb) ?_;rw[o9];rcases XR s6 (x9 t.2.1) t.2.2.2 b b (.inl rfl)with⟨c,e1,e2⟩|⟨x,y,e1,e2,hr⟩
  .rw[e1,e2];rfl
  .rw[e1,e2];simp only[J7];unfold zU;simp only[o9];rcases hr with rfl|⟨r1,r2⟩
   .rw[show((x.length:Nat):Int)=x9 x from rfl];by_cases g:65536<x9 x
    .rw[Y0 g];rfl
    .rw[O6 l7];simp only[o5];unfold wL;rw[if_pos (by unfold x9 at g;omega)];rfl
   .rw[show((x.length:Nat):Int)=x9 x from rfl,Y0 r1,Y0 r2];rfl
variable {s:List UInt8}
theorem Qw(P:UInt8->Bool){f:Int->Option (Int⊕Int)}(hl:s.length<=1000000)
  (h1:∀(i:Nat) (c:UInt8),s[i]? =some c->f (i:Int)=some (l9 (P c) (.inl ((i+1:Nat):Int)) (.inr (i:Int)))) (h2:∀i:Nat,s.length<=i->f (i:Int)=some (.inr (i:Int))) (a:Nat):
  lT f (a:Int)=some (((a+((s.drop a).takeWhile P).length:Nat)):Int):=by
 have key:∀(n a k:Nat),s.length -a<=n->n<k->vS f k (a:Int)=some (((a+((s.drop a).takeWhile P).length:Nat)):Int):=by
  intro n;induction n with
  |zero=>intro a k h hk;obtain⟨k,rfl⟩:∃m,k=m+1:=⟨k -1,l7⟩;rw[GL (h2 a l7),U9 l7];rfl
  |succ n ih=>
   intro a k h hk;obtain⟨k,rfl⟩:∃m,k=m+1:=⟨k -1,l7⟩;by_cases hlt:a<s.length
   .have hc:=lG hlt;have:=h1 a _ hc;rw[Y8 hlt];cases hp:P s[a]
    .rw[hp,o5]at this;rw[GL this,List.takeWhile_cons_of_neg (by rw[hp];simp)];rfl
    .rw[hp,o7]at this;rw[TV this,ih (a+1) k l7 l7,iU hp];congr 2;simp only[D9];omega
   .rw[GL (h2 a l7),U9 l7];rfl
 exact key (s.length -a) a au l7 (by unfold au;omega)
theorem QF(h:s.length<=1000000):mf s=some ((s.takeWhile tq).length:Int):=by
 unfold mf;have:=Qw tq h (f:=λ(x:Int)=>l9 (I8 x (x9 s)) (o6 (sat s x) λx_1=>o6 (jo x_1) λx_2=>l9 x_2 (some (Sum.inl (I5 IntKind.i64 x 1)))
   (o6 (sat s x) λx_3=>o6 (dG x_3) λx_4=>l9 x_4 (some (Sum.inl (I5 IntKind.i64 x 1))) (o6 (sat s x) λx_5=>l9 (D5 x_5 95) (some (Sum.inl (I5 IntKind.i64 x 1))) (some (Sum.inr x))))) (some (Sum.inr x)))
  (λi c hc=>by have hlt:=(aO.1 hc).1;simp only[V8 hc,o7,oJ,hc,aQ,o9,yX,Ae,a8j];rw[Z8 l7];have hw:tq c=(Ci c || qM c || decide (c.toNat=95)):=rfl;rw[hw];cases Ci c<;>cases qM c<;>cases decide (c.toNat=95)<;>rfl)
  (λi hi=>by rw[O6 (by unfold x9;omega)];rfl) 0
 rw[aB];rw[show((0:Nat):Int)=0 from rfl]at this;rw[this];simp
theorem iV(h:s.length<=1000000)(a:Nat)(ha:a<=1000000):fF s (a:Int)=some (((s.drop a).takeWhile qM).length:Int):=by
 unfold fF;have:=Qw qM h (f:=λ(x:Int)=>
   l9 (I8 x (x9 s))
    (o6 (sat s x) λ(x_1:Int)=>
     o6 (dG x_1) λ(x_2:Bool)=>
      l9 x_2 (some (Sum.inl (I5 IntKind.i64 x 1))) (some (Sum.inr x)))
    (some (Sum.inr x)))
  (λi c hc=>by have hlt:=(aO.1 hc).1;simp only[V8 hc,o7,oJ,hc,aQ,o9,Ae];rw[Z8 l7];cases qM c<;>rfl)
  (λi hi=>by rw[O6 (by unfold x9;omega)];rfl) a
 refine J3 this ?_;have hl:((s.drop a).takeWhile qM).length<=1000000:=by have:=(fP qM (l:=s.drop a)).length_le;simp at this;omega
 rw[o9,fA af];congr 1;omega
def HdN(P:UInt8->Bool)(r:List UInt8):Prop:=∀c t,r=c::t->P c=false
variable {r:List UInt8}{w:List UInt8}
theorem Ed{P:UInt8->Bool}(hw:∀c∈w,P c=true)(hr:HdN P r):(w++r).takeWhile P=w:=by
 induction w with
 |nil=>
  cases r with
  |nil=>rfl|cons c t=>rw[H7,List.takeWhile_cons_of_neg (by rw[hr c t rfl];simp)]
 |cons c w ih=>rw[N8,iU (hw c A7),ih (λd hd=>hw d (by simp[hd]))]
def Lj(c:UInt8):Bool:=decide (c=32) || decide (c=9) || decide (c=35)
theorem Jt(c:UInt8)(k:Nat)(hk:k<256):D5 (c.toNat:Int) (k:Int)=decide (c=UInt8.ofNat k):=by
 unfold D5;rw[decide_eq_decide];constructor
 .intro h;apply UInt8.toNat_inj.1;rw[UInt8.toNat_ofNat'];omega
 .intro h;have:=congrArg UInt8.toNat h;rw[UInt8.toNat_ofNat']at this;omega
variable {i:Nat}
theorem Uo(hl:s.length<=1000000)(h:HdN Lj (s.drop i))(hi:i<=s.length):∀k,dW (λ(x:Int×Bool)=>
   l9 (I8 x.1 (x9 s))
    (o6 (sat s x.1) λ(x_1:Int)=>
     l9 x.2 (l9 (D5 x_1 10) (some (Out.rt x.1)) (some (Out.nx (I5 IntKind.i64 x.1 1,x.2))))
      (l9 (D5 x_1 35) (some (Out.nx (I5 IntKind.i64 x.1 1,true)))
       (l9 (H9 (D5 x_1 32))
        (l9 (H9 (D5 x_1 9)) (some (Out.rt x.1)) (some (Out.nx (I5 IntKind.i64 x.1 1,x.2))))
        (some (Out.nx (I5 IntKind.i64 x.1 1,x.2))))))
    (some (Out.ex x.1))) (k+1) ((i:Int),false)=some (.inl (i:Int))\/dW (λ(x:Int×Bool)=>
   l9 (I8 x.1 (x9 s))
    (o6 (sat s x.1) λ(x_1:Int)=>
     l9 x.2 (l9 (D5 x_1 10) (some (Out.rt x.1)) (some (Out.nx (I5 IntKind.i64 x.1 1,x.2))))
      (l9 (D5 x_1 35) (some (Out.nx (I5 IntKind.i64 x.1 1,true)))
       (l9 (H9 (D5 x_1 32))
        (l9 (H9 (D5 x_1 9)) (some (Out.rt x.1)) (some (Out.nx (I5 IntKind.i64 x.1 1,x.2))))
        (some (Out.nx (I5 IntKind.i64 x.1 1,x.2))))))
    (some (Out.ex x.1))) (k+1) ((i:Int),false)=(some (.inr (i:Int)):Option (Int⊕Int)):=by
 intro k;rw[bJ];by_cases hlt:i<s.length
 .right;have hc:=lG hlt;have hb:=h s[i] (s.drop (i+1)) (Y8 hlt);unfold Lj at hb;simp only[bC,decide_eq_false_iff_not]at hb;simp only[V8 hc,o7,oJ,hc,aQ,o9,o5];rw[show D5 ((s[i].toNat:Nat):Int) 35=false from(Jt _ 35 l7).trans (decide_eq_false hb.2),show D5 ((s[i].toNat:Nat):Int) 32=false from(Jt _ 32 l7).trans (decide_eq_false hb.1.1),show D5 ((s[i].toNat:Nat):Int) 9=false from(Jt _ 9 l7).trans (decide_eq_false hb.1.2)];rfl
 .left;rw[O6 (by unfold x9;simp only;omega)];rfl
theorem RF(hl:s.length<=1000000)(h:HdN Lj (s.drop i))(hi:i<=s.length):nX s (i:Int)=some (i:Int):=by unfold nX P8;rw[show au=(au -1)+1 by unfold au;omega];rcases Uo hl h hi (au -1)with h|h<;>refine J3 h ?_<;>rfl
theorem a5e(hl:s.length<=1000000)(h0:s[i]? =some 32)(h:HdN Lj (s.drop (i+1))):nX s (i:Int)=some ((i+1:Nat):Int):=by
 have hlt:=(aO.1 h0).1;unfold nX P8;rw[show au=(au -2)+1+1 by unfold au;omega];rcases Uo hl h l7 (au -2)with h|h
 all_goals
  rw[bJ];simp only[V8 h0,o7,oJ,h0,aQ,o9,o5,show D5 (((32:UInt8).toNat:Nat):Int) 35=false from rfl,show D5 (((32:UInt8).toNat:Nat):Int) 32=true from rfl,F5];rw[Z8 l7];refine J3 h ?_;rfl
abbrev V7:Type:=Int×List UInt8×Int
def rW(k:V7)(w r:List UInt8):Prop:=nV (w++r)=some ((k.1,k.2.1,k.2.2,0),((w.length:Nat):Int),0)
variable {c:UInt8}
theorem a3F(h:Ci c=true):97<=c.toNat/\c.toNat<=122:=by unfold Ci at h;simp at h;omega
theorem PS(h:qM c=true):48<=c.toNat/\c.toNat<=57:=by unfold qM at h;simp at h;omega
theorem a2o(h0:∃c t,w=c::t/\Ci c=true)(hw:∀c∈w,tq c=true)(h16:w.length<=16)(hr:HdN tq r)(hl:(w++r).length<=1000000):rW (1,w,0) w r:=by obtain⟨c,t,rfl,hc⟩:=h0;have hb:=a3F hc;unfold rW nV;rw[show sat (c::t++r) 0=some (c.toNat:Int)from rfl,o9,I9 l7,o5,yX,hc,o9,o7];unfold uK;rw[QF hl,o9,Ed hw hr,O6 l7,o5,qA l7 F9,o9,o9];rw[D8,eF]
theorem XZ(hc:c=40\/c=41\/c=44\/c=58\/c=43\/c=45\/c=42)(r:List UInt8):rW (7,[c],0) [c] r:=by
 unfold rW;have hs:bQ ([c]++r) 0 1=some [c]:=by rw[qA l7 F9];rfl
 rcases hc with rfl|rfl|rfl|rfl|rfl|rfl|rfl
 all_goals
  unfold nV;generalize hx:bQ _ 0 1=q at hs;subst hs;rfl
theorem Rz(hc:c=60\/c=61\/c=33)(r:List UInt8)(hl:r.length<=1000000):rW (7,[c,61],0) [c,61] r:=by
 unfold rW;have h1:bQ ([c,61]++r) 1 (x9 ([c,61]++r))=some (61::r):=by rw[iR l7 F9];rfl
 have h2:bQ ([c,61]++r) 0 2=some [c,61]:=by rw[qA l7 F9];rfl
 have h3:Y6 (61::r) [61]=some true:=by unfold Y6 iC Lib.hasPrefix;simp[List.isPrefixOf]
 rcases hc with rfl|rfl|rfl
 all_goals
  unfold nV;rw[h1,h2];simp only[o9,h3];rfl
theorem a7x(r:List UInt8)(hl:r.length<=1000000)(hr:HdN (λc=>decide (c=61)) r):rW (7,[60],0) [60] r:=by
 unfold rW;have h1:bQ ([60]++r) 1 (x9 ([60]++r))=some r:=by rw[iR l7 F9];rfl
 have h2:bQ ([60]++r) 0 1=some [60]:=by rw[qA l7 F9];rfl
 have h3:Y6 r [61]=some false:=by
  unfold Y6 iC Lib.hasPrefix;cases r with
  |nil=>rfl
  |cons c t=>have:=hr c t rfl;simp only[decide_eq_false_iff_not]at this;simp[List.isPrefixOf];exact λh=>this h.symm
 unfold nV;rw[h1,h2];simp only[o9,h3];rfl
def sH(v:Nat)(l:List UInt8):Nat:=l.foldl (λa c=>10*a+(c.toNat -48)) v
theorem OW:∀(l:List UInt8) (v:Nat),v<=sH v l
 |[],v=>C9 _|c::l,v=>by have:=OW l (10*v+(c.toNat -48));unfold sH at this ⊢;rw[dE];omega
theorem Gf(a b:List UInt8)(v:Nat):sH v (a++b)=sH (sH v a) b:=by unfold sH;rw[List.foldl_append]
theorem RV(u:Nat):sH 0 (Lib.decDigits u)=u:=by
 induction u using Nat.strongRecOn with
 |_ u ih=>
  rw[Lib.decDigits];by_cases h:u<10
  .rw[dif_pos h];show 10*0+((UInt8.ofNat (48+u)).toNat -48)=u;simp;omega
  .rw[dif_neg h,Gf,ih (u / 10) l7];unfold sH;simp;omega
theorem Q_(u:Nat):∀c r,Lib.decDigits u=c::r->10<=u->c≠48:=by
 induction u using Nat.strongRecOn with
 |_ u ih=>
  intro c r e h;rw[Lib.decDigits,dif_neg l7]at e;by_cases h2:u / 10<10
  .rw[Lib.decDigits,dif_pos h2]at e;simp only[N8,H7,G6]at e;rw[←e.1];intro e3;have:=congrArg UInt8.toNat e3;simp at this;omega
  .cases hd:Lib.decDigits (u / 10)with
   |nil=>have:=(Lib.decDigits_length (u / 10)).symm.trans (congrArg List.length hd);have:=Lib.nDigits_pos (u / 10);simp_all|cons c' r' =>rw[hd]at e;simp only[N8,G6]at e;rw[←e.1];exact ih (u / 10) l7 c' r' hd l7
def Dg(l:List UInt8):Prop:=∀c∈l,qM c=true
theorem PR(u:Nat):Dg (Lib.decDigits u):=λc hc=>by have:=EO hc;unfold qM;simp;omega
theorem zO(h:s[i]? =some c)(hc:c.toNat<128):ou s (i:Int)=(c.toNat:Int)/\uU s (i:Int)=((i+1:Nat):Int):=by
 have hlt:=(aO.1 h).1;have hg:(ByteArray.mk s.toArray).get! i=c:=by
  unfold ByteArray.get!;have:(s.toArray)[i]! =c:=by simp[h]
  exact this
 have hd:Utf8.decode ⟨s.toArray⟩ i=(c.toNat,1):=by unfold Utf8.decode;simp only[ah,hg];rw[if_pos l7]
 unfold ou uU;rw[D8,hd];refine⟨rfl,A7⟩
def npF(p:Int)(x:Int×Bool×List UInt8×Int):Option (Out (Int×Bool×List UInt8×Int) (Int×Bool) (Int×Int)):=
        l9 (I8 x.2.2.2 (x9 x.2.2.1))
         (l9 (D5 x.2.2.2 p)
          (l9 (H9 (D5 (ou x.2.2.1 x.2.2.2) 46)) (some (Out.rt (0,2)))
           (some (Out.nx (x.1,x.2.1,x.2.2.1,uU x.2.2.1 x.2.2.2))))
          (o6 (nY (ou x.2.2.1 x.2.2.2)) λ(x_3:Bool)=>
           l9 (H9 x_3) (some (Out.rt (0,2)))
            (l9 x.2.1 (some (Out.nx (x.1,true,x.2.2.1,uU x.2.2.1 x.2.2.2)))
             (l9 (I8 461168601842738790 x.1)
              (some (Out.nx (x.1,true,x.2.2.1,uU x.2.2.1 x.2.2.2)))
              (some
               (Out.nx
                (I5 IntKind.i64 (JK IntKind.i64 x.1 10)
                  (wrap IntKind.i64 (ae IntKind.i32 (ou x.2.2.1 x.2.2.2) 48)),
                 I8 4611686018427387904
                  (I5 IntKind.i64 (JK IntKind.i64 x.1 10)
                   (wrap IntKind.i64 (ae IntKind.i32 (ou x.2.2.1 x.2.2.2) 48))),
                 x.2.2.1,uU x.2.2.1 x.2.2.2)))))))
         (some (Out.ex (x.1,x.2.1)))
theorem GU{s:List UInt8}{p:Nat} :∀(g pre suf:List UInt8) (v m:Nat),s=pre++g++suf->Dg g->(p<pre.length\/pre.length+g.length<=p)->sH v g<=100000000000000000->
  dW (npF (p:Int)) (m+g.length) ((v:Int),false,s,(pre.length:Int))=dW (npF (p:Int)) m ((sH v g:Int),false,s,((pre.length+g.length:Nat):Int))
 |[],pre,suf,v,m,h,hg,hp,hv=>rfl|c::g,pre,suf,v,m,h,hg,hp,hv=>by
  have hc:s[pre.length]? =some c:=by rw[h,E9,F7 (C9 _),aI];rfl
  have hd:=hg c A7;have hb:=PS hd;obtain⟨r1,r2⟩:=zO hc l7;have hv1:=OW g (10*v+(c.toNat -48));rw[show sH v (c::g)=sH (10*v+(c.toNat -48)) g from rfl]at hv;have hw:wrap .i64 (ae .i32 (c.toNat:Int) 48)=((c.toNat -48:Nat):Int):=by
   have h1:ae .i32 (c.toNat:Int) 48=((c.toNat -48:Nat):Int):=by unfold ae IntKind.wrap;simp[IntKind.signed,IntKind.bits];omega
   rw[h1];exact tu af
  have hnd:nY (c.toNat:Int)=some true:=by unfold nY;rw[X9 l7,X9 l7];rfl
  have st:npF (p:Int) ((v:Int),false,s,(pre.length:Int))=some (.nx (((10*v+(c.toNat -48):Nat):Int),false,s,((pre.length+1:Nat):Int))):=by unfold npF;simp only[V8 hc,o7,r1,r2,hnd,o9,F5,o5,hw];rw[I9 (by simp at hp;omega),o5,O6 l7,o5,EY af,aA af,O6 l7];congr 3;omega
  rw[D9,show m+(g.length+1)=(m+g.length)+1 by omega,bJ,st];have:=GU (s:=s) (p:=p) g (pre++[c]) suf (10*v+(c.toNat -48)) m (by rw[h];simp) (λd hd=>hg d (by simp[hd])) (by simp at hp ⊢;omega) hv;rw[show(pre++[c]).length=pre.length+1 by simp]at this;rw[show pre.length+(g.length+1)=pre.length+1+g.length by omega];exact this
theorem a8d{b:UInt8}(h:HdN (λc=>decide (c=b)) w):bH w [b]=some (w,false):=by
 unfold bH iM iC Lib.hasPrefix;cases w with
 |nil=>rfl|cons c t=>
  have:=h c t rfl;simp only[decide_eq_false_iff_not]at this;have e:[b].isPrefixOf (c::t)=false:=by simp[List.isPrefixOf];exact λh=>this h.symm
  rw[e];rfl
variable {d:List UInt8}
theorem a8f{b:UInt8}(hd:Dg d)(h:d≠[])(hb:qM b=false):HdN (λc=>decide (c=b)) (d++r):=by
 cases d with
 |nil=>exact absurd rfl h|cons c t=>intro x y e;simp only[N8,G6]at e;have:=hd c A7;rw[decide_eq_false_iff_not];intro hx;rw[←hx,←e.1,this]at hb;cases hb
def NoZ(d:List UInt8):Prop:=1<d.length->∀c t,d=c::t->c≠48
theorem QL{α:Type}(hz:NoZ d)(h:d≠[])(a b:α):(l9 (I8 1 (d.length:Int)) (o6 (sat (d++r) 0) λ(x:Int)=>l9 (D5 x 48) (some a) (some b)) (some b))=some b:=by
 by_cases h1:1<d.length
 .cases d with
  |nil=>exact absurd rfl h|cons c t=>have:=hz h1 c t rfl;rw[Y0 l7,o7,show sat (c::t++r) 0=some (c.toNat:Int)from rfl,o9];rw[show D5 (c.toNat:Int) 48=false from(Jt c 48 l7).trans (decide_eq_false this)];rfl
 .rw[O6 l7];rfl
theorem a3S{p:Int}{v:Int}(m:Nat):dW (npF p) (m+1) (v,false,s,(s.length:Int))=some (.inl (v,false)):=by rw[bJ];unfold npF;simp only[aG s,o5]
theorem a9Q(hd:Dg d)(h1:d≠[])(hz:NoZ d)(hv:sH 0 d<=100000000000000000)(hl:d.length<=1000):mQ d 0=some ((sH 0 d:Int),0):=by
 have hne:1<=d.length:=by cases d with|nil=>exact absurd rfl h1|cons c t=>simp
 have hc:=a8f (r:=[]) hd h1 (show qM 45=false by decide);rw[E5]at hc;unfold mQ;rw[a8d hc,o9];simp only[O6 (show(0:Int)<=0 by omega),o5,o9];rw[show x9 d=(d.length:Int)from rfl,O6 l7,o5];have hz2:=QL (r:=[]) hz h1 (Sum.inr (0,2):PUnit⊕(Int×Int)) (Sum.inl PUnit.unit);rw[E5]at hz2;refine J3 hz2 ?_;rw[o9,J7];have lp:P8 (npF (d.length:Int)) (0,false,d,0)=some (.inl ((sH 0 d:Int),false)):=by unfold P8;rw[show au=(au -1 -d.length)+1+d.length by unfold au;omega];have:=GU (s:=d) (p:=d.length) d [] [] 0 (au -1 -d.length+1) A7 hd (.inr A7) hv;rw[show(([]:List UInt8).length:Int)=0 from rfl,show((0:Nat):Int)=0 from rfl]at this;rw[this];have:=a3S (s:=d) (p:=(d.length:Int)) (v:=(sH 0 d:Int)) (au -1 -d.length);rw[show(([]:List UInt8).length+d.length)=d.length by simp];exact this
 refine J3 lp ?_;rfl
theorem a4h{d f:List UInt8}(hd:Dg d)(hf:Dg f)(h1:d≠[])(hz:NoZ d)(hk:1<=f.length)(hv:sH 0 (d++f)<=100000000000000000)(hl:d.length+f.length<=1000):mQ (d++46::f) (f.length:Int)=some ((sH 0 (d++f):Int),0):=by
 have hne:1<=d.length:=by cases d with|nil=>exact absurd rfl h1|cons c t=>simp
 have hc:=a8f (r:=46::f) hd h1 (show qM 45=false by decide);unfold mQ;rw[a8d hc,o9];have hp:(l9 (I8 0 (f.length:Int)) (some (ae IntKind.i64 (x9 (d++46::f)) (I5 IntKind.i64 (f.length:Int) 1))) (some (x9 (d++46::f))))=some (d.length:Int):=by rw[Y0 l7,o7,aA af,fA (by unfold fJ x9;simp;omega)];congr 1;unfold x9;simp<;>omega
 refine J3 hp ?_;rw[o9,O6 l7,o5];refine J3 (QL hz h1 (Sum.inr (0,2):PUnit⊕(Int×Int)) (Sum.inl PUnit.unit)) ?_;rw[o9,J7];have hv1:sH 0 d<=sH 0 (d++f):=by rw[Gf];exact OW _ _
 have lp:P8 (npF (d.length:Int)) (0,false,d++46::f,0)=some (.inl ((sH 0 (d++f):Int),false)):=by
  unfold P8;rw[show au=(au -2 -d.length -f.length)+1+f.length+1+d.length by unfold au;omega];have a1:=GU (s:=d++46::f) (p:=d.length) d [] (46::f) 0 (au -2 -d.length -f.length+1+f.length+1) A7 hd (.inr A7) l7;rw[show(([]:List UInt8).length:Int)=0 from rfl,show((0:Nat):Int)=0 from rfl,show(([]:List UInt8).length+d.length)=d.length by simp]at a1;rw[a1,bJ];have h46:(d++46::f)[d.length]? =some 46:=by rw[F7 (C9 _),aI];rfl
  obtain⟨r1,r2⟩:=zO h46 F6;have st:npF (d.length:Int) ((sH 0 d:Int),false,d++46::f,(d.length:Int))=some (.nx ((sH 0 d:Int),false,d++46::f,((d.length+1:Nat):Int))):=by unfold npF;simp only[V8 h46,o7,r1,r2,J4 (rfl:(d.length:Int)=(d.length:Int))];rfl
  rw[st];have a2:=GU (s:=d++46::f) (p:=d.length) f (d++[46]) [] (sH 0 d) (au -2 -d.length -f.length+1) A7 hf (.inl A7) (by rw[←Gf];exact hv);rw[←Gf]at a2;simp only[E8,ja]at a2;simp only;rw[a2];have:=a3S (s:=d++46::f) (p:=(d.length:Int)) (v:=(sH 0 (d++f):Int)) (au -2 -d.length -f.length);rw[show(d++46::f).length=d.length+1+f.length by simp;omega]at this;exact this
 refine J3 lp ?_;rfl
def PX(c:UInt8):Bool:=Ci c || (decide (65<=c.toNat)&&decide (c.toNat<=90)) || qM c || decide (c=95) || decide (c=46)
theorem QK(hd:Dg d)(hr:HdN qM r)(hr2:HdN (λc=>decide (c=45)) r)(hl:(d++r).length<=1000000):kM (d++r)=some false:=by
 unfold kM;have e0:=iV hl 0 l7;rw[aX,Ed hd hr]at e0;rw[show((0:Nat):Int)=0 from rfl]at e0;rw[e0,o9];by_cases h4:d.length=4
 .rw[J4 l7,o7];have e5:=iV hl 5 l7;have e8:=iV hl 8 l7;rw[show((5:Nat):Int)=5 from rfl]at e5;rw[show((8:Nat):Int)=8 from rfl]at e8;rw[e5,o9];cases D5 ((((d++r).drop 5).takeWhile qM).length:Int) 2
  .rfl
  rw[o7,e8,o9];by_cases h8:2<=(((d++r).drop 8).takeWhile qM).length
  .rw[X9 l7,o7];have hlen:=(fP qM (l:=(d++r).drop 8)).length_le;rw[Y5,E8]at hlen;cases r with
   |nil=>simp only[H6]at hlen;omega|cons c t=>
    have h4b:sat (d++c::t) 4=some (c.toNat:Int):=by rw[show(4:Int)=((4:Nat):Int)from rfl,oJ,F7 l7,h4];rfl
    have:=hr2 c t rfl;rw[h4b,o9,show D5 (c.toNat:Int) 45=false from(Jt c 45 l7).trans this];rfl
  .rw[bG l7];rfl
 .rw[I9 l7];rfl
variable {n:Int}
theorem OE(hr:HdN PX r)(hl:(w++r).length<=1000000)(hn:gu k w=some (n,0)):
  (o6
    (l9 (I8 (w.length:Int) (x9 (w++r)))
     (o6 (sat (w++r) (w.length:Int)) λ(x_1:Int)=>
      o6 (jo x_1) λ(x_2:Bool)=>
       l9 x_2 (some (Sum.inr ((0,[],0,0),0,2)))
        (l9 (V6 65 x_1)
         (l9 (V6 x_1 90) (some (Sum.inr ((0,[],0,0),0,2)))
          (o6 (dG x_1) λ(x_3:Bool)=>
           l9 x_3 (some (Sum.inr ((0,[],0,0),0,2)))
            (l9 (D5 x_1 95) (some (Sum.inr ((0,[],0,0),0,2)))
             (l9 (D5 x_1 46) (some (Sum.inr ((0,[],0,0),0,2))) (some (Sum.inl (0,[],0,0)))))))
         (o6 (dG x_1) λ(x_3:Bool)=>
          l9 x_3 (some (Sum.inr ((0,[],0,0),0,2)))
           (l9 (D5 x_1 95) (some (Sum.inr ((0,[],0,0),0,2)))
            (l9 (D5 x_1 46) (some (Sum.inr ((0,[],0,0),0,2))) (some (Sum.inl (0,[],0,0))))))))
     (some (Sum.inl (0,[],0,0))))
    λ(o:U7⊕U7×H5)=>
    bP o
     (λ(x_1:U7)=>
      o6 (bQ (w++r) 0 (w.length:Int)) λ(x_2:List UInt8)=>
       o6 (gu k x_2) λ(x_3:H5)=>
        l9 (H9 (D5 x_3.2 0)) (some ((0,[],0,0),0,3))
         (o6 (bQ (w++r) 0 (w.length:Int)) λ(x_4:List UInt8)=>some ((k,x_4,x_3.1,0),(w.length:Int),0)))
     λ(r:U7×H5)=>some r)=some ((k,w,n,0),(w.length:Int),0):=by
 have hs:bQ (w++r) 0 (w.length:Int)=some w:=by rw[qA l7 F9,D8,eF]
 have fin:(λ(o:U7⊕U7×H5)=>
    bP o
     (λ(x_1:U7)=>
      o6 (bQ (w++r) 0 (w.length:Int)) λ(x_2:List UInt8)=>
       o6 (gu k x_2) λ(x_3:H5)=>
        l9 (H9 (D5 x_3.2 0)) (some ((0,[],0,0),0,3))
         (o6 (bQ (w++r) 0 (w.length:Int)) λ(x_4:List UInt8)=>some ((k,x_4,x_3.1,0),(w.length:Int),0)))
     λ(r:U7×H5)=>some r) (Sum.inl (0,[],0,0))=(some ((k,w,n,0),(w.length:Int),0):Option (U7×H5)):=by
  simp only[J7];rw[hs,o9,hn,o9];rfl
 cases r with
 |nil=>rw[E5]at fin ⊢;rw[show x9 w=(w.length:Int)from rfl,O6 l7,o5,o9];exact fin|cons c t=>
  have hb:sat (w++c::t) (w.length:Int)=some (c.toNat:Int):=by rw[oJ,F7 (C9 _),aI];rfl
  have he:=hr c t rfl;unfold PX at he;simp only[bC]at he;obtain⟨⟨⟨⟨e1,e2⟩,e3⟩,e4⟩,e5⟩:=he;rw[show I8 (w.length:Int) (x9 (w++c::t))=true from Y0 (by unfold x9;simp;omega),o7,hb,o9,yX,e1,o9,o5,Ae,e3];rw[show D5 (c.toNat:Int) 95=false from(Jt c 95 l7).trans e4,show D5 (c.toNat:Int) 46=false from(Jt c 46 l7).trans e5];simp only[o9,o5];by_cases h65:65<=c.toNat
  .have:¬c.toNat<=90:=by
    intro h;rw[Bool.and_eq_false_iff]at e2;simp at e2;omega
   rw[X9 l7,o7,bG l7,o5];simp only[o9];exact fin
  .rw[bG l7,o5];simp only[o9];exact fin
theorem a8e(hd:Dg d)(h:d≠[]):∃c t,d++r=c::t/\qM c=true/\sat (d++r) 0=some (c.toNat:Int):=by
 cases d with
 |nil=>exact absurd rfl h|cons c t=>exact⟨c,t++r,rfl,hd c A7,rfl⟩
theorem KR(hd:Dg d)(h:d≠[]):nV (d++r)=jr (d++r):=by
 obtain⟨c,t,-,hc,hs⟩:=a8e (r:=r) hd h;have hb:=PS hc;have hlow:Ci c=false:=by unfold Ci;simp;omega
 unfold nV;rw[hs,o9,I9 l7,o5,yX,hlow,o9,o5,Ae,hc,o9,o7,aB]
variable {u:Nat}
theorem b0n(hu:u<=1000000000000)(hr:HdN PX r)(hr2:HdN (λc=>decide (c=45)) r)(hl:(Lib.decDigits u++r).length<=1000000):rW (2,Lib.decDigits u,(u:Int)) (Lib.decDigits u) r:=by
 have hd:=PR u;have hlen:=qL (u:=u) l7;have hne:Lib.decDigits u≠[]:=by intro e;rw[e]at hlen;simp at hlen
 have hz:NoZ (Lib.decDigits u):=by
  intro h1 c t e;refine Q_ u c t e ?_;rcases gU u 10 with h|h
  .rw[Lib.decDigits,dif_pos h]at h1;simp at h1
  .exact h
 have hv:=RV u;generalize Lib.decDigits u=d at*;have hrd:HdN qM r:=λc t e=>by have:=hr c t e;unfold PX at this;simp only[bC]at this;exact this.1.1.2
 have hr46:HdN (λc=>decide (c=46)) r:=λc t e=>by have:=hr c t e;unfold PX at this;simp only[bC]at this;exact this.2
 unfold rW;rw[KR hd hne];unfold jr;rw[QK hd hrd hr2 hl,o9,P7,o7];have e0:=iV hl 0 l7;rw[aX,Ed hd hrd,show((0:Nat):Int)=0 from rfl]at e0;have hs:bQ (d++r) (d.length:Int) (x9 (d++r))=some r:=by rw[iR l7 F9,D8,X4]
 have hdec:∀k,fG r k=some false:=by
  intro k;unfold fG Y6 iC Lib.hasPrefix;have:[46].isPrefixOf r=false:=by
   cases r with
   |nil=>rfl
   |cons c t=>have:=hr46 c t rfl;simp only[decide_eq_false_iff_not]at this;simp[List.isPrefixOf];exact λh=>this h.symm
  rw[this];rfl
 rw[e0,o9,hs,o9,hdec,o9,o5,o9,hdec,o9,o5,o9];refine J3 (QL hz hne _ _) ?_;rw[o9,J7];have hn:gu 2 d=some ((u:Int),0):=by unfold gu vF;simp (disch:=decide) only[I9,o5];rw[a9Q hd hne hz l7 l7,o9,o9,hv,J4 rfl,o7,O6 (by simp only;omega)];rfl
 exact OE hr hl hn
theorem wO{u k:Nat}(hu:u<18446744073709551616)(hk:1<=k/\k<=9):∃d f,tX u k=d++46::f/\Dg d/\Dg f/\d≠[]/\NoZ d/\f.length=k/\sH 0 (d++f)=u/\d.length<=20:=by
 have hl:=qL hu;generalize hD:List.replicate (k+1 -(Lib.decDigits u).length) 48++Lib.decDigits u=D;have hDl:k+1<=D.length/\D.length<=31:=by rw[←hD];simp;omega
 have hDg:Dg D:=by
  rw[←hD];intro c hc;rcases I4.1 hc with hc|hc
  .have:=List.eq_of_mem_replicate hc;subst this;decide
  .exact PR u c hc
 refine⟨D.take (D.length -k),D.drop (D.length -k),?_,λc hc=>hDg c (lI hc),λc hc=>hDg c (List.mem_of_mem_drop hc),?_,?_,by simp;omega,?_,?_⟩
 .unfold tX;simp only[hD]
 .intro e;have:=congrArg List.length e;simp at this;omega
 .intro h1 c t e;have h1' :k+1<D.length:=by simp at h1;omega
  have hz0:k+1 -(Lib.decDigits u).length=0:=by rw[←hD]at h1';simp at h1';omega
  rw[hz0,List.replicate_zero,H7]at hD;have h10:10<=u:=by
   rcases gU u 10 with h|h
   .rw[←hD,Lib.decDigits,dif_pos h]at h1';simp at h1'
   .exact h
  cases hDD:D with
  |nil=>rw[hDD]at h1';simp at h1'|cons c' t' =>
   rw[hDD]at e;have:c' =c:=by rw[show(c' ::t').length -k=((c' ::t').length -k -1)+1 by rw[hDD]at h1';omega,List.take_succ_cons]at e;exact(P5 e).1
   rw[←this];exact Q_ u c' t' (hD.trans hDD) h10
 .rw[dL,←hD,Gf];have:∀z,sH 0 (List.replicate z 48)=0:=by
   intro z;induction z with
   |zero=>rfl|succ z ih=>rw[jU];show sH (10*0+0) (List.replicate z 48)=0;exact ih
  rw[this,RV]
 .simp;rw[←hD];simp;omega
theorem b2c(x:List UInt8):Y6 (46::x) [46]=some true:=by unfold Y6 iC Lib.hasPrefix;simp[List.isPrefixOf]
theorem YP{f r:List UInt8}(hf:Dg f)(hr:HdN qM r)(k:Int)(hl:(46::(f++r)).length<=1000000):fG (46::(f++r)) k=some (D5 (f.length:Int) k):=by unfold fG;have e:=iV hl 1 l7;rw[show(46::(f++r)).drop 1=f++r from rfl,Ed hf hr,show((1:Nat):Int)=1 from rfl]at e;rw[b2c,o9,o7,e,o9]
theorem a4W(hu:u<=1000000000000000)(hr:HdN PX r)(hl:(tX u 2++r).length<=1000000):rW (3,tX u 2,(u:Int)) (tX u 2) r:=by
 obtain⟨d,f,e,hd,hf,hne,hz,hfl,hv,hdl⟩:=wO (u:=u) (k:=2) l7 l7;rw[e]at hl ⊢;have hrd:HdN qM r:=λc t e=>by have:=hr c t e;unfold PX at this;simp only[bC]at this;exact this.1.1.2
 have hs46:HdN qM (46::f++r):=λc t e=>by cases e;rfl
 have hs45:HdN (λc=>decide (c=45)) (46::f++r):=λc t e=>by cases e;rfl
 have hl' :(d++(46::f++r)).length<=1000000:=by rw[←E9];exact hl
 unfold rW;rw[E9,KR hd hne];unfold jr;rw[QK hd hs46 hs45 hl',o9,P7,o7];have e0:=iV hl' 0 l7;rw[aX,Ed hd hs46,show((0:Nat):Int)=0 from rfl]at e0;have hs:bQ (d++(46::f++r)) (d.length:Int) (x9 (d++(46::f++r)))=some (46::(f++r)):=by rw[iR l7 F9,D8,X4];rfl
 have hl2:(46::(f++r)).length<=1000000:=by simp at hl' ⊢;omega
 rw[e0,o9,hs,o9,YP hf hrd 2 hl2,o9,hfl,show D5 ((2:Nat):Int) 2=true from rfl,o7,o9];refine J3 (QL hz hne _ _) ?_;rw[o9,J7];have hn:gu 3 (d++46::f)=some ((u:Int),0):=by unfold gu mg;simp (disch:=decide) only[I9,J4,o5,o7];have hp:=a4h hd hf hne hz l7 l7 l7;rw[hfl,hv]at hp;rw[show iG 2=some ((2:Nat):Int)from rfl,o9,hp,o9,o9,J4 rfl,o7,O6 (by simp only;omega)];rfl
 have hlen:I5 .i64 (d.length:Int) 3=((d++46::f).length:Int):=by rw[aA af];simp;omega
 have:=OE (w:=d++46::f) hr hl hn;rw[E9]at this;simp only[hlen];exact this
theorem a7w(hu:u<=1000000000)(hr:HdN PX r)(hl:(tX u 4++[37]++r).length<=1000000):rW (4,tX u 4++[37],(u:Int)) (tX u 4++[37]) r:=by
 obtain⟨d,f,e,hd,hf,hne,hz,hfl,hv,hdl⟩:=wO (u:=u) (k:=4) l7 l7;rw[e]at hl ⊢;have hs46:HdN qM (46::f++[37]++r):=λc t e=>by cases e;rfl
 have hs45:HdN (λc=>decide (c=45)) (46::f++[37]++r):=λc t e=>by cases e;rfl
 have hre:HdN qM ([37]++r):=λc t e=>by cases e;rfl
 have hq:d++46::f++[37]++r=d++(46::f++[37]++r):=A7;have hl' :(d++(46::f++[37]++r)).length<=1000000:=by rw[←hq];exact hl
 unfold rW;rw[hq,KR hd hne];unfold jr;rw[QK hd hs46 hs45 hl',o9,P7,o7];have e0:=iV hl' 0 l7;rw[aX,Ed hd hs46,show((0:Nat):Int)=0 from rfl]at e0;have hs:bQ (d++(46::f++[37]++r)) (d.length:Int) (x9 (d++(46::f++[37]++r)))=some (46::(f++([37]++r))):=by rw[iR l7 F9,D8,X4];simp
 have hs5:bQ (d++(46::f++[37]++r)) (I5 .i64 (d.length:Int) 5) (x9 (d++(46::f++[37]++r)))=some (37::r):=by rw[show I5 .i64 (d.length:Int) 5=((d.length+5:Nat):Int) by rw[aA af];omega];rw[iR l7 F9,D8,show d.length+5=(d++46::f).length by simp;omega,show d++(46::f++[37]++r)=(d++46::f)++(37::r) by simp,X4]
 have hl2:(46::(f++([37]++r))).length<=1000000:=by simp at hl' ⊢;omega
 have h37:Y6 (37::r) [37]=some true:=by unfold Y6 iC Lib.hasPrefix;simp[List.isPrefixOf]
 rw[e0,o9,hs,o9,YP hf hre 2 hl2,o9,hfl,show D5 ((4:Nat):Int) 2=false from rfl,o5,o9,YP hf hre 4 hl2,o9,hfl,show D5 ((4:Nat):Int) 4=true from rfl,o7,hs5,o9,h37,o9,o7,o9];refine J3 (QL hz hne _ _) ?_;rw[o9,J7];have hn:gu 4 (d++46::f++[37])=some ((u:Int),0):=by
  unfold gu mg;simp (disch:=decide) only[I9,J4,o5,o7];have hp:=a4h hd hf hne hz l7 l7 l7;rw[hfl,hv]at hp;have hcut:bQ (d++46::f++[37]) 0 (ae .i64 (x9 (d++46::f++[37])) 1)=some (d++46::f):=by rw[fA (by unfold fJ x9;simp;omega),qA (by unfold x9;simp;omega) (by unfold x9;simp;omega)];congr 1;rw[show(x9 (d++46::f++[37]) -1).toNat=(d++46::f).length by unfold x9;simp;omega,eF]
  rw[hcut,o9,show iG 4=some ((4:Nat):Int)from rfl,o9,hp,o9,o9,J4 rfl,o7,O6 (by simp only;omega)];rfl
 have hlen:I5 .i64 (d.length:Int) 6=((d++46::f++[37]).length:Int):=by rw[aA af];simp;omega
 have:=OE (w:=d++46::f++[37]) hr hl hn;rw[hq]at this;simp only[hlen];exact this
theorem a8o(y:Int):∀(n:Nat) (d:Int),n<=12->0<=d->d<rem y n->
  CW y (12 -n)+d=CW y ((mo y n d).2 -1).toNat+(mo y n d).1
 |0,d,_,h0,h=>by simp[rem]at h;omega|n+1,d,hn,h0,h=>by
  have e:dim y (12 -(n:Int))=dim y (((12 -(n+1):Nat):Int)+1):=by congr 1;omega
  have hs:CW y (12 -n)=CW y (12 -(n+1))+dim y (12 -(n:Int)):=by rw[e,show 12 -n=(12 -(n+1))+1 by omega];rfl
  rw[Vo];by_cases hd:d<dim y (12 -(n:Int))
  .rw[if_pos hd];show CW y (12 -(n+1))+d=CW y (12 -(n:Int) -1).toNat+d;congr 2;omega
  .rw[if_neg hd];have h2:d -dim y (12 -(n:Int))<rem y n:=by
    have e2:rem y (n+1)=dim y (12 -(n:Int))+rem y n:=rfl;omega
   have:=a8o y n (d -dim y (12 -(n:Int))) l7 l7 h2;omega
theorem b1A{d:Int}(h0:0<=d)(h:d<=109572):(ymd d).2.2<=dim (ymd d).1 (ymd d).2.1:=by
 have hy:=Gl h0 h;have hr:d -ys (yOf d)<rem (yOf d) 12:=by rw[XJ];have:=BM (yOf d);omega
 have:=a0u (yOf d) 12 (d -ys (yOf d)) l7 l7 hr;show(mo (yOf d) 12 (d -ys (yOf d))).1+1<=dim (yOf d) (mo (yOf d) 12 (d -ys (yOf d))).2;omega
theorem a6q{d:Int}(h0:0<=d)(h:d<=109572):b1U (ymd d).1 (ymd d).2.1 (ymd d).2.2=d:=by
 have hy:=Gl h0 h;have hr:d -ys (yOf d)<rem (yOf d) 12:=by rw[XJ];have:=BM (yOf d);omega
 have:=a8o (yOf d) 12 (d -ys (yOf d)) l7 l7 hr;have e0:CW (yOf d) (12 -12)=0:=rfl;show ys (yOf d)+CW (yOf d) ((mo (yOf d) 12 (d -ys (yOf d))).2 -1).toNat+((mo (yOf d) 12 (d -ys (yOf d))).1+1) -1=d;omega
theorem Vh(h:0<=n):Lib.itoa n=Lib.decDigits n.toNat:=by unfold Lib.itoa;rw[if_neg l7]
theorem b1w:∀k:Fin 32,(Lib.decDigits k.val).length=if k.val<10 then 1 else 2:=by
 intro k;rcases gU k.val 10 with h|h
 .rw[Lib.decDigits,dif_pos h,if_pos h];rfl
 .rw[Lib.decDigits,dif_neg l7,if_neg l7,Lib.decDigits,dif_pos (show k.val / 10<10 by omega)];rfl
theorem a6u(u:Nat)(h1:1000<=u)(h2:u<10000):(Lib.decDigits u).length=4:=by rw[Lib.decDigits,dif_neg l7,Lib.decDigits,dif_neg l7,Lib.decDigits,dif_neg l7,Lib.decDigits,dif_pos l7];rfl
theorem b6g(z:Nat)(l:List UInt8):sH 0 (List.replicate z 48++l)=sH 0 l:=by
 induction z with
 |zero=>rfl|succ z ih=>rw[jU,N8];show sH (10*0+0) _=_;exact ih
theorem GV(w:Nat)(h0:0<=n):sH 0 (CZ n w)=n.toNat/\Dg (CZ n w):=by
 unfold CZ;rw[Vh h0];refine⟨by rw[b6g,RV],λc hc=>?_⟩;rcases I4.1 hc with hc|hc
 .have:=List.eq_of_mem_replicate hc;subst this;decide
 .exact PR _ c hc
theorem a0C(h0:0<=n)(h1:n<=31):(CZ n 2).length=2:=by unfold CZ;rw[Vh h0];have hl:=b1w ⟨n.toNat,l7⟩;dsimp only at hl;rw[E8,uF,hl];split<;>omega
theorem a8r(h0:1000<=n)(h1:n<10000):(CZ n 4).length=4:=by unfold CZ;rw[Vh l7];rw[E8,uF,a6u _ l7 l7]
def ddF(x:Int×List UInt8×Int):Option (Out (Int×List UInt8×Int) Int (Int×Bool)):=
   l9 (I8 x.2.2 (x9 x.2.1))
    (l9 (I8 (ou x.2.1 x.2.2) 48) (some (Out.rt (0,false)))
     (l9 (I8 57 (ou x.2.1 x.2.2)) (some (Out.rt (0,false)))
      (some
       (Out.nx
        (I5 IntKind.i64 (JK IntKind.i64 x.1 10)
          (wrap IntKind.i64 (ae IntKind.i32 (ou x.2.1 x.2.2) 48)),
         x.2.1,uU x.2.1 x.2.2)))))
    (some (Out.ex x.1))
theorem a2Z{s:List UInt8} :∀(g pre:List UInt8) (v m:Nat),s=pre++g->Dg g->sH v g<=100000000000000000->dW ddF (m+1+g.length) ((v:Int),s,(pre.length:Int))=some (.inl (sH v g:Int))
 |[],pre,v,m,h,hg,hv=>by rw[E5]at h;subst h;rw[H6,ah,bJ];unfold ddF;simp only[aG s,o5];rfl|c::g,pre,v,m,h,hg,hv=>by
  have hc:s[pre.length]? =some c:=by rw[h,F7 (C9 _),aI];rfl
  have hb:=PS (hg c A7);obtain⟨r1,r2⟩:=zO hc l7;have hv1:=OW g (10*v+(c.toNat -48));rw[show sH v (c::g)=sH (10*v+(c.toNat -48)) g from rfl]at hv;have hw:wrap .i64 (ae .i32 (c.toNat:Int) 48)=((c.toNat -48:Nat):Int):=by
   have h1:ae .i32 (c.toNat:Int) 48=((c.toNat -48:Nat):Int):=by unfold ae IntKind.wrap;simp[IntKind.signed,IntKind.bits];omega
   rw[h1];exact tu af
  have st:ddF ((v:Int),s,(pre.length:Int))=some (.nx (((10*v+(c.toNat -48):Nat):Int),s,((pre.length+1:Nat):Int))):=by unfold ddF;simp only[V8 hc,o7,r1,r2,hw];rw[O6 l7,o5,O6 l7,o5,EY af,aA af];congr 3;omega
  rw[D9,show m+1+(g.length+1)=(m+1+g.length)+1 by omega,bJ,st];have:=a2Z (s:=s) g (pre++[c]) (10*v+(c.toNat -48)) m (by rw[h];simp) (λd hd=>hg d (by simp[hd])) hv;rw[show(pre++[c]).length=pre.length+1 by simp]at this;exact this
theorem Lu{g:List UInt8}(hg:Dg g)(hv:sH 0 g<=100000000000000000)(hl:g.length<=1000):rP g=some ((sH 0 g:Int),true):=by
 unfold rP;have:P8 ddF (0,g,0)=some (.inl (sH 0 g:Int)):=by unfold P8;rw[show au=(au -1 -g.length)+1+g.length by unfold au;omega];exact a2Z (s:=g) g [] 0 _ rfl hg hv
 refine J3 this ?_;rfl
theorem UO{d:Int}(h0:0<=d)(h:d<=109572):yh (lJ d)=some (d,0):=by
 have hb:=Si h0 h;have l1:=a8r (n:=(ymd d).1) l7 l7;have l2:=a0C (n:=(ymd d).2.1) l7 l7;have l3:=a0C (n:=(ymd d).2.2) l7 l7;obtain⟨v1,g1⟩:=GV (n:=(ymd d).1) 4 l7;obtain⟨v2,g2⟩:=GV (n:=(ymd d).2.1) 2 l7;obtain⟨v3,g3⟩:=GV (n:=(ymd d).2.2) 2 l7;unfold lJ;rw[if_pos ⟨h0,h⟩];have hfr:mO (ymd d).1 (ymd d).2.1 (ymd d).2.2=some (d,0):=by rw[Qg l7 l7 l7 (b1A h0 h),a6q h0 h]
 generalize CZ (ymd d).1 4=A at*;generalize CZ (ymd d).2.1 2=B at*;generalize CZ (ymd d).2.2 2=C at*;unfold yh;have hs:A++45::B++45::C=A++(45::(B++(45::C))):=A7;rw[hs];have e4:sat (A++(45::(B++(45::C)))) 4=some 45:=by rw[show(4:Int)=((4:Nat):Int)from rfl,oJ,F7 l7,l1];rfl
 have e7:sat (A++(45::(B++(45::C)))) 7=some 45:=by rw[show(7:Int)=((7:Nat):Int)from rfl,oJ,F7 l7,l1,show 7 -4=2+1 from rfl,nU,F7 l7,l2];rfl
 have q1:bQ (A++(45::(B++(45::C)))) 0 4=some A:=by rw[qA l7 F9,show(4:Int).toNat=A.length by omega,eF]
 have q2:bQ (A++(45::(B++(45::C)))) 5 7=some B:=by rw[GM l7 l7 F9];rw[show A++(45::(B++(45::C)))=(A++[45])++(B++(45::C)) by simp,show(7:Int).toNat=(A++[45]).length+B.length by simp;omega,List.take_length_add_append,show(5:Int).toNat=(A++[45]).length by simp;omega,X4,eF]
 have q3:bQ (A++(45::(B++(45::C)))) 8 (x9 (A++(45::(B++(45::C)))))=some C:=by rw[iR l7 F9];rw[show A++(45::(B++(45::C)))=(A++[45]++B++[45])++C by simp,show(8:Int).toNat=(A++[45]++B++[45]).length by simp;omega,X4]
 rw[show D5 (x9 (A++(45::(B++(45::C))))) 10=true from J4 (by unfold x9;simp;omega),F5,o5,e4,o9,J4 rfl,F5,o5,e7,o9,J4 rfl,F5,o5,o9,J7];rw[q1,o9,Lu g1 l7 l7,o9,q2,o9,Lu g2 l7 l7,o9,q3,o9,Lu g3 l7 l7,o9,F5,o5,o5,o5,v1,v2,v3];rw[show(((ymd d).1.toNat:Nat):Int)=(ymd d).1 by omega,show(((ymd d).2.1.toNat:Nat):Int)=(ymd d).2.1 by omega,show(((ymd d).2.2.toNat:Nat):Int)=(ymd d).2.2 by omega,hfr,o9]
theorem UN{d:Int}(h0:0<=d)(h:d<=109572):∃A B C:List UInt8,lJ d=A++(45::(B++(45::C)))/\A.length=4/\B.length=2/\C.length=2/\Dg A/\Dg B/\Dg C:=by have hb:=Si h0 h;refine⟨CZ (ymd d).1 4,CZ (ymd d).2.1 2,CZ (ymd d).2.2 2,?_,a8r l7 l7,a0C l7 l7,a0C l7 l7,(GV 4 l7).2,(GV 2 l7).2,(GV 2 l7).2⟩;unfold lJ;rw[if_pos ⟨h0,h⟩];simp
theorem a7v(h0:0<=n)(h:n<=109572)(hr:HdN PX r)(hl:(lJ n++r).length<=1000000):rW (5,lJ n,n) (lJ n) r:=by
 obtain⟨A,B,C,e,a1,a2,a3,a4,a5,a6⟩:=UN h0 h;have hp:=UO h0 h;rw[e]at hl hp ⊢;have hne:A≠[]:=by intro e;rw[e]at a1;simp at a1
 have hrd:HdN qM r:=λc t e=>by have:=hr c t e;unfold PX at this;simp only[bC]at this;exact this.1.1.2
 have hq:A++(45::(B++(45::C)))++r=A++(45::(B++(45::(C++r)))):=A7;unfold rW;have hl' :(A++(45::(B++(45::(C++r))))).length<=1000000:=by rw[←hq];exact hl
 rw[hq,KR a4 hne];unfold jr;have hdf:kM (A++(45::(B++(45::(C++r)))))=some true:=by
  unfold kM;have e0:=iV hl' 0 l7;rw[aX,Ed a4 (λc t e=>by cases e;rfl),show((0:Nat):Int)=0 from rfl]at e0;have d5:(A++(45::(B++(45::(C++r))))).drop 5=B++(45::(C++r)):=by rw[show A++(45::(B++(45::(C++r))))=(A++[45])++(B++(45::(C++r))) by simp];exact List.drop_left' F9
  have d8:(A++(45::(B++(45::(C++r))))).drop 8=C++r:=by rw[show A++(45::(B++(45::(C++r))))=(A++[45]++B++[45])++(C++r) by simp];exact List.drop_left' F9
  have e5:fF (A++(45::(B++(45::(C++r))))) 5=some (B.length:Int):=by have t:=iV hl' 5 l7;rw[d5,Ed a5 (λc t e=>by cases e;rfl)]at t;exact t
  have e8:fF (A++(45::(B++(45::(C++r))))) 8=some (C.length:Int):=by have t:=iV hl' 8 l7;rw[d8,Ed a6 hrd]at t;exact t
  have s4:sat (A++(45::(B++(45::(C++r))))) 4=some 45:=by rw[show(4:Int)=((4:Nat):Int)from rfl,oJ,F7 l7,a1];rfl
  have s7:sat (A++(45::(B++(45::(C++r))))) 7=some 45:=by rw[show(7:Int)=((7:Nat):Int)from rfl,oJ,F7 l7,a1,show 7 -4=2+1 from rfl,nU,F7 l7,a2];rfl
  rw[e0,o9,a1,show D5 ((4:Nat):Int) 4=true from rfl,o7,e5,o9,a2,show D5 ((2:Nat):Int) 2=true from rfl,o7,e8,o9,a3,show V6 2 ((2:Nat):Int)=true from rfl,o7,s4,o9,J4 rfl,o7,s7,o9,J4 rfl]
 rw[hdf,o9,F5,o5,o9,J7];have hn:gu 5 (A++(45::(B++(45::C))))=some (n,0):=by unfold gu;simp (disch:=decide) only[J4,o7];rw[hp,o9,J4 rfl,o7,O6 (by simp only;omega)];rfl
 have:=OE (w:=A++(45::(B++(45::C)))) hr hl hn;rw[hq]at this;have hlen:((A++(45::(B++(45::C)))).length:Int)=10:=by simp;omega
 rw[hlen]at this ⊢;exact this
abbrev It:Type:=Option V7
def di:List It->List UInt8
 |[]=>[]|none::L=>32::di L|some k::L=>k.2.1++di L
theorem oh:∀A B:List It,di (A++B)=di A++di B
 |[],B=>rfl|none::A,B=>by rw[N8];simp only[di];rw[oh A B];rfl|some k::A,B=>by rw[N8];simp only[di];rw[oh A B,E9]
def uY(L:List It):List V7:=L.filterMap id
theorem fH(A B:List It):uY (A++B)=uY A++uY B:=List.filterMap_append
def a7z(c:UInt8):Bool:=decide (c=32) || decide (c=40) || decide (c=41) || decide (c=44) || decide (c=58)
def HdS(r:List UInt8):Prop:=∀c t,r=c::t->a7z c=true
theorem a2p(h:a7z c=true):c=32\/c=40\/c=41\/c=44\/c=58:=by unfold a7z at h;simp only[iZ,decide_eq_true_eq]at h;rcases h with(((h|h)|h)|h)|h<;>simp[h]
theorem a0c{P:UInt8->Bool}(h:HdS r)(h1:P 32=false)(h2:P 40=false)(h3:P 41=false)(h4:P 44=false)(h5:P 58=false):HdN P r:=by intro c t e;rcases a2p (h c t e)with rfl|rfl|rfl|rfl|rfl<;>assumption
theorem a3p(h:HdS r):HdN tq r:=a0c h F6 F6 F6 F6 F6
theorem Ov(h:HdS r):HdN PX r:=a0c h F6 F6 F6 F6 F6
theorem a9B(h:HdS r):HdN (λc=>decide (c=45)) r:=a0c h F6 F6 F6 F6 F6
theorem a9C(h:HdS r):HdN (λc=>decide (c=61)) r:=a0c h F6 F6 F6 F6 F6
def a0a(k:V7):Prop:=∃c:UInt8,(c=40\/c=41\/c=44\/c=58\/c=43\/c=45\/c=42)/\k=(7,[c],0)
def prB(c:UInt8):Bool:=decide (32<=c.toNat)&&decide (c.toNat<=126)
structure TokOk (k:V7):Prop where
 pr:∀c∈k.2.1,prB c=true
 ne:∃c t,k.2.1=c::t/\Lj c=false
 sc:a0a k\/∀r,HdS r->(k.2.1++r).length<=1000000->rW k k.2.1 r
def WSR:List It->List UInt8->Prop
 |[],_=>True|none::L,R=>HdN Lj (di L++R)/\WSR L R|some k::L,R=>TokOk k/\(a0a k\/HdS (di L++R))/\WSR L R
theorem VZ:∀(A B:List It) (R:List UInt8),WSR A (di B++R)->WSR B R->WSR (A++B) R
 |[],B,R,_,h=>h|none::A,B,R,h,h2=>by refine⟨?_,VZ A B R h.2 h2⟩;show HdN Lj (di (A++B)++R);rw[oh,E9];exact h.1|some k::A,B,R,h,h2=>by refine⟨h.1,?_,VZ A B R h.2.2 h2⟩;show a0a k\/HdS (di (A++B)++R);rw[oh,E9];exact h.2.1
def vU:Nat->List It->List U7
 |_,[]=>[]|o,none::L=>vU (o+1) L|o,some k::L=>(k.1,k.2.1,k.2.2,(o:Int))::vU (o+k.2.1.length) L
theorem Bv:∀(L:List It) (o:Nat),(vU o L).map (λx=>((x.1,x.2.1,x.2.2.1):V7))=uY L
 |[],o=>rfl|none::L,o=>by show(vU (o+1) L).map _=_;rw[Bv L (o+1)];rfl|some k::L,o=>by show _::(vU (o+k.2.1.length) L).map _=_;rw[Bv L];rfl
theorem a2e:∀(L:List It) (o:Nat),(vU o L).length=(uY L).length:=λL o=>by rw[←Bv L o,O7]
def tkF(a0:List UInt8)(x:List U7×Int):Option (Out (List U7×Int) (List U7) (List U7×Int×Int)):=
     l9 (I8 x.2 (x9 a0))
      (o6 (bQ a0 x.2 (x9 a0)) λ(x_1:List UInt8)=>
       o6 (nV x_1) λ(x_2:U7×H5)=>
        l9 (H9 (D5 x_2.2.2 0)) (some (Out.rt ([],x.2,x_2.2.2)))
         (o6 (jV x.1 [(x_2.1.1,x_2.1.2.1,x_2.1.2.2.1,x.2)]) λ(x_3:List U7)=>
          o6 (nX a0 (I5 IntKind.i64 x.2 x_2.2.1)) λ(x:Int)=>some (Out.nx (x_3,x))))
      (some (Out.ex x.1))
theorem a1h{L:List It}(h:WSR L [])(hn:∀M,L≠none::M):HdN Lj (di L):=by
 cases L with
 |nil=>intro c t e;cases e|cons a L=>
  cases a with
  |none=>exact absurd rfl (hn L)|some k=>obtain⟨c,t,e,hb⟩:=h.1.ne;intro x y e2;simp only[di,e,N8,G6]at e2;rw[←e2.1];exact hb
theorem a5S{k:V7}(h:TokOk k)(h2:a0a k\/HdS r)(hl:(k.2.1++r).length<=1000000):rW k k.2.1 r:=by
 rcases h.sc with⟨c,hc,rfl⟩|hs
 .exact XZ hc r
 .rcases h2 with⟨c,hc,rfl⟩|h2
  .exact XZ hc r
  .exact hs r h2 hl
theorem KX{s:List UInt8}(hs:s.length<=65536):∀(L:List It) (pre:List UInt8) (acc:List U7) (m:Nat),s=pre++di L->WSR L []->(∀M,L≠none::M)->acc.length+L.length<=1000000->
  dW (tkF s) (m+L.length+1) (acc,(pre.length:Int))=some (.inl (acc++vU pre.length L))
 |[],pre,acc,m,h,hw,hn,ha=>by rw[di,E5]at h;subst h;rw[bJ];unfold tkF;simp only[aG s,o5];rw[show vU s.length []=[]from rfl,E5]|none::L,pre,acc,m,h,hw,hn,ha=>absurd rfl (hn L)|some k::L,pre,acc,m,h,hw,hn,ha=>by
  have hlen:=congrArg List.length h;simp only[di,E8]at hlen;obtain⟨h1,h2,h3⟩:=hw;rw[E5]at h2;have hkl:1<=k.2.1.length:=by obtain⟨c,t,e,-⟩:=h1.ne;rw[e];simp
  have hsc:=a5S h1 h2 F9;unfold rW at hsc;have hsub:bQ s (pre.length:Int) (x9 s)=some (k.2.1++di L):=by rw[iR l7 l7,D8,h,X4];rfl
  simp only[D9]at ha;have hat:I5 .i64 (pre.length:Int) (k.2.1.length:Int)=((pre.length+k.2.1.length:Nat):Int):=by rw[aA af];omega
  rw[show m+(some k::L).length+1=(m+L.length+1)+1 by simp;omega,bJ];have key:∀j:Nat,nX s ((pre.length+k.2.1.length:Nat):Int)=some (j:Int)->tkF s (acc,(pre.length:Int))=some (.nx (acc++[(k.1,k.2.1,k.2.2,(pre.length:Int))],(j:Int))):=by intro j hj;unfold tkF;simp only[Y0 (show(pre.length:Int)<x9 s by unfold x9;omega),o7,hsub,o9,hsc,J4 (rfl:(0:Int)=0),F5,o5];rw[nJ _ l7,o9,hat,hj,o9]
  have hfin:∀M:List It,vU pre.length (some k::L)=(k.1,k.2.1,k.2.2,(pre.length:Int))::vU (pre.length+k.2.1.length) L:=λ_=>rfl;rw[hfin L];have hpk:s=(pre++k.2.1)++di L:=by rw[h];simp[di]
  cases L with
  |nil=>
   rw[key (pre.length+k.2.1.length) (RF l7 (by rw[hpk,←E8,X4];intro c t e;cases e) l7)]
   have:=KX hs [] (pre++k.2.1) (acc++[(k.1,k.2.1,k.2.2,(pre.length:Int))]) m (by rw[hpk]) trivial (λM e=>by cases e) F9;rw[E8]at this;simp only;rw[show m+([]:List It).length+1=m+([]:List It).length+1 from rfl,this];simp
  |cons a L=>
   cases a with
   |some k' =>
    rw[key (pre.length+k.2.1.length) (RF l7 (by rw[hpk,←E8,X4];exact a1h h3 (λM e=>by cases e)) l7)]
    have:=KX hs (some k' ::L) (pre++k.2.1) (acc++[(k.1,k.2.1,k.2.2,(pre.length:Int))]) m hpk h3 (λM e=>by cases e) (by simp at ha ⊢;omega);rw[E8]at this;simp only;rw[this];simp
   |none=>
    have hb:HdN Lj (di L):=by have:=h3.1;rw[E5]at this;exact this
    have hnb:∀M,L≠none::M:=λM e=>by rw[e]at hb;have:=hb 32 (di M) rfl;revert this;decide
    have hp2:s=(pre++k.2.1++[32])++di L:=by rw[hpk];simp[di]
    have hpl:(pre++k.2.1++[32]).length=pre.length+k.2.1.length+1:=by simp;omega
    rw[key (pre.length+k.2.1.length+1) (a5e l7 (by
     rw[hpk,F7 A7,←E8,aI];rfl) (by
     rw[←hpl,hp2,X4];exact hb))]
    have:=KX hs L (pre++k.2.1++[32]) (acc++[(k.1,k.2.1,k.2.2,(pre.length:Int))]) (m+1) hp2 h3.2 hnb (by simp at ha ⊢;omega);rw[hpl]at this;simp only;rw[show m+(none::L).length+1=m+1+L.length+1 by simp;omega,this];simp[vU]
theorem Yo{L:List It}(hs:(di L).length<=65536)(h:WSR L [])(hn:∀M,L≠none::M)(hl:L.length<=1000000):pJ (di L)=some (vU 0 L,0,0):=by unfold pJ;have h0:nX (di L) ((0:Nat):Int)=some ((0:Nat):Int):=RF l7 (by rw[aX];exact a1h h hn) l7;rw[show((0:Nat):Int)=0 from rfl]at h0;rw[O6 (show x9 (di L)<=65536 by unfold x9;omega),o5,h0,o9];have:=KX hs L [] [] (au -L.length -1) rfl h hn F9;rw[show au -L.length -1+L.length+1=au by unfold au;omega]at this;rw[H7]at this;refine J3 (show P8 (tkF (di L)) ([],0)=_ from this) ?_;rfl
def nm(w:List UInt8):It:=some (1,w,0)
def sy(c:UInt8):It:=some (7,[c],0)
def Ht(k:Int)(u:Nat):List UInt8:=l9 (D5 k 2) (Lib.decDigits u) (l9 (D5 k 3) (tX u 2) (tX u 4++[37]))
def Oj(k m:Int):List It:=
 l9 (D5 k 1) [nm (l9 (D5 m 0) [102,97,108,115,101] [116,114,117,101])]
 (l9 (D5 k 5) [some (5,lJ m,m)] (l9 (I8 m 0) [sy 45,some (k,Ht k m.natAbs,(m.natAbs:Int))] [some (k,Ht k m.natAbs,(m.natAbs:Int))]))
def Fb(n:Int×Int)(N:D7):List It:=
 l9 (V6 n.1 5) (Oj n.1 n.2)
 (l9 (D5 n.1 6) [nm ((X0 N.1 (dX .i64 n.2 16)).getD ([],[])).1,sy 58,nm (gtN ((X0 N.1 (dX .i64 n.2 16)).getD ([],[])).2 (iY n.2 16))]
 (l9 (D5 n.1 7) [nm (gtN N.2.2.1 n.2)]
 (l9 (D5 n.1 8) [nm (gtN N.2.2.2.1 n.2)]
 (l9 (D5 n.1 9) [nm [116,111,100,97,121]]
 (l9 (D5 n.1 35) [nm [99,111,117,110,116],sy 40,sy 41] [nm (dB n.1),sy 40,nm (gtN N.2.2.2.2 n.2),sy 41])))))
def wiI(L:List It)(cls c:Int):List It:=l9 (I8 cls c) ([sy 40]++L++[sy 41]) L
def a6P(n:Int×Int)(N:D7)(num:Bool)(L:List It)(cls:Int):List It:=
 l9 (D5 n.1 33) ([nm (dB n.1),sy 40,nm (gtN N.2.1 n.2),sy 44,none]++L++[sy 41])
 (l9 (D5 n.1 34) ([nm (dB n.1),sy 40,nm (gtN N.2.1 (dX .i64 n.2 8)),sy 44,none]++L++[sy 44,none,nm (jW (iY n.2 8)),sy 41])
 (l9 (D5 n.1 25) ([nm [110,111,116],none]++wiI L cls 6)
 (l9 (D5 n.1 10) ([sy 45]++l9 num ([sy 40]++L++[sy 41]) (wiI L cls 6)) ([nm (dB n.1),sy 40]++L++[sy 41]))))
def opK(k:Int):V7:=(l9 (D5 k 24) 1 (l9 (D5 k 23) 1 7),(jy k).1,0)
def Js(n:Int×Int)(A:List It)(ca:Int)(B:List It)(cb:Int):List It:=
 l9 (Px n.1) ([nm (dB n.1),sy 40]++A++[sy 44,none]++B++[sy 41])
 (l9 (VH n.1) ([nm (dB n.1),sy 40]++A++[sy 44,none]++B++[sy 44,none,nm (jW n.2),sy 41])
 (wiI A ca (l9 (D5 (jy n.1).2 3) 4 (jy n.1).2)++[none,some (opK n.1),none]++wiI B cb ((jy n.1).2+1)))
def ifI(A B C:List It):List It:=[nm [105,102],none]++A++[none,nm [116,104,101,110],none]++B++[none,nm [101,108,115,101],none]++C
def itT(N:D7):XT->List It
 | .l0 n=>Fb n N| .l1 n a=>a6P n N (yB a.node.1) (itT N a) (txT N a).2| .l2 n a b=>Js n (itT N a) (txT N a).2 (itT N b) (txT N b).2| .l3 n a b c=>ifI (itT N a) (itT N b) (itT N c)
variable {N:D7}
theorem Cf{k m lo hi:Int}(hk:1<=k/\k<=5)(hb:dR (k,0) []=some (lo,hi))(h:flS (k,m) N=0):lo<=m/\m<=hi:=by
 unfold flS Z5 tN at h;simp only[X9 hk.1,X9 hk.2,o7,o9,hb]at h;by_cases h1:m<lo
 .rw[Y0 h1]at h;cases h
 by_cases h2:hi<m
 .rw[O6 l7,Y0 h2]at h;cases h
 omega
theorem a6C{k m:Int}(hk:k=1\/k=2\/k=3\/k=4\/k=5)(hm:fJ m)(h:flS (k,m) N=0):lD (k,0,m) []=some (di (Oj k m),0):=by
 have f4:=GH (k:=4) hm l7;have key:∀lo hi:Int,dR (k,0) []=some (lo,hi)->aS (k,0) []=some true->lD (k,0,m) []=(l9 (D5 k 1) (l9 (D5 m 0) (some ([102,97,108,115,101],0)) (some ([116,114,117,101],0)))
   (l9 (D5 k 2) (some (Lib.itoa m,0)) (l9 (D5 k 3) (some (EU m 2,0)) (l9 (D5 k 4) (some (EU m 4++[37],0)) (some (lJ m,0)))))):=by
  intro lo hi hb hv;obtain⟨h1,h2⟩:=Cf l7 hb h;rw[wF [] hm];unfold xH wK BA Kz;simp only[wK,o9,hv,F5,o5,o7,hb,X9 h1,X9 h2];rw[su hm,show jL m 2=_ from qE (k:=2) hm l7,show jL m 4=_ from qE (k:=4) hm l7,Eo];simp only[o9];rw[L8 F9,o9];rcases hk with rfl|rfl|rfl|rfl|rfl<;>rfl
 rcases hk with rfl|rfl|rfl|rfl|rfl
 .rw[key 0 1 rfl rfl];simp (disch:=decide) only[J4,o7,Oj,nm,di,E5];cases D5 m 0<;>rfl
 .rw[key _ _ rfl rfl];simp (disch:=decide) only[J4,I9,o7,o5,Oj,Ht];unfold Lib.itoa;by_cases h0:m<0
  .rw[if_pos h0,Y0 h0];simp[di,sy,l9]
  .rw[if_neg h0,O6 l7];simp only[o5,di,E5];rw[show m.toNat=m.natAbs by omega]
 .rw[key _ _ rfl rfl];simp (disch:=decide) only[J4,I9,o7,o5,Oj,Ht];unfold EU;by_cases h0:m<0
  .rw[if_pos h0,Y0 h0];simp[di,sy,l9]
  .rw[if_neg h0,O6 l7];simp only[o5,di,E5]
 .rw[key _ _ rfl rfl];simp (disch:=decide) only[J4,I9,o7,o5,Oj,Ht];unfold EU;by_cases h0:m<0
  .rw[if_pos h0,Y0 h0];simp[di,sy,l9]
  .rw[if_neg h0,O6 l7];simp only[o5,di,E5]
 .rw[key _ _ rfl rfl];simp (disch:=decide) only[J4,I9,o7,o5,Oj,di,E5]
theorem a1F{n:Int×Int}(ha:arF n.1=0)(hm:fJ n.2)(h:flS n N=0):di (Fb n N)=(sZ n N).1:=by
 obtain⟨k,m⟩:=n;have lit:(k=1\/k=2\/k=3\/k=4\/k=5)->di (Fb (k,m) N)=(sZ (k,m) N).1:=by intro hk;have:=a6C hk hm h;unfold Fb sZ;simp only[X9 (show k<=5 by omega),o7];rw[←wF [] hm,this];rfl
 rcases ar0 ha with rfl|rfl|rfl|rfl|rfl|rfl|rfl|rfl|rfl|rfl|rfl|rfl|rfl|rfl
 .exact lit l7
 .exact lit l7
 .exact lit l7
 .exact lit l7
 .exact lit l7
 all_goals
  unfold Fb sZ;simp (disch:=decide) only[J4,I9,bG,o7,o5,nm,sy,di];simp
theorem VY(L:List It)(t:Tx)(c:Int)(h:di L=t.1):di (wiI L t.2 c)=wiS t c:=by
 unfold wiI wiS;cases I8 t.2 c
 .exact h
 .simp only[o7];rw[oh,oh,h];rfl
theorem Bl{N:D7} :∀(t:XT),t.wf->(∀n∈t.post,fJ n.2)->(∀n∈t.post,flS n N=0)->di (itT N t)=(txT N t).1
 | .l0 n,hw,hI,hz=>a1F hw (hI n (by simp[XT.post])) (hz n (by simp[XT.post]))| .l1 n a,hw,hI,hz=>by
  have ia:=Bl a hw.2 (λm hm=>hI m (by simp[XT.post,hm])) (λm hm=>hz m (by simp[XT.post,hm]));have w:=VY (itT N a) (txT N a) 6 ia;show di (a6P n N (yB a.node.1) (itT N a) (txT N a).2)=(Jf n N (yB a.node.1) (txT N a)).1;unfold a6P Jf;cases D5 n.1 33
  case true=>simp only[o7,oh,ia];simp[di,nm,sy]
  cases D5 n.1 34
  case true=>simp only[o7,o5,oh,ia];simp[di,nm,sy]
  cases D5 n.1 25
  case true=>simp only[o7,o5,oh,w];simp[di,nm,sy]
  cases D5 n.1 10
  case true=>
   simp only[o7,o5,oh];cases yB a.node.1
   .simp only[o5,w];simp[di,nm,sy]
   .simp only[o7,oh,ia];simp[di,nm,sy]
  .simp only[o5,oh,ia];simp[di,nm,sy]
 | .l2 n a b,hw,hI,hz=>by
  have ia:=Bl a hw.2.1 (λm hm=>hI m (by simp[XT.post,hm])) (λm hm=>hz m (by simp[XT.post,hm]));have ib:=Bl b hw.2.2 (λm hm=>hI m (by simp[XT.post,hm])) (λm hm=>hz m (by simp[XT.post,hm]));have w1:=VY (itT N a) (txT N a) (l9 (D5 (jy n.1).2 3) 4 (jy n.1).2) ia;have w2:=VY (itT N b) (txT N b) ((jy n.1).2+1) ib;show di (Js n (itT N a) (txT N a).2 (itT N b) (txT N b).2)=(Ee n (txT N a) (txT N b)).1;unfold Js Ee;cases Px n.1
  case true=>simp only[o7,oh,ia,ib];simp[di,nm,sy]
  cases VH n.1
  case true=>simp only[o7,o5,oh,ia,ib];simp[di,nm,sy]
  .simp only[o5,oh,w1,w2];simp[di,opK]
 | .l3 n a b c,hw,hI,hz=>by have ia:=Bl a hw.2.1 (λm hm=>hI m (by simp[XT.post,hm])) (λm hm=>hz m (by simp[XT.post,hm]));have ib:=Bl b hw.2.2.1 (λm hm=>hI m (by simp[XT.post,hm])) (λm hm=>hz m (by simp[XT.post,hm]));have ic:=Bl c hw.2.2.2 (λm hm=>hI m (by simp[XT.post,hm])) (λm hm=>hz m (by simp[XT.post,hm]));show di (ifI (itT N a) (itT N b) (itT N c))=(ifX (txT N a) (txT N b) (txT N c)).1;unfold ifI ifX;simp only[oh,ia,ib,ic];simp[di,nm]
end Go.GP
