import Derived.Test.YtnpgekhfiogoeaaGreatDoorT5
import Derived.Test.YtnpgekhfiogoeaaGreatDoorT2
import Derived.Test.YtnpgekhfiogoeaaGreatDoorT3
import Derived.Lib.ItoaLen
set_option linter.all false
namespace Go.GP
variable {a:Int}{b:Int}{n:Int}
section
variable {α β σ ε ρ:Type}
@[simp] theorem o9 (x:α) (f:α->Option β):l9 (some x) f=f x:=rfl
@[simp] theorem a8s (f:α->Option β):l9 none f=none:=rfl
theorem QP{o:Option α}{x:α}(h:o=some x)(f:α->Option β):l9 o f=f x:=by rw[h];rfl
theorem U9{o o' :Option α}(h:o=o'){K:α->Option β}{r:Option β}(h2:l9 o' K=r):l9 o K=r:=by rw[h];exact h2
theorem bb(a b:Bool):l7 a (some b) (some false)=some (a&&b):=by cases a<;>rfl
theorem vF(o:Option α):l9 o (λx=>some x)=o:=by cases o<;>rfl
@[simp] theorem o7 (x y:α):l7 true x y=x:=rfl
@[simp] theorem o6 (x y:α):l7 false x y=y:=rfl
theorem pg(b:Bool)(x y:α):l7 b x y=if b=true then x else y:=by cases b<;>rfl
theorem kX{b:Bool}(h:b=true)(x y:α):l7 b x y=x:=by rw[h];rfl
theorem lM{b:Bool}(h:b=false)(x y:α):l7 b x y=y:=by rw[h];rfl
@[simp] theorem X8 (s:σ) (f:σ->α) (g:ε->α):ah (.inl s) f g=f s:=rfl
@[simp] theorem mV (s:ε) (f:σ->α) (g:ε->α):ah (.inr s) f g=g s:=rfl
@[simp] theorem J5:G7 true=false:=rfl
@[simp] theorem Y7:G7 false=true:=rfl
theorem dU(h:a<b):H9 a b=true:=by simp[H9,h]
theorem bT(h:b<=a):H9 a b=false:=by simp[H9];omega
theorem aZ(h:a<=b):U1 a b=true:=by simp[U1,h]
theorem dw(h:b<a):U1 a b=false:=by simp[U1];omega
theorem aB(h:a=b):C9 a b=true:=by simp[C9,h]
theorem P6(h:a≠b):C9 a b=false:=by simp[C9,h]
theorem yZ :H9 a b=true↔a<b:=by simp[H9]
theorem uo :U1 a b=true↔a<=b:=by simp[U1]
theorem iF :C9 a b=true↔a=b:=by simp[C9]
theorem ng :H9 a b=false↔b<=a:=by simp[H9]
theorem Gj :U1 a b=false↔b<a:=by simp[U1]
theorem xm :C9 a b=false↔a≠b:=by simp[C9]
theorem VS{a b:List UInt8} :seq a b=true↔a=b:=by simp[seq]
theorem mW(h:0<=a):a.tdiv b=a / b:=Int.tdiv_eq_ediv_of_nonneg h
theorem Ba(h:0<=a):kw a b=a % b:=Int.tmod_eq_emod_of_nonneg h
def lJ(n:Int):Prop:=-9223372036854775808<=n/\n<=9223372036854775807
theorem iT{p:Int}(h:lJ p:=by unfold lJ;omega):lJ p:=h
def U64(n:Int):Prop:=0<=n/\n<=18446744073709551615
theorem BI(h:lJ n):IntKind.wrap .i64 n=n:=by unfold lJ at h;unfold IntKind.wrap;simp[IntKind.signed,IntKind.bits];omega
theorem LC(h:U64 n):IntKind.wrap .u64 n=n:=by unfold U64 at h;unfold IntKind.wrap;simp[IntKind.signed,IntKind.bits];omega
theorem kF(h:lJ (a+b)):G5 .i64 a b=a+b:=BI h
theorem iL(h:lJ (a -b)):O6 .i64 a b=a -b:=BI h
theorem a2J(h:lJ (a*b)):Tj .i64 a b=a*b:=BI h
theorem Ku(h:lJ (a.tdiv b)):fF .i64 a b=a.tdiv b:=BI h
theorem Xa(h:U64 (a+b)):G5 .u64 a b=a+b:=LC h
theorem a2L(h:U64 (a.tdiv b)):fF .u64 a b=a.tdiv b:=LC h
theorem SE(h:(Lit.int .i64 n).wf=true):lJ n:=by simp[Lit.wf,IntKind.min,IntKind.max,IntKind.signed,IntKind.bits]at h;unfold lJ;omega
theorem NU(l:List α):0<=o8 l:=by simp[o8]
theorem I9(l:List α)(i:Nat):J8 l (i:Int)=l[i]?:=by simp[J8]
theorem qj{l:List α}{i:Int}{x:α}(h:J8 l i=some x):0<=i/\i<o8 l/\x∈l/\l[i.toNat]? =some x:=by
 unfold J8 at h;split at h
 .rename_i h0;obtain⟨h1,h2⟩:=ax.1 h;refine⟨h0,by simp[o8];omega,?_,h⟩;rw[←h2];exact O5 h1
 .cases h
theorem qQ{l:List α}{i:Int}(h0:0<=i)(h:i<o8 l):∃x,J8 l i=some x/\x∈l:=by
 unfold o8 at h;refine⟨l[i.toNat]'o5,?_,O5 _⟩;unfold J8
 rw[if_pos h0,lw]
theorem Pq(l:List UInt8)(i:Nat):sat l (i:Int)=(l[i]?).map λc=>(c.toNat:Int):=by simp[sat]
theorem I8{a b:List UInt8}(h:a.length+b.length<=4611686018427387904):O7 a b=some (a++b):=by simp[O7,h]
theorem vK{a b:List α}(h:a.length+b.length<=1073741824):aX a b=some (a++b):=by simp[aX,h]
theorem a0d{l:List α}{lo hi:Int}(h0:0<=lo)(h1:lo<=hi)(h2:hi<=l.length):iD l lo hi=some ((l.take hi.toNat).drop lo.toNat):=by simp[iD,h0,h1,h2]
theorem a0e{l:List α}{hi:Int}(h1:0<=hi)(h2:hi<=l.length):iD l 0 hi=some (l.take hi.toNat):=by rw[a0d o5 h1 h2];simp
theorem MH{l:List α}{lo:Int}(h1:0<=lo)(h2:lo<=l.length):iD l lo (o8 l)=some (l.drop lo.toNat):=by rw[a0d h1 (by simp[o8];omega) (by simp[o8])];simp[o8]
end
section
variable {σ ε ρ:Type}
theorem NV{f:σ->Option (σ⊕ε)}(Inv:σ->Prop)(Q:ε->Prop)(meas:σ->Nat)
  (h:∀s,Inv s->(∃s',f s=some (.inl s')/\Inv s' /\meas s' <meas s)\/(∃e,f s=some (.inr e)/\Q e)):
  ∀n s,Inv s->meas s<n->∃e,xF f n s=some e/\Q e
 |0,_,_,h=>by omega|n+1,s,hi,hm=>by
  unfold xF;rcases h s hi with⟨s',e,hi',hm'⟩|⟨x,e,hx⟩
  .rw[e];exact NV Inv Q meas h n s' hi' o5
  .rw[e];exact⟨x,rfl,hx⟩
theorem pO{f:σ->Option (σ⊕ε)}{s:σ}(Inv:σ->Prop)(Q:ε->Prop)(meas:σ->Nat)(hi:Inv s)(hm:meas s<18446744073709551616)
  (h:∀s,Inv s->(∃s',f s=some (.inl s')/\Inv s' /\meas s' <meas s)\/(∃e,f s=some (.inr e)/\Q e)):∃e,aG f s=some e/\Q e:=
 NV Inv Q meas h _ s hi hm
theorem QC{f:σ->Option (Out σ ε ρ)}(Inv:σ->Prop)(Q:ε->Prop)(Qr:ρ->Prop)(meas:σ->Nat)
  (h:∀s,Inv s->(∃s',f s=some (.nx s')/\Inv s' /\meas s' <meas s)\/(∃e,f s=some (.ex e)/\Q e)\/(∃r,f s=some (.rt r)/\Qr r)):
  ∀n s,Inv s->meas s<n->(∃e,jO f n s=some (.inl e)/\Q e)\/(∃r,jO f n s=some (.inr r)/\Qr r)
 |0,_,_,h=>by omega|n+1,s,hi,hm=>by
  unfold jO;rcases h s hi with⟨s',e,hi',hm'⟩|⟨x,e,hx⟩|⟨x,e,hx⟩
  .rw[e];exact QC Inv Q Qr meas h n s' hi' o5
  .rw[e];exact .inl ⟨x,rfl,hx⟩
  .rw[e];exact .inr ⟨x,rfl,hx⟩
theorem yK{f:σ->Option (Out σ ε ρ)}{s:σ}(Inv:σ->Prop)(Q:ε->Prop)(Qr:ρ->Prop)(meas:σ->Nat)(hi:Inv s)(hm:meas s<18446744073709551616)
  (h:∀s,Inv s->(∃s',f s=some (.nx s')/\Inv s' /\meas s' <meas s)\/(∃e,f s=some (.ex e)/\Q e)\/(∃r,f s=some (.rt r)/\Qr r)):
  (∃e,U8 f s=some (.inl e)/\Q e)\/(∃r,U8 f s=some (.inr r)/\Qr r):=
 QC Inv Q Qr meas h _ s hi hm
end
section
variable {α β ε ρ:Type}
open Classical in
theorem yJ(l:List α)(p:Nat->α->Bool)(r:ρ)(e:ε)(f:Int->Option (Out Int ε ρ))(hl:l.length<18446744073709551616)
  (hin:∀(i:Nat) (a:α),l[i]? =some a->f (i:Int)=if p i a=true then some (.nx ((i+1:Nat):Int))else some (.rt r))
  (hend:f (l.length:Int)=some (.ex e)):
  U8 f 0=if(∀i a,l[i]? =some a->p i a=true)then some (.inl e)else some (.inr r):=by
 have key:∀(n i:Nat),i<=l.length->l.length -i<n->(∀j a,j<i->l[j]? =some a->p j a=true)->jO f n (i:Int)=if(∀i a,l[i]? =some a->p i a=true)then some (.inl e)else some (.inr r):=by
  intro n;induction n with
  |zero=>intro i _ h;omega|succ n ih=>
   intro i hi hn hp;unfold jO;by_cases h:i<l.length
   .have e' :=lw h;rw[hin i _ e'];by_cases hpi:p i l[i]=true
    .rw[if_pos hpi];exact ih (i+1) o5 o5 λj a hj ha=>by
      by_cases hji:j=i
      .subst hji;rw[e']at ha;cases ha;exact hpi
      .exact hp j a o5 ha
    .rw[if_neg hpi,if_neg];intro hall;exact hpi (hall i _ e')
   .have:i=l.length:=o5;subst this;rw[hend,if_pos];intro j a ha;exact hp j a (ax.1 ha).1 ha
 exact key _ 0 (fB _) hl λj a hj=>by omega
end
end Go.GP
namespace Go.GP
section
variable {α β α' β' σ τ ε ε' ρ ρ' :Type}
theorem Ci{p:Nat->Option ρ}(n:Nat)(hn:n<18446744073709551616)(e:ε){f:Int->Option (Out Int ε ρ)}
  (h1:∀i,i<n->f (i:Int)=some (match p i with|some r=> .rt r|none=> .nx ((i+1:Nat):Int))) (h2:f (n:Int)=some (.ex e)):
  U8 f 0=some (match(List.range n).findSome? p with|some r=> .inr r|none=> .inl e):=by
 have key:∀m i,i+m=n->∀k,m<k->jO f k (i:Int)=some (match(List.range' i m).findSome? p with|some r=> .inr r|none=> .inl e):=by
  intro m;induction m with
  |zero=>intro i hi k hk;obtain⟨k,rfl⟩:∃k',k=k' +1:=⟨k -1,o5⟩;have:i=n:=o5;subst this;unfold jO;rw[h2];rfl
  |succ m ih=>
   intro i hi k hk;obtain⟨k,rfl⟩:∃k',k=k' +1:=⟨k -1,o5⟩;unfold jO;rw[h1 i o5,kJ,List.findSome?_cons];cases hp:p i with
   |some r=>rfl|none=>exact ih (i+1) o5 k o5
 have:=key n 0 o5 ji hn;rw[List.range_eq_range'];exact this
end
end Go.GP
namespace Go.GP
open Gt
set_option maxRecDepth 100000
variable {i:Nat}
theorem bD(h:i<=9000000000000000000):G5 .i64 (i:Int) 1=((i+1:Nat):Int):=by rw[kF iT];omega
def MF(c:UInt8):Bool:=decide (97<=c.toNat)&&decide (c.toNat<=122)
def yh(c:UInt8):Bool:=MF c || (decide (48<=c.toNat)&&decide (c.toNat<=57)) || decide (c.toNat=95)
def FI:List (List UInt8):=qy.getD []
theorem a6F:qy=some FI:=by kernel_rfl
def uX(s:List UInt8):Bool:=match s with|[]=>false|c::r=>decide (s.length<=16)&&MF c&&s.all yh&&!(FI.any λw=>seq s w)
theorem Ue(c:UInt8)(r:List UInt8):uX (c::r)=(decide ((c::r).length<=16)&&MF c&&(c::r).all yh&&!(FI.any λw=>seq (c::r) w)):=rfl
theorem QE(c:UInt8):nO (c.toNat:Int)=some (MF c):=by
 unfold nO MF;cases h:decide (97<=c.toNat)<;>simp only[decide_eq_true_eq,decide_eq_false_iff_not]at h
 .rw[dw o5];rfl
 .rw[aZ o5];simp only[o7,kN,U1];congr 1;by_cases h2:c.toNat<=122<;>simp[h2]<;>omega
theorem UC(c:UInt8):CE (c.toNat:Int)=some (MF c):=QE c
def WP(c:UInt8):Bool:=decide (48<=c.toNat)&&decide (c.toNat<=57)
theorem WQ(c:UInt8):lg (c.toNat:Int)=some (WP c):=by
 unfold lg WP;cases h:decide (48<=c.toNat)<;>simp only[decide_eq_true_eq,decide_eq_false_iff_not]at h
 .rw[dw o5];rfl
 .rw[aZ o5];simp only[o7,kN,U1];congr 1;by_cases h2:c.toNat<=57<;>simp[h2]<;>omega
theorem a1J(c:UInt8):GI (c.toNat:Int)=some (WP c):=WQ c
theorem a7x(c:UInt8):C9 (c.toNat:Int) 95=decide (c.toNat=95):=by unfold C9;by_cases h:c.toNat=95<;>simp[h]<;>omega
theorem a7n(c:UInt8):ES (c.toNat:Int)=some (yh c):=by unfold ES;rw[UC,o9,a1J,a7x];unfold yh;change _=some (MF c || WP c || decide (c.toNat=95));cases MF c<;>cases WP c<;>rfl
variable {s:List UInt8}
theorem Tq(h:s.length<=1000000):∃k,qp s=some k/\(k=o8 s↔s.all yh=true):=by
 unfold qp;have:=pO (f:=λ(x:Int)=>l7 (H9 x (o8 s)) (l9 (sat s x) λx_1=>l9 (nO x_1) λx_2=>l7 x_2 (some (Sum.inl (G5 IntKind.i64 x 1)))
   (l9 (sat s x) λx_3=>l9 (lg x_3) λx_4=>l7 x_4 (some (Sum.inl (G5 IntKind.i64 x 1))) (l9 (sat s x) λx_5=>l7 (C9 x_5 95) (some (Sum.inl (G5 IntKind.i64 x 1))) (some (Sum.inr x))))) (some (Sum.inr x)))
  (s:=0) (λx=>∃i:Nat,x=i/\i<=s.length/\(s.take i).all yh=true) (λk=>k=o8 s↔s.all yh=true) (λx=>s.length -x.toNat) ⟨0,rfl,o5,rfl⟩ G6 ?_
 .obtain⟨k,h1,h2⟩:=this;refine⟨k,?_,h2⟩;rw[vF];exact h1
 .rintro x ⟨i,rfl,hi,hall⟩;by_cases hl:i<s.length
  .have e:=lw hl;simp only[dU (show(i:Int)<o8 s by simp[o8];omega),o7,Pq,e,Y8,o9,QE,WQ,a7x];have hst:(s.take (i+1)).all yh=((s.take i).all yh&&yh s[i]):=by rw[U4 hl,List.all_append];simp
   have hw:yh s[i]=(MF s[i] || WP s[i] || decide (s[i].toNat=95)):=rfl;cases hwb:yh s[i]with
   |true=>left;refine⟨((i+1:Nat):Int),?_,⟨i+1,rfl,hl,by rw[hst,hall,hwb];rfl⟩,by simp;omega⟩;rw[bD o5];rw[hw]at hwb;cases h1:MF s[i]<;>cases h2:WP s[i]<;>cases h3:decide (s[i].toNat=95)<;>rw[h1,h2,h3]at hwb<;>first|rfl|cases hwb
   |false=>
    right;refine⟨(i:Int),?_,?_⟩
    .rw[hw]at hwb;cases h1:MF s[i]<;>cases h2:WP s[i]<;>cases h3:decide (s[i].toNat=95)<;>rw[h1,h2,h3]at hwb<;>first|rfl|cases hwb
    .constructor
     .intro h;simp[o8]at h;omega
     .intro h;have:=jb.1 h s[i] (O5 hl);rw[hwb]at this;cases this
  .right;have:i=s.length:=o5;subst this;rw[dF]at hall;exact⟨_,by rw[bT (by simp[o8])];rfl,by simp[o8,hall]⟩
theorem a1N{a:List UInt8}{w:List UInt8}{r:Option Bool}{x:Bool}(h:r=some x):l7 (seq a w) (some (seq a w)) r=some (seq a w || x):=by rw[h];cases seq a w<;>rfl
theorem XH(s:List UInt8):xC s=some (FI.any λw=>seq s w):=by
 unfold xC;refine U9 (o' :=some (FI.any λw=>seq s w)) ?_ (by cases FI.any λw=>seq s w<;>rfl);have hr:FI=(qy).getD []:=rfl;rw[show(FI.any λw=>seq s w)=List.foldr (λw b=>seq s w || b) false FI from by induction FI with|nil=>rfl|cons w l ih=>simp[qP,ih]];unfold FI qy;simp only[Z5,List.foldr]
 repeat (refine a1N ?_)
 simp
theorem oM(h:s.length<=1000000):dB s=some (uX s):=by
 unfold dB;cases s with
 |nil=>rfl|cons c r=>
  have h1:seq (c::r) []=false:=by simp[seq]
  obtain⟨k,h2,h3⟩:=Tq h;rw[h1];simp only[Y7,o7];rw[show sat (c::r) 0=some (c.toNat:Int)from rfl,o9,QE,o9,h2,o9,XH,o9];have h4:C9 k (o8 (c::r))=(c::r).all yh:=by rw[jy,iF];exact h3
  have h5:U1 (o8 (c::r)) 16=decide ((c::r).length<=16):=by simp only[U1,o8];congr 1;simp;omega
  rw[h4,h5,Ue];cases MF c<;>cases (c::r).all yh<;>cases decide ((c::r).length<=16)<;>rfl
theorem kS(h:s.length<=1000000):dC s=some (uX s):=by
 unfold dC;cases s with
 |nil=>rfl|cons c r=>
  have h0:C9 (o8 (c::r)) 0=false:=P6 (by simp[o8];omega);have h5:H9 16 (o8 (c::r))= !decide ((c::r).length<=16):=by simp only[H9,o8];rw[←decide_not];congr 1;simp;omega
  rw[h0,h5,show sat (c::r) 0=some (c.toNat:Int)from rfl,o9,UC,o9,Ue];generalize hs:c::r=s at*;cases hl:decide (s.length<=16)
  .rfl
  cases hc:MF c
  .rfl
  simp only[jl,o6,J5,o9,X8,kN];refine U9 (yJ s (λi a=>yh a) false PUnit.unit _ o5 (λi x hx=>?_) ?_) ?_
  rotate_left 2
  .have ha:(∀(i:Nat) (a:UInt8),s[i]? =some a->yh a=true)↔s.all yh=true:=by
    rw[jb];constructor
    .intro h x hx;obtain⟨i,hi,rfl⟩:=af hx;exact h i _ (lw hi)
    .intro h i a hi;exact h a (mJ hi)
   by_cases hw:s.all yh=true
   .rw[if_pos (ha.2 hw),o9,X8,a6F,o9,hw];refine U9 (yJ FI (λi a=> !seq a s) false PUnit.unit _ (by decide+kernel) (λi x hx=>?_) ?_) ?_
    rotate_left 2
    .have hb:(∀(i:Nat) (a:List UInt8),FI[i]? =some a->(!seq a s)=true)↔(FI.any λw=>seq s w)=false:=by
      rw[iG];constructor
      .intro h x hx;obtain⟨i,hi,rfl⟩:=af hx;have:=h i _ (lw hi);intro hq;rw[VS.1 hq]at this;simp[seq]at this
      .intro h i a hi;have:=h a (mJ hi);cases hq:seq a s
       .rfl
       .exact absurd (by rw[VS.1 hq];simp[seq]) this
     by_cases hv:(FI.any λw=>seq s w)=false
     .rw[if_pos (hb.2 hv),hv];rfl
     .rw[if_neg (λh=>hv (hb.1 h))];simp only[ny]at hv;rw[hv];rfl
    .have hi:=(ax.1 hx).1;simp only[dU (show(i:Int)<o8 FI by simp[o8];omega),o7,I9,hx,o9];rw[show di FI (aW (i:Int))=some x from by simp[di,aW,hx],o9,bD (by
       have:FI.length<=100:=by decide+kernel
       omega)]
     cases seq x s<;>rfl
    .rw[bT (by simp[o8])];rfl
   .rw[if_neg (λh=>hw (ha.1 h))];simp only[rW]at hw;rw[hw];rfl
  .have hi:=(ax.1 hx).1;simp only[dU (show(i:Int)<o8 s by simp[o8];omega),o7,Pq,hx,Y8,o9,a7n];rw[bD o5];cases yh x<;>rfl
  .rw[bT (by simp[o8])];rfl
theorem rf(t:Int×Int)(en:List Z8):aI t en=X3 t en:=by
 unfold aI X3;by_cases h1:t.1=1
 .simp[C9,h1,U1]
 by_cases h2:t.1=2
 .simp[C9,h2,U1]
 by_cases h3:t.1=3
 .simp[C9,h3,U1]
 by_cases h4:t.1=4
 .simp[C9,h4,U1]
 by_cases h5:t.1=5
 .simp[C9,h5,U1]
 by_cases h6:t.1=6
 .simp[C9,h6,U1]
 .simp only[C9,h1,h2,h3,h4,h5,h6,decide_false,o6,o9];by_cases h7:1<=t.1
  .rw[kX (aZ h7),lM (dw o5)]
  .rw[lM (dw o5)]
theorem Ib(t:Int×Int)(en:List Z8):iK t en=dH t en:=by unfold iK dH;rw[rf]
def vty(t:Int×Int)(en:List Z8):Bool:=l7 (C9 t.1 6) (l7 (U1 0 t.2) (H9 t.2 (o8 en)) false) (l7 (U1 1 t.1) (l7 (U1 t.1 5) (C9 t.2 0) false) false)
theorem iC(t:Int×Int)(en:List Z8):X3 t en=some (vty t en):=by unfold X3 vty;cases C9 t.1 6<;>cases U1 0 t.2<;>cases U1 1 t.1<;>cases U1 t.1 5<;>rfl
theorem uJ(t:Int×Int)(en:List Z8):aI t en=some (vty t en):=(rf t en).trans (iC t en)
theorem VC(t:Int×Int)(en:List Z8):∃b:Int×Int,dH t en=some b:=by
 unfold dH;rw[iC,o9];cases hv:vty t en
 .exact⟨_,rfl⟩
 simp only[J5,o6];cases h1:C9 t.1 1<;>simp only[o7,o6]
 .cases h2:C9 t.1 2<;>simp only[o7,o6]
  .cases h3:C9 t.1 3<;>simp only[o7,o6]
   .cases h4:C9 t.1 4<;>simp only[o7,o6]
    .cases h5:C9 t.1 5<;>simp only[o7,o6]
     .have h6:C9 t.1 6=true/\U1 0 t.2=true/\H9 t.2 (o8 en)=true:=by
       unfold vty at hv;rw[xm]at h1 h2 h3 h4 h5;cases h6:C9 t.1 6<;>rw[h6]at hv
       .rw[xm]at h6;cases h7:U1 1 t.1<;>rw[h7]at hv
        .cases hv
        cases h8:U1 t.1 5<;>rw[h8]at hv
        .cases hv
        rw[uo]at h7 h8;omega
       .cases h7:U1 0 t.2<;>rw[h7]at hv
        .cases hv
        .exact⟨rfl,rfl,hv⟩
      obtain⟨x,hx,_⟩:=qQ (uo.1 h6.2.1) (yZ.1 h6.2.2);rw[hx];exact⟨_,rfl⟩
     .exact⟨_,rfl⟩
    .exact⟨_,rfl⟩
   .exact⟨_,rfl⟩
  .exact⟨_,rfl⟩
 .exact⟨_,rfl⟩
def bnd(t:Int×Int)(en:List Z8):Int×Int:=(dH t en).getD (0,0)
theorem EP(t:Int×Int)(en:List Z8):dH t en=some (bnd t en):=by obtain⟨b,h⟩:=VC t en;unfold bnd;rw[h];rfl
theorem LJ(t:Int×Int)(en:List Z8):iK t en=some (bnd t en):=(Ib t en).trans (EP t en)
def inB(n:Int)(b:Int×Int):Bool:=l7 (U1 b.1 n) (U1 n b.2) false
theorem Zu(n:Int)(t:Int×Int)(en:List Z8):xJ n t en=some (inB n (bnd t en)):=by unfold xJ inB;rw[EP,o9];cases U1 (bnd t en).1 n<;>rfl
def BK(r:Int×Int):Bool:=l7 (U1 0 r.1) (l7 (U1 r.1 r.2) (U1 r.2 109573) false) false
theorem Ie(r:Int×Int):rC r=some (BK r):=by unfold rC BK;cases U1 0 r.1<;>cases U1 r.1 r.2<;>rfl
theorem EQ(r:Int×Int):wS r=some (BK r):=Ie r
def Qi(a b:Int×Int):(Int×Int)×Bool:=l7 (BK a) (l7 (BK b) (l7 (U1 (yD a.2 b.2) (yC a.1 b.1)) ((0,0),false) ((yC a.1 b.1,yD a.2 b.2),true)) ((0,0),false)) ((0,0),false)
theorem a4g(a b:Int×Int):vS a b=some (Qi a b):=by unfold vS Qi;rw[EQ,o9,EQ,o9];cases BK a<;>cases BK b<;>cases U1 (yD a.2 b.2) (yC a.1 b.1)<;>rfl
theorem a6Y(a b:Int×Int):pW a b=some (Qi a b):=by
 unfold pW rZ Qi;rw[Ie,o9,Ie,o9];cases BK a
 .rfl
 simp only[o7];cases h1:H9 a.1 a.2
 .rw[ng]at h1;rw[aZ (show yD a.2 b.2<=yC a.1 b.1 by unfold yD yC;omega)];cases BK b<;>rfl
 simp only[o9,J5,o6];cases BK b
 .rfl
 simp only[o7];cases h2:H9 b.1 b.2
 .rw[ng]at h2;rw[aZ (show yD a.2 b.2<=yC a.1 b.1 by unfold yD yC;omega)];rfl
 .cases U1 (yD a.2 b.2) (yC a.1 b.1)<;>rfl
def uK(a b:uU):Bool:=l7 (Qi a.1 b.1).2 (H9 (yC a.2.1 b.2.1) (yD a.2.2.1 b.2.2.1)) false
theorem WN(a b:uU):xY a b=some (uK a b):=by unfold xY uK;rw[a6Y,o9];cases (Qi a.1 b.1).2<;>rfl
theorem VD(a b:uU):xM a b=some (uK a b):=by unfold xM uK;rw[a4g,o9];cases (Qi a.1 b.1).2<;>rfl
theorem a2F{l:List uU}(r:uU)(h:l.length<=1000000):∃k:Int,pY l r=some (k,l.any λy=>uK y r):=by
 unfold pY;have key:=yK (f:=λ(x:Int)=>l7 (H9 x (o8 l)) (l9 (J8 l x) λx_1=>l9 (qG x_1 r) λx_2=>l7 x_2 (some (Out.rt (x,true))) (some (Out.nx (G5 IntKind.i64 x 1)))) (some (Out.ex PUnit.unit)))
   (s:=0) (λx=>∃i:Nat,x=i/\i<=l.length/\(l.take i).any (λy=>uK y r)=false) (λ_=>(l.any λy=>uK y r)=false) (λk=>k.2=true/\(l.any λy=>uK y r)=true) (λx=>l.length -x.toNat) ⟨0,rfl,o5,rfl⟩ G6 ?_
 .rcases key with⟨e,h1,h2⟩|⟨k,h1,h2,h3⟩
  .exact⟨0,by rw[h1,h2];rfl⟩
  .refine⟨k.1,?_⟩;rw[h1,h3,←h2];rfl
 .rintro x ⟨i,rfl,hi,hall⟩;by_cases hl:i<l.length
  .have e:=lw hl;have hst:(l.take (i+1)).any (λy=>uK y r)=((l.take i).any (λy=>uK y r) || uK l[i] r):=by rw[U4 hl,tH];simp
   have hv:qG l[i] r=some (uK l[i] r):=by unfold qG;rw[WN];rfl
   simp only[dU (show(i:Int)<o8 l by simp[o8];omega),o7,I9,e,o9,hv];cases hc:uK l[i] r with
   |true=>exact .inr (.inr ⟨_,rfl,rfl,oG.2 ⟨l[i],O5 hl,hc⟩⟩)|false=>exact .inl ⟨((i+1:Nat):Int),by rw[bD o5];rfl,⟨i+1,rfl,hl,by rw[hst,hall,hc];rfl⟩,by simp;omega⟩
  .have:i=l.length:=o5;subst this;rw[dF]at hall;exact .inr (.inl ⟨_,by rw[bT (by simp[o8])];rfl,hall⟩)
def Dx(x:uU)(bl br:Int×Int):Bool:=
 l7 (BK x.1) (l7 (C9 x.1.1 x.1.2) true (l7 (U1 x.2.2.1 x.2.1) true (l7 (inB x.2.1 bl) (l7 (inB (O6 .i64 x.2.2.1 1) bl) (G7 (inB x.2.2.2 br)) true) true))) true
theorem a1P(x:uU)(t:bW)(en:List Z8):CJ x t en=some (Dx x (bnd t.2.1 en) (bnd t.2.2.1 en)):=by
 unfold CJ Dx;rw[EQ,o9,Zu,Zu,Zu];cases BK x.1
 .rfl
 cases C9 x.1.1 x.1.2
 case true=>rfl
 cases U1 x.2.2.1 x.2.1
 case true=>rfl
 simp only[J5,o6,o9,X8,o7];cases inB x.2.1 (bnd t.2.1 en)
 .rfl
 cases inB (O6 .i64 x.2.2.1 1) (bnd t.2.1 en)
 .rfl
 rfl
def Lh(t:bW)(en:List Z8)(i:Nat):Option (Int×Int):=match t.2.2.2[i]? with
 |some x=>l7 (Dx x (bnd t.2.1 en) (bnd t.2.2.1 en)) (some ((i:Int),3)) (l7 ((t.2.2.2.take i).any λy=>uK y x) (some ((i:Int),11)) none)|none=>none
def Fb(t:bW)(en:List Z8):Int×Int:=
 l7 (H9 64 (o8 t.2.2.2)) (64,4) (l7 (vty t.2.1 en) (l7 (vty t.2.2.1 en) (match(List.range t.2.2.2.length).findSome? (Lh t en)with|some r=>r|none=>(0,0)) (-1,8)) (-1,8))
theorem zW(a b:Int):H9 a b= !U1 b a:=by simp only[H9,U1];rw[←decide_not];congr 1;simp
theorem a1O(t:bW)(en:List Z8):xK t en=some (Fb t en):=by
 unfold xK Fb;rw[iC,o9,iC,o9];cases h64:H9 64 (o8 t.2.2.2)
 case true=>rfl
 simp only[o6];cases vty t.2.1 en
 .rfl
 cases vty t.2.2.1 en
 .rfl
 simp only[J5,o6,o9,X8,o7];have hlen:t.2.2.2.length<=64:=by rw[ng]at h64;simp only[o8]at h64;omega
 refine U9 (Ci (p:=Lh t en) t.2.2.2.length o5 PUnit.unit (λi hi=>?_) ?_) ?_
 rotate_left 2
 .cases (List.range t.2.2.2.length).findSome? (Lh t en)<;>rfl
 .have e:=lw hi;simp only[dU (show(i:Int)<o8 t.2.2.2 by simp only[o8];omega),o7,I9,e,o9,a1P,Lh];cases Dx t.2.2.2[i] (bnd t.2.1 en) (bnd t.2.2.1 en)
  case true=>rfl
  simp only[o6];refine U9 (yJ (t.2.2.2.take i) (λj a=> !uK a t.2.2.2[i]) ((i:Int),(11:Int)) PUnit.unit _ G6 (λj x hx=>?_) ?_) ?_
  rotate_left 2
  .have hb:(∀(j:Nat) (a:uU),(t.2.2.2.take i)[j]? =some a->(!uK a t.2.2.2[i])=true)↔((t.2.2.2.take i).any λy=>uK y t.2.2.2[i])=false:=by
    rw[iG];constructor
    .intro h x hx;obtain⟨j,hj,rfl⟩:=af hx;have:=h j _ (lw hj);simpa using this
    .intro h j a hj;have:=h a (mJ hj);simpa using this
   by_cases hv:((t.2.2.2.take i).any λy=>uK y t.2.2.2[i])=false
   .rw[if_pos (hb.2 hv),hv,bD o5];rfl
   .rw[if_neg (λh=>hv (hb.1 h))];simp only[ny]at hv;rw[hv];rfl
  .have hj:=(ax.1 hx).1;simp only[bI]at hj;have hx' :t.2.2.2[j]? =some x:=by rw[U3]at hx;split at hx<;>first|exact hx|cases hx
   simp only[dU (show(j:Int)<(i:Int) by omega),o7,I9,hx',o9,e,VD];rw[bD o5];cases uK x t.2.2.2[i]<;>rfl
  .have hl:(t.2.2.2.take i).length=i:=by simp;omega
   rw[hl,bT o5];rfl
 .rw[bT (by simp[o8])];rfl
variable {α:Type}
theorem wP{l:List α}(h:i<=l.length):iD l 0 (i:Int)=some (l.take i):=by rw[a0e o5 o5];simp
theorem a5F(t:bW)(en:List Z8):xX t en=some (Fb t en):=by
 unfold xX Fb;rw[uJ,o9,uJ,o9];cases h64:H9 64 (o8 t.2.2.2)
 case true=>rfl
 simp only[o6];cases vty t.2.1 en
 .rfl
 cases vty t.2.2.1 en
 .rfl
 simp only[J5,o6,o9,X8,o7,LJ];have hlen:t.2.2.2.length<=64:=by rw[ng]at h64;simp only[o8]at h64;omega
 refine U9 (Ci (p:=Lh t en) t.2.2.2.length o5 PUnit.unit (λi hi=>?_) ?_) ?_
 rotate_left 2
 .cases (List.range t.2.2.2.length).findSome? (Lh t en)<;>rfl
 .have e:=lw hi;simp only[dU (show(i:Int)<o8 t.2.2.2 by simp only[o8];omega),o7,I9,e,o9,Lh,Ie,wP (show i<=t.2.2.2.length by omega)];obtain⟨k,hk⟩:=a2F (l:=t.2.2.2.take i) t.2.2.2[i] G6;rw[hk,bD o5];unfold Dx inB;simp only[zW];generalize bnd t.2.1 en=bl;generalize bnd t.2.2.1 en=br;cases BK t.2.2.2[i].1
  .rfl
  cases C9 t.2.2.2[i].1.1 t.2.2.2[i].1.2
  case true=>rfl
  cases U1 t.2.2.2[i].2.2.1 t.2.2.2[i].2.1
  case true=>rfl
  cases U1 bl.1 t.2.2.2[i].2.1
  .rfl
  cases U1 t.2.2.2[i].2.1 bl.2
  .rfl
  cases U1 bl.1 (O6 IntKind.i64 t.2.2.2[i].2.2.1 1)
  .rfl
  cases U1 (O6 IntKind.i64 t.2.2.2[i].2.2.1 1) bl.2
  .rfl
  cases U1 br.1 t.2.2.2[i].2.2.2
  .rfl
  cases U1 t.2.2.2[i].2.2.2 br.2
  .rfl
  cases (t.2.2.2.take i).any λy=>uK y t.2.2.2[i]<;>rfl
 .rw[bT (by simp[o8])];rfl
section
variable {α ε ρ:Type}
theorem BO(l:List α)(p:α->Bool)(r:ρ)(e:ε){f:Int->Option (Out Int ε ρ)}(hl:l.length<=1000000)
  (hin:∀(i:Nat) (a:α),l[i]? =some a->f (i:Int)=some (bif p a then .rt r else .nx (G5 .i64 (i:Int) 1))) (hend:f (l.length:Int)=some (.ex e)):
  U8 f 0=some (bif l.any p then .inr r else .inl e):=by
 rw[yJ l (λi a=> !p a) r e f o5 (λi a ha=>?_) hend]
 .have hb:(∀(j:Nat) (a:α),l[j]? =some a->(!p a)=true)↔l.any p=false:=by
   rw[iG];constructor
   .intro h x hx;obtain⟨j,hj,rfl⟩:=af hx;have:=h j _ (lw hj);simpa using this
   .intro h j a hj;have:=h a (mJ hj);simpa using this
  by_cases hv:l.any p=false
  .rw[if_pos (hb.2 hv),hv];rfl
  .rw[if_neg (λh=>hv (hb.1 h))];simp only[ny]at hv;rw[hv];rfl
 .have hi:=(ax.1 ha).1;rw[hin i a ha,bD o5];cases p a<;>rfl
theorem yE(l:List α)(p:α->Bool){f:Int->Option (Out Int PUnit Int)}(hl:l.length<=1000000)
  (hin:∀(i:Nat) (a:α),l[i]? =some a->f (i:Int)=some (bif p a then .rt (i:Int)else .nx (G5 .i64 (i:Int) 1))) (hend:f (l.length:Int)=some (.ex PUnit.unit)):
  l9 (l9 (U8 f 0) λo=>ah o (λ_=>some (-1)) λr=>some r) (λx=>some (U1 0 x))=some (l.any p):=by
 have key:=yK (f:=f) (s:=0) (λx=>∃i:Nat,x=i/\i<=l.length/\(l.take i).any p=false) (λ_=>l.any p=false) (λk=>0<=k/\l.any p=true) (λx=>l.length -x.toNat) ⟨0,rfl,o5,rfl⟩ G6 ?_
 .rcases key with⟨e,h1,h2⟩|⟨k,h1,h2,h3⟩
  .rw[h1,h2];rfl
  .rw[h1,h3,o9,mV,o9,aZ h2]
 .rintro x ⟨i,rfl,hi,hall⟩;by_cases h:i<l.length
  .have e:=lw h;have hst:(l.take (i+1)).any p=((l.take i).any p || p l[i]):=by rw[U4 h,tH];simp
   rw[hin i _ e];cases hc:p l[i]with
   |true=>exact .inr (.inr ⟨_,rfl,o5,oG.2 ⟨l[i],O5 h,hc⟩⟩)|false=>exact .inl ⟨((i+1:Nat):Int),by rw[bD o5];rfl,⟨i+1,rfl,h,by rw[hst,hall,hc];rfl⟩,by simp;omega⟩
  .have:i=l.length:=o5;subst this;rw[dF]at hall;exact .inr (.inl ⟨_,hend,hall⟩)
theorem N8{l:List α}{a:α}(h:l[i]? =some a):H9 (i:Int) (o8 l)=true:=dU (by have:=(ax.1 h).1;simp only[o8];omega)
theorem N7(l:List α):H9 (l.length:Int) (o8 l)=false:=bT (by simp[o8])
end
theorem Jr{l:List Z8}(n:List UInt8)(h:l.length<=1000000):wL l n=some (l.any λx=>seq x.1 n):=by unfold wL iJ jr;rw[vF];refine yE l (λx=>seq x.1 n) h (λi a ha=>?_) (by rw[N7];rfl);rw[N8 ha,o7,I9,ha,o9];unfold Dp;rw[o9];cases seq a.1 n<;>rfl
theorem NQ{l:List bW}(n:List UInt8)(h:l.length<=1000000):xx l n=some (l.any λx=>seq x.1 n):=by unfold xx gG iR;rw[vF];refine yE l (λx=>seq x.1 n) h (λi a ha=>?_) (by rw[N7];rfl);rw[N8 ha,o7,I9,ha,o9];unfold Bc;rw[o9];cases seq a.1 n<;>rfl
theorem WZ{l:List L9}(s:L9)(h:l.length<=1000000):dM l s=some (l.any λx=>seq x.1 s.1):=by unfold dM iQ;refine yE l (λx=>seq x.1 s.1) h (λi a ha=>?_) (by rw[N7];rfl);rw[N8 ha,o7,I9,ha,o9];unfold yH;rw[o9];cases seq a.1 s.1<;>rfl
theorem YZ{l:List aY}(s:aY)(h:l.length<=1000000):eF l s=some (l.any λx=>seq x.1 s.1):=by unfold eF jv;refine yE l (λx=>seq x.1 s.1) h (λi a ha=>?_) (by rw[N7];rfl);rw[N8 ha,o7,I9,ha,o9];unfold zG;rw[o9];cases seq a.1 s.1<;>rfl
theorem NP{l:List eG}(s:eG)(h:l.length<=1000000):bf l s=some (l.any λx=>seq x.1 s.1):=by unfold bf iP;refine yE l (λx=>seq x.1 s.1) h (λi a ha=>?_) (by rw[N7];rfl);rw[N8 ha,o7,I9,ha,o9];unfold yG;rw[o9];cases seq a.1 s.1<;>rfl
theorem a1j{l:List (List UInt8)}(s:List UInt8)(h:l.length<=1000000):ja l s=some (l.any λx=>seq s x):=by unfold ja ig;refine yE l (λx=>seq s x) h (λi a ha=>?_) (by rw[N7];rfl);rw[N8 ha,o7,I9,ha,o9];cases seq s a<;>rfl
theorem a1i{l:List Int}(s:Int)(h:l.length<=1000000):lQ l s=some (l.any λx=>C9 s x):=by unfold lQ ui;refine yE l (λx=>C9 s x) h (λi a ha=>?_) (by rw[N7];rfl);rw[N8 ha,o7,I9,ha,o9];cases C9 s a<;>rfl
section
variable {α ε ρ:Type}
theorem Dz(l:List α)(k:Nat)(p:α->Bool)(r:ρ)(e:ε){f:Int->Option (Out Int ε ρ)}(hl:l.length<=1000000)
  (hin:∀(i:Nat) (a:α),l[i]? =some a->f (i:Int)=some (bif (decide (i<k)&&p a)then .rt r else .nx (G5 .i64 (i:Int) 1))) (hend:f (l.length:Int)=some (.ex e)):
  U8 f 0=some (bif (l.take k).any p then .inr r else .inl e):=by
 rw[yJ l (λi a=> !(decide (i<k)&&p a)) r e f o5 (λi a ha=>?_) hend]
 .have hb:(∀(j:Nat) (a:α),l[j]? =some a->(!(decide (j<k)&&p a))=true)↔(l.take k).any p=false:=by
   rw[iG];constructor
   .intro h x hx;obtain⟨j,hj,rfl⟩:=af hx;simp only[bI]at hj;have:=h j _ (lw o5);rw[List.getElem_take];simp only[show j<k by omega,decide_true,kN]at this;simpa using this
   .intro h j a hj;by_cases hk:j<k
    .have hm:a∈l.take k:=mJ (i:=j) (by rw[dJ hk];exact hj);have:=h a hm;simpa[hk]using this
    .simp[hk]
  by_cases hv:(l.take k).any p=false
  .rw[if_pos (hb.2 hv),hv];rfl
  .rw[if_neg (λh=>hv (hb.1 h))];simp only[ny]at hv;rw[hv];rfl
 .have hi:=(ax.1 ha).1;rw[hin i a ha,bD o5];cases decide (i<k)&&p a<;>rfl
end
theorem Kt(i k:Nat):H9 (i:Int) (k:Int)=decide (i<k):=by unfold H9;by_cases h:i<k<;>simp[h]<;>omega
def wX(l:aA)(kind:Nat)(k:Nat)(n:List UInt8):Bool:=
 match kind with
 |1=>(l.1.take k).any λx=>seq x.1 n|2=>(l.1.any λx=>seq x.1 n) || ((l.2.1.take k).any λx=>seq x.1 n)|_=>(l.1.any λx=>seq x.1 n) || (l.2.1.any λx=>seq x.1 n) || ((l.2.2.take k).any λx=>seq x.1 n)
def Few(l:aA):Prop:=l.1.length<=1000/\l.2.1.length<=1000/\l.2.2.length<=1000
variable {l:aA}
theorem a1T(h:Few l)(k:Nat)(n:List UInt8):iy l 1 (k:Int) n=some (wX l 1 k n):=by
 unfold iy wX;refine U9 (Dz l.1 k (λx=>seq x.1 n) true PUnit.unit (by have:=h.1;omega) (λi a ha=>?_) ?_) ?_
 rotate_left 2
 .cases (l.1.take k).any λx=>seq x.1 n
  case true=>rfl
  simp only[cond_false,X8];refine U9 (Dz l.2.1 0 (λx=>seq x.1 n) true PUnit.unit (by have:=h.2.1;omega) (λi a ha=>?_) ?_) ?_
  rotate_left 2
  .simp only[List.take_zero,List.any_nil,cond_false,X8];refine U9 (Dz l.2.2 0 (λx=>seq x.1 n) true PUnit.unit (by have:=h.2.2;omega) (λi a ha=>?_) ?_) ?_
   rotate_left 2
   .rfl
   .rw[N8 ha];simp;rfl
   .rw[N7];rfl
  .rw[N8 ha];simp;rfl
  .rw[N7];rfl
 .rw[N8 ha,I9,ha,o9,Kt,o7];cases decide (i<k)<;>cases seq a.1 n<;>rfl
 .rw[N7];rfl
theorem a1U(h:Few l)(k:Nat)(n:List UInt8):iy l 2 (k:Int) n=some (wX l 2 k n):=by
 unfold iy wX;refine U9 (BO l.1 (λx=>seq x.1 n) true PUnit.unit (by have:=h.1;omega) (λi a ha=>?_) ?_) ?_
 rotate_left 2
 .cases l.1.any λx=>seq x.1 n
  case true=>rfl
  simp only[cond_false,X8,kM];refine U9 (Dz l.2.1 k (λx=>seq x.1 n) true PUnit.unit (by have:=h.2.1;omega) (λi a ha=>?_) ?_) ?_
  rotate_left 2
  .cases (l.2.1.take k).any λx=>seq x.1 n
   case true=>rfl
   simp only[cond_false,X8];refine U9 (Dz l.2.2 0 (λx=>seq x.1 n) true PUnit.unit (by have:=h.2.2;omega) (λi a ha=>?_) ?_) ?_
   rotate_left 2
   .rfl
   .rw[N8 ha];simp;rfl
   .rw[N7];rfl
  .rw[N8 ha,I9,ha,o9,Kt,o7];cases decide (i<k)<;>cases seq a.1 n<;>rfl
  .rw[N7];rfl
 .rw[N8 ha,I9,ha,o9,o7];cases seq a.1 n<;>rfl
 .rw[N7];rfl
theorem a1V(h:Few l)(k:Nat)(n:List UInt8):iy l 3 (k:Int) n=some (wX l 3 k n):=by
 unfold iy wX;refine U9 (BO l.1 (λx=>seq x.1 n) true PUnit.unit (by have:=h.1;omega) (λi a ha=>?_) ?_) ?_
 rotate_left 2
 .cases l.1.any λx=>seq x.1 n
  case true=>rfl
  simp only[cond_false,X8,kM];refine U9 (BO l.2.1 (λx=>seq x.1 n) true PUnit.unit (by have:=h.2.1;omega) (λi a ha=>?_) ?_) ?_
  rotate_left 2
  .cases l.2.1.any λx=>seq x.1 n
   case true=>rfl
   simp only[cond_false,X8,kM];refine U9 (Dz l.2.2 k (λx=>seq x.1 n) true PUnit.unit (by have:=h.2.2;omega) (λi a ha=>?_) ?_) ?_
   rotate_left 2
   .cases (l.2.2.take k).any λx=>seq x.1 n<;>rfl
   .rw[N8 ha,I9,ha,o9,Kt,o7];cases decide (i<k)<;>cases seq a.1 n<;>rfl
   .rw[N7];rfl
  .rw[N8 ha,I9,ha,o9,o7];cases seq a.1 n<;>rfl
  .rw[N7];rfl
 .rw[N8 ha,I9,ha,o9,o7];cases seq a.1 n<;>rfl
 .rw[N7];rfl
def Tn(ms:List (List UInt8))(i:Nat):Option (Int×Int):=match ms[i]? with
 |some m=>l7 (uX m) (l7 ((ms.take i).any λx=>seq m x) (some (7,((100+i:Nat):Int))) none) (some (2,((100+i:Nat):Int)))|none=>none
def Qj(l:aA)(i:Nat)(e:Z8):Int×Int:=
 l7 (uX e.1) (l7 (wX l 1 i e.1) (7,0) (l7 (C9 (o8 e.2) 0) (5,0) (l7 (H9 16 (o8 e.2)) (4,116) (match(List.range e.2.length).findSome? (Tn e.2)with|some r=>r|none=>(0,0))))) (2,0)
theorem S_(h:i<=1000000):G5 .i64 100 (i:Int)=((100+i:Nat):Int):=by rw[kF iT];omega
theorem UV(h:Few l)(hi:i<=l.1.length)(e:Z8)(h1:e.1.length<=1000000)(h2:∀m∈e.2,m.length<=1000000):
  zf l (i:Int) e=some (Qj l i e):=by
 unfold zf Qj wX;rw[oM h1,o9,wP hi,o9,Jr _ (by have:=h.1;simp;omega),o9];cases uX e.1
 .rfl
 simp only[J5,o6,o7];cases (l.1.take i).any λx=>seq x.1 e.1
 case true=>rfl
 cases C9 (o8 e.2) 0
 case true=>rfl
 cases h16:H9 16 (o8 e.2)
 case true=>rfl
 simp only[o6];have hlen:e.2.length<=16:=by rw[ng]at h16;simp only[o8]at h16;omega
 refine U9 (Ci (p:=Tn e.2) e.2.length o5 PUnit.unit (λj hj=>?_) ?_) ?_
 rotate_left 2
 .cases (List.range e.2.length).findSome? (Tn e.2)<;>rfl
 .have e' :=lw hj;rw[N8 e',o7,I9,e',o9,oM (h2 _ (O5 hj)),o9,wP o5,o9,a1j _ G6,o9,S_ o5,bD o5];simp only[Tn,e'];cases uX e.2[j]
  .rfl
  cases (e.2.take j).any λx=>seq e.2[j] x<;>rfl
 .rw[N7];rfl
theorem a4A(a b:List UInt8):seq a b=seq b a:=by unfold seq;by_cases h:a=b<;>simp[h,eq_comm]
variable {ρ:Type}{ε:Type}{σ:Type}
theorem a0T(l:List α)(p:α->Bool)(n:Nat)(hn:n<=l.length)(hl:l.length<=1000000)(a b:σ)(r:ρ)(e:ε){f:σ×σ×Int->Option (Out (σ×σ×Int) ε ρ)}
  (hin:∀(i:Nat) (x:α),i<n->l[i]? =some x->f (a,b,(i:Int))=some (bif p x then .rt r else .nx (a,b,G5 .i64 (i:Int) 1))) (hend:f (a,b,(n:Int))=some (.ex e)):
  U8 f (a,b,0)=some (bif (l.take n).any p then .inr r else .inl e):=by
 have key:=yK (f:=f) (s:=(a,b,0)) (λx=>∃i:Nat,x=(a,b,(i:Int))/\i<=n/\(l.take i).any p=false) (λx=>x=e/\(l.take n).any p=false) (λk=>k=r/\(l.take n).any p=true) (λx=>n -x.2.2.toNat) ⟨0,rfl,o5,rfl⟩ G6 ?_
 .rcases key with⟨x,h1,rfl,h2⟩|⟨k,h1,rfl,h2⟩
  .rw[h1,h2];rfl
  .rw[h1,h2];rfl
 .rintro x ⟨i,rfl,hi,hall⟩;by_cases h:i<n
  .have e' :=lw (show i<l.length by omega);have hst:(l.take (i+1)).any p=((l.take i).any p || p l[i]):=by rw[U4 o5,tH];simp
   rw[hin i _ h e'];cases hc:p l[i]with
   |true=>refine .inr (.inr ⟨_,rfl,rfl,oG.2 ⟨l[i],?_,hc⟩⟩);exact mJ (i:=i) (by rw[dJ h];exact e')|false=>exact .inl ⟨(a,b,((i+1:Nat):Int)),by rw[bD o5];rfl,⟨i+1,rfl,h,by rw[hst,hall,hc];rfl⟩,by simp;omega⟩
  .have:i=n:=o5;subst this;exact .inr (.inl ⟨_,hend,rfl,hall⟩)
variable {β:Type}
theorem Qu{p:Nat->Option β}{n j:Nat}{c:β}(h0:(List.range j).findSome? p=none)(h1:p j=some c)(hj:j<n):(List.range n).findSome? p=some c:=by
 induction n with
 |zero=>omega|succ n ih=>
  rw[fH,jL];by_cases h:j<n
  .rw[ih h];rfl
  .have:j=n:=o5;subst this;rw[h0];simp[h1]
theorem R_{p:Nat->Option β}{j:Nat}(h0:(List.range j).findSome? p=none)(h1:p j=none):(List.range (j+1)).findSome? p=none:=by rw[fH,jL,h0];simp[h1]
def IA(kind i:Int)(r:Int×Int):Int×Int×Int×Int:=l7 (C9 r.1 0) (0,0,0,0) (r.1,kind,i,r.2)
theorem TA(h:Few l){e:Z8}(he:l.1[i]? =some e)(h1:e.1.length<=1000000)(h2:∀m∈e.2,m.length<=1000000):
  vU l (i:Int)=some (IA 1 i (Qj l i e)):=by
 unfold vU Qj;rw[I9,he,o9,kS h1,o9,a1T h,o9];cases uX e.1
 .rfl
 simp only[J5,o6,o7];cases wX l 1 i e.1
 case true=>rfl
 cases C9 (o8 e.2) 0
 case true=>rfl
 cases h16:H9 16 (o8 e.2)
 case true=>rfl
 simp only[o6];have hlen:e.2.length<=16:=by rw[ng]at h16;simp only[o8]at h16;omega
 have key:=yK (f:=λ(x_3:lW×lW×Int)=>
   l7 (H9 x_3.2.2 (o8 e.2)) (l9 (J8 e.2 x_3.2.2) λ(x_4:List UInt8)=>l9 (dC x_4) λ(x_5:Bool)=>
    l7 (G7 x_5) (some (Out.rt (2,x_3.2.1.2.1,x_3.2.1.2.2.1,G5 IntKind.i64 100 x_3.2.2)))
     (l9 (U8 (λ(x_6:lW×lW×Int)=>l7 (H9 x_6.2.2 x_3.2.2) (l9 (J8 e.2 x_6.2.2) λ(x_7:List UInt8)=>l9 (J8 e.2 x_3.2.2) λ(x:List UInt8)=>
       l7 (seq x_7 x) (some (Out.rt (7,x_6.2.1.2))) (some (Out.nx (x_6.1,x_6.2.1,G5 IntKind.i64 x_6.2.2 1)))) (some (Out.ex (x_6.1,x_6.2.1))))
      (x_3.1,(x_3.2.1.1,x_3.2.1.2.1,x_3.2.1.2.2.1,G5 IntKind.i64 100 x_3.2.2),0)) λ(o:lW×lW⊕lW)=>
       ah o (λ(y:lW×lW)=>some (Out.nx (y.1,y.2,G5 IntKind.i64 x_3.2.2 1))) λ(r:lW)=>some (Out.rt r))) (some (Out.ex x_3.1)))
  (s:=((0,0,0,0),(0,1,(i:Int),0),0))
  (λx=>∃(B:Int×Int×Int×Int) (j:Nat),x=((0,0,0,0),B,(j:Int))/\B.2.1=1/\B.2.2.1=i/\j<=e.2.length/\(List.range j).findSome? (Tn e.2)=none)
  (λ_=>(List.range e.2.length).findSome? (Tn e.2)=none) (λr=>∃c,(List.range e.2.length).findSome? (Tn e.2)=some c/\r=(c.1,1,(i:Int),c.2)/\c.1≠0)
  (λx=>e.2.length -x.2.2.toNat) ⟨_,0,rfl,rfl,rfl,o5,rfl⟩ G6 ?_
 .rcases key with⟨x,k1,k2⟩|⟨r,k1,c,k2,k3,k4⟩
  .refine(QP k1 _).trans ?_;rw[k2];rfl
  .refine(QP k1 _).trans ?_;rw[k2,k3];simp only[mV,IA];rw[P6 k4];rfl
 .rintro x ⟨B,j,rfl,b1,b2,hj,hn⟩;by_cases hl:j<e.2.length
  .have e' :=lw hl;simp only[N8 e',o7,I9,e',o9,kS (h2 _ (O5 hl)),S_ (show j<=1000000 by omega)];cases hid:uX e.2[j]
   .refine .inr (.inr ⟨_,rfl,(2,((100+j:Nat):Int)),Qu hn (by simp only[Tn,e',hid];rfl) hl,?_,(by show(2:Int)≠0;decide)⟩);rw[b1,b2]
   .simp only[J5,o6];rw[a0T e.2 (λx=>seq e.2[j] x) j o5 o5 (0,0,0,0) (B.1,B.2.1,B.2.2.1,((100+j:Nat):Int)) (7,B.2.1,B.2.2.1,((100+j:Nat):Int)) ((0,0,0,0),(B.1,B.2.1,B.2.2.1,((100+j:Nat):Int)))
     (λk x hk hx=>by simp only[dU (show(k:Int)<(j:Int) by omega),o7,I9,hx,o9,e'];rw[a4A];cases seq e.2[j] x<;>rfl)
     (by simp only[bT (show(j:Int)<=(j:Int) by omega)];rfl)]
    cases hd:(e.2.take j).any λx=>seq e.2[j] x
    .refine .inl ⟨((0,0,0,0),(B.1,B.2.1,B.2.2.1,((100+j:Nat):Int)),((j+1:Nat):Int)),by rw[bD o5];rfl,⟨_,j+1,rfl,b1,b2,hl,R_ hn (by simp only[Tn,e',hid,hd];rfl)⟩,by simp;omega⟩
    .refine .inr (.inr ⟨_,rfl,(7,((100+j:Nat):Int)),Qu hn (by simp only[Tn,e',hid,hd];rfl) hl,?_,(by show(7:Int)≠0;decide)⟩);rw[b1,b2]
  .have:j=e.2.length:=o5;subst this;exact .inr (.inl ⟨_,by simp only[N7];rfl,hn⟩)
def aS(n:Nat)(p:Nat->Option ρ):Option ρ:=(List.range n).findSome? p
theorem nM{p:Nat->Option ρ}(n:Nat)(hn:n<=1000000)(a:σ)(e:ε){f:σ×Int->Option (Out (σ×Int) ε ρ)}
  (h1:∀i,i<n->f (a,(i:Int))=some (match p i with|some r=> .rt r|none=> .nx (a,G5 .i64 (i:Int) 1))) (h2:f (a,(n:Int))=some (.ex e)):
  U8 f (a,0)=some (match aS n p with|some r=> .inr r|none=> .inl e):=by
 have key:=yK (f:=f) (s:=(a,0)) (λx=>∃i:Nat,x=(a,(i:Int))/\i<=n/\aS i p=none) (λx=>x=e/\aS n p=none) (λr=>aS n p=some r) (λx=>n -x.2.toNat) ⟨0,rfl,o5,rfl⟩ G6 ?_
 .rcases key with⟨x,k1,rfl,k2⟩|⟨r,k1,k2⟩
  .rw[k1,k2]
  .rw[k1,k2]
 .rintro x ⟨i,rfl,hi,hnone⟩;by_cases h:i<n
  .rw[h1 i h];cases hp:p i with
   |some r=>exact .inr (.inr ⟨_,rfl,Qu hnone hp h⟩)|none=>exact .inl ⟨(a,((i+1:Nat):Int)),by rw[bD o5],⟨i+1,rfl,h,R_ hnone hp⟩,by simp;omega⟩
  .have:i=n:=o5;subst this;exact .inr (.inl ⟨_,h2,rfl,hnone⟩)
def Jo(kind i:Int)(r:Int×Int):Option (Int×Int×Int×Int):=l7 (C9 r.1 0) none (some (r.1,kind,i,r.2))
def NJ(l:aA)(i:Nat):Option (Int×Int×Int×Int):=match l.1[i]? with|some e=>Jo 1 i (Qj l i e)|none=>none
def Es(l:aA):Int×Int×Int×Int:=l7 (H9 8 (o8 l.1)) (4,1,8,0) (match aS l.1.length (NJ l)with|some r=>r|none=>(0,0,0,0))
def z_(l:aA):Prop:=∀e∈l.1,e.1.length<=1000000/\∀m∈e.2,m.length<=1000000
theorem SQ(h:Few l)(hE:z_ l):xu l=some (Es l):=by
 unfold xu Es;cases H9 8 (o8 l.1)
 case true=>rfl
 simp only[o6];refine U9 (nM (p:=NJ l) l.1.length (by have:=h.1;omega) _ (0,0,0,0) (λi hi=>?_) ?_) ?_
 rotate_left 2
 .cases aS l.1.length (NJ l)<;>rfl
 .have e:=lw hi;have hm:=hE _ (O5 hi);simp only[N8 e,o7,I9,e,o9,UV h (show i<=l.1.length by omega) _ hm.1 hm.2,NJ,Jo];cases C9 (Qj l i l.1[i]).1 0<;>rfl
 .rw[N7];rfl
variable {n:Nat}
theorem jJ{p:Nat->Option ρ}{r:ρ}(h:aS n p=some r):∃i,i<n/\p i=some r:=by unfold aS at h;obtain⟨i,hi,hp⟩:=List.exists_of_findSome?_eq_some h;exact⟨i,eH.1 hi,hp⟩
theorem a5E(t:bW)(en:List Z8):(Fb t en).1=-1\/0<=(Fb t en).1:=by
 unfold Fb;cases H9 64 (o8 t.2.2.2)
 case true=>right;simp only[o7];decide
 cases vty t.2.1 en
 .left;rfl
 cases vty t.2.2.1 en
 .left;rfl
 right;simp only[o7,o6];cases hf:(List.range t.2.2.2.length).findSome? (Lh t en)with
 |none=>exact yF _|some r=>
  obtain⟨i,hi,hp⟩:=jJ (p:=Lh t en) hf;unfold Lh at hp;split at hp
  .rename_i x hx;cases hw:Dx x (bnd t.2.1 en) (bnd t.2.2.1 en)<;>rw[hw]at hp
   .cases ha:(t.2.2.2.take i).any λy=>uK y x<;>rw[ha]at hp
    .cases hp
    .cases hp;show(0:Int)<=(i:Int);omega
   .cases hp;show(0:Int)<=(i:Int);omega
  .cases hp
def Nr(l:aA)(i:Nat)(t:bW):Int×Int:=
 l7 (uX t.1) (l7 (wX l 2 i t.1) (7,0) (l7 (C9 (Fb t l.1).2 0) (0,0) ((Fb t l.1).2,l7 (U1 0 (Fb t l.1).1) (G5 .i64 100 (Fb t l.1).1) 0))) (2,0)
def Dw(l:aA)(i:Nat):Option (Int×Int×Int×Int):=match l.2.1[i]? with|some t=>Jo 2 i (Nr l i t)|none=>none
def zh(l:aA):Int×Int×Int×Int:=l7 (H9 8 (o8 l.2.1)) (4,2,8,0) (match aS l.2.1.length (Dw l)with|some r=>r|none=>(0,0,0,0))
def WB(l:aA):Prop:=∀t∈l.2.1,t.1.length<=1000000
theorem QY(h:Few l){t:bW}(he:l.2.1[i]? =some t)(h1:t.1.length<=1000000):uF l (i:Int)=some (IA 2 i (Nr l i t)):=by
 unfold uF Nr;rw[I9,he,o9,kS h1,o9,a1U h,o9,a1O,o9];cases uX t.1
 .rfl
 cases wX l 2 i t.1
 case true=>rfl
 simp only[J5,o6,o7];cases hz:C9 (Fb t l.1).2 0
 case true=>rfl
 simp only[o6,IA,hz];cases U1 0 (Fb t l.1).1<;>rfl
theorem PY(h:Few l)(hT:WB l):vN l=some (zh l):=by
 unfold vN zh;cases H9 8 (o8 l.2.1)
 case true=>rfl
 simp only[o6];refine U9 (nM (p:=Dw l) l.2.1.length (by have:=h.2.1;omega) _ (0,0,0,0) (λi hi=>?_) ?_) ?_
 rotate_left 2
 .cases aS l.2.1.length (Dw l)<;>rfl
 .have e:=lw hi;have hm:=hT _ (O5 hi);simp only[N8 e,o7,I9,e,o9,a5F,oM hm,Jr _ (show l.1.length<=1000000 by have:=h.1;omega),wP (show i<=l.2.1.length by omega),
   NQ _ (show(l.2.1.take i).length<=1000000 by have:=h.2.1;simp;omega),Dw,Nr,wX]
  cases uX l.2.1[i].1
  .rfl
  cases l.1.any λx=>seq x.1 l.2.1[i].1
  case true=>rfl
  cases (l.2.1.take i).any λx=>seq x.1 l.2.1[i].1
  case true=>rfl
  simp only[J5,o6,o7,o9,Bool.or_false];cases hz:C9 (Fb l.2.1[i] l.1).2 0
  case true=>rfl
  simp only[Y7,o7,o6,Jo,hz];rcases a5E l.2.1[i] l.1 with hr|hr
  .rw[aB hr,dw (show(Fb l.2.1[i] l.1).1<0 by omega)];simp only[J5,o6,o9,hz,Y7,o7]
  .rw[P6 (show(Fb l.2.1[i] l.1).1≠-1 by omega),aZ hr];simp only[Y7,o7,o9,hz]
 .rw[N7];rfl
theorem YX(l:List α)(g:α->β)(hl:l.length<=1000000){f:List β×Int->Option ((List β×Int)⊕ε)}{F:List β->ε}
  (hin:∀(i:Nat) (a:α) (acc:List β),l[i]? =some a->acc.length=i->f (acc,(i:Int))=some (.inl (acc++[g a],G5 .i64 (i:Int) 1))) (hend:∀acc,f (acc,(l.length:Int))=some (.inr (F acc))):
  aG f ([],0)=some (F (l.map g)):=by
 obtain⟨e,h1,h2⟩:=pO (f:=f) (s:=([],0)) (λx=>∃i:Nat,x=((l.take i).map g,(i:Int))/\i<=l.length) (λe=>e=F (l.map g)) (λx=>l.length -x.2.toNat) ⟨0,rfl,o5⟩ G6 (by
  rintro x ⟨i,rfl,hi⟩;by_cases h:i<l.length
  .have e:=lw h;refine .inl ⟨((l.take (i+1)).map g,((i+1:Nat):Int)),?_,⟨i+1,rfl,h⟩,by simp;omega⟩;rw[hin i _ _ e G6,bD o5,U4 h,gW];rfl
  .have:i=l.length:=o5;subst this;refine .inr ⟨_,hend _,?_⟩;rw[dF])
 rw[h1,h2]
theorem Dj{l:List eG}(h:l.length<=1000000):qm l=some (l.map (·.2)):=by
 unfold qm;rw[vF];refine YX (F:=id) l (λx=>x.2) h (λi a acc ha hacc=>?_) (λacc=>?_)
 .have hi:=(ax.1 ha).1;simp only[N8 ha,o7,I9,ha,o9];rw[vK (by simp[hacc];omega)];rfl
 .simp only[N7];rfl
def JQ(l:aA):Prop:=∀s∈l.2.2,s.1.length<=1000000/\s.2.2.1.length<=1000/\s.2.2.2.1.length<=1000/\s.2.2.2.2.length<=1000
def Lr(l:aA)(s:L9):List Z8×List bW×List (Int×Int)×List (Int×Int)×List (Int×Int)×Bool:=
 match(if 0<=s.2.1 then l.2.2[s.2.1.toNat]? else none)with
 |some k=>(l.1,l.2.1,s.2.2.1.map (·.2),s.2.2.2.1.map (·.2),k.2.2.2.1.map (·.2),true)|none=>(l.1,l.2.1,s.2.2.1.map (·.2),s.2.2.2.1.map (·.2),[],false)
theorem BF(h:JQ l){s:L9}(hs:l.2.2[i]? =some s):mO l (i:Int)=some (Lr l s):=by
 have hm:=h s (mJ hs);unfold mO Lr;rw[I9,hs,o9,Dj o5,o9,Dj o5,o9];by_cases h0:0<=s.2.1
 .rw[aZ h0,if_pos h0,o7];by_cases h1:s.2.1<o8 l.2.2
  .obtain⟨k,hk,hkm⟩:=qQ h0 h1;have hk' :l.2.2[s.2.1.toNat]? =some k:=(qj hk).2.2.2;rw[dU h1,o7,hk,o9,Dj (by have:=h k hkm;omega),o9,hk']
  .have h1' :o8 l.2.2<=s.2.1:=rF.1 h1;rw[bT h1',o6,gV (by simp only[o8]at h1';exact Int.le_toNat h0 |>.2 h1')]
 .have h0' :s.2.1<(0:Int):=rE.1 h0;rw[dw h0',if_neg h0];rfl
theorem TC(h:JQ l){s:L9}(hs:l.2.2[i]? =some s):vT l (i:Int)=some (Lr l s):=by have hi:=(ax.1 hs).1;rw[←BF h hs];unfold vT mO;rw[bT o5,dw (by simp only[o8];omega)];rfl
abbrev SI(l:List Int):Prop:=l.Pairwise (·< ·)
theorem ZT:∀{a b:List Int},SI a->SI b->(∀x,x∈a↔x∈b)->a=b
 |[],[],_,_,_=>rfl|[],y::b,_,_,h=>absurd ((h y).2 x9) x9|x::a,[],_,_,h=>absurd ((h x).1 x9) x9|x::a,y::b,ha,hb,h=>by
  have ha' :=U5.1 ha;have hb' :=U5.1 hb;have hxy:x=y:=by
   rcases A8.1 ((h x).1 x9)with h1|h1
   .exact h1
   .rcases A8.1 ((h y).2 x9)with h2|h2
    .exact h2.symm
    .have:=hb'.1 _ h1;have:=ha'.1 _ h2;omega
  subst hxy;congr 1;refine ZT ha'.2 hb'.2 λz=>⟨λhz=>?_,λhz=>?_⟩
  .rcases A8.1 ((h z).1 (by simp[hz]))with h1|h1
   .have:=ha'.1 _ hz;omega
   .exact h1
  .rcases A8.1 ((h z).2 (by simp[hz]))with h1|h1
   .have:=hb'.1 _ hz;omega
   .exact h1
def ins(n:Int):List Int->List Int
 |[]=>[n]|a::l=>if n<=a then(if n<a then n::a::l else a::l)else a::ins n l
theorem Vq(n x:Int):∀l,x∈ins n l↔x=n\/x∈l
 |[]=>by simp[ins]|a::l=>by
  unfold ins;by_cases h:n<=a
  .rw[if_pos h];by_cases h2:n<a
   .rw[if_pos h2];simp
   .rw[if_neg h2];have:n=a:=o5;subst this;simp
  .rw[if_neg h,A8,Vq n x l,A8];constructor
   .rintro(h|h|h)<;>simp[h]
   .rintro(h|h|h)<;>simp[h]
theorem a4D(n:Int):∀{l},SI l->SI (ins n l)
 |[],_=>List.pairwise_singleton _ _|a::l,h=>by
  have h' :=U5.1 h;unfold ins;by_cases h1:n<=a
  .rw[if_pos h1];by_cases h2:n<a
   .rw[if_pos h2];refine U5.2 ⟨λx hx=>?_,h⟩;rcases A8.1 hx with rfl|hx
    .exact h2
    .have:=h'.1 x hx;omega
   .rw[if_neg h2];exact h
  .rw[if_neg h1];refine U5.2 ⟨λx hx=>?_,a4D n h'.2⟩;rcases(Vq n x l).1 hx with rfl|hx
   .omega
   .exact h'.1 x hx
def Dn(ns:List Int)(l:List Int):List Int:=ns.foldl (λacc n=>ins n acc) l
theorem KE(x:Int):∀ns l,x∈Dn ns l↔x∈ns\/x∈l
 |[],l=>by simp[Dn]|n::ns,l=>by
  show x∈Dn ns (ins n l)↔_;rw[KE x ns,Vq,A8];constructor
  .rintro(h|h|h)<;>simp[h]
  .rintro((h|h)|h)<;>simp[h]
theorem Px:∀ns {l},SI l->SI (Dn ns l)
 |[],_,h=>h|n::ns,_,h=>Px ns (a4D n h)
theorem NT(a b l:List Int):Dn (a++b) l=Dn b (Dn a l):=List.foldl_append ..
def JL(l:List Int):List Int:=Dn l []
theorem Xk(x:Int)(l:List Int):x∈JL l↔x∈l:=by unfold JL;rw[KE];simp
theorem a0D(l:List Int):SI (JL l):=Px l List.Pairwise.nil
theorem ww(n:Int):∀l,(ins n l).length<=l.length+1
 |[]=>by simp[ins]|a::l=>by
  unfold ins;by_cases h1:n<=a
  .rw[if_pos h1];by_cases h2:n<a
   .rw[if_pos h2];simp
   .rw[if_neg h2];simp
  .rw[if_neg h1];have:=ww n l;simp only[D9];omega
theorem Ce:∀ns l,(Dn ns l).length<=l.length+ns.length
 |[],l=>by simp[Dn]|n::ns,l=>by have h1:=Ce ns (ins n l);have h2:=ww n l;show(Dn ns (ins n l)).length<=_;simp only[D9];omega
theorem Xf(l:List Int):(JL l).length<=l.length:=by have:=Ce l [];unfold JL;simpa using this
theorem VV{l:List Int}(n:Nat)(h:SI l)(h2:∀x∈l,0<=x/\x<n):l.length<=n:=by
 have key:∀(l:List Int) (lo:Int),SI l->(∀x∈l,lo<=x/\x<n)->lo<=n->(l.length:Int)<=n -lo:=by
  intro l;induction l with
  |nil=>intro lo _ _ hlo;simp;omega|cons a l ih=>intro lo hs hb hlo;have h' :=U5.1 hs;have ha:=hb a x9;have:=ih (a+1) h'.2 (λx hx=>⟨by have:=h'.1 x hx;omega,(hb x (by simp[hx])).2⟩) o5;simp only[D9];omega
 have:=key l 0 h (λx hx=>h2 x hx) o5;omega
theorem Qb(x:Int):∀(l:List Int) (p:Int),(p::l).Pairwise (·<=·)->SI (p::ddp p l)/\(x∈p::ddp p l↔x∈p::l)
 |[],p,_=>⟨List.pairwise_singleton _ _,Iff.rfl⟩|a::l,p,h=>by
  have h1:=U5.1 h;obtain⟨i1,i2⟩:=Qb x l a h1.2;have h2:=U5.1 h1.2;have hpa:=h1.1 a x9;unfold ddp;cases hq:C9 a p
  .rw[xm]at hq;simp only[cond_false];refine⟨U5.2 ⟨λy hy=>?_,i1⟩,?_⟩
   .rcases A8.1 hy with rfl|hy
    .omega
    .have:=(U5.1 i1).1 y hy;omega
   .rw[A8,i2,A8 (a:=x) (b:=p)]
  .rw[iF]at hq;subst hq;simp only[cond_true];refine⟨i1,?_⟩;rw[i2];simp
theorem a2u(l:List Int):dd (Gl l)=JL l:=by
 have hs:=EE l;have hp:=ED l;refine ZT ?_ (a0D l) λx=>?_
 .cases he:Gl l with
  |nil=>exact List.Pairwise.nil|cons a r=>rw[he]at hs;exact(Qb a r a hs).1
 .rw[Xk,←hp.mem_iff];cases he:Gl l with
  |nil=>exact Iff.rfl|cons a r=>rw[he]at hs;exact(Qb x r a hs).2
theorem a1m(l:List Int):(Gl l).length=l.length:=(ED l).length_eq
theorem a7e{l:List Int}(h:l.length<=1000000):l9 (AB l) (λx=>oV x)=some (JL l):=by unfold AB oV;rw[show Nat.blt l.length 4611686018427387904=true from by simp[Nat.blt];omega];simp only[cond_true,o9];rw[show Nat.blt (Gl l).length 4611686018427387904=true from by rw[a1m];simp[Nat.blt];omega];rw[cond_true,a2u]
def hg(l:List Int)(i:Nat):Int:=l.getD i 0
theorem Lt{l:List α}{a:α}(h:(l.take n)[i]? =some a):i<n/\l[i]? =some a:=by
 rw[U3]at h;split at h
 .exact⟨by assumption,h⟩
 .cases h
theorem EO{l:List eG}(hl:l.length<=1000000)(n:Nat)(nm:List UInt8):qB l (n:Int) nm=some ((l.take n).any λx=>seq x.1 nm):=by
 unfold qB;refine U9 (BO (l.take n) (λx=>seq x.1 nm) true PUnit.unit G6 (λi a ha=>?_) ?_) ?_
 rotate_left 2
 .cases (l.take n).any λx=>seq x.1 nm<;>rfl
 .obtain⟨h1,h2⟩:=Lt ha;rw[dU (show(i:Int)<n by omega),N8 h2,I9,h2];simp only[o7,o9];cases seq a.1 nm<;>rfl
 .by_cases h:n<l.length
  .have e:(l.take n).length=n:=by simp;omega
   rw[e,bT o5];rfl
  .have e:(l.take n).length=l.length:=by simp;omega
   rw[e,N7];cases H9 (l.length:Int) (n:Int)<;>rfl
def Di(en:List Z8)(f:eG)(a b:List eG):Int:=
 l7 (uX f.1) (l7 (a.any λx=>seq x.1 f.1) 7 (l7 (b.any λx=>seq x.1 f.1) 7 (l7 (vty f.2 en) 0 8))) 2
theorem IP{f:eG}{a b:List eG}(h:f.1.length<=1000000)(ha:a.length<=1000000)(hb:b.length<=1000000):tK l f a b=some (Di l.1 f a b):=by
 unfold tK Di;rw[oM h,o9,NP _ ha,o9,NP _ hb,o9,uJ,o9];cases uX f.1
 .rfl
 cases a.any λx=>seq x.1 f.1
 case true=>rfl
 cases b.any λx=>seq x.1 f.1
 case true=>rfl
 cases vty f.2 l.1<;>rfl
def JZ(c e:Int):Option (Int×Int):=l7 (C9 c 0) none (some (c,e))
def inP(l:aA)(s:L9)(i:Nat):Option (Int×Int):=match s.2.2.1[i]? with|some f=>JZ (Di l.1 f (s.2.2.1.take i) []) (100+i:Nat)|none=>none
def SY(l:aA)(s:L9)(i:Nat):Option (Int×Int):=match s.2.2.2.1[i]? with|some f=>JZ (Di l.1 f s.2.2.1 (s.2.2.2.1.take i)) (200+i:Nat)|none=>none
def Wy(s:L9):Prop:=(∀f∈s.2.2.1,f.1.length<=1000000)/\(∀f∈s.2.2.2.1,f.1.length<=1000000)
theorem NR{c i:Nat}(hc:c<=1000)(h:i<=1000000):G5 .i64 (c:Int) (i:Int)=((c+i:Nat):Int):=by rw[kF iT];omega
def OH(i:Int)(r:Int×Int):Int×Int×Int×Int:=(r.1,3,i,r.2)
theorem Cc{ρ ρ' :Type}(g:ρ->ρ')(n:Nat)(p:Nat->Option ρ):aS n (λi=>(p i).map g)=(aS n p).map g:=by
 unfold aS;induction n with
 |zero=>rfl|succ n ih=>rw[fH,jL,jL,ih];cases (List.range n).findSome? p<;>simp
def vJ(l:aA)(s:L9):Option (Int×Int):=match aS s.2.2.1.length (inP l s)with|some r=>some r|none=>aS s.2.2.2.1.length (SY l s)
theorem QW{s:L9}(hs:l.2.2[i]? =some s)(h1:s.2.2.1.length<=1000)(h2:s.2.2.2.1.length<=1000)(hf:Wy s):
  uA l (i:Int)=some (match vJ l s with|some r=>OH i r|none=>(0,0,0,0)):=by
 unfold uA vJ;rw[I9,hs,o9];refine U9 (nM (p:=λk=>(inP l s k).map (OH i)) s.2.2.1.length o5 _ (0,0,0,0) (λk hk=>?_) ?_) ?_
 rotate_left 2
 .rw[Cc];cases aS s.2.2.1.length (inP l s)
  case some r=>rfl
  simp only[Option.map_none,X8];refine U9 (nM (p:=λk=>(SY l s k).map (OH i)) s.2.2.2.1.length o5 _ (0,0,0,0) (λk hk=>?_) ?_) ?_
  rotate_left 2
  .rw[Cc];cases aS s.2.2.2.1.length (SY l s)<;>rfl
  .have e:=lw hk;have hm:=hf.2 _ (O5 hk);simp only[N8 e,o7,I9,e,o9,kS hm,show o8 s.2.2.1=((s.2.2.1.length:Nat):Int)from rfl,EO (show s.2.2.1.length<=1000000 by omega),EO (show s.2.2.2.1.length<=1000000 by omega),iC,SY,Di,JZ,dF];rw[show(200:Int)=((200:Nat):Int)from rfl,NR o5 o5];cases uX s.2.2.2.1[k].1
   .rfl
   cases s.2.2.1.any λx=>seq x.1 s.2.2.2.1[k].1
   case true=>rfl
   cases (s.2.2.2.1.take k).any λx=>seq x.1 s.2.2.2.1[k].1
   case true=>rfl
   cases vty s.2.2.2.1[k].2 l.1<;>rfl
  .simp only[N7];rfl
 .have e:=lw hk;have hm:=hf.1 _ (O5 hk);simp only[N8 e,o7,I9,e,o9,kS hm,EO (show s.2.2.1.length<=1000000 by omega),iC,inP,Di,JZ];rw[show(100:Int)=((100:Nat):Int)from rfl,NR o5 o5];cases uX s.2.2.1[k].1
  .rfl
  cases (s.2.2.1.take k).any λx=>seq x.1 s.2.2.1[k].1
  case true=>rfl
  cases vty s.2.2.1[k].2 l.1<;>rfl
 .simp only[N7];rfl
def arF(op:Int):Int:=(gY op).getD 0
variable {op:Int}
theorem QR(h:1<=op/\op<=39):∃k:Fin 40,op=(k.val:Int):=⟨⟨op.toNat,o5⟩,by simp;omega⟩
theorem b1D:∀k:Fin 40,1<=k.val->(jI (k.val:Int)=gY (k.val:Int))/\(gY (k.val:Int)=some 0\/gY (k.val:Int)=some 1\/gY (k.val:Int)=some 2\/gY (k.val:Int)=some 3):=by decide+kernel
theorem Vl(h:¬(1<=op/\op<=39))(k:Int)(h1:1<=k)(h2:k<=39):C9 op k=false:=P6 o5
theorem VB(h:¬(1<=op/\op<=39)):gY op=some (-1):=by
 unfold gY;by_cases h1:1<=op
 .rw[aZ h1,o7,dw (show(9:Int)<op by omega),o6,dw (show(39:Int)<op by omega),dw (show(30:Int)<op by omega)];simp[Vl h];cases U1 35 op<;>cases U1 11 op<;>rfl
 .rw[dw (show op<1 by omega),o6,dw (show op<35 by omega),dw (show op<11 by omega)];simp[Vl h]
theorem a8h(h:¬(1<=op/\op<=39)):jI op=some (-1):=by unfold jI;simp[Vl h]
theorem DC(op:Int):jI op=some (arF op)/\gY op=some (arF op)/\(arF op=-1\/arF op=0\/arF op=1\/arF op=2\/arF op=3):=by
 unfold arF;by_cases h:1<=op/\op<=39
 .obtain⟨k,rfl⟩:=QR h;obtain⟨h1,h2⟩:=b1D k o5;rcases h2 with h2|h2|h2|h2<;>rw[h1,h2]<;>simp
 .rw[a8h h,VB h];simp
theorem a2m(op:Int):jI op=some (arF op):=(DC op).1
theorem Zw(op:Int):gY op=some (arF op):=(DC op).2.1
inductive XT where
 |l0 (n:Int×Int)|l1 (n:Int×Int) (a:XT)|l2 (n:Int×Int) (a b:XT)|l3 (n:Int×Int) (a b c:XT)
def XT.size:XT->Nat
 | .l0 _=>1| .l1 _ a=>a.size+1| .l2 _ a b=>a.size+b.size+1| .l3 _ a b c=>a.size+b.size+c.size+1
def XT.post:XT->List (Int×Int)
 | .l0 n=>[n]| .l1 n a=>a.post++[n]| .l2 n a b=>a.post++b.post++[n]| .l3 n a b c=>a.post++b.post++c.post++[n]
def XT.sts(o:Nat):XT->List Int
 | .l0 _=>[(o:Int)]| .l1 _ a=>a.sts o++[(o:Int)]| .l2 _ a b=>a.sts o++b.sts (o+a.size)++[(o:Int)]| .l3 _ a b c=>a.sts o++b.sts (o+a.size)++c.sts (o+a.size+b.size)++[(o:Int)]
theorem XT.size_pos(t:XT):0<t.size:=by cases t<;>simp[XT.size]
theorem XT.post_len(t:XT):t.post.length=t.size:=by
 induction t with
 |l0 n=>rfl|l1 n a ha=>simp[XT.post,XT.size,ha]|l2 n a b ha hb=>simp[XT.post,XT.size,ha,hb];try omega
 |l3 n a b c ha hb hc=>simp[XT.post,XT.size,ha,hb,hc];try omega
theorem XT.sts_len(t:XT):∀o,(t.sts o).length=t.size:=by
 induction t with
 |l0 n=>intro o;rfl|l1 n a ha=>intro o;simp[XT.sts,XT.size,ha]|l2 n a b ha hb=>intro o;simp[XT.sts,XT.size,ha,hb];try omega
 |l3 n a b c ha hb hc=>intro o;simp[XT.sts,XT.size,ha,hb,hc];try omega
def gQ:List XT->Nat
 |[]=>0|t::r=>gQ r+t.size
def Fv:List XT->List (Int×Int)
 |[]=>[]|t::r=>Fv r++t.post
def stR:List XT->List Int
 |[]=>[]|t::r=>stR r++t.sts (gQ r)
def lK:List XT->List Int
 |[]=>[]|t::r=>lK r++[(gQ r:Int)]
theorem lH:∀ts,(lK ts).length=ts.length
 |[]=>rfl|t::r=>by simp[lK,lH r]
theorem Af:∀ts,(stR ts).length=gQ ts
 |[]=>rfl|t::r=>by simp[stR,gQ,Af r,XT.sts_len]
theorem Ip:∀ts,(Fv ts).length=gQ ts
 |[]=>rfl|t::r=>by simp[Fv,gQ,Ip r,XT.post_len]
def push(n:Int×Int)(ts:List XT):Int⊕List XT:=
 if arF n.1=0 then .inr (.l0 n::ts)
 else if arF n.1=1 then(match ts with|a::r=> .inr (.l1 n a::r)|_=> .inl 5)
 else if arF n.1=2 then(match ts with|b::a::r=> .inr (.l2 n a b::r)|_=> .inl 5)
 else if arF n.1=3 then(match ts with|c::b::a::r=> .inr (.l3 n a b c::r)|_=> .inl 5)
 else .inl 2
def rY:Nat->List (Int×Int)->List XT->(Int×Int)⊕List XT
 |_,[],ts=> .inr ts
 |i,n::es,ts=>match push n ts with
  | .inl c=> .inl ((i:Int),c)| .inr ts' =>if 12<ts'.length then .inl ((i:Int),16)else rY (i+1) es ts'
def kE(e:List (Int×Int)):(Int×Int)⊕XT:=
 if 48<e.length then .inl (0,4)else if e.length=0 then .inl (0,5)else
  match rY 0 e []with
  | .inl x=> .inl x| .inr [t]=> .inr t| .inr _=> .inl ((e.length:Int),4)
theorem Uw{n:Int×Int}{ts ts' :List XT}(h:push n ts= .inr ts'):Fv ts' =Fv ts++[n]/\ts' ≠[]:=by
 unfold push at h;split at h
 .cases h;exact⟨rfl,x9⟩
 split at h
 .split at h
  .cases h;exact⟨by simp[Fv,XT.post],x9⟩
  .cases h
 split at h
 .split at h
  .cases h;exact⟨by simp[Fv,XT.post],x9⟩
  .cases h
 split at h
 .split at h
  .cases h;exact⟨by simp[Fv,XT.post],x9⟩
  .cases h
 .cases h
theorem Ir{n:Int×Int}{ts ts' :List XT}(h:push n ts= .inr ts'):gQ ts' =gQ ts+1:=by rw[←Ip,←Ip,(Uw h).1];simp
theorem EM:∀(es:List (Int×Int)) (i:Nat) (ts ts' :List XT),rY i es ts= .inr ts' ->Fv ts' =Fv ts++es/\(ts≠[]\/es≠[]->ts' ≠[])
 |[],i,ts,ts',h=>by cases h;exact⟨x9,x9⟩|n::es,i,ts,ts',h=>by
  unfold rY at h;cases hp:push n ts with
  |inl c=>rw[hp]at h;cases h|inr t2=>
   rw[hp]at h;simp only at h;split at h
   .cases h
   .obtain⟨h1,h2⟩:=EM es (i+1) t2 ts' h;obtain⟨h3,h4⟩:=Uw hp;exact⟨by rw[h1,h3];simp,λ_=>h2 (.inl h4)⟩
theorem uj{e:List (Int×Int)}{t:XT}(h:kE e= .inr t):e=t.post/\e.length<=48:=by
 unfold kE at h;split at h
 .cases h
 split at h
 .cases h
 split at h
 .cases h
 .rename_i t' hp;cases h;have:=(EM e 0 [] [t] hp).1;exact⟨by simpa[Fv]using this.symm,o5⟩
 .cases h
theorem OE(e:List (Int×Int))(he:e.length<=48)(g:List XT->σ)(fin:List XT->ε)(rt:Int×Int->ρ){f:σ->Option (Out σ ε ρ)}
  (hs:∀(i:Nat) (n:Int×Int) (ts:List XT),e[i]? =some n->i=gQ ts->ts.length<=12->f (g ts)=some (match push n ts with
   | .inl c=> .rt (rt ((i:Int),c))
   | .inr ts' =>if 12<ts'.length then .rt (rt ((i:Int),16))else .nx (g ts')))
  (hend:∀ts,gQ ts=e.length->f (g ts)=some (.ex (fin ts))):
  U8 f (g [])=some (match rY 0 e []with| .inl x=> .inr (rt x)| .inr ts=> .inl (fin ts)):=by
 have key:∀(es:List (Int×Int)) (i:Nat) (ts:List XT) (k:Nat),e.drop i=es->i=gQ ts->ts.length<=12->i<=e.length->es.length<k->
   jO f k (g ts)=some (match rY i es ts with| .inl x=> .inr (rt x)| .inr ts=> .inl (fin ts)):=by
  intro es;induction es with
  |nil=>
   intro i ts k hd hi hl hle hk;obtain⟨k,rfl⟩:∃k',k=k' +1:=⟨k -1,o5⟩;have:i=e.length:=by have:=congrArg List.length hd;simp at this;omega
   unfold jO;rw[hend ts o5];rfl
  |cons n es ih=>
   intro i ts k hd hi hl hle hk;obtain⟨k,rfl⟩:∃k',k=k' +1:=⟨k -1,o5⟩;have hn:e[i]? =some n:=by
    have:(e.drop i)[0]? =some n:=by rw[hd];rfl
    simpa using this
   have hlt:=(ax.1 hn).1;unfold jO;rw[hs i n ts hn hi hl];unfold rY;cases hp:push n ts with
   |inl c=>rfl|inr ts' =>
    simp only;by_cases h12:12<ts'.length
    .rw[if_pos h12,if_pos h12]
    .rw[if_neg h12,if_neg h12];exact ih (i+1) ts' k (by rw[←V6,hd];rfl) (by rw[Ir hp,hi]) o5 o5 (by simp at hk;omega)
 exact key e 0 [] ji rfl rfl x9 o5 (by unfold ji;omega)
theorem Xp:∀(p r:List XT),∃X,lK (p++r)=lK r++X/\X.length=p.length/\(p≠[]->X.head?=some (gQ r:Int))
 |[],r=>⟨[],x9,rfl,λh=>absurd rfl h⟩|a::p,r=>by
  obtain⟨X,h1,h2,h3⟩:=Xp p r;refine⟨X++[(gQ (p++r):Int)],?_,by simp[h2],λ_=>?_⟩
  .show lK (p++r)++[(gQ (p++r):Int)]=_;rw[h1,E8]
  .cases p with
   |nil=>simp at h2;subst h2;rfl|cons b p=>rw[List.head?_append,h3 x9];rfl
theorem MO(p r:List XT)(k:Int)(hk:k=(p.length:Int))(h:p.length+r.length<=100)(hp:p≠[]):
  O6 .i64 (o8 (lK (p++r))) k=(r.length:Int)/\J8 (lK (p++r)) (r.length:Int)=some (gQ r:Int)/\di (lK (p++r)) (aW (r.length:Int))=some (gQ r:Int)
  /\jV 0 (r.length:Int) (o8 (lK (p++r)))=true/\iY (lK (p++r)) (aW 0) (aW (r.length:Int))=lK r:=by
 obtain⟨X,h1,h2,h3⟩:=Xp p r;have hl:(lK (p++r)).length=r.length+p.length:=by rw[lH];simp;omega
 have hg:(lK (p++r))[r.length]? =some (gQ r:Int):=by rw[h1,I5 (by rw[lH];omega),lH,gy,←List.head?_eq_getElem?];exact h3 hp
 refine⟨?_,?_,?_,?_,?_⟩
 .simp only[o8,hl];rw[iL iT];omega
 .rw[I9];exact hg
 .exact hg
 .simp only[jV,o8,hl,decide_eq_true_eq];omega
 .show((lK (p++r)).take r.length).drop 0=_;rw[h1,jY,X7 (by rw[lH];omega),P9 (by rw[lH];omega)]
theorem NS(ts:List XT):H9 12 (o8 (lK ts))=decide (12<ts.length):=by rw[show o8 (lK ts)=((ts.length:Nat):Int) by simp[o8,lH]];exact Kt 12 ts.length
theorem mM{l:List α}(x:α)(h:l.length<=1000000):aX l [x]=some (l++[x]):=vK G6
theorem DR(ts:List XT)(k:Nat):H9 (o8 (lK ts)) (k:Int)=decide (ts.length<k):=by rw[show o8 (lK ts)=((ts.length:Nat):Int) by simp[o8,lH]];exact Kt _ _
def sH(e:List (Int×Int)):List Int×Int×Int:=match kE e with| .inl x=>([],x)| .inr t=>(t.sts 0,0,0)
theorem Us{e:List (Int×Int)}(h0:e.length≠0){K:List Int×Int×Int->List Int×Int×Int}(h48:¬48<e.length)
  {r:List Int×Int×Int} (h:∀ts,rY 0 e []= .inr ts->r=l7 (H9 1 (o8 (lK ts))) ([],o8 e,4) (stR ts,0,0)) (hi:∀x,rY 0 e []= .inl x->r=([],x)):r=sH e:=by
 unfold sH kE;rw[if_neg h48,if_neg h0];cases hp:rY 0 e []with
 |inl x=>exact hi x hp|inr ts=>
  rw[h ts hp];have:=(EM e 0 [] ts hp).2 (.inr (by intro he;subst he;exact h0 rfl));match ts,this with
  |[t],_=>simp[lK,o8,H9,stR,gQ]|a::b::ts,_=>rw[dU (by simp[o8,lH];omega)];rfl
theorem Du(e:List (Int×Int)):oQ e=some (sH e):=by
 unfold oQ;by_cases h48:48<e.length
 .rw[dU (by simp[o8];omega),o7];unfold sH kE;rw[if_pos h48]
 by_cases h0:e.length=0
 .rw[bT (by simp[o8];omega),o6,aB (by simp[o8,h0]),o7];unfold sH kE;rw[if_neg h48,if_pos h0]
 rw[bT (by simp[o8];omega),o6,P6 (by simp[o8];intro h;exact h0 (by simp[h])),o6];refine U9 (OE e o5 (λts=>(stR ts,lK ts,(gQ ts:Int))) (λts=>(stR ts,lK ts)) (λx=>(([]:List Int),x)) (λi n ts hn hi hl=>?_) (λts hsz=>?_)) ?_
 rotate_left 2
 .rw[←Us h0 h48 (K:=id) (r:=match rY 0 e []with| .inl x=>([],x)| .inr ts=>l7 (H9 1 (o8 (lK ts))) ([],o8 e,4) (stR ts,0,0)) (λts h=>by rw[h]) (λx h=>by rw[h])];cases rY 0 e []with
  |inl x=>rfl|inr ts=>simp only[o9,X8];cases H9 1 (o8 (lK ts))<;>rfl
 .subst hi;have hlt:=(ax.1 hn).1;have hst:=Af ts;have hof:=lH ts;simp only[N8 hn,o7,I9,hn,o9,Zw];rcases(DC n.1).2.2 with h|h|h|h|h
  .rw[show push n ts= .inl 2 by simp[push,h],h];rfl
  .rw[show push n ts= .inr (.l0 n::ts) by simp[push,h],h,bT o5,o6,bT (NU _),o6,o6,mM _ o5,o9,mM _ o5,o9,bD o5];rw[show lK ts++[(gQ ts:Int)]=lK (.l0 n::ts)from rfl,NS];by_cases hc:12<(XT.l0 n::ts).length
   .simp only[hc,decide_true,if_true,o7]
   .simp only[hc,decide_false,if_false,o6];rfl
  .match ts with
   |[]=>rw[show push n []= .inl 5 by simp[push,h],h];rfl|a::r=>
    obtain⟨p1,p2,p3,p4,p5⟩:=MO [a] r 1 rfl (by simp at hl ⊢;omega) x9;simp only[L8,F7]at p1 p2 p3 p4 p5;have:=Af (a::r);have:=lH r;simp only[D9]at hl;rw[show push n (a::r)= .inr (.l1 n a::r) by simp[push,h],h,bT o5,o6,show(1:Int)=((1:Nat):Int)from rfl,DR,show decide ((a::r).length<1)=false by simp];simp only[Int.natCast_one]at p1 ⊢;rw[o6,dU o5,o7,p1,p2,o9,p3,o9,p4,o7,p5,mM _ o5,o9,mM _ o5,o9,bD o5];rw[show lK r++[(gQ r:Int)]=lK (.l1 n a::r)from rfl,NS];by_cases hc:12<(XT.l1 n a::r).length
    .simp only[hc,decide_true,if_true,o7]
    .simp only[hc,decide_false,if_false,o6,stR,XT.sts,E8,gQ,XT.size,dY]
  .match ts with
   |[]=>rw[show push n []= .inl 5 by simp[push,h],h];rfl|[a]=>rw[show push n [a]= .inl 5 by simp[push,h],h];rfl|b::a::r=>
    obtain⟨p1,p2,p3,p4,p5⟩:=MO [b,a] r 2 rfl (by simp at hl ⊢;omega) x9;simp only[L8,F7]at p1 p2 p3 p4 p5;have:=Af (b::a::r);have:=lH r;simp only[D9]at hl;rw[show push n (b::a::r)= .inr (.l2 n a b::r) by simp[push,h],h,bT o5,o6,show(2:Int)=((2:Nat):Int)from rfl,DR,show decide ((b::a::r).length<2)=false by simp];rw[o6,dU o5,o7,show((2:Nat):Int)=2 from rfl,p1,p2,o9,p3,o9,p4,o7,p5,mM _ o5,o9,mM _ o5,o9,bD o5];rw[show lK r++[(gQ r:Int)]=lK (.l2 n a b::r)from rfl,NS];by_cases hc:12<(XT.l2 n a b::r).length
    .simp only[hc,decide_true,if_true,o7]
    .simp only[hc,decide_false,if_false,o6,stR,XT.sts,E8,gQ,XT.size,dY]
  .match ts with
   |[]=>rw[show push n []= .inl 5 by simp[push,h],h];rfl|[a]=>rw[show push n [a]= .inl 5 by simp[push,h],h];rfl|[b,a]=>rw[show push n [b,a]= .inl 5 by simp[push,h],h];rfl|c::b::a::r=>
    obtain⟨p1,p2,p3,p4,p5⟩:=MO [c,b,a] r 3 rfl (by simp at hl ⊢;omega) x9;simp only[L8,F7]at p1 p2 p3 p4 p5;have:=Af (c::b::a::r);have:=lH r;simp only[D9]at hl;rw[show push n (c::b::a::r)= .inr (.l3 n a b c::r) by simp[push,h],h,bT o5,o6,show(3:Int)=((3:Nat):Int)from rfl,DR,show decide ((c::b::a::r).length<3)=false by simp];rw[o6,dU o5,o7,show((3:Nat):Int)=3 from rfl,p1,p2,o9,p3,o9,p4,o7,p5,mM _ o5,o9,mM _ o5,o9,bD o5];rw[show lK r++[(gQ r:Int)]=lK (.l3 n a b c::r)from rfl,NS];by_cases hc:12<(XT.l3 n a b c::r).length
    .simp only[hc,decide_true,if_true,o7]
    .simp only[hc,decide_false,if_false,o6,stR,XT.sts,E8,gQ,XT.size,dY]
 .simp only[hsz,N7];rfl
def pd(l:List Int)(k:Nat):List Int:=l++List.replicate k 0
theorem a3q(l:List Int)(m:Nat):J8 (pd l (m+1)) (l.length:Int)=some 0:=by rw[I9];unfold pd;rw[I5 o5,gy];rfl
theorem a6v(l:List Int)(m:Nat):di (pd l (m+1)) (aW (l.length:Int))=some 0:=by have:=a3q l m;rw[I9]at this;exact this
theorem a8x(l:List Int)(m:Nat)(v:Int):qR (pd l (m+1)) (aW (l.length:Int)) v=pd (l++[v]) m:=by show(l++List.replicate (m+1) 0).set l.length v=_;rw[og _ _ o5,gy,List.replicate_succ];simp[pd]
theorem Pi(l:List Int)(m:Nat)(v w:Int):qR (pd (l++[v]) m) (aW (l.length:Int)) w=pd (l++[w]) m:=by show(l++[v]++List.replicate m 0).set l.length w=_;rw[E8,og _ _ o5,gy];simp[pd]
theorem KQ(l:List Int)(m:Nat)(v:Int):J8 (pd (l++[v]) m) (l.length:Int)=some v:=by rw[I9];unfold pd;rw[E8,I5 o5,gy];rfl
theorem KR(l:List Int)(m:Nat)(v:Int):di (pd (l++[v]) m) (aW (l.length:Int))=some v:=by have:=KQ l m v;rw[I9]at this;exact this
theorem Ls(e:List (Int×Int)):tq e=some (sH e):=by
 unfold tq;by_cases h48:48<e.length
 .rw[dU (by simp[o8];omega),o7];unfold sH kE;rw[if_pos h48]
 by_cases h0:e.length=0
 .rw[bT (by simp[o8];omega),o6,aB (by simp[o8,h0]),o7];unfold sH kE;rw[if_neg h48,if_pos h0]
 rw[bT (by simp[o8];omega),o6,P6 (by simp[o8];intro h;exact h0 (by simp[h])),o6];rw[show Gs (o8 e) (0:Int)=some (pd (stR []) (e.length -gQ [])) by simp[Gs,o8,pd,stR,gQ];omega,o9];refine U9 (OE e o5 (λts=>(pd (stR ts) (e.length -gQ ts),lK ts,(gQ ts:Int))) (λts=>(pd (stR ts) (e.length -gQ ts),lK ts)) (λx=>(([]:List Int),x)) (λi n ts hn hi hl=>?_) (λts hsz=>?_)) ?_
 rotate_left 2
 .rw[←Us h0 h48 (K:=id) (r:=match rY 0 e []with| .inl x=>([],x)| .inr ts=>l7 (H9 1 (o8 (lK ts))) ([],o8 e,4) (stR ts,0,0)) (λts h=>by rw[h]) (λx h=>by rw[h])];cases hp:rY 0 e []with
  |inl x=>rfl|inr ts=>
   have:=(EM e 0 [] ts hp).1;have hz:e.length -gQ ts=0:=by have:=congrArg List.length this;rw[Ip]at this;simp[Fv]at this;omega
   simp only[o9,X8,hz,pd,List.replicate_zero,F6];cases H9 1 (o8 (lK ts))<;>rfl
 .subst hi;have hlt:=(ax.1 hn).1;have hst:=Af ts;have hof:=lH ts;obtain⟨m,hm⟩:∃m,e.length -gQ ts=m+1:=⟨e.length -gQ ts -1,o5⟩;simp only[N8 hn,o7,I9 e,hn,o9,a2m,hm];rw[←hst];simp only[a3q,a6v,o9,a8x,KQ,KR,Pi];rw[hst];rcases(DC n.1).2.2 with h|h|h|h|h
  .rw[show push n ts= .inl 2 by simp[push,h],h];rfl
  .have e0:O6 .i64 (o8 (lK ts)) 0=((lK ts).length:Int):=by rw[iL (by unfold lJ o8;omega)];simp[o8]
   rw[show push n ts= .inr (.l0 n::ts) by simp[push,h],h,bT o5,o6,bT (NU _),o6,o6,e0,show jV 0 ((lK ts).length:Int) (o8 (lK ts))=true by simp[jV,o8],o7,
    show iY (lK ts) (aW 0) (aW ((lK ts).length:Int))=lK ts by simp[iY,aW],mM _ o5,o9,bD o5]
   rw[show lK ts++[(gQ ts:Int)]=lK (.l0 n::ts)from rfl,NS];by_cases hc:12<(XT.l0 n::ts).length
   .simp only[hc,decide_true,if_true,o7]
   .simp only[hc,decide_false,if_false,o6,gQ,XT.size,stR,XT.sts,show e.length -(gQ ts+1)=m by omega]
  .match ts with
   |[]=>rw[show push n []= .inl 5 by simp[push,h],h];rfl|a::r=>
    obtain⟨p1,p2,p3,p4,p5⟩:=MO [a] r 1 rfl (by simp at hl ⊢;omega) x9;simp only[L8,F7]at p1 p2 p3 p4 p5;have:=Af (a::r);have:=lH r;simp only[D9]at hl;rw[show push n (a::r)= .inr (.l1 n a::r) by simp[push,h],h,bT o5,o6,show(1:Int)=((1:Nat):Int)from rfl,DR,show decide ((a::r).length<1)=false by simp];simp only[Int.natCast_one]at p1 ⊢;rw[o6,dU o5,o7,p1,p2,o9,p3,o9,p4,o7,p5];rw[←hst]
    try simp only[Pi,KQ,KR,o9]
    rw[hst,mM _ o5,o9,bD o5];rw[show lK r++[(gQ r:Int)]=lK (.l1 n a::r)from rfl,NS];have hz:=Ir (show push n (a::r)= .inr (.l1 n a::r) by simp[push,h]);by_cases hc:12<(XT.l1 n a::r).length
    .simp only[hc,decide_true,if_true,o7]
    .simp only[hc,decide_false,if_false,o6,hz,show e.length -(gQ (a::r)+1)=m by omega,stR,XT.sts,E8]
  .match ts with
   |[]=>rw[show push n []= .inl 5 by simp[push,h],h];rfl|[a]=>rw[show push n [a]= .inl 5 by simp[push,h],h];rfl|b::a::r=>
    obtain⟨p1,p2,p3,p4,p5⟩:=MO [b,a] r 2 rfl (by simp at hl ⊢;omega) x9;simp only[L8,F7]at p1 p2 p3 p4 p5;have:=Af (b::a::r);have:=lH r;simp only[D9]at hl;rw[show push n (b::a::r)= .inr (.l2 n a b::r) by simp[push,h],h,bT o5,o6,show(2:Int)=((2:Nat):Int)from rfl,DR,show decide ((b::a::r).length<2)=false by simp];rw[o6,dU o5,o7,show((2:Nat):Int)=2 from rfl,p1,p2,o9,p3,o9,p4,o7,p5];rw[←hst]
    try simp only[Pi,KQ,KR,o9]
    rw[hst,mM _ o5,o9,bD o5];rw[show lK r++[(gQ r:Int)]=lK (.l2 n a b::r)from rfl,NS];have hz:=Ir (show push n (b::a::r)= .inr (.l2 n a b::r) by simp[push,h]);by_cases hc:12<(XT.l2 n a b::r).length
    .simp only[hc,decide_true,if_true,o7]
    .rw[hz,show e.length -(gQ (b::a::r)+1)=m by omega,show stR (.l2 n a b::r)=stR (b::a::r)++[(gQ r:Int)] by simp only[stR,XT.sts,E8,gQ]];simp only[hc,decide_false,if_false,o6]
  .match ts with
   |[]=>rw[show push n []= .inl 5 by simp[push,h],h];rfl|[a]=>rw[show push n [a]= .inl 5 by simp[push,h],h];rfl|[b,a]=>rw[show push n [b,a]= .inl 5 by simp[push,h],h];rfl|c::b::a::r=>
    obtain⟨p1,p2,p3,p4,p5⟩:=MO [c,b,a] r 3 rfl (by simp at hl ⊢;omega) x9;simp only[L8,F7]at p1 p2 p3 p4 p5;have:=Af (c::b::a::r);have:=lH r;simp only[D9]at hl;rw[show push n (c::b::a::r)= .inr (.l3 n a b c::r) by simp[push,h],h,bT o5,o6,show(3:Int)=((3:Nat):Int)from rfl,DR,show decide ((c::b::a::r).length<3)=false by simp];rw[o6,dU o5,o7,show((3:Nat):Int)=3 from rfl,p1,p2,o9,p3,o9,p4,o7,p5];rw[←hst]
    try simp only[Pi,KQ,KR,o9]
    rw[hst,mM _ o5,o9,bD o5];rw[show lK r++[(gQ r:Int)]=lK (.l3 n a b c::r)from rfl,NS];have hz:=Ir (show push n (c::b::a::r)= .inr (.l3 n a b c::r) by simp[push,h]);by_cases hc:12<(XT.l3 n a b c::r).length
    .simp only[hc,decide_true,if_true,o7]
    .rw[hz,show e.length -(gQ (c::b::a::r)+1)=m by omega,show stR (.l3 n a b c::r)=stR (c::b::a::r)++[(gQ r:Int)] by simp only[stR,XT.sts,E8,gQ]];simp only[hc,decide_false,if_false,o6]
 .simp only[hsz,N7];rfl
end Go.GP
namespace Go.GP
open Gt
set_option maxRecDepth 100000
def VT(t:Int×Int):Prop:=t=(1,0)\/t=(2,0)\/t=(3,0)\/t=(4,0)\/t=(5,0)\/∃e,t=(6,e)
theorem Hq{t:Int×Int}{en:List Z8}(h:vty t en=true):VT t:=by
 obtain⟨k,e⟩:=t;unfold vty at h;simp only at h;cases h6:C9 k 6
 .rw[h6,o6]at h;cases h1:U1 1 k<;>rw[h1]at h
  .cases h
  cases h5:U1 k 5<;>rw[h5]at h
  .cases h
  simp only[o7,iF]at h;rw[uo]at h1 h5;subst h;have:k=1\/k=2\/k=3\/k=4\/k=5:=o5;rcases this with rfl|rfl|rfl|rfl|rfl<;>simp[VT]
 .rw[iF]at h6;subst h6;exact .inr (.inr (.inr (.inr (.inr ⟨e,rfl⟩))))
def EN(n:Int×Int)(ops:List (Int×Int))(sg:P7):Option ((Int×Int)×Int):=
 l7 (G7 (C9 n.2 0)) (l9 (bi n.1) λu=>l7 (G7 u) (some ((0,0),2)) (aJ n ops sg)) (aJ n ops sg)
def qM(n:Int×Int)(ops:List (Int×Int))(sg:P7):Prop:=∃r:(Int×Int)×Int,ut n ops sg=some r/\EN n ops sg=some r/\(r.2=0->VT r.1)
variable {k:Int}
theorem VT.lit(h:1<=k/\k<=5):VT (k,0):=by have:k=1\/k=2\/k=3\/k=4\/k=5:=o5;rcases this with rfl|rfl|rfl|rfl|rfl<;>simp[VT]
theorem Kr(a b:Int):U1 a b= !H9 b a:=by simp only[H9,U1];rw[←decide_not];congr 1;simp
theorem CP{α β:Type}(o:Option β)(f:α->Option β):l9 (l9 o λx=>some (Sum.inr x)) (λq=>ah q f λr=>some r)=o:=by cases o<;>rfl
theorem VT.enum(e:Int):VT (6,e):=.inr (.inr (.inr (.inr (.inr ⟨e,rfl⟩))))
theorem pF{R E:Option ((Int×Int)×Int)}{c:Int}(hc:c≠0)(h1:R=some ((0,0),c))(h2:E=some ((0,0),c)):∃r:(Int×Int)×Int,R=some r/\E=some r/\(r.2=0->VT r.1):=⟨_,h1,h2,λh=>absurd h hc⟩
theorem nok{R E:Option ((Int×Int)×Int)}{t:Int×Int}(hv:VT t)(h1:R=some (t,0))(h2:E=some (t,0)):∃r:(Int×Int)×Int,R=some r/\E=some r/\(r.2=0->VT r.1):=⟨_,h1,h2,λ_=>hv⟩
def RR(a0:Int×Int)(a1:List (Int×Int))(a2:P7):Option ((Int×Int)×Int):=
 l9 (qW a0 a2) λ(x:Bool)=>l7 (G7 x) (some ((0,0),3)) (l9 (tY a0 a2) λ(x:Bool)=>l7 (G7 x) (some ((0,0),6))
  (l7 (C9 (o8 a1) 0) (l9 (kU a0 a2) λ(x:J4×Bool)=>l7 (G7 x.2) (some ((0,0),8)) (some (x.1,0)))
  (l7 (C9 (o8 a1) 1) (l9 (J8 a1 0) λ(x:J4)=>l9 (qX a0 x a2) λ(x:J4×Bool)=>l7 (G7 x.2) (some ((0,0),8)) (some (x.1,0)))
  (l7 (C9 (o8 a1) 2) (l9 (J8 a1 0) λ(x:J4)=>l9 (J8 a1 1) λ(x_1:J4)=>l9 (uu a0.1 x x_1) λ(x:J4×Bool)=>l7 (G7 x.2) (some ((0,0),8)) (some (x.1,0)))
  (l9 (J8 a1 1) λ(x:J4)=>l9 (J8 a1 0) λ(x_1:J4)=>l7 (C9 x_1.1 1) (l9 (J8 a1 1) λ(x_2:J4)=>l9 (J8 a1 2) λ(x_3:J4)=>
   l7 (G7 (jE (C9 x_2.1 x_3.1) (C9 x_2.2 x_3.2))) (some ((0,0),8)) (some (x,0))) (l7 (G7 false) (some ((0,0),8)) (some (x,0))))))))
theorem b1s(n:Int×Int)(ops:List (Int×Int))(sg:P7):ut n ops sg=l7 (G7 (C9 n.2 0)) (l9 (iw n.1) λx=>l7 x (RR n ops sg) (some ((0,0),2))) (RR n ops sg):=by
 unfold ut;cases C9 n.2 0
 .simp only[Y7,o7];cases iw n.1 with
  |none=>rfl|some b=>cases b<;>rfl
 .rfl
theorem Gx{op N:Int}{ops:List (Int×Int)}{sg:P7}(h1:bi op=some true)(h2:iw op=some true)
  (h:∃r:(Int×Int)×Int,RR (op,N) ops sg=some r/\aJ (op,N) ops sg=some r/\(r.2=0->VT r.1)):qM (op,N) ops sg:=by
 unfold qM;rw[b1s];unfold EN;dsimp only;rw[h1,h2];cases C9 N 0<;>exact h
theorem MJ{op N:Int}{ops:List (Int×Int)}{sg:P7}(h1:bi op=some false)(h2:iw op=some false)
  (h:∃r:(Int×Int)×Int,RR (op,0) ops sg=some r/\aJ (op,0) ops sg=some r/\(r.2=0->VT r.1)):qM (op,N) ops sg:=by
 unfold qM;rw[b1s];unfold EN;dsimp only;rw[h1,h2];cases hz:C9 N 0
 .exact pF (c:=2) J3 rfl rfl
 .rw[iF]at hz;subst hz;exact h
section
variable (N:Int) (sg:P7)
theorem a3c(hk:k=1\/k=2\/k=3\/k=4\/k=5):qM (k,N) [] sg:=by
 have hv:vty (k,0) sg.1=true:=by rcases hk with rfl|rfl|rfl|rfl|rfl<;>rfl
 have hm:bi k=some true/\iw k=some true:=by rcases hk with rfl|rfl|rfl|rfl|rfl<;>exact⟨rfl,rfl⟩
 refine Gx hm.1 hm.2 ?_;have key:aJ (k,N) [] sg=jw N k sg:=by rcases hk with rfl|rfl|rfl|rfl|rfl<;>exact CP _ _
 have key2:RR (k,N) [] sg=l9 (l9 (dH (k,0) sg.1) λ(x:J4)=>l7 (U1 x.1 N) (some (U1 N x.2)) (some false)) λ(x:Bool)=>l7 (G7 x) (some ((0,0),3)) (some ((k,0),0)):=by rcases hk with rfl|rfl|rfl|rfl|rfl<;>rfl
 rw[key,key2];unfold jw;rw[LJ,EP,o9,o9,zW,zW];cases U1 (bnd (k,0) sg.1).1 N
 .exact pF (c:=3) J3 rfl rfl
 cases U1 N (bnd (k,0) sg.1).2
 .exact pF (c:=3) J3 rfl rfl
 .exact nok (Hq hv) rfl rfl
theorem a1u(hN:lJ N):qM (6,N) [] sg:=by
 have hq:0<=N->fF .i64 N 16=N / 16:=λh=>by rw[Ku (by rw[mW h];unfold lJ at*;omega),mW h]
 refine Gx rfl rfl ?_;have hf:tY (6,N) sg=l7 (H9 (fF .i64 N 16) (o8 sg.1)) (l9 (J8 sg.1 (fF .i64 N 16)) λ(x:Z8)=>some (H9 (kw N 16) (o8 x.2))) (some false):=rfl;have hl:kU (6,N) sg=some ((6,fF .i64 N 16),vty (6,fF .i64 N 16) sg.1):=by unfold kU;simp only[iC];rfl
 rw[show aJ (6,N) [] sg=yY N sg from CP _ _];unfold RR yY;rw[hf,show qW (6,N) sg=some (U1 0 N)from rfl,hl];by_cases h0:0<=N
 .rw[bT h0,aZ h0,hq h0];by_cases h1:N / 16<o8 sg.1
  .obtain⟨x,hx,_⟩:=qQ (show 0<=N / 16 by omega) h1;rw[dU h1,dw h1,hx,show vty (6,N / 16) sg.1=true by unfold vty;simp only[aZ (show 0<=N / 16 by omega),dU h1];rfl];simp only[o9,zW];cases U1 (o8 x.2) (kw N 16)
   .exact nok (VT.enum (N / 16)) rfl rfl
   .exact pF (c:=6) J3 rfl rfl
  .have h1' :o8 sg.1<=N / 16:=o5;rw[bT h1',aZ h1'];exact pF (c:=6) J3 rfl rfl
 .rw[dU (show N<0 by omega),dw (show N<0 by omega)];exact pF (c:=3) J3 rfl rfl
theorem xE(ts:List (Int×Int))(en:P7):(∃x,J8 ts N=some x/\U1 0 N=true/\H9 N (o8 ts)=true/\jh N ts en=some (l7 (vty x en.1) (x,0) ((0,0),8)))\/((U1 0 N=false\/U1 0 N=true/\H9 N (o8 ts)=false)/\jh N ts en=some ((0,0),6)):=by
 unfold jh;rw[zW N 0,Kr (o8 ts) N];cases h0:U1 0 N
 .exact .inr ⟨.inl x9,rfl⟩
 cases h1:H9 N (o8 ts)
 .exact .inr ⟨.inr x9,rfl⟩
 rw[uo]at h0;rw[yZ]at h1;obtain⟨x,hx,_⟩:=qQ h0 h1;rw[hx];simp only[jl,Bool.not_false,o6,o7,o9,uJ];exact .inl ⟨x,rfl,x9,x9,by cases vty x en.1<;>rfl⟩
theorem a6h:qM (7,N) [] sg:=by
 refine Gx rfl rfl ?_;rw[show aJ (7,N) [] sg=jh N sg.2.2.1 sg from CP _ _];have hf:tY (7,N) sg=l7 (U1 0 N) (some (H9 N (o8 sg.2.2.1))) (some false):=rfl;unfold RR;rw[hf,show qW (7,N) sg=some true from rfl];rcases xE N sg.2.2.1 sg with⟨x,h1,h2,h3,h4⟩|⟨h1|⟨h1,h2⟩,h4⟩
 .have hl:kU (7,N) sg=some (x,vty x sg.1):=by
   unfold kU;dsimp only;rw[h1];simp only[iC];rfl
  rw[h2,h3,h4,hl];cases hv:vty x sg.1
  .exact pF (c:=8) J3 rfl rfl
  .exact nok (Hq hv) rfl rfl
 .rw[h1,h4];exact pF (c:=6) J3 rfl rfl
 .rw[h1,h2,h4];exact pF (c:=6) J3 rfl rfl
theorem a3b:qM (8,N) [] sg:=by
 refine Gx rfl rfl ?_;rw[show aJ (8,N) [] sg=jh N sg.2.2.2.1 sg from CP _ _];have hf:tY (8,N) sg=l7 (U1 0 N) (some (H9 N (o8 sg.2.2.2.1))) (some false):=rfl;unfold RR;rw[hf,show qW (8,N) sg=some true from rfl];rcases xE N sg.2.2.2.1 sg with⟨x,h1,h2,h3,h4⟩|⟨h1|⟨h1,h2⟩,h4⟩
 .have hl:kU (8,N) sg=some (x,vty x sg.1):=by
   unfold kU;dsimp only;rw[h1];simp only[iC];rfl
  rw[h2,h3,h4,hl];cases hv:vty x sg.1
  .exact pF (c:=8) J3 rfl rfl
  .exact nok (Hq hv) rfl rfl
 .rw[h1,h4];exact pF (c:=6) J3 rfl rfl
 .rw[h1,h2,h4];exact pF (c:=6) J3 rfl rfl
theorem a1t:qM (9,N) [] sg:=MJ rfl rfl (nok (VT.lit (k:=5) o5) rfl rfl)
theorem Zj:qM (35,N) [] sg:=by
 refine MJ rfl rfl ?_;rw[show aJ (35,0) [] sg=oN (35,0) sg from CP _ _];unfold RR oN;simp only[qW,tY,kU,iC,o9];cases sg.2.2.2.2.2
 .exact pF (c:=6) J3 rfl rfl
 .exact nok (VT.lit (k:=2) o5) rfl rfl
theorem a3d(hk:k=36\/k=37\/k=38\/k=39):qM (k,N) [] sg:=by
 have hm:bi k=some true/\iw k=some true/\C9 k 35=false:=by rcases hk with rfl|rfl|rfl|rfl<;>exact⟨rfl,rfl,rfl⟩
 refine Gx hm.1 hm.2.1 ?_;rw[show aJ (k,N) [] sg=oN (k,N) sg by rcases hk with rfl|rfl|rfl|rfl<;>exact CP _ _];have hr:RR (k,N) [] sg=l9 (l7 sg.2.2.2.2.2 (l7 (U1 0 N) (some (H9 N (o8 sg.2.2.2.2.1))) (some false)) (some false)) λ(x:Bool)=>l7 (G7 x) (some ((0,0),6))
   (l9 (kU (k,N) sg) λ(x:J4×Bool)=>l7 (G7 x.2) (some ((0,0),8)) (some (x.1,0))):=by rcases hk with rfl|rfl|rfl|rfl<;>rfl
 rw[hr];unfold oN;rw[hm.2.2,o6];cases sg.2.2.2.2.2
 .exact pF (c:=6) J3 rfl rfl
 simp only[o7,J5,o6];rcases xE N sg.2.2.2.2.1 sg with⟨x,h1,h2,h3,h4⟩|⟨h1|⟨h1,h2⟩,h4⟩
 .rw[h2,h3,h4];have hl:kU (k,N) sg=l9 (some (l7 (C9 k 36) (l7 (vty x sg.1) (l7 (C9 x.1 2) true (C9 x.1 3)) false) (l7 (C9 k 39) (l7 (vty x sg.1) (l7 (C9 x.1 2) true (l7 (C9 x.1 3) true (l7 (C9 x.1 4) true (C9 x.1 5)))) false) (l7 (vty x sg.1) (C9 x.1 1) false)))) λb=>some (x,b):=by
   unfold kU;simp only[iC,pU,uw];rcases hk with rfl|rfl|rfl|rfl<;>(rw[h1];simp only[C9,Int.reduceEq,decide_true,decide_false,o7,o6,o9];cases vty x sg.1<;>cases decide (x.1=2)<;>cases decide (x.1=3)<;>cases decide (x.1=4)<;>rfl)
  rw[hl];simp only[o9,kY];cases hv:vty x sg.1
  .rcases hk with rfl|rfl|rfl|rfl<;>exact pF (c:=8) J3 rfl rfl
  .have hx:=Hq hv;rcases hk with rfl|rfl|rfl|rfl<;>rcases hx with rfl|rfl|rfl|rfl|rfl|⟨e,rfl⟩ <;>
    first
    |exact nok (Hq hv) rfl rfl
    |exact pF (c:=8) J3 rfl rfl
 .rw[h1,h4];exact pF (c:=6) J3 rfl rfl
 .rw[h1,h2,h4];exact pF (c:=6) J3 rfl rfl
end
end Go.GP
namespace Go.GP
open Gt
set_option maxRecDepth 100000
variable {a:Int×Int}{k:Int}{b:Int×Int}
section
variable (N:Int) (sg:P7)
theorem a6i(hk:k=10\/k=25\/k=31\/k=32)(ha:VT a):qM (k,N) [a] sg:=by
 have hm:bi k=some false/\iw k=some false:=by rcases hk with rfl|rfl|rfl|rfl<;>exact⟨rfl,rfl⟩
 refine MJ hm.1 hm.2 ?_;rcases hk with rfl|rfl|rfl|rfl<;>rcases ha with rfl|rfl|rfl|rfl|rfl|⟨e,rfl⟩ <;>
  first
  |exact nok (VT.lit (k:=1) o5) rfl rfl
  |exact nok (VT.lit (k:=2) o5) rfl rfl
  |exact nok (VT.lit (k:=3) o5) rfl rfl
  |exact nok (VT.lit (k:=4) o5) rfl rfl
  |exact pF (c:=8) J3 rfl rfl
theorem a3a(hk:k=13\/k=23\/k=24\/k=27\/k=28\/k=29\/k=30)(ha:VT a)(hb:VT b):qM (k,N) [a,b] sg:=by
 have hm:bi k=some false/\iw k=some false:=by rcases hk with rfl|rfl|rfl|rfl|rfl|rfl|rfl<;>exact⟨rfl,rfl⟩
 refine MJ hm.1 hm.2 ?_;rcases hk with rfl|rfl|rfl|rfl|rfl|rfl|rfl<;>rcases ha with rfl|rfl|rfl|rfl|rfl|⟨e,rfl⟩<;>rcases hb with rfl|rfl|rfl|rfl|rfl|⟨f,rfl⟩ <;>
  first
  |exact pF (c:=8) J3 rfl rfl
  |exact nok (VT.lit (k:=1) o5) rfl rfl
  |exact nok (VT.lit (k:=2) o5) rfl rfl
  |exact nok (VT.lit (k:=3) o5) rfl rfl
  |exact nok (VT.lit (k:=4) o5) rfl rfl
  |exact nok (VT.lit (k:=5) o5) rfl rfl
theorem a1v(hk:k=14\/k=15\/k=16)(ha:VT a)(hb:VT b):qM (k,N) [a,b] sg:=by
 have hm:bi k=some true/\iw k=some true:=by rcases hk with rfl|rfl|rfl<;>exact⟨rfl,rfl⟩
 refine Gx hm.1 hm.2 ?_;have hr:RR (k,N) [a,b] sg=l9 (l7 (U1 0 N) (some (U1 N 5)) (some false)) λx=>l7 (G7 x) (some ((0,0),3)) (l9 (uu k a b) λx=>l7 (G7 x.2) (some ((0,0),8)) (some (x.1,0))):=by rcases hk with rfl|rfl|rfl<;>rfl
 have he:aJ (k,N) [a,b] sg=l9 (l7 (U1 0 N) (some (U1 N 5)) (some false)) λx=>l7 (G7 x) (some ((0,0),3)) (l9 (lY k [a,b]) λx=>l7 (G7 x.2) (some ((0,0),8)) (some (x.1,0))):=by
  rcases hk with rfl|rfl|rfl <;>
   (show l9 (l9 (lm N) λx=>l7 (G7 x) (some (Sum.inr (((0:Int),(0:Int)),(3:Int)))) (some (.inl ((0:Int),(0:Int))))) _=_
    unfold lm;cases U1 0 N<;>cases U1 N 5<;>rfl)
 rw[hr,he];cases U1 0 N
 .exact pF (c:=3) J3 rfl rfl
 cases U1 N 5
 .exact pF (c:=3) J3 rfl rfl
 rcases hk with rfl|rfl|rfl<;>rcases ha with rfl|rfl|rfl|rfl|rfl|⟨e,rfl⟩<;>rcases hb with rfl|rfl|rfl|rfl|rfl|⟨f,rfl⟩ <;>
  first
  |exact pF (c:=8) J3 rfl rfl
  |exact nok (VT.lit (k:=2) o5) rfl rfl
  |exact nok (VT.lit (k:=3) o5) rfl rfl
  |exact nok (VT.lit (k:=4) o5) rfl rfl
theorem a1w(hk:k=11\/k=12\/k=17\/k=18\/k=19\/k=20\/k=21\/k=22)(ha:VT a):qM (k,N) [a,b] sg:=by
 have hm:bi k=some false/\iw k=some false:=by rcases hk with rfl|rfl|rfl|rfl|rfl|rfl|rfl|rfl<;>exact⟨rfl,rfl⟩
 refine MJ hm.1 hm.2 ?_;have hr:RR (k,0) [a,b] sg=l9 (uu k a b) λx=>l7 (G7 x.2) (some ((0,0),8)) (some (x.1,0)):=by rcases hk with rfl|rfl|rfl|rfl|rfl|rfl|rfl|rfl<;>rfl
 have he:aJ (k,0) [a,b] sg=l9 (lY k [a,b]) λx=>l7 (G7 x.2) (some ((0,0),8)) (some (x.1,0)):=by rcases hk with rfl|rfl|rfl|rfl|rfl|rfl|rfl|rfl<;>rfl
 rw[hr,he];unfold uu lY;simp only[show J8 [a,b] 0=some a from rfl,show J8 [a,b] 1=some b from rfl,o9,uw,pU,gZ,kY];cases h1:C9 a.1 b.1
 .rcases hk with rfl|rfl|rfl|rfl|rfl|rfl|rfl|rfl<;>exact pF (c:=8) J3 rfl rfl
 cases h2:C9 a.2 b.2
 .rcases hk with rfl|rfl|rfl|rfl|rfl|rfl|rfl|rfl<;>exact pF (c:=8) J3 rfl rfl
 have ha' :=ha;rcases hk with rfl|rfl|rfl|rfl|rfl|rfl|rfl|rfl<;>rcases ha with rfl|rfl|rfl|rfl|rfl|⟨e,rfl⟩ <;>
  first
  |exact nok ha' rfl rfl
  |exact nok (VT.lit (k:=1) o5) rfl rfl
  |exact pF (c:=8) J3 rfl rfl
theorem a6g{a b c:Int×Int}(ha:VT a)(hb:VT b):qM (26,N) [a,b,c] sg:=by
 refine MJ rfl rfl ?_;have hr:RR (26,0) [a,b,c] sg=l7 (C9 a.1 1) (l7 (G7 (jE (C9 b.1 c.1) (C9 b.2 c.2))) (some ((0,0),8)) (some (b,0))) (some ((0,0),8)):=rfl;have he:aJ (26,0) [a,b,c] sg=l9 (lY 26 [a,b,c]) λx=>l7 (G7 x.2) (some ((0,0),8)) (some (x.1,0)):=rfl;have he2:lY 26 [a,b,c]=l9 (l7 (C9 a.1 1) (some (Sum.inr (b,jE (C9 b.1 c.1) (C9 b.2 c.2)))) (some (Sum.inr (b,false)))) λ(o:J4⊕J4×Bool)=>ah o (λ(x:J4)=>some ((0,0),false)) λ(r:J4×Bool)=>some r:=rfl;rw[hr,he,he2];cases C9 a.1 1
 .exact pF (c:=8) J3 rfl rfl
 cases C9 b.1 c.1
 .exact pF (c:=8) J3 rfl rfl
 cases C9 b.2 c.2
 .exact pF (c:=8) J3 rfl rfl
 .exact nok hb rfl rfl
theorem Xn(ha:VT a):qM (33,N) [a] sg:=by
 refine Gx rfl rfl ?_;have he:aJ (33,N) [a] sg=qh (33,N) a sg:=CP _ _;have hr:RR (33,N) [a] sg=l9 (l7 (U1 0 N) (some (H9 N (o8 sg.2.1))) (some false)) λx=>l7 (G7 x) (some ((0,0),6)) (l9 (qX (33,N) a sg) λx=>l7 (G7 x.2) (some ((0,0),8)) (some (x.1,0))):=rfl;have hs:qX (33,N) a sg=l9 (J8 sg.2.1 N) λ(x:bW)=>l9 (X3 x.2.1 sg.1) λ(x_1:Bool)=>l7 x_1 (l9 (X3 x.2.2.1 sg.1) λ(x_2:Bool)=>l7 x_2 (some (x.2.2.1,jE (C9 a.1 x.2.1.1) (C9 a.2 x.2.1.2))) (some (x.2.2.1,false))) (some (x.2.2.1,false)):=rfl;rw[he,hr,hs];unfold qh;simp only[C9,Int.reduceEq,decide_false,o6,o9,X8,zW N 0,Kr (o8 sg.2.1) N];cases h0:U1 0 N
 .exact pF (c:=6) J3 rfl rfl
 cases h1:H9 N (o8 sg.2.1)
 .exact pF (c:=6) J3 rfl rfl
 rw[uo]at h0;rw[yZ]at h1;obtain⟨x,hx,_⟩:=qQ h0 h1;simp only[o9,X8,jl,o6,hx,uJ,iC,Y7,o7];cases vty x.2.1 sg.1
 .exact pF (c:=8) J3 rfl rfl
 cases hv:vty x.2.2.1 sg.1
 .exact pF (c:=8) J3 rfl rfl
 simp only[J5,o6,o7,o9];cases jE (decide (a.1=x.2.1.1)) (decide (a.2=x.2.1.2))
 .exact pF (c:=8) J3 rfl rfl
 .exact nok (Hq hv) rfl rfl
theorem Tu(hN:lJ N)(ha:VT a):qM (34,N) [a] sg:=by
 refine Gx rfl rfl ?_;have he:aJ (34,N) [a] sg=qh (34,N) a sg:=CP _ _;have hr:RR (34,N) [a] sg=l9 (l7 (U1 0 N) (some (U1 (kw N 8) 5)) (some false)) λx=>l7 (G7 x) (some ((0,0),3)) (l7 (G7 (H9 (fF .i64 N 8) (o8 sg.2.1))) (some ((0,0),6)) (l9 (qX (34,N) a sg) λx=>l7 (G7 x.2) (some ((0,0),8)) (some (x.1,0)))):=rfl;have hs:qX (34,N) a sg=l9 (J8 sg.2.1 (fF .i64 N 8)) λ(x:bW)=>l7 (C9 a.1 3) (l7 (jE (C9 x.2.1.1 3) (C9 x.2.1.2 0)) (some (a,jE (C9 x.2.2.1.1 4) (C9 x.2.2.1.2 0))) (some (a,false))) (some (a,false)):=rfl;rw[he,hr,hs];unfold qh lm;by_cases h0:0<=N
 case neg=>rw[dw (show N<0 by omega),dU (show N<0 by omega)];exact pF (c:=3) J3 rfl rfl
 have hq:fF .i64 N 8=N / 8:=by rw[Ku (by rw[mW h0];unfold lJ at*;omega),mW h0]
 rw[aZ h0,bT h0,hq,Ba h0];simp only[C9,Int.reduceEq,decide_true,o7,o6,aZ (show 0<=N % 8 by omega),o9];cases U1 (N % 8) 5
 .exact pF (c:=3) J3 rfl rfl
 simp only[J5,o6,o9,X8,bT (show 0<=N / 8 by omega),Kr];cases h1:H9 (N / 8) (o8 sg.2.1)
 .exact pF (c:=6) J3 rfl rfl
 rw[yZ]at h1;obtain⟨x,hx,_⟩:=qQ (show 0<=N / 8 by omega) h1;simp only[hx,jl,o6,o9,X8,uJ,J5];obtain⟨nm,⟨k1,k2⟩,⟨v1,v2⟩,rows⟩:=x;dsimp only;by_cases hK:k1=3/\k2=0
 .obtain⟨rfl,rfl⟩:=hK;by_cases hV:v1=4/\v2=0
  .obtain⟨rfl,rfl⟩:=hV;rcases ha with rfl|rfl|rfl|rfl|rfl|⟨e,rfl⟩ <;>
    first
    |exact nok (VT.lit (k:=3) o5) rfl rfl
    |exact pF (c:=8) J3 rfl rfl
  .have hE:vty (v1,v2) sg.1=true->v1≠4:=λhv h=>by
    subst h;rcases Hq hv with h|h|h|h|h|⟨e,h⟩<;>cases h;exact hV ⟨rfl,rfl⟩
   have hR:jE (decide (v1=4)) (decide (v2=0))=false:=by
    by_cases h1:v1=4
    .have:v2≠0:=λh2=>hV ⟨h1,h2⟩;simp[jE,h1,this]
    .simp[jE,h1]
   rw[hR];cases hv:vty (v1,v2) sg.1
   .rcases ha with rfl|rfl|rfl|rfl|rfl|⟨e,rfl⟩<;>exact pF (c:=8) J3 rfl rfl
   .have h4:=hE hv;rw[show decide (v1=4)=false by simp[h4]];rcases ha with rfl|rfl|rfl|rfl|rfl|⟨e,rfl⟩<;>exact pF (c:=8) J3 rfl rfl
 .have hR:jE (decide (k1=3)) (decide (k2=0))=false:=by
   by_cases h1:k1=3
   .have:k2≠0:=λh2=>hK ⟨h1,h2⟩;simp[jE,h1,this]
   .simp[jE,h1]
  rw[hR];cases hv:vty (k1,k2) sg.1
  .rcases ha with rfl|rfl|rfl|rfl|rfl|⟨e,rfl⟩<;>exact pF (c:=8) J3 rfl rfl
  cases hw:vty (v1,v2) sg.1
  .rcases ha with rfl|rfl|rfl|rfl|rfl|⟨e,rfl⟩<;>exact pF (c:=8) J3 rfl rfl
  have h3:k1≠3:=λh=>by subst h;rcases Hq hv with h|h|h|h|h|⟨e,h⟩<;>cases h;exact hK ⟨rfl,rfl⟩
  simp only[show decide (k1=3)=false by simp[h3],J5,o6,o7,o9];cases jE (decide (a.1=k1)) (decide (a.2=k2))
  .cases decide (a.1=3)<;>exact pF (c:=8) J3 rfl rfl
  .cases decide (a.1=3)<;>exact pF (c:=8) J3 rfl rfl
theorem Vr(n:Int×Int)(hN:lJ n.2)(ops:List (Int×Int))(hv:∀t∈ops,VT t)(hl:o8 ops=arF n.1):qM n ops sg:=by
 obtain⟨op,N⟩:=n;dsimp only at hN hl;have hr:1<=op/\op<=39:=by
  by_cases h:1<=op/\op<=39
  .exact h
  .have:arF op=-1:=by unfold arF;rw[VB h];rfl
   rw[this]at hl;simp[o8]at hl
 have hc:op=1\/op=2\/op=3\/op=4\/op=5\/op=6\/op=7\/op=8\/op=9\/op=10\/op=11\/op=12\/op=13\/op=14\/op=15\/op=16\/op=17\/op=18\/op=19\/op=20\/op=21\/op=22\/op=23\/op=24\/op=25\/op=26\/op=27\/op=28\/op=29\/op=30\/op=31\/op=32\/op=33\/op=34\/op=35\/op=36\/op=37\/op=38\/op=39:=o5;have L0:arF op=0->ops=[]:=λh=>by rw[h]at hl;simp only[o8]at hl;exact ai.1 o5
 have L1:arF op=1->∃a,ops=[a]/\VT a:=λh=>by
  rw[h]at hl;simp only[o8]at hl;match ops,hl,hv with
  |[a],_,hv=>exact⟨a,rfl,hv a x9⟩|[],hl,_=>simp at hl|a::b::r,hl,_=>simp at hl;omega
 have L2:arF op=2->∃a b,ops=[a,b]/\VT a/\VT b:=λh=>by
  rw[h]at hl;simp only[o8]at hl;match ops,hl,hv with
  |[a,b],_,hv=>exact⟨a,b,rfl,hv a x9,hv b x9⟩|[],hl,_=>simp at hl|[a],hl,_=>simp at hl|a::b::c::r,hl,_=>simp at hl;omega
 have L3:arF op=3->∃a b c,ops=[a,b,c]/\VT a/\VT b:=λh=>by
  rw[h]at hl;simp only[o8]at hl;match ops,hl,hv with
  |[a,b,c],_,hv=>exact⟨a,b,c,rfl,hv a x9,hv b x9⟩|[],hl,_=>simp at hl|[a],hl,_=>simp at hl|[a,b],hl,_=>simp at hl|a::b::c::d::r,hl,_=>simp at hl;omega
 rcases hc with rfl|rfl|rfl|rfl|rfl|rfl|rfl|rfl|rfl|rfl|rfl|rfl|rfl|rfl|rfl|rfl|rfl|rfl|rfl|rfl|rfl|rfl|rfl|rfl|rfl|rfl|rfl|rfl|rfl|rfl|rfl|rfl|rfl|rfl|rfl|rfl|rfl|rfl|rfl <;>
  first
  |(rw[L0 rfl];first|exact a3c N sg o5|exact a1u N sg hN|exact a6h N sg|exact a3b N sg|exact a1t N sg|exact Zj N sg|exact a3d N sg o5)
  |(obtain⟨a,rfl,ha⟩:=L1 rfl;first|exact a6i N sg o5 ha|exact Xn N sg ha|exact Tu N sg hN ha)
  |(obtain⟨a,b,rfl,ha,hb⟩:=L2 rfl;first|exact a3a N sg o5 ha hb|exact a1v N sg o5 ha hb|exact a1w N sg o5 ha)
  |(obtain⟨a,b,c,rfl,ha,hb⟩:=L3 rfl;exact a6g N sg ha hb)
end
end Go.GP
namespace Go.GP
open Gt
set_option maxRecDepth 100000
def XT.wf:XT->Prop
 | .l0 n=>arF n.1=0| .l1 n a=>arF n.1=1/\a.wf| .l2 n a b=>arF n.1=2/\a.wf/\b.wf| .l3 n a b c=>arF n.1=3/\a.wf/\b.wf/\c.wf
theorem a6y{n:Int×Int}{ts ts' :List XT}(h:push n ts= .inr ts')(hw:∀t∈ts,t.wf):∀t∈ts',t.wf:=by
 unfold push at h;split at h
 .cases h;intro t ht;rcases A8.1 ht with rfl|ht
  .assumption
  .exact hw t ht
 split at h
 .split at h
  .cases h;intro t ht;rcases A8.1 ht with rfl|ht
   .exact⟨by assumption,hw _ x9⟩
   .exact hw t (by simp[ht])
  .cases h
 split at h
 .split at h
  .cases h;intro t ht;rcases A8.1 ht with rfl|ht
   .exact⟨by assumption,hw _ x9,hw _ x9⟩
   .exact hw t (by simp[ht])
  .cases h
 split at h
 .split at h
  .cases h;intro t ht;rcases A8.1 ht with rfl|ht
   .exact⟨by assumption,hw _ x9,hw _ x9,hw _ x9⟩
   .exact hw t (by simp[ht])
  .cases h
 .cases h
theorem Xv:∀(es:List (Int×Int)) (i:Nat) (ts ts' :List XT),rY i es ts= .inr ts' ->(∀t∈ts,t.wf)->∀t∈ts',t.wf
 |[],i,ts,ts',h,hw=>by cases h;exact hw|n::es,i,ts,ts',h,hw=>by
  unfold rY at h;cases hp:push n ts with
  |inl c=>rw[hp]at h;cases h|inr t2=>
   rw[hp]at h;simp only at h;split at h
   .cases h
   .exact Xv es (i+1) t2 ts' h (a6y hp hw)
variable {e:List (Int×Int)}
theorem Nq{t:XT}(h:kE e= .inr t):t.wf:=by
 unfold kE at h;split at h
 .cases h
 split at h
 .cases h
 split at h
 .cases h
 .rename_i t' hp;cases h;exact Xv e 0 [] [t] hp x9 t x9
 .cases h
def VL(n:Int×Int)(ops:List (Int×Int))(sg:P7):(Int×Int)×Int:=(ut n ops sg).getD ((0,0),0)
def Gw(sg:P7)(n:Int×Int)(ops:List (Int×Int))(i:Nat):(Int×Int)⊕(Int×Int):=if(VL n ops sg).2=0 then .inr (VL n ops sg).1 else .inl ((i:Int),(VL n ops sg).2)
def yf(sg:P7):XT->Nat->(Int×Int)⊕(Int×Int)
 | .l0 n,o=>Gw sg n [] o
 | .l1 n a,o=>match yf sg a o with
  | .inl x=> .inl x| .inr ta=>Gw sg n [ta] (o+a.size)
 | .l2 n a b,o=>match yf sg a o with
  | .inl x=> .inl x
  | .inr ta=>match yf sg b (o+a.size)with
   | .inl x=> .inl x| .inr tb=>Gw sg n [ta,tb] (o+a.size+b.size)
 | .l3 n a b c,o=>match yf sg a o with
  | .inl x=> .inl x
  | .inr ta=>match yf sg b (o+a.size)with
   | .inl x=> .inl x
   | .inr tb=>match yf sg c (o+a.size+b.size)with
    | .inl x=> .inl x| .inr tc=>Gw sg n [ta,tb,tc] (o+a.size+b.size+c.size)
variable {i:Nat}
theorem KG{sg:P7}{n:Int×Int}{ops:List (Int×Int)}{t:Int×Int}(hN:lJ n.2)(hv:∀t∈ops,VT t)(hl:o8 ops=arF n.1)(h:Gw sg n ops i= .inr t):VT t:=by
 obtain⟨r,h1,h2,h3⟩:=Vr sg n hN ops hv hl;unfold Gw at h;split at h
 .rename_i h0;cases h;have e:VL n ops sg=r:=by unfold VL;rw[h1];rfl
  rw[e]at h0 ⊢;exact h3 h0
 .cases h
section
variable (e:List (Int×Int)) (sg:P7) (z:Int×Int)
def a7r(f:(Int×Int)×List (Int×Int)×Int->Option (Out ((Int×Int)×List (Int×Int)×Int) ((Int×Int)×List (Int×Int)) ((Int×Int)×Int×Int))):Prop:=
 ∀(i:Nat) (n:Int×Int) (s ops:List (Int×Int)),e[i]? =some n->i<=100->o8 ops=arF n.1->(∀t∈ops,VT t)->s.length+ops.length<=100->
  f (z,s++ops,(i:Int))=some (match Gw sg n ops i with| .inl x=> .rt ((0,0),x)| .inr t=> .nx (z,s++[t],((i+1:Nat):Int)))
theorem a1Y{f:(Int×Int)×List (Int×Int)×Int->Option (Out ((Int×Int)×List (Int×Int)×Int) ((Int×Int)×List (Int×Int)) ((Int×Int)×Int×Int))}
  (he:e.length<=48) (hI:∀n∈e,lJ n.2) (hs:a7r e sg z f):∀(t:XT),t.wf->∀(pre suf s:List (Int×Int)) (k:Nat),e=pre++t.post++suf->s.length<=pre.length->
  jO f (k+t.size) (z,s,(pre.length:Int))=(match yf sg t pre.length with| .inl x=>some (.inr ((0,0),x))| .inr r=>jO f k (z,s++[r],((pre.length+t.size:Nat):Int)))/\∀r,yf sg t pre.length= .inr r->VT r:=by
 intro t;have step:∀(i k:Nat) (n:Int×Int) (s ops:List (Int×Int)),e[i]? =some n->o8 ops=arF n.1->(∀t∈ops,VT t)->s.length+ops.length<=100->
   jO f (k+1) (z,s++ops,(i:Int))=(match Gw sg n ops i with| .inl x=>some (.inr ((0,0),x))| .inr r=>jO f k (z,s++[r],((i+1:Nat):Int))):=by
  intro i k n s ops h1 h2 h3 h4;rw[jO,hs i n s ops h1 (by have:=(ax.1 h1).1;omega) h2 h3 h4];cases Gw sg n ops i<;>rfl
 have getn:∀(pre suf:List (Int×Int)) (n:Int×Int),e=pre++[n]++suf->e[pre.length]? =some n:=by intro pre suf n h;rw[h,E8,I5 o5,gy];rfl
 have mem:∀(i:Nat) (n:Int×Int),e[i]? =some n->lJ n.2:=λi n h=>hI n (mJ h);induction t with
 |l0 n=>
  intro hw pre suf s k hd hl;have hn:=getn pre suf n hd;have hlen:pre.length<e.length:=(ax.1 hn).1;have hz:o8 ([]:List (Int×Int))=arF n.1:=by rw[show arF n.1=0 from hw];rfl
  have h:=step pre.length k n s [] hn hz x9 G6;rw[F6]at h;exact⟨h,λr hr=>KG (mem _ n hn) x9 hz hr⟩
 |l1 n a iha=>
  intro hw pre suf s k hd hl;simp only[XT.post,E8]at hd;have hpa:(pre++a.post).length=pre.length+a.size:=by simp[XT.post_len]
  have hn:=getn (pre++a.post) suf n (by simpa using hd);rw[hpa]at hn;have hlen:=(ax.1 hn).1;obtain⟨i1,i2⟩:=iha hw.2 pre ([n]++suf) s (k+1) (by simpa using hd) hl;simp only[XT.size,yf];rw[show k+(a.size+1)=(k+1)+a.size by omega,i1];cases ht:yf sg a pre.length with
  |inl x=>exact⟨rfl,λr hr=>by cases hr⟩|inr ta=>
   have hz:o8 [ta]=arF n.1:=by rw[show arF n.1=1 from hw.1];rfl
   have hv:∀t∈[ta],VT t:=by simpa using i2 ta ht
   exact⟨step _ k n s [ta] hn hz hv G6,λr hr=>KG (mem _ n hn) hv hz hr⟩
 |l2 n a b iha ihb=>
  intro hw pre suf s k hd hl;simp only[XT.post,E8]at hd;have hpa:(pre++a.post).length=pre.length+a.size:=by simp[XT.post_len]
  have hpb:(pre++a.post++b.post).length=pre.length+a.size+b.size:=by simp[XT.post_len];omega
  have hn:=getn (pre++a.post++b.post) suf n (by simpa using hd);rw[hpb]at hn;have hlen:=(ax.1 hn).1;obtain⟨i1,i2⟩:=iha hw.2.1 pre (b.post++[n]++suf) s (k+1+b.size) (by simpa using hd) hl;simp only[XT.size,yf];rw[show k+(a.size+b.size+1)=(k+1+b.size)+a.size by omega,i1];cases ht:yf sg a pre.length with
  |inl x=>exact⟨rfl,λr hr=>by cases hr⟩|inr ta=>
   have hsa:=a.size_pos;obtain⟨j1,j2⟩:=ihb hw.2.2 (pre++a.post) ([n]++suf) (s++[ta]) (k+1) (by simpa using hd) (by simp[XT.post_len];omega);rw[hpa]at j1 j2;simp only;rw[j1];cases hu:yf sg b (pre.length+a.size)with
   |inl x=>exact⟨rfl,λr hr=>by cases hr⟩|inr tb=>
    have hz:o8 [ta,tb]=arF n.1:=by rw[show arF n.1=2 from hw.1];rfl
    have hv:∀t∈[ta,tb],VT t:=by simpa using ⟨i2 ta ht,j2 tb hu⟩
    have:=step _ k n s [ta,tb] hn hz hv G6;simp only[E8,L8,F7];rw[show pre.length+(a.size+b.size+1)=pre.length+a.size+b.size+1 by omega];exact⟨this,λr hr=>KG (mem _ n hn) hv hz hr⟩
 |l3 n a b c iha ihb ihc=>
  intro hw pre suf s k hd hl;simp only[XT.post,E8]at hd;have hpa:(pre++a.post).length=pre.length+a.size:=by simp[XT.post_len]
  have hpb:(pre++a.post++b.post).length=pre.length+a.size+b.size:=by simp[XT.post_len];omega
  have hpc:(pre++a.post++b.post++c.post).length=pre.length+a.size+b.size+c.size:=by simp[XT.post_len];omega
  have hn:=getn (pre++a.post++b.post++c.post) suf n (by simpa using hd);rw[hpc]at hn;have hlen:=(ax.1 hn).1;obtain⟨i1,i2⟩:=iha hw.2.1 pre (b.post++(c.post++([n]++suf))) s (k+1+c.size+b.size) (by simpa using hd) hl;simp only[XT.size,yf];rw[show k+(a.size+b.size+c.size+1)=(k+1+c.size+b.size)+a.size by omega,i1];have hsa:=a.size_pos;have hsb:=b.size_pos;cases ht:yf sg a pre.length with
  |inl x=>exact⟨rfl,λr hr=>by cases hr⟩|inr ta=>
   obtain⟨j1,j2⟩:=ihb hw.2.2.1 (pre++a.post) (c.post++([n]++suf)) (s++[ta]) (k+1+c.size) (by simpa using hd) (by simp[XT.post_len];omega);rw[hpa]at j1 j2;simp only;rw[j1];cases hu:yf sg b (pre.length+a.size)with
   |inl x=>exact⟨rfl,λr hr=>by cases hr⟩|inr tb=>
    obtain⟨q1,q2⟩:=ihc hw.2.2.2 (pre++a.post++b.post) ([n]++suf) (s++[ta]++[tb]) (k+1) (by simpa using hd) (by simp[XT.post_len];omega);rw[hpb]at q1 q2;simp only;rw[q1];cases hc:yf sg c (pre.length+a.size+b.size)with
    |inl x=>exact⟨rfl,λr hr=>by cases hr⟩|inr tc=>
     have hz:o8 [ta,tb,tc]=arF n.1:=by rw[show arF n.1=3 from hw.1];rfl
     have hv:∀t∈[ta,tb,tc],VT t:=by simpa using ⟨i2 ta ht,j2 tb hu,q2 tc hc⟩
     have:=step _ k n s [ta,tb,tc] hn hz hv G6;simp only[E8,L8,F7];rw[show pre.length+(a.size+b.size+c.size+1)=pre.length+a.size+b.size+c.size+1 by omega];exact⟨this,λr hr=>KG (mem _ n hn) hv hz hr⟩
end
def sJ(e:List (Int×Int))(sg:P7):(Int×Int)×Int×Int:=match kE e with
 | .inl x=>((0,0),x)
 | .inr t=>match yf sg t 0 with
  | .inl x=>((0,0),x)| .inr r=>(r,0,0)
variable {α:Type}
theorem Su(s ops:List α)(k:Int)(hk:o8 ops=k)(h:s.length+ops.length<=100):
  O6 .i64 (o8 (s++ops)) k=(s.length:Int)/\jV (s.length:Int) (o8 (s++ops)) (o8 (s++ops))=true/\iY (s++ops) (aW (s.length:Int)) (aW (o8 (s++ops)))=ops
  /\jV 0 (s.length:Int) (o8 (s++ops))=true/\iY (s++ops) (aW 0) (aW (s.length:Int))=s:=by
 subst hk;refine⟨?_,?_,?_,?_,?_⟩
 .rw[iL (by unfold lJ;simp[o8];omega)];simp[o8]
 .simp[jV,o8];omega
 .show((s++ops).take (((s++ops).length:Nat):Int).toNat).drop s.length=ops;rw[Y1,dF,List.drop_left]
 .simp[jV,o8];omega
 .simp[iY,aW]
theorem Sr{sg:P7}{f:(Int×Int)×List (Int×Int)×Int->Option (Out ((Int×Int)×List (Int×Int)×Int) ((Int×Int)×List (Int×Int)) ((Int×Int)×Int×Int))}
  (hI:∀n∈e,lJ n.2) (hs:a7r e sg (0,0) f) (hend:∀s,f ((0,0),s,(e.length:Int))=some (.ex ((0,0),s))) (hcode:∀x,kE e= .inl x->x.2≠0):
  l7 (G7 (C9 (sH e).2.2 0)) (some ((((0:Int),(0:Int)),(sH e).2):(Int×Int)×Int×Int)) (l9 (U8 f (((0:Int),(0:Int)),([]:List (Int×Int)),(0:Int))) λ(o:(Int×Int)×List (Int×Int)⊕(Int×Int)×Int×Int)=>
   ah o (λ(y:(Int×Int)×List (Int×Int))=>l9 (J8 y.2 0) λ(x:Int×Int)=>l9 (di y.2 (aW 0)) λ(x:Int×Int)=>some (x,0,0)) λ(r:(Int×Int)×Int×Int)=>some r)=some (sJ e sg):=by
 unfold sH sJ;cases h:kE e with
 |inl x=>simp only[P6 (hcode x h),Y7,o7]|inr t=>
  obtain⟨hp,h48⟩:=uj h;have hw:=Nq h;obtain⟨l1,_⟩:=a1Y e sg (0,0) h48 hI hs t hw [] [] [] (ji -t.size) (by simpa using hp) x9;have hsz:e.length=t.size:=by rw[hp,XT.post_len]
  have hlo:U8 f (((0:Int),(0:Int)),([]:List (Int×Int)),(0:Int))=jO f (ji -t.size+t.size) ((0,0),[],(([]:List (Int×Int)).length:Int)):=by unfold U8;rw[Nat.sub_add_cancel (by unfold ji;omega)];rfl
  simp only[aB (rfl:(0:Int)=0),J5,o6];rw[hlo,l1];simp only[L6,bH];cases yf sg t 0 with
  |inl x=>rfl|inr r=>obtain⟨k,hk⟩:∃k,ji -t.size=k+1:=⟨ji -t.size -1,by unfold ji;omega⟩;simp only[F7];rw[hk,jO,←hsz,hend];rfl
theorem CV{x:Int×Int}(h:kE e= .inl x):x.2≠0:=by
 have key:∀(es:List (Int×Int)) (i:Nat) (ts:List XT) (x:Int×Int),rY i es ts= .inl x->x.2≠0:=by
  intro es;induction es with
  |nil=>intro i ts x h;cases h|cons n es ih=>
   intro i ts x h;unfold rY at h;cases hp:push n ts with
   |inl c=>
    rw[hp]at h;cases h;show c≠0;unfold push at hp
    (repeat' split at hp)<;>first|(cases hp;done)|(cases hp;decide)
   |inr t2=>
    rw[hp]at h;simp only at h;split at h
    .cases h;show(16:Int)≠0;decide
    .exact ih _ _ _ h
 unfold kE at h;split at h
 .cases h;show(4:Int)≠0;decide
 split at h
 .cases h;show(5:Int)≠0;decide
 split at h
 .rename_i y hp;cases h;exact key _ _ _ _ hp
 .cases h
 .cases h;show(4:Int)≠0;decide
theorem Zv(sg:P7)(hI:∀n∈e,lJ n.2):Aa e sg=some (sJ e sg):=by
 unfold Aa;rw[Du,o9];refine Sr hI (λi n s ops hn hi2 hl hv hlen=>?_) (λs=>?_) (λx h=>CV h)
 .obtain⟨r,h1,h2,h3⟩:=Vr sg n (hI n (mJ hn)) ops hv hl;obtain⟨v1,v2,v3,v4,v5⟩:=Su s ops _ hl hlen;have e' :VL n ops sg=r:=by unfold VL;rw[h1];rfl
  have hi:=(ax.1 hn).1;simp only[N8 hn,o7,I9,hn,o9,Zw,v1,v2,v3,v4,v5,h1];unfold Gw;rw[e'];by_cases h0:r.2=0
  .rw[if_pos h0,aB h0];simp only[J5,o6];rw[mM _ o5,o9,bD o5]
  .rw[if_neg h0,P6 h0];rfl
 .rw[N7];rfl
theorem a1X(sg:P7)(hI:∀n∈e,lJ n.2):Cb e sg=some (sJ e sg):=by
 unfold Cb;rw[Ls,o9];refine Sr hI (λi n s ops hn hi2 hl hv hlen=>?_) (λs=>?_) (λx h=>CV h)
 .obtain⟨r,h1,h2,h3⟩:=Vr sg n (hI n (mJ hn)) ops hv hl;obtain⟨v1,v2,v3,v4,v5⟩:=Su s ops _ hl hlen;have e' :VL n ops sg=r:=by unfold VL;rw[h1];rfl
  have hi:=(ax.1 hn).1;simp only[N8 hn,o7,I9,hn,o9,a2m,v1,v2,v3,v4,v5];unfold Gw;rw[e'];unfold EN at h2;have fin:aJ n ops sg=some r->(l9 (aJ n ops sg) λ(x_3:J4×Int)=>l7 (G7 (C9 x_3.2 0)) (some (Out.rt ((((0:Int),(0:Int)),((i:Int),x_3.2)):(Int×Int)×Int×Int)))
    (l9 (aX s [x_3.1]) λ(x_4:List J4)=>some (Out.nx (((0:Int),(0:Int)),x_4,G5 .i64 (i:Int) 1))))=
    some (match if r.2=0 then(.inr r.1:(Int×Int)⊕(Int×Int))else .inl ((i:Int),r.2)with| .inl x=>Out.rt ((0,0),x)| .inr t=>(Out.nx ((0,0),s++[t],((i+1:Nat):Int)):Out ((Int×Int)×List (Int×Int)×Int) ((Int×Int)×List (Int×Int)) ((Int×Int)×Int×Int))):=by
   intro hr;rw[hr,o9];by_cases h0:r.2=0
   .rw[if_pos h0,aB h0];simp only[J5,o6];rw[mM _ o5,o9,bD o5]
   .rw[if_neg h0,P6 h0];rfl
  cases hz:C9 n.2 0
  .rw[hz]at h2;simp only[Y7,o7]at h2 ⊢;cases hu:bi n.1 with
   |none=>rw[hu]at h2;cases h2|some u=>
    rw[hu]at h2;simp only[o9]at h2 ⊢;cases u
    .simp only[Y7,o7]at h2 ⊢;cases h2;rfl
    .exact fin h2
  .rw[hz]at h2;exact fin h2
 .rw[N7];rfl
section
variable {α β σ ε ρ:Type}
theorem yI(l:List α)(G:β->α->β)(mk:β->Int->σ)(fin:β->ε)(Inv:Nat->β->Prop){f:σ->Option (σ⊕ε)}{b:β}(hl:l.length<=1000000)(h0:Inv 0 b)
  (hin:∀(i:Nat) (a:α) (b:β),l[i]? =some a->i<=1000000->Inv i b->f (mk b (i:Int))=some (.inl (mk (G b a) ((i+1:Nat):Int)))/\Inv (i+1) (G b a))
  (hend:∀b,Inv l.length b->f (mk b (l.length:Int))=some (.inr (fin b))):
  aG f (mk b 0)=some (fin (l.foldl G b))/\Inv l.length (l.foldl G b):=by
 have key:∀(n i:Nat) (b:β),i<=l.length->l.length -i<n->Inv i b->xF f n (mk b (i:Int))=some (fin ((l.drop i).foldl G b))/\Inv l.length ((l.drop i).foldl G b):=by
  intro n;induction n with
  |zero=>intro i b _ h _;omega|succ n ih=>
   intro i b hi hn hI;unfold xF;by_cases h:i<l.length
   .have e:=lw h;obtain⟨h1,h2⟩:=hin i _ b e o5 hI;rw[h1,cZ h];exact ih (i+1) _ o5 o5 h2
   .have:i=l.length:=o5;subst this;rw[hend b hI,yu];exact⟨rfl,hI⟩
 have:=key ji 0 b o5 (by unfold ji;omega) h0;exact this
theorem kR{γ:Type}(l:List α)(G:β->α->β)(mk:β->Int->σ)(fin:β->ε)(Inv:Nat->β->Prop)(b:β){f:σ->Option (σ⊕ε)}{K:ε->Option γ}{r:Option γ}(hl:l.length<=1000000)(h0:Inv 0 b)
  (hin:∀(i:Nat) (a:α) (b:β),l[i]? =some a->i<=1000000->Inv i b->f (mk b (i:Int))=some (.inl (mk (G b a) ((i+1:Nat):Int)))/\Inv (i+1) (G b a))
  (hend:∀b,Inv l.length b->f (mk b (l.length:Int))=some (.inr (fin b))) (hk:Inv l.length (l.foldl G b)->K (fin (l.foldl G b))=r):l9 (aG f (mk b 0)) K=r:=by
 obtain⟨h1,h2⟩:=yI l G mk fin Inv hl h0 hin hend;rw[h1];exact hk h2
def qK(G:β->α->β⊕ρ):List α->β->β⊕ρ
 |[],b=> .inl b
 |a::l,b=>match G b a with| .inl b' =>qK G l b'| .inr r=> .inr r
theorem Jw(l:List α)(G:β->α->β⊕ρ)(mk:β->Int->σ)(fin:β->ε)(Inv:Nat->β->Prop){f:σ->Option (Out σ ε ρ)}{b:β}(hl:l.length<=1000000)(h0:Inv 0 b)
  (hin:∀(i:Nat) (a:α) (b:β),l[i]? =some a->i<=1000000->Inv i b->f (mk b (i:Int))=some (match G b a with| .inl b' => .nx (mk b' ((i+1:Nat):Int))| .inr r=> .rt r)/\∀b',G b a= .inl b' ->Inv (i+1) b')
  (hend:∀b,Inv l.length b->f (mk b (l.length:Int))=some (.ex (fin b))):
  U8 f (mk b 0)=some (match qK G l b with| .inl b' => .inl (fin b')| .inr r=> .inr r)/\∀b',qK G l b= .inl b' ->Inv l.length b' :=by
 have key:∀(n i:Nat) (b:β),i<=l.length->l.length -i<n->Inv i b->jO f n (mk b (i:Int))=some (match qK G (l.drop i) b with| .inl b' => .inl (fin b')| .inr r=> .inr r)/\∀b',qK G (l.drop i) b= .inl b' ->Inv l.length b' :=by
  intro n;induction n with
  |zero=>intro i b _ h _;omega|succ n ih=>
   intro i b hi hn hI;unfold jO;by_cases h:i<l.length
   .have e:=lw h;obtain⟨h1,h2⟩:=hin i _ b e o5 hI;rw[h1,cZ h];unfold qK;cases hg:G b l[i]with
    |inr r=>exact⟨rfl,λb' hb=>by cases hb⟩|inl b' =>exact ih (i+1) _ o5 o5 (h2 b' hg)
   .have:i=l.length:=o5;subst this;rw[hend b hI,yu];exact⟨rfl,λb' hb=>by cases hb;exact hI⟩
 have:=key ji 0 b o5 (by unfold ji;omega) h0;exact this
theorem QD{γ:Type}(l:List α)(G:β->α->β⊕ρ)(mk:β->Int->σ)(fin:β->ε)(Inv:Nat->β->Prop)(b:β){f:σ->Option (Out σ ε ρ)}{K:ε⊕ρ->Option γ}{r:Option γ}(hl:l.length<=1000000)(h0:Inv 0 b)
  (hin:∀(i:Nat) (a:α) (b:β),l[i]? =some a->i<=1000000->Inv i b->f (mk b (i:Int))=some (match G b a with| .inl b' => .nx (mk b' ((i+1:Nat):Int))| .inr r=> .rt r)/\∀b',G b a= .inl b' ->Inv (i+1) b')
  (hend:∀b,Inv l.length b->f (mk b (l.length:Int))=some (.ex (fin b)))
  (hk:(∀b',qK G l b= .inl b' ->Inv l.length b')->K (match qK G l b with| .inl b' => .inl (fin b')| .inr r=> .inr r)=r):l9 (U8 f (mk b 0)) K=r:=by
 obtain⟨h1,h2⟩:=Jw l G mk fin Inv hl h0 hin hend;rw[h1];exact hk h2
end
def Np(c:UInt8):Bool:=decide (32<=c.toNat)&&decide (c.toNat<=126)&&decide (c.toNat≠34)
def TF(s:List UInt8):Bool:=decide (s.length<=64)&&s.all Np
theorem U_(c:UInt8):∀s:List UInt8,decide (0<=Lib.indexByte s c)=s.any λx=>decide (x.toNat=c.toNat)
 |[]=>by simp[Lib.indexByte]|b::l=>by
  have ih:=U_ c l;have hge:=Lib.indexByte_ge l c;rw[qP,←ih];have e:Lib.indexByte (b::l) c=if b=c then 0 else if Lib.indexByte l c=-1 then -1 else Lib.indexByte l c+1:=by rw[Lib.indexByte];simp
  rw[e];by_cases h:b=c
  .subst h;simp
  .have h2:b.toNat≠c.toNat:=λhh=>h (UInt8.toNat_inj.1 hh);rw[if_neg h,show decide (b.toNat=c.toNat)=false by simp[h2],kM];by_cases h3:Lib.indexByte l c=-1
   .rw[h3];rfl
   .rw[if_neg h3];simp;omega
theorem Yd(c:UInt8):Np c=(!H9 (c.toNat:Int) 32&&!H9 126 (c.toNat:Int)&&!C9 (c.toNat:Int) 34):=by unfold Np H9 C9;rw[jy];simp;omega
theorem OX(s:List UInt8)(p:UInt8->Bool):(∀(i:Nat) (a:UInt8),s[i]? =some a->p a=true)↔s.all p=true:=by rw[jb];exact⟨λh x hx=>by obtain⟨i,hi,rfl⟩:=af hx;exact h i _ (lw hi),λh i a hi=>h a (mJ hi)⟩
theorem Vx{s:List UInt8}(h:s.length<=1000000):vV s=some (TF s):=by
 unfold vV;refine U9 (yJ s (λi a=>Np a) false PUnit.unit _ o5 (λi x hx=>?_) ?_) ?_
 rotate_left 2
 .have h5:U1 (o8 s) 64=decide (s.length<=64):=by simp only[U1,o8];congr 1;simp;omega
  unfold TF;by_cases hw:s.all Np=true
  .rw[if_pos ((OX s Np).2 hw),hw,o9,X8,h5,Bool.and_true]
  .rw[if_neg (λh=>hw ((OX s Np).1 h))];simp only[rW]at hw;rw[hw,Bool.and_false];rfl
 .have hi:=(ax.1 hx).1;simp only[N8 hx,o7,Pq,hx,Y8,o9];rw[bD o5,Yd];cases H9 (x.toNat:Int) 32<;>cases H9 126 (x.toNat:Int)<;>cases C9 (x.toNat:Int) 34<;>rfl
 .rw[N7];rfl
theorem Sv{s:List UInt8}(h:s.length<=1000000):vO s=some (TF s):=by
 unfold vO;have h5:H9 64 (o8 s)= !decide (s.length<=64):=by simp only[H9,o8];rw[←decide_not];congr 1;simp;omega
 rw[h5,show uT s [34]=some (s.any λx=>decide (x.toNat=(34:UInt8).toNat))from congrArg some (U_ 34 s)];unfold TF;cases decide (s.length<=64)
 .rfl
 simp only[jl,o6,o9,kN];cases h34:s.any λx=>decide (x.toNat=(34:UInt8).toNat)
 case true=>
  obtain⟨x,hx,hx2⟩:=oG.1 h34;simp only[decide_eq_true_eq]at hx2;have:s.all Np=false:=by rw[List.all_eq_false];refine⟨x,hx,?_⟩;unfold Np;rw[hx2];decide
  rw[this];rfl
 simp only[o6];refine U9 (yJ s (λi a=>Np a) false PUnit.unit _ o5 (λi x hx=>?_) ?_) ?_
 rotate_left 2
 .by_cases hw:s.all Np=true
  .rw[if_pos ((OX s Np).2 hw),hw];rfl
  .rw[if_neg (λh=>hw ((OX s Np).1 h))];simp only[rW]at hw;rw[hw];rfl
 .have hi:=(ax.1 hx).1;have hne:C9 (x.toNat:Int) 34=false:=by
   have:=(iG.1 h34) x (mJ hx);simp only[decide_eq_true_eq]at this;exact P6 (by have h:(34:UInt8).toNat=34:=rfl;omega)
  simp only[N8 hx,o7,Pq,hx,Y8,o9];rw[bD o5,Yd,hne];cases H9 (x.toNat:Int) 32<;>cases H9 126 (x.toNat:Int)<;>rfl
 .rw[N7];rfl
def Jh(e:List (Int×Int))(sg:P7)(t:Int×Int):Int:=l7 (C9 (sJ e sg).2.2 0) (l7 (jE (C9 (sJ e sg).1.1 t.1) (C9 (sJ e sg).1.2 t.2)) 0 8) (sJ e sg).2.2
theorem JV(sg:P7)(t:Int×Int)(hI:∀n∈e,lJ n.2):rP e sg t=some (Jh e sg t):=by
 unfold rP Jh;rw[a1X sg hI,o9];cases C9 (sJ e sg).2.2 0
 .rfl
 simp only[J5,o6,o7];cases jE (C9 (sJ e sg).1.1 t.1) (C9 (sJ e sg).1.2 t.2)<;>rfl
theorem Ko(sg:P7)(t:Int×Int)(hI:∀n∈e,lJ n.2):oU e sg t=some (Jh e sg t):=by
 unfold oU Jh;rw[Zv sg hI,o9];cases C9 (sJ e sg).2.2 0
 .rfl
 simp only[J5,o6,o7];cases jE (C9 (sJ e sg).1.1 t.1) (C9 (sJ e sg).1.2 t.2)<;>rfl
def Yt(r:aY):Prop:=r.1.length<=1000000/\r.2.2.2.2.2.2.2.length<=1000000/\(∀n∈r.2.2.2.2.2.1,lJ n.2)/\(∀n∈r.2.2.2.2.2.2.1,lJ n.2)
def OJ(rs:List aY)(d:Int):Nat:=rs.countP λo=>C9 o.2.1 d
def Ve(r:aY)(sg:P7)(t:Int×Int):Int:=
 l7 (H9 0 (o8 r.2.2.2.2.2.1)) (l7 (C9 (Jh r.2.2.2.2.2.1 sg (1,0)) 0) (Jh r.2.2.2.2.2.2.1 sg t) (Jh r.2.2.2.2.2.1 sg (1,0))) (Jh r.2.2.2.2.2.2.1 sg t)
def GU(s:L9)(sg:P7)(k:Nat)(r:aY):Int:=
 l7 (uX r.1) (l7 ((s.2.2.2.2.take k).any λx=>seq x.1 r.1) 7 (match J8 s.2.2.2.1 r.2.1 with
  |none=>6|some d=>l7 (l7 (C9 r.2.2.1 (-1)) false (l7 (H9 r.2.2.1 0) true (l7 (U1 k r.2.2.1) true (match J8 s.2.2.2.2 r.2.2.1 with|some q=>G7 (C9 q.2.1 r.2.1)|none=>true)))) 9
   (l7 (H9 r.2.2.2.1 0) 3 (l7 (H9 9 r.2.2.2.1) 3 (l7 (BK r.2.2.2.2.1) (l7 (C9 r.2.2.2.2.1.1 r.2.2.2.2.1.2) 3
    (l7 (U1 8 (OJ (s.2.2.2.2.take k) r.2.1)) 4 (l7 (TF r.2.2.2.2.2.2.2) (Ve r sg d.2) 2))) 3))))) 2
theorem Kw{l:List α}{i:Int}(h:U1 0 i=false\/H9 i (o8 l)=false):J8 l i=none:=by
 unfold J8
 split
 .rename_i h0;rcases h with h|h
  .rw[Gj]at h;omega
  .rw[ng]at h;simp only[o8]at h;exact gV o5
 .rfl
variable {s:L9}{r:aY}{k:Nat}
theorem UW(sg:P7)(hr:s.2.2.2.2[k]? =some r)(hl:s.2.2.2.2.length<=1000)(h:Yt r):zg s (k:Int) sg=some (GU s sg k r):=by
 have hk:=(ax.1 hr).1;have hcnt:OJ (s.2.2.2.2.take k) r.2.1<=1000:=by have:=List.countP_le_length (l:=s.2.2.2.2.take k) (p:=λ(o:aY)=>C9 o.2.1 r.2.1);unfold OJ;simp at this;omega
 unfold zg;rw[I9,hr,o9,wP o5,o9];refine U9 (yI (s.2.2.2.2.take k) (λ(c:Nat) (o:aY)=>l7 (C9 o.2.1 r.2.1) (c+1) c) (λc i=>((c:Int),i)) (λc=>(c:Int)) (λi c=>c<=i) (b:=0) G6 o5 (λi a c ha hi hc=>?_) (λc hc=>?_)).1 ?_
 rotate_left 2
 .have hf:∀(l:List aY) (c:Nat),l.foldl (λ(c:Nat) (o:aY)=>l7 (C9 o.2.1 r.2.1) (c+1) c) c=c+OJ l r.2.1:=by
   intro l;induction l with
   |nil=>intro c;rfl|cons a l ih=>intro c;rw[V7,ih];unfold OJ;rw[List.countP_cons];cases C9 a.2.1 r.2.1<;>simp<;>omega
  rw[hf,bH,o9,oM h.1,o9,o9,YZ _ G6,o9];unfold GU;cases uX r.1
  .rfl
  simp only[J5,o6,o7,o9];cases (s.2.2.2.2.take k).any λx=>seq x.1 r.1
  case true=>rfl
  simp only[o6];rw[zW r.2.1 0,Kr (o8 s.2.2.2.1) r.2.1];cases h0:U1 0 r.2.1
  .rw[Kw (.inl h0)];rfl
  cases h1:H9 r.2.1 (o8 s.2.2.2.1)
  .rw[Kw (.inr h1)];rfl
  obtain⟨d,hd,_⟩:=qQ (uo.1 h0) (yZ.1 h1);rw[hd];simp only[jl,o6,o9,Sv h.2.1];have hpar:(l7 (G7 (C9 r.2.2.1 (-1))) (l7 (H9 r.2.2.1 0) (some true) (l7 (U1 (k:Int) r.2.2.1) (some true) (l9 (J8 s.2.2.2.2 r.2.2.1) λ(x_6:aY)=>some (G7 (C9 x_6.2.1 r.2.1))))) (some false))=
    some (l7 (C9 r.2.2.1 (-1)) false (l7 (H9 r.2.2.1 0) true (l7 (U1 k r.2.2.1) true (match J8 s.2.2.2.2 r.2.2.1 with|some q=>G7 (C9 q.2.1 r.2.1)|none=>true)))):=by
   cases C9 r.2.2.1 (-1)
   case true=>rfl
   simp only[Y7,o7,o6];cases hp0:H9 r.2.2.1 0
   case true=>rfl
   cases hp1:U1 (k:Int) r.2.2.1
   case true=>rfl
   rw[ng]at hp0;rw[Gj]at hp1;obtain⟨q,hq,_⟩:=qQ (l:=s.2.2.2.2) hp0 (by simp only[o8];omega);rw[hq];rfl
  rw[hpar,o9];cases (l7 (C9 r.2.2.1 (-1)) false (l7 (H9 r.2.2.1 0) true (l7 (U1 k r.2.2.1) true (match J8 s.2.2.2.2 r.2.2.1 with|some q=>G7 (C9 q.2.1 r.2.1)|none=>true))))
  case true=>rfl
  simp only[o6];cases H9 r.2.2.2.1 0
  case true=>rfl
  simp only[o6,o9];cases H9 9 r.2.2.2.1
  case true=>rfl
  simp only[o6];have hval:∀(A B:Option (aY⊕Int)),l7 (H9 r.2.2.2.2.1.1 0) A (l7 (U1 r.2.2.2.2.1.2 r.2.2.2.2.1.1) A (l7 (H9 109573 r.2.2.2.2.1.2) A B))=l7 (BK r.2.2.2.2.1) (l7 (C9 r.2.2.2.2.1.1 r.2.2.2.2.1.2) A B) A:=by
   intro A B;unfold BK;by_cases v0:r.2.2.2.2.1.1<(0:Int)
   .rw[dU v0,dw (show r.2.2.2.2.1.1<(0:Int)from v0)];rfl
   rw[bT (rF.1 v0),aZ (rF.1 v0)];by_cases v1:(r.2.2.2.2.1.2:Int)<=r.2.2.2.2.1.1
   .rw[aZ v1];by_cases v2:(r.2.2.2.2.1.1:Int)<=r.2.2.2.2.1.2
    .rw[aZ v2,aB (Int.le_antisymm v2 v1)];cases U1 r.2.2.2.2.1.2 109573<;>rfl
    .rw[dw (rE.1 v2)];rfl
   .have v1' :=rE.1 v1;rw[dw v1',aZ (Int.le_of_lt v1'),P6 (λhh=>by rw[hh]at v1';exact Int.lt_irrefl _ v1'),zW];cases U1 r.2.2.2.2.1.2 109573<;>rfl
  rw[hval];cases BK r.2.2.2.2.1
  .rfl
  cases C9 r.2.2.2.2.1.1 r.2.2.2.2.1.2
  case true=>rfl
  simp only[o7,o6];cases U1 8 ((OJ (s.2.2.2.2.take k) r.2.1:Nat):Int)
  case true=>rfl
  cases TF r.2.2.2.2.2.2.2
  .rfl
  simp only[J5,o6,o7,o9,X8,Ve,hd,JV sg _ h.2.2.1,JV sg _ h.2.2.2];cases H9 0 (o8 r.2.2.2.2.2.1)
  .rfl
  simp only[o7];cases C9 (Jh r.2.2.2.2.2.1 sg (1,0)) 0<;>rfl
 .have hc' :c<=1000000:=o5;obtain⟨ha1,ha2⟩:=Lt ha;simp only[N8 ha,o7,I9,ha,o9];rw[bD (show i<=9000000000000000000 by omega),bD (show c<=9000000000000000000 by omega)];cases C9 a.2.1 r.2.1
  .exact⟨rfl,by show c<=i+1;omega⟩
  .exact⟨rfl,by show c+1<=i+1;omega⟩
 .simp only[N7];rfl
theorem a3S(s:L9)(d:Int):Bq s d=some (l7 (U1 0 d) (H9 d (o8 s.2.2.2.1)) false):=by unfold Bq;cases U1 0 d<;>rfl
theorem TY(r:aY):∀(l:List aY) (c:Nat),qK (λ(c:Nat) (o:aY)=>l7 (seq o.1 r.1) (.inr (7:Int)) (.inl (l7 (C9 o.2.1 r.2.1) (c+1) c))) l c=l7 (l.any λx=>seq x.1 r.1) (.inr 7) (.inl (c+OJ l r.2.1))
 |[],c=>rfl|a::l,c=>by
  unfold qK;rw[qP];cases seq a.1 r.1
  case true=>rfl
  simp only[o6,kM];rw[TY r l];unfold OJ;rw[List.countP_cons];cases C9 a.2.1 r.2.1
  .simp only[o6,dI,if_false,aC]
  .simp only[o7,if_true];rw[show c+1+List.countP (λo=>C9 o.2.1 r.2.1) l=c+(List.countP (λo=>C9 o.2.1 r.2.1) l+1) by omega]
variable {l:aA}
theorem TB(hL:JQ l)(hs:l.2.2[i]? =some s)(hr:s.2.2.2.2[k]? =some r)(h:Yt r):vW l (i:Int) (k:Int)=some (GU s (Lr l s) k r):=by
 have hk:=(ax.1 hr).1;have hl:=(hL s (mJ hs)).2.2.2;have hcnt:OJ (s.2.2.2.2.take k) r.2.1<=1000:=by have:=List.countP_le_length (l:=s.2.2.2.2.take k) (p:=λ(o:aY)=>C9 o.2.1 r.2.1);unfold OJ;simp at this;omega
 unfold vW GU;rw[I9,hs,o9,I9,hr,o9,kS h.1,o9];cases uX r.1
 .rfl
 simp only[J5,o6,o7];refine U9 (Jw (s.2.2.2.2.take k) (λ(c:Nat) (o:aY)=>l7 (seq o.1 r.1) (.inr (7:Int)) (.inl (l7 (C9 o.2.1 r.2.1) (c+1) c))) (λc i=>((c:Int),i)) (λc=>(c:Int)) (λi c=>c<=i) (b:=0) G6 o5 (λj a c ha hi hc=>?_) (λc hc=>?_)).1 ?_
 rotate_left 2
 .rw[TY];cases (s.2.2.2.2.take k).any λx=>seq x.1 r.1
  case true=>rfl
  simp only[o6,bH,o9,X8];rw[zW r.2.1 0,Kr (o8 s.2.2.2.1) r.2.1];cases h0:U1 0 r.2.1
  .rw[Kw (.inl h0)];rfl
  cases h1:H9 r.2.1 (o8 s.2.2.2.1)
  .rw[Kw (.inr h1)];rfl
  obtain⟨d,hd,_⟩:=qQ (uo.1 h0) (yZ.1 h1);rw[hd];simp only[jl,o6,o9,X8];have hpar:(l7 (G7 (C9 r.2.2.1 (-1))) (l7 (H9 r.2.2.1 0) (some (Sum.inr (9:Int))) (l7 (U1 (k:Int) r.2.2.1) (some (.inr 9)) (l9 (J8 s.2.2.2.2 r.2.2.1) λ(x:aY)=>l7 (G7 (C9 x.2.1 r.2.1)) (some (.inr 9)) (some (.inl PUnit.unit))))) (some (.inl PUnit.unit)))=
    some (l7 (l7 (C9 r.2.2.1 (-1)) false (l7 (H9 r.2.2.1 0) true (l7 (U1 k r.2.2.1) true (match J8 s.2.2.2.2 r.2.2.1 with|some q=>G7 (C9 q.2.1 r.2.1)|none=>true)))) (.inr 9) (.inl PUnit.unit)):=by
   cases C9 r.2.2.1 (-1)
   case true=>rfl
   simp only[Y7,o7,o6];cases hp0:H9 r.2.2.1 0
   case true=>rfl
   cases hp1:U1 (k:Int) r.2.2.1
   case true=>rfl
   rw[ng]at hp0;rw[Gj]at hp1;obtain⟨q,hq,_⟩:=qQ (l:=s.2.2.2.2) hp0 (by simp only[o8];omega);rw[hq];simp only[o9,o6];cases C9 q.2.1 r.2.1<;>rfl
  rw[hpar,o9];cases (l7 (C9 r.2.2.1 (-1)) false (l7 (H9 r.2.2.1 0) true (l7 (U1 k r.2.2.1) true (match J8 s.2.2.2.2 r.2.2.1 with|some q=>G7 (C9 q.2.1 r.2.1)|none=>true))))
  case true=>rfl
  simp only[o6,X8];cases H9 r.2.2.2.1 0
  case true=>rfl
  cases H9 9 r.2.2.2.1
  case true=>rfl
  simp only[o6,EQ,o9];cases BK r.2.2.2.2.1
  .rfl
  cases C9 r.2.2.2.2.1.1 r.2.2.2.2.1.2
  case true=>rfl
  simp only[J5,o7,o6,o9,X8];cases U1 8 ((OJ (s.2.2.2.2.take k) r.2.1:Nat):Int)
  case true=>rfl
  simp only[o6,Vx h.2.1,o9];cases TF r.2.2.2.2.2.2.2
  .rfl
  simp only[J5,o6,o7,o9,TC hL hs,Ve,hd,Ko (Lr l s) _ h.2.2.1,Ko (Lr l s) _ h.2.2.2];cases H9 0 (o8 r.2.2.2.2.2.1)
  .rfl
  simp only[o7];cases C9 (Jh r.2.2.2.2.2.1 (Lr l s) (1,0)) 0<;>rfl
 .obtain⟨ha1,ha2⟩:=Lt ha;simp only[dU (show(j:Int)<(k:Int) by omega),o7,I9,ha2,o9];rw[bD (show j<=9000000000000000000 by omega),bD (show c<=9000000000000000000 by omega)];cases seq a.1 r.1
  .cases C9 a.2.1 r.2.1
   .exact⟨rfl,λb' hb=>by cases hb;show c<=j+1;omega⟩
   .exact⟨rfl,λb' hb=>by cases hb;show c+1<=j+1;omega⟩
  .exact⟨rfl,λb' hb=>by cases hb⟩
 .have e:(s.2.2.2.2.take k).length=k:=by simp;omega
  simp only[e,bT (show(k:Int)<=(k:Int) by omega)];rfl
structure SmS (s:L9):Prop where
 nm:s.1.length<=1000000
 ni:s.2.2.1.length<=14
 nd:s.2.2.2.1.length<=14
 nr:s.2.2.2.2.length<=60
 fo:Wy s
 ro:∀r∈s.2.2.2.2,Yt r/\r.2.2.2.2.2.1.length<=50/\r.2.2.2.2.2.2.1.length<=50
theorem Vz:nI=pI:=rfl
def Js(n:Int)(b:List Int×Bool)(a:Int):List Int×Bool:=l7 b.2 (b.1++[a],true) (l7 (U1 n a) (l7 (H9 n a) (b.1++[n]++[a],true) (b.1++[a],true)) (b.1++[a],false))
theorem Zc(n:Int):∀(l p:List Int),l.foldl (Js n) (p,true)=(p++l,true)
 |[],p=>by simp|a::l,p=>by rw[V7,show Js n (p,true) a=(p++[a],true)from rfl,Zc n l];simp
theorem a2K(n:Int):∀(l p:List Int),(l7 (l.foldl (Js n) (p,false)).2 (l.foldl (Js n) (p,false)).1 ((l.foldl (Js n) (p,false)).1++[n]))=p++ins n l
 |[],p=>rfl|a::l,p=>by
  rw[V7];unfold ins;by_cases h1:n<=a
  .rw[if_pos h1];by_cases h2:n<a
   .rw[if_pos h2,show Js n (p,false) a=(p++[n]++[a],true) by simp[Js,aZ h1,dU h2],Zc];simp
   .rw[if_neg h2,show Js n (p,false) a=(p++[a],true) by simp[Js,aZ h1,bT (show a<=n by omega)],Zc];simp
  .rw[if_neg h1,show Js n (p,false) a=(p++[a],false) by simp[Js,dw (show a<n by omega)],a2K n l];simp
theorem Bo{l:List Int}(n:Int)(hl:l.length<=1000000):pI l n=some (ins n l):=by
 unfold pI;refine kR l (Js n) (λb i=>(b.1,b.2,i)) (λb=>b) (λi b=>b.1.length<=i+1/\(b.2=false->b.1.length<=i)) (([],false):List Int×Bool) hl x9 (λi a b ha hi hI=>?_) (λb hI=>?_) (λh2=>?_)
 .obtain⟨o,d⟩:=b;simp only at hI;simp only[N8 ha,o7,I9,ha,o9];rw[bD o5];cases d
  .simp only[Y7,o7,Js,o6];have:=hI.2 rfl;cases U1 n a
   .rw[o6,mM a (show o.length<=1000000 by omega)];exact⟨rfl,by simp<;>omega,by simp<;>omega⟩
   .rw[o7];cases H9 n a
    .rw[o6,mM a (show o.length<=1000000 by omega)];exact⟨rfl,by simp<;>omega,x9⟩
    .rw[o7,mM n (show o.length<=1000000 by omega),o9,vK G6];exact⟨rfl,by simp<;>omega,x9⟩
  .simp only[J5,o6,Js,o7];rw[vK G6];exact⟨rfl,by simp<;>omega,x9⟩
 .simp only[N7];rfl
 .have hf:=a2K n l [];generalize l.foldl (Js n) ([],false)=b at*;obtain⟨o,d⟩:=b;cases d
  .simp only[o6,F7]at hf;simp only[Y7,o7];rw[mM _ (by simp at h2;omega),hf];rfl
  .simp only[o7,F7]at hf;simp only[J5,o6,hf]
def isM(op:Int):Bool:=l7 (U1 36 op) (U1 op 39) false
theorem a8n(op:Int):isM op=l7 (C9 op 36) true (l7 (C9 op 37) true (l7 (C9 op 38) true (C9 op 39))):=by
 unfold isM;by_cases h1:36<=op
 .rw[aZ h1,o7];by_cases h2:op<=39
  .rw[aZ h2];have:op=36\/op=37\/op=38\/op=39:=o5;rcases this with rfl|rfl|rfl|rfl<;>rfl
  .rw[dw o5,P6 o5,P6 o5,P6 o5,P6 o5];rfl
 .rw[dw o5,P6 o5,P6 o5,P6 o5,P6 o5];rfl
def OU(p:Int->Bool)(e:List (Int×Int)):List Int:=(e.filter λn=>p n.1).map (·.2)
def yw(e:List (Int×Int)):List Int×List Int×List Int:=(JL (OU (λo=>C9 o 7) e),JL (OU (λo=>C9 o 8) e),JL (OU isM e))
def a1K(g:List Int->Int->List Int)(b:List Int×List Int×List Int)(n:Int×Int):List Int×List Int×List Int:=
 (l7 (C9 n.1 7) (g b.1 n.2) b.1,l7 (C9 n.1 8) (g b.2.1 n.2) b.2.1,l7 (isM n.1) (g b.2.2 n.2) b.2.2)
theorem MQ(g:List Int->Int->List Int):∀(e:List (Int×Int)) (b:List Int×List Int×List Int),e.foldl (a1K g) b=((OU (λo=>C9 o 7) e).foldl g b.1,(OU (λo=>C9 o 8) e).foldl g b.2.1,(OU isM e).foldl g b.2.2)
 |[],b=>rfl|n::e,b=>by
  have hn:∀p:Int->Bool,OU p (n::e)=l7 (p n.1) (n.2::OU p e) (OU p e):=λp=>by unfold OU;rw[jc];cases p n.1<;>rfl
  rw[V7,MQ g e,hn,hn,hn];unfold a1K;simp only;cases C9 n.1 7<;>cases C9 n.1 8<;>cases isM n.1<;>rfl
theorem TZ:∀(l b:List Int),l.foldl (λacc n=>acc++[n]) b=b++l
 |[],b=>by simp|a::l,b=>by rw[V7,TZ l];simp
theorem Dl{a k:Int}(h:a=k)(m:Int)(hm:k≠m):C9 a m=false:=P6 o5
theorem BX{l:List Int}(hl:l.length<=1000000):rO l=some (JL l):=by unfold rO;have:=a7e (l:=l) hl;rw[show(λx=>l9 (oV x) λ(x:List Int)=>some x)=λx=>oV x from funext λx=>vF _];exact this
theorem Jb(h:e.length<=1000000):rD e=some (yw e):=by
 unfold rD;refine kR e (a1K (λacc n=>acc++[n])) (λb i=>(b.1,b.2.1,b.2.2,i)) (λb=>b) (λi b=>b.1.length<=i/\b.2.1.length<=i/\b.2.2.length<=i) (([],[],[]):List Int×List Int×List Int) h x9 (λi a b ha hi hI=>?_) (λb hI=>?_) (λh2=>?_)
 .obtain⟨b1,b2,b3⟩:=b;simp only at hI;simp only[N8 ha,o7,I9,ha,o9,mM a.2 (show b1.length<=1000000 by omega),mM a.2 (show b2.length<=1000000 by omega),mM a.2 (show b3.length<=1000000 by omega),a1K,a8n];rw[bD o5];by_cases h7:a.1=7
  .rw[aB h7,Dl h7 8 J3,Dl h7 36 J3,Dl h7 37 J3,Dl h7 38 J3,Dl h7 39 J3];exact⟨rfl,by simp<;>omega,by simp<;>omega,by simp<;>omega⟩
  rw[P6 h7];by_cases h8:a.1=8
  .rw[aB h8,Dl h8 36 J3,Dl h8 37 J3,Dl h8 38 J3,Dl h8 39 J3];exact⟨rfl,by simp<;>omega,by simp<;>omega,by simp<;>omega⟩
  rw[P6 h8];cases C9 a.1 36<;>cases C9 a.1 37<;>cases C9 a.1 38<;>cases C9 a.1 39<;>exact⟨rfl,by simp<;>omega,by simp<;>omega,by simp<;>omega⟩
 .simp only[N7];rfl
 .rw[MQ]at h2 ⊢;simp only[TZ,F7]at h2 ⊢;rw[BX o5,o9,BX o5,o9,BX o5];rfl
theorem Gz(h:e.length<=500000):qA e=some (yw e):=by
 unfold qA;refine kR e (a1K (λacc n=>ins n acc)) (λb i=>(b.1,b.2.1,b.2.2,i)) (λb=>b) (λi b=>b.1.length<=i/\b.2.1.length<=i/\b.2.2.length<=i) (([],[],[]):List Int×List Int×List Int) o5 x9 (λi a b ha hi hI=>?_) (λb hI=>?_) (λh2=>?_)
 .obtain⟨b1,b2,b3⟩:=b;simp only at hI;have l1:=ww a.2 b1;have l2:=ww a.2 b2;have l3:=ww a.2 b3;rw[Vz];simp only[N8 ha,o7,I9,ha,o9,Bo a.2 (show b1.length<=1000000 by omega),Bo a.2 (show b2.length<=1000000 by omega),Bo a.2 (show b3.length<=1000000 by omega),a1K,isM];rw[bD o5];by_cases h7:a.1=7
  .rw[aB h7,Dl h7 8 J3,dw (show a.1<36 by omega)];exact⟨rfl,by simp<;>omega,by simp<;>omega,by simp<;>omega⟩
  rw[P6 h7];cases C9 a.1 8<;>cases U1 36 a.1<;>cases U1 a.1 39<;>exact⟨rfl,by simp<;>omega,by simp<;>omega,by simp<;>omega⟩
 .simp only[N7];rfl
 .rw[MQ];rfl
theorem a3e(p:Int->Bool)(e:List (Int×Int)):(OU p e).length<=e.length:=by unfold OU;rw[X6];exact dA _ _
theorem Au(e:List (Int×Int)):(yw e).2.1.length<=e.length:=aU (Xf _) (a3e _ e)
def inD(n d:Int):Bool:=l7 (U1 0 d) (H9 d n) false
def zN(n:Int)(r:aY):List Int:=(yw r.2.2.2.2.2.1).2.1.filter (inD n)++(yw r.2.2.2.2.2.2.1).2.1.filter (inD n)
theorem Qq(p:Int->Bool):∀(l b:List Int),l.foldl (λacc x=>l7 (p x) (acc++[x]) acc) b=b++l.filter p
 |[],b=>by simp|a::l,b=>by rw[V7,Qq p l,jc];cases p a<;>simp
variable {f:List Int×Int->Option ((List Int×Int)⊕List Int)}
theorem TW(l b:List Int)(n:Int)(hl:l.length<=1000)(hb:b.length<=1000)
  (hin:∀(i:Nat) (a:Int) (acc:List Int),l[i]? =some a->i<=1000000->f (acc,(i:Int))=l7 (U1 0 a) (l7 (H9 a n) (l9 (aX acc [a]) λx=>some (.inl (x,G5 .i64 (i:Int) 1))) (some (.inl (acc,G5 .i64 (i:Int) 1)))) (some (.inl (acc,G5 .i64 (i:Int) 1))))
  (hend:∀acc,f (acc,(l.length:Int))=some (.inr acc)):aG f (b,0)=some (b++l.filter (inD n)):=by
 have key:=yI l (λ(acc:List Int) x=>l7 (inD n x) (acc++[x]) acc) (λb i=>(b,i)) (λb=>b) (λi acc=>acc.length<=1000+i) (f:=f) (b:=b) o5 o5 ?_ ?_
 .rw[key.1,Qq]
 .intro i a acc ha hi hI;have:=(ax.1 ha).1;rw[hin i a acc ha hi,bD o5,mM _ o5];unfold inD;cases U1 0 a
  .exact⟨rfl,by show acc.length<=_;omega⟩
  cases H9 a n
  .exact⟨rfl,by show acc.length<=_;omega⟩
  .exact⟨rfl,by simp;omega⟩
 .intro acc hI;rw[hend]
theorem LU(n:Int)(h1:r.2.2.2.2.2.1.length<=50)(h2:r.2.2.2.2.2.2.1.length<=50):qO r n=some (zN n r):=by
 have g1:=Au r.2.2.2.2.2.1;have g2:=Au r.2.2.2.2.2.2.1;unfold qO zN;rw[Jb o5,o9,Jb o5,o9];refine U9 (TW (yw r.2.2.2.2.2.1).2.1 [] n o5 x9 (λi a acc ha hi=>?_) (λacc=>?_)) ?_
 rotate_left 2
 .rw[o9,vF,F7];have:=dA (inD n) (yw r.2.2.2.2.2.1).2.1;refine TW (yw r.2.2.2.2.2.2.1).2.1 _ n o5 o5 (λi a acc ha hi=>?_) (λacc=>?_)
  .simp only[N8 ha,o7,I9,ha,o9];rw[show di (yw r.2.2.2.2.2.2.1).2.1 (aW (i:Int))=some a from ha,o9]
  .simp only[N7];rfl
 .simp only[N8 ha,o7,I9,ha,o9];rw[show di (yw r.2.2.2.2.2.1).2.1 (aW (i:Int))=some a from ha,o9]
 .simp only[N7];rfl
def nD(s:L9):Int:=o8 s.2.2.2.1
def dl(n:Int)(rs:List aY)(d:Int):List Int:=rs.flatMap λr=>l7 (C9 r.2.1 d) (zN n r) []
def mX(s:L9)(d:Int):List Int:=l7 (inD (nD s) d) (JL (dl (nD s) s.2.2.2.2 d)) []
theorem MP(h:SmS s)(hr:r∈s.2.2.2.2)(n:Int):(zN n r).length<=100:=by obtain⟨_,h1,h2⟩:=h.ro r hr;have a1:=Au r.2.2.2.2.2.1;have a2:=Au r.2.2.2.2.2.2.1;have b1:=dA (inD n) (yw r.2.2.2.2.2.1).2.1;have b2:=dA (inD n) (yw r.2.2.2.2.2.2.1).2.1;unfold zN;rw[D8];omega
theorem N_(n:Int)(rs:List aY)(r:aY)(d:Int):dl n (rs++[r]) d=dl n rs d++l7 (C9 r.2.1 d) (zN n r) []:=by unfold dl;rw[List.flatMap_append];simp
theorem M_(n:Int)(rs:List aY)(r:aY)(d:Int):dl n (r::rs) d=l7 (C9 r.2.1 d) (zN n r) []++dl n rs d:=rfl
theorem YN{s:L9}(h:SmS s)(n d:Int):∀(rs:List aY),(∀r∈rs,r∈s.2.2.2.2)->(dl n rs d).length<=100*rs.length
 |[],_=>by simp[dl]|r::rs,hm=>by
  have ih:=YN h n d rs λr hr=>hm r (by simp[hr]);have h1:=MP h (hm r x9) n;rw[M_,D8,D9];cases C9 r.2.1 d
  .simp only[o6,L6];omega
  .simp only[o7];omega
variable {d:Int}{x:Int}
theorem a8q{n:Int}{rs:List aY} :x∈dl n rs d↔∃r∈rs,r.2.1=d/\x∈zN n r:=by
 unfold dl;rw[List.mem_flatMap];constructor
 .rintro⟨r,hr,hx⟩;cases hq:C9 r.2.1 d<;>rw[hq]at hx
  .simp at hx
  .exact⟨r,hr,iF.1 hq,hx⟩
 .rintro⟨r,hr,hq,hx⟩;exact⟨r,hr,by rw[aB hq];exact hx⟩
theorem a3T{n:Int}(h:x∈zN n r):0<=x/\x<n:=by
 have key:inD n x=true:=by unfold zN at h;rcases O8.1 h with h|h<;>exact(pz.1 h).2
 unfold inD at key;cases h0:U1 0 x<;>rw[h0]at key
 .cases key
 .exact⟨uo.1 h0,yZ.1 key⟩
theorem DI(s:L9)(d:Int):SI (mX s d):=by
 unfold mX;cases inD (nD s) d
 .exact List.Pairwise.nil
 .exact a0D _
theorem Aj(h:x∈mX s d):0<=x/\x<nD s:=by
 unfold mX at h;cases hq:inD (nD s) d<;>rw[hq]at h
 .simp at h
 .obtain⟨r,_,_,hx⟩:=a8q.1 ((Xk _ _).1 h);exact a3T hx
theorem Xb(s:L9)(l b:List Int)(hl:l.length<=1000)(hb:b.length<=100000)
  (hin:∀(i:Nat) (a:Int) (acc:List Int),l[i]? =some a->i<=1000000->f (acc,(i:Int))=l9 (Bq s a) λx=>l7 x (l9 (pI acc a) λx=>some (.inl (x,G5 .i64 (i:Int) 1))) (some (.inl (acc,G5 .i64 (i:Int) 1))))
  (hend:∀acc,f (acc,(l.length:Int))=some (.inr acc)):aG f (b,0)=some (Dn (l.filter (inD (nD s))) b):=by
 have key:=yI l (λ(acc:List Int) x=>l7 (inD (nD s) x) (ins x acc) acc) (λb i=>(b,i)) (λb=>b) (λi acc=>acc.length<=100000+i) (f:=f) (b:=b) o5 o5 ?_ ?_
 .have hf:∀(l b:List Int),l.foldl (λ(acc:List Int) x=>l7 (inD (nD s) x) (ins x acc) acc) b=Dn (l.filter (inD (nD s))) b:=by
   intro l;induction l with
   |nil=>intro b;rfl|cons a l ih=>intro b;rw[V7,ih,jc];cases inD (nD s) a<;>rfl
  rw[key.1,hf]
 .intro i a acc ha hi hI;have hlt:=(ax.1 ha).1;have h2:=ww a acc;rw[hin i a acc ha hi,a3S,o9,bD o5,Bo _ o5];change l7 (inD (nD s) a) _ _=_/\_;cases inD (nD s) a
  .exact⟨rfl,by show acc.length<=_;omega⟩
  .exact⟨rfl,by show(ins a acc).length<=_;omega⟩
 .intro acc hI;rw[hend]
theorem QV(h:SmS s)(d:Int):xN s d=some (mX s d):=by
 have hnr:=h.nr;unfold xN mX;rw[a3S,o9];change l7 (G7 (inD (nD s) d)) _ _=_;cases inD (nD s) d
 .rfl
 simp only[J5,o6,o7];refine kR s.2.2.2.2 (λ(acc:List Int) r=>l7 (C9 r.2.1 d) (Dn (zN (nD s) r) acc) acc) (λb i=>(b,i)) (λb=>b) (λi acc=>acc.length<=100*i) [] o5 x9 (λi r acc ha hi hI=>?_) (λacc hI=>?_) (λh2=>?_)
 .have hlt:=(ax.1 ha).1;obtain⟨_,h1,h2⟩:=h.ro r (mJ ha);have a1:=Au r.2.2.2.2.2.1;have a2:=Au r.2.2.2.2.2.2.1;have hlen:=Ce (zN (nD s) r) acc;have hrl:=MP h (mJ ha) (nD s);simp only[N8 ha,o7,I9,ha,o9];rw[bD o5];cases C9 r.2.1 d
  .exact⟨rfl,by show acc.length<=_;omega⟩
  simp only[J5,o6,o7,Gz (show r.2.2.2.2.2.1.length<=500000 by omega),Gz (show r.2.2.2.2.2.2.1.length<=500000 by omega),o9];refine⟨?_,by show(Dn (zN (nD s) r) acc).length<=_;omega⟩;refine U9 (Xb s (yw r.2.2.2.2.2.1).2.1 acc o5 o5 (λi a acc ha hi=>?_) (λacc=>?_)) ?_
  rotate_left 2
  .rw[o9];have hl2:=Ce ((yw r.2.2.2.2.2.1).2.1.filter (inD (nD s))) acc;have hl3:=dA (inD (nD s)) (yw r.2.2.2.2.2.1).2.1;refine U9 (Xb s (yw r.2.2.2.2.2.2.1).2.1 _ o5 o5 (λi a acc ha hi=>?_) (λacc=>?_)) ?_
   rotate_left 2
   .rw[o9];unfold zN;rw[NT]
   .simp only[N8 ha,o7,I9,ha,o9];rw[show di (yw r.2.2.2.2.2.2.1).2.1 (aW (i:Int))=some a from ha];rfl
   .simp only[N7];rfl
  .simp only[N8 ha,o7,I9,ha,o9];rw[show di (yw r.2.2.2.2.2.1).2.1 (aW (i:Int))=some a from ha];rfl
  .simp only[N7];rfl
 .simp only[N7];rfl
 .have hf:∀(l:List aY) (b:List Int),l.foldl (λ(acc:List Int) r=>l7 (C9 r.2.1 d) (Dn (zN (nD s) r) acc) acc) b=Dn (dl (nD s) l d) b:=by
   intro l;induction l with
   |nil=>intro b;rfl|cons a l ih=>intro b;rw[V7,ih,M_,NT];cases C9 a.2.1 d<;>rfl
  rw[hf];rfl
theorem a0f(m k:Nat)(f:Nat->α)(v:α):((List.range m).map f).set k v=(List.range m).map λd=>if d=k then v else f d:=by
 apply dV;intro i;rw[Y2,fP,fP,X6,fQ];by_cases hi:i<m
 .rw[List.getElem?_range hi];by_cases h:k=i
  .subst h;simp[hi]
  .simp[h,Ne.symm h]
 .have:(List.range m)[i]? =none:=by simp;omega
  rw[this];by_cases h:k=i
  .subst h;simp[hi]
  .simp[h]
def PM(m:Nat)(rs:List aY):List (List Int):=(List.range m).map λ(d:Nat)=>dl (m:Int) rs (d:Int)
theorem Wh{l:List Int}(hl:l.length<=1000000):AU l=some (JL l):=BX hl
theorem Vp(m:Nat)(f:Nat->α)(h:k<m):((List.range m).map f)[k]? =some (f k):=by rw[fP,List.getElem?_range h];rfl
theorem UR(h:SmS s):wZ s=some ((List.range s.2.2.2.1.length).map λ(d:Nat)=>mX s (d:Int)):=by
 have hnr:=h.nr;have hnd:=h.nd;unfold wZ;generalize hm:s.2.2.2.1.length=m at*;have hn:nD s=(m:Int):=by unfold nD o8;rw[hm]
 rw[show o8 s.2.2.2.1=(m:Int)from hn,show Gs (m:Int) ([]:List Int)=some (PM m []) by unfold Gs PM dl;rw[if_pos o5];simp[List.map_const'],o9];refine kR s.2.2.2.2 (λ(b:List (List Int)) r=>l7 (inD m r.2.1) (b.set r.2.1.toNat ((b.getD r.2.1.toNat [])++zN m r)) b) (λb i=>(b,i)) (λb=>b) (λi b=>b=PM m (s.2.2.2.2.take i)) (PM m []) o5 x9 (λi r b ha hi hI=>?_) (λb hI=>?_) (λh2=>?_)
 .have hlt:=(ax.1 ha).1;obtain⟨_,h1,h2⟩:=h.ro r (mJ ha);have hst:s.2.2.2.2.take (i+1)=s.2.2.2.2.take i++[r]:=by
   rw[U4 hlt,(ax.1 ha).2]
  have hlb:o8 b=(m:Int):=by rw[hI];simp[o8,PM]
  obtain⟨rd,hrd⟩:∃rd:Int,r.2.1=rd:=⟨r.2.1,rfl⟩;simp only[N8 ha,o7,I9,ha,o9,hlb,hrd];rw[bD o5,hst];by_cases hd:0<=rd/\rd<(m:Int)
  .obtain⟨d0,d1⟩:=hd;have hk:rd.toNat<m:=o5;have hkk:((rd.toNat:Nat):Int)=rd:=o5;have hg:b[rd.toNat]? =some (dl m (s.2.2.2.2.take i) rd):=by rw[hI];unfold PM;rw[Vp m _ hk,hkk]
   have hll:=YN h m rd (s.2.2.2.2.take i) λr hr=>oI hr;have hrl:=MP h (mJ ha) m;have htl:(s.2.2.2.2.take i).length<=60:=by simp;omega
   rw[aZ d0,dU d1,show inb rd (m:Int)=true by unfold inb;simp;omega,show di b (aW rd)=some (dl m (s.2.2.2.2.take i) rd)from hg,LU _ h1 h2];simp only[o7,o9];rw[vK o5,show JB (aW rd) (aW rd)=true by simp[JB]];simp only[o7,o9];have hin:inD m rd=true:=by unfold inD;rw[aZ d0,dU d1];rfl
   rw[hin,show b.getD rd.toNat []=dl m (s.2.2.2.2.take i) rd by rw[Me,hg];rfl];refine⟨rfl,?_⟩;show b.set rd.toNat _=_;rw[hI];unfold PM;rw[a0f];apply fZ;intro d hdm;rw[N_,hrd];by_cases hq:d=rd.toNat
   .subst hq;rw[if_pos rfl,hkk,aB rfl];rfl
   .rw[if_neg hq,P6 o5];simp
  .have hin:inD m rd=false:=by
    unfold inD;by_cases d0:0<=rd
    .rw[aZ d0,bT o5];rfl
    .rw[dw o5];rfl
   rw[hin];refine⟨?_,?_⟩
   .unfold inD at hin;cases q0:U1 0 rd
    .rfl
    .rw[q0]at hin;simp only[o7]at hin ⊢;rw[hin];rfl
   .show b=_;rw[hI];unfold PM;apply fZ;intro d hdm;have:=eH.1 hdm;rw[N_,hrd,P6 o5];simp
 .simp only[N7];rfl
 .rw[dF]at h2;rw[h2];generalize hA:PM m s.2.2.2.2=A;have hAl:o8 A=(m:Int):=by rw[←hA];simp[o8,PM]
  refine kR (List.range m) (λ(b:List (List Int)) d=>b.set d (JL (b.getD d []))) (λb i=>(b,i)) (λb=>b) (λi b=>b=(List.range m).map λ(d:Nat)=>if d<i then JL (dl m s.2.2.2.2 (d:Int))else dl m s.2.2.2.2 (d:Int)) A G6 (by rw[←hA];unfold PM;simp) (λi d b ha hi hI=>?_) (λb hI=>?_) (λh3=>?_)
  .have hlt:=(ax.1 ha).1;simp only[fQ]at hlt;have hdi:d=i:=by rw[List.getElem?_range hlt]at ha;exact(tJ ha).symm
   subst hdi;have hlb:o8 b=(m:Int):=by rw[hI];simp[o8]
   have hg:b[d]? =some (dl m s.2.2.2.2 (d:Int)):=by rw[hI,Vp m _ hlt,if_neg o5]
   have hll:=YN h m d s.2.2.2.2 λr hr=>hr;simp only[hAl,hlb];rw[dU (show(d:Int)<(m:Int) by omega),show inb (d:Int) (m:Int)=true by unfold inb;simp;omega,show di b (aW (d:Int))=some (dl m s.2.2.2.2 (d:Int))from hg];simp only[o7,o9];rw[Wh o5,show JB (aW (d:Int)) (aW (d:Int))=true by simp[JB],bD o5];simp only[o7,o9];rw[show b.getD d []=dl m s.2.2.2.2 (d:Int) by rw[Me,hg];rfl];refine⟨rfl,?_⟩;rw[hI,a0f];apply fZ;intro e he;by_cases hq:e=d
   .subst hq;rw[if_pos rfl,if_pos o5]
   .rw[if_neg hq];by_cases hq2:e<d
    .rw[if_pos hq2,if_pos o5]
    .rw[if_neg hq2,if_neg o5]
  .simp only[fQ,hAl,bT (show(m:Int)<=(m:Int) by omega)];rfl
  .rw[h3];apply congrArg some;apply fZ;intro d hd;have:=eH.1 hd;simp only[fQ];rw[if_pos this];unfold mX;rw[hn,show inD (m:Int) (d:Int)=true by unfold inD;rw[aZ o5,dU o5];rfl];rfl
def Rch(D:Int->List Int)(d:Int)(L:List Int):Prop:=SI L/\(∀x∈D d,x∈L)/\(∀x∈L,∀y∈D x,y∈L)/\∀C:Int->Prop,(∀x∈D d,C x)->(∀x,C x->∀y∈D x,C y)->∀x∈L,C x
theorem Rch.unique{D:Int->List Int}{L M:List Int}(h:Rch D d L)(k:Rch D d M):L=M:=
 ZT h.1 k.1 λx=>⟨λhx=>h.2.2.2 (λy=>y∈M) k.2.1 k.2.2.1 x hx,λhx=>k.2.2.2 (λy=>y∈L) h.2.1 h.2.2.1 x hx⟩
theorem Wl:∀{B A:List Int},SI A->SI B->(∀x∈A,x∈B)->A=B\/A.length<B.length
 |[],A,_,_,h=>by
  cases A with
  |nil=>exact .inl rfl|cons a A=>exact absurd (h a x9) x9
 |b::B,[],_,_,_=> .inr x9|b::B,a::A,hA,hB,h=>by
  have hA' :=U5.1 hA;have hB' :=U5.1 hB;rcases A8.1 (h a x9)with hab|hab
  .subst hab;rcases Wl (B:=B) (A:=A) hA'.2 hB'.2 (λx hx=>by
    rcases A8.1 (h x (by simp[hx]))with h1|h1
    .have:=hA'.1 x hx;omega
    .exact h1)with h1|h1
   .exact .inl (by rw[h1])
   .exact .inr (by simp only[D9];omega)
  .have hab2:=hB'.1 a hab;rcases Wl (B:=B) (A:=a::A) hA hB'.2 (λx hx=>by
    rcases A8.1 (h x hx)with h1|h1
    .rcases A8.1 hx with h2|h2
     .omega
     .have:=hA'.1 x h2;omega
    .exact h1)with h1|h1
   .exact .inr (by rw[h1];simp)
   .exact .inr (by simp only[D9]at*;omega)
def DZ(D:Int->List Int)(L:List Int):List Int:=L.foldl (λacc x=>Dn (D x) acc) L
theorem Ea(D:Int->List Int)(x:Int):∀(l acc:List Int),x∈l.foldl (λacc x=>Dn (D x) acc) acc↔x∈acc\/∃y∈l,x∈D y
 |[],acc=>by simp|a::l,acc=>by
  rw[V7,Ea D x l,KE];constructor
  .rintro((h|h)|⟨y,hy,h⟩)
   .exact .inr ⟨a,x9,h⟩
   .exact .inl h
   .exact .inr ⟨y,by simp[hy],h⟩
  .rintro(h|⟨y,hy,h⟩)
   .exact .inl (.inr h)
   .rcases A8.1 hy with rfl|hy
    .exact .inl (.inl h)
    .exact .inr ⟨y,hy,h⟩
theorem a0l(D:Int->List Int):∀(l:List Int) {acc:List Int},SI acc->SI (l.foldl (λacc x=>Dn (D x) acc) acc)
 |[],_,h=>h|a::l,_,h=>by rw[V7];exact a0l D l (Px _ h)
theorem QN(D:Int->List Int){L:List Int}(h:SI L):SI (DZ D L):=a0l D L h
def itS(D:Int->List Int)(d:Int):Nat->List Int
 |0=>D d|k+1=>DZ D (itS D d k)
section
variable {D:Int->List Int} {n:Nat} (hsi:∀x,SI (D x)) (hin:∀x,∀y∈D x,0<=y/\y<(n:Int))
include hsi hin
theorem Uf(d:Int):∀k,SI (itS D d k)
 |0=>hsi d|k+1=>QN D (Uf d k)
theorem W_(d:Int):∀k,∀x∈itS D d k,0<=x/\x<(n:Int)
 |0,x,hx=>hin d x hx|k+1,x,hx=>by
  rcases(Ea D x _ _).1 hx with h|⟨y,_,h⟩
  .exact W_ d k x h
  .exact hin y x h
theorem V_(d:Int)(k:Nat):DZ D (itS D d k)=itS D d k\/(itS D d k).length<(DZ D (itS D d k)).length:=by
 rcases Wl (Uf hsi hin d k) (QN D (Uf hsi hin d k)) (λx hx=>(Ea D x _ _).2 (.inl hx))with h|h
 .exact .inl h.symm
 .exact .inr h
theorem Ug(d:Int):∀k,DZ D (itS D d k)=itS D d k\/k<(DZ D (itS D d k)).length
 |0=>by
  rcases V_ hsi hin d 0 with h|h
  .exact .inl h
  .exact .inr o5
 |k+1=>by
  rcases Ug d k with h|h
  .exact .inl (by show DZ D (DZ D (itS D d k))=DZ D (itS D d k);rw[h,h])
  .rcases V_ hsi hin d (k+1)with h2|h2
   .exact .inl h2
   .exact .inr (by have:(itS D d (k+1)).length=(DZ D (itS D d k)).length:=rfl;omega)
theorem a8o(d:Int):Rch D d (itS D d n):=by
 have hst:DZ D (itS D d n)=itS D d n:=by
  rcases Ug hsi hin d n with h|h
  .exact h
  .have:=VV n (QN D (Uf hsi hin d n)) (W_ hsi hin d (n+1));omega
 refine⟨Uf hsi hin d n,?_,?_,?_⟩
 .intro x hx;have:∀k,x∈itS D d k:=by
   intro k;induction k with
   |zero=>exact hx|succ k ih=>exact(Ea D x _ _).2 (.inl ih)
  exact this n
 .intro x hx y hy;rw[←hst];exact(Ea D y _ _).2 (.inr ⟨x,hx,hy⟩)
 .intro C h1 h2;have:∀k,∀x∈itS D d k,C x:=by
   intro k;induction k with
   |zero=>exact h1|succ k ih=>
    intro x hx;rcases(Ea D x _ _).1 hx with h|⟨y,hy,h⟩
    .exact ih x h
    .exact h2 y (ih y hy) x h
  exact this n
end
def wF(s:L9)(d:Int):List Int:=itS (mX s) d s.2.2.2.1.length
theorem Nw(s:L9)(d:Int):Rch (mX s) d (wF s d):=
 a8o (n:=s.2.2.2.1.length) (DI s) (λx y hy=>Aj hy) d
theorem Yj(h:x∈wF s d):0<=x/\x<nD s:=W_ (n:=s.2.2.2.1.length) (DI s) (λx y hy=>Aj hy) d _ x h
theorem YM(h:SmS s)(d:Int):(mX s d).length<=14:=
 aU (VV s.2.2.2.1.length (DI s d) (λx hx=>Aj hx)) h.nd
theorem EC(h:SmS s){l:List Int}(hs:SI l)(hi:∀x∈l,0<=x/\x<nD s):l.length<=14:=aU (VV s.2.2.2.1.length hs hi) h.nd
theorem QZ(h:SmS s)(d:Int):uz s d=some (wF s d):=by
 have hnd:=h.nd;unfold uz;rw[QV h,o9];have hsi:=DI s;have hin:∀x,∀y∈mX s x,0<=y/\y<((s.2.2.2.1.length:Nat):Int):=λx y hy=>Aj hy;refine kR s.2.2.2.1 (λ(b:List Int) (_:eG)=>DZ (mX s) b) (λb i=>(b,i)) (λb=>b) (λi b=>b=itS (mX s) d i) (mX s d) o5 rfl (λi f b ha hi hI=>?_) (λb hI=>?_) (λh2=>?_)
 .simp only[N8 ha,o7];refine⟨?_,by show DZ _ b=_;rw[hI];rfl⟩;have hb1:SI b:=by rw[hI];exact Uf hsi hin d i
  have hb2:∀x∈b,0<=x/\x<nD s:=by rw[hI];exact W_ hsi hin d i
  have hbl:=EC h hb1 hb2;rw[bD o5];refine kR b (λ(acc:List Int) x=>Dn (mX s x) acc) (λb i=>(b,i)) (λb=>b) (λi acc=>SI acc/\∀x∈acc,0<=x/\x<nD s) b o5 ⟨hb1,hb2⟩ (λj x acc hx hj hJ=>?_) (λacc hJ=>?_) (λh3=>?_)
  .have hal:=EC h hJ.1 hJ.2;have hdl:=YM h x;simp only[N8 hx,o7,I9,hx,o9,QV h x];rw[bD o5];refine⟨?_,Px _ hJ.1,λy hy=>?_⟩
   .refine kR (mX s x) (λ(acc:List Int) y=>ins y acc) (λb i=>(b,i)) (λb=>b) (λi a=>a.length<=acc.length+i) acc o5 o5 (λk y a hy hk hK=>?_) (λa hK=>?_) (λh4=>?_)
    .have hlt:=(ax.1 hy).1;have hli:=ww y a;simp only[N8 hy,o7,I9,hy,o9];rw[show di (mX s x) (aW (k:Int))=some y from hy,o9,Bo _ o5,o9,bD o5];exact⟨rfl,by show(ins y a).length<=_;omega⟩
    .simp only[N7];rfl
    .rfl
   .rcases(KE y _ _).1 hy with h4|h4
    .exact Aj h4
    .exact hJ.2 y h4
  .simp only[N7];rfl
  .rfl
 .simp only[N7];rfl
 .rw[h2];rfl
def mk(S:List Bool)(x:Int):Bool:=if 0<=x then S.getD x.toNat false else false
def unm(S:List Bool):Nat:=S.count false
def rG(b:List Bool×List Int)(e:Int):List Bool×List Int:=l7 (mk b.1 e) b (b.1.set e.toNat true,b.2++[e])
variable {S:List Bool}
theorem a2T(h0:0<=x)(h1:x<o8 S):S[x.toNat]? =some (mk S x):=by
 unfold mk;rw[if_pos h0,Me];have:x.toNat<S.length:=by simp only[o8]at h1;omega
 rw[lw this];rfl
theorem a2U{e:Int}(h0:0<=e)(h1:e<o8 S)(x:Int):mk (S.set e.toNat true) x=l7 (C9 x e) true (mk S x):=by
 unfold mk;have hl:e.toNat<S.length:=by simp only[o8]at h1;omega
 by_cases hx:0<=x
 .rw[if_pos hx,if_pos hx,Me,Me,Y2];by_cases hq:x=e
  .subst hq;rw[if_pos rfl,if_pos hl,aB rfl];rfl
  .rw[if_neg o5,P6 hq];rfl
 .rw[if_neg hx,if_neg hx,P6 o5];rfl
theorem a7l{e:Int}(h0:0<=e)(h1:e<o8 S)(hm:mk S e=false):unm (S.set e.toNat true)+1=unm S:=by
 have hl:e.toNat<S.length:=by simp only[o8]at h1;omega
 have hg:=a2T h0 h1;rw[hm,lw hl]at hg;have hg' :S[e.toNat]=false:=tJ hg;unfold unm;rw[List.count_set hl,hg'];have:0<S.count false:=List.count_pos_iff.2 (by rw[←hg'];exact O5 hl);simp;omega
structure RInv (n:Nat) (S:List Bool) (Q:List Int) (l:List Int) (S' :List Bool) (Q' :List Int):Prop where
 len:S'.length=n
 seen:∀x:Int,0<=x->x<(n:Int)->(mk S' x=true↔mk S x=true\/x∈l)
 sum:Q'.length+unm S' =Q.length+unm S
 le:unm S' <=unm S
 old:∀x∈Q,x∈Q'
 new:∀x∈Q',x∈Q\/x∈l
 got:∀x,mk S' x=true->mk S x=true\/x∈Q'
theorem a4b{n:Nat} :∀(l:List Int) (S:List Bool) (Q:List Int),S.length=n->(∀x∈l,0<=x/\x<(n:Int))->RInv n S Q l (l.foldl rG (S,Q)).1 (l.foldl rG (S,Q)).2
 |[],S,Q,hl,_=>⟨hl,λx _ _=>by simp,rfl,F5 _,λx hx=>hx,λx hx=> .inl hx,λx hx=> .inl hx⟩|e::l,S,Q,hl,hi=>by
  have he:=hi e x9;have hel:e<o8 S:=by simp only[o8];omega
  rw[V7];cases hm:mk S e with
  |true=>
   rw[show rG (S,Q) e=(S,Q) by unfold rG;rw[hm];rfl];have ih:=a4b l S Q hl λx hx=>hi x (by simp[hx]);refine⟨ih.len,λx h0 h1=>?_,ih.sum,ih.le,ih.old,λx hx=>?_,ih.got⟩
   .rw[ih.seen x h0 h1,A8];constructor
    .rintro(h|h)
     .exact .inl h
     .exact .inr (.inr h)
    .rintro(h|h|h)
     .exact .inl h
     .subst h;exact .inl hm
     .exact .inr h
   .rcases ih.new x hx with h|h
    .exact .inl h
    .exact .inr (by simp[h])
  |false=>
   rw[show rG (S,Q) e=(S.set e.toNat true,Q++[e]) by unfold rG;rw[hm];rfl];have ih:=a4b l (S.set e.toNat true) (Q++[e]) (by simp[hl]) λx hx=>hi x (by simp[hx]);have hu:=a7l he.1 hel hm;refine⟨ih.len,λx h0 h1=>?_,?_,?_,λx hx=>ih.old x (by simp[hx]),λx hx=>?_,λx hx=>?_⟩
   .rw[ih.seen x h0 h1,a2U he.1 hel,A8];cases hq:C9 x e
    .rw[xm]at hq;simp[hq]
    .rw[iF]at hq;simp[hq]
   .have:=ih.sum;simp only[D8,D9,L6]at this;omega
   .have:=ih.le;omega
   .rcases ih.new x hx with h|h
    .rcases O8.1 h with h|h
     .exact .inl h
     .exact .inr (by simp at h;simp[h])
    .exact .inr (by simp[h])
   .rcases ih.got x hx with h|h
    .rw[a2U he.1 hel]at h;cases hq:C9 x e
     .rw[hq]at h;exact .inl h
     .rw[iF]at hq;subst hq;exact .inr (ih.old _ x9)
    .exact .inr h
def NW(S:List Bool):List Int:=((List.range S.length).filter λi=>S.getD i false).map λ(i:Nat)=>(i:Int)
theorem Il(x:Int):x∈NW S↔mk S x=true:=by
 unfold NW mk;rw[iU];constructor
 .rintro⟨i,hi,rfl⟩;rw[if_pos o5];exact(pz.1 hi).2
 .intro h;split at h
  .refine⟨x.toNat,pz.2 ⟨eH.2 ?_,h⟩,o5⟩;rw[Me]at h;cases hg:S[x.toNat]? with
   |none=>rw[hg]at h;cases h|some b=>exact(ax.1 hg).1
  .cases h
theorem a2R(S:List Bool):SI (NW S):=by unfold NW;refine List.Pairwise.map _ (R:=(·< ·)) (λa b h=>by omega) (List.Pairwise.filter _ List.pairwise_lt_range)
theorem Zg(S:List Bool)(hS:S.length<=100)
  (hin:∀(i:Nat) (a:Bool) (acc:List Int),S[i]? =some a->i<=1000000->acc.length<=i->f (acc,(i:Int))=l7 a (l9 (aX acc [(i:Int)]) λx=>some (.inl (x,G5 .i64 (i:Int) 1))) (some (.inl (acc,G5 .i64 (i:Int) 1))))
  (hend:∀acc,f (acc,(S.length:Int))=some (.inr acc)):aG f ([],0)=some (NW S):=by
 have mk2:∀i,i<=S.length->((List.range i).filter λi=>S.getD i false).length<=i:=λi _=>by have:=dA (λi=>S.getD i false) (List.range i);simpa using this
 obtain⟨e,h1,h2⟩:=pO (f:=f) (s:=([],0)) (λx=>∃i:Nat,x=(((List.range i).filter λi=>S.getD i false).map λ(i:Nat)=>(i:Int),(i:Int))/\i<=S.length) (λe=>e=NW S) (λx=>S.length -x.2.toNat) ⟨0,rfl,o5⟩ G6 (by
  rintro x ⟨i,rfl,hi⟩;by_cases h:i<S.length
  .have e:=lw h;have hst:(List.range (i+1)).filter (λi=>S.getD i false)=(List.range i).filter (λi=>S.getD i false)++l7 S[i] [i] []:=by
    rw[fH,List.filter_append];congr 1;rw[jc,Me,e];cases S[i]<;>rfl
   have hl:=mk2 i hi;refine .inl ⟨(((List.range (i+1)).filter λi=>S.getD i false).map λ(i:Nat)=>(i:Int),((i+1:Nat):Int)),?_,⟨i+1,rfl,h⟩,by simp;omega⟩;rw[hin i _ _ e o5 (by simpa using hl),bD o5,hst,gW,mM _ (by rw[X6];omega)];cases S[i]
   .simp
   .rfl
  .have:i=S.length:=o5;subst this;exact .inr ⟨_,hend _,rfl⟩)
 rw[h1,h2]
theorem Zx{D:Int->List Int}{n:Nat}(hn:n<=14)(hsi:∀x,SI (D x))(hin:∀x,∀y∈D x,0<=y/\y<(n:Int))(h0:0<=d)(h1:d<(n:Int)):
  ∃L,zS ((List.range n).map λ(x:Nat)=>D (x:Int)) d=some L/\Rch D d L:=by
 have hA:o8 ((List.range n).map λ(x:Nat)=>D (x:Int))=(n:Int):=by simp[o8]
 have hget:∀x:Int,0<=x->x<n->J8 ((List.range n).map λ(x:Nat)=>D (x:Int)) x=some (D x):=λx a b=>by
  have:x.toNat<n:=o5;unfold J8
  rw[if_pos a,Vp n _ this,fV a]
 unfold zS;generalize (List.range n).map (λ(x:Nat)=>D (x:Int))=A at*;rw[hA,show Gs (n:Int) false=some (List.replicate n false) by unfold Gs;rw[if_pos o5];simp,o9];have hD14:∀x,(D x).length<=14:=λx=>aU (VV n (hsi x) (hin x)) hn;have key:=pO (f:=λ(x:List Bool×List Int)=>l7 (H9 0 (o8 x.2)) (l9 (J8 x.2 0) λ(x_1:Int)=>l9 (di x.2 (aW 0)) λ(x_2:Int)=>l7 (jV 1 (o8 x.2) (o8 x.2)) (l9 (J8 A x_2) λ(x_3:List Int)=>
   l9 (aG (λ(x:List Bool×List Int×Int)=>l7 (H9 x.2.2 (o8 x_3)) (l9 (J8 x_3 x.2.2) λ(x_4:Int)=>l9 (J8 x.1 x_4) λ(x_5:Bool)=>l9 (di x.1 (aW x_4)) λ(x_6:Bool)=>
     l7 (G7 x_6) (l9 (J8 x.1 x_4) λ(x_7:Bool)=>l9 (di x.1 (aW x_4)) λ(x_8:Bool)=>l9 (aX x.2.1 [x_4]) λ(x_9:List Int)=>some (.inl (qR x.1 (aW x_4) true,x_9,G5 .i64 x.2.2 1)))
      (some (.inl (x.1,x.2.1,G5 .i64 x.2.2 1)))) (some (.inr (x.1,x.2.1)))) (x.1,iY x.2 (aW 1) (aW (o8 x.2)),0)) λ(y:List Bool×List Int)=>some (.inl y)) none) (some (.inr x.1)))
  (s:=(List.replicate n false,[d]))
  (λx=>x.1.length=n/\(∀q∈x.2,0<=q/\q<(n:Int))/\x.2.length+unm x.1<=n+1/\(∀q∈x.2,q=d\/mk x.1 q=true)/\(∀v,v=d\/mk x.1 v=true->v∈x.2\/∀y∈D v,mk x.1 y=true)/\
   (∀C:Int->Prop,(∀x∈D d,C x)->(∀x,C x->∀y∈D x,C y)->∀v,mk x.1 v=true->C v)/\(∀v,mk x.1 v=true->0<=v/\v<(n:Int)))
  (λS=>S.length=n/\Rch D d (NW S)) (λx=>2*unm x.1+x.2.length) ?_ ?_ ?_
 .obtain⟨S,k1,k2,k3⟩:=key;refine⟨NW S,?_,k3⟩;refine(QP k1 _).trans ?_;rw[vF];refine Zg S o5 (λi a acc ha hi hacc=>?_) (λacc=>?_)
  .simp only[N8 ha,o7,I9,ha,o9];rw[show di S (aW (i:Int))=some a from ha,o9]
  .simp only[N7];rfl
 .have hnone:∀v,mk (List.replicate n false) v=false:=λv=>by
   unfold mk;split
   .rw[Me,List.getElem?_replicate];split<;>rfl
   .rfl
  refine⟨x9,λq hq=>by simp at hq;omega,?_,λq hq=> .inl (by simpa using hq),λv hv=>?_,λC _ _ v hv=>(by rw[hnone]at hv;cases hv),λv hv=>(by rw[hnone]at hv;cases hv)⟩
  .simp[unm,List.count_replicate];omega
  .rcases hv with rfl|hv
   .exact .inl x9
   .rw[hnone]at hv;cases hv
 .simp[unm,List.count_replicate];omega
 .rintro⟨S,Q⟩ ⟨i1,i2,i3,i4,i5,i6,i7⟩;simp only at i1 i2 i3 i4 i5 i6 i7;cases Q with
  |nil=>
   right;refine⟨S,rfl,i1,a2R S,λx hx=>?_,λx hx y hy=>?_,λC c1 c2 x hx=>i6 C c1 c2 x ((Il x).1 hx)⟩
   .rcases i5 d (.inl rfl)with h|h
    .cases h
    .exact(Il x).2 (h x hx)
   .rcases i5 x (.inr ((Il x).1 hx))with h|h
    .cases h
    .exact(Il y).2 (h y hy)
  |cons q Q=>
   left;have hq:=i2 q x9;have hfold:=a4b (n:=n) (D q) S Q i1 (λx hx=>hin q x hx);refine⟨(D q).foldl rG (S,Q),?_,?_,?_⟩
   .simp only[dU (show(0:Int)<o8 (q::Q) by simp[o8]<;>omega),o7,show J8 (q::Q) 0=some q from rfl,show di (q::Q) (aW 0)=some q from rfl,o9,hget q hq.1 hq.2,
     show jV 1 (o8 (q::Q)) (o8 (q::Q))=true by simp[jV,o8]<;>omega,show iY (q::Q) (aW 1) (aW (o8 (q::Q)))=Q by simp[iY,aW,o8]]
    refine kR (D q) rG (λb i=>(b.1,b.2,i)) (λb=>b) (λi b=>b.1.length=n/\b.2.length<=100+i) (S,Q) (by have:=hD14 q;omega) ⟨i1,by simp at i3;show Q.length<=100+0;omega⟩ (λi e b he hi hI=>?_) (λb hI=>?_) (λh2=>rfl)
    .obtain⟨S1,Q1⟩:=b;simp only at hI;have hee:=hin q e (mJ he);have hlt:=(ax.1 he).1;have hdl:=hD14 q;have hg:=a2T (S:=S1) hee.1 (by simp only[o8];omega);have hla:J8 S1 e=some (mk S1 e):=by unfold J8;rw[if_pos hee.1];exact hg
     have hlg:di S1 (aW e)=some (mk S1 e):=hg;simp only[N8 he,o7,I9 (D q),he,o9,hla,hlg];rw[bD o5,mM _ o5];unfold rG;simp only;cases mk S1 e
     .exact⟨rfl,by simp[hI.1],by simp<;>omega⟩
     .exact⟨rfl,hI.1,by show Q1.length<=_;omega⟩
    .simp only[N7];rfl
   .obtain⟨j1,j2,j3,j4,j5,j6,j7⟩:=hfold;generalize (D q).foldl rG (S,Q)=b at*;obtain⟨S',Q'⟩:=b;simp only at j1 j2 j3 j4 j5 j6 j7 ⊢;have hrange:∀v,mk S' v=true->0<=v/\v<(n:Int):=λv hv=>by
     rcases j7 v hv with h|h
     .exact i7 v h
     .rcases j6 v h with h|h
      .exact i2 v (by simp[h])
      .exact hin q v h
    refine⟨j1,λx hx=>?_,?_,λx hx=>?_,λv hv=>?_,λC c1 c2 v hv=>?_,hrange⟩
    .rcases j6 x hx with h|h
     .exact i2 x (by simp[h])
     .exact hin q x h
    .simp only[D9]at i3;omega
    .rcases j6 x hx with h|h
     .rcases i4 x (by simp[h])with h2|h2
      .exact .inl h2
      .have hr:=i7 x h2;exact .inr ((j2 x hr.1 hr.2).2 (.inl h2))
     .have hr:=hin q x h;exact .inr ((j2 x hr.1 hr.2).2 (.inr h))
    .have up:∀y,mk S y=true->mk S' y=true:=λy hy=>by
      have hr:=i7 y hy;exact(j2 y hr.1 hr.2).2 (.inl hy)
     by_cases hvq:v=q
     .subst hvq;right;intro y hy;have hr:=hin v y hy;exact(j2 y hr.1 hr.2).2 (.inr hy)
     .by_cases hold:v=d\/mk S v=true
      .rcases i5 v hold with h|h
       .rcases A8.1 h with h|h
        .exact absurd h hvq
        .exact .inl (j5 v h)
       .exact .inr λy hy=>up y (h y hy)
      .rcases hv with h|h
       .exact absurd (.inl h) hold
       .rcases j7 v h with h2|h2
        .exact absurd (.inr h2) hold
        .exact .inl h2
    .by_cases hS:mk S v=true
     .exact i6 C c1 c2 v hS
     .have hr:=hrange v hv;rcases(j2 v hr.1 hr.2).1 hv with h|h
      .exact absurd h hS
      .rcases i4 q x9 with h2|h2
       .subst h2;exact c1 v h
       .exact c2 q (i6 C c1 c2 q h2) v h
   .have:=hfold.sum;have:=hfold.le;simp only[D9];omega
theorem TG(h:SmS s)(h0:0<=d)(h1:d<nD s):vH s d=some (wF s d):=by have hn:nD s=((s.2.2.2.1.length:Nat):Int):=rfl;unfold vH;change l7 (H9 d 0) _ (l7 (U1 (nD s) d) _ _)=_;rw[bT h0,o6,dw h1,o6,UR h,o9,vF];obtain⟨L,k1,k2⟩:=Zx (D:=mX s) h.nd (DI s) (λx y hy=>Aj hy) h0 (show d<((s.2.2.2.1.length:Nat):Int) by omega);rw[k1,Rch.unique k2 (Nw s d)]
structure SmL (l:aA):Prop where
 few:Few l
 en:z_ l
 tb:WB l
 sc:∀s∈l.2.2,SmS s
theorem SmL.scopes(h:SmL l):JQ l:=λs hs=>by have hm:=h.sc s hs;exact⟨hm.nm,by have:=hm.ni;omega,by have:=hm.nd;omega,by have:=hm.nr;omega⟩
theorem Ij{ε ρ:Type}{p:Nat->Option ρ}(n:Nat)(hn:n<=1000000)(e:ε){f:Int->Option (Out Int ε ρ)}
  (h1:∀i,i<n->f (i:Int)=some (match p i with|some r=> .rt r|none=> .nx (G5 .i64 (i:Int) 1))) (h2:f (n:Int)=some (.ex e)):
  U8 f 0=some (match aS n p with|some r=> .inr r|none=> .inl e):=
 Ci n o5 e (λi hi=>by rw[h1 i hi,bD o5]<;>cases p i<;>rfl) h2
def GR(l:aA)(s:L9)(k:Nat):Option (Int×Int):=match s.2.2.2.2[k]? with|some r=>JZ (GU s (Lr l s) k r) (300+k:Nat)|none=>none
def WO(s:L9)(d:Nat):Option (Int×Int):=l7 ((wF s d).any λx=>C9 (d:Int) x) (some (9,((200+d:Nat):Int))) none
def Be(l:aA)(i:Nat)(m:Int):Bool:=l7 (C9 m (-1)) false (l7 (H9 m 0) true (l7 (U1 (i:Int) m) true (match J8 l.2.2 m with|some q=>G7 (C9 q.2.1 (-1))|none=>true)))
def MM(l:aA)(s:L9):Int×Int:=match vJ l s with
 |some r=>r
 |none=>match aS s.2.2.2.2.length (GR l s)with
  |some r=>r
  |none=>match aS s.2.2.2.1.length (WO s)with
   |some r=>r|none=>(0,0)
def yT(l:aA)(i:Nat)(s:L9):Int×Int:=
 l7 (uX s.1) (l7 (wX l 3 i s.1) (7,0) (l7 (Be l i s.2.1) (6,0) (l7 (H9 12 (o8 s.2.2.1)) (4,112) (l7 (H9 12 (o8 s.2.2.2.1)) (4,212) (MM l s))))) (2,0)
theorem SS(hL:SmL l)(hs:l.2.2[i]? =some s):xw l (i:Int)=some (yT l i s):=by
 have hi:=(ax.1 hs).1;have hS:=hL.sc s (mJ hs);have hf:=hL.few;have hf1:=hf.1;have hf2:=hf.2.1;have hf3:=hf.2.2;have n1:=hS.ni;have n2:=hS.nd;have n3:=hS.nr;unfold xw yT wX;rw[I9,hs,o9,wP o5,o9,Jr _ o5,o9,NQ _ o5,o9,WZ _ G6,o9];have hb:(l7 (l.1.any λx=>seq x.1 s.1) (some (s,true)) (l7 (l.2.1.any λx=>seq x.1 s.1) (some (s,true)) (some (s,(l.2.2.take i).any λx=>seq x.1 s.1))))=
   some (s,(l.1.any λx=>seq x.1 s.1) || (l.2.1.any λx=>seq x.1 s.1) || (l.2.2.take i).any λx=>seq x.1 s.1):=by
  cases l.1.any λx=>seq x.1 s.1
  .cases l.2.1.any λx=>seq x.1 s.1<;>rfl
  .rfl
 rw[hb,o9];simp only;rw[oM hS.nm,o9];cases uX s.1
 .rfl
 simp only[J5,o6,o7];cases (l.1.any λx=>seq x.1 s.1) || (l.2.1.any λx=>seq x.1 s.1) || (l.2.2.take i).any λx=>seq x.1 s.1
 case true=>rfl
 simp only[o6];have hm:(l7 (G7 (C9 s.2.1 (-1))) (l7 (H9 s.2.1 0) (some true) (l7 (U1 (i:Int) s.2.1) (some true) (l9 (J8 (l.2.2.take i) s.2.1) λ(x:L9)=>some (G7 (C9 x.2.1 (-1)))))) (some false))=some (Be l i s.2.1):=by
  unfold Be;cases C9 s.2.1 (-1)
  case true=>rfl
  simp only[Y7,o7,o6];cases h0:H9 s.2.1 0
  case true=>rfl
  cases h1:U1 (i:Int) s.2.1
  case true=>rfl
  rw[ng]at h0;rw[Gj]at h1;obtain⟨q,hq,_⟩:=qQ (l:=l.2.2.take i) h0 (by simp only[o8,bI];omega);have hq2:J8 l.2.2 s.2.1=some q:=by have:=(qj hq).2.2.2;unfold J8;rw[if_pos h0];exact(Lt this).2
  rw[hq,hq2];rfl
 rw[hm,o9];cases Be l i s.2.1
 case true=>rfl
 simp only[o6];cases H9 12 (o8 s.2.2.1)
 case true=>rfl
 cases H9 12 (o8 s.2.2.2.1)
 case true=>rfl
 simp only[o6,o9,X8];unfold MM vJ;refine U9 (Ij (p:=inP l s) s.2.2.1.length o5 PUnit.unit (λk hk=>?_) ?_) ?_
 rotate_left 2
 .cases aS s.2.2.1.length (inP l s)
  case some r=>rfl
  simp only[o9,X8];refine U9 (Ij (p:=SY l s) s.2.2.2.1.length o5 PUnit.unit (λk hk=>?_) ?_) ?_
  rotate_left 2
  .cases aS s.2.2.2.1.length (SY l s)
   case some r=>rfl
   simp only[o9,X8];rw[BF hL.scopes hs,o9];refine U9 (Ij (p:=GR l s) s.2.2.2.2.length o5 PUnit.unit (λk hk=>?_) ?_) ?_
   rotate_left 2
   .cases aS s.2.2.2.2.length (GR l s)
    case some r=>rfl
    simp only[o9,X8];refine U9 (Ij (p:=WO s) s.2.2.2.1.length o5 PUnit.unit (λk hk=>?_) ?_) ?_
    rotate_left 2
    .cases aS s.2.2.2.1.length (WO s)<;>rfl
    .have e:=lw hk;simp only[N8 e,o7];rw[TG hS o5 (by show(k:Int)<o8 s.2.2.2.1;simp only[o8];omega),o9,a1i _ (by
      have:=EC hS (Nw s (k:Int)).1 (λx hx=>Yj hx);omega),o9,show(200:Int)=((200:Nat):Int)from rfl,NR o5 o5]
     unfold WO;cases (wF s (k:Int)).any λx=>C9 (k:Int) x<;>rfl
    .rw[N7];rfl
   .have e:=lw hk;have hr:=(hS.ro _ (O5 hk)).1;simp only[N8 e,o7];rw[UW _ e o5 hr,o9,show(300:Int)=((300:Nat):Int)from rfl,NR o5 o5];simp only[GR,e,JZ];cases C9 (GU s (Lr l s) k s.2.2.2.2[k]) 0<;>rfl
   .rw[N7];rfl
  .have e:=lw hk;have hm:=hS.fo.2 _ (O5 hk);simp only[N8 e,o7,I9,e,o9];rw[wP o5,o9,IP hm o5 G6,o9,show(200:Int)=((200:Nat):Int)from rfl,NR o5 o5];simp only[SY,e,JZ];cases C9 (Di l.1 s.2.2.2.1[k] s.2.2.1 (s.2.2.2.1.take k)) 0<;>rfl
  .rw[N7];rfl
 .have e:=lw hk;have hm:=hS.fo.1 _ (O5 hk);simp only[N8 e,o7,I9,e,o9];rw[wP o5,o9,IP hm G6 x9,o9,show(100:Int)=((100:Nat):Int)from rfl,NR o5 o5];simp only[inP,e,JZ];cases C9 (Di l.1 s.2.2.1[k] (s.2.2.1.take k) []) 0<;>rfl
 .rw[N7];rfl
theorem Ih{c e:Int}{r:Int×Int}(h:JZ c e=some r):r.1≠0:=by
 unfold JZ at h;cases hc:C9 c 0<;>rw[hc]at h
 .cases h;exact xm.1 hc
 .cases h
theorem Gg{r:Int×Int}(h:vJ l s=some r):r.1≠0:=by
 unfold vJ at h;split at h
 .rename_i q hq;cases h;obtain⟨k,_,hk⟩:=jJ hq;unfold inP at hk;split at hk
  .exact Ih hk
  .cases hk
 .obtain⟨k,_,hk⟩:=jJ h;unfold SY at hk;split at hk
  .exact Ih hk
  .cases hk
theorem QX(hL:SmL l)(hs:l.2.2[i]? =some s):uC l (i:Int)=some (l7 (C9 (yT l i s).1 0) (0,0,0,0) (OH i (yT l i s))):=by
 have hi:=(ax.1 hs).1;have hS:=hL.sc s (mJ hs);have hf:=hL.few;have hf1:=hf.1;have hf2:=hf.2.1;have hf3:=hf.2.2;have n1:=hS.ni;have n2:=hS.nd;have n3:=hS.nr;unfold uC yT;rw[I9,hs,o9,kS hS.nm,o9];cases uX s.1
 .rfl
 simp only[J5,o6,o7];rw[a1V hf,o9];cases wX l 3 i s.1
 case true=>rfl
 simp only[o6];have hm:(l7 (G7 (C9 s.2.1 (-1))) (l7 (H9 s.2.1 0) (some (Sum.inr ((6:Int),(3:Int),(i:Int),(0:Int)))) (l7 (U1 (i:Int) s.2.1) (some (.inr (6,3,(i:Int),0))) (l9 (J8 l.2.2 s.2.1) λ(x:L9)=>l7 (G7 (C9 x.2.1 (-1))) (some (.inr (6,3,(i:Int),0))) (some (.inl (((0:Int),(0:Int),(0:Int),(0:Int)),(0:Int),(3:Int),(i:Int),(0:Int))))))) (some (.inl ((0,0,0,0),0,3,(i:Int),0))))=
   some (l7 (Be l i s.2.1) (.inr (6,3,(i:Int),0)) (.inl ((0,0,0,0),0,3,(i:Int),0))):=by
  unfold Be;cases C9 s.2.1 (-1)
  case true=>rfl
  simp only[Y7,o7,o6];cases h0:H9 s.2.1 0
  case true=>rfl
  cases h1:U1 (i:Int) s.2.1
  case true=>rfl
  rw[ng]at h0;rw[Gj]at h1;obtain⟨q,hq,_⟩:=qQ (l:=l.2.2) h0 (by simp only[o8];omega);rw[hq];simp only[o6,o9];cases C9 q.2.1 (-1)<;>rfl
 rw[hm,o9];cases Be l i s.2.1
 case true=>rfl
 simp only[o6,X8];cases H9 12 (o8 s.2.2.1)
 case true=>rfl
 cases H9 12 (o8 s.2.2.2.1)
 case true=>rfl
 simp only[o6];rw[QW hs o5 o5 hS.fo,o9];unfold MM;cases hfs:vJ l s with
 |some r=>have hc:=Gg hfs;simp only[OH];rw[P6 hc];rfl|none=>
  simp only[aB (rfl:(0:Int)=0),J5,o6];refine U9 (nM (p:=λk=>(GR l s k).map (OH i)) s.2.2.2.2.length o5 _ (0,0,0,0) (λk hk=>?_) ?_) ?_
  rotate_left 2
  .rw[Cc];cases hfr:aS s.2.2.2.2.length (GR l s)with
   |some r=>
    obtain⟨k,_,hk⟩:=jJ hfr;have hc:r.1≠0:=by
     unfold GR at hk;split at hk
     .exact Ih hk
     .cases hk
    simp only[Y8,o9,mV];rw[P6 hc];rfl
   |none=>
    simp only[Option.map_none,o9,X8];refine U9 (nM (p:=λk=>(WO s k).map (OH i)) s.2.2.2.1.length o5 _ (0,0,0,0) (λk hk=>?_) ?_) ?_
    rotate_left 2
    .rw[Cc];cases hfc:aS s.2.2.2.1.length (WO s)with
     |some r=>
      obtain⟨k,_,hk⟩:=jJ hfc;have hc:r.1≠0:=by
       unfold WO at hk;cases hq:(wF s (k:Int)).any λx=>C9 (k:Int) x<;>rw[hq]at hk
       .cases hk
       .cases hk;show(9:Int)≠0;decide
      simp only[Y8,o9,mV];rw[P6 hc];rfl
     |none=>rfl
    .have e:=lw hk;have htl:=EC hS (Nw s (k:Int)).1 (λx hx=>Yj hx);simp only[N8 e,o7];rw[QZ hS,o9,show(200:Int)=((200:Nat):Int)from rfl,NR o5 o5];have hcy:U8 (λ(x_6:lW×Int)=>l7 (H9 x_6.2 (o8 (wF s (k:Int)))) (l9 (J8 (wF s (k:Int)) x_6.2) λ(x:Int)=>l7 (C9 x (k:Int)) (some (Out.rt ((9:Int),(3:Int),(i:Int),((200+k:Nat):Int)))) (some (.nx (x_6.1,G5 .i64 x_6.2 1)))) (some (.ex x_6.1))) (((0:Int),(0:Int),(0:Int),(0:Int)),(0:Int))=
       some (l7 ((wF s (k:Int)).any λx=>C9 (k:Int) x) (.inr (9,3,(i:Int),((200+k:Nat):Int))) (.inl (0,0,0,0))):=by
      have h1:=Jw (wF s (k:Int)) (λ(b:Int×Int×Int×Int) x=>l7 (C9 x (k:Int)) (.inr ((9:Int),(3:Int),(i:Int),((200+k:Nat):Int))) (.inl b)) (λb i=>(b,i)) (λb=>b) (λ_ _=>True) (b:=((0,0,0,0):Int×Int×Int×Int)) (f:=λ(x_6:lW×Int)=>l7 (H9 x_6.2 (o8 (wF s (k:Int)))) (l9 (J8 (wF s (k:Int)) x_6.2) λ(x:Int)=>l7 (C9 x (k:Int)) (some (Out.rt ((9:Int),(3:Int),(i:Int),((200+k:Nat):Int)))) (some (.nx (x_6.1,G5 .i64 x_6.2 1)))) (some (.ex x_6.1))) o5 trivial (λj x b hx hj _=>by refine⟨?_,λ_ _=>trivial⟩;simp only[N8 hx,o7,I9,hx,o9];rw[bD o5];cases C9 x (k:Int)<;>rfl) (λb _=>by simp only[N7];rfl)
      refine h1.1.trans ?_;have hfo:∀(l:List Int) (b:Int×Int×Int×Int),qK (λ(b:Int×Int×Int×Int) x=>l7 (C9 x (k:Int)) (.inr ((9:Int),(3:Int),(i:Int),((200+k:Nat):Int))) (.inl b)) l b=l7 (l.any λx=>C9 (k:Int) x) (.inr (9,3,(i:Int),((200+k:Nat):Int))) (.inl b):=by
       intro l;induction l with
       |nil=>intro b;rfl|cons a l ih=>
        intro b;unfold qK;rw[qP,show C9 (k:Int) a=C9 a (k:Int) by unfold C9;by_cases h:a=(k:Int)<;>simp[h,eq_comm]];cases C9 a (k:Int)
        .simp only[o6,kM];exact ih b
        .rfl
      rw[hfo];cases (wF s (k:Int)).any λx=>C9 (k:Int) x<;>rfl
     refine U9 hcy ?_;unfold WO;cases (wF s (k:Int)).any λx=>C9 (k:Int) x<;>rfl
    .simp only[N7];rfl
  .have e:=lw hk;have hr:=(hS.ro _ (O5 hk)).1;simp only[N8 e,o7];rw[TB hL.scopes hs e hr,o9,show(300:Int)=((300:Nat):Int)from rfl,NR o5 o5];simp only[GR,e,JZ];cases C9 (GU s (Lr l s) k s.2.2.2.2[k]) 0<;>rfl
  .simp only[N7];rfl
def Dv(l:aA)(i:Nat):Option (Int×Int×Int×Int):=match l.2.2[i]? with|some s=>Jo 3 i (yT l i s)|none=>none
def Iw(l:aA):Int×Int×Int×Int:=l7 (H9 4 (o8 l.2.2)) (4,3,4,0) (match aS l.2.2.length (Dv l)with|some r=>r|none=>(0,0,0,0))
def oD(l:aA):Int×Int×Int×Int:=l7 (C9 (Es l).1 0) (l7 (C9 (zh l).1 0) (Iw l) (zh l)) (Es l)
theorem PX(hL:SmL l):vM l=some (Iw l):=by
 have hf:=hL.few.2.2;unfold vM Iw;cases H9 4 (o8 l.2.2)
 case true=>rfl
 simp only[o6];refine U9 (nM (p:=Dv l) l.2.2.length o5 _ (0,0,0,0) (λi hi=>?_) ?_) ?_
 rotate_left 2
 .cases aS l.2.2.length (Dv l)<;>rfl
 .have e:=lw hi;simp only[N8 e,o7,SS hL e,o9,Dv,e,Jo];cases C9 (yT l i l.2.2[i]).1 0<;>rfl
 .rw[N7];rfl
theorem Yn(hL:SmL l):xq l=some (oD l):=by
 unfold xq oD;rw[SQ hL.few hL.en,o9];cases C9 (Es l).1 0
 .rfl
 simp only[J5,o6,o7];rw[PY hL.few hL.tb,o9];cases C9 (zh l).1 0
 .rfl
 simp only[J5,o6,o7];rw[PX hL];rfl
theorem LW{k i:Int}{c:Int×Int}{r:Int×Int×Int×Int}(h:Jo k i c=some r):r.1≠0:=by
 unfold Jo at h;cases hc:C9 c.1 0<;>rw[hc]at h
 .cases h;exact xm.1 hc
 .cases h
theorem VA(hL:SmL l):xO l=some (oD l):=by
 have hf1:=hL.few.1;have hf2:=hL.few.2.1;have hf3:=hL.few.2.2;unfold xO oD Es;cases H9 8 (o8 l.1)
 case true=>rfl
 simp only[o6];refine U9 (nM (p:=NJ l) l.1.length o5 _ (0,0,0,0) (λi hi=>?_) ?_) ?_
 rotate_left 2
 .cases hfe:aS l.1.length (NJ l)with
  |some r=>
   obtain⟨k,_,hk⟩:=jJ hfe;have hc:r.1≠0:=by
    unfold NJ at hk;split at hk
    .exact LW hk
    .cases hk
   simp only[o9,mV,P6 hc,o6]
  |none=>
   simp only[o9,X8,aB (rfl:(0:Int)=0),o7];unfold zh;cases H9 8 (o8 l.2.1)
   case true=>rfl
   simp only[o6];refine U9 (nM (p:=Dw l) l.2.1.length o5 _ (0,0,0,0) (λi hi=>?_) ?_) ?_
   rotate_left 2
   .cases hft:aS l.2.1.length (Dw l)with
    |some r=>
     obtain⟨k,_,hk⟩:=jJ hft;have hc:r.1≠0:=by
      unfold Dw at hk;split at hk
      .exact LW hk
      .cases hk
     simp only[o9,mV,P6 hc,o6]
    |none=>
     simp only[o9,X8,aB (rfl:(0:Int)=0),o7];unfold Iw;cases H9 4 (o8 l.2.2)
     case true=>rfl
     simp only[o6];refine U9 (nM (p:=Dv l) l.2.2.length o5 _ (0,0,0,0) (λi hi=>?_) ?_) ?_
     rotate_left 2
     .cases aS l.2.2.length (Dv l)<;>rfl
     .have e:=lw hi;simp only[N8 e,o7,QX hL e,o9,Dv,e,Jo];cases hc:C9 (yT l i l.2.2[i]).1 0
      .simp only[o6,OH,hc];rfl
      .simp only[o7,aB (rfl:(0:Int)=0)];rfl
     .simp only[N7];rfl
   .have e:=lw hi;simp only[N8 e,o7,QY hL.few e (hL.tb _ (O5 hi)),o9,Dw,e,Jo,IA];cases hc:C9 (Nr l i l.2.1[i]).1 0
    .simp only[o6,hc];rfl
    .simp only[o7,aB (rfl:(0:Int)=0)];rfl
   .simp only[N7];rfl
 .have e:=lw hi;have hm:=hL.en _ (O5 hi);simp only[N8 e,o7,TA hL.few e hm.1 hm.2,o9,NJ,e,Jo,IA];cases hc:C9 (Qj l i l.1[i]).1 0
  .simp only[o6,hc];rfl
  .simp only[o7,aB (rfl:(0:Int)=0)];rfl
 .simp only[N7];rfl
theorem xh{ρ:Type}{n:Nat}{p:Nat->Option ρ}(h:aS n p=none):∀i,i<n->p i=none:=by unfold aS at h;intro i hi;exact List.findSome?_eq_none_iff.1 h i (eH.2 hi)
def hw(W:List Int)(d:Int):Int:=W.getD d.toNat 0
end Go.GP
namespace Gt
open Go Go.GP
def il(y:Int):Bool:=if y % 4=0 then(if y % 100≠0 then true else decide (y % 400=0))else false
def ys(y:Int):Int:=(y -1900)*365+((y -1) / 4 -(y -1) / 100+(y -1) / 400) -460
def diy(y:Int):Int:=if il y then 366 else 365
theorem IB(y:Int):ys (y+1)=ys y+diy y:=by unfold ys diy il;by_cases h4:y % 4=0<;>by_cases h100:y % 100=0<;>by_cases h400:y % 400=0<;>simp[h4,h100,h400]<;>omega
theorem a6c(a b:Int):a<b\/b<=a:=o5
theorem Qe(y:Int):365<=diy y/\diy y<=366:=by unfold diy;split<;>omega
theorem Ah{y y' :Int}(h:y<=y'):ys y<=ys y' :=by
 obtain⟨n,rfl⟩:∃n:Nat,y' =y+n:=⟨(y' -y).toNat,o5⟩;clear h;induction n with
 |zero=>simp|succ n ih=>have:=IB (y+n);have:=Qe (y+n);have e:y+((n+1:Nat):Int)=y+n+1:=o5;rw[e];omega
variable {y:Int}
theorem NF(h:1900<=y):0<=ys y:=by
 have:=Ah h;have e:ys 1900=0:=by decide+kernel
 omega
theorem a2c{y y' d:Int}(h1:ys y<=d)(h2:d<ys (y+1))(h3:ys y' <=d)(h4:d<ys (y' +1)):y=y' :=by
 rcases Int.lt_trichotomy y y' with h|h|h
 .have:=Ah (y:=y+1) (y' :=y') o5;omega
 .exact h
 .have:=Ah (y:=y' +1) (y' :=y) o5;omega
def dim(y m:Int):Int:=
 if m=2 then(if il y then 29 else 28)else if m=4\/m=6\/m=9\/m=11 then 30 else 31
theorem UY(y m:Int):28<=dim y m/\dim y m<=31:=by
 unfold dim;repeat' split
 all_goals omega
theorem FX(h:0<=y):BQ y=some (il y):=by
 unfold BQ il;simp only[Ba h];by_cases h4:y % 4=0
 .rw[kX (aB h4),if_pos h4];by_cases h100:y % 100=0
  .simp[C9,h100]
  .simp[C9,h100]
 .rw[lM (P6 h4),if_neg h4]
theorem FB(h:0<=y):zZ y=some (il y):=FX h
theorem IE(h:0<=y):kT y=some (diy y):=by unfold kT diy;rw[FB h,o9];cases il y<;>rfl
variable {m:Int}
theorem m12(h:1<=m/\m<=12):m=1\/m=2\/m=3\/m=4\/m=5\/m=6\/m=7\/m=8\/m=9\/m=10\/m=11\/m=12:=o5
theorem IC(h:0<=y)(hm:1<=m/\m<=12):kK y m=some (dim y m):=by
 unfold kK;rcases m12 hm with rfl|rfl|rfl|rfl|rfl|rfl|rfl|rfl|rfl|rfl|rfl|rfl
 all_goals first|rfl|(rw[FX h];unfold dim;cases il y<;>rfl)
theorem GH(h:0<=y)(hm:1<=m/\m<=12):jT y m=some (dim y m):=by
 unfold jT;rcases m12 hm with rfl|rfl|rfl|rfl|rfl|rfl|rfl|rfl|rfl|rfl|rfl|rfl
 all_goals first|rfl|(rw[FB h];unfold dim;cases il y<;>rfl)
theorem BU(h:0<=y)(h2:y<=1000000):sW y=some (y / 4 -y / 100+y / 400):=by unfold sW;simp only[fF,mW h];rw[BI iT,BI iT,BI iT,iL iT,kF iT]
theorem BV(h:1<=y)(h2:y<=1000000):nX y=some (ys y):=by unfold nX;have e1:O6 .i64 y 1900=y -1900:=iL iT;have e2:Tj .i64 (y -1900) 365=(y -1900)*365:=a2J iT;rw[iL (a:=y) (b:=1) iT,BU o5 o5,o9,BU o5 o5,o9,e1,e2,kF iT,iL iT];unfold ys;congr 1
def mo(y:Int):Nat->Int->Int×Int
 |0,d=>(d,13)|n+1,d=>if d<dim y (12 -n)then(d,12 -n)else mo y n (d -dim y (12 -n))
theorem a0j(y:Int)(n:Nat)(d:Int):mo y (n+1) d=if d<dim y (12 -(n:Int))then(d,12 -(n:Int))else mo y n (d -dim y (12 -(n:Int))):=rfl
def rem(y:Int):Nat->Int
 |0=>0|n+1=>dim y (12 -n)+rem y n
theorem a3Y(y:Int):rem y 12=diy y:=by unfold diy;cases h:il y<;>simp[rem,dim,h]
theorem a2V(y:Int):∀(n:Nat) (d:Int),n<=12->0<=d->d<rem y n->1<=(mo y n d).2/\(mo y n d).2<=12/\0<=(mo y n d).1/\(mo y n d).1<dim y (mo y n d).2
 |0,d,_,h0,h=>by simp[rem]at h;omega|n+1,d,hn,h0,h=>by
  unfold mo;by_cases hd:d<dim y (12 -n)
  .rw[if_pos hd];refine⟨?_,?_,h0,hd⟩<;>simp<;>omega
  .rw[if_neg hd];refine a2V y n _ o5 o5 ?_;simp only[rem]at h;omega
def yOf(d:Int):Int:=((((List.range 300).find? (λ(k:Nat)=>decide (d<ys (1900+(k:Int)+1)))).getD 0:Nat):Int)+1900
variable {d:Int}
theorem SG(h0:0<=d)(h:d<=109572):1900<=yOf d/\yOf d<=2199/\ys (yOf d)<=d/\d<ys (yOf d+1):=by
 unfold yOf;cases hf:(List.range 300).find? (λ(k:Nat)=>decide (d<ys (1900+(k:Int)+1)))with
 |none=>
  have:=List.find?_eq_none.1 hf 299 x9;simp only[decide_eq_true_eq]at this;have e:ys (1900+(299:Nat)+1)=109573:=by decide+kernel
  omega
 |some k=>
  have h1:=List.find?_some hf;simp only[decide_eq_true_eq]at h1;have h2:=List.mem_of_find?_eq_some hf;simp only[eH]at h2;simp only[Z5];refine⟨o5,o5,?_,?_⟩
  .cases k with
   |zero=>
    have e:ys 1900=0:=by decide+kernel
    simp[e,h0]
   |succ j=>have h3:=List.find?_range_eq_some.1 hf;have h4:=h3.2.2 j o5;simp only[bg,decide_eq_false_iff_not,rF]at h4;have e:(((j+1:Nat):Int)+1900)=1900+(j:Int)+1:=o5;rw[e];exact h4
  .have e:(k:Int)+1900+1=1900+k+1:=o5;rw[e];exact h1
def ymd(d:Int):Int×Int×Int:=let y:=yOf d;let r:=mo y 12 (d -ys y);(y,r.2,r.1+1)
theorem SX(h0:0<=d)(h:d<=109572):Em d=some (ymd d):=by
 obtain⟨y1,y2,y3,y4⟩:=SG h0 h;have y0:=NF y1;unfold Em AQ;rw[kX (aZ h0),o9,aZ h,J5,o6];have e0:G5 .i64 1900 (fF .i64 d 366)=1900+d / 366:=by
  have e:fF .i64 d 366=d / 366:=by rw[Ku (by rw[mW h0];unfold lJ;omega),mW h0]
  rw[e,kF iT]
 rw[e0];obtain⟨y,hy,hq⟩:=pO (f:=λ(x:Int)=>l9 (nX (G5 IntKind.i64 x 1)) λ(x_1:Int)=>l7 (U1 x_1 d) (some (Sum.inl (G5 IntKind.i64 x 1))) (some (Sum.inr x))) (s:=1900+d / 366)
  (λy=>1900<=y/\y<=yOf d) (λy=>y=yOf d) (λy=>(2200 -y).toNat) (by
   refine⟨o5,?_⟩;have e:∀n:Nat,ys (1900+n)<=366*n:=by
    intro n;induction n with
    |zero=>decide+kernel|succ n ih=>have:=IB (1900+n);have:=Qe (1900+n);have e:(1900:Int)+((n+1:Nat):Int)=1900+n+1:=o5;rw[e];omega
   have e1:=e (d / 366).toNat
   have e2:((d / 366).toNat:Int)=d / 366:=o5;rw[e2]at e1;rcases a6c (yOf d) (1900+d / 366)with hlt|hge
   .have:=Ah (y:=yOf d+1) (y' :=1900+d / 366) o5;omega
   .exact hge) o5 (by
   intro y ⟨hy1,hy2⟩
   try simp only
   rw[kF iT,BV o5 o5,o9];by_cases hle:ys (y+1)<=d
   .refine .inl ⟨y+1,by rw[kX (aZ hle)],⟨o5,?_⟩,o5⟩;rcases a6c (yOf d) (y+1)with hlt|hge
    .have:=Ah (y:=yOf d+1) (y' :=y+1) o5;omega
    .exact hge
   .refine .inr ⟨y,by rw[lM (dw o5)],?_⟩;rcases a6c y (yOf d)with hlt|hge
    .have:=Ah (y:=y+1) (y' :=yOf d) o5;omega
    .omega)
 rw[hy,o9,hq,BV o5 o5,o9,iL iT];have hs:=IB (yOf d);have hr:=a3Y (yOf d);rcases yK (f:=λ(x:Int×Int)=>l7 (H9 x.2 12) (l9 (kK (yOf d) (G5 IntKind.i64 x.2 1)) λ(x_1:Int)=>l7 (H9 x.1 x_1) (some (Out.rt (yOf d,G5 IntKind.i64 x.2 1,G5 IntKind.i64 x.1 1))) (some (Out.nx (O6 IntKind.i64 x.1 x_1,G5 IntKind.i64 x.2 1)))) (some (Out.ex PUnit.unit))) (s:=(d -ys (yOf d),0))
  (λs=>∃n:Nat,n<=12/\s.2=12 -n/\mo (yOf d) n s.1=mo (yOf d) 12 (d -ys (yOf d))/\0<=s.1/\s.1<rem (yOf d) n/\s.1<=400) (λ_=>False) (λr=>r=ymd d) (λs=>(12 -s.2).toNat)
  ⟨12,o5,x9,rfl,o5,by rw[hr];show d -ys (yOf d)<_;omega,by have:=Qe (yOf d);show d -ys (yOf d)<=400;omega⟩ x9 (by
   rintro⟨r,i⟩ ⟨n,hn,hi,hm,hr0,hrn,hr4⟩;simp only at hi hm hr0 hrn hr4 ⊢;cases n with
   |zero=>simp[rem]at hrn;omega|succ n=>
    have ei:i+1=12 -n:=o5;rw[kX (dU o5),kF iT,ei,IC o5 o5,o9];have hb:=UY (yOf d) (12 -n);rw[a0j (yOf d) n r]at hm;by_cases hlt:r<dim (yOf d) (12 -n)
    .rw[if_pos hlt]at hm;refine .inr (.inr ⟨_,by rw[kX (dU hlt)],?_⟩);rw[kF iT];unfold ymd
     try simp only
     rw[←hm]
    .rw[if_neg hlt]at hm;refine .inl ⟨_,by rw[lM (bT o5),iL iT],⟨n,o5,x9,hm,?_,?_,?_⟩,?_⟩
     .simp;omega
     .simp only[rem]at hrn ⊢;omega
     .simp;omega
     .simp;omega)with⟨_,_,hf⟩|⟨r,he,hr⟩
 .exact hf.elim
 .rw[he,o9,mV,hr]
theorem Rj(h0:0<=d)(h:d<=109572):Cm d=some (ymd d):=by
 obtain⟨y1,y2,y3,y4⟩:=SG h0 h;have y0:=NF y1;unfold Cm zt;rw[kX (aZ h0),o9,aZ h,J5,o6];obtain⟨⟨r,y⟩,hy,hq⟩:=pO (f:=λ(x:Int×Int)=>l9 (kT x.2) λ(x_1:Int)=>l7 (U1 x_1 x.1) (l9 (kT x.2) λ(x_2:Int)=>some (Sum.inl (O6 IntKind.i64 x.1 x_2,G5 IntKind.i64 x.2 1))) (some (Sum.inr x))) (s:=(d,1900))
  (λs=>1900<=s.2/\s.2<=yOf d/\s.1=d -ys s.2) (λs=>s=(d -ys (yOf d),yOf d)) (λs=>(2200 -s.2).toNat)
  ⟨x9,by simpa using y1,by(have e:ys 1900=0:=by decide+kernel);simp[e]⟩ x9 (by
   rintro⟨r,y⟩ ⟨h1,h2,h3⟩;simp only at h1 h2 h3 ⊢;have hb:=Qe y;have hs:=IB y;have hm:=Ah h2;have hpos:0<=ys y:=by
     have:=Ah (y:=1900) (y' :=y) h1;have e:ys 1900=0:=by decide+kernel
     omega
   rw[IE o5,o9];by_cases hle:diy y<=r
   .refine .inl ⟨(r -diy y,y+1),?_,⟨by simp;omega,?_,?_⟩,?_⟩
    .rw[kX (aZ hle),o9,iL iT,kF iT]
    .simp only;rcases a6c (yOf d) (y+1)with hlt|hge
     .have:=Ah (y:=yOf d+1) (y' :=y+1) o5;omega
     .exact hge
    .simp only;omega
    .simp;omega
   .refine .inr ⟨_,by rw[lM (dw o5)],?_⟩;have e:y=yOf d:=a2c (d:=d) o5 o5 y3 y4;subst e;rw[h3])
 rw[hy,o9,hq]
 try simp only
 have hs:=IB (yOf d);have hr:=a3Y (yOf d);obtain⟨⟨r,m⟩,he,hq2⟩:=pO (f:=λ(x:Int×Int)=>l9 (jT (yOf d) x.2) λ(x_1:Int)=>l7 (U1 x_1 x.1) (l9 (jT (yOf d) x.2) λ(x_2:Int)=>some (Sum.inl (O6 IntKind.i64 x.1 x_2,G5 IntKind.i64 x.2 1))) (some (Sum.inr x))) (s:=(d -ys (yOf d),1))
  (λs=>∃n:Nat,n<=12/\s.2=13 -n/\mo (yOf d) n s.1=mo (yOf d) 12 (d -ys (yOf d))/\0<=s.1/\s.1<rem (yOf d) n/\s.1<=400) (λs=>s=mo (yOf d) 12 (d -ys (yOf d))) (λs=>(13 -s.2).toNat)
  ⟨12,o5,x9,rfl,o5,by rw[hr];show d -ys (yOf d)<_;omega,by have:=Qe (yOf d);show d -ys (yOf d)<=400;omega⟩ x9 (by
   rintro⟨r,i⟩ ⟨n,hn,hi,hm,hr0,hrn,hr4⟩;simp only at hi hm hr0 hrn hr4 ⊢;cases n with
   |zero=>simp[rem]at hrn;omega|succ n=>
    have ei:i=12 -n:=o5;subst ei;rw[GH o5 o5,o9];have hb:=UY (yOf d) (12 -n);rw[a0j (yOf d) n r]at hm;by_cases hlt:r<dim (yOf d) (12 -n)
    .rw[if_pos hlt]at hm;exact .inr ⟨_,by rw[lM (dw o5)],hm⟩
    .rw[if_neg hlt]at hm;refine .inl ⟨(r -dim (yOf d) (12 -n),12 -n+1),by rw[kX (aZ o5),o9,iL iT,kF iT],⟨n,o5,by simp;omega,hm,?_,?_,?_⟩,?_⟩
     .simp;omega
     .simp only[rem]at hrn ⊢;omega
     .simp;omega
     .simp;omega)
 rw[he,o9,hq2];have hb:=a2V (yOf d) 12 (d -ys (yOf d)) o5 o5 (by rw[hr];omega);have hb2:=UY (yOf d) (mo (yOf d) 12 (d -ys (yOf d))).2;rw[kF iT];rfl
theorem x_(h0:0<=d)(h:d<=109572):1900<=(ymd d).1/\(ymd d).1<=2199/\1<=(ymd d).2.1/\(ymd d).2.1<=12/\1<=(ymd d).2.2/\(ymd d).2.2<=31:=by
 obtain⟨y1,y2,y3,y4⟩:=SG h0 h;have y0:=NF y1;have hs:=IB (yOf d);have hb:=a2V (yOf d) 12 (d -ys (yOf d)) o5 o5 (by rw[a3Y];omega);have hb2:=UY (yOf d) (mo (yOf d) 12 (d -ys (yOf d))).2;unfold ymd
 try simp only
 omega
end Gt
namespace Go.GP
open Gt
set_option maxRecDepth 100000
def q1(q:Int)(u:Bool):Int:=l7 u (q+1) q
def sg(q:Int)(neg:Bool):Int:=l7 neg (-q) q
def a2i(r:uU):Prop:=lJ r.2.1/\lJ r.2.2.1/\lJ r.2.2.2
def a8d(t:bW):Prop:=t.2.2.2.length<=200/\∀r∈t.2.2.2,a2i r
abbrev V3:Type:=Int×Int×Int
theorem Mc{α β ρ:Type}(G:β->α->β⊕ρ)(P:ρ->Prop)(hG:∀b a r,G b a= .inr r->P r):∀(l:List α) (b:β) (r:ρ),qK G l b= .inr r->P r
 |[],b,r,h=>by cases h|a::l,b,r,h=>by
  unfold qK at h;cases hg:G b a with
  |inr r' =>rw[hg]at h;simp only at h;cases h;exact hG _ _ _ hg|inl b' =>rw[hg]at h;exact Mc G P hG l b' r h
theorem a8f:∀i:Fin 40,(arF ((i.1:Nat):Int)=0->i.1∈[1,2,3,4,5,6,7,8,9,35,36,37,38,39])/\(arF ((i.1:Nat):Int)=1->i.1∈[10,25,31,32,33,34])/\(arF ((i.1:Nat):Int)=2->i.1∈[11,12,13,14,15,16,17,18,19,20,21,22,23,24,27,28,29,30])/\(arF ((i.1:Nat):Int)=3->i.1=26):=by decide+kernel
variable {k:Int}
theorem b1C(h:k<1\/39<k):arF k=-1:=by
 unfold arF gY;rw[P6 (show k≠10 by omega),P6 (show k≠25 by omega),P6 (show k≠31 by omega),P6 (show k≠32 by omega),P6 (show k≠33 by omega),P6 (show k≠34 by omega),P6 (show k≠26 by omega)];rcases h with h|h
 .rw[dw (show k<1 by omega),dw (show k<35 by omega),dw (show k<11 by omega)];rfl
 .rw[aZ (show 1<=k by omega),dw (show 9<k by omega),aZ (show 35<=k by omega),dw (show 39<k by omega),aZ (show 11<=k by omega),dw (show 30<k by omega)];rfl
theorem b8l(h:arF k≠-1):∃i:Fin 40,k=((i.1:Nat):Int):=by
 by_cases g:1<=k/\k<=39
 .exact⟨⟨k.toNat,o5⟩,by simp;omega⟩
 .exact absurd (b1C o5) h
def XT.node:XT->Int×Int
 | .l0 n=>n| .l1 n _=>n| .l2 n _ _=>n| .l3 n _ _ _=>n
def rtI(t:XT)(o:Nat):Nat:=o+t.size -1
def At(e:List (Int×Int))(S:List Int)(t:XT)(o:Nat):Prop:=∃pre suf S1 S2,e=pre++t.post++suf/\S=S1++t.sts o++S2/\pre.length=o/\S1.length=o
variable {e:List (Int×Int)}{o:Nat}{S:List Int}{a:XT}
theorem H_{n:Int×Int}(h:At e S (.l1 n a) o):At e S a o:=by obtain⟨p,s,S1,S2,h1,h2,h3,h4⟩:=h;exact⟨p,[n]++s,S1,[(o:Int)]++S2,by rw[h1];simp[XT.post],by rw[h2];simp[XT.sts],h3,h4⟩
theorem TP{n:Int×Int}{a b:XT}(h:At e S (.l2 n a b) o):At e S a o/\At e S b (o+a.size):=by
 obtain⟨p,s,S1,S2,h1,h2,h3,h4⟩:=h;exact⟨⟨p,b.post++[n]++s,S1,b.sts (o+a.size)++[(o:Int)]++S2,by rw[h1];simp[XT.post],by rw[h2];simp[XT.sts],h3,h4⟩,
  ⟨p++a.post,[n]++s,S1++a.sts o,[(o:Int)]++S2,by rw[h1];simp[XT.post],by rw[h2];simp[XT.sts],by simp[XT.post_len,h3],by simp[XT.sts_len,h4]⟩⟩
theorem JS{n:Int×Int}{a b c:XT}(h:At e S (.l3 n a b c) o):At e S a o/\At e S b (o+a.size)/\At e S c (o+a.size+b.size):=by
 obtain⟨p,s,S1,S2,h1,h2,h3,h4⟩:=h;exact⟨⟨p,b.post++c.post++[n]++s,S1,b.sts (o+a.size)++c.sts (o+a.size+b.size)++[(o:Int)]++S2,by rw[h1];simp[XT.post],by rw[h2];simp[XT.sts],h3,h4⟩,
  ⟨p++a.post,c.post++[n]++s,S1++a.sts o,c.sts (o+a.size+b.size)++[(o:Int)]++S2,by rw[h1];simp[XT.post],by rw[h2];simp[XT.sts],by simp[XT.post_len,h3],by simp[XT.sts_len,h4]⟩,
  ⟨p++a.post++b.post,[n]++s,S1++a.sts o++b.sts (o+a.size),[(o:Int)]++S2,by rw[h1];simp[XT.post],by rw[h2];simp[XT.sts],by simp[XT.post_len,h3];try omega,by simp[XT.sts_len,h4];try omega⟩⟩
theorem a1G(t:XT):∃p,t.post=p++[t.node]/\p.length+1=t.size:=by
 have hl:=t.post_len;cases t with
 |l0 n=>exact⟨[],rfl,rfl⟩|l1 n a=>refine⟨a.post,rfl,?_⟩;simp only[XT.post,D8,eU]at hl;exact hl|l2 n a b=>refine⟨a.post++b.post,rfl,?_⟩;simp only[XT.post,D8,eU]at hl ⊢;exact hl|l3 n a b c=>refine⟨a.post++b.post++c.post,rfl,?_⟩;simp only[XT.post,D8,eU]at hl ⊢;exact hl
theorem a5B(t:XT)(o:Nat):∃p,t.sts o=p++[(o:Int)]/\p.length+1=t.size:=by
 have hl:=t.sts_len o;cases t with
 |l0 n=>exact⟨[],rfl,rfl⟩|l1 n a=>refine⟨a.sts o,rfl,?_⟩;simp only[XT.sts,D8,eU]at hl;exact hl|l2 n a b=>refine⟨a.sts o++b.sts (o+a.size),rfl,?_⟩;simp only[XT.sts,D8,eU]at hl ⊢;exact hl|l3 n a b c=>refine⟨a.sts o++b.sts (o+a.size)++c.sts (o+a.size+b.size),rfl,?_⟩;simp only[XT.sts,D8,eU]at hl ⊢;exact hl
variable {t:XT}
theorem ul(h:At e S t o):e[rtI t o]? =some t.node/\S[rtI t o]? =some (o:Int)/\rtI t o<e.length:=by
 obtain⟨p,s,S1,S2,h1,h2,h3,h4⟩:=h;obtain⟨q,e1,e2⟩:=a1G t;obtain⟨q',e1',e2'⟩:=a5B t o;have hp:=t.size_pos;have a1:e[rtI t o]? =some t.node:=by rw[h1,e1,E8,E8,←E8 p,I5 (by simp[rtI];omega)];rw[show rtI t o -(p++q).length=0 by simp[rtI];omega];rfl
 refine⟨a1,?_,(ax.1 a1).1⟩;rw[h2,e1',E8,E8,←E8 S1,I5 (by simp[rtI];omega)];rw[show rtI t o -(S1++q').length=0 by simp[rtI];omega];rfl
def a1E:XT->Nat->List Int
 | .l0 _,_=>[]| .l1 _ a,o=>[(rtI a o:Int)]| .l2 _ a b,o=>[(rtI a o:Int),(rtI b (o+a.size):Int)]| .l3 _ a b c,o=>[(rtI a o:Int),(rtI b (o+a.size):Int),(rtI c (o+a.size+b.size):Int)]
structure OStep (S:List Int) (f:List Int×Int×Int->Option ((List Int×Int×Int)⊕List Int)):Prop where
 step:∀(l:List Int) (c:Nat) (j:Nat) (x:Nat),j<l.length->l.length<=3->S[c]? =some ((x:Nat):Int)->x<=100->f (l,(c:Int),(j:Int))=some (.inl (l.set j (c:Int),(x:Int) -1,(j:Int) -1))
 stop:∀(l:List Int) (c:Int),f (l,c,-1)=some (.inr l)
variable {n:Nat}
theorem Aq{σ ε:Type}{f:σ->Option (σ⊕ε)}{s s' :σ}(h:f s=some (.inl s')):xF f (n+1) s=xF f n s' :=by rw[xF,h]
theorem Ik{σ ε:Type}{f:σ->Option (σ⊕ε)}{s:σ}{e:ε}(h:f s=some (.inr e)):xF f (n+1) s=some e:=by rw[xF,h]
theorem a3o{f:List Int×Int×Int->Option ((List Int×Int×Int)⊕List Int)}(hs:OStep S f)(h:At e S t o)(he:e.length<=48)(hw:t.wf):
  aG f (List.replicate (arF t.node.1).toNat 0,(rtI t o:Int) -1,arF t.node.1 -1)=some (a1E t o):=by
 obtain⟨k,hk⟩:∃k,ji=k+1+1+1+1:=⟨ji -4,by unfold ji;omega⟩;unfold aG;rw[hk];have hr:=ul h;cases t with
 |l0 n=>rw[show arF (XT.l0 n).node.1=0 from hw];exact Ik (hs.stop _ _)|l1 n a=>rw[show arF (XT.l1 n a).node.1=1 from hw.1];have ha:=ul (H_ h);have p1:=a.size_pos;rw[show((rtI (.l1 n a) o:Nat):Int) -1=((rtI a o:Nat):Int) by simp only[rtI,XT.size];omega];rw[show((1:Int) -1)=((0:Nat):Int)from rfl,Aq (hs.step _ _ 0 o x9 x9 ha.2.1 (by unfold rtI at hr;omega))];rw[show(((0:Nat):Int) -1)=-1 from rfl,Ik (hs.stop _ _)];rfl|l2 n a b=>rw[show arF (XT.l2 n a b).node.1=2 from hw.1];have ha:=ul (TP h).1;have hb:=ul (TP h).2;have p1:=a.size_pos;have p2:=b.size_pos;rw[show((rtI (.l2 n a b) o:Nat):Int) -1=((rtI b (o+a.size):Nat):Int) by simp only[rtI,XT.size];omega];rw[show((2:Int) -1)=((1:Nat):Int)from rfl,Aq (hs.step _ _ 1 (o+a.size) x9 x9 hb.2.1 (by unfold rtI at hb;omega))];rw[show((o+a.size:Nat):Int) -1=((rtI a o:Nat):Int) by unfold rtI;omega,show(((1:Nat):Int) -1)=((0:Nat):Int)from rfl];rw[Aq (hs.step _ _ 0 o x9 x9 ha.2.1 (by unfold rtI at hr;omega))];rw[show(((0:Nat):Int) -1)=-1 from rfl,Ik (hs.stop _ _)];rfl|l3 n a b c=>rw[show arF (XT.l3 n a b c).node.1=3 from hw.1];have ha:=ul (JS h).1;have hb:=ul (JS h).2.1;have hc:=ul (JS h).2.2;have p1:=a.size_pos;have p2:=b.size_pos;have p3:=c.size_pos;rw[show((rtI (.l3 n a b c) o:Nat):Int) -1=((rtI c (o+a.size+b.size):Nat):Int) by simp only[rtI,XT.size];omega];rw[show((3:Int) -1)=((2:Nat):Int)from rfl,Aq (hs.step _ _ 2 (o+a.size+b.size) x9 x9 hc.2.1 (by unfold rtI at hc;omega))];rw[show((o+a.size+b.size:Nat):Int) -1=((rtI b (o+a.size):Nat):Int) by unfold rtI;omega,show(((2:Nat):Int) -1)=((1:Nat):Int)from rfl];rw[Aq (hs.step _ _ 1 (o+a.size) x9 x9 hb.2.1 (by unfold rtI at hb;omega))];rw[show((o+a.size:Nat):Int) -1=((rtI a o:Nat):Int) by unfold rtI;omega,show(((1:Nat):Int) -1)=((0:Nat):Int)from rfl];rw[Aq (hs.step _ _ 0 o x9 x9 ha.2.1 (by unfold rtI at hr;omega))];rw[show(((0:Nat):Int) -1)=-1 from rfl,Ik (hs.stop _ _)];rfl
theorem b8j(h:t.wf):0<=arF t.node.1/\arF t.node.1<=3:=by
 cases t with
 |l0 n=>rw[show arF (XT.l0 n).node.1=0 from h];decide|l1 n a=>rw[show arF (XT.l1 n a).node.1=1 from h.1];decide|l2 n a b=>rw[show arF (XT.l2 n a b).node.1=2 from h.1];decide|l3 n a b c=>rw[show arF (XT.l3 n a b c).node.1=3 from h.1];decide
variable {α:Type}
theorem a1n(h:0<=k)(h2:k<=1000000)(x:α):Gs k x=some (List.replicate k.toNat x):=if_pos ⟨h,o5⟩
theorem zX{T t:XT}(hT:kE e= .inr T)(h:At e (T.sts 0) t o)(hw:t.wf):tX e (rtI t o:Int)=some (a1E t o):=by
 obtain⟨hp,he⟩:=uj hT;have hr:=ul h;have ha:=b8j hw;unfold tX;rw[Du,o9];unfold sH;rw[hT];simp only[I9,hr.1,o9,Zw,aB (rfl:(0:Int)=0),J5,o6];rw[bT (show(0:Int)<=((rtI t o:Nat):Int) by omega),dw (show((rtI t o:Nat):Int)<o8 e by unfold o8;omega)];simp only[o6,o9,X8];rw[a1n ha.1 o5,o9,vF];rw[show O6 .i64 ((rtI t o:Nat):Int) 1=(rtI t o:Int) -1 from iL iT];rw[show O6 .i64 (arF t.node.1) 1=arF t.node.1 -1 from iL iT];refine a3o ⟨λl c j x hj hl hx hx2=>?_,λl c=>?_⟩ h he hw
 .have hjl:l[j]? =some l[j]:=lw hj;simp only[aZ (show(0:Int)<=(j:Int) by omega),o7,I9,hjl,o9,hx,di,aW,Y1,qR];rw[iL iT,iL iT]
 .rfl
abbrev VSt:Type:=V3×List V3×Int
structure VStep (ops:List Int) (ev:Int->Option (V3×Int)) (pad:List V3->List V3) (f:VSt->Option (Out VSt (V3×List V3) (V3×Int))):Prop where
 step:∀(l:List V3) (c:Int) (r:V3×Int),ops[l.length]? =some c->ev c=some r->f ((0,0,0),pad l,(l.length:Int))=some (l7 (C9 r.2 0) (.nx ((0,0,0),pad (l++[r.1]),((l.length+1:Nat):Int))) (.rt ((0,0,0),r.2)))
 stop:∀(l:List V3),l.length=ops.length->f ((0,0,0),pad l,(l.length:Int))=some (.ex ((0,0,0),l))
section
variable {ev:Int->Option (V3×Int)} {pad:List V3->List V3} {f:VSt->Option (Out VSt (V3×List V3) (V3×Int))}
theorem v0(h:VStep [] ev pad f):U8 f ((0,0,0),pad [],0)=some (.inl ((0,0,0),[])):=by obtain⟨k,hk⟩:∃k,ji=k+1:=⟨ji -1,by unfold ji;omega⟩;unfold U8;rw[hk,jO,show f ((0,0,0),pad [],0)=some (.ex ((0,0,0),[]))from h.stop [] rfl]
theorem v1{c:Int}{r:V3×Int}(h:VStep [c] ev pad f)(h1:ev c=some r):U8 f ((0,0,0),pad [],0)=some (l7 (C9 r.2 0) (.inl ((0,0,0),[r.1])) (.inr ((0,0,0),r.2))):=by
 obtain⟨k,hk⟩:∃k,ji=k+1+1:=⟨ji -2,by unfold ji;omega⟩;unfold U8;rw[hk,jO,show f ((0,0,0),pad [],0)=_ from h.step [] c r rfl h1];cases C9 r.2 0
 .rfl
 .simp only[o7];rw[jO,show f ((0,0,0),pad ([]++[r.1]),(([].length+1:Nat):Int))=_ from h.stop [r.1] rfl]
theorem v2{c d:Int}{r q:V3×Int}(h:VStep [c,d] ev pad f)(h1:ev c=some r)(h2:ev d=some q):U8 f ((0,0,0),pad [],0)=some (l7 (C9 r.2 0) (l7 (C9 q.2 0) (.inl ((0,0,0),[r.1,q.1])) (.inr ((0,0,0),q.2))) (.inr ((0,0,0),r.2))):=by
 obtain⟨k,hk⟩:∃k,ji=k+1+1+1:=⟨ji -3,by unfold ji;omega⟩;unfold U8;rw[hk,jO,show f ((0,0,0),pad [],0)=_ from h.step [] c r rfl h1];cases C9 r.2 0
 .rfl
 .simp only[o7];rw[jO,show f ((0,0,0),pad ([]++[r.1]),(([].length+1:Nat):Int))=_ from h.step [r.1] d q rfl h2];cases C9 q.2 0
  .rfl
  .simp only[o7];rw[jO,show f ((0,0,0),pad ([r.1]++[q.1]),(([r.1].length+1:Nat):Int))=_ from h.stop [r.1,q.1] rfl]
end
theorem a8g(h:arF k=3):k=26:=by obtain⟨i,rfl⟩:=b8l (by rw[h];decide);rw[(a8f i).2.2.2 h];rfl
theorem WH(h:kE e= .inr t):At e (t.sts 0) t 0/\e.length<=48/\e.length=t.size/\O6 .i64 (o8 e) 1=(rtI t 0:Int):=by
 obtain⟨hp,h48⟩:=uj h;have hsz:e.length=t.size:=by rw[hp,XT.post_len]
 have hpos:=t.size_pos;refine⟨⟨[],[],[],[],by simp[←hp],x9,rfl,rfl⟩,h48,hsz,?_⟩;rw[iL (by unfold lJ o8;omega)];unfold o8 rtI;omega
variable {l:aA}{s:L9}{i:Nat}
theorem Ym(h:(oD l).1=0)(hs:l.2.2[i]? =some s):(yT l i s).1=0:=by
 unfold oD at h;cases h1:C9 (Es l).1 0<;>rw[h1]at h
 .simp only[o6]at h;rw[aB h]at h1;cases h1
 cases h2:C9 (zh l).1 0<;>rw[h2]at h
 .simp only[o7,o6]at h;rw[aB h]at h2;cases h2
 simp only[o7]at h;unfold Iw at h;cases h3:H9 4 (o8 l.2.2)<;>rw[h3]at h
 case true=>exact absurd (show(4:Int)=0 from h) J3
 simp only[o6]at h;have hi:=(ax.1 hs).1;cases hf:aS l.2.2.length (Dv l)with
 |some r=>
  rw[hf]at h;simp only at h;obtain⟨j,hj,hp⟩:=jJ hf;unfold Dv at hp;cases hq:l.2.2[j]? with
  |none=>rw[hq]at hp;cases hp|some q=>
   rw[hq]at hp;simp only at hp;unfold Jo at hp;exact absurd h (by cases he:C9 (yT l j q).1 0<;>rw[he]at hp<;>cases hp;simp only;intro h4;rw[aB h4]at he;cases he)
 |none=>
  have hn:=xh hf i hi;unfold Dv at hn;rw[hs]at hn;simp only at hn;unfold Jo at hn;cases he:C9 (yT l i s).1 0<;>rw[he]at hn
  .cases hn
  exact iF.1 he
theorem a1Z(h:(oD l).1=0)(hs:l.2.2[i]? =some s):Be l i s.2.1=false/\(MM l s).1=0:=by
 have he:=Ym h hs;unfold yT at he;cases g1:uX s.1<;>rw[g1]at he
 .exact absurd (show(2:Int)=0 from he) J3
 cases g2:wX l 3 i s.1<;>rw[g2]at he
 case true=>exact absurd (show(7:Int)=0 from he) J3
 cases g3:Be l i s.2.1<;>rw[g3]at he
 case true=>exact absurd (show(6:Int)=0 from he) J3
 cases g4:H9 12 (o8 s.2.2.1)<;>rw[g4]at he
 case true=>exact absurd (show(4:Int)=0 from he) J3
 cases g5:H9 12 (o8 s.2.2.2.1)<;>rw[g5]at he
 case true=>exact absurd (show(4:Int)=0 from he) J3
 exact⟨rfl,he⟩
theorem dZ{l:List α}(h:H9 (n:Int) (o8 l)=false):l.length<=n:=by rw[ng]at h;unfold o8 at h;omega
def IX(r:aY):Bool:=l7 (H9 80 (o8 r.1)) true (l7 (H9 80 (o8 r.2.2.2.2.2.2.2)) true (l7 (H9 50 (o8 r.2.2.2.2.2.1)) true (H9 50 (o8 r.2.2.2.2.2.2.1))))
def smS(s:L9):Bool:=l7 (H9 80 (o8 s.1)) false (l7 (H9 14 (o8 s.2.2.1)) false (l7 (H9 14 (o8 s.2.2.2.1)) false (l7 (H9 60 (o8 s.2.2.2.2)) false
 (l7 (s.2.2.1.any λf=>H9 80 (o8 f.1)) false (l7 (s.2.2.2.1.any λf=>H9 80 (o8 f.1)) false (G7 (s.2.2.2.2.any IX)))))))
theorem Ql{fs:List eG}(h:fs.length<=1000000):U8 (λ(x:Int)=>l7 (H9 x (o8 fs)) (l9 (J8 fs x) λ(x_1:eG)=>l7 (H9 80 (o8 x_1.1)) (some (Out.rt false)) (some (Out.nx (G5 IntKind.i64 x 1)))) (some (Out.ex PUnit.unit))) 0=some (bif fs.any (λf=>H9 80 (o8 f.1))then .inr false else .inl PUnit.unit):=by
 refine BO fs (λf=>H9 80 (o8 f.1)) false PUnit.unit h (λi a ha=>?_) ?_
 .simp only[N8 ha,o7,I9,ha,o9];cases H9 80 (o8 a.1)<;>rfl
 .rw[N7];rfl
theorem TE(s:L9):vX s=some (smS s):=by
 unfold vX smS;cases h1:H9 80 (o8 s.1)
 case true=>rfl
 cases h2:H9 14 (o8 s.2.2.1)
 case true=>rfl
 cases h3:H9 14 (o8 s.2.2.2.1)
 case true=>rfl
 cases h4:H9 60 (o8 s.2.2.2.2)
 case true=>rfl
 have l2:=dZ (n:=14) h2;have l3:=dZ (n:=14) h3;have l4:=dZ (n:=60) h4;simp only[o6,o9,X8];rw[Ql o5,Ql o5,o9];cases s.2.2.1.any λf=>H9 80 (o8 f.1)
 case true=>rfl
 simp only[cond_false,X8,o6,o9];cases s.2.2.2.1.any λf=>H9 80 (o8 f.1)
 case true=>rfl
 simp only[cond_false,X8,o6];refine U9 (BO s.2.2.2.2 IX false PUnit.unit o5 (λi a ha=>?_) ?_) ?_
 rotate_left 2
 .cases s.2.2.2.2.any IX<;>rfl
 .simp only[N8 ha,o7,I9,ha,o9];unfold IX;cases H9 80 (o8 a.1)<;>cases H9 80 (o8 a.2.2.2.2.2.2.2)<;>cases H9 50 (o8 a.2.2.2.2.2.1)<;>cases H9 50 (o8 a.2.2.2.2.2.2.1)<;>rfl
 .rw[N7];rfl
def ScI(s:L9):Prop:=∀r∈s.2.2.2.2,(∀n∈r.2.2.2.2.2.1,lJ n.2)/\∀n∈r.2.2.2.2.2.2.1,lJ n.2
theorem DD{a b:Bool}(h:l7 a false b=true):a=false/\b=true:=by cases a<;>cases b<;>first|exact⟨rfl,rfl⟩|cases h
theorem II{l:List α}{p:α->Bool}(h:l.any p=false):∀a∈l,p a=false:=by
 intro a ha;rw[iG]at h;have:=h a ha;cases hp:p a
 .rfl
 .exact absurd hp this
theorem a9j(h:smS s=true)(hI:ScI s):SmS s:=by
 unfold smS at h;obtain⟨h1,h⟩:=DD h;obtain⟨h2,h⟩:=DD h;obtain⟨h3,h⟩:=DD h;obtain⟨h4,h⟩:=DD h;obtain⟨h5,h⟩:=DD h;obtain⟨h6,h⟩:=DD h;have h7:s.2.2.2.2.any IX=false:=by cases hq:s.2.2.2.2.any IX<;>rw[hq]at h<;>first|rfl|cases h
 refine⟨by have:=dZ (n:=80) h1;omega,dZ (n:=14) h2,dZ (n:=14) h3,dZ (n:=60) h4,⟨λf hf=>?_,λf hf=>?_⟩,λr hr=>?_⟩
 .have:=dZ (n:=80) (II h5 f hf);omega
 .have:=dZ (n:=80) (II h6 f hf);omega
 .have hl:=II h7 r hr;unfold IX at hl;cases g1:H9 80 (o8 r.1)<;>rw[g1]at hl
  case true=>cases hl
  cases g2:H9 80 (o8 r.2.2.2.2.2.2.2)<;>rw[g2]at hl
  case true=>cases hl
  cases g3:H9 50 (o8 r.2.2.2.2.2.1)<;>rw[g3]at hl
  case true=>cases hl
  have k1:=dZ (n:=80) g1;have k2:=dZ (n:=80) g2;exact⟨⟨o5,o5,(hI r hr).1,(hI r hr).2⟩,dZ (n:=50) g3,dZ (n:=50) hl⟩
def Uj(e:Z8):Bool:=l7 (H9 80 (o8 e.1)) true (l7 (H9 20 (o8 e.2)) true (e.2.any λm=>H9 80 (o8 m)))
def tG(b:Int)(t:bW):Int⊕Bool:=l7 (H9 80 (o8 t.1)) (.inr false) (l7 (H9 150 (G5 .i64 b (o8 t.2.2.2))) (.inr false) (.inl (G5 .i64 b (o8 t.2.2.2))))
def sG(b:Int)(s:L9):Int⊕Bool:=l7 (H9 60 (G5 .i64 b (o8 s.2.2.2.2))) (.inr false) (l7 (smS s) (.inl (G5 .i64 b (o8 s.2.2.2.2))) (.inr false))
def smL(l:aA):Bool:=l7 (H9 9 (o8 l.1)) false (l7 (H9 9 (o8 l.2.1)) false (l7 (H9 5 (o8 l.2.2)) false (l7 (l.1.any Uj) false
 (match qK tG l.2.1 0 with| .inr _=>false| .inl _=>match qK sG l.2.2 0 with| .inr _=>false| .inl _=>true))))
theorem b1q:∀(b:Int) (t:bW) (r:Bool),tG b t= .inr r->r=false:=by intro b t r h;unfold tG at h;cases g0:H9 80 (o8 t.1)<;>cases g:H9 150 (G5 .i64 b (o8 t.2.2.2))<;>simp only[g0,g,o7,o6]at h<;>cases h<;>rfl
theorem a9h:∀(b:Int) (s:L9) (r:Bool),sG b s= .inr r->r=false:=by intro b s r h;unfold sG at h;cases g:H9 60 (G5 .i64 b (o8 s.2.2.2.2))<;>cases g2:smS s<;>simp only[g,g2,o7,o6]at h<;>cases h<;>rfl
theorem XN(l:aA):rU l=some (smL l):=by
 unfold rU smL;cases h1:H9 9 (o8 l.1)
 case true=>rfl
 cases h2:H9 9 (o8 l.2.1)
 case true=>rfl
 cases h3:H9 5 (o8 l.2.2)
 case true=>rfl
 have l1:=dZ (n:=9) h1;have l2:=dZ (n:=9) h2;have l3:=dZ (n:=5) h3;simp only[o6,o9,X8];refine U9 (BO l.1 Uj false PUnit.unit o5 (λi a ha=>?_) ?_) ?_
 .simp only[N8 ha,o7,I9,ha,o9];unfold Uj;cases H9 80 (o8 a.1)
  case true=>rfl
  cases h5:H9 20 (o8 a.2)
  case true=>rfl
  have l5:=dZ (n:=20) h5;simp only[o6];refine U9 (BO a.2 (λm=>H9 80 (o8 m)) false PUnit.unit o5 (λj m hm=>?_) ?_) ?_
  .simp only[N8 hm,o7,I9,hm,o9];cases H9 80 (o8 m)<;>rfl
  .rw[N7];rfl
  .cases a.2.any λm=>H9 80 (o8 m)<;>rfl
 .rw[N7];rfl
 cases l.1.any Uj
 case true=>rfl
 simp only[cond_false,X8,o6];apply QD l.2.1 tG (λb i=>((b,i):Int×Int)) (λ_=>PUnit.unit) (λ_ _=>True) 0 o5 trivial
 .intro i t b hi hi' _;refine⟨?_,λ_ _=>trivial⟩;simp only[N8 hi,o7,I9,hi,o9];unfold tG;rw[bD o5];cases H9 80 (o8 t.1)<;>cases H9 150 (G5 .i64 b (o8 t.2.2.2))<;>rfl
 .intro b _;rw[N7];rfl
 .intro _;cases ht:qK tG l.2.1 0 with
  |inr r=>rw[Mc tG (λr=>r=false) b1q _ _ _ ht];rfl|inl b=>
   simp only[X8];apply QD l.2.2 sG (λb i=>((b,i):Int×Int)) (λ_=>PUnit.unit) (λ_ _=>True) 0 o5 trivial
   .intro i s b hi hi' _;refine⟨?_,λ_ _=>trivial⟩;simp only[N8 hi,o7,I9,hi,o9,TE];unfold sG;rw[bD o5];cases H9 60 (G5 .i64 b (o8 s.2.2.2.2))<;>cases smS s<;>rfl
   .intro b _;rw[N7];rfl
   .intro _;cases hs:qK sG l.2.2 0 with
    |inr r=>rw[Mc sG (λr=>r=false) a9h _ _ _ hs];rfl|inl b=>rfl
structure WfL (l:aA):Prop where
 rl:∀t∈l.2.1,t.2.2.2.length<=4611686018427387904
 ri:∀t∈l.2.1,∀r∈t.2.2.2,a2i r
 sl:∀s∈l.2.2,s.2.2.2.2.length<=4611686018427387904
 si:∀s∈l.2.2,ScI s
theorem p_:∀(L:List bW) (b b' :Int),0<=b->b<=150->(∀t∈L,t.2.2.2.length<=4611686018427387904)->qK tG L b= .inl b' ->∀t∈L,t.1.length<=80/\t.2.2.2.length<=150
 |[],_,_,_,_,_,_=>by simp|t::L,b,b',h0,h1,hw,h=>by
  have hwt:=hw t x9;have ha:G5 .i64 b (o8 t.2.2.2)=b+o8 t.2.2.2:=kF (by unfold lJ o8;omega);unfold qK tG at h;rw[ha]at h;cases g0:H9 80 (o8 t.1)<;>rw[g0]at h
  case true=>cases h
  cases g1:H9 150 (b+o8 t.2.2.2)<;>rw[g1]at h
  case true=>cases h
  rw[ng]at g1;intro x hx;rcases A8.1 hx with rfl|hx
  .exact⟨dZ (n:=80) g0,by unfold o8 at g1;omega⟩
  .exact p_ L (b+o8 t.2.2.2) b' (by unfold o8;omega) g1 (λq hq=>hw q (by simp[hq])) h x hx
theorem ZR:∀(L:List L9) (b b' :Int),0<=b->b<=60->(∀s∈L,s.2.2.2.2.length<=4611686018427387904)->qK sG L b= .inl b' ->∀s∈L,smS s=true
 |[],_,_,_,_,_,_=>by simp|s::L,b,b',h0,h1,hw,h=>by
  have hwt:=hw s x9;have ha:G5 .i64 b (o8 s.2.2.2.2)=b+o8 s.2.2.2.2:=kF (by unfold lJ o8;omega);unfold qK sG at h;rw[ha]at h;cases g1:H9 60 (b+o8 s.2.2.2.2)<;>rw[g1]at h
  case true=>cases h
  cases g2:smS s<;>rw[g2]at h
  case false=>cases h
  rw[ng]at g1;intro x hx;rcases A8.1 hx with rfl|hx
  .exact g2
  .exact ZR L (b+o8 s.2.2.2.2) b' (by unfold o8;omega) g1 (λq hq=>hw q (by simp[hq])) h x hx
theorem a9i(h:smL l=true)(hW:WfL l):SmL l/\∀t∈l.2.1,a8d t:=by
 unfold smL at h;obtain⟨h1,h⟩:=DD h;obtain⟨h2,h⟩:=DD h;obtain⟨h3,h⟩:=DD h;obtain⟨h4,h⟩:=DD h;have l1:=dZ (n:=9) h1;have l2:=dZ (n:=9) h2;have l3:=dZ (n:=5) h3;cases ht:qK tG l.2.1 0 with
 |inr r=>rw[ht]at h;cases h|inl b=>
  rw[ht]at h;simp only at h;cases hs:qK sG l.2.2 0 with
  |inr r=>rw[hs]at h;cases h|inl b' =>
   have T:=p_ l.2.1 0 b o5 o5 hW.rl ht;have S:=ZR l.2.2 0 b' o5 o5 hW.sl hs;refine⟨⟨⟨o5,o5,o5⟩,λe he=>?_,λt ht=>by have:=(T t ht).1;omega,λs hs=>a9j (S s hs) (hW.si s hs)⟩,λt ht=>⟨by have:=(T t ht).2;omega,hW.ri t ht⟩⟩;have hl:=II h4 e he;unfold Uj at hl;cases g1:H9 80 (o8 e.1)<;>rw[g1]at hl
   case true=>cases hl
   cases g2:H9 20 (o8 e.2)<;>rw[g2]at hl
   case true=>cases hl
   have k1:=dZ (n:=80) g1;exact⟨o5,λm hm=>by have:=dZ (n:=80) (II hl m hm);omega⟩
theorem XA:reachBytes<=4611686018427387904:=by decide
theorem b8i(h:wf b8R l):WfL l:=by
 refine⟨λt ht=>?_,λt ht r hr=>?_,λs hs=>?_,λs hs r hr=>⟨λn hn=>?_,λn hn=>?_⟩⟩
 .have:=(h.2.1.2 t ht).2.2.2.1;exact aU this XA
 .have:=(h.2.1.2 t ht).2.2.2.2 r hr;exact⟨SE this.2.1,SE this.2.2.1,SE this.2.2.2⟩
 .have:=(h.2.2.2 s hs).2.2.2.2.1;exact aU this XA
 .have:=(h.2.2.2 s hs).2.2.2.2.2 r hr;exact SE (this.2.2.2.2.2.1.2 n hn).2
 .have:=(h.2.2.2 s hs).2.2.2.2.2 r hr;exact SE (this.2.2.2.2.2.2.1.2 n hn).2
theorem w_(h:(oD l).1=0)(hs:l.2.2[i]? =some s){k:Nat}{r:aY}(hr:s.2.2.2.2[k]? =some r):GU s (Lr l s) k r=0:=by
 have hp:=(a1Z h hs).2;unfold MM at hp;cases h1:vJ l s with
 |some q=>rw[h1]at hp;exact absurd hp (Gg h1)|none=>
  rw[h1]at hp;simp only at hp;cases h2:aS s.2.2.2.2.length (GR l s)with
  |some q=>
   rw[h2]at hp;obtain⟨j,hj,hq⟩:=jJ h2;unfold GR at hq;cases h3:s.2.2.2.2[j]? with
   |none=>rw[h3]at hq;cases hq|some q2=>rw[h3]at hq;exact absurd hp (Ih hq)
  |none=>
   have hn:=xh h2 k (ax.1 hr).1;unfold GR at hn;rw[hr]at hn;simp only at hn;unfold JZ at hn;cases he:C9 (GU s (Lr l s) k r) 0<;>rw[he]at hn
   .cases hn
   .exact iF.1 he
theorem Qo{ρ:Type}{p:Nat->Option ρ}(h:∀r,aS n p≠some r):∀i,i<n->p i=none:=by
 cases hf:aS n p with
 |some r=>exact absurd hf (h r)|none=>exact xh hf
theorem a1e{k i:Int}{r:Int×Int}(h:Jo k i r=none):r.1=0:=by
 unfold Jo at h;cases he:C9 r.1 0<;>rw[he]at h
 .cases h
 .exact iF.1 he
end Go.GP
namespace Gt
open Go Go.GP
variable {n:Int}
theorem a5Y(h:lJ n):Dy n=some (Lib.itoa n):=by unfold Dy;rw[if_pos (show -9223372036854775808<=n/\n<=9223372036854775807 from h)]
theorem UB{s:List UInt8}{c:Nat}(h:c<=1000000)(hs:s.length<=1000000):qL s (c:Int)=some (Lib.repeatL s c):=by
 unfold qL
 have:s.length*c<=1000000*1000000:=Nat.mul_le_mul hs h;rw[if_pos ⟨o5,o5,by rw[Y1];omega⟩,Y1]
theorem b4T(x:UInt8)(c:Nat):Lib.repeatL [x] c=List.replicate c x:=by have:=Lib.repeatL_replicate x 1 c;simpa using this
theorem Yl{d:Int}(h0:0<=d)(h:d<10):a7k (wrap .u8 (G5 .u64 48 d))=UInt8.ofNat (48+d.toNat):=by
 rw[Xa (by unfold U64;omega)];have e:wrap .u8 (48+d)=((48+d.toNat:Nat):Int):=by unfold wrap IntKind.wrap;simp[IntKind.signed,IntKind.bits];omega
 rw[e];unfold a7k;rw[Y1]
theorem a7u(n:Int):WJ [n]=[a7k n]:=rfl
theorem WR:∀(k u:Nat),u<k->u<18446744073709551616->nS k (u:Int)=some (Lib.decDigits u)
 |0,u,h,_=>by omega|k+1,u,h,hu=>by
  show xI (nS k) (u:Int)=_;unfold xI;by_cases h10:u<10
  .try simp only[a7u]
   rw[kX (dU o5),Yl o5 o5,Lib.decDigits,dif_pos h10,Y1]
  .have e1:(u:Int).tdiv 10=((u / 10:Nat):Int):=by rw[mW o5];omega
   have e2:kw (u:Int) 10=((u % 10:Nat):Int):=by rw[Ba o5];omega
   try simp only[a7u]
   rw[lM (bT o5),a2L (by rw[e1];unfold U64;omega)];rw[e1,WR k (u / 10) o5 o5,o9,e2,Yl o5 o5,I8,o9,Y1]
   .congr 1
    conv=>rhs;rw[Lib.decDigits,dif_neg h10]
   .have:=Lib.nDigits_le20 (u / 10) o5;rw[Lib.decDigits_length];simp;omega
theorem Fz(h:U64 n):zY n=some (Lib.decDigits n.toNat):=by unfold U64 at h;have:=WR ji n.toNat (by unfold ji;omega) o5;rw[fV h.1]at this;exact this
theorem Gm(h:lJ n):(Lib.itoa n).length<=21:=Lib.itoa_length_le n h.1 h.2
variable {u:Nat}
theorem yX(h:u<18446744073709551616):1<=(Lib.decDigits u).length/\(Lib.decDigits u).length<=20:=by rw[Lib.decDigits_length];exact⟨Lib.nDigits_pos u,Lib.nDigits_le20 u h⟩
theorem qU(h:lJ n):ku n=some (Lib.itoa n):=by
 unfold lJ at h;unfold ku Lib.itoa;by_cases hn:n<0
 .rw[kX (dU hn),if_pos hn,kF iT,iL iT];rw[show wrap .u64 (0 -(n+1))=0 -(n+1)from LC (by unfold U64;omega),Xa (by unfold U64;omega),Fz (by unfold U64;omega),o9];have e:(0 -(n+1)+1).toNat=n.natAbs:=o5;rw[e,I8,o9]
  .rfl
  .have:=(yX (u:=n.natAbs) o5).2;simp;omega
 .rw[lM (bT o5),if_neg hn,show wrap .u64 n=n from LC (by unfold U64;omega),Fz (by unfold U64;omega),o9]
theorem jB(h:lJ n):jP n=some (Lib.itoa n):=by unfold jP;rw[a5Y h];rfl
def LY(u k:Nat):List UInt8:=
 let d:=List.replicate (k+1 -(Lib.decDigits u).length) 48++Lib.decDigits u
 d.take (d.length -k)++46::d.drop (d.length -k)
def Qp(n:Int)(k:Nat):List UInt8:=if n<0 then 45::LY n.natAbs k else LY n.natAbs k
variable {k:Nat}
theorem YV(hu:u<18446744073709551616)(hk:k<=9):(LY u k).length<=31:=by have:=yX hu;unfold LY;simp;omega
theorem LZ(h:lJ n)(hk:k<=9):(Qp n k).length<=32:=by unfold lJ at h;have:=YV (u:=n.natAbs) (k:=k) o5 hk;unfold Qp;split<;>simp<;>omega
variable {d:List UInt8}
theorem a2s(h1:k<d.length)(h2:d.length<=100):
  iD d 0 (O6 .i64 (o8 d) (k:Int))=some (d.take (d.length -k))/\iD d (O6 .i64 (o8 d) (k:Int)) (o8 d)=some (d.drop (d.length -k)):=by
 have e:O6 .i64 (o8 d) (k:Int)=((d.length -k:Nat):Int):=by rw[iL (by unfold lJ o8;omega)];unfold o8;omega
 rw[e];exact⟨by rw[a0e o5 o5];simp,by rw[MH o5 o5];simp⟩
theorem a0J{d p:List UInt8}(h1:k<d.length)(h2:d.length<=100)(hp:p.length<=100):
  (l9 (iD d 0 (O6 .i64 (o8 d) (k:Int))) λx=>l9 (O7 p x) λy=>l9 (O7 y [46]) λz=>l9 (iD d (O6 .i64 (o8 d) (k:Int)) (o8 d)) λt=>l9 (O7 z t) λx=>some x)
   =some (p++(d.take (d.length -k)++46::d.drop (d.length -k))):=by
 obtain⟨c1,c2⟩:=a2s h1 h2;rw[c1,o9,I8 G6,o9,I8 G6,o9,c2,o9,I8 G6,o9];simp
theorem iI(h:lJ n)(hk:1<=k/\k<=9):bV n (k:Int)=some (Qp n k):=by
 have hI:=h;unfold lJ at h;have ek:yC 0 (yD (k:Int) 9)=(k:Int):=by unfold yC yD;split<;>split<;>omega
 unfold bV pX;rw[o9,ek,jB hI,o9,lM (P6 o5)];have hd:=yX (u:=n.natAbs) o5;have rest:∀(d p:List UInt8),1<=d.length->d.length<=20->p.length<=1->
   l7 (U1 (o8 d) (k:Int))
    (l9 (qL [48] (O6 .i64 (G5 .i64 (k:Int) 1) (o8 d))) λx3=>l9 (O7 x3 d) λx4=>l9 (iD x4 0 (O6 .i64 (o8 x4) (k:Int))) λx5=>l9 (O7 p x5) λx6=>l9 (O7 x6 [46]) λx7=>
     l9 (iD x4 (O6 .i64 (o8 x4) (k:Int)) (o8 x4)) λx=>l9 (O7 x7 x) λx=>some x)
    (l9 (iD d 0 (O6 .i64 (o8 d) (k:Int))) λx=>l9 (O7 p x) λy=>l9 (O7 y [46]) λz=>l9 (iD d (O6 .i64 (o8 d) (k:Int)) (o8 d)) λt=>l9 (O7 z t) λx=>some x)
   =some (p++(let e:=List.replicate (k+1 -d.length) 48++d;e.take (e.length -k)++46::e.drop (e.length -k))):=by
  intro d p h1 h2 h3;by_cases hle:d.length<=k
  .rw[kX (aZ (by unfold o8;omega))];have e:O6 .i64 (G5 .i64 (k:Int) 1) (o8 d)=((k+1 -d.length:Nat):Int):=by
    rw[kF iT,iL (by unfold lJ o8;omega)];unfold o8;omega
   rw[e,UB o5 x9,b4T,o9,I8 G6,o9];exact a0J G6 G6 o5
  .rw[lM (dw (by unfold o8;omega)),a0J o5 o5 o5];have:k+1 -d.length=0:=o5;rw[this];simp
 unfold Lib.itoa Qp LY;by_cases hn:n<0
 .rw[if_pos hn,if_pos hn,kX (dU hn)];have e:iD (45::Lib.decDigits n.natAbs) 1 (o8 (45::Lib.decDigits n.natAbs))=some (Lib.decDigits n.natAbs):=by
   rw[MH o5 G6];simp
  rw[e,o9];exact rest (Lib.decDigits n.natAbs) [45] hd.1 hd.2 x9
 .rw[if_neg hn,if_neg hn,lM (bT o5)];have e:n.toNat=n.natAbs:=o5;rw[e];exact rest (Lib.decDigits n.natAbs) [] hd.1 hd.2 x9
theorem a5P :∀(h:d=Lib.decDigits u),∀c∈d,48<=c.toNat/\c.toNat<=57:=by intro h c hc;subst h;rw[Lib.decDigits_eq]at hc;obtain⟨t,_,rfl⟩:=iU.1 hc;unfold Lib.dg;have:u / 10^(Lib.nDigits u -1 -t) % 10<10:=Nat.mod_lt _ o5;generalize u / 10^(Lib.nDigits u -1 -t) % 10=r at this;simp;omega
theorem Qc{c:UInt8}(hc:c∈Lib.decDigits u):48<=c.toNat/\c.toNat<=57:=a5P rfl c hc
theorem Rh(h:∀c∈d,48<=c.toNat/\c.toNat<=57)(h1:1<=d.length):yO d=some (d,false):=by
 unfold yO;rw[kX (dU (by unfold o8;omega))];match d,h1 with
 |c::r,_=>have e:sat (c::r) 0=some (c.toNat:Int):=rfl;have:=h c x9;rw[e,o9,lM (P6 o5)]
theorem Ri :yO (45::d)=some (d,true):=by unfold yO;rw[kX (dU (by unfold o8;simp))];have e:sat (45::d) 0=some (45:Int):=rfl;rw[e,o9,kX (aB rfl),MH o5 G6,o9];simp
theorem a6t(hk:k<=100)(hd:d.length<=100):
  aG (λ(x_3:List UInt8)=>l7 (U1 (o8 x_3) (k:Int)) (l9 (O7 [48] x_3) λ(x:List UInt8)=>some (Sum.inl x)) (some (Sum.inr x_3))) d=some (List.replicate (k+1 -d.length) 48++d):=by
 obtain⟨e,h1,h2⟩:=pO (f:=λ(x_3:List UInt8)=>l7 (U1 (o8 x_3) (k:Int)) (l9 (O7 [48] x_3) λ(x:List UInt8)=>some (Sum.inl x)) (some (Sum.inr x_3))) (s:=d)
  (λs=>s.length<=102/\List.replicate (k+1 -s.length) 48++s=List.replicate (k+1 -d.length) 48++d) (λe=>e=List.replicate (k+1 -d.length) 48++d) (λs=>k+1 -s.length) ⟨o5,rfl⟩ o5 (by
   intro s ⟨hs,he⟩;by_cases hle:s.length<=k
   .refine .inl ⟨48::s,?_,⟨by simp;omega,?_⟩,by simp;omega⟩
    .rw[kX (aZ (by unfold o8;omega)),I8 G6];rfl
    .rw[←he];have e1:k+1 -s.length=(k+1 -(48::s).length)+1:=by simp;omega
     rw[e1,oJ];simp
   .refine .inr ⟨s,?_,?_⟩
    .rw[lM (dw (by unfold o8;omega))]
    .rw[←he,show k+1 -s.length=0 by omega];simp)
 rw[h1,h2]
theorem zq(h:lJ n)(hk:1<=k/\k<=9):jS n (k:Int)=some (Qp n k):=by
 have hI:=h;unfold lJ at h;have ek:yD (yC (k:Int) 0) 9=(k:Int):=by unfold yC yD;split<;>split<;>omega
 unfold jS GG;have hd:=yX (u:=n.natAbs) o5;rw[o9,ek,lM (P6 o5),qU hI,o9];have rest:∀(d:List UInt8) (b:Bool),1<=d.length->d.length<=20->
   (l9 (aG (λ(x_3:List UInt8)=>l7 (U1 (o8 x_3) (k:Int)) (l9 (O7 [48] x_3) λ(x:List UInt8)=>some (Sum.inl x)) (some (Sum.inr x_3))) (d,b).1) λ(y:List UInt8)=>
    l9 (iD y 0 (O6 .i64 (o8 y) (k:Int))) λ(x_3:List UInt8)=>l9 (O7 x_3 [46]) λ(x_4:List UInt8)=>l9 (iD y (O6 .i64 (o8 y) (k:Int)) (o8 y)) λ(x:List UInt8)=>
     l9 (O7 x_4 x) λ(x:List UInt8)=>l7 (d,b).2 (l9 (O7 [45] x) λ(x:List UInt8)=>some x) (some x))
   =some ((if b then[45]else[])++(let e:=List.replicate (k+1 -d.length) 48++d;e.take (e.length -k)++46::e.drop (e.length -k))):=by
  intro d b h1 h2;rw[a6t (d:=d) o5 o5,o9];generalize he:List.replicate (k+1 -d.length) 48++d=e;have hl:k<e.length/\e.length<=40:=by subst he;simp;omega
  obtain⟨c1,c2⟩:=a2s hl.1 o5;rw[c1,o9,I8 G6,o9,c2,o9,I8 G6,o9];cases b
  .simp
  .show l9 (O7 [45] _) _=_;rw[I8 G6,o9];simp
 unfold Lib.itoa Qp LY;by_cases hn:n<0
 .rw[if_pos hn,if_pos hn,Ri,o9];exact rest (Lib.decDigits n.natAbs) true hd.1 hd.2
 .rw[if_neg hn,if_neg hn];have e:n.toNat=n.natAbs:=o5;rw[e,Rh (λc hc=>Qc hc) hd.1,o9];exact rest (Lib.decDigits n.natAbs) false hd.1 hd.2
def Zq(n:Int)(w:Nat):List UInt8:=List.replicate (w -(Lib.itoa n).length) 48++Lib.itoa n
variable {w:Nat}
theorem xH(h:lJ n)(hw:w<=4):(Zq n w).length<=25:=by have:=Gm h;unfold Zq;simp;omega
theorem FY(h:lJ n)(hw:w<=4):AP n (w:Int)=some (Zq n w):=by
 have hl:=Gm h;unfold AP;rw[jB h,o9];have e:yC 0 (O6 .i64 (w:Int) (o8 (Lib.itoa n)))=((w -(Lib.itoa n).length:Nat):Int):=by rw[iL (by unfold lJ o8;omega)];unfold yC o8;split<;>omega
 rw[e,UB o5 x9,b4T,o9,I8 G6,o9];rfl
theorem ER(h:lJ n)(hw:w<=4):yP n (w:Int)=some (Zq n w):=by
 have hl:=Gm h;unfold yP;rw[qU h,o9];show _=some (List.replicate (w -(Lib.itoa n).length) 48++Lib.itoa n);generalize Lib.itoa n=d at hl ⊢;obtain⟨e,h1,h2⟩:=pO (f:=λ(x:List UInt8)=>l7 (H9 (o8 x) (w:Int)) (l9 (O7 [48] x) λ(x:List UInt8)=>some (Sum.inl x)) (some (Sum.inr x))) (s:=d)
  (λs=>s.length<=30/\List.replicate (w -s.length) 48++s=List.replicate (w -d.length) 48++d) (λe=>e=List.replicate (w -d.length) 48++d) (λs=>w -s.length) ⟨o5,rfl⟩ o5 (by
   intro s ⟨hs,he⟩;by_cases hle:s.length<w
   .refine .inl ⟨48::s,?_,⟨by simp;omega,?_⟩,by simp;omega⟩
    .rw[kX (dU (by unfold o8;omega)),I8 G6];rfl
    .rw[←he];have e1:w -s.length=(w -(48::s).length)+1:=by simp;omega
     rw[e1,oJ];simp
   .refine .inr ⟨s,?_,?_⟩
    .rw[lM (bT (by unfold o8;omega))]
    .rw[←he,show w -s.length=0 by omega];simp)
 rw[h1,o9,h2]
def wY(d:Int):List UInt8:=if 0<=d/\d<=109572 then Zq (ymd d).1 4++45::Zq (ymd d).2.1 2++45::Zq (ymd d).2.2 2 else[]
theorem a7C{a b c:List UInt8}(ha:a.length<=100)(hb:b.length<=100)(hc:c.length<=100){A C B:Option (List UInt8)}(eb:B=some b)(ec:C=some c):
  (l9 (O7 a [45]) λx2=>l9 B λx3=>l9 (O7 x2 x3) λx4=>l9 (O7 x4 [45]) λx5=>l9 C λx=>l9 (O7 x5 x) λx=>some x)=some (a++45::b++45::c):=by
 rw[I8 G6,o9,eb,o9,I8 G6,o9,I8 G6,o9,ec,o9,I8 G6,o9];simp
theorem um(h1:-1000000<=n)(h2:n<=1000000):lJ n:=by unfold lJ;omega
theorem qf(d:Int):qI d=some (wY d):=by
 unfold qI AQ wY;by_cases h0:0<=d
 .rw[kX (aZ h0),o9];by_cases h:d<=109572
  .rw[aZ h,J5,o6,SX h0 h,o9,if_pos ⟨h0,h⟩];have hb:=x_ h0 h;have p1:=um (n:=(ymd d).1) o5 o5;have p2:=um (n:=(ymd d).2.1) o5 o5;have p3:=um (n:=(ymd d).2.2) o5 o5;rw[show AP (ymd d).1 4=_ from FY (w:=4) p1 o5,o9];have l1:=xH (w:=4) p1 o5;have l2:=xH (w:=2) p2 o5;have l3:=xH (w:=2) p3 o5;exact a7C (A:=none) o5 o5 o5 (FY (w:=2) p2 o5) (FY (w:=2) p3 o5)
  .rw[dw o5,Y7,o7,if_neg o5]
 .rw[lM (dw o5),o9,Y7,o7,if_neg o5]
theorem vP(d:Int):pG d=some (wY d):=by
 unfold pG zt wY;by_cases h0:0<=d
 .rw[kX (aZ h0),o9];by_cases h:d<=109572
  .rw[aZ h,J5,o6,Rj h0 h,o9,if_pos ⟨h0,h⟩];have hb:=x_ h0 h;have p1:=um (n:=(ymd d).1) o5 o5;have p2:=um (n:=(ymd d).2.1) o5 o5;have p3:=um (n:=(ymd d).2.2) o5 o5;rw[show yP (ymd d).1 4=_ from ER (w:=4) p1 o5,o9];have l1:=xH (w:=4) p1 o5;have l2:=xH (w:=2) p2 o5;have l3:=xH (w:=2) p3 o5;exact a7C (A:=none) o5 o5 o5 (ER (w:=2) p2 o5) (ER (w:=2) p3 o5)
  .rw[dw o5,Y7,o7,if_neg o5]
 .rw[lM (dw o5),o9,Y7,o7,if_neg o5]
theorem zQ(d:Int):(wY d).length<=100:=by
 unfold wY;split
 .rename_i h;have hb:=x_ h.1 h.2;have l1:=xH (w:=4) (um (n:=(ymd d).1) o5 o5) o5;have l2:=xH (w:=2) (um (n:=(ymd d).2.1) o5 o5) o5;have l3:=xH (w:=2) (um (n:=(ymd d).2.2) o5 o5) o5;simp;omega
 .simp
theorem rf(t:Int×Int)(en:List Z8):aI t en=X3 t en:=by
 unfold aI X3;by_cases h1:t.1=1
 .simp[C9,h1,U1]
 by_cases h2:t.1=2
 .simp[C9,h2,U1]
 by_cases h3:t.1=3
 .simp[C9,h3,U1]
 by_cases h4:t.1=4
 .simp[C9,h4,U1]
 by_cases h5:t.1=5
 .simp[C9,h5,U1]
 by_cases h6:t.1=6
 .simp[C9,h6,U1]
 .simp only[C9,h1,h2,h3,h4,h5,h6,decide_false,o6,o9];by_cases h7:1<=t.1
  .rw[kX (aZ h7),lM (dw o5)]
  .rw[lM (dw o5)]
theorem Ib(t:Int×Int)(en:List Z8):iK t en=dH t en:=by unfold iK dH;rw[rf]
theorem a2b(n:Int)(t:Int×Int)(en:List Z8):nK n t en=xJ n t en:=by unfold nK xJ;rw[Ib]
theorem vY{v:Eh}(en:List Z8)(h:lJ v.2.2):jX v en=qV v en:=by
 unfold jX qV yQ;rw[o9,rf];cases hv:X3 (v.1,v.2.1) en with
 |none=>rfl|some b=>
  rw[o9,o9];cases b with
  |false=>rfl|true=>
   rw[J5,o6,o6];have e:CG v en=nK v.2.2 (v.1,v.2.1) en:=by unfold CG yQ;rw[o9,hv,o9,o7,o9,vF,a2b]
   rw[e,jB h,qU h,show bV v.2.2 2=_ from iI (k:=2) h o5,show jS v.2.2 2=_ from zq (k:=2) h o5,
    show bV v.2.2 4=_ from iI (k:=4) h o5,show jS v.2.2 4=_ from zq (k:=4) h o5,qf,vP]
theorem vZ{B:Nat}(hB:100<=B)(hB2:B<=200000000000000){v:Int×Int×Int}{en:List Z8}(h:lJ v.2.2)(hm:∀e∈en,e.2.length<=B/\∀m∈e.2,m.length<=B):∃t,jX v en=some t/\t.1.length<=B:=by
 unfold jX
 cases hv:aI (v.1,v.2.1) en with
 |none=>
  exfalso;rw[rf]at hv;unfold X3 at hv;simp only[pg]at hv
  repeat' split at hv
  all_goals cases hv
 |some b=>
  rw[o9];cases b with
  |false=>exact⟨_,rfl,x9⟩|true=>
   rw[J5,o6];unfold nK iK;rw[hv];simp only[o9,J5,o6];have f1:=Gm h;have f2:=LZ (k:=2) h o5;have f4:=LZ (k:=4) h o5;have f5:=zQ v.2.2;rw[jB h,show bV v.2.2 2=_ from iI (k:=2) h o5,show bV v.2.2 4=_ from iI (k:=4) h o5,qf];simp only[o9];rw[I8 (a:=Qp v.2.2 4) G6];simp only[o9];by_cases h1:v.1=1
   .simp only[aB h1,o7,o9];simp only[bb,o9];simp only[pg];repeat' split
    all_goals exact⟨_,rfl,by first|omega|(simp<;>omega)⟩
   by_cases h2:v.1=2
   .simp only[P6 h1,aB h2,o7,o6,o9];simp only[bb,o9];simp only[pg];repeat' split
    all_goals exact⟨_,rfl,by first|omega|(simp<;>omega)⟩
   by_cases h3:v.1=3
   .simp only[P6 h1,P6 h2,aB h3,o7,o6,o9];simp only[bb,o9];simp only[pg];repeat' split
    all_goals exact⟨_,rfl,by first|omega|(simp<;>omega)⟩
   by_cases h4:v.1=4
   .simp only[P6 h1,P6 h2,P6 h3,aB h4,o7,o6,o9];simp only[bb,o9];simp only[pg];repeat' split
    all_goals exact⟨_,rfl,by first|omega|(simp<;>omega)⟩
   by_cases h5:v.1=5
   .simp only[P6 h1,P6 h2,P6 h3,P6 h4,aB h5,o7,o6,o9];simp only[bb,o9];simp only[pg];repeat' split
    all_goals exact⟨_,rfl,by first|omega|(simp<;>omega)⟩
   .simp only[P6 h1,P6 h2,P6 h3,P6 h4,P6 h5,o6];have hk:v.1=6/\0<=v.2.1/\v.2.1<o8 en:=by
     unfold aI at hv;simp only[P6 h1,P6 h2,P6 h3,P6 h4,P6 h5,o6,o9]at hv;simp only[pg,iF,uo]at hv;split at hv
     .split at hv
      .simp only[E5,yZ]at hv;exact⟨by assumption,by assumption,hv⟩
      .cases hv
     .cases hv
    obtain⟨e,he,hmem⟩:=qQ hk.2.1 hk.2.2;rw[he];simp only[o9];have hle:=(hm e hmem).1;have hll:o8 e.2=(e.2.length:Int):=rfl;rw[iL iT];by_cases hw0:0<=v.2.2
    .by_cases hw1:v.2.2<=o8 e.2 -1
     .rw[aZ hw0,o7,aZ hw1,o9,J5,o6];obtain⟨m,hm1,hm2⟩:=qQ (l:=e.2) hw0 o5;rw[hm1];exact⟨_,rfl,(hm e hmem).2 m hm2⟩
     .rw[aZ hw0,o7,dw (rE.1 hw1),o9,Y7,o7];exact⟨_,rfl,x9⟩
    .rw[dw (rE.1 hw0),o6];exact⟨_,rfl,x9⟩
end Gt
namespace Go.GP
open Gt
theorem Tc(l:List eG):ql l=jC l:=by unfold ql jC;rfl
theorem YG{α:Type}{l:List α}(h:l.length<=1000000):Ai l=some l:=by unfold Ai;rw[vK G6,F7]
theorem RY{l:aA}(hc:tN l.1=some l.1)(k:Int):mg l k=lN l k:=by unfold mg lN;simp only[hc,Tc];rfl
end Go.GP
namespace Go.GP
open Gt
set_option maxRecDepth 100000
def gtN(l:List (List UInt8))(i:Int):List UInt8:=(J8 l i).getD []
def sK(k:Int):List UInt8:=(wC k).getD []
def uN(k:Int):List UInt8:=(dP k).getD []
def yl(k:Int):List UInt8×Int:=(dW k).getD ([],0)
def FH(k:Int):Bool:=l7 (C9 k 2) true (l7 (C9 k 3) true (C9 k 4))
variable {b:Bool}
theorem a8i{x y:Option (List UInt8)}(hx:∃s,x=some s/\s.length<=10)(hy:∃s,y=some s/\s.length<=10):∃s,l7 b x y=some s/\s.length<=10:=by cases b<;>assumption
theorem a0M(k:Int):∃s,wC k=some s/\s.length<=10:=by
 unfold wC
 repeat (refine a8i ⟨_,rfl,J3⟩ ?_)
 exact⟨_,rfl,J3⟩
theorem a5K(k:Int):wC k=some (sK k):=by obtain⟨s,h,-⟩:=a0M k;unfold sK;rw[h];rfl
theorem sU(k:Int):gu k=some (sK k):=(show gu k=wC k from rfl).trans (a5K k)
theorem NY(k:Int):dP k=some (uN k):=by
 unfold uN;have:∃s,dP k=some s:=by
  unfold dP;simp only[pg];repeat' split
  all_goals exact⟨_,rfl⟩
 obtain⟨s,h⟩:=this;rw[h];rfl
theorem a5D(k:Int):dW k=some (yl k):=by
 unfold yl;have:∃s,dW k=some s:=by
  unfold dW;simp only[pg];repeat' split
  all_goals exact⟨_,rfl⟩
 obtain⟨s,h⟩:=this;rw[h];rfl
theorem a6Z(k:Int):gp k=some (yl k):=(show gp k=dW k from rfl).trans (a5D k)
theorem rM(k:Int):(sK k).length<=10:=by obtain⟨s,h,h2⟩:=a0M k;unfold sK;rw[h];exact h2
theorem zo(k:Int):(uN k).length<=10:=by
 unfold uN dP;simp only[pg];repeat' split
 all_goals simp
theorem Wn(k:Int):(yl k).1.length<=10:=by
 unfold yl dW;simp only[pg];repeat' split
 all_goals simp
structure NmOk (N:E9):Prop where
 e:∀e∈N.1,e.1.length<=1000/\∀m∈e.2,m.length<=1000
 t:∀s∈N.2.1,s.length<=1000
 i:∀s∈N.2.2.1,s.length<=1000
 d:∀s∈N.2.2.2.1,s.length<=1000
 m:∀s∈N.2.2.2.2,s.length<=1000
abbrev Tx:Type:=List UInt8×Int
def wiS(p:Tx)(c:Int):List UInt8:=l7 (H9 p.2 c) ([40]++p.1++[41]) p.1
def mP(n:Int×Int)(N:E9):Tx:=
 l7 (U1 n.1 5) (((qV (n.1,0,n.2) []).getD ([],0)).1,l7 (H9 n.2 0) 6 7)
 (l7 (C9 n.1 6) (((J8 N.1 (fF .i64 n.2 16)).getD ([],[])).1++[58]++gtN ((J8 N.1 (fF .i64 n.2 16)).getD ([],[])).2 (kw n.2 16),7)
 (l7 (C9 n.1 7) (gtN N.2.2.1 n.2,7)
 (l7 (C9 n.1 8) (gtN N.2.2.2.1 n.2,7)
 (l7 (C9 n.1 9) ([116,111,100,97,121],7)
 (l7 (C9 n.1 35) ([99,111,117,110,116,40,41],7) (sK n.1++[40]++gtN N.2.2.2.2 n.2++[41],7))))))
def Dt(n:Int×Int)(N:E9)(num:Bool)(a:Tx):Tx:=
 l7 (C9 n.1 33) (sK n.1++[40]++gtN N.2.1 n.2++[44,32]++a.1++[41],7)
 (l7 (C9 n.1 34) (sK n.1++[40]++gtN N.2.1 (fF .i64 n.2 8)++[44,32]++a.1++[44,32]++uN (kw n.2 8)++[41],7)
 (l7 (C9 n.1 25) ([110,111,116,32]++wiS a 6,6)
 (l7 (C9 n.1 10) ([45]++l7 num ([40]++a.1++[41]) (wiS a 6),6) (sK n.1++[40]++a.1++[41],7))))
def YE(k:Int):Bool:=l7 (C9 k 17) true (l7 (C9 k 18) true (l7 (C9 k 27) true (l7 (C9 k 28) true (l7 (C9 k 29) true (C9 k 30)))))
def IG(k:Int):Bool:=l7 (C9 k 14) true (l7 (C9 k 15) true (C9 k 16))
def Hm(n:Int×Int)(a b:Tx):Tx:=
 l7 (YE n.1) (sK n.1++[40]++a.1++[44,32]++b.1++[41],7)
 (l7 (IG n.1) (sK n.1++[40]++a.1++[44,32]++b.1++[44,32]++uN n.2++[41],7)
 (wiS a (l7 (C9 (yl n.1).2 3) 4 (yl n.1).2)++[32]++(yl n.1).1++[32]++wiS b ((yl n.1).2+1),(yl n.1).2))
def ifX(a b c:Tx):Tx:=([105,102,32]++a.1++[32,116,104,101,110,32]++b.1++[32,101,108,115,101,32]++c.1,0)
def lL(N:E9):XT->Tx
 | .l0 n=>mP n N| .l1 n a=>Dt n N (FH a.node.1) (lL N a)| .l2 n a b=>Hm n (lL N a) (lL N b)| .l3 n a b c=>ifX (lL N a) (lL N b) (lL N c)
def pcT(N:E9)(t:XT):H6:=((lL N t).1,(lL N t).2,FH t.node.1)
def BJ(n:Int×Int)(args:List H6)(N:E9)(p:Tx):Prop:=
 ∃c,V8 n N=some c/\V4 n args N=some (l7 (C9 c 0) ((p.1,p.2,FH n.1),0) (([],0,false),c))
variable {α:Type}
theorem lx0(a:α)(l:List α):J8 (a::l) 0=some a:=rfl
theorem lx1(a b:α)(l:List α):J8 (a::b::l) 1=some b:=rfl
theorem lx2(a b c:α)(l:List α):J8 (a::b::c::l) 2=some c:=rfl
theorem Eg(p:H6)(c:Int)(h:p.1.length<=1000000000):dO p c=some (wiS (p.1,p.2.1) c):=by unfold dO wiS;rw[I8 G6,o9,I8 G6,o9];cases H9 p.2.1 c<;>rfl
theorem BH(p:Tx)(c:Int):(wiS p c).length<=p.1.length+2:=by unfold wiS;cases H9 p.2 c<;>simp
theorem arN(k:Int):1<=k/\k<=39\/arF k=-1:=by
 by_cases h:1<=k/\k<=39
 .exact .inl h
 .refine .inr ?_;unfold arF;rw[VB h];rfl
variable {k:Int}
theorem ar0(h:arF k=0):k=1\/k=2\/k=3\/k=4\/k=5\/k=6\/k=7\/k=8\/k=9\/k=35\/k=36\/k=37\/k=38\/k=39:=by
 rcases arN k with h1|h1
 .obtain⟨j,rfl⟩:=QR h1;revert h;revert j;decide
 .omega
theorem ar1(h:arF k=1):k=10\/k=25\/k=31\/k=32\/k=33\/k=34:=by
 rcases arN k with h1|h1
 .obtain⟨j,rfl⟩:=QR h1;revert h;revert j;decide
 .omega
theorem ar2(h:arF k=2):k=11\/k=12\/k=13\/k=14\/k=15\/k=16\/k=17\/k=18\/k=19\/k=20\/k=21\/k=22\/k=23\/k=24\/k=27\/k=28\/k=29\/k=30:=by
 rcases arN k with h1|h1
 .obtain⟨j,rfl⟩:=QR h1;revert h;revert j;decide
 .omega
theorem ar3(h:arF k=3):k=26:=a8g h
variable {N:E9}{n:Int×Int}
theorem a0A{args:List H6}{p:Tx}(c:Int)(h1:V8 n N=some c)(h2:V4 n args N=some (l7 (C9 c 0) ((p.1,p.2,FH n.1),0) (([],0,false),c))):BJ n args N p:=⟨c,h1,h2⟩
variable {m:Int}
theorem a6b(hk:k=1\/k=2\/k=3\/k=4\/k=5)(hm:lJ m)(N:E9):∃c s,V8 (k,m) N=some c/\jX (k,0,m) []=some (s,c):=by
 have b1:∀lo hi:Int,dH (k,0) []=some (lo,hi)->X3 (k,0) []=some true->∃c s,V8 (k,m) N=some c/\jX (k,0,m) []=some (s,c):=by
  intro lo hi hb hv;have hf:V8 (k,m) N=some (l7 (H9 m lo) 3 (l7 (H9 hi m) 3 0)):=by
   unfold V8 cu;simp only[aZ (show 1<=k by omega),aZ (show k<=5 by omega),o7,o9,hb];cases H9 m lo
   .cases H9 hi m<;>rfl
   .rfl
  have hw:nK m (k,0) []=some (l7 (U1 lo m) (U1 m hi) false):=by unfold nK;rw[Ib,hb,o9];cases U1 lo m<;>rfl
  rw[hf];obtain⟨t,ht,-⟩:=vZ (B:=100) o5 o5 (v:=(k,0,m)) (en:=[]) hm (λe h=>by cases h);unfold jX at ht ⊢;simp only[rf,hv,hw,o9,J5,o6]at ht ⊢;by_cases h1:lo<=m
  .by_cases h2:m<=hi
   .rw[aZ h1,aZ h2,o7,J5,o6]at ht ⊢;rw[bT h1,bT h2,o6,o6];refine⟨0,t.1,rfl,?_⟩;rw[ht];have e:t.2=0:=by
     rcases hk with rfl|rfl|rfl|rfl|rfl
     .simp (disch:=decide) only[aB,o7]at ht;revert ht;cases C9 m 1<;>cases C9 m 0<;>intro ht<;>cases ht<;>rfl
     .simp (disch:=decide) only[aB,P6,o7,o6,jB hm,o9,E5]at ht;rw[←ht]
     .simp (disch:=decide) only[aB,P6,o7,o6]at ht;rw[show bV m 2=_ from iI (k:=2) hm o5]at ht;simp only[o9,E5]at ht;rw[←ht]
     .simp (disch:=decide) only[aB,P6,o7,o6]at ht;have f4:=LZ (k:=4) hm o5;rw[show bV m 4=_ from iI (k:=4) hm o5,o9,I8 G6]at ht;simp only[o9,E5]at ht;rw[←ht]
     .simp (disch:=decide) only[aB,P6,o7,o6,qf,o9,E5]at ht;rw[←ht]
    rw[←e]
   .rw[aZ h1,dw o5,o7,Y7,o7,bT h1,dU o5,o6,o7];exact⟨3,[],rfl,rfl⟩
  .rw[dw o5,o6,Y7,o7,dU o5,o7];exact⟨3,[],rfl,rfl⟩
 rcases hk with rfl|rfl|rfl|rfl|rfl
 .exact b1 0 1 rfl rfl
 .exact b1 _ _ rfl rfl
 .exact b1 _ _ rfl rfl
 .exact b1 _ _ rfl rfl
 .exact b1 _ _ rfl rfl
theorem BA(hk:k=1\/k=2\/k=3\/k=4\/k=5)(hm:lJ m)(N:E9):BJ (k,m) [] N (mP (k,m) N):=by
 obtain⟨c,s,h1,h2⟩:=a6b hk hm N;refine a0A c h1 ?_;have e:mP (k,m) N=(s,l7 (H9 m 0) 6 7):=by unfold mP;rw[aZ (show k<=5 by omega),o7,←vY [] hm,h2];rfl
 have hc:c=0\/c=3:=by
  unfold V8 cu at h1;have h:=h1;simp only[aZ (show 1<=k by omega),aZ (show k<=5 by omega),o7,o9]at h;cases hb:dH (k,0) []with
  |none=>rw[hb]at h;cases h|some b=>rw[hb,o9]at h;cases hx:H9 m b.1<;>cases hy:H9 b.2 m<;>simp only[hx,hy,o7,o6,E5]at h<;>omega
 have hr:mZ (k,m)=some (l7 (C9 c 0) ((s,l7 (l7 (FH k) (H9 m 0) false) 6 7,FH k),0) (([],0,false),c)):=by
  unfold mZ FH;simp only[h2,o9];rcases hc with rfl|rfl
  .simp only[aB (rfl:(0:Int)=0),J5,o6,o7,ay,o9];cases H9 m 0<;>cases C9 k 2<;>cases C9 k 3<;>cases C9 k 4<;>rfl
  .rfl
 rw[e];unfold V4;rw[hr];have hneg:c=0->l7 (l7 (FH k) (H9 m 0) false) (6:Int) 7=l7 (H9 m 0) 6 7:=by
  intro h0;subst h0;cases hg:H9 m 0
  .cases FH k<;>rfl
  rcases hk with rfl|rfl|rfl|rfl|rfl
  .exfalso;unfold V8 cu at h1;simp only[show dH (1,0) []=some (0,1)from rfl,aZ (show(1:Int)<=1 by omega),aZ (show(1:Int)<=5 by omega),o7,o9,hg,E5]at h1;omega
  .rfl
  .rfl
  .rfl
  .exfalso;unfold V8 cu at h1;simp only[show dH (5,0) []=some (0,109572)from rfl,aZ (show(1:Int)<=5 by omega),aZ (show(5:Int)<=5 by omega),o7,o9,hg,E5]at h1;omega
 rcases hc with rfl|rfl
 .rw[hneg rfl];rcases hk with rfl|rfl|rfl|rfl|rfl<;>rfl
 .rcases hk with rfl|rfl|rfl|rfl|rfl<;>rfl
variable {l:List (List UInt8)}{i:Int}
theorem Jt(h0:0<=i)(h:i<o8 l):J8 l i=some (gtN l i)/\gtN l i∈l:=by obtain⟨x,h1,h2⟩:=qQ h0 h;unfold gtN;rw[h1];exact⟨rfl,h2⟩
theorem yB{B:Nat}(h:∀s∈l,s.length<=B)(i:Int):(gtN l i).length<=B:=by
 unfold gtN;cases hl:J8 l i with
 |none=>simp|some x=>exact h x (qj hl).2.2.1
theorem Ou(k m:Int)(args:List H6)(N:E9)(hk:k=6\/k=7\/k=8\/k=36\/k=37\/k=38\/k=39):V4 (k,m) args N=dK (k,m) N:=by unfold V4;generalize hq:dK (k,m) N=q;rcases hk with rfl|rfl|rfl|rfl|rfl|rfl|rfl<;>simp (disch:=decide) only[aB,P6,o7,o6,o9,hq]<;>cases q<;>rfl
theorem wV(hk:k=7\/k=8\/k=36\/k=37\/k=38\/k=39)(hN:NmOk N):BJ (k,m) [] N (mP (k,m) N):=by
 have key:∀(l:List (List UInt8)) (before after:List UInt8),(∀s∈l,s.length<=1000)->before.length<=100->after.length<=100->
   V8 (k,m) N=l7 (H9 m 0) (some 6) (l7 (U1 (o8 l) m) (some 6) (some 0))->
   dK (k,m) N=l7 (H9 m 0) (some (([],0,false),6))
    (l7 (U1 (o8 l) m) (some (([],0,false),6))
     (l9 (J8 l m) λ(x_1:List UInt8)=>
      l9 (O7 before x_1) λ(x_2:List UInt8)=>
       l9 (O7 x_2 after) λ(x:List UInt8)=>some ((x,7,false),0)))->
   mP (k,m) N=(before++gtN l m++after,7)->BJ (k,m) [] N (mP (k,m) N):=by
  intro l before after hl hb ha hf0 hr he;have hf:V8 (k,m) N=some (l7 (H9 m 0) 6 (l7 (U1 (o8 l) m) 6 0)):=by rw[hf0];cases H9 m 0<;>cases U1 (o8 l) m<;>rfl
  refine a0A _ hf ?_;have hnum:FH k=false:=by rcases hk with rfl|rfl|rfl|rfl|rfl|rfl<;>rfl
  rw[Ou _ _ _ _ o5,hr,he,hnum];by_cases h0:m<0
  .rw[dU h0];rfl
  by_cases h1:o8 l<=m
  .simp only[bT (show 0<=m by omega),aZ h1];rfl
  .have:=Jt (l:=l) (i:=m) o5 o5;have h2:=hl _ this.2;simp only[bT (show 0<=m by omega),dw (show m<o8 l by omega),o6,this.1,o9];rw[I8 o5,o9,I8 G6,o9];rfl
 have mem:∀k:Int,(k=36\/k=37\/k=38\/k=39)->dK (k,m) N=l7 (H9 m 0) (some (([],0,false),6))
    (l7 (U1 (o8 N.2.2.2.2) m) (some (([],0,false),6))
     (l9 (J8 N.2.2.2.2 m) λ(x_1:List UInt8)=>
      l9 (O7 (sK k++[40]) x_1) λ(x_2:List UInt8)=>
       l9 (O7 x_2 [41]) λ(x:List UInt8)=>some ((x,7,false),0))):=by
  intro k hk;have hw:=rM k;unfold dK ay;simp only[P6 (show k≠6 by omega),P6 (show k≠7 by omega),P6 (show k≠8 by omega),o6,sU,o9,I8 (a:=sK k) (b:=[40]) G6,X8]
 have lf:∀k:Int,(k=36\/k=37\/k=38\/k=39)->mP (k,m) N=(sK k++[40]++gtN N.2.2.2.2 m++[41],7):=by intro k hk;unfold mP;simp only[dw (show 5<k by omega),P6 (show k≠6 by omega),P6 (show k≠7 by omega),P6 (show k≠8 by omega),P6 (show k≠9 by omega),P6 (show k≠35 by omega),o6]
 have wl:=λk=>rM k;rcases hk with rfl|rfl|rfl|rfl|rfl|rfl
 .refine key N.2.2.1 [] [] hN.i x9 x9 rfl ?_ ?_
  .unfold dK ay;simp (disch:=decide) only[aB,P6,o7,o6,o9,X8]
  .unfold mP;simp (disch:=decide) only[aB,P6,dw,o7,o6];simp
 .refine key N.2.2.2.1 [] [] hN.d x9 x9 rfl ?_ ?_
  .unfold dK ay;simp (disch:=decide) only[aB,P6,o7,o6,o9,X8]
  .unfold mP;simp (disch:=decide) only[aB,P6,dw,o7,o6];simp
 .exact key N.2.2.2.2 (sK 36++[40]) [41] hN.m J3 J3 rfl (mem _ o5) (lf _ o5)
 .exact key N.2.2.2.2 (sK 37++[40]) [41] hN.m J3 J3 rfl (mem _ o5) (lf _ o5)
 .exact key N.2.2.2.2 (sK 38++[40]) [41] hN.m J3 J3 rfl (mem _ o5) (lf _ o5)
 .exact key N.2.2.2.2 (sK 39++[40]) [41] hN.m J3 J3 rfl (mem _ o5) (lf _ o5)
theorem Pj(h:lJ m)(d:Int)(hd:d=8\/d=16):fF .i64 m d=m.tdiv d:=by
 refine Ku ?_;unfold lJ at h ⊢;rcases hd with rfl|rfl
 all_goals
  rcases Int.lt_or_le m 0 with h0|h0
  .have e:=Int.neg_tdiv (a:=-m) (b:=8);have e' :=Int.neg_tdiv (a:=-m) (b:=16);rw[Int.neg_neg]at e e';have q1:=mW (a:=-m) (b:=8) o5;have q2:=mW (a:=-m) (b:=16) o5;omega
  .have q1:=mW (a:=m) (b:=8) o5;have q2:=mW (a:=m) (b:=16) o5;omega
theorem XG(hm:lJ m)(hN:NmOk N):BJ (6,m) [] N (mP (6,m) N):=by
 have hf:V8 (6,m) N=(l7 (H9 m 0) (some 6)
    (l7 (U1 (o8 N.1) (fF .i64 m 16)) (some 6)
     (l9 (J8 N.1 (fF .i64 m 16)) λ(x:Z8)=>
      l7 (U1 (o8 x.2) (kw m 16)) (some 6) (some 0)))):=rfl
 have hr:dK (6,m) N=l9 (l7 (H9 m 0) (some (Sum.inr (([],0,false),6)))
   (l7 (U1 (o8 N.1) (fF IntKind.i64 m 16)) (some (Sum.inr (([],0,false),6)))
    (l9 (J8 N.1 (fF IntKind.i64 m 16)) λ(x:Z8)=>
     l9 (O7 x.1 [58]) λ(x_1:List UInt8)=>some (Sum.inl (([],0,false),x.2,kw m 16,x_1,[]))))) λ(o:H6×List (List UInt8)×Int×List UInt8×List UInt8⊕H6×Int)=>
 ah o
  (λ(x:H6×List (List UInt8)×Int×List UInt8×List UInt8)=>
   l7 (H9 x.2.2.1 0) (some (([],0,false),6))
    (l7 (U1 (o8 x.2.1) x.2.2.1) (some (([],0,false),6))
     (l9 (J8 x.2.1 x.2.2.1) λ(x_1:List UInt8)=>
      l9 (O7 x.2.2.2.1 x_1) λ(x_2:List UInt8)=>
       l9 (O7 x_2 x.2.2.2.2) λ(x:List UInt8)=>
        l9 (ay x) λ(x:H6)=>some (x,0))))
  λ(r:H6×Int)=>some r:=rfl
 have hl:mP (6,m) N=(((J8 N.1 (fF .i64 m 16)).getD ([],[])).1++[58]++gtN ((J8 N.1 (fF .i64 m 16)).getD ([],[])).2 (kw m 16),7):=rfl;unfold BJ;rw[hf,Ou _ _ _ _ o5,hr,hl];by_cases h0:m<0
 .rw[dU h0];exact⟨6,rfl,rfl⟩
 rw[bT o5,o6,o6];by_cases h1:o8 N.1<=fF .i64 m 16
 .rw[aZ h1];exact⟨6,rfl,rfl⟩
 rw[dw o5,o6,o6];have hq:0<=fF .i64 m 16:=by rw[Pj hm 16 (.inr rfl),mW o5];omega
 obtain⟨e,he,hmem⟩:=qQ (l:=N.1) hq o5;have hb:=hN.e e hmem;have hr0:kw m 16=m % 16:=Ba o5;simp only[he,o9,Z5,I8 (a:=e.1) (b:=[58]) G6,X8];rw[bT (show 0<=kw m 16 by omega),o6];by_cases h2:o8 e.2<=kw m 16
 .rw[aZ h2];exact⟨6,rfl,rfl⟩
 rw[dw o5,o6,o6];have hg:=Jt (l:=e.2) (i:=kw m 16) o5 o5;have h3:=hb.2 _ hg.2;refine⟨0,rfl,?_⟩;rw[hg.1,o9,I8 G6,o9,I8 G6,o9];simp only[ay,o9,F6];rfl
theorem a3Z :BJ (9,0) [] N (mP (9,0) N):=⟨0,rfl,rfl⟩
theorem a1M :BJ (35,0) [] N (mP (35,0) N):=⟨0,rfl,rfl⟩
theorem a0v(hN:NmOk N)(hm:lJ m)(ha:arF k=0)(hu:m=0\/bi k=some true):BJ (k,m) [] N (mP (k,m) N):=by
 have hz:(k=9\/k=35)->m=0:=by
  intro h;rcases hu with h1|h1
  .exact h1
  .exfalso;rcases h with rfl|rfl<;>exact absurd h1 J3
 rcases ar0 ha with rfl|rfl|rfl|rfl|rfl|rfl|rfl|rfl|rfl|rfl|rfl|rfl|rfl|rfl
 .exact BA o5 hm N
 .exact BA o5 hm N
 .exact BA o5 hm N
 .exact BA o5 hm N
 .exact BA o5 hm N
 .exact XG hm hN
 .exact wV o5 hN
 .exact wV o5 hN
 .rw[hz o5];exact a3Z
 .rw[hz o5];exact a1M
 .exact wV o5 hN
 .exact wV o5 hN
 .exact wV o5 hN
 .exact wV o5 hN
theorem ZB(hm:lJ m)(hN:NmOk N)(a:H6)(h1:a.1.length<=1000000000):BJ (33,m) [a] N (Dt (33,m) N b (a.1,a.2.1)):=by
 have hf:V8 (33,m) N=l7 (H9 m 0) (some 6) (l7 (U1 (o8 N.2.1) m) (some 6) (some 0)):=rfl;have hr:V4 (33,m) [a] N=fE (33,m) a N:=by unfold V4;generalize hq:fE (33,m) a N=q;simp (disch:=decide) only[aB,P6,o7,o6,o9,lx0,hq];cases q<;>rfl
 have hx:Dt (33,m) N b (a.1,a.2.1)=(sK 33++[40]++gtN N.2.1 m++[44,32]++a.1++[41],7):=rfl;unfold BJ;rw[hf,hr,hx];unfold fE ay;simp (disch:=decide) only[aB,P6,o7,o6,o9,sU];by_cases h0:m<0
 .rw[dU h0];exact⟨6,rfl,rfl⟩
 rw[bT o5,o6,o6];by_cases h2:o8 N.2.1<=m
 .rw[aZ h2];exact⟨6,rfl,rfl⟩
 rw[dw o5,o6,o6];have hg:=Jt (l:=N.2.1) (i:=m) o5 o5;have h3:=hN.t _ hg.2;have hw:=rM 33;refine⟨0,rfl,?_⟩;rw[o9,X8,I8 G6,o9,hg.1,o9,I8 G6,o9,I8 G6,o9,I8 G6,o9,I8 G6,o9];rfl
theorem Xl(h:0<=m):seq (uN m) []=H9 5 m:=by
 by_cases h5:m<=5
 .rw[bT h5];obtain⟨k,rfl⟩:∃k:Fin 6,m=(k.val:Int):=⟨⟨m.toNat,o5⟩,by simp;omega⟩;revert k;decide
 .rw[dU o5];unfold uN dP;simp only[P6 (show m≠0 by omega),P6 (show m≠1 by omega),P6 (show m≠2 by omega),P6 (show m≠3 by omega),P6 (show m≠4 by omega),P6 (show m≠5 by omega),o6];rfl
theorem a2W(h:m<0):seq (uN m) []=true:=by unfold uN dP;simp only[P6 (show m≠0 by omega),P6 (show m≠1 by omega),P6 (show m≠2 by omega),P6 (show m≠3 by omega),P6 (show m≠4 by omega),P6 (show m≠5 by omega),o6];rfl
theorem XF(hm:lJ m)(hN:NmOk N)(a:H6)(h1:a.1.length<=1000000000):BJ (34,m) [a] N (Dt (34,m) N b (a.1,a.2.1)):=by
 have hf:V8 (34,m) N=l7 (H9 m 0) (some 6) (l7 (U1 (o8 N.2.1) (fF .i64 m 8)) (some 6) (l7 (H9 5 (kw m 8)) (some 3) (some 0))):=rfl;have hr:V4 (34,m) [a] N=fE (34,m) a N:=by unfold V4;generalize hq:fE (34,m) a N=q;simp (disch:=decide) only[aB,P6,o7,o6,o9,lx0,hq];cases q<;>rfl
 have hx:Dt (34,m) N b (a.1,a.2.1)=(sK 34++[40]++gtN N.2.1 (fF .i64 m 8)++[44,32]++a.1++[44,32]++uN (kw m 8)++[41],7):=rfl;unfold BJ;rw[hf,hr,hx];unfold fE ay;simp (disch:=decide) only[aB,P6,o7,o6,o9,sU,NY];by_cases h0:m<0
 .rw[dU h0,bT (show m<=0 by omega)];simp only[o7,o6,o9,dU h0,mV];exact⟨6,rfl,rfl⟩
 have hq:fF .i64 m 8=m / 8:=by rw[Pj hm 8 (.inl rfl),mW o5]
 have hi:(l7 (H9 0 m) (some (fF .i64 m 8)) (some m):Option Int)=some (fF .i64 m 8):=by
  by_cases h:0<m
  .rw[dU h];rfl
  .rw[bT o5,o6,show fF .i64 m 8=m by omega]
 rw[hi,o9,bT (show 0<=m by omega),o6,bT (show 0<=fF .i64 m 8 by omega),o6];by_cases h2:o8 N.2.1<=fF .i64 m 8
 .rw[aZ h2];exact⟨6,rfl,rfl⟩
 rw[dw o5,o6,o6];have hg:=Jt (l:=N.2.1) (i:=fF .i64 m 8) o5 o5;have h3:=hN.t _ hg.2;have hw:=rM 34;have hm:=zo (kw m 8);have hr0:kw m 8=m % 8:=Ba o5;rw[o9,X8,I8 G6,o9,hg.1,o9,I8 G6,o9,I8 G6,o9,I8 G6,o9,Xl (show 0<=kw m 8 by omega)];cases H9 5 (kw m 8)
 .refine⟨0,rfl,?_⟩;rw[o6,I8 G6,o9,I8 G6,o9,I8 G6,o9];simp[l7];rfl
 .exact⟨3,rfl,rfl⟩
theorem a0w(hN:NmOk N)(hm:lJ m)(ha:arF k=1)(hu:m=0\/bi k=some true)(a:H6)(h1:a.1.length<=1000000000):BJ (k,m) [a] N (Dt (k,m) N a.2.2 (a.1,a.2.1)):=by
 have hz:(k=10\/k=25\/k=31\/k=32)->m=0:=by
  intro h;rcases hu with h1|h1
  .exact h1
  .exfalso;rcases h with rfl|rfl|rfl|rfl<;>exact absurd h1 J3
 have hw:=BH (a.1,a.2.1) 6;simp only at hw;rcases ar1 ha with rfl|rfl|rfl|rfl|rfl|rfl
 .rw[hz o5];refine⟨0,rfl,?_⟩;unfold V4 Dt;simp (disch:=decide) only[aB,P6,o7,o6,o9,lx0,Eg a 6 h1];cases h:a.2.2
  .simp only[o6,o7];rw[I8 G6,o9,o9,mV];rfl
  .simp only[o7];rw[I8 G6,o9,I8 G6,o9,I8 G6,o9,o9,mV];rfl
 .rw[hz o5];refine⟨0,rfl,?_⟩;unfold V4 Dt;simp (disch:=decide) only[aB,P6,o7,o6,o9,lx0,Eg a 6 h1];rw[I8 G6,o9,o9,mV];rfl
 .rw[hz o5];refine⟨0,rfl,?_⟩;have hl:=rM 31;unfold V4 Dt ay;simp (disch:=decide) only[aB,P6,o7,o6,o9,lx0,sU];rw[I8 G6,o9,I8 G6,o9,I8 G6,o9,o9,mV];rfl
 .rw[hz o5];refine⟨0,rfl,?_⟩;have hl:=rM 32;unfold V4 Dt ay;simp (disch:=decide) only[aB,P6,o7,o6,o9,lx0,sU];rw[I8 G6,o9,I8 G6,o9,I8 G6,o9,o9,mV];rfl
 .exact ZB hm hN a h1
 .exact XF hm hN a h1
theorem Zz(hk:k=17\/k=18\/k=27\/k=28\/k=29\/k=30)(a b:H6)(h1:a.1.length<=1000000000)(h2:b.1.length<=1000000000):BJ (k,0) [a,b] N (Hm (k,0) (a.1,a.2.1) (b.1,b.2.1)):=by
 have hl:=rM k;rcases hk with rfl|rfl|rfl|rfl|rfl|rfl
 all_goals
  refine⟨0,rfl,?_⟩;unfold V4 Hm ay YE;simp (disch:=decide) only[aB,P6,o7,o6,o9,lx0,lx1,sU];rw[I8 G6,o9,I8 G6,o9,I8 G6,o9,I8 G6,o9,I8 G6,o9,o9,mV];rfl
theorem ZA(hk:k=14\/k=15\/k=16)(a b:H6)(h1:a.1.length<=1000000000)(h2:b.1.length<=1000000000):BJ (k,m) [a,b] N (Hm (k,m) (a.1,a.2.1) (b.1,b.2.1)):=by
 have hl:=rM k;have hm:=zo m;have hf:V8 (k,m) N=some (l7 (seq (uN m) []) 3 0):=by
  have:V8 (k,m) N=l7 (H9 m 0) (some 3) (l7 (H9 5 m) (some 3) (some 0)):=by rcases hk with rfl|rfl|rfl<;>rfl
  rw[this];by_cases h0:m<0
  .rw[dU h0,a2W h0];rfl
  .rw[bT o5,Xl o5];cases H9 5 m<;>rfl
 refine a0A _ hf ?_;rcases hk with rfl|rfl|rfl
 all_goals
  unfold V4 Hm ay YE IG;simp (disch:=decide) only[aB,P6,o7,o6,o9,lx0,lx1,sU,NY];cases seq (uN m) []
  .rw[o6,I8 G6,o9,I8 G6,o9,I8 G6,o9,I8 G6,o9,I8 G6,o9,I8 G6,o9,I8 G6,o9,o9,mV];rfl
  .rfl
theorem Zy(hk:k=11\/k=12\/k=13\/k=19\/k=20\/k=21\/k=22\/k=23\/k=24)(a b:H6)(h1:a.1.length<=1000000)(h2:b.1.length<=1000000):BJ (k,0) [a,b] N (Hm (k,0) (a.1,a.2.1) (b.1,b.2.1)):=by
 have hl:=Wn k;have hc:1<=(yl k).2/\(yl k).2<=5:=by rcases hk with rfl|rfl|rfl|rfl|rfl|rfl|rfl|rfl|rfl<;>decide
 have w1:=BH (a.1,a.2.1) 4;have w2:=BH (a.1,a.2.1) (yl k).2;have w3:=BH (b.1,b.2.1) ((yl k).2+1);simp only at w1 w2 w3;have hx:V4 (k,0) [a,b] N=l9 (gp k) λ(x:List UInt8×Int)=>
    l7 (C9 x.2 3)
     (l9 (dO a 4) λ(x_2:List UInt8)=>
       l9 (O7 x_2 [32]) λ(x_3:List UInt8)=>
        l9 (O7 x_3 x.1) λ(x_4:List UInt8)=>
         l9 (O7 x_4 [32]) λ(x_5:List UInt8)=>
           l9 (dO b (G5 IntKind.i64 x.2 1)) λ(x_7:List UInt8)=>
            l9 (O7 x_5 x_7) λ(x_8:List UInt8)=>some ((x_8,x.2,false),0))
     (l9 (dO a x.2) λ(x_2:List UInt8)=>
       l9 (O7 x_2 [32]) λ(x_3:List UInt8)=>
        l9 (O7 x_3 x.1) λ(x_4:List UInt8)=>
         l9 (O7 x_4 [32]) λ(x_5:List UInt8)=>
           l9 (dO b (G5 IntKind.i64 x.2 1)) λ(x_7:List UInt8)=>
            l9 (O7 x_5 x_7) λ(x_8:List UInt8)=>some ((x_8,x.2,false),0)):=by
  rcases hk with rfl|rfl|rfl|rfl|rfl|rfl|rfl|rfl|rfl<;>rfl
 have hf:V8 (k,0) N=some 0:=by rcases hk with rfl|rfl|rfl|rfl|rfl|rfl|rfl|rfl|rfl<;>rfl
 have hn:FH k=false:=by rcases hk with rfl|rfl|rfl|rfl|rfl|rfl|rfl|rfl|rfl<;>rfl
 have hb:YE k=false/\IG k=false:=by rcases hk with rfl|rfl|rfl|rfl|rfl|rfl|rfl|rfl|rfl<;>exact⟨rfl,rfl⟩
 refine a0A _ hf ?_;rw[hx,a6Z,o9];unfold Hm;simp only[hb.1,hb.2,hn,o6,kF (show lJ ((yl k).2+1) by unfold lJ;omega)];rw[Eg a 4 o5,Eg a _ o5,Eg b _ o5];simp only[o9];cases C9 (yl k).2 3
 .simp only[o6];rw[I8 G6,o9,I8 G6,o9,I8 G6,o9,I8 G6,o9];rfl
 .simp only[o7];rw[I8 G6,o9,I8 G6,o9,I8 G6,o9,I8 G6,o9];rfl
theorem a0x(ha:arF k=2)(hu:m=0\/bi k=some true)(a b:H6)(h1:a.1.length<=1000000)(h2:b.1.length<=1000000):BJ (k,m) [a,b] N (Hm (k,m) (a.1,a.2.1) (b.1,b.2.1)):=by
 have hz:¬(k=14\/k=15\/k=16)->m=0:=by
  intro h;rcases hu with h1|h1
  .exact h1
  .exfalso;rcases ar2 ha with rfl|rfl|rfl|rfl|rfl|rfl|rfl|rfl|rfl|rfl|rfl|rfl|rfl|rfl|rfl|rfl|rfl|rfl<;>first|omega|exact absurd h1 J3
 by_cases h:k=14\/k=15\/k=16
 .exact ZA h a b o5 o5
 rw[hz h];by_cases h' :k=17\/k=18\/k=27\/k=28\/k=29\/k=30
 .exact Zz h' a b o5 o5
 .exact Zy (by have:=ar2 ha;omega) a b h1 h2
theorem a0y(hu:m=0\/bi 26=some true)(a b c:H6)(h1:a.1.length<=1000000)(h2:b.1.length<=1000000)(h3:c.1.length<=1000000):BJ (26,m) [a,b,c] N (ifX (a.1,a.2.1) (b.1,b.2.1) (c.1,c.2.1)):=by
 have hz:m=0:=by
  rcases hu with h1|h1
  .exact h1
  .exact absurd h1 J3
 rw[hz];refine⟨0,rfl,?_⟩;unfold V4 ifX;simp (disch:=decide) only[aB,P6,o7,o6,o9,lx0,lx1,lx2];rw[I8 G6,o9,I8 G6,o9,I8 G6,o9,I8 G6,o9,I8 G6,o9,o9,mV];rfl
def flS(n:Int×Int)(N:E9):Int:=(V8 n N).getD 0
theorem Vg{c:Int}(h:V8 n N=some c):flS n N=c:=by unfold flS;rw[h];rfl
theorem a0L(h:0<=arF k):bi k=some true\/bi k=some false:=by
 rcases arN k with h1|h1
 .obtain⟨j,rfl⟩:=QR h1;revert h;revert j;decide
 .omega
theorem a7E(ha:0<=arF k)(hm:m≠0)(hu:bi k=some false):V8 (k,m) N=some 2:=by
 have h3:arF k=0\/arF k=1\/arF k=2\/arF k=3:=by have:=(DC k).2.2;omega
 have key:V8 (k,m) N=l7 (G7 (C9 m 0)) (some 2) (some 0)->V8 (k,m) N=some 2:=by intro h;rw[h,P6 hm];rfl
 rcases h3 with h|h|h|h
 .rcases ar0 h with rfl|rfl|rfl|rfl|rfl|rfl|rfl|rfl|rfl|rfl|rfl|rfl|rfl|rfl<;>first|exact absurd hu J3|exact key rfl
 .rcases ar1 h with rfl|rfl|rfl|rfl|rfl|rfl<;>first|exact absurd hu J3|exact key rfl
 .rcases ar2 h with rfl|rfl|rfl|rfl|rfl|rfl|rfl|rfl|rfl|rfl|rfl|rfl|rfl|rfl|rfl|rfl|rfl|rfl<;>first|exact absurd hu J3|exact key rfl
 .have:=ar3 h;subst this;exact key rfl
def fmF(a0:List (Int×Int))(a1:E9)(x:List H6×Int):Option (Out (List H6×Int) (List H6) (List UInt8×Int)):=
     l7 (H9 x.2 (o8 a0))
      (l9 (J8 a0 x.2) λ(x_1:Int×Int)=>
       l7 (G7 (C9 x_1.2 0))
        (l9 (bi x_1.1) λ(x_2:Bool)=>
         l7 (G7 x_2) (some (Out.rt ([],2)))
          (l9 (jI x_1.1) λ(x_3:Int)=>
           l7 (jV (O6 IntKind.i64 (o8 x.1) x_3) (o8 x.1) (o8 x.1))
            (l9
             (V4 x_1 (iY x.1 (aW (O6 IntKind.i64 (o8 x.1) x_3)) (aW (o8 x.1))) a1)
             λ(x_4:H6×Int)=>
             l7 (G7 (C9 x_4.2 0)) (some (Out.rt ([],x_4.2)))
              (l7 (jV 0 (O6 IntKind.i64 (o8 x.1) x_3) (o8 x.1))
               (l9 (aX (iY x.1 (aW 0) (aW (O6 IntKind.i64 (o8 x.1) x_3))) [x_4.1])
                λ(x_5:List H6)=>some (Out.nx (x_5,G5 IntKind.i64 x.2 1)))
               none))
            none))
        (l9 (jI x_1.1) λ(x_2:Int)=>
         l7 (jV (O6 IntKind.i64 (o8 x.1) x_2) (o8 x.1) (o8 x.1))
          (l9 (V4 x_1 (iY x.1 (aW (O6 IntKind.i64 (o8 x.1) x_2)) (aW (o8 x.1))) a1)
           λ(x_3:H6×Int)=>
           l7 (G7 (C9 x_3.2 0)) (some (Out.rt ([],x_3.2)))
            (l7 (jV 0 (O6 IntKind.i64 (o8 x.1) x_2) (o8 x.1))
             (l9 (aX (iY x.1 (aW 0) (aW (O6 IntKind.i64 (o8 x.1) x_2))) [x_3.1])
              λ(x_4:List H6)=>some (Out.nx (x_4,G5 IntKind.i64 x.2 1)))
             none))
          none))
      (some (Out.ex x.1))
def fmG(N:E9)(n:Int×Int)(p:List H6)(x:Tx)(i:Nat):Option (Out (List H6×Int) (List H6) (List UInt8×Int)):=
 some (l7 (C9 (flS n N) 0) (.nx (p++[(x.1,x.2,FH n.1)],((i+1:Nat):Int))) (.rt ([],flS n N)))
variable {e:List (Int×Int)}{x:Tx}
theorem a5U{i:Nat}{p args:List H6}(hn:e[i]? =some n)(hi:i<=1000)(hp:p.length<=1000)(hl:args.length<=3)(ha:arF n.1=(args.length:Int))
  (hr:(n.2=0\/bi n.1=some true)->BJ n args N x):fmF e N (p++args,(i:Int))=fmG N n p x i:=by
 have hx:O6 .i64 (o8 (p++args)) (arF n.1)=(p.length:Int):=by rw[iL (by unfold lJ o8;simp;omega),ha];unfold o8;simp
 have r1:jV (p.length:Int) (o8 (p++args)) (o8 (p++args))=true:=by unfold jV o8;simp<;>omega
 have r2:jV 0 (p.length:Int) (o8 (p++args))=true:=by unfold jV o8;simp<;>omega
 have v1:iY (p++args) (aW (p.length:Int)) (aW (o8 (p++args)))=args:=by unfold iY aW o8;rw[Y1,Y1,P9 (F5 _),List.drop_left]
 have v2:iY (p++args) (aW 0) (aW (p.length:Int))=p:=by unfold iY aW;rw[Y1,List.take_left];rfl
 have main:(n.2=0\/bi n.1=some true)->(l9 (jI n.1) λ(x_2:Int)=>
         l7 (jV (O6 IntKind.i64 (o8 (p++args)) x_2) (o8 (p++args)) (o8 (p++args)))
          (l9 (V4 n (iY (p++args) (aW (O6 IntKind.i64 (o8 (p++args)) x_2)) (aW (o8 (p++args)))) N)
           λ(x_3:H6×Int)=>
           l7 (G7 (C9 x_3.2 0)) (some (Out.rt ([],x_3.2)))
            (l7 (jV 0 (O6 IntKind.i64 (o8 (p++args)) x_2) (o8 (p++args)))
             (l9 (aX (iY (p++args) (aW 0) (aW (O6 IntKind.i64 (o8 (p++args)) x_2))) [x_3.1])
              λ(x_4:List H6)=>some (Out.nx (x_4,G5 IntKind.i64 (i:Int) 1)))
             none))
          none)=fmG N n p x i:=by
  intro hu;obtain⟨c,h1,h2⟩:=hr hu;rw[a2m,o9,hx,r1,o7,v1,h2,o9,r2,v2];unfold fmG;rw[Vg h1];cases hc:C9 c 0
  .rw[o6];simp only[hc,Y7,o7];rfl
  .rw[o7];simp only[aB (rfl:(0:Int)=0),J5,o6,o7];rw[mM _ o5,o9,bD o5]
 unfold fmF;simp only[N8 hn,o7,I9,hn,o9];by_cases h0:n.2=0
 .rw[aB h0,J5,o6];exact main (.inl h0)
 .rw[P6 h0,Y7,o7];rcases a0L (k:=n.1) o5 with hu|hu
  .rw[hu,o9,J5,o6];exact main (.inr hu)
  .rw[hu,o9,Y7,o7];unfold fmG;rw[Vg (a7E (k:=n.1) (m:=n.2) o5 h0 hu)];rfl
def ffS(N:E9):List (Int×Int)->Int
 |[]=>0|n::l=>l7 (C9 (flS n N) 0) (ffS N l) (flS n N)
theorem Jp(N:E9):∀a b,ffS N (a++b)=l7 (C9 (ffS N a) 0) (ffS N b) (ffS N a)
 |[],b=>by rw[show ffS N []=0 from rfl,aB rfl];rfl|n::a,b=>by
  show l7 (C9 (flS n N) 0) (ffS N (a++b)) (flS n N)=l7 (C9 (l7 (C9 (flS n N) 0) (ffS N a) (flS n N)) 0) (ffS N b) (l7 (C9 (flS n N) 0) (ffS N a) (flS n N));rw[Jp N a b];cases h:C9 (flS n N) 0
  .simp only[o6,h]
  .simp only[o7]
theorem a2P(hN:NmOk N)(hI:lJ n.2):(mP n N).1.length<=3000:=by
 unfold mP;have hw:=rM n.1;have g1:=yB hN.i n.2;have g2:=yB hN.d n.2;have g3:=yB hN.m n.2;have hv:((qV (n.1,0,n.2) []).getD ([],0)).1.length<=100:=by obtain⟨t,ht,hl⟩:=vZ (B:=100) o5 o5 (v:=(n.1,0,n.2)) (en:=[]) hI (λe h=>by cases h);rw[←vY [] hI,ht];exact hl
 have he:((J8 N.1 (fF .i64 n.2 16)).getD ([],[])).1.length<=1000/\(gtN ((J8 N.1 (fF .i64 n.2 16)).getD ([],[])).2 (kw n.2 16)).length<=1000:=by
  cases hx:J8 N.1 (fF .i64 n.2 16)with
  |none=>exact⟨x9,yB (B:=1000) (λs h=>by cases h) _⟩|some e=>have:=hN.e e (qj hx).2.2.1;exact⟨this.1,yB this.2 _⟩
 cases U1 n.1 5
 case true=>simp only[o7];omega
 cases C9 n.1 6
 case true=>simp only[o7,o6];simp;omega
 cases C9 n.1 7
 case true=>simp only[o7,o6];omega
 cases C9 n.1 8
 case true=>simp only[o7,o6];omega
 cases C9 n.1 9
 case true=>simp[l7]
 cases C9 n.1 35
 case true=>simp[l7]
 .simp only[o6];simp;omega
theorem a6l(hN:NmOk N)(b:Bool)(a:Tx):(Dt n N b a).1.length<=a.1.length+3000:=by
 unfold Dt;have hw:=rM n.1;have hm:=zo (kw n.2 8);have g1:=yB hN.t n.2;have g2:=yB hN.t (fF .i64 n.2 8);have w:=BH a 6;cases C9 n.1 33
 case true=>simp only[o7];simp;omega
 cases C9 n.1 34
 case true=>simp only[o7,o6];simp;omega
 cases C9 n.1 25
 case true=>simp only[o7,o6];simp;omega
 cases C9 n.1 10
 case true=>simp only[o7,o6];cases b<;>simp<;>omega
 .simp only[o6];simp;omega
theorem a7j(a b:Tx):(Hm n a b).1.length<=a.1.length+b.1.length+3000:=by
 unfold Hm;have hw:=rM n.1;have hm:=zo n.2;have hs:=Wn n.1;have w1:=BH a (l7 (C9 (yl n.1).2 3) 4 (yl n.1).2);have w2:=BH b ((yl n.1).2+1);cases YE n.1
 case true=>simp only[o7];simp;omega
 cases IG n.1
 case true=>simp only[o7,o6];simp;omega
 .simp only[o6];simp;omega
theorem xZ{N:E9}(hN:NmOk N):∀(t:XT),(∀n∈t.post,lJ n.2)->(lL N t).1.length<=3000*t.size
 | .l0 n,h=>a2P hN (h n (by simp[XT.post]))| .l1 n a,h=>by have h1:=xZ hN a (λm hm=>h m (by simp[XT.post,hm]));have h2:=a6l (n:=n) hN (FH a.node.1) (lL N a);simp only[lL,XT.size];omega| .l2 n a b,h=>by have h1:=xZ hN a (λm hm=>h m (by simp[XT.post,hm]));have h2:=xZ hN b (λm hm=>h m (by simp[XT.post,hm]));have h3:=a7j (n:=n) (lL N a) (lL N b);simp only[lL,XT.size];omega| .l3 n a b c,h=>by have h1:=xZ hN a (λm hm=>h m (by simp[XT.post,hm]));have h2:=xZ hN b (λm hm=>h m (by simp[XT.post,hm]));have h3:=xZ hN c (λm hm=>h m (by simp[XT.post,hm]));simp only[lL,XT.size,ifX];simp;omega
theorem EK{σ ε ρ:Type}(f:σ->Option (Out σ ε ρ))(n:Nat)(s:σ):jO f (n+1) s=match f s with|some (.nx s')=>jO f n s'|some (.ex e)=>some (.inl e)|some (.rt r)=>some (.inr r)|none=>none:=by rw[jO]<;>rfl
theorem a5V(he:e.length<=48)(hN:NmOk N)(hI:∀n∈e,lJ n.2):∀(t:XT) (pre suf:List (Int×Int)) (p:List H6) (m:Nat),e=pre++t.post++suf->t.wf->p.length+t.size<=60->
  jO (fmF e N) (m+t.size) (p,(pre.length:Int))=l7 (C9 (ffS N t.post) 0) (jO (fmF e N) m (p++[pcT N t],((pre.length+t.size:Nat):Int))) (some (.inr ([],ffS N t.post))):=by
 have stepN:∀(n:Int×Int) (pre suf:List (Int×Int)) (p args:List H6) (x:Tx) (m:Nat),e=pre++[n]++suf->p.length<=60->args.length<=3->arF n.1=(args.length:Int)->((n.2=0\/bi n.1=some true)->BJ n args N x)->
   jO (fmF e N) (m+1) (p++args,(pre.length:Int))=l7 (C9 (flS n N) 0) (jO (fmF e N) m (p++[(x.1,x.2,FH n.1)],((pre.length+1:Nat):Int))) (some (.inr ([],flS n N))):=by
  intro n pre suf p args x m h1 h2 h3 h4 h5;have hn:e[pre.length]? =some n:=by rw[h1,E8,I5 (F5 _),gy];rfl
  have hlt:=(ax.1 hn).1;rw[EK,a5U hn o5 o5 h3 h4 h5];unfold fmG;cases C9 (flS n N) 0<;>rfl
 intro t;induction t with
 |l0 n=>
  intro pre suf p m h hw hs;have hI1:=hI n (by rw[h];simp[XT.post]);have:=stepN n pre suf p [] (mP n N) m h o5 x9 hw (λhu=>a0v hN hI1 hw hu);rw[F6]at this;rw[show(XT.l0 n).size=1 from rfl,this];unfold XT.post ffS ffS;cases hf:C9 (flS n N) 0
  .simp only[o6,hf]
  .simp only[o7,aB (rfl:(0:Int)=0)];rfl
 |l1 n a iha=>
  intro pre suf p m h hw hs;simp only[XT.post,XT.size]at h hs ⊢;have hI1:=hI n (by rw[h];simp);have hIa:∀n∈a.post,lJ n.2:=λq hq=>hI q (by rw[h];simp[hq]);have hl:=xZ hN a hIa;rw[show m+(a.size+1)=(m+1)+a.size by omega,iha pre ([n]++suf) p (m+1) (by rw[h];simp) hw.2 o5,Jp];cases hf:C9 (ffS N a.post) 0
  .simp only[o6,hf]
  have:=stepN n (pre++a.post) suf p [pcT N a] (Dt n N (FH a.node.1) (lL N a)) m (by rw[h];simp) o5 x9 hw.1 (λhu=>a0w hN hI1 hw.1 hu (pcT N a) (by simp only[pcT];omega));rw[show(pre++a.post).length=pre.length+a.size by simp[XT.post_len]]at this;simp only[o7];rw[this];unfold ffS ffS;cases hg:C9 (flS n N) 0
  .simp only[o6,hg]
  .simp only[o7,aB (rfl:(0:Int)=0)];rfl
 |l2 n a b iha ihb=>
  intro pre suf p m h hw hs;simp only[XT.post,XT.size]at h hs ⊢;have hI1:=hI n (by rw[h];simp);have hIa:∀n∈a.post,lJ n.2:=λq hq=>hI q (by rw[h];simp[hq]);have hIb:∀n∈b.post,lJ n.2:=λq hq=>hI q (by rw[h];simp[hq]);have hla:=xZ hN a hIa;have hlb:=xZ hN b hIb;have s1:=a.size_pos;have s2:=b.size_pos;rw[show m+(a.size+b.size+1)=(m+1+b.size)+a.size by omega,iha pre (b.post++[n]++suf) p (m+1+b.size) (by rw[h];simp) hw.2.1 o5,Jp,Jp];cases hf:C9 (ffS N a.post) 0
  .simp only[o6,hf]
  have i2:=ihb (pre++a.post) ([n]++suf) (p++[pcT N a]) (m+1) (by rw[h];simp) hw.2.2 G6;rw[show(pre++a.post).length=pre.length+a.size by simp[XT.post_len]]at i2;simp only[o7];rw[i2];cases hf2:C9 (ffS N b.post) 0
  .simp only[o6,hf2]
  have:=stepN n (pre++a.post++b.post) suf p [pcT N a,pcT N b] (Hm n (lL N a) (lL N b)) m (by rw[h];simp) o5 x9 hw.1 (λhu=>a0x hw.1 hu (pcT N a) (pcT N b) (by simp only[pcT];omega) (by simp only[pcT];omega));rw[show(pre++a.post++b.post).length=pre.length+a.size+b.size by simp[XT.post_len];omega,show pre.length+a.size+b.size+1=pre.length+(a.size+b.size+1) by omega]at this;simp only[o7];rw[show p++[pcT N a]++[pcT N b]=p++[pcT N a,pcT N b] by simp,this];unfold ffS ffS;cases hg:C9 (flS n N) 0
  .simp only[o6,hg]
  .simp only[o7,aB (rfl:(0:Int)=0)];rfl
 |l3 n a b c iha ihb ihc=>
  intro pre suf p m h hw hs;simp only[XT.post,XT.size]at h hs ⊢;have hI1:=hI n (by rw[h];simp);have hIa:∀n∈a.post,lJ n.2:=λq hq=>hI q (by rw[h];simp[hq]);have hIb:∀n∈b.post,lJ n.2:=λq hq=>hI q (by rw[h];simp[hq]);have hIc:∀n∈c.post,lJ n.2:=λq hq=>hI q (by rw[h];simp[hq]);have hla:=xZ hN a hIa;have hlb:=xZ hN b hIb;have hlc:=xZ hN c hIc;have s1:=a.size_pos;have s2:=b.size_pos;have s3:=c.size_pos;have h26:=ar3 hw.1;rw[show m+(a.size+b.size+c.size+1)=(m+1+c.size+b.size)+a.size by omega,iha pre (b.post++c.post++[n]++suf) p (m+1+c.size+b.size) (by rw[h];simp) hw.2.1 o5,Jp,Jp,Jp];cases hf:C9 (ffS N a.post) 0
  .simp only[o6,hf]
  have i2:=ihb (pre++a.post) (c.post++[n]++suf) (p++[pcT N a]) (m+1+c.size) (by rw[h];simp) hw.2.2.1 G6;rw[show(pre++a.post).length=pre.length+a.size by simp[XT.post_len]]at i2;simp only[o7];rw[i2];cases hf2:C9 (ffS N b.post) 0
  .simp only[o6,hf2]
  have i3:=ihc (pre++a.post++b.post) ([n]++suf) (p++[pcT N a]++[pcT N b]) (m+1) (by rw[h];simp) hw.2.2.2 G6;rw[show(pre++a.post++b.post).length=pre.length+a.size+b.size by simp[XT.post_len];omega]at i3;simp only[o7];rw[i3];cases hf3:C9 (ffS N c.post) 0
  .simp only[o6,hf3]
  have:=stepN n (pre++a.post++b.post++c.post) suf p [pcT N a,pcT N b,pcT N c] (ifX (lL N a) (lL N b) (lL N c)) m (by rw[h];simp) o5 x9 hw.1 (λhu=>by obtain⟨k,v⟩:=n;simp only at h26 hu;subst h26;exact a0y hu (pcT N a) (pcT N b) (pcT N c) (by simp only[pcT];omega) (by simp only[pcT];omega) (by simp only[pcT];omega))
  rw[show(pre++a.post++b.post++c.post).length=pre.length+a.size+b.size+c.size by simp[XT.post_len];omega,show pre.length+a.size+b.size+c.size+1=pre.length+(a.size+b.size+c.size+1) by omega]at this;simp only[o7];rw[show p++[pcT N a]++[pcT N b]++[pcT N c]=p++[pcT N a,pcT N b,pcT N c] by simp,this];unfold ffS ffS;cases hg:C9 (flS n N) 0
  .simp only[o6,hg]
  .simp only[o7,aB (rfl:(0:Int)=0)];rfl
def WX(e:List (Int×Int))(N:E9):List UInt8×Int:=match kE e with
 | .inl x=>([],x.2)| .inr t=>l7 (C9 (ffS N e) 0) ((lL N t).1,0) ([],ffS N e)
theorem a2H(hN:NmOk N)(hI:∀n∈e,lJ n.2):lZ e N=some (WX e N):=by
 unfold lZ BZ WX;rw[Ls];unfold sH;cases h:kE e with
 |inl x=>simp only[o9,P6 (CV h)];rfl|inr t=>
  obtain⟨h1,h2,h3,h4⟩:=WH h;obtain⟨hp,-⟩:=uj h;simp only[o9,aB (rfl:(0:Int)=0),J5,o6];have hl:U8 (fmF e N) ([],0)=some (l7 (C9 (ffS N e) 0) (.inl [pcT N t]) (.inr ([],ffS N e))):=by
   unfold U8;rw[show ji=(ji -t.size)+t.size by unfold ji;omega];have:=a5V h2 hN hI t [] [] [] (ji -t.size) (by simp[←hp]) (Nq h) G6;rw[show(([]:List (Int×Int)).length:Int)=0 from rfl]at this;rw[this,←hp];cases C9 (ffS N e) 0
   .rfl
   .simp only[o7];rw[show ji -t.size=(ji -t.size -1)+1 by unfold ji;omega];rw[EK];unfold fmF;simp only[L6,bH];rw[←h3,show H9 ((e.length:Nat):Int) (o8 e)=false from N7 e];rfl
  refine U9 hl ?_;rw[o9];cases C9 (ffS N e) 0<;>rfl
abbrev a5M:Type:=List (Int×Int)×E9
theorem Ja(n:Nat)(p:a5M)(i:Int):(D5 (n+1)).1 p i=Y6 (D5 n).1 (D5 n).2.1 (D5 n).2.2 p i:=rfl
theorem b4Q(n:Nat)(p:a5M)(x:Int×Int)(l:List Int):(D5 (n+1)).2.1 p x l=mi (D5 n).1 (D5 n).2.1 (D5 n).2.2 p x l:=rfl
theorem b4R(n:Nat)(p:a5M)(i c:Int):(D5 (n+1)).2.2 p i c=oL (D5 n).1 (D5 n).2.1 (D5 n).2.2 p i c:=rfl
theorem qZ{n:Nat}{p:a5M}(c:Int)(h:(D5 n).1 p i=some (x.1,x.2,p))(hl:x.1.length<=1000000):(D5 (n+1)).2.2 p i c=some (wiS x c,p):=by rw[b4R];unfold oL wiS;rw[h,o9,I8 G6,o9,I8 G6,o9];cases H9 x.2 c<;>rfl
theorem a7f(k:Int):0<=(yl k).2:=by
 unfold yl dW;simp only[pg];repeat' split
 all_goals simp
theorem a2O(n:Int×Int)(N:E9):0<=(mP n N).2:=by
 unfold mP;simp only[pg];repeat' split
 all_goals simp
theorem a6k(n:Int×Int)(N:E9)(b:Bool)(a:Tx):0<=(Dt n N b a).2:=by
 unfold Dt;simp only[pg];repeat' split
 all_goals simp
theorem Ny(N:E9)(t:XT):0<=(lL N t).2:=by
 cases t with
 |l0 n=>exact a2O n N|l1 n a=>exact a6k _ _ _ _|l2 n a b=>have:=a7f n.1;unfold lL Hm;cases YE n.1<;>cases IG n.1<;>simp[l7]<;>exact this|l3 n a b c=>simp[lL,ifX]
theorem wi0(h:0<=x.2):wiS x 0=x.1:=by unfold wiS;rw[bT h];rfl
theorem XJ(h:0<=m/\m<=5):qY m=some (uN m):=by obtain⟨k,rfl⟩:∃k:Fin 6,m=(k.val:Int):=⟨⟨m.toNat,o5⟩,by simp;omega⟩;revert k;decide
def Ui(b:List UInt8×Nat)(a:List UInt8):List UInt8×Nat:=(l7 (H9 0 (b.2:Int)) (b.1++[44,32]++a) (b.1++a),b.2+1)
def Gn(l:List (List UInt8)):List UInt8:=(l.foldl Ui ([],0)).1
theorem a6a(hl:l.length<=10)(hb:∀s∈l,s.length<=1000000){f:List UInt8×Int->Option ((List UInt8×Int)⊕List UInt8)}
  (hf:∀(t:List UInt8) (i:Nat) (a:List UInt8),l[i]? =some a->f (t,(i:Int))=l7 (H9 0 (i:Int)) (l9 (O7 t [44,32]) λx=>l9 (O7 x a) λx=>some (.inl (x,((i+1:Nat):Int)))) (l9 (O7 t a) λx=>some (.inl (x,((i+1:Nat):Int)))))
  (he:∀t,f (t,(l.length:Int))=some (.inr t)):aG f ([],0)=some (Gn l):=by
 have:=(yI l Ui (λb i=>(b.1,i)) (λb=>b.1) (λi b=>b.2=i/\b.1.length<=i*1000010) (f:=f) (b:=([],0)) o5 ⟨rfl,x9⟩ (λi a b hx hi hI=>?_) (λb hI=>he b.1)).1
 .exact this
 .have ha:=hb a (mJ hx);have hlt:=(ax.1 hx).1;obtain⟨h1,h2⟩:=hI;rw[hf b.1 i a hx];unfold Ui;rw[h1];cases H9 0 (i:Int)
  .rw[o6,o6,I8 o5,o9];exact⟨rfl,rfl,by simp;omega⟩
  .rw[o7,o7,I8 G6,o9,I8 G6,o9];exact⟨rfl,rfl,by simp;omega⟩
def OI(n:Int×Int)(N:E9)(l:List (List UInt8)):List (List UInt8):=
 let a:=l7 (C9 n.1 34) [gtN N.2.1 (fF .i64 n.2 8)] [];let b:=l7 (C9 n.1 33) (a++[gtN N.2.1 n.2]) (l7 (U1 36 n.1) (a++[gtN N.2.2.2.2 n.2]) a);let c:=b++l;let d:=l7 (IG n.1) (c++[uN n.2]) c
 l7 (C9 n.1 34) (d++[uN (kw n.2 8)]) d
structure Ref11 (n:Int×Int) (N:E9):Prop where
 b:n.1=34->J8 N.2.1 (fF .i64 n.2 8)=some (gtN N.2.1 (fF .i64 n.2 8))/\0<=kw n.2 8/\kw n.2 8<=5
 t:n.1=33->J8 N.2.1 n.2=some (gtN N.2.1 n.2)
 m:36<=n.1->J8 N.2.2.2.2 n.2=some (gtN N.2.2.2.2 n.2)
 r:IG n.1=true->0<=n.2/\n.2<=5
theorem a0V{k:Nat}{ops:List Int}{ts:List (List UInt8)}(hr:Ref11 n N)(hN:NmOk N)(hlen:ops.length=ts.length)(h3:ts.length<=3)(hts:∀s∈ts,s.length<=1000000)
  (hc:∀(i:Nat) (o:Int) (s:List UInt8),ops[i]? =some o->ts[i]? =some s->(D5 k).2.2 (e,N) o 0=some (s,(e,N))):(D5 (k+1)).2.1 (e,N) n ops=some (Gn (OI n N ts),(e,N)):=by
 rw[b4Q];unfold mi OI;have s1:(l7 (C9 n.1 34) (l9 (J8 N.2.1 (fF IntKind.i64 n.2 8)) λ(x:List UInt8)=>l9 (aX [] [x]) λ(x:List (List UInt8))=>some x) (some []))=some (l7 (C9 n.1 34) [gtN N.2.1 (fF .i64 n.2 8)] []):=by
  cases h:C9 n.1 34
  .rfl
  .rw[(hr.b (iF.1 h)).1];rfl
 refine U9 s1 ?_;rw[o9];generalize hA:l7 (C9 n.1 34) [gtN N.2.1 (fF .i64 n.2 8)] []=A;have lA:A.length<=1:=by rw[←hA];cases C9 n.1 34<;>simp
 have mA:∀s∈A,s.length<=1000:=by
  rw[←hA];cases C9 n.1 34
  .intro s hs;cases hs
  .intro s hs;simp at hs;rw[hs];exact yB hN.t _
 have s2:(l7 (C9 n.1 33)
    (l9 (nP n N) λ(x_1:List (List UInt8))=>
     l9 (J8 x_1 n.2) λ(x_2:List UInt8)=>l9 (aX A [x_2]) λ(x:List (List UInt8))=>some x)
    (l7 (U1 36 n.1)
     (l9 (nP n N) λ(x_1:List (List UInt8))=>
      l9 (J8 x_1 n.2) λ(x_2:List UInt8)=>l9 (aX A [x_2]) λ(x:List (List UInt8))=>some x)
     (some A)))=some (l7 (C9 n.1 33) (A++[gtN N.2.1 n.2]) (l7 (U1 36 n.1) (A++[gtN N.2.2.2.2 n.2]) A)):=by
  unfold nP;by_cases h:n.1=33
  .rw[aB h,o7,o7];simp only[P6 (show n.1≠7 by omega),P6 (show n.1≠8 by omega),aB h,o7,o6,o9,hr.t h];rw[mM _ o5];rfl
  .rw[P6 h,o6,o6];by_cases h2:36<=n.1
   .rw[aZ h2,o7,o7];simp only[P6 (show n.1≠7 by omega),P6 (show n.1≠8 by omega),P6 h,o6,o9,hr.m h2];rw[mM _ o5];rfl
   .rw[dw o5];rfl
 refine U9 s2 ?_;rw[o9];generalize hB:l7 (C9 n.1 33) (A++[gtN N.2.1 n.2]) (l7 (U1 36 n.1) (A++[gtN N.2.2.2.2 n.2]) A)=B;have lB:B.length<=2:=by rw[←hB];cases C9 n.1 33<;>cases U1 36 n.1<;>simp[l7]<;>omega
 have mB:∀s∈B,s.length<=1000:=by
  rw[←hB];intro s hs;cases h:C9 n.1 33
  .rw[h]at hs;cases h2:U1 36 n.1
   .rw[h2]at hs;exact mA s hs
   .rw[h2]at hs;simp[l7]at hs;rcases hs with hs|hs
    .exact mA s hs
    .rw[hs];exact yB hN.m _
  .rw[h]at hs;simp[l7]at hs;rcases hs with hs|hs
   .exact mA s hs
   .rw[hs];exact yB hN.t _
 have s3:aG (λ(x:H5×List (List UInt8)×Int)=>
     l7 (H9 x.2.2 (o8 ops))
      (l9 (J8 ops x.2.2) λ(x_1:Int)=>
       l9 ((D5 k).2.2 x.1 x_1 0) λ(x_2:List UInt8×H5)=>
        l9 (aX x.2.1 [x_2.1]) λ(x_3:List (List UInt8))=>
         some (Sum.inl (x_2.2,x_3,G5 IntKind.i64 x.2.2 1)))
      (some (Sum.inr (x.1,x.2.1))))
    ((e,N),B,0)=some ((e,N),B++ts):=by
  have:=(yI ts (λ(b:List (List UInt8)) a=>b++[a]) (λb i=>((((e,N):H5),b,i):H5×List (List UInt8)×Int)) (λb=>(((e,N):H5),b)) (λi b=>b.length<=2+i) (b:=B) (f:=λ(x:H5×List (List UInt8)×Int)=>
     l7 (H9 x.2.2 (o8 ops))
      (l9 (J8 ops x.2.2) λ(x_1:Int)=>
       l9 ((D5 k).2.2 x.1 x_1 0) λ(x_2:List UInt8×H5)=>
        l9 (aX x.2.1 [x_2.1]) λ(x_3:List (List UInt8))=>
         some (Sum.inl (x_2.2,x_3,G5 IntKind.i64 x.2.2 1)))
      (some (Sum.inr (x.1,x.2.1)))) o5 o5 (λi a b hx hi hI=>?_) (λb hI=>?_)).1
  .rw[this];congr 2;have:∀(l B:List (List UInt8)),l.foldl (λ(b:List (List UInt8)) a=>b++[a]) B=B++l:=by
    intro l;induction l with
    |nil=>intro B;simp|cons a l ih=>intro B;rw[V7,ih];simp
   rw[this]
  .have hlt:=(ax.1 hx).1;have ho:ops[i]? =some ops[i]:=lw o5;simp only[N8 ho,o7,I9,ho,o9,hc i _ _ ho hx];rw[mM _ o5,o9,bD o5];exact⟨rfl,by simp;omega⟩
  .simp only;rw[show H9 ((ts.length:Nat):Int) (o8 ops)=false by rw[←hlen];exact N7 ops];rfl
 refine U9 s3 ?_;rw[o9];have s4:∀(y:H5×List (List UInt8)),y.2.length<=10->(l7 (C9 n.1 14)
     (l9 (qY n.2) λ(x:List UInt8)=>l9 (aX y.2 [x]) λ(x:List (List UInt8))=>some x)
     (l7 (C9 n.1 15)
      (l9 (qY n.2) λ(x:List UInt8)=>l9 (aX y.2 [x]) λ(x:List (List UInt8))=>some x)
      (l7 (C9 n.1 16)
       (l9 (qY n.2) λ(x:List UInt8)=>
        l9 (aX y.2 [x]) λ(x:List (List UInt8))=>some x)
       (some y.2))))=some (l7 (IG n.1) (y.2++[uN n.2]) y.2):=by
  intro y hy;cases h:IG n.1
  .unfold IG at h;cases h1:C9 n.1 14<;>cases h2:C9 n.1 15<;>cases h3:C9 n.1 16<;>simp only[h1,h2,h3,o7,o6]at h<;>first|exact absurd h J3|rfl
  .rw[XJ (hr.r h)];simp only[o9];rw[mM _ o5,o9];unfold IG at h;cases h1:C9 n.1 14<;>cases h2:C9 n.1 15<;>cases h3:C9 n.1 16<;>simp only[h1,h2,h3,o7,o6]at h<;>first|exact absurd h J3|rfl
 refine U9 (s4 ((e,N),B++ts) G6) ?_;rw[o9];simp only;generalize hD:l7 (IG n.1) (B++ts++[uN n.2]) (B++ts)=D;have lD:D.length<=6:=by rw[←hD];cases IG n.1<;>simp[l7]<;>omega
 have mD:∀s∈D,s.length<=1000000:=by
  rw[←hD];intro s hs;have hm:=zo n.2;cases h:IG n.1
  .rw[h]at hs;simp[l7]at hs;rcases hs with hs|hs
   .have:=mB s hs;omega
   .exact hts s hs
  .rw[h]at hs;simp[l7]at hs;rcases hs with hs|hs|hs
   .have:=mB s hs;omega
   .exact hts s hs
   .rw[hs];omega
 have jn:∀(l:List (List UInt8)),l.length<=10->(∀s∈l,s.length<=1000000)->aG (λ(x_2:List UInt8×Int)=>
          l7 (H9 x_2.2 (o8 l))
           (l7 (H9 0 x_2.2)
            (l9 (O7 x_2.1 [44,32]) λ(x_3:List UInt8)=>
             l9 (J8 l x_2.2) λ(x_4:List UInt8)=>
              l9 (di l (aW x_2.2)) λ(x:List UInt8)=>
               l9 (O7 x_3 x) λ(x:List UInt8)=>some (Sum.inl (x,G5 IntKind.i64 x_2.2 1)))
            (l9 (J8 l x_2.2) λ(x_3:List UInt8)=>
             l9 (di l (aW x_2.2)) λ(x:List UInt8)=>
              l9 (O7 x_2.1 x) λ(x:List UInt8)=>some (Sum.inl (x,G5 IntKind.i64 x_2.2 1))))
           (some (Sum.inr x_2.1)))
         ([],0)=some (Gn l):=by
  intro l hl hb;refine a6a hl hb (λt i a hx=>?_) (λt=>?_)
  .have hlt:=(ax.1 hx).1;simp only[N8 hx,o7,I9,di,aW,Y1,hx,o9];rw[bD o5]
  .simp only[N7 l,o6]
 cases h34:C9 n.1 34
 .simp only[o6];refine U9 (jn D o5 mD) ?_;rw[o9,hB,hD]
 .simp only[o7];rw[XJ (hr.b (iF.1 h34)).2,o9,mM _ o5,o9];have hm:=zo (kw n.2 8);refine U9 (jn (D++[uN (kw n.2 8)]) G6 (λs hs=>?_)) ?_
  .simp at hs;rcases hs with hs|hs
   .exact mD s hs
   .rw[hs];omega
  .rw[o9,hB,hD]
theorem OZ(hf:V8 n N=l7 (H9 n.2 0) (some 6) (l7 (U1 (o8 l) n.2) (some 6) (some 0)))(h:flS n N=0):J8 l n.2=some (gtN l n.2):=by
 unfold flS at h;rw[hf]at h;by_cases h0:n.2<0
 .rw[dU h0]at h;cases h
 by_cases h1:o8 l<=n.2
 .rw[bT o5,aZ h1]at h;cases h
 exact(Jt o5 o5).1
theorem a5S(hm:lJ m)(h:flS (34,m) N=0):J8 N.2.1 (fF .i64 m 8)=some (gtN N.2.1 (fF .i64 m 8))/\0<=kw m 8/\kw m 8<=5:=by
 have hf:V8 (34,m) N=l7 (H9 m 0) (some 6) (l7 (U1 (o8 N.2.1) (fF .i64 m 8)) (some 6) (l7 (H9 5 (kw m 8)) (some 3) (some 0))):=rfl;unfold flS at h;rw[hf]at h;by_cases h0:m<0
 .rw[dU h0]at h;cases h
 by_cases h1:o8 N.2.1<=fF .i64 m 8
 .rw[bT o5,aZ h1]at h;cases h
 by_cases h2:5<kw m 8
 .rw[bT o5,dw o5,dU h2]at h;cases h
 have hq:fF .i64 m 8=m / 8:=by rw[Pj hm 8 (.inl rfl),mW o5]
 have hr0:kw m 8=m % 8:=Ba o5;exact⟨(Jt o5 o5).1,o5,o5⟩
theorem a8l(hk:k=14\/k=15\/k=16)(h:flS (k,m) N=0):0<=m/\m<=5:=by
 have hf:V8 (k,m) N=l7 (H9 m 0) (some 3) (l7 (H9 5 m) (some 3) (some 0)):=by rcases hk with rfl|rfl|rfl<;>rfl
 unfold flS at h;rw[hf]at h;by_cases h0:m<0
 .rw[dU h0]at h;cases h
 by_cases h2:5<m
 .rw[bT o5,dU h2]at h;cases h
 omega
theorem a3U(hm:lJ n.2)(h:flS n N=0)(ha:0<=arF n.1):Ref11 n N:=by
 obtain⟨k,m⟩:=n;refine⟨λh1=>?_,λh1=>?_,λh1=>?_,λh1=>?_⟩
 .simp only at h1;subst h1;exact a5S hm h
 .simp only at h1;subst h1;exact OZ rfl h
 .rcases arN k with h2|h2
  .have:k=36\/k=37\/k=38\/k=39:=by simp only at h1;omega
   rcases this with rfl|rfl|rfl|rfl<;>exact OZ rfl h
  .simp only at ha;omega
 .refine a8l (k:=k) ?_ h;unfold IG at h1;by_cases g1:k=14
  .exact .inl g1
  by_cases g2:k=15
  .exact .inr (.inl g2)
  rw[P6 g1,P6 g2,o6,o6]at h1;exact .inr (.inr (iF.1 h1))
theorem wQ{j:Nat}{ops:List Int}{ts:List (List UInt8)}(hx:J8 e i=some (k,m))(ho:tX e i=some ops)(hm:lJ m)(hfl:flS (k,m) N=0)(ha:0<=arF k)(hN:NmOk N)
  (hk:cu (k,m)=some ((0,0,0),false)/\dW k=some ([],0)/\k≠6/\k≠7/\k≠8/\k≠9/\k≠10/\k≠25/\k≠26)
  (hlen:ops.length=ts.length) (h3:ts.length<=3) (hts:∀s∈ts,s.length<=1000000) (hj:(Gn (OI (k,m) N ts)).length<=100000000)
  (hc:∀(a:Nat) (o:Int) (s:List UInt8),ops[a]? =some o->ts[a]? =some s->(D5 j).2.2 (e,N) o 0=some (s,(e,N))):
  (D5 (j+2)).1 (e,N) i=some (sK k++[40]++Gn (OI (k,m) N ts)++[41],7,(e,N)):=by
 obtain⟨h1,h2,g6,g7,g8,g9,g10,g25,g26⟩:=hk;have hw:=rM k;rw[Ja];unfold Y6;simp only[hx,ho,h1,h2,o9,o6,show seq ([]:List UInt8) []=true from rfl,J5,P6 g6,P6 g7,P6 g8,P6 g9,P6 g10,P6 g25,P6 g26,a5K];rw[I8 G6,o9,a0V (a3U hm hfl ha) hN hlen h3 hts hc,o9,I8 G6,o9,I8 G6,o9]
theorem Uh(a:List UInt8):Gn [a]=a:=by simp[Gn,Ui,H9,l7]
theorem X_(a b:List UInt8):Gn [a,b]=a++[44,32]++b:=by simp[Gn,Ui,H9,l7]
theorem Y_(a b c:List UInt8):Gn [a,b,c]=a++[44,32]++b++[44,32]++c:=by simp[Gn,Ui,H9,l7]
end Go.GP
namespace Go.GP
open Gt
set_option maxRecDepth 100000
variable {α:Type}
theorem lg0(a:α)(l:List α):di (a::l) (aW 0)=some a:=rfl
theorem lg1(a b:α)(l:List α):di (a::b::l) (aW 1)=some b:=rfl
theorem lg2(a b c:α)(l:List α):di (a::b::c::l) (aW 2)=some c:=rfl
theorem hc0{P:Nat->Int->List UInt8->Prop} :∀(a:Nat) (o:Int) (s:List UInt8),([]:List Int)[a]? =some o->([]:List (List UInt8))[a]? =some s->P a o s:=by intro a o s h;cases a<;>cases h
theorem hc1{x:Int}{y:List UInt8}{P:Int->List UInt8->Prop}(h0:P x y):∀(a:Nat) (o:Int) (s:List UInt8),[x][a]? =some o->[y][a]? =some s->P o s:=by
 intro a o s h1 h2;match a with
 |0=>cases h1;cases h2;exact h0|a+1=>simp at h1
theorem hc2{x x' :Int}{y y' :List UInt8}{P:Int->List UInt8->Prop}(h0:P x y)(h1:P x' y'):∀(a:Nat) (o:Int) (s:List UInt8),[x,x'][a]? =some o->[y,y'][a]? =some s->P o s:=by
 intro a o s g1 g2;match a with
 |0=>cases g1;cases g2;exact h0|1=>cases g1;cases g2;exact h1|a+2=>simp at g1
section
variable {e:List (Int×Int)} {N:E9} {T:XT} (hN:NmOk N) (hT:kE e= .inr T) (hI:∀n∈e,lJ n.2) (hz:∀n∈e,flS n N=0)
include hN hT hI hz
theorem a3Q(n:Int×Int)(o k:Nat)(h:At e (T.sts 0) (.l0 n) o)(hw:(XT.l0 n).wf):(D5 (k+2)).1 (e,N) (rtI (.l0 n) o:Int)=some ((mP n N).1,(mP n N).2,(e,N)):=by
 have hr:=ul h;have ho:=zX hT h hw;have hx:J8 e ((rtI (.l0 n) o:Nat):Int)=some n:=by rw[I9];exact hr.1
 have hmem:=mJ hr.1;have hi:=hI n hmem;have hf:=hz n hmem;rw[show a1E (.l0 n) o=[]from rfl]at ho;generalize ((rtI (.l0 n) o:Nat):Int)=i at hx ho;obtain⟨op,m⟩:=n;have ha:arF op=0:=hw;have lit:∀k:Nat,(op=1\/op=2\/op=3\/op=4\/op=5)->(D5 (k+2)).1 (e,N) i=some ((mP (op,m) N).1,(mP (op,m) N).2,(e,N)):=by intro k hk;obtain⟨t,ht,-⟩:=vZ (B:=100) o5 o5 (v:=(op,0,m)) (en:=[]) hi (λe h=>by cases h);rw[vY [] hi]at ht;rw[Ja];unfold Y6 cu mP;simp only[hx,ho,o9,aZ (show(1:Int)<=op by omega),aZ (show op<=(5:Int) by omega),o7,ht,Z5];cases H9 m 0<;>rfl
 have lst:∀k:Nat,(op=36\/op=37\/op=38\/op=39)->(D5 (k+2)).1 (e,N) i=some ((mP (op,m) N).1,(mP (op,m) N).2,(e,N)):=by
  intro k hk;have e1:OI (op,m) N []=[gtN N.2.2.2.2 m]:=by rcases hk with rfl|rfl|rfl|rfl<;>rfl
  have e2:mP (op,m) N=(sK op++[40]++gtN N.2.2.2.2 m++[41],7):=by rcases hk with rfl|rfl|rfl|rfl<;>rfl
  have:=wQ (j:=k) hx ho hi hf o5 hN (ops:=[]) (ts:=[]) (by rcases hk with rfl|rfl|rfl|rfl<;>exact⟨rfl,rfl,o5,o5,o5,o5,o5,o5,o5⟩) rfl x9 x9 (by rw[e1,Uh];have:=yB hN.m m;omega) hc0
  rw[this,e1,Uh,e2]
 rcases ar0 ha with rfl|rfl|rfl|rfl|rfl|rfl|rfl|rfl|rfl|rfl|rfl|rfl|rfl|rfl
 .exact lit k o5
 .exact lit k o5
 .exact lit k o5
 .exact lit k o5
 .exact lit k o5
 ·
  have hff:V8 (6,m) N=(l7 (H9 m 0) (some 6)
    (l7 (U1 (o8 N.1) (fF .i64 m 16)) (some 6)
     (l9 (J8 N.1 (fF .i64 m 16)) λ(x:Z8)=>
      l7 (U1 (o8 x.2) (kw m 16)) (some 6) (some 0)))):=rfl
  unfold flS at hf;rw[hff]at hf;by_cases h0:m<0
  .rw[dU h0]at hf;cases hf
  by_cases h1:o8 N.1<=fF .i64 m 16
  .rw[bT o5,aZ h1]at hf;cases hf
  have hq:0<=fF .i64 m 16:=by rw[Pj hi 16 (.inr rfl),mW o5];omega
  have hr0:kw m 16=m % 16:=Ba o5;obtain⟨en,he,hmem⟩:=qQ (l:=N.1) hq o5;have hb:=hN.e en hmem;rw[bT o5,dw o5,o6,o6,he,o9]at hf;by_cases h2:o8 en.2<=kw m 16
  .rw[aZ h2]at hf;cases hf
  have hg:=Jt (l:=en.2) (i:=kw m 16) o5 o5;have h3:=hb.2 _ hg.2;rw[Ja];unfold Y6 mP;simp (disch:=decide) only[hx,ho,o9,show cu (6,m)=some ((0,0,0),false)from rfl,show dW 6=some ([],0)from rfl,o6,show seq ([]:List UInt8) []=true from rfl,J5,aB,dw,o7,he,hg.1,Z5];rw[I8 G6,o9,I8 G6,o9]
 .rw[Ja];unfold Y6 mP nP;simp (disch:=decide) only[hx,ho,o9,show cu (7,m)=some ((0,0,0),false)from rfl,show dW 7=some ([],0)from rfl,o6,show seq ([]:List UInt8) []=true from rfl,J5,aB,P6,dw,o7,OZ (n:=(7,m)) (l:=N.2.2.1) rfl hf]
 .rw[Ja];unfold Y6 mP nP;simp (disch:=decide) only[hx,ho,o9,show cu (8,m)=some ((0,0,0),false)from rfl,show dW 8=some ([],0)from rfl,o6,show seq ([]:List UInt8) []=true from rfl,J5,aB,P6,dw,o7,OZ (n:=(8,m)) (l:=N.2.2.2.1) rfl hf]
 .rw[Ja];unfold Y6 mP;simp (disch:=decide) only[hx,ho,o9,show cu (9,m)=some ((0,0,0),false)from rfl,show dW 9=some ([],0)from rfl,o6,show seq ([]:List UInt8) []=true from rfl,J5,aB,P6,dw,o7]
 .have:=wQ (j:=k) hx ho hi hf o5 hN (ops:=[]) (ts:=[]) ⟨rfl,rfl,o5,o5,o5,o5,o5,o5,o5⟩ rfl x9 x9 (by rw[show OI (35,m) N []=[]from rfl];decide) hc0;rw[this];rfl
 .exact lst k o5
 .exact lst k o5
 .exact lst k o5
 .exact lst k o5
theorem a6z(n:Int×Int)(a:XT)(o k:Nat)(h:At e (T.sts 0) (.l1 n a) o)(hw:(XT.l1 n a).wf)(hla:(lL N a).1.length<=1000000)
  (ia:∀q,k<=q->(D5 q).1 (e,N) (rtI a o:Int)=some ((lL N a).1,(lL N a).2,(e,N))):(D5 (k+3)).1 (e,N) (rtI (.l1 n a) o:Int)=some ((Dt n N (FH a.node.1) (lL N a)).1,(Dt n N (FH a.node.1) (lL N a)).2,(e,N)):=by
 have hr:=ul h;have hra:=ul (H_ h);have ho:=zX hT h hw;have hx:J8 e ((rtI (.l1 n a) o:Nat):Int)=some n:=by rw[I9];exact hr.1
 have hxa:J8 e ((rtI a o:Nat):Int)=some a.node:=by rw[I9];exact hra.1
 have hmem:=mJ hr.1;have hi:=hI n hmem;have hf:=hz n hmem;rw[show a1E (.l1 n a) o=[((rtI a o:Nat):Int)]from rfl]at ho;generalize ((rtI (.l1 n a) o:Nat):Int)=i at hx ho;obtain⟨op,m⟩:=n;have ha:arF op=1:=hw.1;have w0:(D5 (k+1)).2.2 (e,N) ((rtI a o:Nat):Int) 0=some ((lL N a).1,(e,N)):=by rw[qZ 0 (ia k o5) hla,wi0 (Ny N a)]
 have w6:(D5 (k+2)).2.2 (e,N) ((rtI a o:Nat):Int) 6=some (wiS (lL N a) 6,(e,N)):=qZ 6 (ia (k+1) o5) hla;have n6:=ia (k+2) o5;generalize ((rtI a o:Nat):Int)=j at hxa ho w0 w6 n6;have hwl:=BH (lL N a) 6;have hml:=zo (kw m 8);have gl1:=yB hN.t m;have gl2:=yB hN.t (fF .i64 m 8);rcases ar1 ha with rfl|rfl|rfl|rfl|rfl|rfl
 .rw[Ja];unfold Y6 Dt FH;simp (disch:=decide) only[hx,ho,o9,show cu (10,m)=some ((0,0,0),false)from rfl,show dW 10=some ([],0)from rfl,o6,show seq ([]:List UInt8) []=true from rfl,J5,aB,P6,o7,lx0,lg0,hxa,n6,w6];rw[I8 G6,o9,I8 G6,o9,I8 G6,o9];cases C9 a.node.1 2
  .cases C9 a.node.1 3
   .cases C9 a.node.1 4<;>simp[l7]
   .simp[l7]
  .simp[l7]
 .rw[Ja];unfold Y6 Dt;simp (disch:=decide) only[hx,ho,o9,show cu (25,m)=some ((0,0,0),false)from rfl,show dW 25=some ([],0)from rfl,o6,show seq ([]:List UInt8) []=true from rfl,J5,aB,P6,o7,lx0,lg0,w6];rw[I8 G6,o9]
 .have e1:OI (31,m) N [(lL N a).1]=[(lL N a).1]:=rfl;rw[wQ (j:=k+1) hx ho hi hf o5 hN (ts:=[(lL N a).1]) ⟨rfl,rfl,o5,o5,o5,o5,o5,o5,o5⟩ rfl x9 (by simpa using hla) (by rw[e1,Uh];omega) (hc1 w0),e1,Uh];rfl
 .have e1:OI (32,m) N [(lL N a).1]=[(lL N a).1]:=rfl;rw[wQ (j:=k+1) hx ho hi hf o5 hN (ts:=[(lL N a).1]) ⟨rfl,rfl,o5,o5,o5,o5,o5,o5,o5⟩ rfl x9 (by simpa using hla) (by rw[e1,Uh];omega) (hc1 w0),e1,Uh];rfl
 .have e1:OI (33,m) N [(lL N a).1]=[gtN N.2.1 m,(lL N a).1]:=rfl;rw[wQ (j:=k+1) hx ho hi hf o5 hN (ts:=[(lL N a).1]) ⟨rfl,rfl,o5,o5,o5,o5,o5,o5,o5⟩ rfl x9 (by simpa using hla) (by rw[e1,X_];simp;omega) (hc1 w0),e1,X_];simp[Dt,C9,l7]
 .have e1:OI (34,m) N [(lL N a).1]=[gtN N.2.1 (fF .i64 m 8),(lL N a).1,uN (kw m 8)]:=rfl;rw[wQ (j:=k+1) hx ho hi hf o5 hN (ts:=[(lL N a).1]) ⟨rfl,rfl,o5,o5,o5,o5,o5,o5,o5⟩ rfl x9 (by simpa using hla) (by rw[e1,Y_];simp;omega) (hc1 w0),e1,Y_];simp[Dt,C9,l7]
theorem a6A(n:Int×Int)(a b:XT)(o k:Nat)(h:At e (T.sts 0) (.l2 n a b) o)(hw:(XT.l2 n a b).wf)(hla:(lL N a).1.length<=1000000)(hlb:(lL N b).1.length<=1000000)
  (ia:∀q,k<=q->(D5 q).1 (e,N) (rtI a o:Int)=some ((lL N a).1,(lL N a).2,(e,N))) (ib:∀q,k<=q->(D5 q).1 (e,N) (rtI b (o+a.size):Int)=some ((lL N b).1,(lL N b).2,(e,N))):
  (D5 (k+3)).1 (e,N) (rtI (.l2 n a b) o:Int)=some ((Hm n (lL N a) (lL N b)).1,(Hm n (lL N a) (lL N b)).2,(e,N)):=by
 have hr:=ul h;have ho:=zX hT h hw;have hx:J8 e ((rtI (.l2 n a b) o:Nat):Int)=some n:=by rw[I9];exact hr.1
 have hmem:=mJ hr.1;have hi:=hI n hmem;have hf:=hz n hmem;rw[show a1E (.l2 n a b) o=[((rtI a o:Nat):Int),((rtI b (o+a.size):Nat):Int)]from rfl]at ho;generalize ((rtI (.l2 n a b) o:Nat):Int)=i at hx ho;obtain⟨op,m⟩:=n;have ha:arF op=2:=hw.1;have w0:(D5 (k+1)).2.2 (e,N) ((rtI a o:Nat):Int) 0=some ((lL N a).1,(e,N)):=by rw[qZ 0 (ia k o5) hla,wi0 (Ny N a)]
 have w1:(D5 (k+1)).2.2 (e,N) ((rtI b (o+a.size):Nat):Int) 0=some ((lL N b).1,(e,N)):=by rw[qZ 0 (ib k o5) hlb,wi0 (Ny N b)]
 have u1:∀c,(D5 (k+2)).2.2 (e,N) ((rtI a o:Nat):Int) c=some (wiS (lL N a) c,(e,N)):=λc=>qZ c (ia (k+1) o5) hla;have u2:∀c,(D5 (k+2)).2.2 (e,N) ((rtI b (o+a.size):Nat):Int) c=some (wiS (lL N b) c,(e,N)):=λc=>qZ c (ib (k+1) o5) hlb;generalize ((rtI a o:Nat):Int)=j at ho w0 u1;generalize ((rtI b (o+a.size):Nat):Int)=j' at ho w1 u2;have hml:=zo m;by_cases h1:op=17\/op=18\/op=27\/op=28\/op=29\/op=30
 .have e1:OI (op,m) N [(lL N a).1,(lL N b).1]=[(lL N a).1,(lL N b).1]:=by rcases h1 with rfl|rfl|rfl|rfl|rfl|rfl<;>rfl
  have e2:Hm (op,m) (lL N a) (lL N b)=(sK op++[40]++(lL N a).1++[44,32]++(lL N b).1++[41],7):=by rcases h1 with rfl|rfl|rfl|rfl|rfl|rfl<;>rfl
  rw[wQ (j:=k+1) hx ho hi hf o5 hN (ts:=[(lL N a).1,(lL N b).1]) (by rcases h1 with rfl|rfl|rfl|rfl|rfl|rfl<;>exact⟨rfl,rfl,o5,o5,o5,o5,o5,o5,o5⟩) rfl x9 (by simp;exact⟨hla,hlb⟩) (by rw[e1,X_];simp;omega) (hc2 w0 w1),e1,X_,e2];simp
 by_cases h2:op=14\/op=15\/op=16
 .have e1:OI (op,m) N [(lL N a).1,(lL N b).1]=[(lL N a).1,(lL N b).1,uN m]:=by rcases h2 with rfl|rfl|rfl<;>rfl
  have e2:Hm (op,m) (lL N a) (lL N b)=(sK op++[40]++(lL N a).1++[44,32]++(lL N b).1++[44,32]++uN m++[41],7):=by rcases h2 with rfl|rfl|rfl<;>rfl
  rw[wQ (j:=k+1) hx ho hi hf o5 hN (ts:=[(lL N a).1,(lL N b).1]) (by rcases h2 with rfl|rfl|rfl<;>exact⟨rfl,rfl,o5,o5,o5,o5,o5,o5,o5⟩) rfl x9 (by simp;exact⟨hla,hlb⟩) (by rw[e1,Y_];simp;omega) (hc2 w0 w1),e1,Y_,e2];simp
 have hk:op=11\/op=12\/op=13\/op=19\/op=20\/op=21\/op=22\/op=23\/op=24:=by have:=ar2 ha;omega
 have hl:=Wn op;have hc:1<=(yl op).2/\(yl op).2<=5:=by rcases hk with rfl|rfl|rfl|rfl|rfl|rfl|rfl|rfl|rfl<;>decide
 have hs:seq (yl op).1 []=false:=by rcases hk with rfl|rfl|rfl|rfl|rfl|rfl|rfl|rfl|rfl<;>rfl
 have hlit:cu (op,m)=some ((0,0,0),false):=by rcases hk with rfl|rfl|rfl|rfl|rfl|rfl|rfl|rfl|rfl<;>rfl
 have hb:YE op=false/\IG op=false:=by rcases hk with rfl|rfl|rfl|rfl|rfl|rfl|rfl|rfl|rfl<;>exact⟨rfl,rfl⟩
 have v1:=BH (lL N a) 4;have v2:=BH (lL N a) (yl op).2;have v3:=BH (lL N b) ((yl op).2+1);rw[Ja];unfold Y6 Hm;simp only[hx,ho,o9,hlit,a5D,hs,o6,o7,Y7,lx0,lg0,lx1,lg1,u1,u2,kF (show lJ ((yl op).2+1) by unfold lJ;omega),hb.1,hb.2];cases C9 (yl op).2 3
 .simp only[o6];rw[I8 G6,o9,I8 G6,o9,I8 G6,o9,I8 G6,o9]
 .simp only[o7];rw[I8 G6,o9,I8 G6,o9,I8 G6,o9,I8 G6,o9]
theorem a8y(n:Int×Int)(a b c:XT)(o k:Nat)(h:At e (T.sts 0) (.l3 n a b c) o)(hw:(XT.l3 n a b c).wf)(hla:(lL N a).1.length<=1000000)(hlb:(lL N b).1.length<=1000000)(hlc:(lL N c).1.length<=1000000)
  (ia:∀q,k<=q->(D5 q).1 (e,N) (rtI a o:Int)=some ((lL N a).1,(lL N a).2,(e,N))) (ib:∀q,k<=q->(D5 q).1 (e,N) (rtI b (o+a.size):Int)=some ((lL N b).1,(lL N b).2,(e,N)))
  (ic:∀q,k<=q->(D5 q).1 (e,N) (rtI c (o+a.size+b.size):Int)=some ((lL N c).1,(lL N c).2,(e,N))):
  (D5 (k+3)).1 (e,N) (rtI (.l3 n a b c) o:Int)=some ((ifX (lL N a) (lL N b) (lL N c)).1,(ifX (lL N a) (lL N b) (lL N c)).2,(e,N)):=by
 have hr:=ul h;have ho:=zX hT h hw;have hx:J8 e ((rtI (.l3 n a b c) o:Nat):Int)=some n:=by rw[I9];exact hr.1
 rw[show a1E (.l3 n a b c) o=[((rtI a o:Nat):Int),((rtI b (o+a.size):Nat):Int),((rtI c (o+a.size+b.size):Nat):Int)]from rfl]at ho;generalize ((rtI (.l3 n a b c) o:Nat):Int)=i at hx ho;obtain⟨op,m⟩:=n;have ha:op=26:=ar3 hw.1;subst ha;have u1:(D5 (k+2)).2.2 (e,N) ((rtI a o:Nat):Int) 0=some ((lL N a).1,(e,N)):=by rw[qZ 0 (ia (k+1) o5) hla,wi0 (Ny N a)]
 have u2:(D5 (k+2)).2.2 (e,N) ((rtI b (o+a.size):Nat):Int) 0=some ((lL N b).1,(e,N)):=by rw[qZ 0 (ib (k+1) o5) hlb,wi0 (Ny N b)]
 have u3:(D5 (k+2)).2.2 (e,N) ((rtI c (o+a.size+b.size):Nat):Int) 0=some ((lL N c).1,(e,N)):=by rw[qZ 0 (ic (k+1) o5) hlc,wi0 (Ny N c)]
 rw[Ja];unfold Y6 ifX;simp (disch:=decide) only[hx,ho,o9,show cu (26,m)=some ((0,0,0),false)from rfl,show dW 26=some ([],0)from rfl,o6,show seq ([]:List UInt8) []=true from rfl,J5,aB,P6,o7,lx0,lg0,lx1,lg1,lx2,lg2,u1,u2,u3];rw[I8 G6,o9,I8 G6,o9,I8 G6,o9,I8 G6,o9,I8 G6,o9]
theorem a3R:∀(t:XT) (o k:Nat),At e (T.sts 0) t o->t.wf->3*t.size<=k->(D5 k).1 (e,N) (rtI t o:Int)=some ((lL N t).1,(lL N t).2,(e,N)):=by
 have h48:=(uj hT).2;have hlen:∀(t:XT) (o:Nat),At e (T.sts 0) t o->(lL N t).1.length<=1000000:=by
  intro t o h;obtain⟨p,s,S1,S2,h1,-,-,-⟩:=h;have hl:=xZ hN t (λn hn=>hI n (by rw[h1];simp[hn]));have:t.size<=e.length:=by rw[←t.post_len,h1];simp;omega
  omega
 intro t;induction t with
 |l0 n=>intro o k h hw hk;simp only[XT.size]at hk;obtain⟨k,rfl⟩:∃m,k=m+2:=⟨k -2,o5⟩;exact a3Q hN hT hI hz n o k h hw
 |l1 n a iha=>intro o k h hw hk;simp only[XT.size]at hk;obtain⟨k,rfl⟩:∃m,k=m+3:=⟨k -3,o5⟩;exact a6z hN hT hI hz n a o k h hw (hlen a o (H_ h)) (λq hq=>iha o q (H_ h) hw.2 o5)
 |l2 n a b iha ihb=>intro o k h hw hk;simp only[XT.size]at hk;obtain⟨k,rfl⟩:∃m,k=m+3:=⟨k -3,o5⟩;exact a6A hN hT hI hz n a b o k h hw (hlen a o (TP h).1) (hlen b _ (TP h).2) (λq hq=>iha o q (TP h).1 hw.2.1 o5) (λq hq=>ihb _ q (TP h).2 hw.2.2 o5)
 |l3 n a b c iha ihb ihc=>intro o k h hw hk;simp only[XT.size]at hk;obtain⟨k,rfl⟩:∃m,k=m+3:=⟨k -3,o5⟩;exact a8y hN hT hI hz n a b c o k h hw (hlen a o (JS h).1) (hlen b _ (JS h).2.1) (hlen c _ (JS h).2.2) (λq hq=>iha o q (JS h).1 hw.2.1 o5) (λq hq=>ihb _ q (JS h).2.1 hw.2.2.1 o5) (λq hq=>ihc _ q (JS h).2.2 hw.2.2.2 o5)
end
end Go.GP
namespace Go.GP
open Gt
set_option maxRecDepth 100000
variable {N:E9}
theorem a8m{n:Int×Int}(hN:NmOk N)(hI:lJ n.2)(ha:0<=arF n.1):V8 n N=some (flS n N):=by
 obtain⟨k,m⟩:=n;have fin:∀{args:List H6} {x:Tx},BJ (k,m) args N x->V8 (k,m) N=some (flS (k,m) N):=by rintro args x ⟨c,h1,-⟩;rw[Vg h1];exact h1
 by_cases h0:m=0\/bi k=some true
 .have h3:arF k=0\/arF k=1\/arF k=2\/arF k=3:=by have:=(DC k).2.2;simp only at ha;omega
  rcases h3 with h|h|h|h
  .exact fin (a0v hN hI h h0)
  .exact fin (a0w hN hI h h0 ([],0,false) x9)
  .exact fin (a0x h h0 ([],0,false) ([],0,false) x9 x9)
  .have:=ar3 h;subst this;exact fin (a0y h0 ([],0,false) ([],0,false) ([],0,false) x9 x9 x9)
 .have h1:m≠0:=λh=>h0 (.inl h);have h2:bi k=some false:=(a0L ha).resolve_left λh=>h0 (.inr h);have:=a7E (N:=N) ha h1 h2;rw[Vg this];exact this
theorem Ff:∀(t:XT),t.wf->∀n∈t.post,0<=arF n.1
 | .l0 n,h,m,hm=>by simp[XT.post]at hm;rw[hm];rw[show arF n.1=0 from h];decide| .l1 n a,h,m,hm=>by
  simp[XT.post]at hm;rcases hm with hm|hm
  .exact Ff a h.2 m hm
  .rw[hm,h.1];decide
 | .l2 n a b,h,m,hm=>by
  simp[XT.post]at hm;rcases hm with hm|hm|hm
  .exact Ff a h.2.1 m hm
  .exact Ff b h.2.2 m hm
  .rw[hm,h.1];decide
 | .l3 n a b c,h,m,hm=>by
  simp[XT.post]at hm;rcases hm with hm|hm|hm|hm
  .exact Ff a h.2.1 m hm
  .exact Ff b h.2.2.1 m hm
  .exact Ff c h.2.2.2 m hm
  .rw[hm,h.1];decide
theorem P_{N:E9} :∀{l:List (Int×Int)},ffS N l=0->∀n∈l,flS n N=0
 |[],_,n,h=>by cases h|a::l,h,n,hn=>by
  unfold ffS at h;cases hf:C9 (flS a N) 0
  .rw[hf]at h;rw[o6]at h;exact absurd h (xm.1 hf)
  .rw[hf]at h;rw[o7]at h;rcases A8.1 hn with rfl|hn
   .exact iF.1 hf
   .exact P_ h n hn
theorem XI(e:List (Int×Int))(he:e.length<=1000)(hf:∀n∈e,V8 n N=some (flS n N)):
  U8 (λ(x:Int)=>
     l7 (H9 x (o8 e))
      (l9 (J8 e x) λ(x_1:J4)=>
       l9 (V8 x_1 N) λ(x_2:Int)=>
        l7 (G7 (C9 x_2 0)) (some (Out.rt (([]:List UInt8),x_2))) (some (Out.nx (G5 IntKind.i64 x 1))))
      (some (Out.ex PUnit.unit))) 0=some (l7 (C9 (ffS N e) 0) (.inl PUnit.unit) (.inr ([],ffS N e))):=by
 have key:∀(l pre:List (Int×Int)) (k:Nat),e=pre++l->l.length<k->
   jO (λ(x:Int)=>
     l7 (H9 x (o8 e))
      (l9 (J8 e x) λ(x_1:J4)=>
       l9 (V8 x_1 N) λ(x_2:Int)=>
        l7 (G7 (C9 x_2 0)) (some (Out.rt (([]:List UInt8),x_2))) (some (Out.nx (G5 IntKind.i64 x 1))))
      (some (Out.ex PUnit.unit))) k (pre.length:Int)=some (l7 (C9 (ffS N l) 0) (.inl PUnit.unit) (.inr ([],ffS N l))):=by
  intro l;induction l with
  |nil=>intro pre k h hk;obtain⟨k,rfl⟩:∃k',k=k' +1:=⟨k -1,by simp at hk;omega⟩;rw[EK];rw[F6]at h;rw[←h,N7];rfl
  |cons n l ih=>
   intro pre k h hk;obtain⟨k,rfl⟩:∃k',k=k' +1:=⟨k -1,by simp at hk;omega⟩;have hn:e[pre.length]? =some n:=by rw[h,I5 (F5 _),gy];rfl
   have hlt:=(ax.1 hn).1;rw[EK];simp only[N8 hn,o7,I9,hn,o9,hf n (mJ hn)];unfold ffS;cases hg:C9 (flS n N) 0
   .simp only[Y7,o7,o6,hg]
   .simp only[J5,o7,o6];have:=ih (pre++[n]) k (by rw[h];simp) (by simp at hk;omega);rw[show(((pre++[n]).length:Nat):Int)=G5 .i64 (pre.length:Int) 1 by rw[bD o5];simp]at this;exact this
 have:=key e [] ji rfl (by unfold ji;omega);exact this
theorem a0z{e:List (Int×Int)}(hN:NmOk N)(hI:∀n∈e,lJ n.2):uy e N=some (WX e N):=by
 unfold uy ET WX;rw[Du];unfold sH;cases h:kE e with
 |inl x=>simp only[o9,P6 (CV h)];rfl|inr t=>
  obtain⟨h1,h2,h3,h4⟩:=WH h;obtain⟨hp,-⟩:=uj h;simp only[o9,aB (rfl:(0:Int)=0),J5,o6];have hw:=Nq h;refine U9 (XI e o5 (λn hn=>a8m hN (hI n hn) (Ff t hw n (by rw[←hp];exact hn)))) ?_;rw[o9];cases hf:C9 (ffS N e) 0
  .rfl
  .simp only[o7,X8];rw[h4,show wB (e,N) ((rtI t 0:Nat):Int)=some ((lL N t).1,(lL N t).2,(e,N))from a3R hN h hI (P_ (iF.1 hf)) t 0 ji h1 hw (by unfold ji;omega)]<;>rfl
theorem Q_{e:List (Int×Int)}(hN:NmOk N)(hI:∀n∈e,lJ n.2):(WX e N).1.length<=150000:=by
 unfold WX;cases h:kE e with
 |inl x=>simp|inr t=>
  obtain⟨hp,h48⟩:=uj h;have:=xZ hN t (by rw[←hp];exact hI);rw[←t.post_len,←hp]at this;simp only;cases C9 (ffS N e) 0
  .simp[l7]
  .simp only[o7];omega
end Go.GP
