import Derived.Test.YtnkflamioafojaaGreatDoorV5
import Derived.Test.YtnkflamioafojaaGreatDoorV1
import Derived.Test.YtnkflamioafojaaGreatDoorV3
import Derived.Lib.ItoaLen
set_option linter.all false
namespace Go.GP
variable {a:Int}{b:Int}{n:Int}
section
variable {α β σ ε ρ:Type}
@[simp] theorem o9 (x:α) (f:α->Option β):l9 (some x) f=f x:=rfl
@[simp] theorem b6L (f:α->Option β):l9 none f=none:=rfl
theorem a1I{o:Option α}{x:α}(h:o=some x)(f:α->Option β):l9 o f=f x:=by rw[h];rfl
theorem V5{o o' :Option α}(h:o=o'){K:α->Option β}{r:Option β}(h2:l9 o' K=r):l9 o K=r:=by rw[h];exact h2
theorem bb(a b:Bool):l7 a (some b) (some false)=some (a&&b):=by cases a<;>rfl
theorem uS(o:Option α):l9 o (λx=>some x)=o:=by cases o<;>rfl
@[simp] theorem o7 (x y:α):l7 true x y=x:=rfl
@[simp] theorem o6 (x y:α):l7 false x y=y:=rfl
theorem qw(b:Bool)(x y:α):l7 b x y=if b=true then x else y:=by cases b<;>rfl
theorem ou{b:Bool}(h:b=true)(x y:α):l7 b x y=x:=by rw[h];rfl
theorem pg{b:Bool}(h:b=false)(x y:α):l7 b x y=y:=by rw[h];rfl
@[simp] theorem X8 (s:σ) (f:σ->α) (g:ε->α):U1 (.inl s) f g=f s:=rfl
@[simp] theorem oU (s:ε) (f:σ->α) (g:ε->α):U1 (.inr s) f g=g s:=rfl
@[simp] theorem G8:G6 true=false:=rfl
@[simp] theorem V7:G6 false=true:=rfl
theorem bT(h:a<b):H5 a b=true:=by simp[H5,h]
theorem X5(h:b<=a):H5 a b=false:=by simp[H5];omega
theorem Z9(h:a<=b):P7 a b=true:=by simp[P7,h]
theorem dO(h:b<a):P7 a b=false:=by simp[P7];omega
theorem O9(h:a=b):x9 a b=true:=by simp[x9,h]
theorem O5(h:a≠b):x9 a b=false:=by simp[x9,h]
theorem Em :H5 a b=true↔a<b:=by simp[H5]
theorem uF :P7 a b=true↔a<=b:=by simp[P7]
theorem Z8 :x9 a b=true↔a=b:=by simp[x9]
theorem nM :H5 a b=false↔b<=a:=by simp[H5]
theorem Tc :P7 a b=false↔b<a:=by simp[P7]
theorem qh :x9 a b=false↔a≠b:=by simp[x9]
theorem ja{a b:d2g} :seq a b=true↔a=b:=by simp[seq]
theorem vY{a b:d2g} :seq a b=false↔a≠b:=by simp[seq]
theorem nC(h:0<=a):a.tdiv b=a / b:=Int.tdiv_eq_ediv_of_nonneg h
theorem AU(h:0<=a):dJ a b=a % b:=Int.tmod_eq_emod_of_nonneg h
def jg(n:Int):Prop:=-9223372036854775808<=n/\n<=9223372036854775807
theorem bn{p:Int}(h:jg p:=by unfold jg;omega):jg p:=h
def U64(n:Int):Prop:=0<=n/\n<=18446744073709551615
theorem BI(h:jg n):IntKind.wrap .i64 n=n:=by unfold jg at h;unfold IntKind.wrap;simp[IntKind.signed,IntKind.bits];omega
theorem RX(h:U64 n):IntKind.wrap .u64 n=n:=by unfold U64 at h;unfold IntKind.wrap;simp[IntKind.signed,IntKind.bits];omega
theorem dP(h:jg (a+b)):E9 .i64 a b=a+b:=BI h
theorem di(h:jg (a -b)):N7 .i64 a b=a -b:=BI h
theorem LX(h:jg (a*b)):nN .i64 a b=a*b:=BI h
theorem QH(h:jg (a.tdiv b)):Z7 .i64 a b=a.tdiv b:=BI h
theorem a1l(h:U64 (a+b)):E9 .u64 a b=a+b:=RX h
theorem a9b(h:U64 (a.tdiv b)):Z7 .u64 a b=a.tdiv b:=RX h
theorem DX(h:(Lit.int .i64 n).wf=true):jg n:=by simp[Lit.wf,IntKind.min,IntKind.max,IntKind.signed,IntKind.bits]at h;unfold jg;omega
theorem Uj(l:List α):0<=x8 l:=by simp[x8]
theorem U8(l:List α)(i:Nat):J9 l (i:Int)=l[i]?:=by simp[J9]
theorem qX{l:List α}{i:Int}{x:α}(h:J9 l i=some x):0<=i/\i<x8 l/\x∈l/\l[i.toNat]? =some x:=by
 unfold J9 at h;split at h
 .rename_i h0;obtain⟨h1,h2⟩:=aV.1 h;refine⟨h0,by simp[x8];omega,?_,h⟩;rw[←h2];exact ay h1
 .cases h
theorem ui{l:List α}{i:Int}(h0:0<=i)(h:i<x8 l):∃x,J9 l i=some x/\x∈l:=by
 unfold x8 at h;refine⟨l[i.toNat]'o5,?_,ay _⟩;unfold J9
 rw[if_pos h0,qi]
theorem vX(l:d2g)(i:Nat):sat l (i:Int)=(l[i]?).map λc=>(c.toNat:Int):=by simp[sat]
theorem H7{a b:d2g}(h:a.length+b.length<=4611686018427387904):O0 a b=some (a++b):=by simp[O0,h]
theorem Vk{a b:List α}(h:a.length+b.length<=1073741824):bF a b=some (a++b):=by simp[bF,h]
theorem Vl{l:List α}{lo hi:Int}(h0:0<=lo)(h1:lo<=hi)(h2:hi<=l.length):gm l lo hi=some ((l.take hi.toNat).drop lo.toNat):=by simp[gm,h0,h1,h2]
theorem Bg{l:List α}{hi:Int}(h1:0<=hi)(h2:hi<=l.length):gm l 0 hi=some (l.take hi.toNat):=by rw[Vl o5 h1 h2];simp
theorem pK{l:List α}{lo:Int}(h1:0<=lo)(h2:lo<=l.length):gm l lo (x8 l)=some (l.drop lo.toNat):=by rw[Vl h1 (by simp[x8];omega) (by simp[x8])];simp[x8]
end
section
variable {σ ε ρ:Type}
theorem Uk{f:σ->Option (σ⊕ε)}(Inv:σ->Prop)(Q:ε->Prop)(meas:σ->Nat)
  (h:∀s,Inv s->(∃s',f s=some (.inl s')/\Inv s' /\meas s' <meas s)\/(∃e,f s=some (.inr e)/\Q e)):
  ∀n s,Inv s->meas s<n->∃e,zU f n s=some e/\Q e
 |0,_,_,h=>by omega|n+1,s,hi,hm=>by
  unfold zU;rcases h s hi with⟨s',e,hi',hm'⟩|⟨x,e,hx⟩
  .rw[e];exact Uk Inv Q meas h n s' hi' o5
  .rw[e];exact⟨x,rfl,hx⟩
theorem ul{f:σ->Option (σ⊕ε)}{s:σ}(Inv:σ->Prop)(Q:ε->Prop)(meas:σ->Nat)(hi:Inv s)(hm:meas s<18446744073709551616)
  (h:∀s,Inv s->(∃s',f s=some (.inl s')/\Inv s' /\meas s' <meas s)\/(∃e,f s=some (.inr e)/\Q e)):∃e,bC f s=some e/\Q e:=
 Uk Inv Q meas h _ s hi hm
theorem WQ{f:σ->Option (Out σ ε ρ)}(Inv:σ->Prop)(Q:ε->Prop)(Qr:ρ->Prop)(meas:σ->Nat)
  (h:∀s,Inv s->(∃s',f s=some (.nx s')/\Inv s' /\meas s' <meas s)\/(∃e,f s=some (.ex e)/\Q e)\/(∃r,f s=some (.rt r)/\Qr r)):
  ∀n s,Inv s->meas s<n->(∃e,iy f n s=some (.inl e)/\Q e)\/(∃r,iy f n s=some (.inr r)/\Qr r)
 |0,_,_,h=>by omega|n+1,s,hi,hm=>by
  unfold iy;rcases h s hi with⟨s',e,hi',hm'⟩|⟨x,e,hx⟩|⟨x,e,hx⟩
  .rw[e];exact WQ Inv Q Qr meas h n s' hi' o5
  .rw[e];exact .inl ⟨x,rfl,hx⟩
  .rw[e];exact .inr ⟨x,rfl,hx⟩
theorem FH{f:σ->Option (Out σ ε ρ)}{s:σ}(Inv:σ->Prop)(Q:ε->Prop)(Qr:ρ->Prop)(meas:σ->Nat)(hi:Inv s)(hm:meas s<18446744073709551616)
  (h:∀s,Inv s->(∃s',f s=some (.nx s')/\Inv s' /\meas s' <meas s)\/(∃e,f s=some (.ex e)/\Q e)\/(∃r,f s=some (.rt r)/\Qr r)):
  (∃e,O6 f s=some (.inl e)/\Q e)\/(∃r,O6 f s=some (.inr r)/\Qr r):=
 WQ Inv Q Qr meas h _ s hi hm
end
section
variable {α β ε ρ:Type}
open Classical in
theorem Ja(l:List α)(p:Nat->α->Bool)(r:ρ)(e:ε)(f:Int->Option (Out Int ε ρ))(hl:l.length<18446744073709551616)
  (hin:∀(i:Nat) (a:α),l[i]? =some a->f (i:Int)=if p i a=true then some (.nx ((i+1:Nat):Int))else some (.rt r))
  (hend:f (l.length:Int)=some (.ex e)):
  O6 f 0=if(∀i a,l[i]? =some a->p i a=true)then some (.inl e)else some (.inr r):=by
 have key:∀(n i:Nat),i<=l.length->l.length -i<n->(∀j a,j<i->l[j]? =some a->p j a=true)->iy f n (i:Int)=if(∀i a,l[i]? =some a->p i a=true)then some (.inl e)else some (.inr r):=by
  intro n;induction n with
  |zero=>intro i _ h;omega|succ n ih=>
   intro i hi hn hp;unfold iy;by_cases h:i<l.length
   .have e' :=qi h;rw[hin i _ e'];by_cases hpi:p i l[i]=true
    .rw[if_pos hpi];exact ih (i+1) o5 o5 λj a hj ha=>by
      by_cases hji:j=i
      .subst hji;rw[e']at ha;cases ha;exact hpi
      .exact hp j a o5 ha
    .rw[if_neg hpi,if_neg];intro hall;exact hpi (hall i _ e')
   .have:i=l.length:=o5;subst this;rw[hend,if_pos];intro j a ha;exact hp j a (aV.1 ha).1 ha
 exact key _ 0 (gB _) hl λj a hj=>by omega
end
end Go.GP
namespace Go.GP
section
variable {α β α' β' σ τ ε ε' ρ ρ' :Type}
theorem MC{p:Nat->Option ρ}(n:Nat)(hn:n<18446744073709551616)(e:ε){f:Int->Option (Out Int ε ρ)}
  (h1:∀i,i<n->f (i:Int)=some (match p i with|some r=> .rt r|none=> .nx ((i+1:Nat):Int))) (h2:f (n:Int)=some (.ex e)):
  O6 f 0=some (match(List.range n).findSome? p with|some r=> .inr r|none=> .inl e):=by
 have key:∀m i,i+m=n->∀k,m<k->iy f k (i:Int)=some (match(List.range' i m).findSome? p with|some r=> .inr r|none=> .inl e):=by
  intro m;induction m with
  |zero=>intro i hi k hk;obtain⟨k,rfl⟩:∃k',k=k' +1:=⟨k -1,o5⟩;have:i=n:=o5;subst this;unfold iy;rw[h2];rfl
  |succ m ih=>
   intro i hi k hk;obtain⟨k,rfl⟩:∃k',k=k' +1:=⟨k -1,o5⟩;unfold iy;rw[h1 i o5,nz,List.findSome?_cons];cases hp:p i with
   |some r=>rfl|none=>exact ih (i+1) o5 k o5
 have:=key n 0 o5 aH hn;rw[List.range_eq_range'];exact this
end
end Go.GP
namespace Go.GP
open Gt
set_option maxRecDepth 100000
variable {i:Nat}
theorem fF(h:i<=9000000000000000000):E9 .i64 (i:Int) 1=((i+1:Nat):Int):=by rw[dP bn];omega
def FI(c:UInt8):Bool:=decide (97<=c.toNat)&&decide (c.toNat<=122)
def uz(c:UInt8):Bool:=FI c || (decide (48<=c.toNat)&&decide (c.toNat<=57)) || decide (c.toNat=95)
def Gf:List d2g:=uV.getD []
theorem b4y:uV=some Gf:=by kernel_rfl
def gz(s:d2g):Bool:=match s with|[]=>false|c::r=>decide (s.length<=16)&&FI c&&s.all uz&&!(Gf.any λw=>seq s w)
theorem yE(c:UInt8)(r:d2g):gz (c::r)=(decide ((c::r).length<=16)&&FI c&&(c::r).all uz&&!(Gf.any λw=>seq (c::r) w)):=rfl
theorem FK(c:UInt8):lU (c.toNat:Int)=some (FI c):=by
 unfold lU FI;cases h:decide (97<=c.toNat)<;>simp only[decide_eq_true_eq,decide_eq_false_iff_not]at h
 .rw[dO o5];rfl
 .rw[Z9 o5];simp only[o7,nP,P7];congr 1;by_cases h2:c.toNat<=122<;>simp[h2]<;>omega
theorem Zo(c:UInt8):Hg (c.toNat:Int)=some (FI c):=FK c
def vM(c:UInt8):Bool:=decide (48<=c.toNat)&&decide (c.toNat<=57)
theorem IK(c:UInt8):jc (c.toNat:Int)=some (vM c):=by
 unfold jc vM;cases h:decide (48<=c.toNat)<;>simp only[decide_eq_true_eq,decide_eq_false_iff_not]at h
 .rw[dO o5];rfl
 .rw[Z9 o5];simp only[o7,nP,P7];congr 1;by_cases h2:c.toNat<=57<;>simp[h2]<;>omega
theorem a7V(c:UInt8):MO (c.toNat:Int)=some (vM c):=IK c
theorem a9a(c:UInt8):x9 (c.toNat:Int) 95=decide (c.toNat=95):=by unfold x9;by_cases h:c.toNat=95<;>simp[h]<;>omega
theorem b5p(c:UInt8):JR (c.toNat:Int)=some (uz c):=by unfold JR;rw[Zo,o9,a7V,a9a];unfold uz;change _=some (FI c || vM c || decide (c.toNat=95));cases FI c<;>cases vM c<;>rfl
variable {s:d2g}
theorem Yj(h:s.length<=4611686018427387904):∃k,nS s=some k/\(k=x8 s↔s.all uz=true):=by
 unfold nS;have:=ul (f:=λ(x:Int)=>l7 (H5 x (x8 s)) (l9 (sat s x) λx_1=>l9 (lU x_1) λx_2=>l7 x_2 (some (Sum.inl (E9 IntKind.i64 x 1)))
   (l9 (sat s x) λx_3=>l9 (jc x_3) λx_4=>l7 x_4 (some (Sum.inl (E9 IntKind.i64 x 1))) (l9 (sat s x) λx_5=>l7 (x9 x_5 95) (some (Sum.inl (E9 IntKind.i64 x 1))) (some (Sum.inr x))))) (some (Sum.inr x)))
  (s:=0) (λx=>∃i:Nat,x=i/\i<=s.length/\(s.take i).all uz=true) (λk=>k=x8 s↔s.all uz=true) (λx=>s.length -x.toNat) ⟨0,rfl,o5,rfl⟩ F9 ?_
 .obtain⟨k,h1,h2⟩:=this;refine⟨k,?_,h2⟩;rw[uS];exact h1
 .rintro x ⟨i,rfl,hi,hall⟩;by_cases hl:i<s.length
  .have e:=qi hl;simp only[bT (show(i:Int)<x8 s by simp[x8];omega),o7,vX,e,eX,o9,FK,IK,a9a];have hst:(s.take (i+1)).all uz=((s.take i).all uz&&uz s[i]):=by rw[aB hl,List.all_append];simp
   have hw:uz s[i]=(FI s[i] || vM s[i] || decide (s[i].toNat=95)):=rfl;cases hwb:uz s[i]with
   |true=>left;refine⟨((i+1:Nat):Int),?_,⟨i+1,rfl,hl,by rw[hst,hall,hwb];rfl⟩,by simp;omega⟩;rw[fF o5];rw[hw]at hwb;cases h1:FI s[i]<;>cases h2:vM s[i]<;>cases h3:decide (s[i].toNat=95)<;>rw[h1,h2,h3]at hwb<;>first|rfl|cases hwb
   |false=>
    right;refine⟨(i:Int),?_,?_⟩
    .rw[hw]at hwb;cases h1:FI s[i]<;>cases h2:vM s[i]<;>cases h3:decide (s[i].toNat=95)<;>rw[h1,h2,h3]at hwb<;>first|rfl|cases hwb
    .constructor
     .intro h;simp[x8]at h;omega
     .intro h;have:=ax.1 h s[i] (ay hl);rw[hwb]at this;cases this
  .right;have:i=s.length:=o5;subst this;rw[dW]at hall;exact⟨_,by rw[X5 (by simp[x8])];rfl,by simp[x8,hall]⟩
theorem a7Z{a:d2g}{w:d2g}{r:d2k}{x:Bool}(h:r=some x):l7 (seq a w) (some (seq a w)) r=some (seq a w || x):=by rw[h];cases seq a w<;>rfl
theorem a1Z(s:d2g):Bd s=some (Gf.any λw=>seq s w):=by
 unfold Bd;refine V5 (o' :=some (Gf.any λw=>seq s w)) ?_ (by cases Gf.any λw=>seq s w<;>rfl);have hr:Gf=(uV).getD []:=rfl;rw[show(Gf.any λw=>seq s w)=List.foldr (λw b=>seq s w || b) false Gf from by induction Gf with|nil=>rfl|cons w l ih=>simp[List.any_cons,ih]];unfold Gf uV;simp only[Z4,List.foldr]
 repeat (refine a7Z ?_)
 simp
theorem nH(h:s.length<=4611686018427387904):V8 s=some (gz s):=by
 unfold V8;cases s with
 |nil=>rfl|cons c r=>
  have h1:seq (c::r) []=false:=by simp[seq]
  obtain⟨k,h2,h3⟩:=Yj h;rw[h1];simp only[V7,o7];rw[show sat (c::r) 0=some (c.toNat:Int)from rfl,o9,FK,o9,h2,o9,a1Z,o9];have h4:x9 k (x8 (c::r))=(c::r).all uz:=by rw[tu,Z8];exact h3
  have h5:P7 (x8 (c::r)) 16=decide ((c::r).length<=16):=by simp only[P7,x8];congr 1;simp;omega
  rw[h4,h5,yE];cases FI c<;>cases (c::r).all uz<;>cases decide ((c::r).length<=16)<;>rfl
theorem pY(h:s.length<=1000000):V8 s=some (gz s):=nH o5
theorem tN(h:s.length<=4611686018427387904):bf s=some (gz s):=by
 unfold bf;cases s with
 |nil=>rfl|cons c r=>
  have h0:x9 (x8 (c::r)) 0=false:=O5 (by simp[x8];omega);have h5:H5 16 (x8 (c::r))= !decide ((c::r).length<=16):=by simp only[H5,x8];rw[←decide_not];congr 1;simp;omega
  rw[h0,h5,show sat (c::r) 0=some (c.toNat:Int)from rfl,o9,Zo,o9,yE];generalize hs:c::r=s at*;cases hl:decide (s.length<=16)
  .rfl
  cases hc:FI c
  .rfl
  simp only[nO,o6,G8,o9,X8,nP];refine V5 (Ja s (λi a=>uz a) false PUnit.unit _ o5 (λi x hx=>?_) ?_) ?_
  rotate_left 2
  .have ha:(∀(i:Nat) (a:UInt8),s[i]? =some a->uz a=true)↔s.all uz=true:=by
    rw[ax];constructor
    .intro h x hx;obtain⟨i,hi,rfl⟩:=eU hx;exact h i _ (qi hi)
    .intro h i a hi;exact h a (zg hi)
   by_cases hw:s.all uz=true
   .rw[if_pos (ha.2 hw),o9,X8,b4y,o9,hw];refine V5 (Ja Gf (λi a=> !seq a s) false PUnit.unit _ (by decide+kernel) (λi x hx=>?_) ?_) ?_
    rotate_left 2
    .have hb:(∀(i:Nat) (a:d2g),Gf[i]? =some a->(!seq a s)=true)↔(Gf.any λw=>seq s w)=false:=by
      rw[eG];constructor
      .intro h x hx;obtain⟨i,hi,rfl⟩:=eU hx;have:=h i _ (qi hi);intro hq;rw[ja.1 hq]at this;simp[seq]at this
      .intro h i a hi;have:=h a (zg hi);cases hq:seq a s
       .rfl
       .exact absurd (by rw[ja.1 hq];simp[seq]) this
     by_cases hv:(Gf.any λw=>seq s w)=false
     .rw[if_pos (hb.2 hv),hv];rfl
     .rw[if_neg (λh=>hv (hb.1 h))];simp only[AV]at hv;rw[hv];rfl
    .have hi:=(aV.1 hx).1;simp only[bT (show(i:Int)<x8 Gf by simp[x8];omega),o7,U8,hx,o9];rw[show ah Gf (Y1 (i:Int))=some x from by simp[ah,Y1,hx],o9,fF (by
       have:Gf.length<=100:=by decide+kernel
       omega)]
     cases seq x s<;>rfl
    .rw[X5 (by simp[x8])];rfl
   .rw[if_neg (λh=>hw (ha.1 h))];simp only[wU]at hw;rw[hw];rfl
  .have hi:=(aV.1 hx).1;simp only[bT (show(i:Int)<x8 s by simp[x8];omega),o7,vX,hx,eX,o9,b5p];rw[fF o5];cases uz x<;>rfl
  .rw[X5 (by simp[x8])];rfl
theorem wo(t:Int×Int)(en:List aP):bu t en=Y7 t en:=by
 unfold bu Y7;by_cases h1:t.1=1
 .simp[x9,h1,P7]
 by_cases h2:t.1=2
 .simp[x9,h2,P7]
 by_cases h3:t.1=3
 .simp[x9,h3,P7]
 by_cases h4:t.1=4
 .simp[x9,h4,P7]
 by_cases h5:t.1=5
 .simp[x9,h5,P7]
 by_cases h6:t.1=6
 .simp[x9,h6,P7]
 .simp only[x9,h1,h2,h3,h4,h5,h6,decide_false,o6,o9];by_cases h7:1<=t.1
  .rw[ou (Z9 h7),pg (dO o5)]
  .rw[pg (dO o5)]
theorem NP(t:Int×Int)(en:List aP):iW t en=cO t en:=by unfold iW cO;rw[wo]
def vty(t:Int×Int)(en:List aP):Bool:=l7 (x9 t.1 6) (l7 (P7 0 t.2) (H5 t.2 (x8 en)) false) (l7 (P7 1 t.1) (l7 (P7 t.1 5) (x9 t.2 0) false) false)
theorem oH(t:Int×Int)(en:List aP):Y7 t en=some (vty t en):=by unfold Y7 vty;cases x9 t.1 6<;>cases P7 0 t.2<;>cases P7 1 t.1<;>cases P7 t.1 5<;>rfl
theorem qP(t:Int×Int)(en:List aP):bu t en=some (vty t en):=(wo t en).trans (oH t en)
theorem R_(t:Int×Int)(en:List aP):∃b:Int×Int,cO t en=some b:=by
 unfold cO;rw[oH,o9];cases hv:vty t en
 .exact⟨_,rfl⟩
 simp only[G8,o6];cases h1:x9 t.1 1<;>simp only[o7,o6]
 .cases h2:x9 t.1 2<;>simp only[o7,o6]
  .cases h3:x9 t.1 3<;>simp only[o7,o6]
   .cases h4:x9 t.1 4<;>simp only[o7,o6]
    .cases h5:x9 t.1 5<;>simp only[o7,o6]
     .have h6:x9 t.1 6=true/\P7 0 t.2=true/\H5 t.2 (x8 en)=true:=by
       unfold vty at hv;rw[qh]at h1 h2 h3 h4 h5;cases h6:x9 t.1 6<;>rw[h6]at hv
       .rw[qh]at h6;cases h7:P7 1 t.1<;>rw[h7]at hv
        .cases hv
        cases h8:P7 t.1 5<;>rw[h8]at hv
        .cases hv
        rw[uF]at h7 h8;omega
       .cases h7:P7 0 t.2<;>rw[h7]at hv
        .cases hv
        .exact⟨rfl,rfl,hv⟩
      obtain⟨x,hx,_⟩:=ui (uF.1 h6.2.1) (Em.1 h6.2.2);rw[hx];exact⟨_,rfl⟩
     .exact⟨_,rfl⟩
    .exact⟨_,rfl⟩
   .exact⟨_,rfl⟩
  .exact⟨_,rfl⟩
 .exact⟨_,rfl⟩
def bnd(t:Int×Int)(en:List aP):Int×Int:=(cO t en).getD (0,0)
theorem JP(t:Int×Int)(en:List aP):cO t en=some (bnd t en):=by obtain⟨b,h⟩:=R_ t en;unfold bnd;rw[h];rfl
theorem BX(t:Int×Int)(en:List aP):iW t en=some (bnd t en):=(NP t en).trans (JP t en)
def inB(n:Int)(b:Int×Int):Bool:=l7 (P7 b.1 n) (P7 n b.2) false
def Ot(r:Int×Int):Bool:=l7 (P7 0 r.1) (l7 (P7 r.1 r.2) (P7 r.2 109573) false) false
theorem SG(r:Int×Int):sJ r=some (Ot r):=by unfold sJ Ot;cases P7 0 r.1<;>cases P7 r.1 r.2<;>rfl
def a5H(a b:Int×Int):(Int×Int)×Bool:=l7 (Ot a) (l7 (Ot b) (l7 (P7 (BJ a.2 b.2) (vP a.1 b.1)) ((0,0),false) ((vP a.1 b.1,BJ a.2 b.2),true)) ((0,0),false)) ((0,0),false)
theorem b4X(a b:Int×Int):uC a b=some (a5H a b):=by
 unfold uC wZ a5H;rw[SG,o9,SG,o9];cases Ot a
 .rfl
 simp only[o7];cases h1:H5 a.1 a.2
 .rw[nM]at h1;rw[Z9 (show BJ a.2 b.2<=vP a.1 b.1 by unfold BJ vP;omega)];cases Ot b<;>rfl
 simp only[o9,G8,o6];cases Ot b
 .rfl
 simp only[o7];cases h2:H5 b.1 b.2
 .rw[nM]at h2;rw[Z9 (show BJ a.2 b.2<=vP a.1 b.1 by unfold BJ vP;omega)];rfl
 .cases P7 (BJ a.2 b.2) (vP a.1 b.1)<;>rfl
def EU(a b:Gn):Bool:=l7 (a5H a.1 b.1).2 (H5 (vP a.2.1 b.2.1) (BJ a.2.2.1 b.2.2.1)) false
theorem a0X(a b:Gn):BC a b=some (EU a b):=by unfold BC EU;rw[b4X,o9];cases (a5H a.1 b.1).2<;>rfl
theorem a8S{l:List Gn}(r:Gn)(h:l.length<=1000000):∃k:Int,uH l r=some (k,l.any λy=>EU y r):=by
 unfold uH;have key:=FH (f:=λ(x:Int)=>l7 (H5 x (x8 l)) (l9 (J9 l x) λx_1=>l9 (vg x_1 r) λx_2=>l7 x_2 (some (Out.rt (x,true))) (some (Out.nx (E9 IntKind.i64 x 1)))) (some (Out.ex PUnit.unit)))
   (s:=0) (λx=>∃i:Nat,x=i/\i<=l.length/\(l.take i).any (λy=>EU y r)=false) (λ_=>(l.any λy=>EU y r)=false) (λk=>k.2=true/\(l.any λy=>EU y r)=true) (λx=>l.length -x.toNat) ⟨0,rfl,o5,rfl⟩ F9 ?_
 .rcases key with⟨e,h1,h2⟩|⟨k,h1,h2,h3⟩
  .exact⟨0,by rw[h1,h2];rfl⟩
  .refine⟨k.1,?_⟩;rw[h1,h3,←h2];rfl
 .rintro x ⟨i,rfl,hi,hall⟩;by_cases hl:i<l.length
  .have e:=qi hl;have hst:(l.take (i+1)).any (λy=>EU y r)=((l.take i).any (λy=>EU y r) || EU l[i] r):=by rw[aB hl,Dq];simp
   have hv:vg l[i] r=some (EU l[i] r):=by unfold vg;rw[a0X];rfl
   simp only[bT (show(i:Int)<x8 l by simp[x8];omega),o7,U8,e,o9,hv];cases hc:EU l[i] r with
   |true=>exact .inr (.inr ⟨_,rfl,rfl,wW.2 ⟨l[i],ay hl,hc⟩⟩)|false=>exact .inl ⟨((i+1:Nat):Int),by rw[fF o5];rfl,⟨i+1,rfl,hl,by rw[hst,hall,hc];rfl⟩,by simp;omega⟩
  .have:i=l.length:=o5;subst this;rw[dW]at hall;exact .inr (.inl ⟨_,by rw[X5 (by simp[x8])];rfl,hall⟩)
def Qn(x:Gn)(bl br:Int×Int):Bool:=
 l7 (Ot x.1) (l7 (x9 x.1.1 x.1.2) true (l7 (P7 x.2.2.1 x.2.1) true (l7 (inB x.2.1 bl) (l7 (inB (N7 .i64 x.2.2.1 1) bl) (G6 (inB x.2.2.2 br)) true) true))) true
def Xt(t:dm)(en:List aP)(i:Nat):Option (Int×Int):=match t.2.2.2[i]? with
 |some x=>l7 (Qn x (bnd t.2.1 en) (bnd t.2.2.1 en)) (some ((i:Int),3)) (l7 ((t.2.2.2.take i).any λy=>EU y x) (some ((i:Int),11)) none)|none=>none
def Qj(t:dm)(en:List aP):Int×Int:=
 l7 (H5 64 (x8 t.2.2.2)) (64,4) (l7 (vty t.2.1 en) (l7 (vty t.2.2.1 en) (match(List.range t.2.2.2.length).findSome? (Xt t en)with|some r=>r|none=>(0,0)) (-1,8)) (-1,8))
theorem GY(a b:Int):H5 a b= !P7 b a:=by simp only[H5,P7];rw[←decide_not];congr 1;simp
variable {α:Type}
theorem Ak{l:List α}(h:i<=l.length):gm l 0 (i:Int)=some (l.take i):=by rw[Bg o5 o5];simp
theorem b2P(t:dm)(en:List aP):BB t en=some (Qj t en):=by
 unfold BB Qj;rw[qP,o9,qP,o9];cases h64:H5 64 (x8 t.2.2.2)
 case true=>rfl
 simp only[o6];cases vty t.2.1 en
 .rfl
 cases vty t.2.2.1 en
 .rfl
 simp only[G8,o6,o9,X8,o7,BX];have hlen:t.2.2.2.length<=64:=by rw[nM]at h64;simp only[x8]at h64;omega
 refine V5 (MC (p:=Xt t en) t.2.2.2.length o5 PUnit.unit (λi hi=>?_) ?_) ?_
 rotate_left 2
 .cases (List.range t.2.2.2.length).findSome? (Xt t en)<;>rfl
 .have e:=qi hi;simp only[bT (show(i:Int)<x8 t.2.2.2 by simp only[x8];omega),o7,U8,e,o9,Xt,SG,Ak (show i<=t.2.2.2.length by omega)];obtain⟨k,hk⟩:=a8S (l:=t.2.2.2.take i) t.2.2.2[i] F9;rw[hk,fF o5];unfold Qn inB;simp only[GY];generalize bnd t.2.1 en=bl;generalize bnd t.2.2.1 en=br;cases Ot t.2.2.2[i].1
  .rfl
  cases x9 t.2.2.2[i].1.1 t.2.2.2[i].1.2
  case true=>rfl
  cases P7 t.2.2.2[i].2.2.1 t.2.2.2[i].2.1
  case true=>rfl
  cases P7 bl.1 t.2.2.2[i].2.1
  .rfl
  cases P7 t.2.2.2[i].2.1 bl.2
  .rfl
  cases P7 bl.1 (N7 IntKind.i64 t.2.2.2[i].2.2.1 1)
  .rfl
  cases P7 (N7 IntKind.i64 t.2.2.2[i].2.2.1 1) bl.2
  .rfl
  cases P7 br.1 t.2.2.2[i].2.2.2
  .rfl
  cases P7 t.2.2.2[i].2.2.2 br.2
  .rfl
  cases (t.2.2.2.take i).any λy=>EU y t.2.2.2[i]<;>rfl
 .rw[X5 (by simp[x8])];rfl
section
variable {α ε ρ:Type}
theorem Vd(l:List α)(p:α->Bool)(r:ρ)(e:ε){f:Int->Option (Out Int ε ρ)}(hl:l.length<=1000000)
  (hin:∀(i:Nat) (a:α),l[i]? =some a->f (i:Int)=some (bif p a then .rt r else .nx (E9 .i64 (i:Int) 1))) (hend:f (l.length:Int)=some (.ex e)):
  O6 f 0=some (bif l.any p then .inr r else .inl e):=by
 rw[Ja l (λi a=> !p a) r e f o5 (λi a ha=>?_) hend]
 .have hb:(∀(j:Nat) (a:α),l[j]? =some a->(!p a)=true)↔l.any p=false:=by
   rw[eG];constructor
   .intro h x hx;obtain⟨j,hj,rfl⟩:=eU hx;have:=h j _ (qi hj);simpa using this
   .intro h j a hj;have:=h a (zg hj);simpa using this
  by_cases hv:l.any p=false
  .rw[if_pos (hb.2 hv),hv];rfl
  .rw[if_neg (λh=>hv (hb.1 h))];simp only[AV]at hv;rw[hv];rfl
 .have hi:=(aV.1 ha).1;rw[hin i a ha,fF o5];cases p a<;>rfl
theorem Ci(l:List α)(p:α->Bool){f:Int->Option (Out Int PUnit Int)}(hl:l.length<=1000000)
  (hin:∀(i:Nat) (a:α),l[i]? =some a->f (i:Int)=some (bif p a then .rt (i:Int)else .nx (E9 .i64 (i:Int) 1))) (hend:f (l.length:Int)=some (.ex PUnit.unit)):
  l9 (l9 (O6 f 0) λo=>U1 o (λ_=>some (-1)) λr=>some r) (λx=>some (P7 0 x))=some (l.any p):=by
 have key:=FH (f:=f) (s:=0) (λx=>∃i:Nat,x=i/\i<=l.length/\(l.take i).any p=false) (λ_=>l.any p=false) (λk=>0<=k/\l.any p=true) (λx=>l.length -x.toNat) ⟨0,rfl,o5,rfl⟩ F9 ?_
 .rcases key with⟨e,h1,h2⟩|⟨k,h1,h2,h3⟩
  .rw[h1,h2];rfl
  .rw[h1,h3,o9,oU,o9,Z9 h2]
 .rintro x ⟨i,rfl,hi,hall⟩;by_cases h:i<l.length
  .have e:=qi h;have hst:(l.take (i+1)).any p=((l.take i).any p || p l[i]):=by rw[aB h,Dq];simp
   rw[hin i _ e];cases hc:p l[i]with
   |true=>exact .inr (.inr ⟨_,rfl,o5,wW.2 ⟨l[i],ay h,hc⟩⟩)|false=>exact .inl ⟨((i+1:Nat):Int),by rw[fF o5];rfl,⟨i+1,rfl,h,by rw[hst,hall,hc];rfl⟩,by simp;omega⟩
  .have:i=l.length:=o5;subst this;rw[dW]at hall;exact .inr (.inl ⟨_,hend,hall⟩)
theorem X9{l:List α}{a:α}(h:l[i]? =some a):H5 (i:Int) (x8 l)=true:=bT (by have:=(aV.1 h).1;simp only[x8];omega)
theorem af(l:List α):H5 (l.length:Int) (x8 l)=false:=X5 (by simp[x8])
end
theorem PN{l:List aP}(n:d2g)(h:l.length<=1000000):Aj l n=some (l.any λx=>seq x.1 n):=by unfold Aj kz lC;rw[uS];refine Ci l (λx=>seq x.1 n) h (λi a ha=>?_) (by rw[af];rfl);rw[X9 ha,o7,U8,ha,o9];unfold Ip;rw[o9];cases seq a.1 n<;>rfl
theorem Uf{l:List dm}(n:d2g)(h:l.length<=1000000):Ba l n=some (l.any λx=>seq x.1 n):=by unfold Ba jv kH;rw[uS];refine Ci l (λx=>seq x.1 n) h (λi a ha=>?_) (by rw[af];rfl);rw[X9 ha,o7,U8,ha,o9];unfold Fp;rw[o9];cases seq a.1 n<;>rfl
theorem a1k{l:List V6}(s:V6)(h:l.length<=1000000):gq l s=some (l.any λx=>seq x.1 s.1):=by unfold gq kG;refine Ci l (λx=>seq x.1 s.1) h (λi a ha=>?_) (by rw[af];rfl);rw[X9 ha,o7,U8,ha,o9];unfold Cm;rw[o9];cases seq a.1 s.1<;>rfl
theorem a3O{l:List iZ}(s:iZ)(h:l.length<=1000000):ig l s=some (l.any λx=>seq x.1 s.1):=by unfold ig lG;refine Ci l (λx=>seq x.1 s.1) h (λi a ha=>?_) (by rw[af];rfl);rw[X9 ha,o7,U8,ha,o9];unfold DT;rw[o9];cases seq a.1 s.1<;>rfl
theorem Ue{l:List kD}(s:kD)(h:l.length<=1000000):dC l s=some (l.any λx=>seq x.1 s.1):=by unfold dC kF;refine Ci l (λx=>seq x.1 s.1) h (λi a ha=>?_) (by rw[af];rfl);rw[X9 ha,o7,U8,ha,o9];unfold Cj;rw[o9];cases seq a.1 s.1<;>rfl
theorem a7n{l:List d2g}(s:d2g)(h:l.length<=1000000):kN l s=some (l.any λx=>seq s x):=by unfold kN dN;refine Ci l (λx=>seq s x) h (λi a ha=>?_) (by rw[af];rfl);rw[X9 ha,o7,U8,ha,o9];cases seq s a<;>rfl
theorem a7m{l:d2h}(s:Int)(h:l.length<=1000000):pO l s=some (l.any λx=>x9 s x):=by unfold pO xZ;refine Ci l (λx=>x9 s x) h (λi a ha=>?_) (by rw[af];rfl);rw[X9 ha,o7,U8,ha,o9];cases x9 s a<;>rfl
theorem a5S(i k:Nat):H5 (i:Int) (k:Int)=decide (i<k):=by unfold H5;by_cases h:i<k<;>simp[h]<;>omega
def Jl(l:V4)(kind:Nat)(k:Nat)(n:d2g):Bool:=
 match kind with
 |1=>(l.1.take k).any λx=>seq x.1 n|2=>(l.1.any λx=>seq x.1 n) || ((l.2.1.take k).any λx=>seq x.1 n)|_=>(l.1.any λx=>seq x.1 n) || (l.2.1.any λx=>seq x.1 n) || ((l.2.2.take k).any λx=>seq x.1 n)
def Few(l:V4):Prop:=l.1.length<=100000/\l.2.1.length<=100000/\l.2.2.length<=100000
def a1x(ms:List d2g)(i:Nat):Option (Int×Int):=match ms[i]? with
 |some m=>l7 (gz m) (l7 ((ms.take i).any λx=>seq m x) (some (7,((100+i:Nat):Int))) none) (some (2,((100+i:Nat):Int)))|none=>none
def a0Z(l:V4)(i:Nat)(e:aP):Int×Int:=
 l7 (gz e.1) (l7 (Jl l 1 i e.1) (7,0) (l7 (x9 (x8 e.2) 0) (5,0) (l7 (H5 16 (x8 e.2)) (4,116) (match(List.range e.2.length).findSome? (a1x e.2)with|some r=>r|none=>(0,0))))) (2,0)
theorem b3E(h:i<=1000000):E9 .i64 100 (i:Int)=((100+i:Nat):Int):=by rw[dP bn];omega
variable {l:V4}
theorem ZR(h:Few l)(hi:i<=l.1.length)(e:aP)(h1:e.1.length<=1000000)(h2:∀m∈e.2,m.length<=1000000):
  Dc l (i:Int) e=some (a0Z l i e):=by
 unfold Dc a0Z Jl;rw[pY h1,o9,Ak hi,o9,PN _ (by have:=h.1;simp;omega),o9];cases gz e.1
 .rfl
 simp only[G8,o6,o7];cases (l.1.take i).any λx=>seq x.1 e.1
 case true=>rfl
 cases x9 (x8 e.2) 0
 case true=>rfl
 cases h16:H5 16 (x8 e.2)
 case true=>rfl
 simp only[o6];have hlen:e.2.length<=16:=by rw[nM]at h16;simp only[x8]at h16;omega
 refine V5 (MC (p:=a1x e.2) e.2.length o5 PUnit.unit (λj hj=>?_) ?_) ?_
 rotate_left 2
 .cases (List.range e.2.length).findSome? (a1x e.2)<;>rfl
 .have e' :=qi hj;rw[X9 e',o7,U8,e',o9,pY (h2 _ (ay hj)),o9,Ak o5,o9,a7n _ F9,o9,b3E o5,fF o5];simp only[a1x,e'];cases gz e.2[j]
  .rfl
  cases (e.2.take j).any λx=>seq e.2[j] x<;>rfl
 .rw[af];rfl
variable {β:Type}
theorem a8U{p:Nat->Option β}{n j:Nat}{c:β}(h0:(List.range j).findSome? p=none)(h1:p j=some c)(hj:j<n):(List.range n).findSome? p=some c:=by
 induction n with
 |zero=>omega|succ n ih=>
  rw[jK,xH];by_cases h:j<n
  .rw[ih h];rfl
  .have:j=n:=o5;subst this;rw[h0];simp[h1]
theorem b3B{p:Nat->Option β}{j:Nat}(h0:(List.range j).findSome? p=none)(h1:p j=none):(List.range (j+1)).findSome? p=none:=by rw[jK,xH,h0];simp[h1]
variable {ρ:Type}
def fK(n:Nat)(p:Nat->Option ρ):Option ρ:=(List.range n).findSome? p
theorem LU{σ ε ρ:Type}{p:Nat->Option ρ}(n:Nat)(hn:n<=1000000)(a:σ)(e:ε){f:σ×Int->Option (Out (σ×Int) ε ρ)}
  (h1:∀i,i<n->f (a,(i:Int))=some (match p i with|some r=> .rt r|none=> .nx (a,E9 .i64 (i:Int) 1))) (h2:f (a,(n:Int))=some (.ex e)):
  O6 f (a,0)=some (match fK n p with|some r=> .inr r|none=> .inl e):=by
 have key:=FH (f:=f) (s:=(a,0)) (λx=>∃i:Nat,x=(a,(i:Int))/\i<=n/\fK i p=none) (λx=>x=e/\fK n p=none) (λr=>fK n p=some r) (λx=>n -x.2.toNat) ⟨0,rfl,o5,rfl⟩ F9 ?_
 .rcases key with⟨x,k1,rfl,k2⟩|⟨r,k1,k2⟩
  .rw[k1,k2]
  .rw[k1,k2]
 .rintro x ⟨i,rfl,hi,hnone⟩;by_cases h:i<n
  .rw[h1 i h];cases hp:p i with
   |some r=>exact .inr (.inr ⟨_,rfl,a8U hnone hp h⟩)|none=>exact .inl ⟨(a,((i+1:Nat):Int)),by rw[fF o5],⟨i+1,rfl,h,b3B hnone hp⟩,by simp;omega⟩
  .have:i=n:=o5;subst this;exact .inr (.inl ⟨_,h2,rfl,hnone⟩)
def PI(kind i:Int)(r:Int×Int):Option (Int×Int×Int×Int):=l7 (x9 r.1 0) none (some (r.1,kind,i,r.2))
def Wn(l:V4)(i:Nat):Option (Int×Int×Int×Int):=match l.1[i]? with|some e=>PI 1 i (a0Z l i e)|none=>none
def DR(l:V4):Int×Int×Int×Int:=l7 (H5 8 (x8 l.1)) (4,1,8,0) (match fK l.1.length (Wn l)with|some r=>r|none=>(0,0,0,0))
def ZH(l:V4):Prop:=∀e∈l.1,e.1.length<=1000000/\∀m∈e.2,m.length<=1000000
theorem XZ(h:Few l)(hE:ZH l):AY l=some (DR l):=by
 unfold AY DR;cases H5 8 (x8 l.1)
 case true=>rfl
 simp only[o6];refine V5 (LU (p:=Wn l) l.1.length (by have:=h.1;omega) _ (0,0,0,0) (λi hi=>?_) ?_) ?_
 rotate_left 2
 .cases fK l.1.length (Wn l)<;>rfl
 .have e:=qi hi;have hm:=hE _ (ay hi);simp only[X9 e,o7,U8,e,o9,ZR h (show i<=l.1.length by omega) _ hm.1 hm.2,Wn,PI];cases x9 (a0Z l i l.1[i]).1 0<;>rfl
 .rw[af];rfl
variable {n:Nat}{p:Nat->Option ρ}
theorem oC{r:ρ}(h:fK n p=some r):∃i,i<n/\p i=some r:=by unfold fK at h;obtain⟨i,hi,hp⟩:=List.exists_of_findSome?_eq_some h;exact⟨i,fV.1 hi,hp⟩
theorem yB(h:fK n p=none):∀i,i<n->p i=none:=by unfold fK at h;intro i hi;exact uy.1 h i (fV.2 hi)
theorem b2O(t:dm)(en:List aP):(Qj t en).1=-1\/0<=(Qj t en).1:=by
 unfold Qj;cases H5 64 (x8 t.2.2.2)
 case true=>right;simp only[o7];decide
 cases vty t.2.1 en
 .left;rfl
 cases vty t.2.2.1 en
 .left;rfl
 right;simp only[o7,o6];cases hf:(List.range t.2.2.2.length).findSome? (Xt t en)with
 |none=>exact yF _|some r=>
  obtain⟨i,hi,hp⟩:=oC (p:=Xt t en) hf;unfold Xt at hp;split at hp
  .rename_i x hx;cases hw:Qn x (bnd t.2.1 en) (bnd t.2.2.1 en)<;>rw[hw]at hp
   .cases ha:(t.2.2.2.take i).any λy=>EU y x<;>rw[ha]at hp
    .cases hp
    .cases hp;show(0:Int)<=(i:Int);omega
   .cases hp;show(0:Int)<=(i:Int);omega
  .cases hp
def a0u(l:V4)(i:Nat)(t:dm):Int×Int:=
 l7 (gz t.1) (l7 (Jl l 2 i t.1) (7,0) (l7 (x9 (Qj t l.1).2 0) (0,0) ((Qj t l.1).2,l7 (P7 0 (Qj t l.1).1) (E9 .i64 100 (Qj t l.1).1) 0))) (2,0)
def Kw(l:V4)(i:Nat):Option (Int×Int×Int×Int):=match l.2.1[i]? with|some t=>PI 2 i (a0u l i t)|none=>none
def zM(l:V4):Int×Int×Int×Int:=l7 (H5 8 (x8 l.2.1)) (4,2,8,0) (match fK l.2.1.length (Kw l)with|some r=>r|none=>(0,0,0,0))
def VC(l:V4):Prop:=∀t∈l.2.1,t.1.length<=1000000
theorem VS(h:Few l)(hT:VC l):zC l=some (zM l):=by
 unfold zC zM;cases H5 8 (x8 l.2.1)
 case true=>rfl
 simp only[o6];refine V5 (LU (p:=Kw l) l.2.1.length (by have:=h.2.1;omega) _ (0,0,0,0) (λi hi=>?_) ?_) ?_
 rotate_left 2
 .cases fK l.2.1.length (Kw l)<;>rfl
 .have e:=qi hi;have hm:=hT _ (ay hi);simp only[X9 e,o7,U8,e,o9,b2P,pY hm,PN _ (show l.1.length<=1000000 by have:=h.1;omega),Ak (show i<=l.2.1.length by omega),
   Uf _ (show(l.2.1.take i).length<=1000000 by have:=h.2.1;simp;omega),Kw,a0u,Jl]
  cases gz l.2.1[i].1
  .rfl
  cases l.1.any λx=>seq x.1 l.2.1[i].1
  case true=>rfl
  cases (l.2.1.take i).any λx=>seq x.1 l.2.1[i].1
  case true=>rfl
  simp only[G8,o6,o7,o9,Bool.or_false];cases hz:x9 (Qj l.2.1[i] l.1).2 0
  case true=>rfl
  simp only[V7,o7,o6,PI,hz];rcases b2O l.2.1[i] l.1 with hr|hr
  .rw[O9 hr,dO (show(Qj l.2.1[i] l.1).1<0 by omega)];simp only[G8,o6,o9,hz,V7,o7]
  .rw[O5 (show(Qj l.2.1[i] l.1).1≠-1 by omega),Z9 hr];simp only[V7,o7,o9,hz]
 .rw[af];rfl
variable {ε:Type}
theorem a3L(l:List α)(g:α->β)(hl:l.length<=1000000){f:List β×Int->Option ((List β×Int)⊕ε)}{F:List β->ε}
  (hin:∀(i:Nat) (a:α) (acc:List β),l[i]? =some a->acc.length=i->f (acc,(i:Int))=some (.inl (acc++[g a],E9 .i64 (i:Int) 1))) (hend:∀acc,f (acc,(l.length:Int))=some (.inr (F acc))):
  bC f ([],0)=some (F (l.map g)):=by
 obtain⟨e,h1,h2⟩:=ul (f:=f) (s:=([],0)) (λx=>∃i:Nat,x=((l.take i).map g,(i:Int))/\i<=l.length) (λe=>e=F (l.map g)) (λx=>l.length -x.2.toNat) ⟨0,rfl,o5⟩ F9 (by
  rintro x ⟨i,rfl,hi⟩;by_cases h:i<l.length
  .have e:=qi h;refine .inl ⟨((l.take (i+1)).map g,((i+1:Nat):Int)),?_,⟨i+1,rfl,h⟩,by simp;omega⟩;rw[hin i _ _ e F9,fF o5,aB h,gK];rfl
  .have:i=l.length:=o5;subst this;refine .inr ⟨_,hend _,?_⟩;rw[dW])
 rw[h1,h2]
theorem Ik{l:List kD}(h:l.length<=1000000):uQ l=some (l.map (·.2)):=by
 unfold uQ;rw[uS];refine a3L (F:=id) l (λx=>x.2) h (λi a acc ha hacc=>?_) (λacc=>?_)
 .have hi:=(aV.1 ha).1;simp only[X9 ha,o7,U8,ha,o9];rw[Vk (by simp[hacc];omega)];rfl
 .simp only[af];rfl
def a0M(l:V4):Prop:=∀s∈l.2.2,s.1.length<=1000000/\s.2.2.1.length<=100000/\s.2.2.2.1.length<=100000/\s.2.2.2.2.length<=100000
def a8f(l:V4)(s:V6):List aP×List dm×List (Int×Int)×List (Int×Int)×List (Int×Int)×Bool:=
 match(if 0<=s.2.1 then l.2.2[s.2.1.toNat]? else none)with
 |some k=>(l.1,l.2.1,s.2.2.1.map (·.2),s.2.2.2.1.map (·.2),k.2.2.2.1.map (·.2),true)|none=>(l.1,l.2.1,s.2.2.1.map (·.2),s.2.2.2.1.map (·.2),[],false)
theorem Qb(h:a0M l){s:V6}(hs:l.2.2[i]? =some s):uG l (i:Int)=some (a8f l s):=by
 have hm:=h s (zg hs);unfold uG a8f;rw[U8,hs,o9,Ik o5,o9,Ik o5,o9];by_cases h0:0<=s.2.1
 .rw[Z9 h0,if_pos h0,o7];by_cases h1:s.2.1<x8 l.2.2
  .obtain⟨k,hk,hkm⟩:=ui h0 h1;have hk' :l.2.2[s.2.1.toNat]? =some k:=(qX hk).2.2.2;rw[bT h1,o7,hk,o9,Ik (by have:=h k hkm;omega),o9,hk']
  .have h1' :x8 l.2.2<=s.2.1:=wC.1 h1;rw[X5 h1',o6,fG (by simp only[x8]at h1';exact Int.le_toNat h0 |>.2 h1')]
 .have h0' :s.2.1<(0:Int):=wz.1 h0;rw[dO h0',if_neg h0];rfl
abbrev SI(l:d2h):Prop:=l.Pairwise (·< ·)
theorem a4H:∀{a b:d2h},SI a->SI b->(∀x,x∈a↔x∈b)->a=b
 |[],[],_,_,_=>rfl|[],y::b,_,_,h=>absurd ((h y).2 A7) A7|x::a,[],_,_,h=>absurd ((h x).1 A7) A7|x::a,y::b,ha,hb,h=>by
  have ha' :=X6.1 ha;have hb' :=X6.1 hb;have hxy:x=y:=by
   rcases D6.1 ((h x).1 A7)with h1|h1
   .exact h1
   .rcases D6.1 ((h y).2 A7)with h2|h2
    .exact h2.symm
    .have:=hb'.1 _ h1;have:=ha'.1 _ h2;omega
  subst hxy;congr 1;refine a4H ha'.2 hb'.2 λz=>⟨λhz=>?_,λhz=>?_⟩
  .rcases D6.1 ((h z).1 (by simp[hz]))with h1|h1
   .have:=ha'.1 _ hz;omega
   .exact h1
  .rcases D6.1 ((h z).2 (by simp[hz]))with h1|h1
   .have:=hb'.1 _ hz;omega
   .exact h1
def ins(n:Int):d2h->d2h
 |[]=>[n]|a::l=>if n<=a then(if n<a then n::a::l else a::l)else a::ins n l
theorem C_(n x:Int):∀l,x∈ins n l↔x=n\/x∈l
 |[]=>by simp[ins]|a::l=>by
  unfold ins;by_cases h:n<=a
  .rw[if_pos h];by_cases h2:n<a
   .rw[if_pos h2];simp
   .rw[if_neg h2];have:n=a:=o5;subst this;simp
  .rw[if_neg h,D6,C_ n x l,D6];constructor
   .rintro(h|h|h)<;>simp[h]
   .rintro(h|h|h)<;>simp[h]
theorem b1v(n:Int):∀{l},SI l->SI (ins n l)
 |[],_=>List.pairwise_singleton _ _|a::l,h=>by
  have h' :=X6.1 h;unfold ins;by_cases h1:n<=a
  .rw[if_pos h1];by_cases h2:n<a
   .rw[if_pos h2];refine X6.2 ⟨λx hx=>?_,h⟩;rcases D6.1 hx with rfl|hx
    .exact h2
    .have:=h'.1 x hx;omega
   .rw[if_neg h2];exact h
  .rw[if_neg h1];refine X6.2 ⟨λx hx=>?_,b1v n h'.2⟩;rcases(C_ n x l).1 hx with rfl|hx
   .omega
   .exact h'.1 x hx
def WM(ns:d2h)(l:d2h):d2h:=ns.foldl (λacc n=>ins n acc) l
theorem WU(x:Int):∀ns l,x∈WM ns l↔x∈ns\/x∈l
 |[],l=>by simp[WM]|n::ns,l=>by
  show x∈WM ns (ins n l)↔_;rw[WU x ns,C_,D6];constructor
  .rintro(h|h|h)<;>simp[h]
  .rintro((h|h)|h)<;>simp[h]
theorem a0d:∀ns {l},SI l->SI (WM ns l)
 |[],_,h=>h|n::ns,_,h=>a0d ns (b1v n h)
def Qh(l:d2h):d2h:=WM l []
theorem a1y(x:Int)(l:d2h):x∈Qh l↔x∈l:=by unfold Qh;rw[WU];simp
theorem a6D(l:d2h):SI (Qh l):=a0d l List.Pairwise.nil
theorem WO(n:Int):∀l,(ins n l).length<=l.length+1
 |[]=>by simp[ins]|a::l=>by
  unfold ins;by_cases h1:n<=a
  .rw[if_pos h1];by_cases h2:n<a
   .rw[if_pos h2];simp
   .rw[if_neg h2];simp
  .rw[if_neg h1];have:=WO n l;simp only[D5];omega
theorem Ui:∀ns l,(WM ns l).length<=l.length+ns.length
 |[],l=>by simp[WM]|n::ns,l=>by have h1:=Ui ns (ins n l);have h2:=WO n l;show(WM ns (ins n l)).length<=_;simp only[D5];omega
theorem a1r(l:d2h):(Qh l).length<=l.length:=by have:=Ui l [];unfold Qh;simpa using this
theorem a4I{l:d2h}(n:Nat)(h:SI l)(h2:∀x∈l,0<=x/\x<n):l.length<=n:=by
 have key:∀(l:d2h) (lo:Int),SI l->(∀x∈l,lo<=x/\x<n)->lo<=n->(l.length:Int)<=n -lo:=by
  intro l;induction l with
  |nil=>intro lo _ _ hlo;simp;omega|cons a l ih=>intro lo hs hb hlo;have h' :=X6.1 hs;have ha:=hb a A7;have:=ih (a+1) h'.2 (λx hx=>⟨by have:=h'.1 x hx;omega,(hb x (by simp[hx])).2⟩) o5;simp only[D5];omega
 have:=key l 0 h (λx hx=>h2 x hx) o5;omega
theorem VX(x:Int):∀(l:d2h) (p:Int),(p::l).Pairwise (·<=·)->SI (p::ddp p l)/\(x∈p::ddp p l↔x∈p::l)
 |[],p,_=>⟨List.pairwise_singleton _ _,Iff.rfl⟩|a::l,p,h=>by
  have h1:=X6.1 h;obtain⟨i1,i2⟩:=VX x l a h1.2;have h2:=X6.1 h1.2;have hpa:=h1.1 a A7;unfold ddp;cases hq:x9 a p
  .rw[qh]at hq;simp only[cond_false];refine⟨X6.2 ⟨λy hy=>?_,i1⟩,?_⟩
   .rcases D6.1 hy with rfl|hy
    .omega
    .have:=(X6.1 i1).1 y hy;omega
   .rw[D6,i2,D6 (a:=x) (b:=p)]
  .rw[Z8]at hq;subst hq;simp only[cond_true];refine⟨i1,?_⟩;rw[i2];simp
theorem a8I(l:d2h):dd (LY l)=Qh l:=by
 have hs:=JE l;have hp:=JD l;refine a4H ?_ (a6D l) λx=>?_
 .cases he:LY l with
  |nil=>exact List.Pairwise.nil|cons a r=>rw[he]at hs;exact(VX a r a hs).1
 .rw[a1y,←hp.mem_iff];cases he:LY l with
  |nil=>exact Iff.rfl|cons a r=>rw[he]at hs;exact(VX x r a hs).2
theorem a7t(l:d2h):(LY l).length=l.length:=(JD l).length_eq
theorem b5e{l:d2h}(h:l.length<=1000000):l9 (EP l) (λx=>sW x)=some (Qh l):=by unfold EP sW;rw[show Nat.blt l.length 4611686018427387904=true from by simp[Nat.blt];omega];simp only[cond_true,o9];rw[show Nat.blt (LY l).length 4611686018427387904=true from by rw[a7t];simp[Nat.blt];omega];rw[cond_true,a8I]
def hg(l:d2h)(i:Nat):Int:=l.getD i 0
theorem b3D{l:d2h}(h:i<l.length):l[i]? =some (hg l i):=by unfold hg;rw[QJ,qi h];rfl
theorem a2H{l:List α}{a:α}(h:(l.take n)[i]? =some a):i<n/\l[i]? =some a:=by
 rw[ae]at h;split at h
 .exact⟨by assumption,h⟩
 .cases h
def LQ(en:List aP)(f:kD)(a b:List kD):Int:=
 l7 (gz f.1) (l7 (a.any λx=>seq x.1 f.1) 7 (l7 (b.any λx=>seq x.1 f.1) 7 (l7 (vty f.2 en) 0 8))) 2
theorem OG{f:kD}{a b:List kD}(h:f.1.length<=1000000)(ha:a.length<=1000000)(hb:b.length<=1000000):xK l f a b=some (LQ l.1 f a b):=by
 unfold xK LQ;rw[pY h,o9,Ue _ ha,o9,Ue _ hb,o9,qP,o9];cases gz f.1
 .rfl
 cases a.any λx=>seq x.1 f.1
 case true=>rfl
 cases b.any λx=>seq x.1 f.1
 case true=>rfl
 cases vty f.2 l.1<;>rfl
def Wq(c e:Int):Option (Int×Int):=l7 (x9 c 0) none (some (c,e))
def inP(l:V4)(s:V6)(i:Nat):Option (Int×Int):=match s.2.2.1[i]? with|some f=>Wq (LQ l.1 f (s.2.2.1.take i) []) (100+i:Nat)|none=>none
def a7f(l:V4)(s:V6)(i:Nat):Option (Int×Int):=match s.2.2.2.1[i]? with|some f=>Wq (LQ l.1 f s.2.2.1 (s.2.2.2.1.take i)) (200+i:Nat)|none=>none
def a0I(s:V6):Prop:=(∀f∈s.2.2.1,f.1.length<=1000000)/\(∀f∈s.2.2.2.1,f.1.length<=1000000)
theorem a5O{c i:Nat}(hc:c<=1000)(h:i<=1000000):E9 .i64 (c:Int) (i:Int)=((c+i:Nat):Int):=by rw[dP bn];omega
def NS(l:V4)(s:V6):Option (Int×Int):=match fK s.2.2.1.length (inP l s)with|some r=>some r|none=>fK s.2.2.2.1.length (a7f l s)
def qp(op:Int):Int:=(jP op).getD 0
variable {op:Int}
theorem Xd(h:1<=op/\op<=39):∃k:Fin 40,op=(k.val:Int):=⟨⟨op.toNat,o5⟩,by simp;omega⟩
theorem c0H:∀k:Fin 40,1<=k.val->(jH (k.val:Int)=jP (k.val:Int))/\(jP (k.val:Int)=some 0\/jP (k.val:Int)=some 1\/jP (k.val:Int)=some 2\/jP (k.val:Int)=some 3):=by decide+kernel
theorem v_(h:¬(1<=op/\op<=39))(k:Int)(h1:1<=k)(h2:k<=39):x9 op k=false:=O5 o5
theorem Q_(h:¬(1<=op/\op<=39)):jP op=some (-1):=by
 unfold jP;by_cases h1:1<=op
 .rw[Z9 h1,o7,dO (show(9:Int)<op by omega),o6,dO (show(39:Int)<op by omega),dO (show(30:Int)<op by omega)];simp[v_ h];cases P7 35 op<;>cases P7 11 op<;>rfl
 .rw[dO (show op<1 by omega),o6,dO (show op<35 by omega),dO (show op<11 by omega)];simp[v_ h]
theorem b6k(h:¬(1<=op/\op<=39)):jH op=some (-1):=by unfold jH;simp[v_ h]
theorem IE(op:Int):jH op=some (qp op)/\jP op=some (qp op)/\(qp op=-1\/qp op=0\/qp op=1\/qp op=2\/qp op=3):=by
 unfold qp;by_cases h:1<=op/\op<=39
 .obtain⟨k,rfl⟩:=Xd h;obtain⟨h1,h2⟩:=c0H k o5;rcases h2 with h2|h2|h2|h2<;>rw[h1,h2]<;>simp
 .rw[b6k h,Q_ h];simp
theorem a8z(op:Int):jH op=some (qp op):=(IE op).1
theorem b0y(op:Int):jP op=some (qp op):=(IE op).2.1
inductive XT where
 |l0 (n:Int×Int)|l1 (n:Int×Int) (a:XT)|l2 (n:Int×Int) (a b:XT)|l3 (n:Int×Int) (a b c:XT)
def XT.size:XT->Nat
 | .l0 _=>1| .l1 _ a=>a.size+1| .l2 _ a b=>a.size+b.size+1| .l3 _ a b c=>a.size+b.size+c.size+1
def XT.post:XT->List (Int×Int)
 | .l0 n=>[n]| .l1 n a=>a.post++[n]| .l2 n a b=>a.post++b.post++[n]| .l3 n a b c=>a.post++b.post++c.post++[n]
def XT.sts(o:Nat):XT->d2h
 | .l0 _=>[(o:Int)]| .l1 _ a=>a.sts o++[(o:Int)]| .l2 _ a b=>a.sts o++b.sts (o+a.size)++[(o:Int)]| .l3 _ a b c=>a.sts o++b.sts (o+a.size)++c.sts (o+a.size+b.size)++[(o:Int)]
theorem XT.size_pos(t:XT):0<t.size:=by cases t<;>simp[XT.size]
theorem XT.post_len(t:XT):t.post.length=t.size:=by
 induction t with
 |l0 n=>rfl|l1 n a ha=>simp[XT.post,XT.size,ha]|l2 n a b ha hb=>simp[XT.post,XT.size,ha,hb];try omega
 |l3 n a b c ha hb hc=>simp[XT.post,XT.size,ha,hb,hc];try omega
theorem XT.sts_len(t:XT):∀o,(t.sts o).length=t.size:=by
 induction t with
 |l0 n=>intro o;rfl|l1 n a ha=>intro o;simp[XT.sts,XT.size,ha]|l2 n a b ha hb=>intro o;simp[XT.sts,XT.size,ha,hb];try omega
 |l3 n a b c ha hb hc=>intro o;simp[XT.sts,XT.size,ha,hb,hc];try omega
def jB:List XT->Nat
 |[]=>0|t::r=>jB r+t.size
def KQ:List XT->List (Int×Int)
 |[]=>[]|t::r=>KQ r++t.post
def stR:List XT->d2h
 |[]=>[]|t::r=>stR r++t.sts (jB r)
def oV:List XT->d2h
 |[]=>[]|t::r=>oV r++[(jB r:Int)]
theorem oP:∀ts,(oV ts).length=ts.length
 |[]=>rfl|t::r=>by simp[oV,oP r]
theorem ED:∀ts,(stR ts).length=jB ts
 |[]=>rfl|t::r=>by simp[stR,jB,ED r,XT.sts_len]
theorem Oc:∀ts,(KQ ts).length=jB ts
 |[]=>rfl|t::r=>by simp[KQ,jB,Oc r,XT.post_len]
def push(n:Int×Int)(ts:List XT):Int⊕List XT:=
 if qp n.1=0 then .inr (.l0 n::ts)
 else if qp n.1=1 then(match ts with|a::r=> .inr (.l1 n a::r)|_=> .inl 5)
 else if qp n.1=2 then(match ts with|b::a::r=> .inr (.l2 n a b::r)|_=> .inl 5)
 else if qp n.1=3 then(match ts with|c::b::a::r=> .inr (.l3 n a b c::r)|_=> .inl 5)
 else .inl 2
def wX:Nat->List (Int×Int)->List XT->(Int×Int)⊕List XT
 |_,[],ts=> .inr ts
 |i,n::es,ts=>match push n ts with
  | .inl c=> .inl ((i:Int),c)| .inr ts' =>if 12<ts'.length then .inl ((i:Int),16)else wX (i+1) es ts'
def kP(e:List (Int×Int)):(Int×Int)⊕XT:=
 if 48<e.length then .inl (0,4)else if e.length=0 then .inl (0,5)else
  match wX 0 e []with
  | .inl x=> .inl x| .inr [t]=> .inr t| .inr _=> .inl ((e.length:Int),4)
theorem Zf{n:Int×Int}{ts ts' :List XT}(h:push n ts= .inr ts'):KQ ts' =KQ ts++[n]/\ts' ≠[]:=by
 unfold push at h;split at h
 .cases h;exact⟨rfl,A7⟩
 split at h
 .split at h
  .cases h;exact⟨by simp[KQ,XT.post],A7⟩
  .cases h
 split at h
 .split at h
  .cases h;exact⟨by simp[KQ,XT.post],A7⟩
  .cases h
 split at h
 .split at h
  .cases h;exact⟨by simp[KQ,XT.post],A7⟩
  .cases h
 .cases h
theorem Oh{n:Int×Int}{ts ts' :List XT}(h:push n ts= .inr ts'):jB ts' =jB ts+1:=by rw[←Oc,←Oc,(Zf h).1];simp
theorem JM:∀(es:List (Int×Int)) (i:Nat) (ts ts' :List XT),wX i es ts= .inr ts' ->KQ ts' =KQ ts++es/\(ts≠[]\/es≠[]->ts' ≠[])
 |[],i,ts,ts',h=>by cases h;exact⟨A7,A7⟩|n::es,i,ts,ts',h=>by
  unfold wX at h;cases hp:push n ts with
  |inl c=>rw[hp]at h;cases h|inr t2=>
   rw[hp]at h;simp only at h;split at h
   .cases h
   .obtain⟨h1,h2⟩:=JM es (i+1) t2 ts' h;obtain⟨h3,h4⟩:=Zf hp;exact⟨by rw[h1,h3];simp,λ_=>h2 (.inl h4)⟩
theorem oQ{e:List (Int×Int)}{t:XT}(h:kP e= .inr t):e=t.post/\e.length<=48:=by
 unfold kP at h;split at h
 .cases h
 split at h
 .cases h
 split at h
 .cases h
 .rename_i t' hp;cases h;have:=(JM e 0 [] [t] hp).1;exact⟨by simpa[KQ]using this.symm,o5⟩
 .cases h
theorem UO{σ ε ρ:Type}(e:List (Int×Int))(he:e.length<=48)(g:List XT->σ)(fin:List XT->ε)(rt:Int×Int->ρ){f:σ->Option (Out σ ε ρ)}
  (hs:∀(i:Nat) (n:Int×Int) (ts:List XT),e[i]? =some n->i=jB ts->ts.length<=12->f (g ts)=some (match push n ts with
   | .inl c=> .rt (rt ((i:Int),c))
   | .inr ts' =>if 12<ts'.length then .rt (rt ((i:Int),16))else .nx (g ts')))
  (hend:∀ts,jB ts=e.length->f (g ts)=some (.ex (fin ts))):
  O6 f (g [])=some (match wX 0 e []with| .inl x=> .inr (rt x)| .inr ts=> .inl (fin ts)):=by
 have key:∀(es:List (Int×Int)) (i:Nat) (ts:List XT) (k:Nat),e.drop i=es->i=jB ts->ts.length<=12->i<=e.length->es.length<k->
   iy f k (g ts)=some (match wX i es ts with| .inl x=> .inr (rt x)| .inr ts=> .inl (fin ts)):=by
  intro es;induction es with
  |nil=>
   intro i ts k hd hi hl hle hk;obtain⟨k,rfl⟩:∃k',k=k' +1:=⟨k -1,o5⟩;have:i=e.length:=by have:=congrArg List.length hd;simp at this;omega
   unfold iy;rw[hend ts o5];rfl
  |cons n es ih=>
   intro i ts k hd hi hl hle hk;obtain⟨k,rfl⟩:∃k',k=k' +1:=⟨k -1,o5⟩;have hn:e[i]? =some n:=by
    have:(e.drop i)[0]? =some n:=by rw[hd];rfl
    simpa using this
   have hlt:=(aV.1 hn).1;unfold iy;rw[hs i n ts hn hi hl];unfold wX;cases hp:push n ts with
   |inl c=>rfl|inr ts' =>
    simp only;by_cases h12:12<ts'.length
    .rw[if_pos h12,if_pos h12]
    .rw[if_neg h12,if_neg h12];exact ih (i+1) ts' k (by rw[←Y9,hd];rfl) (by rw[Oh hp,hi]) o5 o5 (by simp at hk;omega)
 exact key e 0 [] aH rfl rfl A7 o5 (by unfold aH;omega)
theorem a1J:∀(p r:List XT),∃X,oV (p++r)=oV r++X/\X.length=p.length/\(p≠[]->X.head?=some (jB r:Int))
 |[],r=>⟨[],A7,rfl,λh=>absurd rfl h⟩|a::p,r=>by
  obtain⟨X,h1,h2,h3⟩:=a1J p r;refine⟨X++[(jB (p++r):Int)],?_,by simp[h2],λ_=>?_⟩
  .show oV (p++r)++[(jB (p++r):Int)]=_;rw[h1,E5]
  .cases p with
   |nil=>simp at h2;subst h2;rfl|cons b p=>rw[List.head?_append,h3 A7];rfl
theorem Tv(p r:List XT)(k:Int)(hk:k=(p.length:Int))(h:p.length+r.length<=100)(hp:p≠[]):
  N7 .i64 (x8 (oV (p++r))) k=(r.length:Int)/\J9 (oV (p++r)) (r.length:Int)=some (jB r:Int)/\ah (oV (p++r)) (Y1 (r.length:Int))=some (jB r:Int)
  /\lK 0 (r.length:Int) (x8 (oV (p++r)))=true/\jW (oV (p++r)) (Y1 0) (Y1 (r.length:Int))=oV r:=by
 obtain⟨X,h1,h2,h3⟩:=a1J p r;have hl:(oV (p++r)).length=r.length+p.length:=by rw[oP];simp;omega
 have hg:(oV (p++r))[r.length]? =some (jB r:Int):=by rw[h1,F8 (by rw[oP];omega),oP,aN,←List.head?_eq_getElem?];exact h3 hp
 refine⟨?_,?_,?_,?_,?_⟩
 .simp only[x8,hl];rw[di bn];omega
 .rw[U8];exact hg
 .exact hg
 .simp only[lK,x8,hl,decide_eq_true_eq];omega
 .show((oV (p++r)).take r.length).drop 0=_;rw[h1,bJ,aj (by rw[oP];omega),Y0 (by rw[oP];omega)]
theorem Ug(ts:List XT):H5 12 (x8 (oV ts))=decide (12<ts.length):=by rw[show x8 (oV ts)=((ts.length:Nat):Int) by simp[x8,oP]];exact a5S 12 ts.length
theorem qV{l:List α}(x:α)(h:l.length<=1000000):bF l [x]=some (l++[x]):=Vk F9
theorem IW(ts:List XT)(k:Nat):H5 (x8 (oV ts)) (k:Int)=decide (ts.length<k):=by rw[show x8 (oV ts)=((ts.length:Nat):Int) by simp[x8,oP]];exact a5S _ _
def vZ(e:List (Int×Int)):d2h×Int×Int:=match kP e with| .inl x=>([],x)| .inr t=>(t.sts 0,0,0)
theorem Zb{e:List (Int×Int)}(h0:e.length≠0){K:d2h×Int×Int->d2h×Int×Int}(h48:¬48<e.length)
  {r:d2h×Int×Int} (h:∀ts,wX 0 e []= .inr ts->r=l7 (H5 1 (x8 (oV ts))) ([],x8 e,4) (stR ts,0,0)) (hi:∀x,wX 0 e []= .inl x->r=([],x)):r=vZ e:=by
 unfold vZ kP;rw[if_neg h48,if_neg h0];cases hp:wX 0 e []with
 |inl x=>exact hi x hp|inr ts=>
  rw[h ts hp];have:=(JM e 0 [] ts hp).2 (.inr (by intro he;subst he;exact h0 rfl));match ts,this with
  |[t],_=>simp[oV,x8,H5,stR,jB]|a::b::ts,_=>rw[bT (by simp[x8,oP];omega)];rfl
theorem OX(e:List (Int×Int)):sU e=some (vZ e):=by
 unfold sU;by_cases h48:48<e.length
 .rw[bT (by simp[x8];omega),o7];unfold vZ kP;rw[if_pos h48]
 by_cases h0:e.length=0
 .rw[X5 (by simp[x8];omega),o6,O9 (by simp[x8,h0]),o7];unfold vZ kP;rw[if_neg h48,if_pos h0]
 rw[X5 (by simp[x8];omega),o6,O5 (by simp[x8];intro h;exact h0 (by simp[h])),o6];refine V5 (UO e o5 (λts=>(stR ts,oV ts,(jB ts:Int))) (λts=>(stR ts,oV ts)) (λx=>(([]:d2h),x)) (λi n ts hn hi hl=>?_) (λts hsz=>?_)) ?_
 rotate_left 2
 .rw[←Zb h0 h48 (K:=id) (r:=match wX 0 e []with| .inl x=>([],x)| .inr ts=>l7 (H5 1 (x8 (oV ts))) ([],x8 e,4) (stR ts,0,0)) (λts h=>by rw[h]) (λx h=>by rw[h])];cases wX 0 e []with
  |inl x=>rfl|inr ts=>simp only[o9,X8];cases H5 1 (x8 (oV ts))<;>rfl
 .subst hi;have hlt:=(aV.1 hn).1;have hst:=ED ts;have hof:=oP ts;simp only[X9 hn,o7,U8,hn,o9,b0y];rcases(IE n.1).2.2 with h|h|h|h|h
  .rw[show push n ts= .inl 2 by simp[push,h],h];rfl
  .rw[show push n ts= .inr (.l0 n::ts) by simp[push,h],h,X5 o5,o6,X5 (Uj _),o6,o6,qV _ o5,o9,qV _ o5,o9,fF o5];rw[show oV ts++[(jB ts:Int)]=oV (.l0 n::ts)from rfl,Ug];by_cases hc:12<(XT.l0 n::ts).length
   .simp only[hc,decide_true,if_true,o7]
   .simp only[hc,decide_false,if_false,o6];rfl
  .match ts with
   |[]=>rw[show push n []= .inl 5 by simp[push,h],h];rfl|a::r=>
    obtain⟨p1,p2,p3,p4,p5⟩:=Tv [a] r 1 rfl (by simp at hl ⊢;omega) A7;simp only[I7,G9]at p1 p2 p3 p4 p5;have:=ED (a::r);have:=oP r;simp only[D5]at hl;rw[show push n (a::r)= .inr (.l1 n a::r) by simp[push,h],h,X5 o5,o6,show(1:Int)=((1:Nat):Int)from rfl,IW,show decide ((a::r).length<1)=false by simp];simp only[Int.natCast_one]at p1 ⊢;rw[o6,bT o5,o7,p1,p2,o9,p3,o9,p4,o7,p5,qV _ o5,o9,qV _ o5,o9,fF o5];rw[show oV r++[(jB r:Int)]=oV (.l1 n a::r)from rfl,Ug];by_cases hc:12<(XT.l1 n a::r).length
    .simp only[hc,decide_true,if_true,o7]
    .simp only[hc,decide_false,if_false,o6,stR,XT.sts,E5,jB,XT.size,iU]
  .match ts with
   |[]=>rw[show push n []= .inl 5 by simp[push,h],h];rfl|[a]=>rw[show push n [a]= .inl 5 by simp[push,h],h];rfl|b::a::r=>
    obtain⟨p1,p2,p3,p4,p5⟩:=Tv [b,a] r 2 rfl (by simp at hl ⊢;omega) A7;simp only[I7,G9]at p1 p2 p3 p4 p5;have:=ED (b::a::r);have:=oP r;simp only[D5]at hl;rw[show push n (b::a::r)= .inr (.l2 n a b::r) by simp[push,h],h,X5 o5,o6,show(2:Int)=((2:Nat):Int)from rfl,IW,show decide ((b::a::r).length<2)=false by simp];rw[o6,bT o5,o7,show((2:Nat):Int)=2 from rfl,p1,p2,o9,p3,o9,p4,o7,p5,qV _ o5,o9,qV _ o5,o9,fF o5];rw[show oV r++[(jB r:Int)]=oV (.l2 n a b::r)from rfl,Ug];by_cases hc:12<(XT.l2 n a b::r).length
    .simp only[hc,decide_true,if_true,o7]
    .simp only[hc,decide_false,if_false,o6,stR,XT.sts,E5,jB,XT.size,iU]
  .match ts with
   |[]=>rw[show push n []= .inl 5 by simp[push,h],h];rfl|[a]=>rw[show push n [a]= .inl 5 by simp[push,h],h];rfl|[b,a]=>rw[show push n [b,a]= .inl 5 by simp[push,h],h];rfl|c::b::a::r=>
    obtain⟨p1,p2,p3,p4,p5⟩:=Tv [c,b,a] r 3 rfl (by simp at hl ⊢;omega) A7;simp only[I7,G9]at p1 p2 p3 p4 p5;have:=ED (c::b::a::r);have:=oP r;simp only[D5]at hl;rw[show push n (c::b::a::r)= .inr (.l3 n a b c::r) by simp[push,h],h,X5 o5,o6,show(3:Int)=((3:Nat):Int)from rfl,IW,show decide ((c::b::a::r).length<3)=false by simp];rw[o6,bT o5,o7,show((3:Nat):Int)=3 from rfl,p1,p2,o9,p3,o9,p4,o7,p5,qV _ o5,o9,qV _ o5,o9,fF o5];rw[show oV r++[(jB r:Int)]=oV (.l3 n a b c::r)from rfl,Ug];by_cases hc:12<(XT.l3 n a b c::r).length
    .simp only[hc,decide_true,if_true,o7]
    .simp only[hc,decide_false,if_false,o6,stR,XT.sts,E5,jB,XT.size,iU]
 .simp only[hsz,af];rfl
def pd(l:d2h)(k:Nat):d2h:=l++List.replicate k 0
theorem a9O(l:d2h)(m:Nat):J9 (pd l (m+1)) (l.length:Int)=some 0:=by rw[U8];unfold pd;rw[F8 o5,aN];rfl
theorem b4k(l:d2h)(m:Nat):ah (pd l (m+1)) (Y1 (l.length:Int))=some 0:=by have:=a9O l m;rw[U8]at this;exact this
theorem b6R(l:d2h)(m:Nat)(v:Int):fZ (pd l (m+1)) (Y1 (l.length:Int)) v=pd (l++[v]) m:=by show(l++List.replicate (m+1) 0).set l.length v=_;rw[rM _ _ o5,aN,kV];simp[pd]
theorem Vq(l:d2h)(m:Nat)(v w:Int):fZ (pd (l++[v]) m) (Y1 (l.length:Int)) w=pd (l++[w]) m:=by show(l++[v]++List.replicate m 0).set l.length w=_;rw[E5,rM _ _ o5,aN];simp[pd]
theorem QW(l:d2h)(m:Nat)(v:Int):J9 (pd (l++[v]) m) (l.length:Int)=some v:=by rw[U8];unfold pd;rw[E5,F8 o5,aN];rfl
theorem QX(l:d2h)(m:Nat)(v:Int):ah (pd (l++[v]) m) (Y1 (l.length:Int))=some v:=by have:=QW l m v;rw[U8]at this;exact this
theorem Kv(e:List (Int×Int)):xC e=some (vZ e):=by
 unfold xC;by_cases h48:48<e.length
 .rw[bT (by simp[x8];omega),o7];unfold vZ kP;rw[if_pos h48]
 by_cases h0:e.length=0
 .rw[X5 (by simp[x8];omega),o6,O9 (by simp[x8,h0]),o7];unfold vZ kP;rw[if_neg h48,if_pos h0]
 rw[X5 (by simp[x8];omega),o6,O5 (by simp[x8];intro h;exact h0 (by simp[h])),o6];rw[show Bf (x8 e) (0:Int)=some (pd (stR []) (e.length -jB [])) by simp[Bf,x8,pd,stR,jB];omega,o9];refine V5 (UO e o5 (λts=>(pd (stR ts) (e.length -jB ts),oV ts,(jB ts:Int))) (λts=>(pd (stR ts) (e.length -jB ts),oV ts)) (λx=>(([]:d2h),x)) (λi n ts hn hi hl=>?_) (λts hsz=>?_)) ?_
 rotate_left 2
 .rw[←Zb h0 h48 (K:=id) (r:=match wX 0 e []with| .inl x=>([],x)| .inr ts=>l7 (H5 1 (x8 (oV ts))) ([],x8 e,4) (stR ts,0,0)) (λts h=>by rw[h]) (λx h=>by rw[h])];cases hp:wX 0 e []with
  |inl x=>rfl|inr ts=>
   have:=(JM e 0 [] ts hp).1;have hz:e.length -jB ts=0:=by have:=congrArg List.length this;rw[Oc]at this;simp[KQ]at this;omega
   simp only[o9,X8,hz,pd,List.replicate_zero,F6];cases H5 1 (x8 (oV ts))<;>rfl
 .subst hi;have hlt:=(aV.1 hn).1;have hst:=ED ts;have hof:=oP ts;obtain⟨m,hm⟩:∃m,e.length -jB ts=m+1:=⟨e.length -jB ts -1,o5⟩;simp only[X9 hn,o7,U8 e,hn,o9,a8z,hm];rw[←hst];simp only[a9O,b4k,o9,b6R,QW,QX,Vq];rw[hst];rcases(IE n.1).2.2 with h|h|h|h|h
  .rw[show push n ts= .inl 2 by simp[push,h],h];rfl
  .have e0:N7 .i64 (x8 (oV ts)) 0=((oV ts).length:Int):=by rw[di (by unfold jg x8;omega)];simp[x8]
   rw[show push n ts= .inr (.l0 n::ts) by simp[push,h],h,X5 o5,o6,X5 (Uj _),o6,o6,e0,show lK 0 ((oV ts).length:Int) (x8 (oV ts))=true by simp[lK,x8],o7,
    show jW (oV ts) (Y1 0) (Y1 ((oV ts).length:Int))=oV ts by simp[jW,Y1],qV _ o5,o9,fF o5]
   rw[show oV ts++[(jB ts:Int)]=oV (.l0 n::ts)from rfl,Ug];by_cases hc:12<(XT.l0 n::ts).length
   .simp only[hc,decide_true,if_true,o7]
   .simp only[hc,decide_false,if_false,o6,jB,XT.size,stR,XT.sts,show e.length -(jB ts+1)=m by omega]
  .match ts with
   |[]=>rw[show push n []= .inl 5 by simp[push,h],h];rfl|a::r=>
    obtain⟨p1,p2,p3,p4,p5⟩:=Tv [a] r 1 rfl (by simp at hl ⊢;omega) A7;simp only[I7,G9]at p1 p2 p3 p4 p5;have:=ED (a::r);have:=oP r;simp only[D5]at hl;rw[show push n (a::r)= .inr (.l1 n a::r) by simp[push,h],h,X5 o5,o6,show(1:Int)=((1:Nat):Int)from rfl,IW,show decide ((a::r).length<1)=false by simp];simp only[Int.natCast_one]at p1 ⊢;rw[o6,bT o5,o7,p1,p2,o9,p3,o9,p4,o7,p5];rw[←hst]
    try simp only[Vq,QW,QX,o9]
    rw[hst,qV _ o5,o9,fF o5];rw[show oV r++[(jB r:Int)]=oV (.l1 n a::r)from rfl,Ug];have hz:=Oh (show push n (a::r)= .inr (.l1 n a::r) by simp[push,h]);by_cases hc:12<(XT.l1 n a::r).length
    .simp only[hc,decide_true,if_true,o7]
    .simp only[hc,decide_false,if_false,o6,hz,show e.length -(jB (a::r)+1)=m by omega,stR,XT.sts,E5]
  .match ts with
   |[]=>rw[show push n []= .inl 5 by simp[push,h],h];rfl|[a]=>rw[show push n [a]= .inl 5 by simp[push,h],h];rfl|b::a::r=>
    obtain⟨p1,p2,p3,p4,p5⟩:=Tv [b,a] r 2 rfl (by simp at hl ⊢;omega) A7;simp only[I7,G9]at p1 p2 p3 p4 p5;have:=ED (b::a::r);have:=oP r;simp only[D5]at hl;rw[show push n (b::a::r)= .inr (.l2 n a b::r) by simp[push,h],h,X5 o5,o6,show(2:Int)=((2:Nat):Int)from rfl,IW,show decide ((b::a::r).length<2)=false by simp];rw[o6,bT o5,o7,show((2:Nat):Int)=2 from rfl,p1,p2,o9,p3,o9,p4,o7,p5];rw[←hst]
    try simp only[Vq,QW,QX,o9]
    rw[hst,qV _ o5,o9,fF o5];rw[show oV r++[(jB r:Int)]=oV (.l2 n a b::r)from rfl,Ug];have hz:=Oh (show push n (b::a::r)= .inr (.l2 n a b::r) by simp[push,h]);by_cases hc:12<(XT.l2 n a b::r).length
    .simp only[hc,decide_true,if_true,o7]
    .rw[hz,show e.length -(jB (b::a::r)+1)=m by omega,show stR (.l2 n a b::r)=stR (b::a::r)++[(jB r:Int)] by simp only[stR,XT.sts,E5,jB]];simp only[hc,decide_false,if_false,o6]
  .match ts with
   |[]=>rw[show push n []= .inl 5 by simp[push,h],h];rfl|[a]=>rw[show push n [a]= .inl 5 by simp[push,h],h];rfl|[b,a]=>rw[show push n [b,a]= .inl 5 by simp[push,h],h];rfl|c::b::a::r=>
    obtain⟨p1,p2,p3,p4,p5⟩:=Tv [c,b,a] r 3 rfl (by simp at hl ⊢;omega) A7;simp only[I7,G9]at p1 p2 p3 p4 p5;have:=ED (c::b::a::r);have:=oP r;simp only[D5]at hl;rw[show push n (c::b::a::r)= .inr (.l3 n a b c::r) by simp[push,h],h,X5 o5,o6,show(3:Int)=((3:Nat):Int)from rfl,IW,show decide ((c::b::a::r).length<3)=false by simp];rw[o6,bT o5,o7,show((3:Nat):Int)=3 from rfl,p1,p2,o9,p3,o9,p4,o7,p5];rw[←hst]
    try simp only[Vq,QW,QX,o9]
    rw[hst,qV _ o5,o9,fF o5];rw[show oV r++[(jB r:Int)]=oV (.l3 n a b c::r)from rfl,Ug];have hz:=Oh (show push n (c::b::a::r)= .inr (.l3 n a b c::r) by simp[push,h]);by_cases hc:12<(XT.l3 n a b c::r).length
    .simp only[hc,decide_true,if_true,o7]
    .rw[hz,show e.length -(jB (c::b::a::r)+1)=m by omega,show stR (.l3 n a b c::r)=stR (c::b::a::r)++[(jB r:Int)] by simp only[stR,XT.sts,E5,jB]];simp only[hc,decide_false,if_false,o6]
 .simp only[hsz,af];rfl
end Go.GP
namespace Go.GP
open Gt
set_option maxRecDepth 100000
def VT(t:Int×Int):Prop:=t=(1,0)\/t=(2,0)\/t=(3,0)\/t=(4,0)\/t=(5,0)\/∃e,t=(6,e)
theorem NE{t:Int×Int}{en:List aP}(h:vty t en=true):VT t:=by
 obtain⟨k,e⟩:=t;unfold vty at h;simp only at h;cases h6:x9 k 6
 .rw[h6,o6]at h;cases h1:P7 1 k<;>rw[h1]at h
  .cases h
  cases h5:P7 k 5<;>rw[h5]at h
  .cases h
  simp only[o7,Z8]at h;rw[uF]at h1 h5;subst h;have:k=1\/k=2\/k=3\/k=4\/k=5:=o5;rcases this with rfl|rfl|rfl|rfl|rfl<;>simp[VT]
 .rw[Z8]at h6;subst h6;exact .inr (.inr (.inr (.inr (.inr ⟨e,rfl⟩))))
def EN(n:Int×Int)(ops:List (Int×Int))(sg:U4):Option ((Int×Int)×Int):=
 l7 (G6 (x9 n.2 0)) (l9 (bW n.1) λu=>l7 (G6 u) (some ((0,0),2)) (bY n ops sg)) (bY n ops sg)
def vH(n:Int×Int)(ops:List (Int×Int))(sg:U4):Prop:=∃r:(Int×Int)×Int,yH n ops sg=some r/\EN n ops sg=some r/\(r.2=0->VT r.1)
variable {k:Int}
theorem VT.lit(h:1<=k/\k<=5):VT (k,0):=by have:k=1\/k=2\/k=3\/k=4\/k=5:=o5;rcases this with rfl|rfl|rfl|rfl|rfl<;>simp[VT]
theorem Vh(a b:Int):P7 a b= !H5 b a:=by simp only[H5,P7];rw[←decide_not];congr 1;simp
theorem Hm{α β:Type}(o:Option β)(f:α->Option β):l9 (l9 o λx=>some (Sum.inr x)) (λq=>U1 q f λr=>some r)=o:=by cases o<;>rfl
theorem VT.enum(e:Int):VT (6,e):=.inr (.inr (.inr (.inr (.inr ⟨e,rfl⟩))))
theorem tH{R E:Option ((Int×Int)×Int)}{c:Int}(hc:c≠0)(h1:R=some ((0,0),c))(h2:E=some ((0,0),c)):∃r:(Int×Int)×Int,R=some r/\E=some r/\(r.2=0->VT r.1):=⟨_,h1,h2,λh=>absurd h hc⟩
theorem nok{R E:Option ((Int×Int)×Int)}{t:Int×Int}(hv:VT t)(h1:R=some (t,0))(h2:E=some (t,0)):∃r:(Int×Int)×Int,R=some r/\E=some r/\(r.2=0->VT r.1):=⟨_,h1,h2,λ_=>hv⟩
def RR(a0:Int×Int)(a1:List (Int×Int))(a2:U4):Option ((Int×Int)×Int):=
 l9 (vT a0 a2) λ(x:Bool)=>l7 (G6 x) (some ((0,0),3)) (l9 (xO a0 a2) λ(x:Bool)=>l7 (G6 x) (some ((0,0),6))
  (l7 (x9 (x8 a1) 0) (l9 (nZ a0 a2) λ(x:rf×Bool)=>l7 (G6 x.2) (some ((0,0),8)) (some (x.1,0)))
  (l7 (x9 (x8 a1) 1) (l9 (J9 a1 0) λ(x:rf)=>l9 (vU a0 x a2) λ(x:rf×Bool)=>l7 (G6 x.2) (some ((0,0),8)) (some (x.1,0)))
  (l7 (x9 (x8 a1) 2) (l9 (J9 a1 0) λ(x:rf)=>l9 (J9 a1 1) λ(x_1:rf)=>l9 (yI a0.1 x x_1) λ(x:rf×Bool)=>l7 (G6 x.2) (some ((0,0),8)) (some (x.1,0)))
  (l9 (J9 a1 1) λ(x:rf)=>l9 (J9 a1 0) λ(x_1:rf)=>l7 (x9 x_1.1 1) (l9 (J9 a1 1) λ(x_2:rf)=>l9 (J9 a1 2) λ(x_3:rf)=>
   l7 (G6 (fE (x9 x_2.1 x_3.1) (x9 x_2.2 x_3.2))) (some ((0,0),8)) (some (x,0))) (l7 (G6 false) (some ((0,0),8)) (some (x,0))))))))
theorem c0t(n:Int×Int)(ops:List (Int×Int))(sg:U4):yH n ops sg=l7 (G6 (x9 n.2 0)) (l9 (jV n.1) λx=>l7 x (RR n ops sg) (some ((0,0),2))) (RR n ops sg):=by
 unfold yH;cases x9 n.2 0
 .simp only[V7,o7];cases jV n.1 with
  |none=>rfl|some b=>cases b<;>rfl
 .rfl
theorem MI{op N:Int}{ops:List (Int×Int)}{sg:U4}(h1:bW op=some true)(h2:jV op=some true)
  (h:∃r:(Int×Int)×Int,RR (op,N) ops sg=some r/\bY (op,N) ops sg=some r/\(r.2=0->VT r.1)):vH (op,N) ops sg:=by
 unfold vH;rw[c0t];unfold EN;dsimp only;rw[h1,h2];cases x9 N 0<;>exact h
theorem Tm{op N:Int}{ops:List (Int×Int)}{sg:U4}(h1:bW op=some false)(h2:jV op=some false)
  (h:∃r:(Int×Int)×Int,RR (op,0) ops sg=some r/\bY (op,0) ops sg=some r/\(r.2=0->VT r.1)):vH (op,N) ops sg:=by
 unfold vH;rw[c0t];unfold EN;dsimp only;rw[h1,h2];cases hz:x9 N 0
 .exact tH (c:=2) D9 rfl rfl
 .rw[Z8]at hz;subst hz;exact h
section
variable (N:Int) (sg:U4)
theorem a9u(hk:k=1\/k=2\/k=3\/k=4\/k=5):vH (k,N) [] sg:=by
 have hv:vty (k,0) sg.1=true:=by rcases hk with rfl|rfl|rfl|rfl|rfl<;>rfl
 have hm:bW k=some true/\jV k=some true:=by rcases hk with rfl|rfl|rfl|rfl|rfl<;>exact⟨rfl,rfl⟩
 refine MI hm.1 hm.2 ?_;have key:bY (k,N) [] sg=lH N k sg:=by rcases hk with rfl|rfl|rfl|rfl|rfl<;>exact Hm _ _
 have key2:RR (k,N) [] sg=l9 (l9 (cO (k,0) sg.1) λ(x:rf)=>l7 (P7 x.1 N) (some (P7 N x.2)) (some false)) λ(x:Bool)=>l7 (G6 x) (some ((0,0),3)) (some ((k,0),0)):=by rcases hk with rfl|rfl|rfl|rfl|rfl<;>rfl
 rw[key,key2];unfold lH;rw[BX,JP,o9,o9,GY,GY];cases P7 (bnd (k,0) sg.1).1 N
 .exact tH (c:=3) D9 rfl rfl
 cases P7 N (bnd (k,0) sg.1).2
 .exact tH (c:=3) D9 rfl rfl
 .exact nok (NE hv) rfl rfl
theorem a7D(hN:jg N):vH (6,N) [] sg:=by
 have hq:0<=N->Z7 .i64 N 16=N / 16:=λh=>by rw[QH (by rw[nC h];unfold jg at*;omega),nC h]
 refine MI rfl rfl ?_;have hf:xO (6,N) sg=l7 (H5 (Z7 .i64 N 16) (x8 sg.1)) (l9 (J9 sg.1 (Z7 .i64 N 16)) λ(x:aP)=>some (H5 (dJ N 16) (x8 x.2))) (some false):=rfl;have hl:nZ (6,N) sg=some ((6,Z7 .i64 N 16),vty (6,Z7 .i64 N 16) sg.1):=by unfold nZ;simp only[oH];rfl
 rw[show bY (6,N) [] sg=CZ N sg from Hm _ _];unfold RR CZ;rw[hf,show vT (6,N) sg=some (P7 0 N)from rfl,hl];by_cases h0:0<=N
 .rw[X5 h0,Z9 h0,hq h0];by_cases h1:N / 16<x8 sg.1
  .obtain⟨x,hx,_⟩:=ui (show 0<=N / 16 by omega) h1;rw[bT h1,dO h1,hx,show vty (6,N / 16) sg.1=true by unfold vty;simp only[Z9 (show 0<=N / 16 by omega),bT h1];rfl];simp only[o9,GY];cases P7 (x8 x.2) (dJ N 16)
   .exact nok (VT.enum (N / 16)) rfl rfl
   .exact tH (c:=6) D9 rfl rfl
  .have h1' :x8 sg.1<=N / 16:=o5;rw[X5 h1',Z9 h1'];exact tH (c:=6) D9 rfl rfl
 .rw[bT (show N<0 by omega),dO (show N<0 by omega)];exact tH (c:=3) D9 rfl rfl
theorem Be(ts:List (Int×Int))(en:U4):(∃x,J9 ts N=some x/\P7 0 N=true/\H5 N (x8 ts)=true/\kZ N ts en=some (l7 (vty x en.1) (x,0) ((0,0),8)))\/((P7 0 N=false\/P7 0 N=true/\H5 N (x8 ts)=false)/\kZ N ts en=some ((0,0),6)):=by
 unfold kZ;rw[GY N 0,Vh (x8 ts) N];cases h0:P7 0 N
 .exact .inr ⟨.inl A7,rfl⟩
 cases h1:H5 N (x8 ts)
 .exact .inr ⟨.inr A7,rfl⟩
 rw[uF]at h0;rw[Em]at h1;obtain⟨x,hx,_⟩:=ui h0 h1;rw[hx];simp only[nO,Bool.not_false,o6,o7,o9,qP];exact .inl ⟨x,rfl,A7,A7,by cases vty x en.1<;>rfl⟩
theorem b3T:vH (7,N) [] sg:=by
 refine MI rfl rfl ?_;rw[show bY (7,N) [] sg=kZ N sg.2.2.1 sg from Hm _ _];have hf:xO (7,N) sg=l7 (P7 0 N) (some (H5 N (x8 sg.2.2.1))) (some false):=rfl;unfold RR;rw[hf,show vT (7,N) sg=some true from rfl];rcases Be N sg.2.2.1 sg with⟨x,h1,h2,h3,h4⟩|⟨h1|⟨h1,h2⟩,h4⟩
 .have hl:nZ (7,N) sg=some (x,vty x sg.1):=by
   unfold nZ;dsimp only;rw[h1];simp only[oH];rfl
  rw[h2,h3,h4,hl];cases hv:vty x sg.1
  .exact tH (c:=8) D9 rfl rfl
  .exact nok (NE hv) rfl rfl
 .rw[h1,h4];exact tH (c:=6) D9 rfl rfl
 .rw[h1,h2,h4];exact tH (c:=6) D9 rfl rfl
theorem a9t:vH (8,N) [] sg:=by
 refine MI rfl rfl ?_;rw[show bY (8,N) [] sg=kZ N sg.2.2.2.1 sg from Hm _ _];have hf:xO (8,N) sg=l7 (P7 0 N) (some (H5 N (x8 sg.2.2.2.1))) (some false):=rfl;unfold RR;rw[hf,show vT (8,N) sg=some true from rfl];rcases Be N sg.2.2.2.1 sg with⟨x,h1,h2,h3,h4⟩|⟨h1|⟨h1,h2⟩,h4⟩
 .have hl:nZ (8,N) sg=some (x,vty x sg.1):=by
   unfold nZ;dsimp only;rw[h1];simp only[oH];rfl
  rw[h2,h3,h4,hl];cases hv:vty x sg.1
  .exact tH (c:=8) D9 rfl rfl
  .exact nok (NE hv) rfl rfl
 .rw[h1,h4];exact tH (c:=6) D9 rfl rfl
 .rw[h1,h2,h4];exact tH (c:=6) D9 rfl rfl
theorem a7C:vH (9,N) [] sg:=Tm rfl rfl (nok (VT.lit (k:=5) o5) rfl rfl)
theorem a4a:vH (35,N) [] sg:=by
 refine Tm rfl rfl ?_;rw[show bY (35,0) [] sg=sK (35,0) sg from Hm _ _];unfold RR sK;simp only[vT,xO,nZ,oH,o9];cases sg.2.2.2.2.2
 .exact tH (c:=6) D9 rfl rfl
 .exact nok (VT.lit (k:=2) o5) rfl rfl
theorem a9v(hk:k=36\/k=37\/k=38\/k=39):vH (k,N) [] sg:=by
 have hm:bW k=some true/\jV k=some true/\x9 k 35=false:=by rcases hk with rfl|rfl|rfl|rfl<;>exact⟨rfl,rfl,rfl⟩
 refine MI hm.1 hm.2.1 ?_;rw[show bY (k,N) [] sg=sK (k,N) sg by rcases hk with rfl|rfl|rfl|rfl<;>exact Hm _ _];have hr:RR (k,N) [] sg=l9 (l7 sg.2.2.2.2.2 (l7 (P7 0 N) (some (H5 N (x8 sg.2.2.2.2.1))) (some false)) (some false)) λ(x:Bool)=>l7 (G6 x) (some ((0,0),6))
   (l9 (nZ (k,N) sg) λ(x:rf×Bool)=>l7 (G6 x.2) (some ((0,0),8)) (some (x.1,0))):=by rcases hk with rfl|rfl|rfl|rfl<;>rfl
 rw[hr];unfold sK;rw[hm.2.2,o6];cases sg.2.2.2.2.2
 .exact tH (c:=6) D9 rfl rfl
 simp only[o7,G8,o6];rcases Be N sg.2.2.2.2.1 sg with⟨x,h1,h2,h3,h4⟩|⟨h1|⟨h1,h2⟩,h4⟩
 .rw[h2,h3,h4];have hl:nZ (k,N) sg=l9 (some (l7 (x9 k 36) (l7 (vty x sg.1) (l7 (x9 x.1 2) true (x9 x.1 3)) false) (l7 (x9 k 39) (l7 (vty x sg.1) (l7 (x9 x.1 2) true (l7 (x9 x.1 3) true (l7 (x9 x.1 4) true (x9 x.1 5)))) false) (l7 (vty x sg.1) (x9 x.1 1) false)))) λb=>some (x,b):=by
   unfold nZ;simp only[oH,uo,yJ];rcases hk with rfl|rfl|rfl|rfl<;>(rw[h1];simp only[x9,Int.reduceEq,decide_true,decide_false,o7,o6,o9];cases vty x sg.1<;>cases decide (x.1=2)<;>cases decide (x.1=3)<;>cases decide (x.1=4)<;>rfl)
  rw[hl];simp only[o9,oz];cases hv:vty x sg.1
  .rcases hk with rfl|rfl|rfl|rfl<;>exact tH (c:=8) D9 rfl rfl
  .have hx:=NE hv;rcases hk with rfl|rfl|rfl|rfl<;>rcases hx with rfl|rfl|rfl|rfl|rfl|⟨e,rfl⟩ <;>
    first
    |exact nok (NE hv) rfl rfl
    |exact tH (c:=8) D9 rfl rfl
 .rw[h1,h4];exact tH (c:=6) D9 rfl rfl
 .rw[h1,h2,h4];exact tH (c:=6) D9 rfl rfl
end
end Go.GP
namespace Go.GP
open Gt
set_option maxRecDepth 100000
variable {a:Int×Int}{k:Int}{b:Int×Int}
section
variable (N:Int) (sg:U4)
theorem b3U(hk:k=10\/k=25\/k=31\/k=32)(ha:VT a):vH (k,N) [a] sg:=by
 have hm:bW k=some false/\jV k=some false:=by rcases hk with rfl|rfl|rfl|rfl<;>exact⟨rfl,rfl⟩
 refine Tm hm.1 hm.2 ?_;rcases hk with rfl|rfl|rfl|rfl<;>rcases ha with rfl|rfl|rfl|rfl|rfl|⟨e,rfl⟩ <;>
  first
  |exact nok (VT.lit (k:=1) o5) rfl rfl
  |exact nok (VT.lit (k:=2) o5) rfl rfl
  |exact nok (VT.lit (k:=3) o5) rfl rfl
  |exact nok (VT.lit (k:=4) o5) rfl rfl
  |exact tH (c:=8) D9 rfl rfl
theorem a9s(hk:k=13\/k=23\/k=24\/k=27\/k=28\/k=29\/k=30)(ha:VT a)(hb:VT b):vH (k,N) [a,b] sg:=by
 have hm:bW k=some false/\jV k=some false:=by rcases hk with rfl|rfl|rfl|rfl|rfl|rfl|rfl<;>exact⟨rfl,rfl⟩
 refine Tm hm.1 hm.2 ?_;rcases hk with rfl|rfl|rfl|rfl|rfl|rfl|rfl<;>rcases ha with rfl|rfl|rfl|rfl|rfl|⟨e,rfl⟩<;>rcases hb with rfl|rfl|rfl|rfl|rfl|⟨f,rfl⟩ <;>
  first
  |exact tH (c:=8) D9 rfl rfl
  |exact nok (VT.lit (k:=1) o5) rfl rfl
  |exact nok (VT.lit (k:=2) o5) rfl rfl
  |exact nok (VT.lit (k:=3) o5) rfl rfl
  |exact nok (VT.lit (k:=4) o5) rfl rfl
  |exact nok (VT.lit (k:=5) o5) rfl rfl
theorem a7E(hk:k=14\/k=15\/k=16)(ha:VT a)(hb:VT b):vH (k,N) [a,b] sg:=by
 have hm:bW k=some true/\jV k=some true:=by rcases hk with rfl|rfl|rfl<;>exact⟨rfl,rfl⟩
 refine MI hm.1 hm.2 ?_;have hr:RR (k,N) [a,b] sg=l9 (l7 (P7 0 N) (some (P7 N 5)) (some false)) λx=>l7 (G6 x) (some ((0,0),3)) (l9 (yI k a b) λx=>l7 (G6 x.2) (some ((0,0),8)) (some (x.1,0))):=by rcases hk with rfl|rfl|rfl<;>rfl
 have he:bY (k,N) [a,b] sg=l9 (l7 (P7 0 N) (some (P7 N 5)) (some false)) λx=>l7 (G6 x) (some ((0,0),3)) (l9 (qf k [a,b]) λx=>l7 (G6 x.2) (some ((0,0),8)) (some (x.1,0))):=by
  rcases hk with rfl|rfl|rfl <;>
   (show l9 (l9 (oL N) λx=>l7 (G6 x) (some (Sum.inr (((0:Int),(0:Int)),(3:Int)))) (some (.inl ((0:Int),(0:Int))))) _=_
    unfold oL;cases P7 0 N<;>cases P7 N 5<;>rfl)
 rw[hr,he];cases P7 0 N
 .exact tH (c:=3) D9 rfl rfl
 cases P7 N 5
 .exact tH (c:=3) D9 rfl rfl
 rcases hk with rfl|rfl|rfl<;>rcases ha with rfl|rfl|rfl|rfl|rfl|⟨e,rfl⟩<;>rcases hb with rfl|rfl|rfl|rfl|rfl|⟨f,rfl⟩ <;>
  first
  |exact tH (c:=8) D9 rfl rfl
  |exact nok (VT.lit (k:=2) o5) rfl rfl
  |exact nok (VT.lit (k:=3) o5) rfl rfl
  |exact nok (VT.lit (k:=4) o5) rfl rfl
theorem a7F(hk:k=11\/k=12\/k=17\/k=18\/k=19\/k=20\/k=21\/k=22)(ha:VT a):vH (k,N) [a,b] sg:=by
 have hm:bW k=some false/\jV k=some false:=by rcases hk with rfl|rfl|rfl|rfl|rfl|rfl|rfl|rfl<;>exact⟨rfl,rfl⟩
 refine Tm hm.1 hm.2 ?_;have hr:RR (k,0) [a,b] sg=l9 (yI k a b) λx=>l7 (G6 x.2) (some ((0,0),8)) (some (x.1,0)):=by rcases hk with rfl|rfl|rfl|rfl|rfl|rfl|rfl|rfl<;>rfl
 have he:bY (k,0) [a,b] sg=l9 (qf k [a,b]) λx=>l7 (G6 x.2) (some ((0,0),8)) (some (x.1,0)):=by rcases hk with rfl|rfl|rfl|rfl|rfl|rfl|rfl|rfl<;>rfl
 rw[hr,he];unfold yI qf;simp only[show J9 [a,b] 0=some a from rfl,show J9 [a,b] 1=some b from rfl,o9,yJ,uo,jQ,oz];cases h1:x9 a.1 b.1
 .rcases hk with rfl|rfl|rfl|rfl|rfl|rfl|rfl|rfl<;>exact tH (c:=8) D9 rfl rfl
 cases h2:x9 a.2 b.2
 .rcases hk with rfl|rfl|rfl|rfl|rfl|rfl|rfl|rfl<;>exact tH (c:=8) D9 rfl rfl
 have ha' :=ha;rcases hk with rfl|rfl|rfl|rfl|rfl|rfl|rfl|rfl<;>rcases ha with rfl|rfl|rfl|rfl|rfl|⟨e,rfl⟩ <;>
  first
  |exact nok ha' rfl rfl
  |exact nok (VT.lit (k:=1) o5) rfl rfl
  |exact tH (c:=8) D9 rfl rfl
theorem b3S{a b c:Int×Int}(ha:VT a)(hb:VT b):vH (26,N) [a,b,c] sg:=by
 refine Tm rfl rfl ?_;have hr:RR (26,0) [a,b,c] sg=l7 (x9 a.1 1) (l7 (G6 (fE (x9 b.1 c.1) (x9 b.2 c.2))) (some ((0,0),8)) (some (b,0))) (some ((0,0),8)):=rfl;have he:bY (26,0) [a,b,c] sg=l9 (qf 26 [a,b,c]) λx=>l7 (G6 x.2) (some ((0,0),8)) (some (x.1,0)):=rfl;have he2:qf 26 [a,b,c]=l9 (l7 (x9 a.1 1) (some (Sum.inr (b,fE (x9 b.1 c.1) (x9 b.2 c.2)))) (some (Sum.inr (b,false)))) λ(o:rf⊕rf×Bool)=>U1 o (λ(x:rf)=>some ((0,0),false)) λ(r:rf×Bool)=>some r:=rfl;rw[hr,he,he2];cases x9 a.1 1
 .exact tH (c:=8) D9 rfl rfl
 cases x9 b.1 c.1
 .exact tH (c:=8) D9 rfl rfl
 cases x9 b.2 c.2
 .exact tH (c:=8) D9 rfl rfl
 .exact nok hb rfl rfl
theorem a1G(ha:VT a):vH (33,N) [a] sg:=by
 refine MI rfl rfl ?_;have he:bY (33,N) [a] sg=uM (33,N) a sg:=Hm _ _;have hr:RR (33,N) [a] sg=l9 (l7 (P7 0 N) (some (H5 N (x8 sg.2.1))) (some false)) λx=>l7 (G6 x) (some ((0,0),6)) (l9 (vU (33,N) a sg) λx=>l7 (G6 x.2) (some ((0,0),8)) (some (x.1,0))):=rfl;have hs:vU (33,N) a sg=l9 (J9 sg.2.1 N) λ(x:dm)=>l9 (Y7 x.2.1 sg.1) λ(x_1:Bool)=>l7 x_1 (l9 (Y7 x.2.2.1 sg.1) λ(x_2:Bool)=>l7 x_2 (some (x.2.2.1,fE (x9 a.1 x.2.1.1) (x9 a.2 x.2.1.2))) (some (x.2.2.1,false))) (some (x.2.2.1,false)):=rfl;rw[he,hr,hs];unfold uM;simp only[x9,Int.reduceEq,decide_false,o6,o9,X8,GY N 0,Vh (x8 sg.2.1) N];cases h0:P7 0 N
 .exact tH (c:=6) D9 rfl rfl
 cases h1:H5 N (x8 sg.2.1)
 .exact tH (c:=6) D9 rfl rfl
 rw[uF]at h0;rw[Em]at h1;obtain⟨x,hx,_⟩:=ui h0 h1;simp only[o9,X8,nO,o6,hx,qP,oH,V7,o7];cases vty x.2.1 sg.1
 .exact tH (c:=8) D9 rfl rfl
 cases hv:vty x.2.2.1 sg.1
 .exact tH (c:=8) D9 rfl rfl
 simp only[G8,o6,o7,o9];cases fE (decide (a.1=x.2.1.1)) (decide (a.2=x.2.1.2))
 .exact tH (c:=8) D9 rfl rfl
 .exact nok (NE hv) rfl rfl
theorem Yk(hN:jg N)(ha:VT a):vH (34,N) [a] sg:=by
 refine MI rfl rfl ?_;have he:bY (34,N) [a] sg=uM (34,N) a sg:=Hm _ _;have hr:RR (34,N) [a] sg=l9 (l7 (P7 0 N) (some (P7 (dJ N 8) 5)) (some false)) λx=>l7 (G6 x) (some ((0,0),3)) (l7 (G6 (H5 (Z7 .i64 N 8) (x8 sg.2.1))) (some ((0,0),6)) (l9 (vU (34,N) a sg) λx=>l7 (G6 x.2) (some ((0,0),8)) (some (x.1,0)))):=rfl;have hs:vU (34,N) a sg=l9 (J9 sg.2.1 (Z7 .i64 N 8)) λ(x:dm)=>l7 (x9 a.1 3) (l7 (fE (x9 x.2.1.1 3) (x9 x.2.1.2 0)) (some (a,fE (x9 x.2.2.1.1 4) (x9 x.2.2.1.2 0))) (some (a,false))) (some (a,false)):=rfl;rw[he,hr,hs];unfold uM oL;by_cases h0:0<=N
 case neg=>rw[dO (show N<0 by omega),bT (show N<0 by omega)];exact tH (c:=3) D9 rfl rfl
 have hq:Z7 .i64 N 8=N / 8:=by rw[QH (by rw[nC h0];unfold jg at*;omega),nC h0]
 rw[Z9 h0,X5 h0,hq,AU h0];simp only[x9,Int.reduceEq,decide_true,o7,o6,Z9 (show 0<=N % 8 by omega),o9];cases P7 (N % 8) 5
 .exact tH (c:=3) D9 rfl rfl
 simp only[G8,o6,o9,X8,X5 (show 0<=N / 8 by omega),Vh];cases h1:H5 (N / 8) (x8 sg.2.1)
 .exact tH (c:=6) D9 rfl rfl
 rw[Em]at h1;obtain⟨x,hx,_⟩:=ui (show 0<=N / 8 by omega) h1;simp only[hx,nO,o6,o9,X8,qP,G8];obtain⟨nm,⟨k1,k2⟩,⟨v1,v2⟩,rows⟩:=x;dsimp only;by_cases hK:k1=3/\k2=0
 .obtain⟨rfl,rfl⟩:=hK;by_cases hV:v1=4/\v2=0
  .obtain⟨rfl,rfl⟩:=hV;rcases ha with rfl|rfl|rfl|rfl|rfl|⟨e,rfl⟩ <;>
    first
    |exact nok (VT.lit (k:=3) o5) rfl rfl
    |exact tH (c:=8) D9 rfl rfl
  .have hE:vty (v1,v2) sg.1=true->v1≠4:=λhv h=>by
    subst h;rcases NE hv with h|h|h|h|h|⟨e,h⟩<;>cases h;exact hV ⟨rfl,rfl⟩
   have hR:fE (decide (v1=4)) (decide (v2=0))=false:=by
    by_cases h1:v1=4
    .have:v2≠0:=λh2=>hV ⟨h1,h2⟩;simp[fE,h1,this]
    .simp[fE,h1]
   rw[hR];cases hv:vty (v1,v2) sg.1
   .rcases ha with rfl|rfl|rfl|rfl|rfl|⟨e,rfl⟩<;>exact tH (c:=8) D9 rfl rfl
   .have h4:=hE hv;rw[show decide (v1=4)=false by simp[h4]];rcases ha with rfl|rfl|rfl|rfl|rfl|⟨e,rfl⟩<;>exact tH (c:=8) D9 rfl rfl
 .have hR:fE (decide (k1=3)) (decide (k2=0))=false:=by
   by_cases h1:k1=3
   .have:k2≠0:=λh2=>hK ⟨h1,h2⟩;simp[fE,h1,this]
   .simp[fE,h1]
  rw[hR];cases hv:vty (k1,k2) sg.1
  .rcases ha with rfl|rfl|rfl|rfl|rfl|⟨e,rfl⟩<;>exact tH (c:=8) D9 rfl rfl
  cases hw:vty (v1,v2) sg.1
  .rcases ha with rfl|rfl|rfl|rfl|rfl|⟨e,rfl⟩<;>exact tH (c:=8) D9 rfl rfl
  have h3:k1≠3:=λh=>by subst h;rcases NE hv with h|h|h|h|h|⟨e,h⟩<;>cases h;exact hK ⟨rfl,rfl⟩
  simp only[show decide (k1=3)=false by simp[h3],G8,o6,o7,o9];cases fE (decide (a.1=k1)) (decide (a.2=k2))
  .cases decide (a.1=3)<;>exact tH (c:=8) D9 rfl rfl
  .cases decide (a.1=3)<;>exact tH (c:=8) D9 rfl rfl
theorem a6h(n:Int×Int)(hN:jg n.2)(ops:List (Int×Int))(hv:∀t∈ops,VT t)(hl:x8 ops=qp n.1):vH n ops sg:=by
 obtain⟨op,N⟩:=n;dsimp only at hN hl;have hr:1<=op/\op<=39:=by
  by_cases h:1<=op/\op<=39
  .exact h
  .have:qp op=-1:=by unfold qp;rw[Q_ h];rfl
   rw[this]at hl;simp[x8]at hl
 have hc:op=1\/op=2\/op=3\/op=4\/op=5\/op=6\/op=7\/op=8\/op=9\/op=10\/op=11\/op=12\/op=13\/op=14\/op=15\/op=16\/op=17\/op=18\/op=19\/op=20\/op=21\/op=22\/op=23\/op=24\/op=25\/op=26\/op=27\/op=28\/op=29\/op=30\/op=31\/op=32\/op=33\/op=34\/op=35\/op=36\/op=37\/op=38\/op=39:=o5;have L0:qp op=0->ops=[]:=λh=>by rw[h]at hl;simp only[x8]at hl;exact au.1 o5
 have L1:qp op=1->∃a,ops=[a]/\VT a:=λh=>by
  rw[h]at hl;simp only[x8]at hl;match ops,hl,hv with
  |[a],_,hv=>exact⟨a,rfl,hv a A7⟩|[],hl,_=>simp at hl|a::b::r,hl,_=>simp at hl;omega
 have L2:qp op=2->∃a b,ops=[a,b]/\VT a/\VT b:=λh=>by
  rw[h]at hl;simp only[x8]at hl;match ops,hl,hv with
  |[a,b],_,hv=>exact⟨a,b,rfl,hv a A7,hv b A7⟩|[],hl,_=>simp at hl|[a],hl,_=>simp at hl|a::b::c::r,hl,_=>simp at hl;omega
 have L3:qp op=3->∃a b c,ops=[a,b,c]/\VT a/\VT b:=λh=>by
  rw[h]at hl;simp only[x8]at hl;match ops,hl,hv with
  |[a,b,c],_,hv=>exact⟨a,b,c,rfl,hv a A7,hv b A7⟩|[],hl,_=>simp at hl|[a],hl,_=>simp at hl|[a,b],hl,_=>simp at hl|a::b::c::d::r,hl,_=>simp at hl;omega
 rcases hc with rfl|rfl|rfl|rfl|rfl|rfl|rfl|rfl|rfl|rfl|rfl|rfl|rfl|rfl|rfl|rfl|rfl|rfl|rfl|rfl|rfl|rfl|rfl|rfl|rfl|rfl|rfl|rfl|rfl|rfl|rfl|rfl|rfl|rfl|rfl|rfl|rfl|rfl|rfl <;>
  first
  |(rw[L0 rfl];first|exact a9u N sg o5|exact a7D N sg hN|exact b3T N sg|exact a9t N sg|exact a7C N sg|exact a4a N sg|exact a9v N sg o5)
  |(obtain⟨a,rfl,ha⟩:=L1 rfl;first|exact b3U N sg o5 ha|exact a1G N sg ha|exact Yk N sg hN ha)
  |(obtain⟨a,b,rfl,ha,hb⟩:=L2 rfl;first|exact a9s N sg o5 ha hb|exact a7E N sg o5 ha hb|exact a7F N sg o5 ha)
  |(obtain⟨a,b,c,rfl,ha,hb⟩:=L3 rfl;exact b3S N sg ha hb)
end
end Go.GP
namespace Go.GP
open Gt
set_option maxRecDepth 100000
def XT.wf:XT->Prop
 | .l0 n=>qp n.1=0| .l1 n a=>qp n.1=1/\a.wf| .l2 n a b=>qp n.1=2/\a.wf/\b.wf| .l3 n a b c=>qp n.1=3/\a.wf/\b.wf/\c.wf
theorem b4p{n:Int×Int}{ts ts' :List XT}(h:push n ts= .inr ts')(hw:∀t∈ts,t.wf):∀t∈ts',t.wf:=by
 unfold push at h;split at h
 .cases h;intro t ht;rcases D6.1 ht with rfl|ht
  .assumption
  .exact hw t ht
 split at h
 .split at h
  .cases h;intro t ht;rcases D6.1 ht with rfl|ht
   .exact⟨by assumption,hw _ A7⟩
   .exact hw t (by simp[ht])
  .cases h
 split at h
 .split at h
  .cases h;intro t ht;rcases D6.1 ht with rfl|ht
   .exact⟨by assumption,hw _ A7,hw _ A7⟩
   .exact hw t (by simp[ht])
  .cases h
 split at h
 .split at h
  .cases h;intro t ht;rcases D6.1 ht with rfl|ht
   .exact⟨by assumption,hw _ A7,hw _ A7,hw _ A7⟩
   .exact hw t (by simp[ht])
  .cases h
 .cases h
theorem a1O:∀(es:List (Int×Int)) (i:Nat) (ts ts' :List XT),wX i es ts= .inr ts' ->(∀t∈ts,t.wf)->∀t∈ts',t.wf
 |[],i,ts,ts',h,hw=>by cases h;exact hw|n::es,i,ts,ts',h,hw=>by
  unfold wX at h;cases hp:push n ts with
  |inl c=>rw[hp]at h;cases h|inr t2=>
   rw[hp]at h;simp only at h;split at h
   .cases h
   .exact a1O es (i+1) t2 ts' h (b4p hp hw)
variable {e:List (Int×Int)}
theorem EO{t:XT}(h:kP e= .inr t):t.wf:=by
 unfold kP at h;split at h
 .cases h
 split at h
 .cases h
 split at h
 .cases h
 .rename_i t' hp;cases h;exact a1O e 0 [] [t] hp A7 t A7
 .cases h
def a4o(n:Int×Int)(ops:List (Int×Int))(sg:U4):(Int×Int)×Int:=(yH n ops sg).getD ((0,0),0)
def OT(sg:U4)(n:Int×Int)(ops:List (Int×Int))(i:Nat):(Int×Int)⊕(Int×Int):=if(a4o n ops sg).2=0 then .inr (a4o n ops sg).1 else .inl ((i:Int),(a4o n ops sg).2)
def BH(sg:U4):XT->Nat->(Int×Int)⊕(Int×Int)
 | .l0 n,o=>OT sg n [] o
 | .l1 n a,o=>match BH sg a o with
  | .inl x=> .inl x| .inr ta=>OT sg n [ta] (o+a.size)
 | .l2 n a b,o=>match BH sg a o with
  | .inl x=> .inl x
  | .inr ta=>match BH sg b (o+a.size)with
   | .inl x=> .inl x| .inr tb=>OT sg n [ta,tb] (o+a.size+b.size)
 | .l3 n a b c,o=>match BH sg a o with
  | .inl x=> .inl x
  | .inr ta=>match BH sg b (o+a.size)with
   | .inl x=> .inl x
   | .inr tb=>match BH sg c (o+a.size+b.size)with
    | .inl x=> .inl x| .inr tc=>OT sg n [ta,tb,tc] (o+a.size+b.size+c.size)
variable {sg:U4}{i:Nat}{t:Int×Int}
theorem QP{n:Int×Int}{ops:List (Int×Int)}(hN:jg n.2)(hv:∀t∈ops,VT t)(hl:x8 ops=qp n.1)(h:OT sg n ops i= .inr t):VT t:=by
 obtain⟨r,h1,h2,h3⟩:=a6h sg n hN ops hv hl;unfold OT at h;split at h
 .rename_i h0;cases h;have e:a4o n ops sg=r:=by unfold a4o;rw[h1];rfl
  rw[e]at h0 ⊢;exact h3 h0
 .cases h
section
variable (e:List (Int×Int)) (sg:U4) (z:Int×Int)
def b5u(f:(Int×Int)×List (Int×Int)×Int->Option (Out ((Int×Int)×List (Int×Int)×Int) ((Int×Int)×List (Int×Int)) ((Int×Int)×Int×Int))):Prop:=
 ∀(i:Nat) (n:Int×Int) (s ops:List (Int×Int)),e[i]? =some n->i<=100->x8 ops=qp n.1->(∀t∈ops,VT t)->s.length+ops.length<=100->
  f (z,s++ops,(i:Int))=some (match OT sg n ops i with| .inl x=> .rt ((0,0),x)| .inr t=> .nx (z,s++[t],((i+1:Nat):Int)))
theorem a8j{f:(Int×Int)×List (Int×Int)×Int->Option (Out ((Int×Int)×List (Int×Int)×Int) ((Int×Int)×List (Int×Int)) ((Int×Int)×Int×Int))}
  (he:e.length<=48) (hI:∀n∈e,jg n.2) (hs:b5u e sg z f):∀(t:XT),t.wf->∀(pre suf s:List (Int×Int)) (k:Nat),e=pre++t.post++suf->s.length<=pre.length->
  iy f (k+t.size) (z,s,(pre.length:Int))=(match BH sg t pre.length with| .inl x=>some (.inr ((0,0),x))| .inr r=>iy f k (z,s++[r],((pre.length+t.size:Nat):Int)))/\∀r,BH sg t pre.length= .inr r->VT r:=by
 intro t;have step:∀(i k:Nat) (n:Int×Int) (s ops:List (Int×Int)),e[i]? =some n->x8 ops=qp n.1->(∀t∈ops,VT t)->s.length+ops.length<=100->
   iy f (k+1) (z,s++ops,(i:Int))=(match OT sg n ops i with| .inl x=>some (.inr ((0,0),x))| .inr r=>iy f k (z,s++[r],((i+1:Nat):Int))):=by
  intro i k n s ops h1 h2 h3 h4;rw[iy,hs i n s ops h1 (by have:=(aV.1 h1).1;omega) h2 h3 h4];cases OT sg n ops i<;>rfl
 have getn:∀(pre suf:List (Int×Int)) (n:Int×Int),e=pre++[n]++suf->e[pre.length]? =some n:=by intro pre suf n h;rw[h,E5,F8 o5,aN];rfl
 have mem:∀(i:Nat) (n:Int×Int),e[i]? =some n->jg n.2:=λi n h=>hI n (zg h);induction t with
 |l0 n=>
  intro hw pre suf s k hd hl;have hn:=getn pre suf n hd;have hlen:pre.length<e.length:=(aV.1 hn).1;have hz:x8 ([]:List (Int×Int))=qp n.1:=by rw[show qp n.1=0 from hw];rfl
  have h:=step pre.length k n s [] hn hz A7 F9;rw[F6]at h;exact⟨h,λr hr=>QP (mem _ n hn) A7 hz hr⟩
 |l1 n a iha=>
  intro hw pre suf s k hd hl;simp only[XT.post,E5]at hd;have hpa:(pre++a.post).length=pre.length+a.size:=by simp[XT.post_len]
  have hn:=getn (pre++a.post) suf n (by simpa using hd);rw[hpa]at hn;have hlen:=(aV.1 hn).1;obtain⟨i1,i2⟩:=iha hw.2 pre ([n]++suf) s (k+1) (by simpa using hd) hl;simp only[XT.size,BH];rw[show k+(a.size+1)=(k+1)+a.size by omega,i1];cases ht:BH sg a pre.length with
  |inl x=>exact⟨rfl,λr hr=>by cases hr⟩|inr ta=>
   have hz:x8 [ta]=qp n.1:=by rw[show qp n.1=1 from hw.1];rfl
   have hv:∀t∈[ta],VT t:=by simpa using i2 ta ht
   exact⟨step _ k n s [ta] hn hz hv F9,λr hr=>QP (mem _ n hn) hv hz hr⟩
 |l2 n a b iha ihb=>
  intro hw pre suf s k hd hl;simp only[XT.post,E5]at hd;have hpa:(pre++a.post).length=pre.length+a.size:=by simp[XT.post_len]
  have hpb:(pre++a.post++b.post).length=pre.length+a.size+b.size:=by simp[XT.post_len];omega
  have hn:=getn (pre++a.post++b.post) suf n (by simpa using hd);rw[hpb]at hn;have hlen:=(aV.1 hn).1;obtain⟨i1,i2⟩:=iha hw.2.1 pre (b.post++[n]++suf) s (k+1+b.size) (by simpa using hd) hl;simp only[XT.size,BH];rw[show k+(a.size+b.size+1)=(k+1+b.size)+a.size by omega,i1];cases ht:BH sg a pre.length with
  |inl x=>exact⟨rfl,λr hr=>by cases hr⟩|inr ta=>
   have hsa:=a.size_pos;obtain⟨j1,j2⟩:=ihb hw.2.2 (pre++a.post) ([n]++suf) (s++[ta]) (k+1) (by simpa using hd) (by simp[XT.post_len];omega);rw[hpa]at j1 j2;simp only;rw[j1];cases hu:BH sg b (pre.length+a.size)with
   |inl x=>exact⟨rfl,λr hr=>by cases hr⟩|inr tb=>
    have hz:x8 [ta,tb]=qp n.1:=by rw[show qp n.1=2 from hw.1];rfl
    have hv:∀t∈[ta,tb],VT t:=by simpa using ⟨i2 ta ht,j2 tb hu⟩
    have:=step _ k n s [ta,tb] hn hz hv F9;simp only[E5,I7,G9];rw[show pre.length+(a.size+b.size+1)=pre.length+a.size+b.size+1 by omega];exact⟨this,λr hr=>QP (mem _ n hn) hv hz hr⟩
 |l3 n a b c iha ihb ihc=>
  intro hw pre suf s k hd hl;simp only[XT.post,E5]at hd;have hpa:(pre++a.post).length=pre.length+a.size:=by simp[XT.post_len]
  have hpb:(pre++a.post++b.post).length=pre.length+a.size+b.size:=by simp[XT.post_len];omega
  have hpc:(pre++a.post++b.post++c.post).length=pre.length+a.size+b.size+c.size:=by simp[XT.post_len];omega
  have hn:=getn (pre++a.post++b.post++c.post) suf n (by simpa using hd);rw[hpc]at hn;have hlen:=(aV.1 hn).1;obtain⟨i1,i2⟩:=iha hw.2.1 pre (b.post++(c.post++([n]++suf))) s (k+1+c.size+b.size) (by simpa using hd) hl;simp only[XT.size,BH];rw[show k+(a.size+b.size+c.size+1)=(k+1+c.size+b.size)+a.size by omega,i1];have hsa:=a.size_pos;have hsb:=b.size_pos;cases ht:BH sg a pre.length with
  |inl x=>exact⟨rfl,λr hr=>by cases hr⟩|inr ta=>
   obtain⟨j1,j2⟩:=ihb hw.2.2.1 (pre++a.post) (c.post++([n]++suf)) (s++[ta]) (k+1+c.size) (by simpa using hd) (by simp[XT.post_len];omega);rw[hpa]at j1 j2;simp only;rw[j1];cases hu:BH sg b (pre.length+a.size)with
   |inl x=>exact⟨rfl,λr hr=>by cases hr⟩|inr tb=>
    obtain⟨q1,q2⟩:=ihc hw.2.2.2 (pre++a.post++b.post) ([n]++suf) (s++[ta]++[tb]) (k+1) (by simpa using hd) (by simp[XT.post_len];omega);rw[hpb]at q1 q2;simp only;rw[q1];cases hc:BH sg c (pre.length+a.size+b.size)with
    |inl x=>exact⟨rfl,λr hr=>by cases hr⟩|inr tc=>
     have hz:x8 [ta,tb,tc]=qp n.1:=by rw[show qp n.1=3 from hw.1];rfl
     have hv:∀t∈[ta,tb,tc],VT t:=by simpa using ⟨i2 ta ht,j2 tb hu,q2 tc hc⟩
     have:=step _ k n s [ta,tb,tc] hn hz hv F9;simp only[E5,I7,G9];rw[show pre.length+(a.size+b.size+c.size+1)=pre.length+a.size+b.size+c.size+1 by omega];exact⟨this,λr hr=>QP (mem _ n hn) hv hz hr⟩
end
def BG(e:List (Int×Int))(sg:U4):(Int×Int)×Int×Int:=match kP e with
 | .inl x=>((0,0),x)
 | .inr t=>match BH sg t 0 with
  | .inl x=>((0,0),x)| .inr r=>(r,0,0)
variable {α:Type}
theorem a5k(s ops:List α)(k:Int)(hk:x8 ops=k)(h:s.length+ops.length<=100):
  N7 .i64 (x8 (s++ops)) k=(s.length:Int)/\lK (s.length:Int) (x8 (s++ops)) (x8 (s++ops))=true/\jW (s++ops) (Y1 (s.length:Int)) (Y1 (x8 (s++ops)))=ops
  /\lK 0 (s.length:Int) (x8 (s++ops))=true/\jW (s++ops) (Y1 0) (Y1 (s.length:Int))=s:=by
 subst hk;refine⟨?_,?_,?_,?_,?_⟩
 .rw[di (by unfold jg;simp[x8];omega)];simp[x8]
 .simp[lK,x8];omega
 .show((s++ops).take (((s++ops).length:Nat):Int).toNat).drop s.length=ops;rw[J7,dW,X4]
 .simp[lK,x8];omega
 .simp[jW,Y1]
theorem a5j{f:(Int×Int)×List (Int×Int)×Int->Option (Out ((Int×Int)×List (Int×Int)×Int) ((Int×Int)×List (Int×Int)) ((Int×Int)×Int×Int))}
  (hI:∀n∈e,jg n.2) (hs:b5u e sg (0,0) f) (hend:∀s,f ((0,0),s,(e.length:Int))=some (.ex ((0,0),s))) (hcode:∀x,kP e= .inl x->x.2≠0):
  l7 (G6 (x9 (vZ e).2.2 0)) (some ((((0:Int),(0:Int)),(vZ e).2):(Int×Int)×Int×Int)) (l9 (O6 f (((0:Int),(0:Int)),([]:List (Int×Int)),(0:Int))) λ(o:(Int×Int)×List (Int×Int)⊕(Int×Int)×Int×Int)=>
   U1 o (λ(y:(Int×Int)×List (Int×Int))=>l9 (J9 y.2 0) λ(x:Int×Int)=>l9 (ah y.2 (Y1 0)) λ(x:Int×Int)=>some (x,0,0)) λ(r:(Int×Int)×Int×Int)=>some r)=some (BG e sg):=by
 unfold vZ BG;cases h:kP e with
 |inl x=>simp only[O5 (hcode x h),V7,o7]|inr t=>
  obtain⟨hp,h48⟩:=oQ h;have hw:=EO h;obtain⟨l1,_⟩:=a8j e sg (0,0) h48 hI hs t hw [] [] [] (aH -t.size) (by simpa using hp) A7;have hsz:e.length=t.size:=by rw[hp,XT.post_len]
  have hlo:O6 f (((0:Int),(0:Int)),([]:List (Int×Int)),(0:Int))=iy f (aH -t.size+t.size) ((0,0),[],(([]:List (Int×Int)).length:Int)):=by unfold O6;rw[Nat.sub_add_cancel (by unfold aH;omega)];rfl
  simp only[O9 (rfl:(0:Int)=0),G8,o6];rw[hlo,l1];simp only[I8,dR];cases BH sg t 0 with
  |inl x=>rfl|inr r=>obtain⟨k,hk⟩:∃k,aH -t.size=k+1:=⟨aH -t.size -1,by unfold aH;omega⟩;simp only[G9];rw[hk,iy,←hsz,hend];rfl
theorem yf{x:Int×Int}(h:kP e= .inl x):x.2≠0:=by
 have key:∀(es:List (Int×Int)) (i:Nat) (ts:List XT) (x:Int×Int),wX i es ts= .inl x->x.2≠0:=by
  intro es;induction es with
  |nil=>intro i ts x h;cases h|cons n es ih=>
   intro i ts x h;unfold wX at h;cases hp:push n ts with
   |inl c=>
    rw[hp]at h;cases h;show c≠0;unfold push at hp
    (repeat' split at hp)<;>first|(cases hp;done)|(cases hp;decide)
   |inr t2=>
    rw[hp]at h;simp only at h;split at h
    .cases h;show(16:Int)≠0;decide
    .exact ih _ _ _ h
 unfold kP at h;split at h
 .cases h;show(4:Int)≠0;decide
 split at h
 .cases h;show(5:Int)≠0;decide
 split at h
 .rename_i y hp;cases h;exact key _ _ _ _ hp
 .cases h
 .cases h;show(4:Int)≠0;decide
theorem a8i(sg:U4)(hI:∀n∈e,jg n.2):GX e sg=some (BG e sg):=by
 unfold GX;rw[Kv,o9];refine a5j hI (λi n s ops hn hi2 hl hv hlen=>?_) (λs=>?_) (λx h=>yf h)
 .obtain⟨r,h1,h2,h3⟩:=a6h sg n (hI n (zg hn)) ops hv hl;obtain⟨v1,v2,v3,v4,v5⟩:=a5k s ops _ hl hlen;have e' :a4o n ops sg=r:=by unfold a4o;rw[h1];rfl
  have hi:=(aV.1 hn).1;simp only[X9 hn,o7,U8,hn,o9,a8z,v1,v2,v3,v4,v5];unfold OT;rw[e'];unfold EN at h2;have fin:bY n ops sg=some r->(l9 (bY n ops sg) λ(x_3:rf×Int)=>l7 (G6 (x9 x_3.2 0)) (some (Out.rt ((((0:Int),(0:Int)),((i:Int),x_3.2)):(Int×Int)×Int×Int)))
    (l9 (bF s [x_3.1]) λ(x_4:List rf)=>some (Out.nx (((0:Int),(0:Int)),x_4,E9 .i64 (i:Int) 1))))=
    some (match if r.2=0 then(.inr r.1:(Int×Int)⊕(Int×Int))else .inl ((i:Int),r.2)with| .inl x=>Out.rt ((0,0),x)| .inr t=>(Out.nx ((0,0),s++[t],((i+1:Nat):Int)):Out ((Int×Int)×List (Int×Int)×Int) ((Int×Int)×List (Int×Int)) ((Int×Int)×Int×Int))):=by
   intro hr;rw[hr,o9];by_cases h0:r.2=0
   .rw[if_pos h0,O9 h0];simp only[G8,o6];rw[qV _ o5,o9,fF o5]
   .rw[if_neg h0,O5 h0];rfl
  cases hz:x9 n.2 0
  .rw[hz]at h2;simp only[V7,o7]at h2 ⊢;cases hu:bW n.1 with
   |none=>rw[hu]at h2;cases h2|some u=>
    rw[hu]at h2;simp only[o9]at h2 ⊢;cases u
    .simp only[V7,o7]at h2 ⊢;cases h2;rfl
    .exact fin h2
  .rw[hz]at h2;exact fin h2
 .rw[af];rfl
section
variable {α β σ ε ρ:Type}
theorem FC(l:List α)(G:β->α->β)(mk:β->Int->σ)(fin:β->ε)(Inv:Nat->β->Prop){f:σ->Option (σ⊕ε)}{b:β}(hl:l.length<=1000000)(h0:Inv 0 b)
  (hin:∀(i:Nat) (a:α) (b:β),l[i]? =some a->i<=1000000->Inv i b->f (mk b (i:Int))=some (.inl (mk (G b a) ((i+1:Nat):Int)))/\Inv (i+1) (G b a))
  (hend:∀b,Inv l.length b->f (mk b (l.length:Int))=some (.inr (fin b))):
  bC f (mk b 0)=some (fin (l.foldl G b))/\Inv l.length (l.foldl G b):=by
 have key:∀(n i:Nat) (b:β),i<=l.length->l.length -i<n->Inv i b->zU f n (mk b (i:Int))=some (fin ((l.drop i).foldl G b))/\Inv l.length ((l.drop i).foldl G b):=by
  intro n;induction n with
  |zero=>intro i b _ h _;omega|succ n ih=>
   intro i b hi hn hI;unfold zU;by_cases h:i<l.length
   .have e:=qi h;obtain⟨h1,h2⟩:=hin i _ b e o5 hI;rw[h1,aA h];exact ih (i+1) _ o5 o5 h2
   .have:i=l.length:=o5;subst this;rw[hend b hI,BO];exact⟨rfl,hI⟩
 have:=key aH 0 b o5 (by unfold aH;omega) h0;exact this
theorem FB{γ:Type}(l:List α)(G:β->α->β)(mk:β->Int->σ)(fin:β->ε)(Inv:Nat->β->Prop)(b:β){f:σ->Option (σ⊕ε)}{K:ε->Option γ}{r:Option γ}(hl:l.length<=1000000)(h0:Inv 0 b)
  (hin:∀(i:Nat) (a:α) (b:β),l[i]? =some a->i<=1000000->Inv i b->f (mk b (i:Int))=some (.inl (mk (G b a) ((i+1:Nat):Int)))/\Inv (i+1) (G b a))
  (hend:∀b,Inv l.length b->f (mk b (l.length:Int))=some (.inr (fin b))) (hk:Inv l.length (l.foldl G b)->K (fin (l.foldl G b))=r):l9 (bC f (mk b 0)) K=r:=by
 obtain⟨h1,h2⟩:=FC l G mk fin Inv hl h0 hin hend;rw[h1];exact hk h2
def mZ(G:β->α->β⊕ρ):List α->β->β⊕ρ
 |[],b=> .inl b
 |a::l,b=>match G b a with| .inl b' =>mZ G l b'| .inr r=> .inr r
theorem a3V(l:List α)(G:β->α->β⊕ρ)(mk:β->Int->σ)(fin:β->ε)(Inv:Nat->β->Prop){f:σ->Option (Out σ ε ρ)}{b:β}(hl:l.length<=1000000)(h0:Inv 0 b)
  (hin:∀(i:Nat) (a:α) (b:β),l[i]? =some a->i<=1000000->Inv i b->f (mk b (i:Int))=some (match G b a with| .inl b' => .nx (mk b' ((i+1:Nat):Int))| .inr r=> .rt r)/\∀b',G b a= .inl b' ->Inv (i+1) b')
  (hend:∀b,Inv l.length b->f (mk b (l.length:Int))=some (.ex (fin b))):
  O6 f (mk b 0)=some (match mZ G l b with| .inl b' => .inl (fin b')| .inr r=> .inr r)/\∀b',mZ G l b= .inl b' ->Inv l.length b' :=by
 have key:∀(n i:Nat) (b:β),i<=l.length->l.length -i<n->Inv i b->iy f n (mk b (i:Int))=some (match mZ G (l.drop i) b with| .inl b' => .inl (fin b')| .inr r=> .inr r)/\∀b',mZ G (l.drop i) b= .inl b' ->Inv l.length b' :=by
  intro n;induction n with
  |zero=>intro i b _ h _;omega|succ n ih=>
   intro i b hi hn hI;unfold iy;by_cases h:i<l.length
   .have e:=qi h;obtain⟨h1,h2⟩:=hin i _ b e o5 hI;rw[h1,aA h];unfold mZ;cases hg:G b l[i]with
    |inr r=>exact⟨rfl,λb' hb=>by cases hb⟩|inl b' =>exact ih (i+1) _ o5 o5 (h2 b' hg)
   .have:i=l.length:=o5;subst this;rw[hend b hI,BO];exact⟨rfl,λb' hb=>by cases hb;exact hI⟩
 have:=key aH 0 b o5 (by unfold aH;omega) h0;exact this
theorem FD{γ:Type}(l:List α)(G:β->α->β⊕ρ)(mk:β->Int->σ)(fin:β->ε)(Inv:Nat->β->Prop)(b:β){f:σ->Option (Out σ ε ρ)}{K:ε⊕ρ->Option γ}{r:Option γ}(hl:l.length<=1000000)(h0:Inv 0 b)
  (hin:∀(i:Nat) (a:α) (b:β),l[i]? =some a->i<=1000000->Inv i b->f (mk b (i:Int))=some (match G b a with| .inl b' => .nx (mk b' ((i+1:Nat):Int))| .inr r=> .rt r)/\∀b',G b a= .inl b' ->Inv (i+1) b')
  (hend:∀b,Inv l.length b->f (mk b (l.length:Int))=some (.ex (fin b)))
  (hk:(∀b',mZ G l b= .inl b' ->Inv l.length b')->K (match mZ G l b with| .inl b' => .inl (fin b')| .inr r=> .inr r)=r):l9 (O6 f (mk b 0)) K=r:=by
 obtain⟨h1,h2⟩:=a3V l G mk fin Inv hl h0 hin hend;rw[h1];exact hk h2
end
def Nu(c:UInt8):Bool:=decide (32<=c.toNat)&&decide (c.toNat<=126)&&decide (c.toNat≠34)
def Qg(s:d2g):Bool:=decide (s.length<=64)&&s.all Nu
theorem a5R(c:UInt8):∀s:d2g,decide (0<=Lib.indexByte s c)=s.any λx=>decide (x.toNat=c.toNat)
 |[]=>by simp[Lib.indexByte]|b::l=>by
  have ih:=a5R c l;have hge:=Lib.indexByte_ge l c;rw[List.any_cons,←ih];have e:Lib.indexByte (b::l) c=if b=c then 0 else if Lib.indexByte l c=-1 then -1 else Lib.indexByte l c+1:=by rw[Lib.indexByte];simp
  rw[e];by_cases h:b=c
  .subst h;simp
  .have h2:b.toNat≠c.toNat:=λhh=>h (UInt8.toNat_inj.1 hh);rw[if_neg h,show decide (b.toNat=c.toNat)=false by simp[h2],PP];by_cases h3:Lib.indexByte l c=-1
   .rw[h3];rfl
   .rw[if_neg h3];simp;omega
theorem XH(c:UInt8):Nu c=(!H5 (c.toNat:Int) 32&&!H5 126 (c.toNat:Int)&&!x9 (c.toNat:Int) 34):=by unfold Nu H5 x9;rw[tu];simp;omega
theorem Vb(s:d2g)(p:UInt8->Bool):(∀(i:Nat) (a:UInt8),s[i]? =some a->p a=true)↔s.all p=true:=by rw[ax];exact⟨λh x hx=>by obtain⟨i,hi,rfl⟩:=eU hx;exact h i _ (qi hi),λh i a hi=>h a (zg hi)⟩
theorem XP{s:d2g}(h:s.length<=1000000):zD s=some (Qg s):=by
 unfold zD;have h5:H5 64 (x8 s)= !decide (s.length<=64):=by simp only[H5,x8];rw[←decide_not];congr 1;simp;omega
 rw[h5,show yV s [34]=some (s.any λx=>decide (x.toNat=(34:UInt8).toNat))from congrArg some (a5R 34 s)];unfold Qg;cases decide (s.length<=64)
 .rfl
 simp only[nO,o6,o9,nP];cases h34:s.any λx=>decide (x.toNat=(34:UInt8).toNat)
 case true=>
  obtain⟨x,hx,hx2⟩:=wW.1 h34;simp only[decide_eq_true_eq]at hx2;have:s.all Nu=false:=by rw[List.all_eq_false];refine⟨x,hx,?_⟩;unfold Nu;rw[hx2];decide
  rw[this];rfl
 simp only[o6];refine V5 (Ja s (λi a=>Nu a) false PUnit.unit _ o5 (λi x hx=>?_) ?_) ?_
 rotate_left 2
 .by_cases hw:s.all Nu=true
  .rw[if_pos ((Vb s Nu).2 hw),hw];rfl
  .rw[if_neg (λh=>hw ((Vb s Nu).1 h))];simp only[wU]at hw;rw[hw];rfl
 .have hi:=(aV.1 hx).1;have hne:x9 (x.toNat:Int) 34=false:=by
   have:=(eG.1 h34) x (zg hx);simp only[decide_eq_true_eq]at this;exact O5 (by have h:(34:UInt8).toNat=34:=rfl;omega)
  simp only[X9 hx,o7,vX,hx,eX,o9];rw[fF o5,XH,hne];cases H5 (x.toNat:Int) 32<;>cases H5 126 (x.toNat:Int)<;>rfl
 .rw[af];rfl
def Po(e:List (Int×Int))(sg:U4)(t:Int×Int):Int:=l7 (x9 (BG e sg).2.2 0) (l7 (fE (x9 (BG e sg).1.1 t.1) (x9 (BG e sg).1.2 t.2)) 0 8) (BG e sg).2.2
theorem Qv(sg:U4)(t:Int×Int)(hI:∀n∈e,jg n.2):wL e sg t=some (Po e sg t):=by
 unfold wL Po;rw[a8i sg hI,o9];cases x9 (BG e sg).2.2 0
 .rfl
 simp only[G8,o6,o7];cases fE (x9 (BG e sg).1.1 t.1) (x9 (BG e sg).1.2 t.2)<;>rfl
def a2Y(r:iZ):Prop:=r.1.length<=4611686018427387904/\r.2.2.2.2.2.2.2.length<=1000000/\(∀n∈r.2.2.2.2.2.1,jg n.2)/\(∀n∈r.2.2.2.2.2.2.1,jg n.2)
def ZV(rs:List iZ)(d:Int):Nat:=rs.countP λo=>x9 o.2.1 d
def Wx(r:iZ)(sg:U4)(t:Int×Int):Int:=
 l7 (H5 0 (x8 r.2.2.2.2.2.1)) (l7 (x9 (Po r.2.2.2.2.2.1 sg (1,0)) 0) (Po r.2.2.2.2.2.2.1 sg t) (Po r.2.2.2.2.2.1 sg (1,0))) (Po r.2.2.2.2.2.2.1 sg t)
def UF(s:V6)(sg:U4)(k:Nat)(r:iZ):Int:=
 l7 (gz r.1) (l7 ((s.2.2.2.2.take k).any λx=>seq x.1 r.1) 7 (match J9 s.2.2.2.1 r.2.1 with
  |none=>6|some d=>l7 (l7 (x9 r.2.2.1 (-1)) false (l7 (H5 r.2.2.1 0) true (l7 (P7 k r.2.2.1) true (match J9 s.2.2.2.2 r.2.2.1 with|some q=>G6 (x9 q.2.1 r.2.1)|none=>true)))) 9
   (l7 (H5 r.2.2.2.1 0) 3 (l7 (H5 9 r.2.2.2.1) 3 (l7 (Ot r.2.2.2.2.1) (l7 (x9 r.2.2.2.2.1.1 r.2.2.2.2.1.2) 3
    (l7 (P7 8 (ZV (s.2.2.2.2.take k) r.2.1)) 4 (l7 (Qg r.2.2.2.2.2.2.2) (Wx r sg d.2) 2))) 3))))) 2
theorem Fj{l:List α}{i:Int}(h:P7 0 i=false\/H5 i (x8 l)=false):J9 l i=none:=by
 unfold J9
 split
 .rename_i h0;rcases h with h|h
  .rw[Tc]at h;omega
  .rw[nM]at h;simp only[x8]at h;exact fG o5
 .rfl
variable {s:V6}{r:iZ}{k:Nat}
theorem ZT(sg:U4)(hr:s.2.2.2.2[k]? =some r)(hl:s.2.2.2.2.length<=100000)(h:a2Y r):Df s (k:Int) sg=some (UF s sg k r):=by
 have hk:=(aV.1 hr).1;have hcnt:ZV (s.2.2.2.2.take k) r.2.1<=100000:=by have:=List.countP_le_length (l:=s.2.2.2.2.take k) (p:=λ(o:iZ)=>x9 o.2.1 r.2.1);unfold ZV;simp at this;omega
 unfold Df;rw[U8,hr,o9,Ak o5,o9];refine V5 (FC (s.2.2.2.2.take k) (λ(c:Nat) (o:iZ)=>l7 (x9 o.2.1 r.2.1) (c+1) c) (λc i=>((c:Int),i)) (λc=>(c:Int)) (λi c=>c<=i) (b:=0) F9 o5 (λi a c ha hi hc=>?_) (λc hc=>?_)).1 ?_
 rotate_left 2
 .have hf:∀(l:List iZ) (c:Nat),l.foldl (λ(c:Nat) (o:iZ)=>l7 (x9 o.2.1 r.2.1) (c+1) c) c=c+ZV l r.2.1:=by
   intro l;induction l with
   |nil=>intro c;rfl|cons a l ih=>intro c;rw[dK,ih];unfold ZV;rw[List.countP_cons];cases x9 a.2.1 r.2.1<;>simp<;>omega
  rw[hf,dR,o9,nH h.1,o9,o9,a3O _ F9,o9];unfold UF;cases gz r.1
  .rfl
  simp only[G8,o6,o7,o9];cases (s.2.2.2.2.take k).any λx=>seq x.1 r.1
  case true=>rfl
  simp only[o6];rw[GY r.2.1 0,Vh (x8 s.2.2.2.1) r.2.1];cases h0:P7 0 r.2.1
  .rw[Fj (.inl h0)];rfl
  cases h1:H5 r.2.1 (x8 s.2.2.2.1)
  .rw[Fj (.inr h1)];rfl
  obtain⟨d,hd,_⟩:=ui (uF.1 h0) (Em.1 h1);rw[hd];simp only[nO,o6,o9,XP h.2.1];have hpar:(l7 (G6 (x9 r.2.2.1 (-1))) (l7 (H5 r.2.2.1 0) (some true) (l7 (P7 (k:Int) r.2.2.1) (some true) (l9 (J9 s.2.2.2.2 r.2.2.1) λ(x_6:iZ)=>some (G6 (x9 x_6.2.1 r.2.1))))) (some false))=
    some (l7 (x9 r.2.2.1 (-1)) false (l7 (H5 r.2.2.1 0) true (l7 (P7 k r.2.2.1) true (match J9 s.2.2.2.2 r.2.2.1 with|some q=>G6 (x9 q.2.1 r.2.1)|none=>true)))):=by
   cases x9 r.2.2.1 (-1)
   case true=>rfl
   simp only[V7,o7,o6];cases hp0:H5 r.2.2.1 0
   case true=>rfl
   cases hp1:P7 (k:Int) r.2.2.1
   case true=>rfl
   rw[nM]at hp0;rw[Tc]at hp1;obtain⟨q,hq,_⟩:=ui (l:=s.2.2.2.2) hp0 (by simp only[x8];omega);rw[hq];rfl
  rw[hpar,o9];cases (l7 (x9 r.2.2.1 (-1)) false (l7 (H5 r.2.2.1 0) true (l7 (P7 k r.2.2.1) true (match J9 s.2.2.2.2 r.2.2.1 with|some q=>G6 (x9 q.2.1 r.2.1)|none=>true))))
  case true=>rfl
  simp only[o6];cases H5 r.2.2.2.1 0
  case true=>rfl
  simp only[o6,o9];cases H5 9 r.2.2.2.1
  case true=>rfl
  simp only[o6];have hval:∀(A B:Option (iZ⊕Int)),l7 (H5 r.2.2.2.2.1.1 0) A (l7 (P7 r.2.2.2.2.1.2 r.2.2.2.2.1.1) A (l7 (H5 109573 r.2.2.2.2.1.2) A B))=l7 (Ot r.2.2.2.2.1) (l7 (x9 r.2.2.2.2.1.1 r.2.2.2.2.1.2) A B) A:=by
   intro A B;unfold Ot;by_cases v0:r.2.2.2.2.1.1<(0:Int)
   .rw[bT v0,dO (show r.2.2.2.2.1.1<(0:Int)from v0)];rfl
   rw[X5 (wC.1 v0),Z9 (wC.1 v0)];by_cases v1:(r.2.2.2.2.1.2:Int)<=r.2.2.2.2.1.1
   .rw[Z9 v1];by_cases v2:(r.2.2.2.2.1.1:Int)<=r.2.2.2.2.1.2
    .rw[Z9 v2,O9 (Int.le_antisymm v2 v1)];cases P7 r.2.2.2.2.1.2 109573<;>rfl
    .rw[dO (wz.1 v2)];rfl
   .have v1' :=wz.1 v1;rw[dO v1',Z9 (Int.le_of_lt v1'),O5 (λhh=>by rw[hh]at v1';exact Int.lt_irrefl _ v1'),GY];cases P7 r.2.2.2.2.1.2 109573<;>rfl
  rw[hval];cases Ot r.2.2.2.2.1
  .rfl
  cases x9 r.2.2.2.2.1.1 r.2.2.2.2.1.2
  case true=>rfl
  simp only[o7,o6];cases P7 8 ((ZV (s.2.2.2.2.take k) r.2.1:Nat):Int)
  case true=>rfl
  cases Qg r.2.2.2.2.2.2.2
  .rfl
  simp only[G8,o6,o7,o9,X8,Wx,hd,Qv sg _ h.2.2.1,Qv sg _ h.2.2.2];cases H5 0 (x8 r.2.2.2.2.2.1)
  .rfl
  simp only[o7];cases x9 (Po r.2.2.2.2.2.1 sg (1,0)) 0<;>rfl
 .have hc' :c<=1000000:=o5;obtain⟨ha1,ha2⟩:=a2H ha;simp only[X9 ha,o7,U8,ha,o9];rw[fF (show i<=9000000000000000000 by omega),fF (show c<=9000000000000000000 by omega)];cases x9 a.2.1 r.2.1
  .exact⟨rfl,by show c<=i+1;omega⟩
  .exact⟨rfl,by show c+1<=i+1;omega⟩
 .simp only[af];rfl
structure SmS (s:V6):Prop where
 nm:s.1.length<=1000000
 ni:s.2.2.1.length<=14
 nd:s.2.2.2.1.length<=14
 nr:s.2.2.2.2.length<=96
 fo:a0I s
 ro:∀r∈s.2.2.2.2,a2Y r/\r.2.2.2.2.2.1.length<=50/\r.2.2.2.2.2.2.1.length<=50
def isM(op:Int):Bool:=l7 (P7 36 op) (P7 op 39) false
theorem b6C(op:Int):isM op=l7 (x9 op 36) true (l7 (x9 op 37) true (l7 (x9 op 38) true (x9 op 39))):=by
 unfold isM;by_cases h1:36<=op
 .rw[Z9 h1,o7];by_cases h2:op<=39
  .rw[Z9 h2];have:op=36\/op=37\/op=38\/op=39:=o5;rcases this with rfl|rfl|rfl|rfl<;>rfl
  .rw[dO o5,O5 o5,O5 o5,O5 o5,O5 o5];rfl
 .rw[dO o5,O5 o5,O5 o5,O5 o5,O5 o5];rfl
def UZ(p:Int->Bool)(e:List (Int×Int)):d2h:=(e.filter λn=>p n.1).map (·.2)
def MS(e:List (Int×Int)):d2h×d2h×d2h:=(Qh (UZ (λo=>x9 o 7) e),Qh (UZ (λo=>x9 o 8) e),Qh (UZ isM e))
def b4s(g:d2h->Int->d2h)(b:d2h×d2h×d2h)(n:Int×Int):d2h×d2h×d2h:=
 (l7 (x9 n.1 7) (g b.1 n.2) b.1,l7 (x9 n.1 8) (g b.2.1 n.2) b.2.1,l7 (isM n.1) (g b.2.2 n.2) b.2.2)
theorem Zj(g:d2h->Int->d2h):∀(e:List (Int×Int)) (b:d2h×d2h×d2h),e.foldl (b4s g) b=((UZ (λo=>x9 o 7) e).foldl g b.1,(UZ (λo=>x9 o 8) e).foldl g b.2.1,(UZ isM e).foldl g b.2.2)
 |[],b=>rfl|n::e,b=>by
  have hn:∀p:Int->Bool,UZ p (n::e)=l7 (p n.1) (n.2::UZ p e) (UZ p e):=λp=>by unfold UZ;rw[kR];cases p n.1<;>rfl
  rw[dK,Zj g e,hn,hn,hn];unfold b4s;simp only;cases x9 n.1 7<;>cases x9 n.1 8<;>cases isM n.1<;>rfl
theorem YK:∀(l b:d2h),l.foldl (λacc n=>acc++[n]) b=b++l
 |[],b=>by simp|a::l,b=>by rw[dK,YK l];simp
theorem JC{a k:Int}(h:a=k)(m:Int)(hm:k≠m):x9 a m=false:=O5 o5
theorem GM{l:d2h}(hl:l.length<=1000000):wK l=some (Qh l):=by unfold wK;have:=b5e (l:=l) hl;rw[show(λx=>l9 (sW x) λ(x:d2h)=>some x)=λx=>sW x from funext λx=>uS _];exact this
theorem Pg(h:e.length<=1000000):ww e=some (MS e):=by
 unfold ww;refine FB e (b4s (λacc n=>acc++[n])) (λb i=>(b.1,b.2.1,b.2.2,i)) (λb=>b) (λi b=>b.1.length<=i/\b.2.1.length<=i/\b.2.2.length<=i) (([],[],[]):d2h×d2h×d2h) h A7 (λi a b ha hi hI=>?_) (λb hI=>?_) (λh2=>?_)
 .obtain⟨b1,b2,b3⟩:=b;simp only at hI;simp only[X9 ha,o7,U8,ha,o9,qV a.2 (show b1.length<=1000000 by omega),qV a.2 (show b2.length<=1000000 by omega),qV a.2 (show b3.length<=1000000 by omega),b4s,b6C];rw[fF o5];by_cases h7:a.1=7
  .rw[O9 h7,JC h7 8 D9,JC h7 36 D9,JC h7 37 D9,JC h7 38 D9,JC h7 39 D9];exact⟨rfl,by simp<;>omega,by simp<;>omega,by simp<;>omega⟩
  rw[O5 h7];by_cases h8:a.1=8
  .rw[O9 h8,JC h8 36 D9,JC h8 37 D9,JC h8 38 D9,JC h8 39 D9];exact⟨rfl,by simp<;>omega,by simp<;>omega,by simp<;>omega⟩
  rw[O5 h8];cases x9 a.1 36<;>cases x9 a.1 37<;>cases x9 a.1 38<;>cases x9 a.1 39<;>exact⟨rfl,by simp<;>omega,by simp<;>omega,by simp<;>omega⟩
 .simp only[af];rfl
 .rw[Zj]at h2 ⊢;simp only[YK,G9]at h2 ⊢;rw[GM o5,o9,GM o5,o9,GM o5];rfl
theorem a9x(p:Int->Bool)(e:List (Int×Int)):(UZ p e).length<=e.length:=by unfold UZ;rw[U0];exact iE _ _
theorem Oj(e:List (Int×Int)):(MS e).2.1.length<=e.length:=Y4 (a1r _) (a9x _ e)
def inD(n d:Int):Bool:=l7 (P7 0 d) (H5 d n) false
def ML(n:Int)(r:iZ):d2h:=(MS r.2.2.2.2.2.1).2.1.filter (inD n)++(MS r.2.2.2.2.2.2.1).2.1.filter (inD n)
theorem WF(p:Int->Bool):∀(l b:d2h),l.foldl (λacc x=>l7 (p x) (acc++[x]) acc) b=b++l.filter p
 |[],b=>by simp|a::l,b=>by rw[dK,WF p l,kR];cases p a<;>simp
theorem YH{f:d2h×Int->Option ((d2h×Int)⊕d2h)}(l b:d2h)(n:Int)(hl:l.length<=1000)(hb:b.length<=1000)
  (hin:∀(i:Nat) (a:Int) (acc:d2h),l[i]? =some a->i<=1000000->f (acc,(i:Int))=l7 (P7 0 a) (l7 (H5 a n) (l9 (bF acc [a]) λx=>some (.inl (x,E9 .i64 (i:Int) 1))) (some (.inl (acc,E9 .i64 (i:Int) 1)))) (some (.inl (acc,E9 .i64 (i:Int) 1))))
  (hend:∀acc,f (acc,(l.length:Int))=some (.inr acc)):bC f (b,0)=some (b++l.filter (inD n)):=by
 have key:=FC l (λ(acc:d2h) x=>l7 (inD n x) (acc++[x]) acc) (λb i=>(b,i)) (λb=>b) (λi acc=>acc.length<=1000+i) (f:=f) (b:=b) o5 o5 ?_ ?_
 .rw[key.1,WF]
 .intro i a acc ha hi hI;have:=(aV.1 ha).1;rw[hin i a acc ha hi,fF o5,qV _ o5];unfold inD;cases P7 0 a
  .exact⟨rfl,by show acc.length<=_;omega⟩
  cases H5 a n
  .exact⟨rfl,by show acc.length<=_;omega⟩
  .exact⟨rfl,by simp;omega⟩
 .intro acc hI;rw[hend]
theorem SA(n:Int)(h1:r.2.2.2.2.2.1.length<=50)(h2:r.2.2.2.2.2.2.1.length<=50):vK r n=some (ML n r):=by
 have g1:=Oj r.2.2.2.2.2.1;have g2:=Oj r.2.2.2.2.2.2.1;unfold vK ML;rw[Pg o5,o9,Pg o5,o9];refine V5 (YH (MS r.2.2.2.2.2.1).2.1 [] n o5 A7 (λi a acc ha hi=>?_) (λacc=>?_)) ?_
 rotate_left 2
 .rw[o9,uS,G9];have:=iE (inD n) (MS r.2.2.2.2.2.1).2.1;refine YH (MS r.2.2.2.2.2.2.1).2.1 _ n o5 o5 (λi a acc ha hi=>?_) (λacc=>?_)
  .simp only[X9 ha,o7,U8,ha,o9];rw[show ah (MS r.2.2.2.2.2.2.1).2.1 (Y1 (i:Int))=some a from ha,o9]
  .simp only[af];rfl
 .simp only[X9 ha,o7,U8,ha,o9];rw[show ah (MS r.2.2.2.2.2.1).2.1 (Y1 (i:Int))=some a from ha,o9]
 .simp only[af];rfl
def nD(s:V6):Int:=x8 s.2.2.2.1
def dl(n:Int)(rs:List iZ)(d:Int):d2h:=rs.flatMap λr=>l7 (x9 r.2.1 d) (ML n r) []
def Eh(s:V6)(d:Int):d2h:=l7 (inD (nD s) d) (Qh (dl (nD s) s.2.2.2.2 d)) []
theorem Zh(h:SmS s)(hr:r∈s.2.2.2.2)(n:Int):(ML n r).length<=100:=by obtain⟨_,h1,h2⟩:=h.ro r hr;have a1:=Oj r.2.2.2.2.2.1;have a2:=Oj r.2.2.2.2.2.2.1;have b1:=iE (inD n) (MS r.2.2.2.2.2.1).2.1;have b2:=iE (inD n) (MS r.2.2.2.2.2.2.1).2.1;unfold ML;rw[C9];omega
theorem a5F(n:Int)(rs:List iZ)(r:iZ)(d:Int):dl n (rs++[r]) d=dl n rs d++l7 (x9 r.2.1 d) (ML n r) []:=by unfold dl;rw[Io];simp
theorem b3w(n:Int)(rs:List iZ)(r:iZ)(d:Int):dl n (r::rs) d=l7 (x9 r.2.1 d) (ML n r) []++dl n rs d:=rfl
theorem a3v{s:V6}(h:SmS s)(n d:Int):∀(rs:List iZ),(∀r∈rs,r∈s.2.2.2.2)->(dl n rs d).length<=100*rs.length
 |[],_=>by simp[dl]|r::rs,hm=>by
  have ih:=a3v h n d rs λr hr=>hm r (by simp[hr]);have h1:=Zh h (hm r A7) n;rw[b3w,C9,D5];cases x9 r.2.1 d
  .simp only[o6,I8];omega
  .simp only[o7];omega
variable {d:Int}{x:Int}
theorem b6F{n:Int}{rs:List iZ} :x∈dl n rs d↔∃r∈rs,r.2.1=d/\x∈ML n r:=by
 unfold dl;rw[BP];constructor
 .rintro⟨r,hr,hx⟩;cases hq:x9 r.2.1 d<;>rw[hq]at hx
  .simp at hx
  .exact⟨r,hr,Z8.1 hq,hx⟩
 .rintro⟨r,hr,hq,hx⟩;exact⟨r,hr,by rw[O9 hq];exact hx⟩
theorem b0z{n:Int}(h:x∈ML n r):0<=x/\x<n:=by
 have key:inD n x=true:=by unfold ML at h;rcases J6.1 h with h|h<;>exact(oN.1 h).2
 unfold inD at key;cases h0:P7 0 x<;>rw[h0]at key
 .cases key
 .exact⟨uF.1 h0,Em.1 key⟩
theorem SE(s:V6)(d:Int):SI (Eh s d):=by
 unfold Eh;cases inD (nD s) d
 .exact List.Pairwise.nil
 .exact a6D _
theorem SC(h:x∈Eh s d):0<=x/\x<nD s:=by
 unfold Eh at h;cases hq:inD (nD s) d<;>rw[hq]at h
 .simp at h
 .obtain⟨r,_,_,hx⟩:=b6F.1 ((a1y _ _).1 h);exact b0z hx
theorem a6b(m k:Nat)(f:Nat->α)(v:α):((List.range m).map f).set k v=(List.range m).map λd=>if d=k then v else f d:=by
 apply dD;intro i;rw[U6,bG,bG,U0,iT];by_cases hi:i<m
 .rw[List.getElem?_range hi];by_cases h:k=i
  .subst h;simp[hi]
  .simp[h,Ne.symm h]
 .have:(List.range m)[i]? =none:=by simp;omega
  rw[this];by_cases h:k=i
  .subst h;simp[hi]
  .simp[h]
def VI(m:Nat)(rs:List iZ):List d2h:=(List.range m).map λ(d:Nat)=>dl (m:Int) rs (d:Int)
theorem a0o{l:d2h}(hl:l.length<=1000000):EZ l=some (Qh l):=GM hl
theorem B_(m:Nat)(f:Nat->α)(h:k<m):((List.range m).map f)[k]? =some (f k):=by rw[bG,List.getElem?_range h];rfl
theorem ZN(h:SmS s):xA s=some ((List.range s.2.2.2.1.length).map λ(d:Nat)=>Eh s (d:Int)):=by
 have hnr:=h.nr;have hnd:=h.nd;unfold xA;generalize hm:s.2.2.2.1.length=m at*;have hn:nD s=(m:Int):=by unfold nD x8;rw[hm]
 rw[show x8 s.2.2.2.1=(m:Int)from hn,show Bf (m:Int) ([]:d2h)=some (VI m []) by unfold Bf VI dl;rw[if_pos o5];simp[List.map_const'],o9];refine FB s.2.2.2.2 (λ(b:List d2h) r=>l7 (inD m r.2.1) (b.set r.2.1.toNat ((b.getD r.2.1.toNat [])++ML m r)) b) (λb i=>(b,i)) (λb=>b) (λi b=>b=VI m (s.2.2.2.2.take i)) (VI m []) o5 A7 (λi r b ha hi hI=>?_) (λb hI=>?_) (λh2=>?_)
 .have hlt:=(aV.1 ha).1;obtain⟨_,h1,h2⟩:=h.ro r (zg ha);have hst:s.2.2.2.2.take (i+1)=s.2.2.2.2.take i++[r]:=by
   rw[aB hlt,(aV.1 ha).2]
  have hlb:x8 b=(m:Int):=by rw[hI];simp[x8,VI]
  obtain⟨rd,hrd⟩:∃rd:Int,r.2.1=rd:=⟨r.2.1,rfl⟩;simp only[X9 ha,o7,U8,ha,o9,hlb,hrd];rw[fF o5,hst];by_cases hd:0<=rd/\rd<(m:Int)
  .obtain⟨d0,d1⟩:=hd;have hk:rd.toNat<m:=o5;have hkk:((rd.toNat:Nat):Int)=rd:=o5;have hg:b[rd.toNat]? =some (dl m (s.2.2.2.2.take i) rd):=by rw[hI];unfold VI;rw[B_ m _ hk,hkk]
   have hll:=a3v h m rd (s.2.2.2.2.take i) λr hr=>su hr;have hrl:=Zh h (zg ha) m;have htl:(s.2.2.2.2.take i).length<=96:=by simp;omega
   rw[Z9 d0,bT d1,show inb rd (m:Int)=true by unfold inb;simp;omega,show ah b (Y1 rd)=some (dl m (s.2.2.2.2.take i) rd)from hg,SA _ h1 h2];simp only[o7,o9];rw[Vk o5,show Ou (Y1 rd) (Y1 rd)=true by simp[Ou]];simp only[o7,o9];have hin:inD m rd=true:=by unfold inD;rw[Z9 d0,bT d1];rfl
   rw[hin,show b.getD rd.toNat []=dl m (s.2.2.2.2.take i) rd by rw[QJ,hg];rfl];refine⟨rfl,?_⟩;show b.set rd.toNat _=_;rw[hI];unfold VI;rw[a6b];apply jb;intro d hdm;rw[a5F,hrd];by_cases hq:d=rd.toNat
   .subst hq;rw[if_pos rfl,hkk,O9 rfl];rfl
   .rw[if_neg hq,O5 o5];simp
  .have hin:inD m rd=false:=by
    unfold inD;by_cases d0:0<=rd
    .rw[Z9 d0,X5 o5];rfl
    .rw[dO o5];rfl
   rw[hin];refine⟨?_,?_⟩
   .unfold inD at hin;cases q0:P7 0 rd
    .rfl
    .rw[q0]at hin;simp only[o7]at hin ⊢;rw[hin];rfl
   .show b=_;rw[hI];unfold VI;apply jb;intro d hdm;have:=fV.1 hdm;rw[a5F,hrd,O5 o5];simp
 .simp only[af];rfl
 .rw[dW]at h2;rw[h2];generalize hA:VI m s.2.2.2.2=A;have hAl:x8 A=(m:Int):=by rw[←hA];simp[x8,VI]
  refine FB (List.range m) (λ(b:List d2h) d=>b.set d (Qh (b.getD d []))) (λb i=>(b,i)) (λb=>b) (λi b=>b=(List.range m).map λ(d:Nat)=>if d<i then Qh (dl m s.2.2.2.2 (d:Int))else dl m s.2.2.2.2 (d:Int)) A F9 (by rw[←hA];unfold VI;simp) (λi d b ha hi hI=>?_) (λb hI=>?_) (λh3=>?_)
  .have hlt:=(aV.1 ha).1;simp only[iT]at hlt;have hdi:d=i:=by rw[List.getElem?_range hlt]at ha;exact(lI ha).symm
   subst hdi;have hlb:x8 b=(m:Int):=by rw[hI];simp[x8]
   have hg:b[d]? =some (dl m s.2.2.2.2 (d:Int)):=by rw[hI,B_ m _ hlt,if_neg o5]
   have hll:=a3v h m d s.2.2.2.2 λr hr=>hr;simp only[hAl,hlb];rw[bT (show(d:Int)<(m:Int) by omega),show inb (d:Int) (m:Int)=true by unfold inb;simp;omega,show ah b (Y1 (d:Int))=some (dl m s.2.2.2.2 (d:Int))from hg];simp only[o7,o9];rw[a0o o5,show Ou (Y1 (d:Int)) (Y1 (d:Int))=true by simp[Ou],fF o5];simp only[o7,o9];rw[show b.getD d []=dl m s.2.2.2.2 (d:Int) by rw[QJ,hg];rfl];refine⟨rfl,?_⟩;rw[hI,a6b];apply jb;intro e he;by_cases hq:e=d
   .subst hq;rw[if_pos rfl,if_pos o5]
   .rw[if_neg hq];by_cases hq2:e<d
    .rw[if_pos hq2,if_pos o5]
    .rw[if_neg hq2,if_neg o5]
  .simp only[iT,hAl,X5 (show(m:Int)<=(m:Int) by omega)];rfl
  .rw[h3];apply congrArg some;apply jb;intro d hd;have:=fV.1 hd;simp only[iT];rw[if_pos this];unfold Eh;rw[hn,show inD (m:Int) (d:Int)=true by unfold inD;rw[Z9 o5,bT o5];rfl];rfl
def Rch(D:Int->d2h)(d:Int)(L:d2h):Prop:=SI L/\(∀x∈D d,x∈L)/\(∀x∈L,∀y∈D x,y∈L)/\∀C:Int->Prop,(∀x∈D d,C x)->(∀x,C x->∀y∈D x,C y)->∀x∈L,C x
theorem Rch.unique{D:Int->d2h}{L M:d2h}(h:Rch D d L)(k:Rch D d M):L=M:=
 a4H h.1 k.1 λx=>⟨λhx=>h.2.2.2 (λy=>y∈M) k.2.1 k.2.2.1 x hx,λhx=>k.2.2.2 (λy=>y∈L) h.2.1 h.2.2.1 x hx⟩
theorem a0s:∀{B A:d2h},SI A->SI B->(∀x∈A,x∈B)->A=B\/A.length<B.length
 |[],A,_,_,h=>by
  cases A with
  |nil=>exact .inl rfl|cons a A=>exact absurd (h a A7) A7
 |b::B,[],_,_,_=> .inr A7|b::B,a::A,hA,hB,h=>by
  have hA' :=X6.1 hA;have hB' :=X6.1 hB;rcases D6.1 (h a A7)with hab|hab
  .subst hab;rcases a0s (B:=B) (A:=A) hA'.2 hB'.2 (λx hx=>by
    rcases D6.1 (h x (by simp[hx]))with h1|h1
    .have:=hA'.1 x hx;omega
    .exact h1)with h1|h1
   .exact .inl (by rw[h1])
   .exact .inr (by simp only[D5];omega)
  .have hab2:=hB'.1 a hab;rcases a0s (B:=B) (A:=a::A) hA hB'.2 (λx hx=>by
    rcases D6.1 (h x hx)with h1|h1
    .rcases D6.1 hx with h2|h2
     .omega
     .have:=hA'.1 x h2;omega
    .exact h1)with h1|h1
   .exact .inr (by rw[h1];simp)
   .exact .inr (by simp only[D5]at*;omega)
def MH(D:Int->d2h)(L:d2h):d2h:=L.foldl (λacc x=>WM (D x) acc) L
theorem Jb(D:Int->d2h)(x:Int):∀(l acc:d2h),x∈l.foldl (λacc x=>WM (D x) acc) acc↔x∈acc\/∃y∈l,x∈D y
 |[],acc=>by simp|a::l,acc=>by
  rw[dK,Jb D x l,WU];constructor
  .rintro((h|h)|⟨y,hy,h⟩)
   .exact .inr ⟨a,A7,h⟩
   .exact .inl h
   .exact .inr ⟨y,by simp[hy],h⟩
  .rintro(h|⟨y,hy,h⟩)
   .exact .inl (.inr h)
   .rcases D6.1 hy with rfl|hy
    .exact .inl (.inl h)
    .exact .inr ⟨y,hy,h⟩
theorem a6g(D:Int->d2h):∀(l:d2h) {acc:d2h},SI acc->SI (l.foldl (λacc x=>WM (D x) acc) acc)
 |[],_,h=>h|a::l,_,h=>by rw[dK];exact a6g D l (a0d _ h)
theorem WZ(D:Int->d2h){L:d2h}(h:SI L):SI (MH D L):=a6g D L h
def itS(D:Int->d2h)(d:Int):Nat->d2h
 |0=>D d|k+1=>MH D (itS D d k)
section
variable {D:Int->d2h} {n:Nat} (hsi:∀x,SI (D x)) (hin:∀x,∀y∈D x,0<=y/\y<(n:Int))
include hsi hin
theorem a1p(d:Int):∀k,SI (itS D d k)
 |0=>hsi d|k+1=>WZ D (a1p d k)
theorem a9c(d:Int):∀k,∀x∈itS D d k,0<=x/\x<(n:Int)
 |0,x,hx=>hin d x hx|k+1,x,hx=>by
  rcases(Jb D x _ _).1 hx with h|⟨y,_,h⟩
  .exact a9c d k x h
  .exact hin y x h
theorem a5V(d:Int)(k:Nat):MH D (itS D d k)=itS D d k\/(itS D d k).length<(MH D (itS D d k)).length:=by
 rcases a0s (a1p hsi hin d k) (WZ D (a1p hsi hin d k)) (λx hx=>(Jb D x _ _).2 (.inl hx))with h|h
 .exact .inl h.symm
 .exact .inr h
theorem YR(d:Int):∀k,MH D (itS D d k)=itS D d k\/k<(MH D (itS D d k)).length
 |0=>by
  rcases a5V hsi hin d 0 with h|h
  .exact .inl h
  .exact .inr o5
 |k+1=>by
  rcases YR d k with h|h
  .exact .inl (by show MH D (MH D (itS D d k))=MH D (itS D d k);rw[h,h])
  .rcases a5V hsi hin d (k+1)with h2|h2
   .exact .inl h2
   .exact .inr (by have:(itS D d (k+1)).length=(MH D (itS D d k)).length:=rfl;omega)
theorem b6D(d:Int):Rch D d (itS D d n):=by
 have hst:MH D (itS D d n)=itS D d n:=by
  rcases YR hsi hin d n with h|h
  .exact h
  .have:=a4I n (WZ D (a1p hsi hin d n)) (a9c hsi hin d (n+1));omega
 refine⟨a1p hsi hin d n,?_,?_,?_⟩
 .intro x hx;have:∀k,x∈itS D d k:=by
   intro k;induction k with
   |zero=>exact hx|succ k ih=>exact(Jb D x _ _).2 (.inl ih)
  exact this n
 .intro x hx y hy;rw[←hst];exact(Jb D y _ _).2 (.inr ⟨x,hx,hy⟩)
 .intro C h1 h2;have:∀k,∀x∈itS D d k,C x:=by
   intro k;induction k with
   |zero=>exact h1|succ k ih=>
    intro x hx;rcases(Jb D x _ _).1 hx with h|⟨y,hy,h⟩
    .exact ih x h
    .exact h2 y (ih y hy) x h
  exact this n
end
def XN(s:V6)(d:Int):d2h:=itS (Eh s) d s.2.2.2.1.length
theorem ZA(s:V6)(d:Int):Rch (Eh s) d (XN s d):=
 b6D (n:=s.2.2.2.1.length) (SE s) (λx y hy=>SC hy) d
theorem b2X(h:x∈XN s d):0<=x/\x<nD s:=a9c (n:=s.2.2.2.1.length) (SE s) (λx y hy=>SC hy) d _ x h
theorem a3S(h:SmS s){l:d2h}(hs:SI l)(hi:∀x∈l,0<=x/\x<nD s):l.length<=14:=Y4 (a4I s.2.2.2.1.length hs hi) h.nd
def mk(S:List Bool)(x:Int):Bool:=if 0<=x then S.getD x.toNat false else false
def unm(S:List Bool):Nat:=S.count false
def rG(b:List Bool×d2h)(e:Int):List Bool×d2h:=l7 (mk b.1 e) b (b.1.set e.toNat true,b.2++[e])
variable {S:List Bool}
theorem a9m(h0:0<=x)(h1:x<x8 S):S[x.toNat]? =some (mk S x):=by
 unfold mk;rw[if_pos h0,QJ];have:x.toNat<S.length:=by simp only[x8]at h1;omega
 rw[qi this];rfl
theorem a9n{e:Int}(h0:0<=e)(h1:e<x8 S)(x:Int):mk (S.set e.toNat true) x=l7 (x9 x e) true (mk S x):=by
 unfold mk;have hl:e.toNat<S.length:=by simp only[x8]at h1;omega
 by_cases hx:0<=x
 .rw[if_pos hx,if_pos hx,QJ,QJ,U6];by_cases hq:x=e
  .subst hq;rw[if_pos rfl,if_pos hl,O9 rfl];rfl
  .rw[if_neg o5,O5 hq];rfl
 .rw[if_neg hx,if_neg hx,O5 o5];rfl
theorem b5l{e:Int}(h0:0<=e)(h1:e<x8 S)(hm:mk S e=false):unm (S.set e.toNat true)+1=unm S:=by
 have hl:e.toNat<S.length:=by simp only[x8]at h1;omega
 have hg:=a9m h0 h1;rw[hm,qi hl]at hg;have hg' :S[e.toNat]=false:=lI hg;unfold unm;rw[List.count_set hl,hg'];have:0<S.count false:=List.count_pos_iff.2 (by rw[←hg'];exact ay hl);simp;omega
structure RInv (n:Nat) (S:List Bool) (Q:d2h) (l:d2h) (S' :List Bool) (Q' :d2h):Prop where
 len:S'.length=n
 seen:∀x:Int,0<=x->x<(n:Int)->(mk S' x=true↔mk S x=true\/x∈l)
 sum:Q'.length+unm S' =Q.length+unm S
 le:unm S' <=unm S
 old:∀x∈Q,x∈Q'
 new:∀x∈Q',x∈Q\/x∈l
 got:∀x,mk S' x=true->mk S x=true\/x∈Q'
theorem b0H{n:Nat} :∀(l:d2h) (S:List Bool) (Q:d2h),S.length=n->(∀x∈l,0<=x/\x<(n:Int))->RInv n S Q l (l.foldl rG (S,Q)).1 (l.foldl rG (S,Q)).2
 |[],S,Q,hl,_=>⟨hl,λx _ _=>by simp,rfl,G5 _,λx hx=>hx,λx hx=> .inl hx,λx hx=> .inl hx⟩|e::l,S,Q,hl,hi=>by
  have he:=hi e A7;have hel:e<x8 S:=by simp only[x8];omega
  rw[dK];cases hm:mk S e with
  |true=>
   rw[show rG (S,Q) e=(S,Q) by unfold rG;rw[hm];rfl];have ih:=b0H l S Q hl λx hx=>hi x (by simp[hx]);refine⟨ih.len,λx h0 h1=>?_,ih.sum,ih.le,ih.old,λx hx=>?_,ih.got⟩
   .rw[ih.seen x h0 h1,D6];constructor
    .rintro(h|h)
     .exact .inl h
     .exact .inr (.inr h)
    .rintro(h|h|h)
     .exact .inl h
     .subst h;exact .inl hm
     .exact .inr h
   .rcases ih.new x hx with h|h
    .exact .inl h
    .exact .inr (by simp[h])
  |false=>
   rw[show rG (S,Q) e=(S.set e.toNat true,Q++[e]) by unfold rG;rw[hm];rfl];have ih:=b0H l (S.set e.toNat true) (Q++[e]) (by simp[hl]) λx hx=>hi x (by simp[hx]);have hu:=b5l he.1 hel hm;refine⟨ih.len,λx h0 h1=>?_,?_,?_,λx hx=>ih.old x (by simp[hx]),λx hx=>?_,λx hx=>?_⟩
   .rw[ih.seen x h0 h1,a9n he.1 hel,D6];cases hq:x9 x e
    .rw[qh]at hq;simp[hq]
    .rw[Z8]at hq;simp[hq]
   .have:=ih.sum;simp only[C9,D5,I8]at this;omega
   .have:=ih.le;omega
   .rcases ih.new x hx with h|h
    .rcases J6.1 h with h|h
     .exact .inl h
     .exact .inr (by simp at h;simp[h])
    .exact .inr (by simp[h])
   .rcases ih.got x hx with h|h
    .rw[a9n he.1 hel]at h;cases hq:x9 x e
     .rw[hq]at h;exact .inl h
     .rw[Z8]at hq;subst hq;exact .inr (ih.old _ A7)
    .exact .inr h
def Ul(S:List Bool):d2h:=((List.range S.length).filter λi=>S.getD i false).map λ(i:Nat)=>(i:Int)
theorem NV(x:Int):x∈Ul S↔mk S x=true:=by
 unfold Ul mk;rw[aJ];constructor
 .rintro⟨i,hi,rfl⟩;rw[if_pos o5];exact(oN.1 hi).2
 .intro h;split at h
  .refine⟨x.toNat,oN.2 ⟨fV.2 ?_,h⟩,o5⟩;rw[QJ]at h;cases hg:S[x.toNat]? with
   |none=>rw[hg]at h;cases h|some b=>exact(aV.1 hg).1
  .cases h
theorem a9k(S:List Bool):SI (Ul S):=by unfold Ul;refine List.Pairwise.map _ (R:=(·< ·)) (λa b h=>by omega) (List.Pairwise.filter _ List.pairwise_lt_range)
theorem a3X{f:d2h×Int->Option ((d2h×Int)⊕d2h)}(S:List Bool)(hS:S.length<=100)
  (hin:∀(i:Nat) (a:Bool) (acc:d2h),S[i]? =some a->i<=1000000->acc.length<=i->f (acc,(i:Int))=l7 a (l9 (bF acc [(i:Int)]) λx=>some (.inl (x,E9 .i64 (i:Int) 1))) (some (.inl (acc,E9 .i64 (i:Int) 1))))
  (hend:∀acc,f (acc,(S.length:Int))=some (.inr acc)):bC f ([],0)=some (Ul S):=by
 have mk2:∀i,i<=S.length->((List.range i).filter λi=>S.getD i false).length<=i:=λi _=>by have:=iE (λi=>S.getD i false) (List.range i);simpa using this
 obtain⟨e,h1,h2⟩:=ul (f:=f) (s:=([],0)) (λx=>∃i:Nat,x=(((List.range i).filter λi=>S.getD i false).map λ(i:Nat)=>(i:Int),(i:Int))/\i<=S.length) (λe=>e=Ul S) (λx=>S.length -x.2.toNat) ⟨0,rfl,o5⟩ F9 (by
  rintro x ⟨i,rfl,hi⟩;by_cases h:i<S.length
  .have e:=qi h;have hst:(List.range (i+1)).filter (λi=>S.getD i false)=(List.range i).filter (λi=>S.getD i false)++l7 S[i] [i] []:=by
    rw[jK,List.filter_append];congr 1;rw[kR,QJ,e];cases S[i]<;>rfl
   have hl:=mk2 i hi;refine .inl ⟨(((List.range (i+1)).filter λi=>S.getD i false).map λ(i:Nat)=>(i:Int),((i+1:Nat):Int)),?_,⟨i+1,rfl,h⟩,by simp;omega⟩;rw[hin i _ _ e o5 (by simpa using hl),fF o5,hst,gK,qV _ (by rw[U0];omega)];cases S[i]
   .simp
   .rfl
  .have:i=S.length:=o5;subst this;exact .inr ⟨_,hend _,rfl⟩)
 rw[h1,h2]
theorem a4j{D:Int->d2h}{n:Nat}(hn:n<=14)(hsi:∀x,SI (D x))(hin:∀x,∀y∈D x,0<=y/\y<(n:Int))(h0:0<=d)(h1:d<(n:Int)):
  ∃L,Eg ((List.range n).map λ(x:Nat)=>D (x:Int)) d=some L/\Rch D d L:=by
 have hA:x8 ((List.range n).map λ(x:Nat)=>D (x:Int))=(n:Int):=by simp[x8]
 have hget:∀x:Int,0<=x->x<n->J9 ((List.range n).map λ(x:Nat)=>D (x:Int)) x=some (D x):=λx a b=>by
  have:x.toNat<n:=o5;unfold J9
  rw[if_pos a,B_ n _ this,uh a]
 unfold Eg;generalize (List.range n).map (λ(x:Nat)=>D (x:Int))=A at*;rw[hA,show Bf (n:Int) false=some (List.replicate n false) by unfold Bf;rw[if_pos o5];simp,o9];have hD14:∀x,(D x).length<=14:=λx=>Y4 (a4I n (hsi x) (hin x)) hn;have key:=ul (f:=λ(x:List Bool×d2h)=>l7 (H5 0 (x8 x.2)) (l9 (J9 x.2 0) λ(x_1:Int)=>l9 (ah x.2 (Y1 0)) λ(x_2:Int)=>l7 (lK 1 (x8 x.2) (x8 x.2)) (l9 (J9 A x_2) λ(x_3:d2h)=>
   l9 (bC (λ(x:List Bool×d2h×Int)=>l7 (H5 x.2.2 (x8 x_3)) (l9 (J9 x_3 x.2.2) λ(x_4:Int)=>l9 (J9 x.1 x_4) λ(x_5:Bool)=>l9 (ah x.1 (Y1 x_4)) λ(x_6:Bool)=>
     l7 (G6 x_6) (l9 (J9 x.1 x_4) λ(x_7:Bool)=>l9 (ah x.1 (Y1 x_4)) λ(x_8:Bool)=>l9 (bF x.2.1 [x_4]) λ(x_9:d2h)=>some (.inl (fZ x.1 (Y1 x_4) true,x_9,E9 .i64 x.2.2 1)))
      (some (.inl (x.1,x.2.1,E9 .i64 x.2.2 1)))) (some (.inr (x.1,x.2.1)))) (x.1,jW x.2 (Y1 1) (Y1 (x8 x.2)),0)) λ(y:List Bool×d2h)=>some (.inl y)) none) (some (.inr x.1)))
  (s:=(List.replicate n false,[d]))
  (λx=>x.1.length=n/\(∀q∈x.2,0<=q/\q<(n:Int))/\x.2.length+unm x.1<=n+1/\(∀q∈x.2,q=d\/mk x.1 q=true)/\(∀v,v=d\/mk x.1 v=true->v∈x.2\/∀y∈D v,mk x.1 y=true)/\
   (∀C:Int->Prop,(∀x∈D d,C x)->(∀x,C x->∀y∈D x,C y)->∀v,mk x.1 v=true->C v)/\(∀v,mk x.1 v=true->0<=v/\v<(n:Int)))
  (λS=>S.length=n/\Rch D d (Ul S)) (λx=>2*unm x.1+x.2.length) ?_ ?_ ?_
 .obtain⟨S,k1,k2,k3⟩:=key;refine⟨Ul S,?_,k3⟩;refine(a1I k1 _).trans ?_;rw[uS];refine a3X S o5 (λi a acc ha hi hacc=>?_) (λacc=>?_)
  .simp only[X9 ha,o7,U8,ha,o9];rw[show ah S (Y1 (i:Int))=some a from ha,o9]
  .simp only[af];rfl
 .have hnone:∀v,mk (List.replicate n false) v=false:=λv=>by
   unfold mk;split
   .rw[QJ,List.getElem?_replicate];split<;>rfl
   .rfl
  refine⟨A7,λq hq=>by simp at hq;omega,?_,λq hq=> .inl (by simpa using hq),λv hv=>?_,λC _ _ v hv=>(by rw[hnone]at hv;cases hv),λv hv=>(by rw[hnone]at hv;cases hv)⟩
  .simp[unm,List.count_replicate];omega
  .rcases hv with rfl|hv
   .exact .inl A7
   .rw[hnone]at hv;cases hv
 .simp[unm,List.count_replicate];omega
 .rintro⟨S,Q⟩ ⟨i1,i2,i3,i4,i5,i6,i7⟩;simp only at i1 i2 i3 i4 i5 i6 i7;cases Q with
  |nil=>
   right;refine⟨S,rfl,i1,a9k S,λx hx=>?_,λx hx y hy=>?_,λC c1 c2 x hx=>i6 C c1 c2 x ((NV x).1 hx)⟩
   .rcases i5 d (.inl rfl)with h|h
    .cases h
    .exact(NV x).2 (h x hx)
   .rcases i5 x (.inr ((NV x).1 hx))with h|h
    .cases h
    .exact(NV y).2 (h y hy)
  |cons q Q=>
   left;have hq:=i2 q A7;have hfold:=b0H (n:=n) (D q) S Q i1 (λx hx=>hin q x hx);refine⟨(D q).foldl rG (S,Q),?_,?_,?_⟩
   .simp only[bT (show(0:Int)<x8 (q::Q) by simp[x8]<;>omega),o7,show J9 (q::Q) 0=some q from rfl,show ah (q::Q) (Y1 0)=some q from rfl,o9,hget q hq.1 hq.2,
     show lK 1 (x8 (q::Q)) (x8 (q::Q))=true by simp[lK,x8]<;>omega,show jW (q::Q) (Y1 1) (Y1 (x8 (q::Q)))=Q by simp[jW,Y1,x8]]
    refine FB (D q) rG (λb i=>(b.1,b.2,i)) (λb=>b) (λi b=>b.1.length=n/\b.2.length<=100+i) (S,Q) (by have:=hD14 q;omega) ⟨i1,by simp at i3;show Q.length<=100+0;omega⟩ (λi e b he hi hI=>?_) (λb hI=>?_) (λh2=>rfl)
    .obtain⟨S1,Q1⟩:=b;simp only at hI;have hee:=hin q e (zg he);have hlt:=(aV.1 he).1;have hdl:=hD14 q;have hg:=a9m (S:=S1) hee.1 (by simp only[x8];omega);have hla:J9 S1 e=some (mk S1 e):=by unfold J9;rw[if_pos hee.1];exact hg
     have hlg:ah S1 (Y1 e)=some (mk S1 e):=hg;simp only[X9 he,o7,U8 (D q),he,o9,hla,hlg];rw[fF o5,qV _ o5];unfold rG;simp only;cases mk S1 e
     .exact⟨rfl,by simp[hI.1],by simp<;>omega⟩
     .exact⟨rfl,hI.1,by show Q1.length<=_;omega⟩
    .simp only[af];rfl
   .obtain⟨j1,j2,j3,j4,j5,j6,j7⟩:=hfold;generalize (D q).foldl rG (S,Q)=b at*;obtain⟨S',Q'⟩:=b;simp only at j1 j2 j3 j4 j5 j6 j7 ⊢;have hrange:∀v,mk S' v=true->0<=v/\v<(n:Int):=λv hv=>by
     rcases j7 v hv with h|h
     .exact i7 v h
     .rcases j6 v h with h|h
      .exact i2 v (by simp[h])
      .exact hin q v h
    refine⟨j1,λx hx=>?_,?_,λx hx=>?_,λv hv=>?_,λC c1 c2 v hv=>?_,hrange⟩
    .rcases j6 x hx with h|h
     .exact i2 x (by simp[h])
     .exact hin q x h
    .simp only[D5]at i3;omega
    .rcases j6 x hx with h|h
     .rcases i4 x (by simp[h])with h2|h2
      .exact .inl h2
      .have hr:=i7 x h2;exact .inr ((j2 x hr.1 hr.2).2 (.inl h2))
     .have hr:=hin q x h;exact .inr ((j2 x hr.1 hr.2).2 (.inr h))
    .have up:∀y,mk S y=true->mk S' y=true:=λy hy=>by
      have hr:=i7 y hy;exact(j2 y hr.1 hr.2).2 (.inl hy)
     by_cases hvq:v=q
     .subst hvq;right;intro y hy;have hr:=hin v y hy;exact(j2 y hr.1 hr.2).2 (.inr hy)
     .by_cases hold:v=d\/mk S v=true
      .rcases i5 v hold with h|h
       .rcases D6.1 h with h|h
        .exact absurd h hvq
        .exact .inl (j5 v h)
       .exact .inr λy hy=>up y (h y hy)
      .rcases hv with h|h
       .exact absurd (.inl h) hold
       .rcases j7 v h with h2|h2
        .exact absurd (.inr h2) hold
        .exact .inl h2
    .by_cases hS:mk S v=true
     .exact i6 C c1 c2 v hS
     .have hr:=hrange v hv;rcases(j2 v hr.1 hr.2).1 hv with h|h
      .exact absurd h hS
      .rcases i4 q A7 with h2|h2
       .subst h2;exact c1 v h
       .exact c2 q (i6 C c1 c2 q h2) v h
   .have:=hfold.sum;have:=hfold.le;simp only[D5];omega
theorem Yq(h:SmS s)(h0:0<=d)(h1:d<nD s):zu s d=some (XN s d):=by have hn:nD s=((s.2.2.2.1.length:Nat):Int):=rfl;unfold zu;change l7 (H5 d 0) _ (l7 (P7 (nD s) d) _ _)=_;rw[X5 h0,o6,dO h1,o6,ZN h,o9,uS];obtain⟨L,k1,k2⟩:=a4j (D:=Eh s) h.nd (SE s) (λx y hy=>SC hy) h0 (show d<((s.2.2.2.1.length:Nat):Int) by omega);rw[k1,Rch.unique k2 (ZA s d)]
structure SmL (l:V4):Prop where
 few:Few l
 en:ZH l
 tb:VC l
 sc:∀s∈l.2.2,SmS s
structure SwS (s:V6):Prop where
 nm:s.1.length<=1000000
 ni:s.2.2.1.length<=100000
 nd:s.2.2.2.1.length<=100000
 nr:s.2.2.2.2.length<=100000
 fo:a0I s
 ro:∀r∈s.2.2.2.2,a2Y r
structure SwL (l:V4):Prop where
 few:Few l
 en:ZH l
 tb:VC l
 sc:∀s∈l.2.2,SwS s
variable {l:V4}
theorem SwL.scopes(h:SwL l):a0M l:=λs hs=>by have hm:=h.sc s hs;exact⟨hm.nm,hm.ni,hm.nd,hm.nr⟩
theorem SmL.w(h:SmL l):SwL l:=⟨h.few,h.en,h.tb,λs hs=>by have hm:=h.sc s hs;exact⟨hm.nm,by have:=hm.ni;omega,by have:=hm.nd;omega,by have:=hm.nr;omega,hm.fo,λr hr=>(hm.ro r hr).1⟩⟩
theorem IR{ε ρ:Type}{p:Nat->Option ρ}(n:Nat)(hn:n<=1000000)(e:ε){f:Int->Option (Out Int ε ρ)}
  (h1:∀i,i<n->f (i:Int)=some (match p i with|some r=> .rt r|none=> .nx (E9 .i64 (i:Int) 1))) (h2:f (n:Int)=some (.ex e)):
  O6 f 0=some (match fK n p with|some r=> .inr r|none=> .inl e):=
 MC n o5 e (λi hi=>by rw[h1 i hi,fF o5]<;>cases p i<;>rfl) h2
def Zp(l:V4)(s:V6)(k:Nat):Option (Int×Int):=match s.2.2.2.2[k]? with|some r=>Wq (UF s (a8f l s) k r) (300+k:Nat)|none=>none
def b3t(s:V6)(d:Nat):Option (Int×Int):=l7 ((XN s d).any λx=>x9 (d:Int) x) (some (9,((200+d:Nat):Int))) none
def Tj(l:V4)(i:Nat)(m:Int):Bool:=l7 (x9 m (-1)) false (l7 (H5 m 0) true (l7 (P7 (i:Int) m) true (match J9 l.2.2 m with|some q=>G6 (x9 q.2.1 (-1))|none=>true)))
def N_(l:V4)(s:V6):Int×Int:=match NS l s with
 |some r=>r
 |none=>match fK s.2.2.2.2.length (Zp l s)with
  |some r=>r
  |none=>match fK s.2.2.2.1.length (b3t s)with
   |some r=>r|none=>(0,0)
def Kq(l:V4)(i:Nat)(s:V6):Int×Int:=
 l7 (gz s.1) (l7 (Jl l 3 i s.1) (7,0) (l7 (Tj l i s.2.1) (6,0) (l7 (H5 12 (x8 s.2.2.1)) (4,112) (l7 (H5 12 (x8 s.2.2.2.1)) (4,212) (N_ l s))))) (2,0)
theorem XR(h:Po e sg t=0):e.length<=50:=by
 unfold Po BG at h;cases hs:kP e with
 |inl x=>
  rw[hs]at h;simp only at h;cases hc:x9 x.2 0<;>rw[hc]at h
  .exact absurd h (qh.1 hc)
  .exact absurd (Z8.1 hc) (yf hs)
 |inr x=>have:=(oQ hs).2;omega
theorem b3s{m:Nat} :∀(D:d2h),(∀x∈D,0<=x/\x<(m:Int))->(∀d:Int,D.countP (λo=>x9 o d)<=8)->D.length<=m*8:=by
 induction m with
 |zero=>
  intro D h _;cases D with
  |nil=>simp|cons a D=>have:=h a A7;omega
 |succ m ih=>
  intro D h h8;have h1:=ih (D.filter λo=>G6 (x9 o (m:Int))) (λx hx=>by
   obtain⟨hx,hn⟩:=oN.1 hx;have:=h x hx;have hn:x≠(m:Int):=λe=>by rw[O9 e]at hn;cases hn
   omega) (λd=>by rw[List.countP_filter];refine Y4 (List.countP_mono_left λx _ hx=>?_) (h8 d);simp only[A8]at hx;exact hx.1)
  have h2:=h8 (m:Int);have h3:∀D:d2h,D.length=D.countP (λo=>x9 o (m:Int))+(D.filter λo=>G6 (x9 o (m:Int))).length:=by
   intro D;induction D with
   |nil=>rfl|cons a D ih=>rw[List.countP_cons,kR,D5,ih];cases x9 a (m:Int)<;>simp<;>omega
  have:=h3 D;omega
theorem Xw(h:UF s sg k r=0):(∃d,J9 s.2.2.2.1 r.2.1=some d/\Wx r sg d.2=0)/\ZV (s.2.2.2.2.take k) r.2.1<8:=by
 unfold UF at h;cases g1:gz r.1<;>rw[g1]at h
 .exact absurd (show(2:Int)=0 from h) D9
 cases g2:(s.2.2.2.2.take k).any λx=>seq x.1 r.1<;>rw[g2]at h
 case true=>exact absurd (show(7:Int)=0 from h) D9
 simp only[o7,o6]at h;cases g3:J9 s.2.2.2.1 r.2.1 with
 |none=>rw[g3]at h;exact absurd (show(6:Int)=0 from h) D9|some d=>
  rw[g3]at h;simp only at h;generalize (l7 (x9 r.2.2.1 (-1)) false (l7 (H5 r.2.2.1 0) true (l7 (P7 (k:Int) r.2.2.1) true (match J9 s.2.2.2.2 r.2.2.1 with|some q=>G6 (x9 q.2.1 r.2.1)|none=>true))))=g4 at h;cases g4
  case true=>exact absurd (show(9:Int)=0 from h) D9
  cases g5:H5 r.2.2.2.1 0<;>rw[g5]at h
  case true=>exact absurd (show(3:Int)=0 from h) D9
  cases g6:H5 9 r.2.2.2.1<;>rw[g6]at h
  case true=>exact absurd (show(3:Int)=0 from h) D9
  cases g7:Ot r.2.2.2.2.1<;>rw[g7]at h
  .exact absurd (show(3:Int)=0 from h) D9
  cases g8:x9 r.2.2.2.2.1.1 r.2.2.2.2.1.2<;>rw[g8]at h
  case true=>exact absurd (show(3:Int)=0 from h) D9
  cases g9:P7 8 (ZV (s.2.2.2.2.take k) r.2.1:Int)<;>rw[g9]at h
  case true=>exact absurd (show(4:Int)=0 from h) D9
  cases g10:Qg r.2.2.2.2.2.2.2<;>rw[g10]at h
  .exact absurd (show(2:Int)=0 from h) D9
  simp only[o7,o6]at h;have:=Tc.1 g9;exact⟨⟨d,rfl,h⟩,o5⟩
theorem a7k(h:Wx r sg t=0):r.2.2.2.2.2.1.length<=50/\r.2.2.2.2.2.2.1.length<=50:=by
 unfold Wx at h;cases g:H5 0 (x8 r.2.2.2.2.2.1)<;>rw[g]at h
 .have:=nM.1 g;unfold x8 at this;exact⟨o5,XR h⟩
 .rw[o7]at h;cases g2:x9 (Po r.2.2.2.2.2.1 sg (1,0)) 0<;>rw[g2]at h
  .exact absurd h (qh.1 g2)
  .exact⟨XR (Z8.1 g2),XR h⟩
theorem b1x(hw:SwS s)(h1:s.2.2.1.length<=12)(h2:s.2.2.2.1.length<=12)(h:fK s.2.2.2.2.length (Zp l s)=none):SmS s:=by
 have hz:∀(k:Nat) (r:iZ),s.2.2.2.2[k]? =some r->UF s (a8f l s) k r=0:=λk r hr=>by
  have:=yB h k (aV.1 hr).1;unfold Zp at this;rw[hr]at this;unfold Wq at this;simp only at this;cases g:x9 (UF s (a8f l s) k r) 0<;>rw[g]at this
  .cases this
  .exact Z8.1 g
 have hk:∀k,k<=s.2.2.2.2.length->∀d:Int,((s.2.2.2.2.take k).map λ(o:iZ)=>o.2.1).countP (λo=>x9 o d)<=8:=by
  intro k;induction k with
  |zero=>intro _ d;simp|succ k ih=>
   intro hk d;have e:=qi (show k<s.2.2.2.2.length by omega);have h3:=(Xw (hz k _ e)).2;unfold ZV at h3;have h4:=ih o5 d;rw[aB o5,gK,List.countP_append];rw[List.countP_map]at h4 ⊢;by_cases hd:(s.2.2.2.2[k]).2.1=d
   .have e5:List.countP ((λ(o:Int)=>x9 o d)∘λ(o:iZ)=>o.2.1) (s.2.2.2.2.take k)=(s.2.2.2.2.take k).countP λ(o:iZ)=>x9 o.2.1 (s.2.2.2.2[k]).2.1:=by rw[hd];rfl
    have e6:List.countP (λo=>x9 o d) [(s.2.2.2.2[k]).2.1]<=1:=List.countP_le_length;simp only[gY,lX];omega
   .have e6:List.countP (λo=>x9 o d) [(s.2.2.2.2[k]).2.1]=0:=by simp[O5 hd]
    simp only[gY,lX];omega
 have h8:=hk s.2.2.2.2.length (G5 _);rw[dW]at h8;have hc:=b3s (m:=12) (s.2.2.2.2.map λ(o:iZ)=>o.2.1) (λx hx=>by obtain⟨r,hr,rfl⟩:=aJ.1 hx;obtain⟨k,hk,e⟩:=eU hr;obtain⟨⟨d,hd,-⟩,-⟩:=Xw (hz k r (by rw[qi hk,e]));obtain⟨a,b,-⟩:=qX hd;unfold x8 at b;omega) h8
 rw[U0]at hc;refine⟨hw.nm,o5,o5,o5,hw.fo,λr hr=>⟨hw.ro r hr,?_⟩⟩;obtain⟨k,hk,e⟩:=eU hr;obtain⟨⟨d,-,hd⟩,-⟩:=Xw (hz k r (by rw[qi hk,e]));exact a7k hd
theorem Ya(hL:SwL l)(hs:l.2.2[i]? =some s):AZ l (i:Int)=some (Kq l i s):=by
 have hi:=(aV.1 hs).1;have hS:=hL.sc s (zg hs);have hf:=hL.few;have hf1:=hf.1;have hf2:=hf.2.1;have hf3:=hf.2.2;have n1:=hS.ni;have n2:=hS.nd;have n3:=hS.nr;unfold AZ Kq Jl;rw[U8,hs,o9,Ak o5,o9,PN _ o5,o9,Uf _ o5,o9,a1k _ F9,o9];have hb:(l7 (l.1.any λx=>seq x.1 s.1) (some (s,true)) (l7 (l.2.1.any λx=>seq x.1 s.1) (some (s,true)) (some (s,(l.2.2.take i).any λx=>seq x.1 s.1))))=
   some (s,(l.1.any λx=>seq x.1 s.1) || (l.2.1.any λx=>seq x.1 s.1) || (l.2.2.take i).any λx=>seq x.1 s.1):=by
  cases l.1.any λx=>seq x.1 s.1
  .cases l.2.1.any λx=>seq x.1 s.1<;>rfl
  .rfl
 rw[hb,o9];simp only;rw[pY hS.nm,o9];cases gz s.1
 .rfl
 simp only[G8,o6,o7];cases (l.1.any λx=>seq x.1 s.1) || (l.2.1.any λx=>seq x.1 s.1) || (l.2.2.take i).any λx=>seq x.1 s.1
 case true=>rfl
 simp only[o6];have hm:(l7 (G6 (x9 s.2.1 (-1))) (l7 (H5 s.2.1 0) (some true) (l7 (P7 (i:Int) s.2.1) (some true) (l9 (J9 (l.2.2.take i) s.2.1) λ(x:V6)=>some (G6 (x9 x.2.1 (-1)))))) (some false))=some (Tj l i s.2.1):=by
  unfold Tj;cases x9 s.2.1 (-1)
  case true=>rfl
  simp only[V7,o7,o6];cases h0:H5 s.2.1 0
  case true=>rfl
  cases h1:P7 (i:Int) s.2.1
  case true=>rfl
  rw[nM]at h0;rw[Tc]at h1;obtain⟨q,hq,_⟩:=ui (l:=l.2.2.take i) h0 (by simp only[x8,jk];omega);have hq2:J9 l.2.2 s.2.1=some q:=by have:=(qX hq).2.2.2;unfold J9;rw[if_pos h0];exact(a2H this).2
  rw[hq,hq2];rfl
 rw[hm,o9];cases Tj l i s.2.1
 case true=>rfl
 simp only[o6];cases g12:H5 12 (x8 s.2.2.1)
 case true=>rfl
 cases g13:H5 12 (x8 s.2.2.2.1)
 case true=>rfl
 have m1:s.2.2.1.length<=12:=by have:=nM.1 g12;unfold x8 at this;omega
 have m2:s.2.2.2.1.length<=12:=by have:=nM.1 g13;unfold x8 at this;omega
 simp only[o6,o9,X8];unfold N_ NS;refine V5 (IR (p:=inP l s) s.2.2.1.length o5 PUnit.unit (λk hk=>?_) ?_) ?_
 rotate_left 2
 .cases fK s.2.2.1.length (inP l s)
  case some r=>rfl
  simp only[o9,X8];refine V5 (IR (p:=a7f l s) s.2.2.2.1.length o5 PUnit.unit (λk hk=>?_) ?_) ?_
  rotate_left 2
  .cases fK s.2.2.2.1.length (a7f l s)
   case some r=>rfl
   simp only[o9,X8];rw[Qb hL.scopes hs,o9];refine V5 (IR (p:=Zp l s) s.2.2.2.2.length o5 PUnit.unit (λk hk=>?_) ?_) ?_
   rotate_left 2
   .cases hfr:fK s.2.2.2.2.length (Zp l s)
    case some r=>rfl
    have hS:=b1x hS m1 m2 hfr;simp only[o9,X8];refine V5 (IR (p:=b3t s) s.2.2.2.1.length o5 PUnit.unit (λk hk=>?_) ?_) ?_
    rotate_left 2
    .cases fK s.2.2.2.1.length (b3t s)<;>rfl
    .have e:=qi hk;simp only[X9 e,o7];rw[Yq hS o5 (by show(k:Int)<x8 s.2.2.2.1;simp only[x8];omega),o9,a7m _ (by
      have:=a3S hS (ZA s (k:Int)).1 (λx hx=>b2X hx);omega),o9,show(200:Int)=((200:Nat):Int)from rfl,a5O o5 o5]
     unfold b3t;cases (XN s (k:Int)).any λx=>x9 (k:Int) x<;>rfl
    .rw[af];rfl
   .have e:=qi hk;have hr:=hS.ro _ (ay hk);simp only[X9 e,o7];rw[ZT _ e o5 hr,o9,show(300:Int)=((300:Nat):Int)from rfl,a5O o5 o5];simp only[Zp,e,Wq];cases x9 (UF s (a8f l s) k s.2.2.2.2[k]) 0<;>rfl
   .rw[af];rfl
  .have e:=qi hk;have hm:=hS.fo.2 _ (ay hk);simp only[X9 e,o7,U8,e,o9];rw[Ak o5,o9,OG hm o5 F9,o9,show(200:Int)=((200:Nat):Int)from rfl,a5O o5 o5];simp only[a7f,e,Wq];cases x9 (LQ l.1 s.2.2.2.1[k] s.2.2.1 (s.2.2.2.1.take k)) 0<;>rfl
  .rw[af];rfl
 .have e:=qi hk;have hm:=hS.fo.1 _ (ay hk);simp only[X9 e,o7,U8,e,o9];rw[Ak o5,o9,OG hm F9 A7,o9,show(100:Int)=((100:Nat):Int)from rfl,a5O o5 o5];simp only[inP,e,Wq];cases x9 (LQ l.1 s.2.2.1[k] (s.2.2.1.take k) []) 0<;>rfl
 .rw[af];rfl
theorem YE{c e:Int}{r:Int×Int}(h:Wq c e=some r):r.1≠0:=by
 unfold Wq at h;cases hc:x9 c 0<;>rw[hc]at h
 .cases h;exact qh.1 hc
 .cases h
theorem a1e{r:Int×Int}(h:NS l s=some r):r.1≠0:=by
 unfold NS at h;split at h
 .rename_i q hq;cases h;obtain⟨k,_,hk⟩:=oC hq;unfold inP at hk;split at hk
  .exact YE hk
  .cases hk
 .obtain⟨k,_,hk⟩:=oC h;unfold a7f at hk;split at hk
  .exact YE hk
  .cases hk
def Ko(l:V4)(i:Nat):Option (Int×Int×Int×Int):=match l.2.2[i]? with|some s=>PI 3 i (Kq l i s)|none=>none
def RJ(l:V4):Int×Int×Int×Int:=l7 (H5 4 (x8 l.2.2)) (4,3,4,0) (match fK l.2.2.length (Ko l)with|some r=>r|none=>(0,0,0,0))
def mY(l:V4):Int×Int×Int×Int:=l7 (x9 (DR l).1 0) (l7 (x9 (zM l).1 0) (RJ l) (zM l)) (DR l)
theorem VR(hL:SwL l):zB l=some (RJ l):=by
 have hf:=hL.few.2.2;unfold zB RJ;cases H5 4 (x8 l.2.2)
 case true=>rfl
 simp only[o6];refine V5 (LU (p:=Ko l) l.2.2.length o5 _ (0,0,0,0) (λi hi=>?_) ?_) ?_
 rotate_left 2
 .cases fK l.2.2.length (Ko l)<;>rfl
 .have e:=qi hi;simp only[X9 e,o7,Ya hL e,o9,Ko,e,PI];cases x9 (Kq l i l.2.2[i]).1 0<;>rfl
 .rw[af];rfl
theorem a0y(hL:SwL l):qL l=some (mY l):=by
 unfold qL mY;rw[XZ hL.few hL.en,o9];cases x9 (DR l).1 0
 .rfl
 simp only[G8,o6,o7];rw[VS hL.few hL.tb,o9];cases x9 (zM l).1 0
 .rfl
 simp only[G8,o6,o7];rw[VR hL];rfl
theorem UQ(hL:SmL l):qL l=some (mY l):=a0y hL.w
theorem SK{k i:Int}{c:Int×Int}{r:Int×Int×Int×Int}(h:PI k i c=some r):r.1≠0:=by
 unfold PI at h;cases hc:x9 c.1 0<;>rw[hc]at h
 .cases h;exact qh.1 hc
 .cases h
theorem QE{l:d2h}(h:i<l.length):J9 l (i:Int)=some (hg l i):=by rw[U8];exact b3D h
def hw(W:d2h)(d:Int):Int:=W.getD d.toNat 0
end Go.GP
namespace Gt
open Go Go.GP
def il(y:Int):Bool:=if y % 4=0 then(if y % 100≠0 then true else decide (y % 400=0))else false
def ys(y:Int):Int:=(y -1900)*365+((y -1) / 4 -(y -1) / 100+(y -1) / 400) -460
def diy(y:Int):Int:=if il y then 366 else 365
theorem Ib(y:Int):ys (y+1)=ys y+diy y:=by unfold ys diy il;by_cases h4:y % 4=0<;>by_cases h100:y % 100=0<;>by_cases h400:y % 400=0<;>simp[h4,h100,h400]<;>omega
theorem b3P(a b:Int):a<b\/b<=a:=o5
theorem We(y:Int):365<=diy y/\diy y<=366:=by unfold diy;split<;>omega
theorem Dk{y y' :Int}(h:y<=y'):ys y<=ys y' :=by
 obtain⟨n,rfl⟩:∃n:Nat,y' =y+n:=⟨(y' -y).toNat,o5⟩;clear h;induction n with
 |zero=>simp|succ n ih=>have:=Ib (y+n);have:=We (y+n);have e:y+((n+1:Nat):Int)=y+n+1:=o5;rw[e];omega
variable {y:Int}
theorem Oq(h:1900<=y):0<=ys y:=by
 have:=Dk h;have e:ys 1900=0:=by decide+kernel
 omega
theorem a8o{y y' d:Int}(h1:ys y<=d)(h2:d<ys (y+1))(h3:ys y' <=d)(h4:d<ys (y' +1)):y=y' :=by
 rcases Int.lt_trichotomy y y' with h|h|h
 .have:=Dk (y:=y+1) (y' :=y') o5;omega
 .exact h
 .have:=Dk (y:=y' +1) (y' :=y) o5;omega
def dim(y m:Int):Int:=
 if m=2 then(if il y then 29 else 28)else if m=4\/m=6\/m=9\/m=11 then 30 else 31
theorem PG(y m:Int):28<=dim y m/\dim y m<=31:=by
 unfold dim;repeat' split
 all_goals omega
theorem LD(h:0<=y):GH y=some (il y):=by
 unfold GH il;simp only[AU h];by_cases h4:y % 4=0
 .rw[ou (O9 h4),if_pos h4];by_cases h100:y % 100=0
  .simp[x9,h100]
  .simp[x9,h100]
 .rw[pg (O5 h4),if_neg h4]
theorem KT(h:0<=y):Et y=some (il y):=LD h
theorem Oz(h:0<=y):nY y=some (diy y):=by unfold nY diy;rw[KT h,o9];cases il y<;>rfl
variable {m:Int}
theorem m12(h:1<=m/\m<=12):m=1\/m=2\/m=3\/m=4\/m=5\/m=6\/m=7\/m=8\/m=9\/m=10\/m=11\/m=12:=o5
theorem yT(h:0<=y)(hm:1<=m/\m<=12):jZ y m=some (dim y m):=by
 unfold jZ;rcases m12 hm with rfl|rfl|rfl|rfl|rfl|rfl|rfl|rfl|rfl|rfl|rfl|rfl
 all_goals first|rfl|(rw[LD h];unfold dim;cases il y<;>rfl)
theorem MN(h:0<=y)(hm:1<=m/\m<=12):mF y m=some (dim y m):=by
 unfold mF;rcases m12 hm with rfl|rfl|rfl|rfl|rfl|rfl|rfl|rfl|rfl|rfl|rfl|rfl
 all_goals first|rfl|(rw[KT h];unfold dim;cases il y<;>rfl)
theorem GK(h:0<=y)(h2:y<=1000000):xx y=some (y / 4 -y / 100+y / 400):=by unfold xx;simp only[Z7,nC h];rw[BI bn,BI bn,BI bn,di bn,dP bn]
theorem AC(h:1<=y)(h2:y<=1000000):rD y=some (ys y):=by unfold rD;have e1:N7 .i64 y 1900=y -1900:=di bn;have e2:nN .i64 (y -1900) 365=(y -1900)*365:=LX bn;rw[di (a:=y) (b:=1) bn,GK o5 o5,o9,GK o5 o5,o9,e1,e2,dP bn,di bn];unfold ys;congr 1
def mo(y:Int):Nat->Int->Int×Int
 |0,d=>(d,13)|n+1,d=>if d<dim y (12 -n)then(d,12 -n)else mo y n (d -dim y (12 -n))
theorem D_(y:Int)(n:Nat)(d:Int):mo y (n+1) d=if d<dim y (12 -(n:Int))then(d,12 -(n:Int))else mo y n (d -dim y (12 -(n:Int))):=rfl
def rem(y:Int):Nat->Int
 |0=>0|n+1=>dim y (12 -n)+rem y n
theorem a1W(y:Int):rem y 12=diy y:=by unfold diy;cases h:il y<;>simp[rem,dim,h]
theorem a6e(y:Int):∀(n:Nat) (d:Int),n<=12->0<=d->d<rem y n->1<=(mo y n d).2/\(mo y n d).2<=12/\0<=(mo y n d).1/\(mo y n d).1<dim y (mo y n d).2
 |0,d,_,h0,h=>by simp[rem]at h;omega|n+1,d,hn,h0,h=>by
  unfold mo;by_cases hd:d<dim y (12 -n)
  .rw[if_pos hd];refine⟨?_,?_,h0,hd⟩<;>simp<;>omega
  .rw[if_neg hd];refine a6e y n _ o5 o5 ?_;simp only[rem]at h;omega
def yOf(d:Int):Int:=((((List.range 300).find? (λ(k:Nat)=>decide (d<ys (1900+(k:Int)+1)))).getD 0:Nat):Int)+1900
variable {d:Int}
theorem NH(h0:0<=d)(h:d<=109572):1900<=yOf d/\yOf d<=2199/\ys (yOf d)<=d/\d<ys (yOf d+1):=by
 unfold yOf;cases hf:(List.range 300).find? (λ(k:Nat)=>decide (d<ys (1900+(k:Int)+1)))with
 |none=>
  have:=List.find?_eq_none.1 hf 299 A7;simp only[decide_eq_true_eq]at this;have e:ys (1900+(299:Nat)+1)=109573:=by decide+kernel
  omega
 |some k=>
  have h1:=List.find?_some hf;simp only[decide_eq_true_eq]at h1;have h2:=List.mem_of_find?_eq_some hf;simp only[fV]at h2;simp only[Z4];refine⟨o5,o5,?_,?_⟩
  .cases k with
   |zero=>
    have e:ys 1900=0:=by decide+kernel
    simp[e,h0]
   |succ j=>have h3:=List.find?_range_eq_some.1 hf;have h4:=h3.2.2 j o5;simp only[aX,decide_eq_false_iff_not,wC]at h4;have e:(((j+1:Nat):Int)+1900)=1900+(j:Int)+1:=o5;rw[e];exact h4
  .have e:(k:Int)+1900+1=1900+k+1:=o5;rw[e];exact h1
def ymd(d:Int):Int×Int×Int:=let y:=yOf d;let r:=mo y 12 (d -ys y);(y,r.2,r.1+1)
theorem Yc(h0:0<=d)(h:d<=109572):xw d=some (ymd d):=by
 obtain⟨y1,y2,y3,y4⟩:=NH h0 h;have y0:=Oq y1;unfold xw xy;rw[ou (Z9 h0),o9,Z9 h,G8,o6];have e0:E9 .i64 1900 (Z7 .i64 d 366)=1900+d / 366:=by
  have e:Z7 .i64 d 366=d / 366:=by rw[QH (by rw[nC h0];unfold jg;omega),nC h0]
  rw[e,dP bn]
 rw[e0];obtain⟨y,hy,hq⟩:=ul (f:=λ(x:Int)=>l9 (rD (E9 IntKind.i64 x 1)) λ(x_1:Int)=>l7 (P7 x_1 d) (some (Sum.inl (E9 IntKind.i64 x 1))) (some (Sum.inr x))) (s:=1900+d / 366)
  (λy=>1900<=y/\y<=yOf d) (λy=>y=yOf d) (λy=>(2200 -y).toNat) (by
   refine⟨o5,?_⟩;have e:∀n:Nat,ys (1900+n)<=366*n:=by
    intro n;induction n with
    |zero=>decide+kernel|succ n ih=>have:=Ib (1900+n);have:=We (1900+n);have e:(1900:Int)+((n+1:Nat):Int)=1900+n+1:=o5;rw[e];omega
   have e1:=e (d / 366).toNat
   have e2:((d / 366).toNat:Int)=d / 366:=o5;rw[e2]at e1;rcases b3P (yOf d) (1900+d / 366)with hlt|hge
   .have:=Dk (y:=yOf d+1) (y' :=1900+d / 366) o5;omega
   .exact hge) o5 (by
   intro y ⟨hy1,hy2⟩
   try simp only
   rw[dP bn,AC o5 o5,o9];by_cases hle:ys (y+1)<=d
   .refine .inl ⟨y+1,by rw[ou (Z9 hle)],⟨o5,?_⟩,o5⟩;rcases b3P (yOf d) (y+1)with hlt|hge
    .have:=Dk (y:=yOf d+1) (y' :=y+1) o5;omega
    .exact hge
   .refine .inr ⟨y,by rw[pg (dO o5)],?_⟩;rcases b3P y (yOf d)with hlt|hge
    .have:=Dk (y:=y+1) (y' :=yOf d) o5;omega
    .omega)
 rw[hy,o9,hq,AC o5 o5,o9,di bn];have hs:=Ib (yOf d);have hr:=a1W (yOf d);rcases FH (f:=λ(x:Int×Int)=>l7 (H5 x.2 12) (l9 (jZ (yOf d) (E9 IntKind.i64 x.2 1)) λ(x_1:Int)=>l7 (H5 x.1 x_1) (some (Out.rt (yOf d,E9 IntKind.i64 x.2 1,E9 IntKind.i64 x.1 1))) (some (Out.nx (N7 IntKind.i64 x.1 x_1,E9 IntKind.i64 x.2 1)))) (some (Out.ex PUnit.unit))) (s:=(d -ys (yOf d),0))
  (λs=>∃n:Nat,n<=12/\s.2=12 -n/\mo (yOf d) n s.1=mo (yOf d) 12 (d -ys (yOf d))/\0<=s.1/\s.1<rem (yOf d) n/\s.1<=400) (λ_=>False) (λr=>r=ymd d) (λs=>(12 -s.2).toNat)
  ⟨12,o5,A7,rfl,o5,by rw[hr];show d -ys (yOf d)<_;omega,by have:=We (yOf d);show d -ys (yOf d)<=400;omega⟩ A7 (by
   rintro⟨r,i⟩ ⟨n,hn,hi,hm,hr0,hrn,hr4⟩;simp only at hi hm hr0 hrn hr4 ⊢;cases n with
   |zero=>simp[rem]at hrn;omega|succ n=>
    have ei:i+1=12 -n:=o5;rw[ou (bT o5),dP bn,ei,yT o5 o5,o9];have hb:=PG (yOf d) (12 -n);rw[D_ (yOf d) n r]at hm;by_cases hlt:r<dim (yOf d) (12 -n)
    .rw[if_pos hlt]at hm;refine .inr (.inr ⟨_,by rw[ou (bT hlt)],?_⟩);rw[dP bn];unfold ymd
     try simp only
     rw[←hm]
    .rw[if_neg hlt]at hm;refine .inl ⟨_,by rw[pg (X5 o5),di bn],⟨n,o5,A7,hm,?_,?_,?_⟩,?_⟩
     .simp;omega
     .simp only[rem]at hrn ⊢;omega
     .simp;omega
     .simp;omega)with⟨_,_,hf⟩|⟨r,he,hr⟩
 .exact hf.elim
 .rw[he,o9,oU,hr]
theorem Xm(h0:0<=d)(h:d<=109572):Hf d=some (ymd d):=by
 obtain⟨y1,y2,y3,y4⟩:=NH h0 h;have y0:=Oq y1;unfold Hf Du;rw[ou (Z9 h0),o9,Z9 h,G8,o6];obtain⟨⟨r,y⟩,hy,hq⟩:=ul (f:=λ(x:Int×Int)=>l9 (nY x.2) λ(x_1:Int)=>l7 (P7 x_1 x.1) (l9 (nY x.2) λ(x_2:Int)=>some (Sum.inl (N7 IntKind.i64 x.1 x_2,E9 IntKind.i64 x.2 1))) (some (Sum.inr x))) (s:=(d,1900))
  (λs=>1900<=s.2/\s.2<=yOf d/\s.1=d -ys s.2) (λs=>s=(d -ys (yOf d),yOf d)) (λs=>(2200 -s.2).toNat)
  ⟨A7,by simpa using y1,by(have e:ys 1900=0:=by decide+kernel);simp[e]⟩ A7 (by
   rintro⟨r,y⟩ ⟨h1,h2,h3⟩;simp only at h1 h2 h3 ⊢;have hb:=We y;have hs:=Ib y;have hm:=Dk h2;have hpos:0<=ys y:=by
     have:=Dk (y:=1900) (y' :=y) h1;have e:ys 1900=0:=by decide+kernel
     omega
   rw[Oz o5,o9];by_cases hle:diy y<=r
   .refine .inl ⟨(r -diy y,y+1),?_,⟨by simp;omega,?_,?_⟩,?_⟩
    .rw[ou (Z9 hle),o9,di bn,dP bn]
    .simp only;rcases b3P (yOf d) (y+1)with hlt|hge
     .have:=Dk (y:=yOf d+1) (y' :=y+1) o5;omega
     .exact hge
    .simp only;omega
    .simp;omega
   .refine .inr ⟨_,by rw[pg (dO o5)],?_⟩;have e:y=yOf d:=a8o (d:=d) o5 o5 y3 y4;subst e;rw[h3])
 rw[hy,o9,hq]
 try simp only
 have hs:=Ib (yOf d);have hr:=a1W (yOf d);obtain⟨⟨r,m⟩,he,hq2⟩:=ul (f:=λ(x:Int×Int)=>l9 (mF (yOf d) x.2) λ(x_1:Int)=>l7 (P7 x_1 x.1) (l9 (mF (yOf d) x.2) λ(x_2:Int)=>some (Sum.inl (N7 IntKind.i64 x.1 x_2,E9 IntKind.i64 x.2 1))) (some (Sum.inr x))) (s:=(d -ys (yOf d),1))
  (λs=>∃n:Nat,n<=12/\s.2=13 -n/\mo (yOf d) n s.1=mo (yOf d) 12 (d -ys (yOf d))/\0<=s.1/\s.1<rem (yOf d) n/\s.1<=400) (λs=>s=mo (yOf d) 12 (d -ys (yOf d))) (λs=>(13 -s.2).toNat)
  ⟨12,o5,A7,rfl,o5,by rw[hr];show d -ys (yOf d)<_;omega,by have:=We (yOf d);show d -ys (yOf d)<=400;omega⟩ A7 (by
   rintro⟨r,i⟩ ⟨n,hn,hi,hm,hr0,hrn,hr4⟩;simp only at hi hm hr0 hrn hr4 ⊢;cases n with
   |zero=>simp[rem]at hrn;omega|succ n=>
    have ei:i=12 -n:=o5;subst ei;rw[MN o5 o5,o9];have hb:=PG (yOf d) (12 -n);rw[D_ (yOf d) n r]at hm;by_cases hlt:r<dim (yOf d) (12 -n)
    .rw[if_pos hlt]at hm;exact .inr ⟨_,by rw[pg (dO o5)],hm⟩
    .rw[if_neg hlt]at hm;refine .inl ⟨(r -dim (yOf d) (12 -n),12 -n+1),by rw[ou (Z9 o5),o9,di bn,dP bn],⟨n,o5,by simp;omega,hm,?_,?_,?_⟩,?_⟩
     .simp;omega
     .simp only[rem]at hrn ⊢;omega
     .simp;omega
     .simp;omega)
 rw[he,o9,hq2];have hb:=a6e (yOf d) 12 (d -ys (yOf d)) o5 o5 (by rw[hr];omega);have hb2:=PG (yOf d) (mo (yOf d) 12 (d -ys (yOf d))).2;rw[dP bn];rfl
theorem XU(h0:0<=d)(h:d<=109572):1900<=(ymd d).1/\(ymd d).1<=2199/\1<=(ymd d).2.1/\(ymd d).2.1<=12/\1<=(ymd d).2.2/\(ymd d).2.2<=31:=by
 obtain⟨y1,y2,y3,y4⟩:=NH h0 h;have y0:=Oq y1;have hs:=Ib (yOf d);have hb:=a6e (yOf d) 12 (d -ys (yOf d)) o5 o5 (by rw[a1W];omega);have hb2:=PG (yOf d) (mo (yOf d) 12 (d -ys (yOf d))).2;unfold ymd
 try simp only
 omega
end Gt
namespace Go.GP
open Gt
set_option maxRecDepth 100000
def JJ(y:Int):Nat->Int
 |0=>0|k+1=>JJ y k+dim y ((k:Int)+1)
def c0P(y m d:Int):Int:=ys y+JJ y (m -1).toNat+d -1
theorem E_(y:Int):∀k:Nat,k<=12->28*k<=JJ y k/\JJ y k<=31*k
 |0,_=>by simp[JJ]|k+1,h=>by have:=E_ y k o5;have:=PG y ((k:Int)+1);unfold JJ;omega
theorem c8W{y:Int}(h:1900<=y)(h2:y<=2200):0<=ys y/\ys y<=109573:=by
 have h1:=Oq h;have h3:=Dk h2;have:ys 2200=109573:=by decide
 omega
theorem a3K{y m d:Int}(hy:1900<=y/\y<=2199)(hm:1<=m/\m<=12)(h1:1<=d)(h2:d<=dim y m):yz y m d=some (c0P y m d,0):=by
 have hyb:=c8W hy.1 o5;have hdb:=PG y m;unfold yz;rw[X5 hy.1,o6,X5 hy.2,o6,X5 hm.1,o6,X5 hm.2,o6,X5 h1,o6,yT o5 hm,o9,X5 h2,o6,o9,X8,AC o5 o5,o9];have hs:N7 .i64 m 1=m -1:=di bn;obtain⟨e,k1,k2⟩:=ul (f:=λ(x:Int×Int)=>l7 (H5 x.2 (N7 .i64 m 1)) (l9 (jZ y (E9 .i64 x.2 1)) λ(x_1:Int)=>some (.inl (E9 .i64 x.1 x_1,E9 .i64 x.2 1))) (some (.inr x.1)))
  (s:=(ys y,0)) (λx=>∃i:Nat,x=(ys y+JJ y i,(i:Int))/\(i:Int)<=m -1) (λe=>e=ys y+JJ y (m -1).toNat) (λx=>(m -1 -x.2).toNat) ⟨0,by simp[JJ],o5⟩ F9 (by
  rintro x ⟨i,rfl,hi⟩;simp only[hs];by_cases hlt:(i:Int)<m -1
  .have hb:=E_ y i o5;have hd:=PG y ((i:Int)+1);left;refine⟨(ys y+JJ y (i+1),((i+1:Nat):Int)),?_,⟨i+1,rfl,o5⟩,by simp;omega⟩;rw[bT hlt,o7,fF o5,show(((i+1:Nat):Int))=(i:Int)+1 by omega,yT o5 o5,o9,dP bn];simp only[JJ];rw[Int.add_assoc]
  .right;have:i=(m -1).toNat:=o5;subst this;exact⟨_,by rw[X5 o5];rfl,rfl⟩)
 refine(a1I k1 _).trans ?_;have hb:=E_ y (m -1).toNat o5;rw[k2,dP bn,di bn];rfl
def q1(q:Int)(u:Bool):Int:=l7 u (q+1) q
def sg(q:Int)(neg:Bool):Int:=l7 neg (-q) q
def b5t(r:Gn):Prop:=jg r.2.1/\jg r.2.2.1/\jg r.2.2.2
def b6c(t:dm):Prop:=t.2.2.2.length<=200/\∀r∈t.2.2.2,b5t r
abbrev V3:Type:=Int×Int×Int
theorem SS{α β ρ:Type}(G:β->α->β⊕ρ)(P:ρ->Prop)(hG:∀b a r,G b a= .inr r->P r):∀(l:List α) (b:β) (r:ρ),mZ G l b= .inr r->P r
 |[],b,r,h=>by cases h|a::l,b,r,h=>by
  unfold mZ at h;cases hg:G b a with
  |inr r' =>rw[hg]at h;simp only at h;cases h;exact hG _ _ _ hg|inl b' =>rw[hg]at h;exact SS G P hG l b' r h
theorem b6i:∀i:Fin 40,(qp ((i.1:Nat):Int)=0->i.1∈[1,2,3,4,5,6,7,8,9,35,36,37,38,39])/\(qp ((i.1:Nat):Int)=1->i.1∈[10,25,31,32,33,34])/\(qp ((i.1:Nat):Int)=2->i.1∈[11,12,13,14,15,16,17,18,19,20,21,22,23,24,27,28,29,30])/\(qp ((i.1:Nat):Int)=3->i.1=26):=by decide+kernel
variable {k:Int}
theorem c0G(h:k<1\/39<k):qp k=-1:=by
 unfold qp jP;rw[O5 (show k≠10 by omega),O5 (show k≠25 by omega),O5 (show k≠31 by omega),O5 (show k≠32 by omega),O5 (show k≠33 by omega),O5 (show k≠34 by omega),O5 (show k≠26 by omega)];rcases h with h|h
 .rw[dO (show k<1 by omega),dO (show k<35 by omega),dO (show k<11 by omega)];rfl
 .rw[Z9 (show 1<=k by omega),dO (show 9<k by omega),Z9 (show 35<=k by omega),dO (show 39<k by omega),Z9 (show 11<=k by omega),dO (show 30<k by omega)];rfl
theorem c8Y(h:qp k≠-1):∃i:Fin 40,k=((i.1:Nat):Int):=by
 by_cases g:1<=k/\k<=39
 .exact⟨⟨k.toNat,o5⟩,by simp;omega⟩
 .exact absurd (c0G o5) h
def XT.node:XT->Int×Int
 | .l0 n=>n| .l1 n _=>n| .l2 n _ _=>n| .l3 n _ _ _=>n
def rtI(t:XT)(o:Nat):Nat:=o+t.size -1
def At(e:List (Int×Int))(S:d2h)(t:XT)(o:Nat):Prop:=∃pre suf S1 S2,e=pre++t.post++suf/\S=S1++t.sts o++S2/\pre.length=o/\S1.length=o
variable {e:List (Int×Int)}{o:Nat}{S:d2h}{a:XT}
theorem a5A{n:Int×Int}(h:At e S (.l1 n a) o):At e S a o:=by obtain⟨p,s,S1,S2,h1,h2,h3,h4⟩:=h;exact⟨p,[n]++s,S1,[(o:Int)]++S2,by rw[h1];simp[XT.post],by rw[h2];simp[XT.sts],h3,h4⟩
theorem YA{n:Int×Int}{a b:XT}(h:At e S (.l2 n a b) o):At e S a o/\At e S b (o+a.size):=by
 obtain⟨p,s,S1,S2,h1,h2,h3,h4⟩:=h;exact⟨⟨p,b.post++[n]++s,S1,b.sts (o+a.size)++[(o:Int)]++S2,by rw[h1];simp[XT.post],by rw[h2];simp[XT.sts],h3,h4⟩,
  ⟨p++a.post,[n]++s,S1++a.sts o,[(o:Int)]++S2,by rw[h1];simp[XT.post],by rw[h2];simp[XT.sts],by simp[XT.post_len,h3],by simp[XT.sts_len,h4]⟩⟩
theorem Qq{n:Int×Int}{a b c:XT}(h:At e S (.l3 n a b c) o):At e S a o/\At e S b (o+a.size)/\At e S c (o+a.size+b.size):=by
 obtain⟨p,s,S1,S2,h1,h2,h3,h4⟩:=h;exact⟨⟨p,b.post++c.post++[n]++s,S1,b.sts (o+a.size)++c.sts (o+a.size+b.size)++[(o:Int)]++S2,by rw[h1];simp[XT.post],by rw[h2];simp[XT.sts],h3,h4⟩,
  ⟨p++a.post,c.post++[n]++s,S1++a.sts o,c.sts (o+a.size+b.size)++[(o:Int)]++S2,by rw[h1];simp[XT.post],by rw[h2];simp[XT.sts],by simp[XT.post_len,h3],by simp[XT.sts_len,h4]⟩,
  ⟨p++a.post++b.post,[n]++s,S1++a.sts o++b.sts (o+a.size),[(o:Int)]++S2,by rw[h1];simp[XT.post],by rw[h2];simp[XT.sts],by simp[XT.post_len,h3];try omega,by simp[XT.sts_len,h4];try omega⟩⟩
theorem a7S(t:XT):∃p,t.post=p++[t.node]/\p.length+1=t.size:=by
 have hl:=t.post_len;cases t with
 |l0 n=>exact⟨[],rfl,rfl⟩|l1 n a=>refine⟨a.post,rfl,?_⟩;simp only[XT.post,C9,aW]at hl;exact hl|l2 n a b=>refine⟨a.post++b.post,rfl,?_⟩;simp only[XT.post,C9,aW]at hl ⊢;exact hl|l3 n a b c=>refine⟨a.post++b.post++c.post,rfl,?_⟩;simp only[XT.post,C9,aW]at hl ⊢;exact hl
theorem b2L(t:XT)(o:Nat):∃p,t.sts o=p++[(o:Int)]/\p.length+1=t.size:=by
 have hl:=t.sts_len o;cases t with
 |l0 n=>exact⟨[],rfl,rfl⟩|l1 n a=>refine⟨a.sts o,rfl,?_⟩;simp only[XT.sts,C9,aW]at hl;exact hl|l2 n a b=>refine⟨a.sts o++b.sts (o+a.size),rfl,?_⟩;simp only[XT.sts,C9,aW]at hl ⊢;exact hl|l3 n a b c=>refine⟨a.sts o++b.sts (o+a.size)++c.sts (o+a.size+b.size),rfl,?_⟩;simp only[XT.sts,C9,aW]at hl ⊢;exact hl
variable {t:XT}
theorem yx(h:At e S t o):e[rtI t o]? =some t.node/\S[rtI t o]? =some (o:Int)/\rtI t o<e.length:=by
 obtain⟨p,s,S1,S2,h1,h2,h3,h4⟩:=h;obtain⟨q,e1,e2⟩:=a7S t;obtain⟨q',e1',e2'⟩:=b2L t o;have hp:=t.size_pos;have a1:e[rtI t o]? =some t.node:=by rw[h1,e1,E5,E5,←E5 p,F8 (by simp[rtI];omega)];rw[show rtI t o -(p++q).length=0 by simp[rtI];omega];rfl
 refine⟨a1,?_,(aV.1 a1).1⟩;rw[h2,e1',E5,E5,←E5 S1,F8 (by simp[rtI];omega)];rw[show rtI t o -(S1++q').length=0 by simp[rtI];omega];rfl
def a7N:XT->Nat->d2h
 | .l0 _,_=>[]| .l1 _ a,o=>[(rtI a o:Int)]| .l2 _ a b,o=>[(rtI a o:Int),(rtI b (o+a.size):Int)]| .l3 _ a b c,o=>[(rtI a o:Int),(rtI b (o+a.size):Int),(rtI c (o+a.size+b.size):Int)]
structure OStep (S:d2h) (f:d2h×Int×Int->Option ((d2h×Int×Int)⊕d2h)):Prop where
 step:∀(l:d2h) (c:Nat) (j:Nat) (x:Nat),j<l.length->l.length<=3->S[c]? =some ((x:Nat):Int)->x<=100->f (l,(c:Int),(j:Int))=some (.inl (l.set j (c:Int),(x:Int) -1,(j:Int) -1))
 stop:∀(l:d2h) (c:Int),f (l,c,-1)=some (.inr l)
variable {n:Nat}
theorem CE{σ ε:Type}{f:σ->Option (σ⊕ε)}{s s' :σ}(h:f s=some (.inl s')):zU f (n+1) s=zU f n s' :=by rw[zU,h]
theorem CG{σ ε:Type}{f:σ->Option (σ⊕ε)}{s:σ}{e:ε}(h:f s=some (.inr e)):zU f (n+1) s=some e:=by rw[zU,h]
theorem a9K{f:d2h×Int×Int->Option ((d2h×Int×Int)⊕d2h)}(hs:OStep S f)(h:At e S t o)(he:e.length<=48)(hw:t.wf):
  bC f (List.replicate (qp t.node.1).toNat 0,(rtI t o:Int) -1,qp t.node.1 -1)=some (a7N t o):=by
 obtain⟨k,hk⟩:∃k,aH=k+1+1+1+1:=⟨aH -4,by unfold aH;omega⟩;unfold bC;rw[hk];have hr:=yx h;cases t with
 |l0 n=>rw[show qp (XT.l0 n).node.1=0 from hw];exact CG (hs.stop _ _)|l1 n a=>rw[show qp (XT.l1 n a).node.1=1 from hw.1];have ha:=yx (a5A h);have p1:=a.size_pos;rw[show((rtI (.l1 n a) o:Nat):Int) -1=((rtI a o:Nat):Int) by simp only[rtI,XT.size];omega];rw[show((1:Int) -1)=((0:Nat):Int)from rfl,CE (hs.step _ _ 0 o A7 A7 ha.2.1 (by unfold rtI at hr;omega))];rw[show(((0:Nat):Int) -1)=-1 from rfl,CG (hs.stop _ _)];rfl|l2 n a b=>rw[show qp (XT.l2 n a b).node.1=2 from hw.1];have ha:=yx (YA h).1;have hb:=yx (YA h).2;have p1:=a.size_pos;have p2:=b.size_pos;rw[show((rtI (.l2 n a b) o:Nat):Int) -1=((rtI b (o+a.size):Nat):Int) by simp only[rtI,XT.size];omega];rw[show((2:Int) -1)=((1:Nat):Int)from rfl,CE (hs.step _ _ 1 (o+a.size) A7 A7 hb.2.1 (by unfold rtI at hb;omega))];rw[show((o+a.size:Nat):Int) -1=((rtI a o:Nat):Int) by unfold rtI;omega,show(((1:Nat):Int) -1)=((0:Nat):Int)from rfl];rw[CE (hs.step _ _ 0 o A7 A7 ha.2.1 (by unfold rtI at hr;omega))];rw[show(((0:Nat):Int) -1)=-1 from rfl,CG (hs.stop _ _)];rfl|l3 n a b c=>rw[show qp (XT.l3 n a b c).node.1=3 from hw.1];have ha:=yx (Qq h).1;have hb:=yx (Qq h).2.1;have hc:=yx (Qq h).2.2;have p1:=a.size_pos;have p2:=b.size_pos;have p3:=c.size_pos;rw[show((rtI (.l3 n a b c) o:Nat):Int) -1=((rtI c (o+a.size+b.size):Nat):Int) by simp only[rtI,XT.size];omega];rw[show((3:Int) -1)=((2:Nat):Int)from rfl,CE (hs.step _ _ 2 (o+a.size+b.size) A7 A7 hc.2.1 (by unfold rtI at hc;omega))];rw[show((o+a.size+b.size:Nat):Int) -1=((rtI b (o+a.size):Nat):Int) by unfold rtI;omega,show(((2:Nat):Int) -1)=((1:Nat):Int)from rfl];rw[CE (hs.step _ _ 1 (o+a.size) A7 A7 hb.2.1 (by unfold rtI at hb;omega))];rw[show((o+a.size:Nat):Int) -1=((rtI a o:Nat):Int) by unfold rtI;omega,show(((1:Nat):Int) -1)=((0:Nat):Int)from rfl];rw[CE (hs.step _ _ 0 o A7 A7 ha.2.1 (by unfold rtI at hr;omega))];rw[show(((0:Nat):Int) -1)=-1 from rfl,CG (hs.stop _ _)];rfl
theorem c8S(h:t.wf):0<=qp t.node.1/\qp t.node.1<=3:=by
 cases t with
 |l0 n=>rw[show qp (XT.l0 n).node.1=0 from h];decide|l1 n a=>rw[show qp (XT.l1 n a).node.1=1 from h.1];decide|l2 n a b=>rw[show qp (XT.l2 n a b).node.1=2 from h.1];decide|l3 n a b c=>rw[show qp (XT.l3 n a b c).node.1=3 from h.1];decide
variable {α:Type}
theorem a7w(h:0<=k)(h2:k<=1000000)(x:α):Bf k x=some (List.replicate k.toNat x):=if_pos ⟨h,o5⟩
theorem Ep{T t:XT}(hT:kP e= .inr T)(h:At e (T.sts 0) t o)(hw:t.wf):Bl e (rtI t o:Int)=some (a7N t o):=by
 obtain⟨hp,he⟩:=oQ hT;have hr:=yx h;have ha:=c8S hw;unfold Bl;rw[OX,o9];unfold vZ;rw[hT];simp only[U8,hr.1,o9,b0y,O9 (rfl:(0:Int)=0),G8,o6];rw[X5 (show(0:Int)<=((rtI t o:Nat):Int) by omega),dO (show((rtI t o:Nat):Int)<x8 e by unfold x8;omega)];simp only[o6,o9,X8];rw[a7w ha.1 o5,o9,uS];rw[show N7 .i64 ((rtI t o:Nat):Int) 1=(rtI t o:Int) -1 from di bn];rw[show N7 .i64 (qp t.node.1) 1=qp t.node.1 -1 from di bn];refine a9K ⟨λl c j x hj hl hx hx2=>?_,λl c=>?_⟩ h he hw
 .have hjl:l[j]? =some l[j]:=qi hj;simp only[Z9 (show(0:Int)<=(j:Int) by omega),o7,U8,hjl,o9,hx,ah,Y1,J7,fZ];rw[di bn,di bn]
 .rfl
abbrev VSt:Type:=V3×List V3×Int
structure VStep (ops:d2h) (ev:Int->Option (V3×Int)) (pad:List V3->List V3) (f:VSt->Option (Out VSt (V3×List V3) (V3×Int))):Prop where
 step:∀(l:List V3) (c:Int) (r:V3×Int),ops[l.length]? =some c->ev c=some r->f ((0,0,0),pad l,(l.length:Int))=some (l7 (x9 r.2 0) (.nx ((0,0,0),pad (l++[r.1]),((l.length+1:Nat):Int))) (.rt ((0,0,0),r.2)))
 stop:∀(l:List V3),l.length=ops.length->f ((0,0,0),pad l,(l.length:Int))=some (.ex ((0,0,0),l))
section
variable {ev:Int->Option (V3×Int)} {pad:List V3->List V3} {f:VSt->Option (Out VSt (V3×List V3) (V3×Int))}
theorem v0(h:VStep [] ev pad f):O6 f ((0,0,0),pad [],0)=some (.inl ((0,0,0),[])):=by obtain⟨k,hk⟩:∃k,aH=k+1:=⟨aH -1,by unfold aH;omega⟩;unfold O6;rw[hk,iy,show f ((0,0,0),pad [],0)=some (.ex ((0,0,0),[]))from h.stop [] rfl]
theorem v1{c:Int}{r:V3×Int}(h:VStep [c] ev pad f)(h1:ev c=some r):O6 f ((0,0,0),pad [],0)=some (l7 (x9 r.2 0) (.inl ((0,0,0),[r.1])) (.inr ((0,0,0),r.2))):=by
 obtain⟨k,hk⟩:∃k,aH=k+1+1:=⟨aH -2,by unfold aH;omega⟩;unfold O6;rw[hk,iy,show f ((0,0,0),pad [],0)=_ from h.step [] c r rfl h1];cases x9 r.2 0
 .rfl
 .simp only[o7];rw[iy,show f ((0,0,0),pad ([]++[r.1]),(([].length+1:Nat):Int))=_ from h.stop [r.1] rfl]
theorem v2{c d:Int}{r q:V3×Int}(h:VStep [c,d] ev pad f)(h1:ev c=some r)(h2:ev d=some q):O6 f ((0,0,0),pad [],0)=some (l7 (x9 r.2 0) (l7 (x9 q.2 0) (.inl ((0,0,0),[r.1,q.1])) (.inr ((0,0,0),q.2))) (.inr ((0,0,0),r.2))):=by
 obtain⟨k,hk⟩:∃k,aH=k+1+1+1:=⟨aH -3,by unfold aH;omega⟩;unfold O6;rw[hk,iy,show f ((0,0,0),pad [],0)=_ from h.step [] c r rfl h1];cases x9 r.2 0
 .rfl
 .simp only[o7];rw[iy,show f ((0,0,0),pad ([]++[r.1]),(([].length+1:Nat):Int))=_ from h.step [r.1] d q rfl h2];cases x9 q.2 0
  .rfl
  .simp only[o7];rw[iy,show f ((0,0,0),pad ([r.1]++[q.1]),(([r.1].length+1:Nat):Int))=_ from h.stop [r.1,q.1] rfl]
end
theorem b6j(h:qp k=3):k=26:=by obtain⟨i,rfl⟩:=c8Y (by rw[h];decide);rw[(b6i i).2.2.2 h];rfl
theorem a0S(h:kP e= .inr t):At e (t.sts 0) t 0/\e.length<=48/\e.length=t.size/\N7 .i64 (x8 e) 1=(rtI t 0:Int):=by
 obtain⟨hp,h48⟩:=oQ h;have hsz:e.length=t.size:=by rw[hp,XT.post_len]
 have hpos:=t.size_pos;refine⟨⟨[],[],[],[],by simp[←hp],A7,rfl,rfl⟩,h48,hsz,?_⟩;rw[di (by unfold jg x8;omega)];unfold x8 rtI;omega
variable {l:V4}{s:V6}
theorem b3b(h:(mY l).1=0){i:Nat}(hs:l.2.2[i]? =some s):(Kq l i s).1=0:=by
 unfold mY at h;cases h1:x9 (DR l).1 0<;>rw[h1]at h
 .simp only[o6]at h;rw[O9 h]at h1;cases h1
 cases h2:x9 (zM l).1 0<;>rw[h2]at h
 .simp only[o7,o6]at h;rw[O9 h]at h2;cases h2
 simp only[o7]at h;unfold RJ at h;cases h3:H5 4 (x8 l.2.2)<;>rw[h3]at h
 case true=>exact absurd (show(4:Int)=0 from h) D9
 simp only[o6]at h;have hi:=(aV.1 hs).1;cases hf:fK l.2.2.length (Ko l)with
 |some r=>
  rw[hf]at h;simp only at h;obtain⟨j,hj,hp⟩:=oC hf;unfold Ko at hp;cases hq:l.2.2[j]? with
  |none=>rw[hq]at hp;cases hp|some q=>
   rw[hq]at hp;simp only at hp;unfold PI at hp;exact absurd h (by cases he:x9 (Kq l j q).1 0<;>rw[he]at hp<;>cases hp;simp only;intro h4;rw[O9 h4]at he;cases he)
 |none=>
  have hn:=yB hf i hi;unfold Ko at hn;rw[hs]at hn;simp only at hn;unfold PI at hn;cases he:x9 (Kq l i s).1 0<;>rw[he]at hn
  .cases hn
  exact Z8.1 he
theorem a8k(h:(mY l).1=0){i:Nat}(hs:l.2.2[i]? =some s):Tj l i s.2.1=false/\(N_ l s).1=0:=by
 have he:=b3b h hs;unfold Kq at he;cases g1:gz s.1<;>rw[g1]at he
 .exact absurd (show(2:Int)=0 from he) D9
 cases g2:Jl l 3 i s.1<;>rw[g2]at he
 case true=>exact absurd (show(7:Int)=0 from he) D9
 cases g3:Tj l i s.2.1<;>rw[g3]at he
 case true=>exact absurd (show(6:Int)=0 from he) D9
 cases g4:H5 12 (x8 s.2.2.1)<;>rw[g4]at he
 case true=>exact absurd (show(4:Int)=0 from he) D9
 cases g5:H5 12 (x8 s.2.2.2.1)<;>rw[g5]at he
 case true=>exact absurd (show(4:Int)=0 from he) D9
 exact⟨rfl,he⟩
theorem fA{l:List α}(h:H5 (n:Int) (x8 l)=false):l.length<=n:=by rw[nM]at h;unfold x8 at h;omega
def OO(r:iZ):Bool:=l7 (H5 80 (x8 r.1)) true (l7 (H5 80 (x8 r.2.2.2.2.2.2.2)) true (l7 (H5 50 (x8 r.2.2.2.2.2.1)) true (H5 50 (x8 r.2.2.2.2.2.2.1))))
def smS(s:V6):Bool:=l7 (H5 80 (x8 s.1)) false (l7 (H5 14 (x8 s.2.2.1)) false (l7 (H5 14 (x8 s.2.2.2.1)) false (l7 (H5 60 (x8 s.2.2.2.2)) false
 (l7 (s.2.2.1.any λf=>H5 80 (x8 f.1)) false (l7 (s.2.2.2.1.any λf=>H5 80 (x8 f.1)) false (G6 (s.2.2.2.2.any OO)))))))
theorem Wy{fs:List kD}(h:fs.length<=1000000):O6 (λ(x:Int)=>l7 (H5 x (x8 fs)) (l9 (J9 fs x) λ(x_1:kD)=>l7 (H5 80 (x8 x_1.1)) (some (Out.rt false)) (some (Out.nx (E9 IntKind.i64 x 1)))) (some (Out.ex PUnit.unit))) 0=some (bif fs.any (λf=>H5 80 (x8 f.1))then .inr false else .inl PUnit.unit):=by
 refine Vd fs (λf=>H5 80 (x8 f.1)) false PUnit.unit h (λi a ha=>?_) ?_
 .simp only[X9 ha,o7,U8,ha,o9];cases H5 80 (x8 a.1)<;>rfl
 .rw[af];rfl
theorem Yp(s:V6):zK s=some (smS s):=by
 unfold zK smS;cases h1:H5 80 (x8 s.1)
 case true=>rfl
 cases h2:H5 14 (x8 s.2.2.1)
 case true=>rfl
 cases h3:H5 14 (x8 s.2.2.2.1)
 case true=>rfl
 cases h4:H5 60 (x8 s.2.2.2.2)
 case true=>rfl
 have l2:=fA (n:=14) h2;have l3:=fA (n:=14) h3;have l4:=fA (n:=60) h4;simp only[o6,o9,X8];rw[Wy o5,Wy o5,o9];cases s.2.2.1.any λf=>H5 80 (x8 f.1)
 case true=>rfl
 simp only[cond_false,X8,o6,o9];cases s.2.2.2.1.any λf=>H5 80 (x8 f.1)
 case true=>rfl
 simp only[cond_false,X8,o6];refine V5 (Vd s.2.2.2.2 OO false PUnit.unit o5 (λi a ha=>?_) ?_) ?_
 rotate_left 2
 .cases s.2.2.2.2.any OO<;>rfl
 .simp only[X9 ha,o7,U8,ha,o9];unfold OO;cases H5 80 (x8 a.1)<;>cases H5 80 (x8 a.2.2.2.2.2.2.2)<;>cases H5 50 (x8 a.2.2.2.2.2.1)<;>cases H5 50 (x8 a.2.2.2.2.2.2.1)<;>rfl
 .rw[af];rfl
def ScI(s:V6):Prop:=∀r∈s.2.2.2.2,(∀n∈r.2.2.2.2.2.1,jg n.2)/\∀n∈r.2.2.2.2.2.2.1,jg n.2
theorem Ef{a b:Bool}(h:l7 a false b=true):a=false/\b=true:=by cases a<;>cases b<;>first|exact⟨rfl,rfl⟩|cases h
theorem OA{l:List α}{p:α->Bool}(h:l.any p=false):∀a∈l,p a=false:=by
 intro a ha;rw[eG]at h;have:=h a ha;cases hp:p a
 .rfl
 .exact absurd hp this
theorem b7S(h:smS s=true)(hI:ScI s):SmS s:=by
 unfold smS at h;obtain⟨h1,h⟩:=Ef h;obtain⟨h2,h⟩:=Ef h;obtain⟨h3,h⟩:=Ef h;obtain⟨h4,h⟩:=Ef h;obtain⟨h5,h⟩:=Ef h;obtain⟨h6,h⟩:=Ef h;have h7:s.2.2.2.2.any OO=false:=by cases hq:s.2.2.2.2.any OO<;>rw[hq]at h<;>first|rfl|cases h
 refine⟨by have:=fA (n:=80) h1;omega,fA (n:=14) h2,fA (n:=14) h3,Y4 (fA (n:=60) h4) o5,⟨λf hf=>?_,λf hf=>?_⟩,λr hr=>?_⟩
 .have:=fA (n:=80) (OA h5 f hf);omega
 .have:=fA (n:=80) (OA h6 f hf);omega
 .have hl:=OA h7 r hr;unfold OO at hl;cases g1:H5 80 (x8 r.1)<;>rw[g1]at hl
  case true=>cases hl
  cases g2:H5 80 (x8 r.2.2.2.2.2.2.2)<;>rw[g2]at hl
  case true=>cases hl
  cases g3:H5 50 (x8 r.2.2.2.2.2.1)<;>rw[g3]at hl
  case true=>cases hl
  have k1:=fA (n:=80) g1;have k2:=fA (n:=80) g2;exact⟨⟨o5,o5,(hI r hr).1,(hI r hr).2⟩,fA (n:=50) g3,fA (n:=50) hl⟩
def YU(e:aP):Bool:=l7 (H5 80 (x8 e.1)) true (l7 (H5 20 (x8 e.2)) true (e.2.any λm=>H5 80 (x8 m)))
def tG(b:Int)(t:dm):Int⊕Bool:=l7 (H5 80 (x8 t.1)) (.inr false) (l7 (H5 150 (E9 .i64 b (x8 t.2.2.2))) (.inr false) (.inl (E9 .i64 b (x8 t.2.2.2))))
def sG(b:Int)(s:V6):Int⊕Bool:=l7 (H5 60 (E9 .i64 b (x8 s.2.2.2.2))) (.inr false) (l7 (smS s) (.inl (E9 .i64 b (x8 s.2.2.2.2))) (.inr false))
def smL(l:V4):Bool:=l7 (H5 9 (x8 l.1)) false (l7 (H5 9 (x8 l.2.1)) false (l7 (H5 5 (x8 l.2.2)) false (l7 (l.1.any YU) false
 (match mZ tG l.2.1 0 with| .inr _=>false| .inl _=>match mZ sG l.2.2 0 with| .inr _=>false| .inl _=>true))))
theorem c0i:∀(b:Int) (t:dm) (r:Bool),tG b t= .inr r->r=false:=by intro b t r h;unfold tG at h;cases g0:H5 80 (x8 t.1)<;>cases g:H5 150 (E9 .i64 b (x8 t.2.2.2))<;>simp only[g0,g,o7,o6]at h<;>cases h<;>rfl
theorem b7P:∀(b:Int) (s:V6) (r:Bool),sG b s= .inr r->r=false:=by intro b s r h;unfold sG at h;cases g:H5 60 (E9 .i64 b (x8 s.2.2.2.2))<;>cases g2:smS s<;>simp only[g,g2,o7,o6]at h<;>cases h<;>rfl
theorem a2o(l:V4):wQ l=some (smL l):=by
 unfold wQ smL;cases h1:H5 9 (x8 l.1)
 case true=>rfl
 cases h2:H5 9 (x8 l.2.1)
 case true=>rfl
 cases h3:H5 5 (x8 l.2.2)
 case true=>rfl
 have l1:=fA (n:=9) h1;have l2:=fA (n:=9) h2;have l3:=fA (n:=5) h3;simp only[o6,o9,X8];refine V5 (Vd l.1 YU false PUnit.unit o5 (λi a ha=>?_) ?_) ?_
 .simp only[X9 ha,o7,U8,ha,o9];unfold YU;cases H5 80 (x8 a.1)
  case true=>rfl
  cases h5:H5 20 (x8 a.2)
  case true=>rfl
  have l5:=fA (n:=20) h5;simp only[o6];refine V5 (Vd a.2 (λm=>H5 80 (x8 m)) false PUnit.unit o5 (λj m hm=>?_) ?_) ?_
  .simp only[X9 hm,o7,U8,hm,o9];cases H5 80 (x8 m)<;>rfl
  .rw[af];rfl
  .cases a.2.any λm=>H5 80 (x8 m)<;>rfl
 .rw[af];rfl
 cases l.1.any YU
 case true=>rfl
 simp only[cond_false,X8,o6];apply FD l.2.1 tG (λb i=>((b,i):Int×Int)) (λ_=>PUnit.unit) (λ_ _=>True) 0 o5 trivial
 .intro i t b hi hi' _;refine⟨?_,λ_ _=>trivial⟩;simp only[X9 hi,o7,U8,hi,o9];unfold tG;rw[fF o5];cases H5 80 (x8 t.1)<;>cases H5 150 (E9 .i64 b (x8 t.2.2.2))<;>rfl
 .intro b _;rw[af];rfl
 .intro _;cases ht:mZ tG l.2.1 0 with
  |inr r=>rw[SS tG (λr=>r=false) c0i _ _ _ ht];rfl|inl b=>
   simp only[X8];apply FD l.2.2 sG (λb i=>((b,i):Int×Int)) (λ_=>PUnit.unit) (λ_ _=>True) 0 o5 trivial
   .intro i s b hi hi' _;refine⟨?_,λ_ _=>trivial⟩;simp only[X9 hi,o7,U8,hi,o9,Yp];unfold sG;rw[fF o5];cases H5 60 (E9 .i64 b (x8 s.2.2.2.2))<;>cases smS s<;>rfl
   .intro b _;rw[af];rfl
   .intro _;cases hs:mZ sG l.2.2 0 with
    |inr r=>rw[SS sG (λr=>r=false) b7P _ _ _ hs];rfl|inl b=>rfl
structure WfL (l:V4):Prop where
 rl:∀t∈l.2.1,t.2.2.2.length<=4611686018427387904
 ri:∀t∈l.2.1,∀r∈t.2.2.2,b5t r
 sl:∀s∈l.2.2,s.2.2.2.2.length<=4611686018427387904
 si:∀s∈l.2.2,ScI s
theorem a5f:∀(L:List dm) (b b' :Int),0<=b->b<=150->(∀t∈L,t.2.2.2.length<=4611686018427387904)->mZ tG L b= .inl b' ->∀t∈L,t.1.length<=80/\t.2.2.2.length<=150
 |[],_,_,_,_,_,_=>by simp|t::L,b,b',h0,h1,hw,h=>by
  have hwt:=hw t A7;have ha:E9 .i64 b (x8 t.2.2.2)=b+x8 t.2.2.2:=dP (by unfold jg x8;omega);unfold mZ tG at h;rw[ha]at h;cases g0:H5 80 (x8 t.1)<;>rw[g0]at h
  case true=>cases h
  cases g1:H5 150 (b+x8 t.2.2.2)<;>rw[g1]at h
  case true=>cases h
  rw[nM]at g1;intro x hx;rcases D6.1 hx with rfl|hx
  .exact⟨fA (n:=80) g0,by unfold x8 at g1;omega⟩
  .exact a5f L (b+x8 t.2.2.2) b' (by unfold x8;omega) g1 (λq hq=>hw q (by simp[hq])) h x hx
theorem a4G:∀(L:List V6) (b b' :Int),0<=b->b<=60->(∀s∈L,s.2.2.2.2.length<=4611686018427387904)->mZ sG L b= .inl b' ->∀s∈L,smS s=true
 |[],_,_,_,_,_,_=>by simp|s::L,b,b',h0,h1,hw,h=>by
  have hwt:=hw s A7;have ha:E9 .i64 b (x8 s.2.2.2.2)=b+x8 s.2.2.2.2:=dP (by unfold jg x8;omega);unfold mZ sG at h;rw[ha]at h;cases g1:H5 60 (b+x8 s.2.2.2.2)<;>rw[g1]at h
  case true=>cases h
  cases g2:smS s<;>rw[g2]at h
  case false=>cases h
  rw[nM]at g1;intro x hx;rcases D6.1 hx with rfl|hx
  .exact g2
  .exact a4G L (b+x8 s.2.2.2.2) b' (by unfold x8;omega) g1 (λq hq=>hw q (by simp[hq])) h x hx
theorem b7R(h:smL l=true)(hW:WfL l):SmL l/\∀t∈l.2.1,b6c t:=by
 unfold smL at h;obtain⟨h1,h⟩:=Ef h;obtain⟨h2,h⟩:=Ef h;obtain⟨h3,h⟩:=Ef h;obtain⟨h4,h⟩:=Ef h;have l1:=fA (n:=9) h1;have l2:=fA (n:=9) h2;have l3:=fA (n:=5) h3;cases ht:mZ tG l.2.1 0 with
 |inr r=>rw[ht]at h;cases h|inl b=>
  rw[ht]at h;simp only at h;cases hs:mZ sG l.2.2 0 with
  |inr r=>rw[hs]at h;cases h|inl b' =>
   have T:=a5f l.2.1 0 b o5 o5 hW.rl ht;have S:=a4G l.2.2 0 b' o5 o5 hW.sl hs;refine⟨⟨⟨o5,o5,o5⟩,λe he=>?_,λt ht=>by have:=(T t ht).1;omega,λs hs=>b7S (S s hs) (hW.si s hs)⟩,λt ht=>⟨by have:=(T t ht).2;omega,hW.ri t ht⟩⟩;have hl:=OA h4 e he;unfold YU at hl;cases g1:H5 80 (x8 e.1)<;>rw[g1]at hl
   case true=>cases hl
   cases g2:H5 20 (x8 e.2)<;>rw[g2]at hl
   case true=>cases hl
   have k1:=fA (n:=80) g1;exact⟨o5,λm hm=>by have:=fA (n:=80) (OA hl m hm);omega⟩
theorem FX:reachBytes<=4611686018427387904:=by decide
theorem c8R(h:wf d2f l):WfL l:=by
 refine⟨λt ht=>?_,λt ht r hr=>?_,λs hs=>?_,λs hs r hr=>⟨λn hn=>?_,λn hn=>?_⟩⟩
 .have:=(h.2.1.2 t ht).2.2.2.1;exact Y4 this FX
 .have:=(h.2.1.2 t ht).2.2.2.2 r hr;exact⟨DX this.2.1,DX this.2.2.1,DX this.2.2.2⟩
 .have:=(h.2.2.2 s hs).2.2.2.2.1;exact Y4 this FX
 .have:=(h.2.2.2 s hs).2.2.2.2.2 r hr;exact DX (this.2.2.2.2.2.1.2 n hn).2
 .have:=(h.2.2.2 s hs).2.2.2.2.2 r hr;exact DX (this.2.2.2.2.2.2.1.2 n hn).2
theorem WC{ρ:Type}{p:Nat->Option ρ}(h:∀r,fK n p≠some r):∀i,i<n->p i=none:=by
 cases hf:fK n p with
 |some r=>exact absurd hf (h r)|none=>exact yB hf
theorem a7j{k i:Int}{r:Int×Int}(h:PI k i r=none):r.1=0:=by
 unfold PI at h;cases he:x9 r.1 0<;>rw[he]at h
 .cases h
 .exact Z8.1 he
end Go.GP
namespace Gt
open Go Go.GP
variable {n:Int}
theorem b3H(h:jg n):Iu n=some (Lib.itoa n):=by unfold Iu;rw[if_pos (show -9223372036854775808<=n/\n<=9223372036854775807 from h)]
theorem Zn{s:d2g}{c:Nat}(h:c<=1000000)(hs:s.length<=1000000):vG s (c:Int)=some (Lib.repeatL s c):=by
 unfold vG
 have:s.length*c<=1000000*1000000:=Nat.mul_le_mul hs h;rw[if_pos ⟨o5,o5,by rw[J7];omega⟩,J7]
theorem c5g(x:UInt8)(c:Nat):Lib.repeatL [x] c=List.replicate c x:=by have:=Lib.repeatL_replicate x 1 c;simpa using this
theorem a2N{d:Int}(h0:0<=d)(h:d<10):b5k (wrap .u8 (E9 .u64 48 d))=UInt8.ofNat (48+d.toNat):=by
 rw[a1l (by unfold U64;omega)];have e:wrap .u8 (48+d)=((48+d.toNat:Nat):Int):=by unfold wrap IntKind.wrap;simp[IntKind.signed,IntKind.bits];omega
 rw[e];unfold b5k;rw[J7]
theorem b5x(n:Int):a0W [n]=[b5k n]:=rfl
theorem a0Y:∀(k u:Nat),u<k->u<18446744073709551616->yG k (u:Int)=some (Lib.decDigits u)
 |0,u,h,_=>by omega|k+1,u,h,hu=>by
  show Bj (yG k) (u:Int)=_;unfold Bj;by_cases h10:u<10
  .try simp only[b5x]
   rw[ou (bT o5),a2N o5 o5,Lib.decDigits,dif_pos h10,J7]
  .have e1:(u:Int).tdiv 10=((u / 10:Nat):Int):=by rw[nC o5];omega
   have e2:dJ (u:Int) 10=((u % 10:Nat):Int):=by rw[AU o5];omega
   try simp only[b5x]
   rw[pg (X5 o5),a9b (by rw[e1];unfold U64;omega)];rw[e1,a0Y k (u / 10) o5 o5,o9,e2,a2N o5 o5,H7,o9,J7]
   .congr 1
    conv=>rhs;rw[Lib.decDigits,dif_neg h10]
   .have:=Lib.nDigits_le20 (u / 10) o5;rw[Lib.decDigits_length];simp;omega
theorem KR(h:U64 n):Es n=some (Lib.decDigits n.toNat):=by unfold U64 at h;have:=a0Y aH n.toNat (by unfold aH;omega) o5;rw[uh h.1]at this;exact this
theorem Dp(h:jg n):(Lib.itoa n).length<=21:=Lib.itoa_length_le n h.1 h.2
variable {u:Nat}
theorem qQ(h:u<18446744073709551616):1<=(Lib.decDigits u).length/\(Lib.decDigits u).length<=20:=by rw[Lib.decDigits_length];exact⟨Lib.nDigits_pos u,Lib.nDigits_le20 u h⟩
theorem rU(h:jg n):mV n=some (Lib.itoa n):=by
 unfold jg at h;unfold mV Lib.itoa;by_cases hn:n<0
 .rw[ou (bT hn),if_pos hn,dP bn,di bn];rw[show wrap .u64 (0 -(n+1))=0 -(n+1)from RX (by unfold U64;omega),a1l (by unfold U64;omega),KR (by unfold U64;omega),o9];have e:(0 -(n+1)+1).toNat=n.natAbs:=o5;rw[e,H7,o9]
  .rfl
  .have:=(qQ (u:=n.natAbs) o5).2;simp;omega
 .rw[pg (X5 o5),if_neg hn,show wrap .u64 n=n from RX (by unfold U64;omega),KR (by unfold U64;omega),o9]
theorem jO(h:jg n):mg n=some (Lib.itoa n):=by unfold mg;rw[b3H h];rfl
def vO(u k:Nat):d2g:=
 let d:=List.replicate (k+1 -(Lib.decDigits u).length) 48++Lib.decDigits u
 d.take (d.length -k)++46::d.drop (d.length -k)
def qx(n:Int)(k:Nat):d2g:=if n<0 then 45::vO n.natAbs k else vO n.natAbs k
variable {k:Nat}
theorem a3F(hu:u<18446744073709551616)(hk:k<=9):(vO u k).length<=31:=by have:=qQ hu;unfold vO;simp;omega
theorem EI(h:jg n)(hk:k<=9):(qx n k).length<=32:=by unfold jg at h;have:=a3F (u:=n.natAbs) (k:=k) o5 hk;unfold qx;split<;>simp<;>omega
variable {d:d2g}
theorem a8H(h1:k<d.length)(h2:d.length<=100):
  gm d 0 (N7 .i64 (x8 d) (k:Int))=some (d.take (d.length -k))/\gm d (N7 .i64 (x8 d) (k:Int)) (x8 d)=some (d.drop (d.length -k)):=by
 have e:N7 .i64 (x8 d) (k:Int)=((d.length -k:Nat):Int):=by rw[di (by unfold jg x8;omega)];unfold x8;omega
 rw[e];exact⟨by rw[Bg o5 o5];simp,by rw[pK o5 o5];simp⟩
theorem a6I{d p:d2g}(h1:k<d.length)(h2:d.length<=100)(hp:p.length<=100):
  (l9 (gm d 0 (N7 .i64 (x8 d) (k:Int))) λx=>l9 (O0 p x) λy=>l9 (O0 y [46]) λz=>l9 (gm d (N7 .i64 (x8 d) (k:Int)) (x8 d)) λt=>l9 (O0 z t) λx=>some x)
   =some (p++(d.take (d.length -k)++46::d.drop (d.length -k))):=by
 obtain⟨c1,c2⟩:=a8H h1 h2;rw[c1,o9,H7 F9,o9,H7 F9,o9,c2,o9,H7 F9,o9];simp
theorem gQ(h:jg n)(hk:1<=k/\k<=9):bM n (k:Int)=some (qx n k):=by
 have hI:=h;unfold jg at h;have ek:vP 0 (BJ (k:Int) 9)=(k:Int):=by unfold vP BJ;split<;>split<;>omega
 unfold bM jf;rw[o9,ek,jO hI,o9,pg (O5 o5)];have hd:=qQ (u:=n.natAbs) o5;have rest:∀(d p:d2g),1<=d.length->d.length<=20->p.length<=1->
   l7 (P7 (x8 d) (k:Int))
    (l9 (vG [48] (N7 .i64 (E9 .i64 (k:Int) 1) (x8 d))) λx3=>l9 (O0 x3 d) λx4=>l9 (gm x4 0 (N7 .i64 (x8 x4) (k:Int))) λx5=>l9 (O0 p x5) λx6=>l9 (O0 x6 [46]) λx7=>
     l9 (gm x4 (N7 .i64 (x8 x4) (k:Int)) (x8 x4)) λx=>l9 (O0 x7 x) λx=>some x)
    (l9 (gm d 0 (N7 .i64 (x8 d) (k:Int))) λx=>l9 (O0 p x) λy=>l9 (O0 y [46]) λz=>l9 (gm d (N7 .i64 (x8 d) (k:Int)) (x8 d)) λt=>l9 (O0 z t) λx=>some x)
   =some (p++(let e:=List.replicate (k+1 -d.length) 48++d;e.take (e.length -k)++46::e.drop (e.length -k))):=by
  intro d p h1 h2 h3;by_cases hle:d.length<=k
  .rw[ou (Z9 (by unfold x8;omega))];have e:N7 .i64 (E9 .i64 (k:Int) 1) (x8 d)=((k+1 -d.length:Nat):Int):=by
    rw[dP bn,di (by unfold jg x8;omega)];unfold x8;omega
   rw[e,Zn o5 A7,c5g,o9,H7 F9,o9];exact a6I F9 F9 o5
  .rw[pg (dO (by unfold x8;omega)),a6I o5 o5 o5];have:k+1 -d.length=0:=o5;rw[this];simp
 unfold Lib.itoa qx vO;by_cases hn:n<0
 .rw[if_pos hn,if_pos hn,ou (bT hn)];have e:gm (45::Lib.decDigits n.natAbs) 1 (x8 (45::Lib.decDigits n.natAbs))=some (Lib.decDigits n.natAbs):=by
   rw[pK o5 F9];simp
  rw[e,o9];exact rest (Lib.decDigits n.natAbs) [45] hd.1 hd.2 A7
 .rw[if_neg hn,if_neg hn,pg (X5 o5)];have e:n.toNat=n.natAbs:=o5;rw[e];exact rest (Lib.decDigits n.natAbs) [] hd.1 hd.2 A7
theorem b3p :∀(h:d=Lib.decDigits u),∀c∈d,48<=c.toNat/\c.toNat<=57:=by intro h c hc;subst h;rw[Lib.decDigits_eq]at hc;obtain⟨t,_,rfl⟩:=aJ.1 hc;unfold Lib.dg;have:u / 10^(Lib.nDigits u -1 -t) % 10<10:=Nat.mod_lt _ o5;generalize u / 10^(Lib.nDigits u -1 -t) % 10=r at this;simp;omega
theorem LH{c:UInt8}(hc:c∈Lib.decDigits u):48<=c.toNat/\c.toNat<=57:=b3p rfl c hc
theorem Xk(h:∀c∈d,48<=c.toNat/\c.toNat<=57)(h1:1<=d.length):CS d=some (d,false):=by
 unfold CS;rw[ou (bT (by unfold x8;omega))];match d,h1 with
 |c::r,_=>have e:sat (c::r) 0=some (c.toNat:Int):=rfl;have:=h c A7;rw[e,o9,pg (O5 o5)]
theorem Xl :CS (45::d)=some (d,true):=by unfold CS;rw[ou (bT (by unfold x8;simp))];have e:sat (45::d) 0=some (45:Int):=rfl;rw[e,o9,ou (O9 rfl),pK o5 F9,o9];simp
theorem b4f(hk:k<=100)(hd:d.length<=100):
  bC (λ(x_3:d2g)=>l7 (P7 (x8 x_3) (k:Int)) (l9 (O0 [48] x_3) λ(x:d2g)=>some (Sum.inl x)) (some (Sum.inr x_3))) d=some (List.replicate (k+1 -d.length) 48++d):=by
 obtain⟨e,h1,h2⟩:=ul (f:=λ(x_3:d2g)=>l7 (P7 (x8 x_3) (k:Int)) (l9 (O0 [48] x_3) λ(x:d2g)=>some (Sum.inl x)) (some (Sum.inr x_3))) (s:=d)
  (λs=>s.length<=102/\List.replicate (k+1 -s.length) 48++s=List.replicate (k+1 -d.length) 48++d) (λe=>e=List.replicate (k+1 -d.length) 48++d) (λs=>k+1 -s.length) ⟨o5,rfl⟩ o5 (by
   intro s ⟨hs,he⟩;by_cases hle:s.length<=k
   .refine .inl ⟨48::s,?_,⟨by simp;omega,?_⟩,by simp;omega⟩
    .rw[ou (Z9 (by unfold x8;omega)),H7 F9];rfl
    .rw[←he];have e1:k+1 -s.length=(k+1 -(48::s).length)+1:=by simp;omega
     rw[e1,sD];simp
   .refine .inr ⟨s,?_,?_⟩
    .rw[pg (dO (by unfold x8;omega))]
    .rw[←he,show k+1 -s.length=0 by omega];simp)
 rw[h1,h2]
theorem tV(h:jg n)(hk:1<=k/\k<=9):jo n (k:Int)=some (qx n k):=by
 have hI:=h;unfold jg at h;have ek:BJ (vP (k:Int) 0) 9=(k:Int):=by unfold vP BJ;split<;>split<;>omega
 unfold jo MM;have hd:=qQ (u:=n.natAbs) o5;rw[o9,ek,pg (O5 o5),rU hI,o9];have rest:∀(d:d2g) (b:Bool),1<=d.length->d.length<=20->
   (l9 (bC (λ(x_3:d2g)=>l7 (P7 (x8 x_3) (k:Int)) (l9 (O0 [48] x_3) λ(x:d2g)=>some (Sum.inl x)) (some (Sum.inr x_3))) (d,b).1) λ(y:d2g)=>
    l9 (gm y 0 (N7 .i64 (x8 y) (k:Int))) λ(x_3:d2g)=>l9 (O0 x_3 [46]) λ(x_4:d2g)=>l9 (gm y (N7 .i64 (x8 y) (k:Int)) (x8 y)) λ(x:d2g)=>
     l9 (O0 x_4 x) λ(x:d2g)=>l7 (d,b).2 (l9 (O0 [45] x) λ(x:d2g)=>some x) (some x))
   =some ((if b then[45]else[])++(let e:=List.replicate (k+1 -d.length) 48++d;e.take (e.length -k)++46::e.drop (e.length -k))):=by
  intro d b h1 h2;rw[b4f (d:=d) o5 o5,o9];generalize he:List.replicate (k+1 -d.length) 48++d=e;have hl:k<e.length/\e.length<=40:=by subst he;simp;omega
  obtain⟨c1,c2⟩:=a8H hl.1 o5;rw[c1,o9,H7 F9,o9,c2,o9,H7 F9,o9];cases b
  .simp
  .show l9 (O0 [45] _) _=_;rw[H7 F9,o9];simp
 unfold Lib.itoa qx vO;by_cases hn:n<0
 .rw[if_pos hn,if_pos hn,Xl,o9];exact rest (Lib.decDigits n.natAbs) true hd.1 hd.2
 .rw[if_neg hn,if_neg hn];have e:n.toNat=n.natAbs:=o5;rw[e,Xk (λc hc=>LH hc) hd.1,o9];exact rest (Lib.decDigits n.natAbs) false hd.1 hd.2
def Jd(n:Int)(w:Nat):d2g:=List.replicate (w -(Lib.itoa n).length) 48++Lib.itoa n
variable {w:Nat}
theorem Bi(h:jg n)(hw:w<=4):(Jd n w).length<=25:=by have:=Dp h;unfold Jd;simp;omega
theorem LG(h:jg n)(hw:w<=4):EY n (w:Int)=some (Jd n w):=by
 have hl:=Dp h;unfold EY;rw[jO h,o9];have e:vP 0 (N7 .i64 (w:Int) (x8 (Lib.itoa n)))=((w -(Lib.itoa n).length:Nat):Int):=by rw[di (by unfold jg x8;omega)];unfold vP x8;split<;>omega
 rw[e,Zn o5 A7,c5g,o9,H7 F9,o9];rfl
theorem JQ(h:jg n)(hw:w<=4):CU n (w:Int)=some (Jd n w):=by
 have hl:=Dp h;unfold CU;rw[rU h,o9];show _=some (List.replicate (w -(Lib.itoa n).length) 48++Lib.itoa n);generalize Lib.itoa n=d at hl ⊢;obtain⟨e,h1,h2⟩:=ul (f:=λ(x:d2g)=>l7 (H5 (x8 x) (w:Int)) (l9 (O0 [48] x) λ(x:d2g)=>some (Sum.inl x)) (some (Sum.inr x))) (s:=d)
  (λs=>s.length<=30/\List.replicate (w -s.length) 48++s=List.replicate (w -d.length) 48++d) (λe=>e=List.replicate (w -d.length) 48++d) (λs=>w -s.length) ⟨o5,rfl⟩ o5 (by
   intro s ⟨hs,he⟩;by_cases hle:s.length<w
   .refine .inl ⟨48::s,?_,⟨by simp;omega,?_⟩,by simp;omega⟩
    .rw[ou (bT (by unfold x8;omega)),H7 F9];rfl
    .rw[←he];have e1:w -s.length=(w -(48::s).length)+1:=by simp;omega
     rw[e1,sD];simp
   .refine .inr ⟨s,?_,?_⟩
    .rw[pg (X5 (by unfold x8;omega))]
    .rw[←he,show w -s.length=0 by omega];simp)
 rw[h1,o9,h2]
def W9(d:Int):d2g:=if 0<=d/\d<=109572 then Jd (ymd d).1 4++45::Jd (ymd d).2.1 2++45::Jd (ymd d).2.2 2 else[]
theorem b5G{a b c:d2g}(ha:a.length<=100)(hb:b.length<=100)(hc:c.length<=100){A C B:Option d2g}(eb:B=some b)(ec:C=some c):
  (l9 (O0 a [45]) λx2=>l9 B λx3=>l9 (O0 x2 x3) λx4=>l9 (O0 x4 [45]) λx5=>l9 C λx=>l9 (O0 x5 x) λx=>some x)=some (a++45::b++45::c):=by
 rw[H7 F9,o9,eb,o9,H7 F9,o9,H7 F9,o9,ec,o9,H7 F9,o9];simp
theorem yD(h1:-1000000<=n)(h2:n<=1000000):jg n:=by unfold jg;omega
theorem oJ(d:Int):sZ d=some (W9 d):=by
 unfold sZ xy W9;by_cases h0:0<=d
 .rw[ou (Z9 h0),o9];by_cases h:d<=109572
  .rw[Z9 h,G8,o6,Yc h0 h,o9,if_pos ⟨h0,h⟩];have hb:=XU h0 h;have p1:=yD (n:=(ymd d).1) o5 o5;have p2:=yD (n:=(ymd d).2.1) o5 o5;have p3:=yD (n:=(ymd d).2.2) o5 o5;rw[show EY (ymd d).1 4=_ from LG (w:=4) p1 o5,o9];have l1:=Bi (w:=4) p1 o5;have l2:=Bi (w:=2) p2 o5;have l3:=Bi (w:=2) p3 o5;exact b5G (A:=none) o5 o5 o5 (LG (w:=2) p2 o5) (LG (w:=2) p3 o5)
  .rw[dO o5,V7,o7,if_neg o5]
 .rw[pg (dO o5),o9,V7,o7,if_neg o5]
theorem wH(d:Int):tX d=some (W9 d):=by
 unfold tX Du W9;by_cases h0:0<=d
 .rw[ou (Z9 h0),o9];by_cases h:d<=109572
  .rw[Z9 h,G8,o6,Xm h0 h,o9,if_pos ⟨h0,h⟩];have hb:=XU h0 h;have p1:=yD (n:=(ymd d).1) o5 o5;have p2:=yD (n:=(ymd d).2.1) o5 o5;have p3:=yD (n:=(ymd d).2.2) o5 o5;rw[show CU (ymd d).1 4=_ from JQ (w:=4) p1 o5,o9];have l1:=Bi (w:=4) p1 o5;have l2:=Bi (w:=2) p2 o5;have l3:=Bi (w:=2) p3 o5;exact b5G (A:=none) o5 o5 o5 (JQ (w:=2) p2 o5) (JQ (w:=2) p3 o5)
  .rw[dO o5,V7,o7,if_neg o5]
 .rw[pg (dO o5),o9,V7,o7,if_neg o5]
theorem lW(d:Int):(W9 d).length<=100:=by
 unfold W9;split
 .rename_i h;have hb:=XU h.1 h.2;have l1:=Bi (w:=4) (yD (n:=(ymd d).1) o5 o5) o5;have l2:=Bi (w:=2) (yD (n:=(ymd d).2.1) o5 o5) o5;have l3:=Bi (w:=2) (yD (n:=(ymd d).2.2) o5 o5) o5;simp;omega
 .simp
theorem wo(t:Int×Int)(en:List aP):bu t en=Y7 t en:=by
 unfold bu Y7;by_cases h1:t.1=1
 .simp[x9,h1,P7]
 by_cases h2:t.1=2
 .simp[x9,h2,P7]
 by_cases h3:t.1=3
 .simp[x9,h3,P7]
 by_cases h4:t.1=4
 .simp[x9,h4,P7]
 by_cases h5:t.1=5
 .simp[x9,h5,P7]
 by_cases h6:t.1=6
 .simp[x9,h6,P7]
 .simp only[x9,h1,h2,h3,h4,h5,h6,decide_false,o6,o9];by_cases h7:1<=t.1
  .rw[ou (Z9 h7),pg (dO o5)]
  .rw[pg (dO o5)]
theorem NP(t:Int×Int)(en:List aP):iW t en=cO t en:=by unfold iW cO;rw[wo]
theorem a8n(n:Int)(t:Int×Int)(en:List aP):gV n t en=Dw n t en:=by unfold gV Dw;rw[NP]
theorem qm{v:aC}(en:List aP)(h:jg v.2.2):dU v en=qN v en:=by
 unfold dU qN xN;rw[o9,wo];cases hv:Y7 (v.1,v.2.1) en with
 |none=>rfl|some b=>
  rw[o9,o9];cases b with
  |false=>rfl|true=>
   rw[G8,o6,o6];have e:Dx v en=gV v.2.2 (v.1,v.2.1) en:=by unfold Dx xN;rw[o9,hv,o9,o7,o9,uS,a8n]
   rw[e,jO h,rU h,show bM v.2.2 2=_ from gQ (k:=2) h o5,show jo v.2.2 2=_ from tV (k:=2) h o5,
    show bM v.2.2 4=_ from gQ (k:=4) h o5,show jo v.2.2 4=_ from tV (k:=4) h o5,oJ,wH]
theorem wI{B:Nat}(hB:100<=B)(hB2:B<=200000000000000){v:Int×Int×Int}{en:List aP}(h:jg v.2.2)(hm:∀e∈en,e.2.length<=B/\∀m∈e.2,m.length<=B):∃t,dU v en=some t/\t.1.length<=B:=by
 unfold dU
 cases hv:bu (v.1,v.2.1) en with
 |none=>
  exfalso;rw[wo]at hv;unfold Y7 at hv;simp only[qw]at hv
  repeat' split at hv
  all_goals cases hv
 |some b=>
  rw[o9];cases b with
  |false=>exact⟨_,rfl,A7⟩|true=>
   rw[G8,o6];unfold gV iW;rw[hv];simp only[o9,G8,o6];have f1:=Dp h;have f2:=EI (k:=2) h o5;have f4:=EI (k:=4) h o5;have f5:=lW v.2.2;rw[jO h,show bM v.2.2 2=_ from gQ (k:=2) h o5,show bM v.2.2 4=_ from gQ (k:=4) h o5,oJ];simp only[o9];rw[H7 (a:=qx v.2.2 4) F9];simp only[o9];by_cases h1:v.1=1
   .simp only[O9 h1,o7,o9];simp only[bb,o9];simp only[qw];repeat' split
    all_goals exact⟨_,rfl,by first|omega|(simp<;>omega)⟩
   by_cases h2:v.1=2
   .simp only[O5 h1,O9 h2,o7,o6,o9];simp only[bb,o9];simp only[qw];repeat' split
    all_goals exact⟨_,rfl,by first|omega|(simp<;>omega)⟩
   by_cases h3:v.1=3
   .simp only[O5 h1,O5 h2,O9 h3,o7,o6,o9];simp only[bb,o9];simp only[qw];repeat' split
    all_goals exact⟨_,rfl,by first|omega|(simp<;>omega)⟩
   by_cases h4:v.1=4
   .simp only[O5 h1,O5 h2,O5 h3,O9 h4,o7,o6,o9];simp only[bb,o9];simp only[qw];repeat' split
    all_goals exact⟨_,rfl,by first|omega|(simp<;>omega)⟩
   by_cases h5:v.1=5
   .simp only[O5 h1,O5 h2,O5 h3,O5 h4,O9 h5,o7,o6,o9];simp only[bb,o9];simp only[qw];repeat' split
    all_goals exact⟨_,rfl,by first|omega|(simp<;>omega)⟩
   .simp only[O5 h1,O5 h2,O5 h3,O5 h4,O5 h5,o6];have hk:v.1=6/\0<=v.2.1/\v.2.1<x8 en:=by
     unfold bu at hv;simp only[O5 h1,O5 h2,O5 h3,O5 h4,O5 h5,o6,o9]at hv;simp only[qw,Z8,uF]at hv;split at hv
     .split at hv
      .simp only[H6,Em]at hv;exact⟨by assumption,by assumption,hv⟩
      .cases hv
     .cases hv
    obtain⟨e,he,hmem⟩:=ui hk.2.1 hk.2.2;rw[he];simp only[o9];have hle:=(hm e hmem).1;have hll:x8 e.2=(e.2.length:Int):=rfl;rw[di bn];by_cases hw0:0<=v.2.2
    .by_cases hw1:v.2.2<=x8 e.2 -1
     .rw[Z9 hw0,o7,Z9 hw1,o9,G8,o6];obtain⟨m,hm1,hm2⟩:=ui (l:=e.2) hw0 o5;rw[hm1];exact⟨_,rfl,(hm e hmem).2 m hm2⟩
     .rw[Z9 hw0,o7,dO (wz.1 hw1),o9,V7,o7];exact⟨_,rfl,A7⟩
    .rw[dO (wz.1 hw0),o6];exact⟨_,rfl,A7⟩
end Gt
namespace Go.GP
open Gt
theorem Yd(l:List kD):uP l=lJ l:=by unfold uP lJ;rfl
theorem a3m{α:Type}{l:List α}(h:l.length<=1000000):jX l=some l:=by unfold jX;rw[Vk F9,G9]
theorem XJ{l:V4}(hc:uN l.1=some l.1)(k:Int):sO l k=pM l k:=by unfold sO pM;simp only[hc,Yd];rfl
end Go.GP
namespace Go.GP
open Gt
set_option maxRecDepth 100000
def gtN(l:List d2g)(i:Int):d2g:=(J9 l i).getD []
def dG(k:Int):d2g:=(xQ k).getD []
def iM(k:Int):d2g:=(eY k).getD []
def iY(k:Int):d2g×Int:=(dE k).getD ([],0)
def AB(k:Int):Bool:=l7 (x9 k 2) true (l7 (x9 k 3) true (x9 k 4))
variable {b:Bool}
theorem b6n{x y:Option d2g}(hx:∃s,x=some s/\s.length<=10)(hy:∃s,y=some s/\s.length<=10):∃s,l7 b x y=some s/\s.length<=10:=by cases b<;>assumption
theorem a6M(k:Int):∃s,xQ k=some s/\s.length<=10:=by
 unfold xQ
 repeat (refine b6n ⟨_,rfl,D9⟩ ?_)
 exact⟨_,rfl,D9⟩
theorem b3f(k:Int):xQ k=some (dG k):=by obtain⟨s,h,-⟩:=a6M k;unfold dG;rw[h];rfl
theorem vz(k:Int):iK k=some (dG k):=(show iK k=xQ k from rfl).trans (b3f k)
theorem Um(k:Int):eY k=some (iM k):=by
 unfold iM;have:∃s,eY k=some s:=by
  unfold eY;simp only[qw];repeat' split
  all_goals exact⟨_,rfl⟩
 obtain⟨s,h⟩:=this;rw[h];rfl
theorem b2N(k:Int):dE k=some (iY k):=by
 unfold iY;have:∃s,dE k=some s:=by
  unfold dE;simp only[qw];repeat' split
  all_goals exact⟨_,rfl⟩
 obtain⟨s,h⟩:=this;rw[h];rfl
theorem b4Z(k:Int):jh k=some (iY k):=(show jh k=dE k from rfl).trans (b2N k)
theorem wJ(k:Int):(dG k).length<=10:=by obtain⟨s,h,h2⟩:=a6M k;unfold dG;rw[h];exact h2
theorem Dt(k:Int):(iM k).length<=10:=by
 unfold iM eY;simp only[qw];repeat' split
 all_goals simp
theorem a0t(k:Int):(iY k).1.length<=10:=by
 unfold iY dE;simp only[qw];repeat' split
 all_goals simp
structure NmOk (N:E8):Prop where
 e:∀e∈N.1,e.1.length<=1000/\∀m∈e.2,m.length<=1000
 t:∀s∈N.2.1,s.length<=1000
 i:∀s∈N.2.2.1,s.length<=1000
 d:∀s∈N.2.2.2.1,s.length<=1000
 m:∀s∈N.2.2.2.2,s.length<=1000
abbrev Tx:Type:=d2g×Int
def wiS(p:Tx)(c:Int):d2g:=l7 (H5 p.2 c) ([40]++p.1++[41]) p.1
def lY(n:Int×Int)(N:E8):Tx:=
 l7 (P7 n.1 5) (((qN (n.1,0,n.2) []).getD ([],0)).1,l7 (H5 n.2 0) 6 7)
 (l7 (x9 n.1 6) (((J9 N.1 (Z7 .i64 n.2 16)).getD ([],[])).1++[58]++gtN ((J9 N.1 (Z7 .i64 n.2 16)).getD ([],[])).2 (dJ n.2 16),7)
 (l7 (x9 n.1 7) (gtN N.2.2.1 n.2,7)
 (l7 (x9 n.1 8) (gtN N.2.2.2.1 n.2,7)
 (l7 (x9 n.1 9) ([116,111,100,97,121],7)
 (l7 (x9 n.1 35) ([99,111,117,110,116,40,41],7) (dG n.1++[40]++gtN N.2.2.2.2 n.2++[41],7))))))
def FU(n:Int×Int)(N:E8)(num:Bool)(a:Tx):Tx:=
 l7 (x9 n.1 33) (dG n.1++[40]++gtN N.2.1 n.2++[44,32]++a.1++[41],7)
 (l7 (x9 n.1 34) (dG n.1++[40]++gtN N.2.1 (Z7 .i64 n.2 8)++[44,32]++a.1++[44,32]++iM (dJ n.2 8)++[41],7)
 (l7 (x9 n.1 25) ([110,111,116,32]++wiS a 6,6)
 (l7 (x9 n.1 10) ([45]++l7 num ([40]++a.1++[41]) (wiS a 6),6) (dG n.1++[40]++a.1++[41],7))))
def Qs(k:Int):Bool:=l7 (x9 k 17) true (l7 (x9 k 18) true (l7 (x9 k 27) true (l7 (x9 k 28) true (l7 (x9 k 29) true (x9 k 30)))))
def Gq(k:Int):Bool:=l7 (x9 k 14) true (l7 (x9 k 15) true (x9 k 16))
def DW(n:Int×Int)(a b:Tx):Tx:=
 l7 (Qs n.1) (dG n.1++[40]++a.1++[44,32]++b.1++[41],7)
 (l7 (Gq n.1) (dG n.1++[40]++a.1++[44,32]++b.1++[44,32]++iM n.2++[41],7)
 (wiS a (l7 (x9 (iY n.1).2 3) 4 (iY n.1).2)++[32]++(iY n.1).1++[32]++wiS b ((iY n.1).2+1),(iY n.1).2))
def ifX(a b c:Tx):Tx:=([105,102,32]++a.1++[32,116,104,101,110,32]++b.1++[32,101,108,115,101,32]++c.1,0)
def gW(N:E8):XT->Tx
 | .l0 n=>lY n N| .l1 n a=>FU n N (AB a.node.1) (gW N a)| .l2 n a b=>DW n (gW N a) (gW N b)| .l3 n a b c=>ifX (gW N a) (gW N b) (gW N c)
def pcT(N:E8)(t:XT):J3:=((gW N t).1,(gW N t).2,AB t.node.1)
def Gm(n:Int×Int)(args:List J3)(N:E8)(p:Tx):Prop:=
 ∃c,V9 n N=some c/\Y6 n args N=some (l7 (x9 c 0) ((p.1,p.2,AB n.1),0) (([],0,false),c))
variable {α:Type}
theorem lx0(a:α)(l:List α):J9 (a::l) 0=some a:=rfl
theorem lx1(a b:α)(l:List α):J9 (a::b::l) 1=some b:=rfl
theorem lx2(a b c:α)(l:List α):J9 (a::b::c::l) 2=some c:=rfl
theorem Jn(p:J3)(c:Int)(h:p.1.length<=1000000000):gy p c=some (wiS (p.1,p.2.1) c):=by unfold gy wiS;rw[H7 F9,o9,H7 F9,o9];cases H5 p.2.1 c<;>rfl
theorem Gl(p:Tx)(c:Int):(wiS p c).length<=p.1.length+2:=by unfold wiS;cases H5 p.2 c<;>simp
theorem arN(k:Int):1<=k/\k<=39\/qp k=-1:=by
 by_cases h:1<=k/\k<=39
 .exact .inl h
 .refine .inr ?_;unfold qp;rw[Q_ h];rfl
variable {k:Int}
theorem ar0(h:qp k=0):k=1\/k=2\/k=3\/k=4\/k=5\/k=6\/k=7\/k=8\/k=9\/k=35\/k=36\/k=37\/k=38\/k=39:=by
 rcases arN k with h1|h1
 .obtain⟨j,rfl⟩:=Xd h1;revert h;revert j;decide
 .omega
theorem ar1(h:qp k=1):k=10\/k=25\/k=31\/k=32\/k=33\/k=34:=by
 rcases arN k with h1|h1
 .obtain⟨j,rfl⟩:=Xd h1;revert h;revert j;decide
 .omega
theorem ar2(h:qp k=2):k=11\/k=12\/k=13\/k=14\/k=15\/k=16\/k=17\/k=18\/k=19\/k=20\/k=21\/k=22\/k=23\/k=24\/k=27\/k=28\/k=29\/k=30:=by
 rcases arN k with h1|h1
 .obtain⟨j,rfl⟩:=Xd h1;revert h;revert j;decide
 .omega
theorem ar3(h:qp k=3):k=26:=b6j h
variable {N:E8}{n:Int×Int}
theorem a6A{args:List J3}{p:Tx}(c:Int)(h1:V9 n N=some c)(h2:Y6 n args N=some (l7 (x9 c 0) ((p.1,p.2,AB n.1),0) (([],0,false),c))):Gm n args N p:=⟨c,h1,h2⟩
variable {m:Int}
theorem b3N(hk:k=1\/k=2\/k=3\/k=4\/k=5)(hm:jg m)(N:E8):∃c s,V9 (k,m) N=some c/\dU (k,0,m) []=some (s,c):=by
 have b1:∀lo hi:Int,cO (k,0) []=some (lo,hi)->Y7 (k,0) []=some true->∃c s,V9 (k,m) N=some c/\dU (k,0,m) []=some (s,c):=by
  intro lo hi hb hv;have hf:V9 (k,m) N=some (l7 (H5 m lo) 3 (l7 (H5 hi m) 3 0)):=by
   unfold V9 dX;simp only[Z9 (show 1<=k by omega),Z9 (show k<=5 by omega),o7,o9,hb];cases H5 m lo
   .cases H5 hi m<;>rfl
   .rfl
  have hw:gV m (k,0) []=some (l7 (P7 lo m) (P7 m hi) false):=by unfold gV;rw[NP,hb,o9];cases P7 lo m<;>rfl
  rw[hf];obtain⟨t,ht,-⟩:=wI (B:=100) o5 o5 (v:=(k,0,m)) (en:=[]) hm (λe h=>by cases h);unfold dU at ht ⊢;simp only[wo,hv,hw,o9,G8,o6]at ht ⊢;by_cases h1:lo<=m
  .by_cases h2:m<=hi
   .rw[Z9 h1,Z9 h2,o7,G8,o6]at ht ⊢;rw[X5 h1,X5 h2,o6,o6];refine⟨0,t.1,rfl,?_⟩;rw[ht];have e:t.2=0:=by
     rcases hk with rfl|rfl|rfl|rfl|rfl
     .simp (disch:=decide) only[O9,o7]at ht;revert ht;cases x9 m 1<;>cases x9 m 0<;>intro ht<;>cases ht<;>rfl
     .simp (disch:=decide) only[O9,O5,o7,o6,jO hm,o9,H6]at ht;rw[←ht]
     .simp (disch:=decide) only[O9,O5,o7,o6]at ht;rw[show bM m 2=_ from gQ (k:=2) hm o5]at ht;simp only[o9,H6]at ht;rw[←ht]
     .simp (disch:=decide) only[O9,O5,o7,o6]at ht;have f4:=EI (k:=4) hm o5;rw[show bM m 4=_ from gQ (k:=4) hm o5,o9,H7 F9]at ht;simp only[o9,H6]at ht;rw[←ht]
     .simp (disch:=decide) only[O9,O5,o7,o6,oJ,o9,H6]at ht;rw[←ht]
    rw[←e]
   .rw[Z9 h1,dO o5,o7,V7,o7,X5 h1,bT o5,o6,o7];exact⟨3,[],rfl,rfl⟩
  .rw[dO o5,o6,V7,o7,bT o5,o7];exact⟨3,[],rfl,rfl⟩
 rcases hk with rfl|rfl|rfl|rfl|rfl
 .exact b1 0 1 rfl rfl
 .exact b1 _ _ rfl rfl
 .exact b1 _ _ rfl rfl
 .exact b1 _ _ rfl rfl
 .exact b1 _ _ rfl rfl
theorem FZ(hk:k=1\/k=2\/k=3\/k=4\/k=5)(hm:jg m)(N:E8):Gm (k,m) [] N (lY (k,m) N):=by
 obtain⟨c,s,h1,h2⟩:=b3N hk hm N;refine a6A c h1 ?_;have e:lY (k,m) N=(s,l7 (H5 m 0) 6 7):=by unfold lY;rw[Z9 (show k<=5 by omega),o7,←qm [] hm,h2];rfl
 have hc:c=0\/c=3:=by
  unfold V9 dX at h1;have h:=h1;simp only[Z9 (show 1<=k by omega),Z9 (show k<=5 by omega),o7,o9]at h;cases hb:cO (k,0) []with
  |none=>rw[hb]at h;cases h|some b=>rw[hb,o9]at h;cases hx:H5 m b.1<;>cases hy:H5 b.2 m<;>simp only[hx,hy,o7,o6,H6]at h<;>omega
 have hr:qF (k,m)=some (l7 (x9 c 0) ((s,l7 (l7 (AB k) (H5 m 0) false) 6 7,AB k),0) (([],0,false),c)):=by
  unfold qF AB;simp only[h2,o9];rcases hc with rfl|rfl
  .simp only[O9 (rfl:(0:Int)=0),G8,o6,o7,bg,o9];cases H5 m 0<;>cases x9 k 2<;>cases x9 k 3<;>cases x9 k 4<;>rfl
  .rfl
 rw[e];unfold Y6;rw[hr];have hneg:c=0->l7 (l7 (AB k) (H5 m 0) false) (6:Int) 7=l7 (H5 m 0) 6 7:=by
  intro h0;subst h0;cases hg:H5 m 0
  .cases AB k<;>rfl
  rcases hk with rfl|rfl|rfl|rfl|rfl
  .exfalso;unfold V9 dX at h1;simp only[show cO (1,0) []=some (0,1)from rfl,Z9 (show(1:Int)<=1 by omega),Z9 (show(1:Int)<=5 by omega),o7,o9,hg,H6]at h1;omega
  .rfl
  .rfl
  .rfl
  .exfalso;unfold V9 dX at h1;simp only[show cO (5,0) []=some (0,109572)from rfl,Z9 (show(1:Int)<=5 by omega),Z9 (show(5:Int)<=5 by omega),o7,o9,hg,H6]at h1;omega
 rcases hc with rfl|rfl
 .rw[hneg rfl];rcases hk with rfl|rfl|rfl|rfl|rfl<;>rfl
 .rcases hk with rfl|rfl|rfl|rfl|rfl<;>rfl
variable {l:List d2g}{i:Int}
theorem Md(h0:0<=i)(h:i<x8 l):J9 l i=some (gtN l i)/\gtN l i∈l:=by obtain⟨x,h1,h2⟩:=ui h0 h;unfold gtN;rw[h1];exact⟨rfl,h2⟩
theorem Cf{B:Nat}(h:∀s∈l,s.length<=B)(i:Int):(gtN l i).length<=B:=by
 unfold gtN;cases hl:J9 l i with
 |none=>simp|some x=>exact h x (qX hl).2.2.1
theorem UD(k m:Int)(args:List J3)(N:E8)(hk:k=6\/k=7\/k=8\/k=36\/k=37\/k=38\/k=39):Y6 (k,m) args N=fU (k,m) N:=by unfold Y6;generalize hq:fU (k,m) N=q;rcases hk with rfl|rfl|rfl|rfl|rfl|rfl|rfl<;>simp (disch:=decide) only[O9,O5,o7,o6,o9,hq]<;>cases q<;>rfl
theorem Au(hk:k=7\/k=8\/k=36\/k=37\/k=38\/k=39)(hN:NmOk N):Gm (k,m) [] N (lY (k,m) N):=by
 have key:∀(l:List d2g) (before after:d2g),(∀s∈l,s.length<=1000)->before.length<=100->after.length<=100->
   V9 (k,m) N=l7 (H5 m 0) (some 6) (l7 (P7 (x8 l) m) (some 6) (some 0))->
   fU (k,m) N=l7 (H5 m 0) (some (([],0,false),6))
    (l7 (P7 (x8 l) m) (some (([],0,false),6))
     (l9 (J9 l m) λ(x_1:d2g)=>
      l9 (O0 before x_1) λ(x_2:d2g)=>
       l9 (O0 x_2 after) λ(x:d2g)=>some ((x,7,false),0)))->
   lY (k,m) N=(before++gtN l m++after,7)->Gm (k,m) [] N (lY (k,m) N):=by
  intro l before after hl hb ha hf0 hr he;have hf:V9 (k,m) N=some (l7 (H5 m 0) 6 (l7 (P7 (x8 l) m) 6 0)):=by rw[hf0];cases H5 m 0<;>cases P7 (x8 l) m<;>rfl
  refine a6A _ hf ?_;have hnum:AB k=false:=by rcases hk with rfl|rfl|rfl|rfl|rfl|rfl<;>rfl
  rw[UD _ _ _ _ o5,hr,he,hnum];by_cases h0:m<0
  .rw[bT h0];rfl
  by_cases h1:x8 l<=m
  .simp only[X5 (show 0<=m by omega),Z9 h1];rfl
  .have:=Md (l:=l) (i:=m) o5 o5;have h2:=hl _ this.2;simp only[X5 (show 0<=m by omega),dO (show m<x8 l by omega),o6,this.1,o9];rw[H7 o5,o9,H7 F9,o9];rfl
 have mem:∀k:Int,(k=36\/k=37\/k=38\/k=39)->fU (k,m) N=l7 (H5 m 0) (some (([],0,false),6))
    (l7 (P7 (x8 N.2.2.2.2) m) (some (([],0,false),6))
     (l9 (J9 N.2.2.2.2 m) λ(x_1:d2g)=>
      l9 (O0 (dG k++[40]) x_1) λ(x_2:d2g)=>
       l9 (O0 x_2 [41]) λ(x:d2g)=>some ((x,7,false),0))):=by
  intro k hk;have hw:=wJ k;unfold fU bg;simp only[O5 (show k≠6 by omega),O5 (show k≠7 by omega),O5 (show k≠8 by omega),o6,vz,o9,H7 (a:=dG k) (b:=[40]) F9,X8]
 have lf:∀k:Int,(k=36\/k=37\/k=38\/k=39)->lY (k,m) N=(dG k++[40]++gtN N.2.2.2.2 m++[41],7):=by intro k hk;unfold lY;simp only[dO (show 5<k by omega),O5 (show k≠6 by omega),O5 (show k≠7 by omega),O5 (show k≠8 by omega),O5 (show k≠9 by omega),O5 (show k≠35 by omega),o6]
 have wl:=λk=>wJ k;rcases hk with rfl|rfl|rfl|rfl|rfl|rfl
 .refine key N.2.2.1 [] [] hN.i A7 A7 rfl ?_ ?_
  .unfold fU bg;simp (disch:=decide) only[O9,O5,o7,o6,o9,X8]
  .unfold lY;simp (disch:=decide) only[O9,O5,dO,o7,o6];simp
 .refine key N.2.2.2.1 [] [] hN.d A7 A7 rfl ?_ ?_
  .unfold fU bg;simp (disch:=decide) only[O9,O5,o7,o6,o9,X8]
  .unfold lY;simp (disch:=decide) only[O9,O5,dO,o7,o6];simp
 .exact key N.2.2.2.2 (dG 36++[40]) [41] hN.m D9 D9 rfl (mem _ o5) (lf _ o5)
 .exact key N.2.2.2.2 (dG 37++[40]) [41] hN.m D9 D9 rfl (mem _ o5) (lf _ o5)
 .exact key N.2.2.2.2 (dG 38++[40]) [41] hN.m D9 D9 rfl (mem _ o5) (lf _ o5)
 .exact key N.2.2.2.2 (dG 39++[40]) [41] hN.m D9 D9 rfl (mem _ o5) (lf _ o5)
theorem Oi(h:jg m)(d:Int)(hd:d=8\/d=16):Z7 .i64 m d=m.tdiv d:=by
 refine QH ?_;unfold jg at h ⊢;rcases hd with rfl|rfl
 all_goals
  rcases Int.lt_or_le m 0 with h0|h0
  .have e:=Int.neg_tdiv (a:=-m) (b:=8);have e' :=Int.neg_tdiv (a:=-m) (b:=16);rw[Int.neg_neg]at e e';have q1:=nC (a:=-m) (b:=8) o5;have q2:=nC (a:=-m) (b:=16) o5;omega
  .have q1:=nC (a:=m) (b:=8) o5;have q2:=nC (a:=m) (b:=16) o5;omega
theorem a1Y(hm:jg m)(hN:NmOk N):Gm (6,m) [] N (lY (6,m) N):=by
 have hf:V9 (6,m) N=(l7 (H5 m 0) (some 6)
    (l7 (P7 (x8 N.1) (Z7 .i64 m 16)) (some 6)
     (l9 (J9 N.1 (Z7 .i64 m 16)) λ(x:aP)=>
      l7 (P7 (x8 x.2) (dJ m 16)) (some 6) (some 0)))):=rfl
 have hr:fU (6,m) N=l9 (l7 (H5 m 0) (some (Sum.inr (([],0,false),6)))
   (l7 (P7 (x8 N.1) (Z7 IntKind.i64 m 16)) (some (Sum.inr (([],0,false),6)))
    (l9 (J9 N.1 (Z7 IntKind.i64 m 16)) λ(x:aP)=>
     l9 (O0 x.1 [58]) λ(x_1:d2g)=>some (Sum.inl (([],0,false),x.2,dJ m 16,x_1,[]))))) λ(o:J3×List d2g×Int×d2g×d2g⊕J3×Int)=>
 U1 o
  (λ(x:J3×List d2g×Int×d2g×d2g)=>
   l7 (H5 x.2.2.1 0) (some (([],0,false),6))
    (l7 (P7 (x8 x.2.1) x.2.2.1) (some (([],0,false),6))
     (l9 (J9 x.2.1 x.2.2.1) λ(x_1:d2g)=>
      l9 (O0 x.2.2.2.1 x_1) λ(x_2:d2g)=>
       l9 (O0 x_2 x.2.2.2.2) λ(x:d2g)=>
        l9 (bg x) λ(x:J3)=>some (x,0))))
  λ(r:J3×Int)=>some r:=rfl
 have hl:lY (6,m) N=(((J9 N.1 (Z7 .i64 m 16)).getD ([],[])).1++[58]++gtN ((J9 N.1 (Z7 .i64 m 16)).getD ([],[])).2 (dJ m 16),7):=rfl;unfold Gm;rw[hf,UD _ _ _ _ o5,hr,hl];by_cases h0:m<0
 .rw[bT h0];exact⟨6,rfl,rfl⟩
 rw[X5 o5,o6,o6];by_cases h1:x8 N.1<=Z7 .i64 m 16
 .rw[Z9 h1];exact⟨6,rfl,rfl⟩
 rw[dO o5,o6,o6];have hq:0<=Z7 .i64 m 16:=by rw[Oi hm 16 (.inr rfl),nC o5];omega
 obtain⟨e,he,hmem⟩:=ui (l:=N.1) hq o5;have hb:=hN.e e hmem;have hr0:dJ m 16=m % 16:=AU o5;simp only[he,o9,Z4,H7 (a:=e.1) (b:=[58]) F9,X8];rw[X5 (show 0<=dJ m 16 by omega),o6];by_cases h2:x8 e.2<=dJ m 16
 .rw[Z9 h2];exact⟨6,rfl,rfl⟩
 rw[dO o5,o6,o6];have hg:=Md (l:=e.2) (i:=dJ m 16) o5 o5;have h3:=hb.2 _ hg.2;refine⟨0,rfl,?_⟩;rw[hg.1,o9,H7 F9,o9,H7 F9,o9];simp only[bg,o9,F6];rfl
theorem b0D :Gm (9,0) [] N (lY (9,0) N):=⟨0,rfl,rfl⟩
theorem a7X :Gm (35,0) [] N (lY (35,0) N):=⟨0,rfl,rfl⟩
theorem a6t(hN:NmOk N)(hm:jg m)(ha:qp k=0)(hu:m=0\/bW k=some true):Gm (k,m) [] N (lY (k,m) N):=by
 have hz:(k=9\/k=35)->m=0:=by
  intro h;rcases hu with h1|h1
  .exact h1
  .exfalso;rcases h with rfl|rfl<;>exact absurd h1 D9
 rcases ar0 ha with rfl|rfl|rfl|rfl|rfl|rfl|rfl|rfl|rfl|rfl|rfl|rfl|rfl|rfl
 .exact FZ o5 hm N
 .exact FZ o5 hm N
 .exact FZ o5 hm N
 .exact FZ o5 hm N
 .exact FZ o5 hm N
 .exact a1Y hm hN
 .exact Au o5 hN
 .exact Au o5 hN
 .rw[hz o5];exact b0D
 .rw[hz o5];exact a7X
 .exact Au o5 hN
 .exact Au o5 hN
 .exact Au o5 hN
 .exact Au o5 hN
theorem a4n(hm:jg m)(hN:NmOk N)(a:J3)(h1:a.1.length<=1000000000):Gm (33,m) [a] N (FU (33,m) N b (a.1,a.2.1)):=by
 have hf:V9 (33,m) N=l7 (H5 m 0) (some 6) (l7 (P7 (x8 N.2.1) m) (some 6) (some 0)):=rfl;have hr:Y6 (33,m) [a] N=iL (33,m) a N:=by unfold Y6;generalize hq:iL (33,m) a N=q;simp (disch:=decide) only[O9,O5,o7,o6,o9,lx0,hq];cases q<;>rfl
 have hx:FU (33,m) N b (a.1,a.2.1)=(dG 33++[40]++gtN N.2.1 m++[44,32]++a.1++[41],7):=rfl;unfold Gm;rw[hf,hr,hx];unfold iL bg;simp (disch:=decide) only[O9,O5,o7,o6,o9,vz];by_cases h0:m<0
 .rw[bT h0];exact⟨6,rfl,rfl⟩
 rw[X5 o5,o6,o6];by_cases h2:x8 N.2.1<=m
 .rw[Z9 h2];exact⟨6,rfl,rfl⟩
 rw[dO o5,o6,o6];have hg:=Md (l:=N.2.1) (i:=m) o5 o5;have h3:=hN.t _ hg.2;have hw:=wJ 33;refine⟨0,rfl,?_⟩;rw[o9,X8,H7 F9,o9,hg.1,o9,H7 F9,o9,H7 F9,o9,H7 F9,o9,H7 F9,o9];rfl
theorem a1A(h:0<=m):seq (iM m) []=H5 5 m:=by
 by_cases h5:m<=5
 .rw[X5 h5];obtain⟨k,rfl⟩:∃k:Fin 6,m=(k.val:Int):=⟨⟨m.toNat,o5⟩,by simp;omega⟩;revert k;decide
 .rw[bT o5];unfold iM eY;simp only[O5 (show m≠0 by omega),O5 (show m≠1 by omega),O5 (show m≠2 by omega),O5 (show m≠3 by omega),O5 (show m≠4 by omega),O5 (show m≠5 by omega),o6];rfl
theorem a9o(h:m<0):seq (iM m) []=true:=by unfold iM eY;simp only[O5 (show m≠0 by omega),O5 (show m≠1 by omega),O5 (show m≠2 by omega),O5 (show m≠3 by omega),O5 (show m≠4 by omega),O5 (show m≠5 by omega),o6];rfl
theorem a1X(hm:jg m)(hN:NmOk N)(a:J3)(h1:a.1.length<=1000000000):Gm (34,m) [a] N (FU (34,m) N b (a.1,a.2.1)):=by
 have hf:V9 (34,m) N=l7 (H5 m 0) (some 6) (l7 (P7 (x8 N.2.1) (Z7 .i64 m 8)) (some 6) (l7 (H5 5 (dJ m 8)) (some 3) (some 0))):=rfl;have hr:Y6 (34,m) [a] N=iL (34,m) a N:=by unfold Y6;generalize hq:iL (34,m) a N=q;simp (disch:=decide) only[O9,O5,o7,o6,o9,lx0,hq];cases q<;>rfl
 have hx:FU (34,m) N b (a.1,a.2.1)=(dG 34++[40]++gtN N.2.1 (Z7 .i64 m 8)++[44,32]++a.1++[44,32]++iM (dJ m 8)++[41],7):=rfl;unfold Gm;rw[hf,hr,hx];unfold iL bg;simp (disch:=decide) only[O9,O5,o7,o6,o9,vz,Um];by_cases h0:m<0
 .rw[bT h0,X5 (show m<=0 by omega)];simp only[o7,o6,o9,bT h0,oU];exact⟨6,rfl,rfl⟩
 have hq:Z7 .i64 m 8=m / 8:=by rw[Oi hm 8 (.inl rfl),nC o5]
 have hi:(l7 (H5 0 m) (some (Z7 .i64 m 8)) (some m):d2l)=some (Z7 .i64 m 8):=by
  by_cases h:0<m
  .rw[bT h];rfl
  .rw[X5 o5,o6,show Z7 .i64 m 8=m by omega]
 rw[hi,o9,X5 (show 0<=m by omega),o6,X5 (show 0<=Z7 .i64 m 8 by omega),o6];by_cases h2:x8 N.2.1<=Z7 .i64 m 8
 .rw[Z9 h2];exact⟨6,rfl,rfl⟩
 rw[dO o5,o6,o6];have hg:=Md (l:=N.2.1) (i:=Z7 .i64 m 8) o5 o5;have h3:=hN.t _ hg.2;have hw:=wJ 34;have hm:=Dt (dJ m 8);have hr0:dJ m 8=m % 8:=AU o5;rw[o9,X8,H7 F9,o9,hg.1,o9,H7 F9,o9,H7 F9,o9,H7 F9,o9,a1A (show 0<=dJ m 8 by omega)];cases H5 5 (dJ m 8)
 .refine⟨0,rfl,?_⟩;rw[o6,H7 F9,o9,H7 F9,o9,H7 F9,o9];simp[l7];rfl
 .exact⟨3,rfl,rfl⟩
theorem a6u(hN:NmOk N)(hm:jg m)(ha:qp k=1)(hu:m=0\/bW k=some true)(a:J3)(h1:a.1.length<=1000000000):Gm (k,m) [a] N (FU (k,m) N a.2.2 (a.1,a.2.1)):=by
 have hz:(k=10\/k=25\/k=31\/k=32)->m=0:=by
  intro h;rcases hu with h1|h1
  .exact h1
  .exfalso;rcases h with rfl|rfl|rfl|rfl<;>exact absurd h1 D9
 have hw:=Gl (a.1,a.2.1) 6;simp only at hw;rcases ar1 ha with rfl|rfl|rfl|rfl|rfl|rfl
 .rw[hz o5];refine⟨0,rfl,?_⟩;unfold Y6 FU;simp (disch:=decide) only[O9,O5,o7,o6,o9,lx0,Jn a 6 h1];cases h:a.2.2
  .simp only[o6,o7];rw[H7 F9,o9,o9,oU];rfl
  .simp only[o7];rw[H7 F9,o9,H7 F9,o9,H7 F9,o9,o9,oU];rfl
 .rw[hz o5];refine⟨0,rfl,?_⟩;unfold Y6 FU;simp (disch:=decide) only[O9,O5,o7,o6,o9,lx0,Jn a 6 h1];rw[H7 F9,o9,o9,oU];rfl
 .rw[hz o5];refine⟨0,rfl,?_⟩;have hl:=wJ 31;unfold Y6 FU bg;simp (disch:=decide) only[O9,O5,o7,o6,o9,lx0,vz];rw[H7 F9,o9,H7 F9,o9,H7 F9,o9,o9,oU];rfl
 .rw[hz o5];refine⟨0,rfl,?_⟩;have hl:=wJ 32;unfold Y6 FU bg;simp (disch:=decide) only[O9,O5,o7,o6,o9,lx0,vz];rw[H7 F9,o9,H7 F9,o9,H7 F9,o9,o9,oU];rfl
 .exact a4n hm hN a h1
 .exact a1X hm hN a h1
theorem a4l(hk:k=17\/k=18\/k=27\/k=28\/k=29\/k=30)(a b:J3)(h1:a.1.length<=1000000000)(h2:b.1.length<=1000000000):Gm (k,0) [a,b] N (DW (k,0) (a.1,a.2.1) (b.1,b.2.1)):=by
 have hl:=wJ k;rcases hk with rfl|rfl|rfl|rfl|rfl|rfl
 all_goals
  refine⟨0,rfl,?_⟩;unfold Y6 DW bg Qs;simp (disch:=decide) only[O9,O5,o7,o6,o9,lx0,lx1,vz];rw[H7 F9,o9,H7 F9,o9,H7 F9,o9,H7 F9,o9,H7 F9,o9,o9,oU];rfl
theorem a4m(hk:k=14\/k=15\/k=16)(a b:J3)(h1:a.1.length<=1000000000)(h2:b.1.length<=1000000000):Gm (k,m) [a,b] N (DW (k,m) (a.1,a.2.1) (b.1,b.2.1)):=by
 have hl:=wJ k;have hm:=Dt m;have hf:V9 (k,m) N=some (l7 (seq (iM m) []) 3 0):=by
  have:V9 (k,m) N=l7 (H5 m 0) (some 3) (l7 (H5 5 m) (some 3) (some 0)):=by rcases hk with rfl|rfl|rfl<;>rfl
  rw[this];by_cases h0:m<0
  .rw[bT h0,a9o h0];rfl
  .rw[X5 o5,a1A o5];cases H5 5 m<;>rfl
 refine a6A _ hf ?_;rcases hk with rfl|rfl|rfl
 all_goals
  unfold Y6 DW bg Qs Gq;simp (disch:=decide) only[O9,O5,o7,o6,o9,lx0,lx1,vz,Um];cases seq (iM m) []
  .rw[o6,H7 F9,o9,H7 F9,o9,H7 F9,o9,H7 F9,o9,H7 F9,o9,H7 F9,o9,H7 F9,o9,o9,oU];rfl
  .rfl
theorem a4k(hk:k=11\/k=12\/k=13\/k=19\/k=20\/k=21\/k=22\/k=23\/k=24)(a b:J3)(h1:a.1.length<=100000000)(h2:b.1.length<=100000000):Gm (k,0) [a,b] N (DW (k,0) (a.1,a.2.1) (b.1,b.2.1)):=by
 have hl:=a0t k;have hc:1<=(iY k).2/\(iY k).2<=5:=by rcases hk with rfl|rfl|rfl|rfl|rfl|rfl|rfl|rfl|rfl<;>decide
 have w1:=Gl (a.1,a.2.1) 4;have w2:=Gl (a.1,a.2.1) (iY k).2;have w3:=Gl (b.1,b.2.1) ((iY k).2+1);simp only at w1 w2 w3;have hx:Y6 (k,0) [a,b] N=l9 (jh k) λ(x:d2g×Int)=>
    l7 (x9 x.2 3)
     (l9 (gy a 4) λ(x_2:d2g)=>
       l9 (O0 x_2 [32]) λ(x_3:d2g)=>
        l9 (O0 x_3 x.1) λ(x_4:d2g)=>
         l9 (O0 x_4 [32]) λ(x_5:d2g)=>
           l9 (gy b (E9 IntKind.i64 x.2 1)) λ(x_7:d2g)=>
            l9 (O0 x_5 x_7) λ(x_8:d2g)=>some ((x_8,x.2,false),0))
     (l9 (gy a x.2) λ(x_2:d2g)=>
       l9 (O0 x_2 [32]) λ(x_3:d2g)=>
        l9 (O0 x_3 x.1) λ(x_4:d2g)=>
         l9 (O0 x_4 [32]) λ(x_5:d2g)=>
           l9 (gy b (E9 IntKind.i64 x.2 1)) λ(x_7:d2g)=>
            l9 (O0 x_5 x_7) λ(x_8:d2g)=>some ((x_8,x.2,false),0)):=by
  rcases hk with rfl|rfl|rfl|rfl|rfl|rfl|rfl|rfl|rfl<;>rfl
 have hf:V9 (k,0) N=some 0:=by rcases hk with rfl|rfl|rfl|rfl|rfl|rfl|rfl|rfl|rfl<;>rfl
 have hn:AB k=false:=by rcases hk with rfl|rfl|rfl|rfl|rfl|rfl|rfl|rfl|rfl<;>rfl
 have hb:Qs k=false/\Gq k=false:=by rcases hk with rfl|rfl|rfl|rfl|rfl|rfl|rfl|rfl|rfl<;>exact⟨rfl,rfl⟩
 refine a6A _ hf ?_;rw[hx,b4Z,o9];unfold DW;simp only[hb.1,hb.2,hn,o6,dP (show jg ((iY k).2+1) by unfold jg;omega)];rw[Jn a 4 o5,Jn a _ o5,Jn b _ o5];simp only[o9];cases x9 (iY k).2 3
 .simp only[o6];rw[H7 F9,o9,H7 F9,o9,H7 F9,o9,H7 F9,o9];rfl
 .simp only[o7];rw[H7 F9,o9,H7 F9,o9,H7 F9,o9,H7 F9,o9];rfl
theorem a6v(ha:qp k=2)(hu:m=0\/bW k=some true)(a b:J3)(h1:a.1.length<=100000000)(h2:b.1.length<=100000000):Gm (k,m) [a,b] N (DW (k,m) (a.1,a.2.1) (b.1,b.2.1)):=by
 have hz:¬(k=14\/k=15\/k=16)->m=0:=by
  intro h;rcases hu with h1|h1
  .exact h1
  .exfalso;rcases ar2 ha with rfl|rfl|rfl|rfl|rfl|rfl|rfl|rfl|rfl|rfl|rfl|rfl|rfl|rfl|rfl|rfl|rfl|rfl<;>first|omega|exact absurd h1 D9
 by_cases h:k=14\/k=15\/k=16
 .exact a4m h a b o5 o5
 rw[hz h];by_cases h' :k=17\/k=18\/k=27\/k=28\/k=29\/k=30
 .exact a4l h' a b o5 o5
 .exact a4k (by have:=ar2 ha;omega) a b h1 h2
theorem a6w(hu:m=0\/bW 26=some true)(a b c:J3)(h1:a.1.length<=100000000)(h2:b.1.length<=100000000)(h3:c.1.length<=100000000):Gm (26,m) [a,b,c] N (ifX (a.1,a.2.1) (b.1,b.2.1) (c.1,c.2.1)):=by
 have hz:m=0:=by
  rcases hu with h1|h1
  .exact h1
  .exact absurd h1 D9
 rw[hz];refine⟨0,rfl,?_⟩;unfold Y6 ifX;simp (disch:=decide) only[O9,O5,o7,o6,o9,lx0,lx1,lx2];rw[H7 F9,o9,H7 F9,o9,H7 F9,o9,H7 F9,o9,H7 F9,o9,o9,oU];rfl
def flS(n:Int×Int)(N:E8):Int:=(V9 n N).getD 0
theorem WE{c:Int}(h:V9 n N=some c):flS n N=c:=by unfold flS;rw[h];rfl
theorem a6J(h:0<=qp k):bW k=some true\/bW k=some false:=by
 rcases arN k with h1|h1
 .obtain⟨j,rfl⟩:=Xd h1;revert h;revert j;decide
 .omega
theorem a9w(ha:0<=qp k)(hm:m≠0)(hu:bW k=some false):V9 (k,m) N=some 2:=by
 have h3:qp k=0\/qp k=1\/qp k=2\/qp k=3:=by have:=(IE k).2.2;omega
 have key:V9 (k,m) N=l7 (G6 (x9 m 0)) (some 2) (some 0)->V9 (k,m) N=some 2:=by intro h;rw[h,O5 hm];rfl
 rcases h3 with h|h|h|h
 .rcases ar0 h with rfl|rfl|rfl|rfl|rfl|rfl|rfl|rfl|rfl|rfl|rfl|rfl|rfl|rfl<;>first|exact absurd hu D9|exact key rfl
 .rcases ar1 h with rfl|rfl|rfl|rfl|rfl|rfl<;>first|exact absurd hu D9|exact key rfl
 .rcases ar2 h with rfl|rfl|rfl|rfl|rfl|rfl|rfl|rfl|rfl|rfl|rfl|rfl|rfl|rfl|rfl|rfl|rfl|rfl<;>first|exact absurd hu D9|exact key rfl
 .have:=ar3 h;subst this;exact key rfl
def fmF(a0:List (Int×Int))(a1:E8)(x:List J3×Int):Option (Out (List J3×Int) (List J3) (d2g×Int)):=
     l7 (H5 x.2 (x8 a0))
      (l9 (J9 a0 x.2) λ(x_1:Int×Int)=>
       l7 (G6 (x9 x_1.2 0))
        (l9 (bW x_1.1) λ(x_2:Bool)=>
         l7 (G6 x_2) (some (Out.rt ([],2)))
          (l9 (jH x_1.1) λ(x_3:Int)=>
           l7 (lK (N7 IntKind.i64 (x8 x.1) x_3) (x8 x.1) (x8 x.1))
            (l9
             (Y6 x_1 (jW x.1 (Y1 (N7 IntKind.i64 (x8 x.1) x_3)) (Y1 (x8 x.1))) a1)
             λ(x_4:J3×Int)=>
             l7 (G6 (x9 x_4.2 0)) (some (Out.rt ([],x_4.2)))
              (l7 (lK 0 (N7 IntKind.i64 (x8 x.1) x_3) (x8 x.1))
               (l9 (bF (jW x.1 (Y1 0) (Y1 (N7 IntKind.i64 (x8 x.1) x_3))) [x_4.1])
                λ(x_5:List J3)=>some (Out.nx (x_5,E9 IntKind.i64 x.2 1)))
               none))
            none))
        (l9 (jH x_1.1) λ(x_2:Int)=>
         l7 (lK (N7 IntKind.i64 (x8 x.1) x_2) (x8 x.1) (x8 x.1))
          (l9 (Y6 x_1 (jW x.1 (Y1 (N7 IntKind.i64 (x8 x.1) x_2)) (Y1 (x8 x.1))) a1)
           λ(x_3:J3×Int)=>
           l7 (G6 (x9 x_3.2 0)) (some (Out.rt ([],x_3.2)))
            (l7 (lK 0 (N7 IntKind.i64 (x8 x.1) x_2) (x8 x.1))
             (l9 (bF (jW x.1 (Y1 0) (Y1 (N7 IntKind.i64 (x8 x.1) x_2))) [x_3.1])
              λ(x_4:List J3)=>some (Out.nx (x_4,E9 IntKind.i64 x.2 1)))
             none))
          none))
      (some (Out.ex x.1))
def fmG(N:E8)(n:Int×Int)(p:List J3)(x:Tx)(i:Nat):Option (Out (List J3×Int) (List J3) (d2g×Int)):=
 some (l7 (x9 (flS n N) 0) (.nx (p++[(x.1,x.2,AB n.1)],((i+1:Nat):Int))) (.rt ([],flS n N)))
variable {e:List (Int×Int)}{x:Tx}
theorem b3y{i:Nat}{p args:List J3}(hn:e[i]? =some n)(hi:i<=1000)(hp:p.length<=1000)(hl:args.length<=3)(ha:qp n.1=(args.length:Int))
  (hr:(n.2=0\/bW n.1=some true)->Gm n args N x):fmF e N (p++args,(i:Int))=fmG N n p x i:=by
 have hx:N7 .i64 (x8 (p++args)) (qp n.1)=(p.length:Int):=by rw[di (by unfold jg x8;simp;omega),ha];unfold x8;simp
 have r1:lK (p.length:Int) (x8 (p++args)) (x8 (p++args))=true:=by unfold lK x8;simp<;>omega
 have r2:lK 0 (p.length:Int) (x8 (p++args))=true:=by unfold lK x8;simp<;>omega
 have v1:jW (p++args) (Y1 (p.length:Int)) (Y1 (x8 (p++args)))=args:=by unfold jW Y1 x8;rw[J7,J7,Y0 (G5 _),X4]
 have v2:jW (p++args) (Y1 0) (Y1 (p.length:Int))=p:=by unfold jW Y1;rw[J7,aI];rfl
 have main:(n.2=0\/bW n.1=some true)->(l9 (jH n.1) λ(x_2:Int)=>
         l7 (lK (N7 IntKind.i64 (x8 (p++args)) x_2) (x8 (p++args)) (x8 (p++args)))
          (l9 (Y6 n (jW (p++args) (Y1 (N7 IntKind.i64 (x8 (p++args)) x_2)) (Y1 (x8 (p++args)))) N)
           λ(x_3:J3×Int)=>
           l7 (G6 (x9 x_3.2 0)) (some (Out.rt ([],x_3.2)))
            (l7 (lK 0 (N7 IntKind.i64 (x8 (p++args)) x_2) (x8 (p++args)))
             (l9 (bF (jW (p++args) (Y1 0) (Y1 (N7 IntKind.i64 (x8 (p++args)) x_2))) [x_3.1])
              λ(x_4:List J3)=>some (Out.nx (x_4,E9 IntKind.i64 (i:Int) 1)))
             none))
          none)=fmG N n p x i:=by
  intro hu;obtain⟨c,h1,h2⟩:=hr hu;rw[a8z,o9,hx,r1,o7,v1,h2,o9,r2,v2];unfold fmG;rw[WE h1];cases hc:x9 c 0
  .rw[o6];simp only[hc,V7,o7];rfl
  .rw[o7];simp only[O9 (rfl:(0:Int)=0),G8,o6,o7];rw[qV _ o5,o9,fF o5]
 unfold fmF;simp only[X9 hn,o7,U8,hn,o9];by_cases h0:n.2=0
 .rw[O9 h0,G8,o6];exact main (.inl h0)
 .rw[O5 h0,V7,o7];rcases a6J (k:=n.1) o5 with hu|hu
  .rw[hu,o9,G8,o6];exact main (.inr hu)
  .rw[hu,o9,V7,o7];unfold fmG;rw[WE (a9w (k:=n.1) (m:=n.2) o5 h0 hu)];rfl
def ffS(N:E8):List (Int×Int)->Int
 |[]=>0|n::l=>l7 (x9 (flS n N) 0) (ffS N l) (flS n N)
theorem PK(N:E8):∀a b,ffS N (a++b)=l7 (x9 (ffS N a) 0) (ffS N b) (ffS N a)
 |[],b=>by rw[show ffS N []=0 from rfl,O9 rfl];rfl|n::a,b=>by
  show l7 (x9 (flS n N) 0) (ffS N (a++b)) (flS n N)=l7 (x9 (l7 (x9 (flS n N) 0) (ffS N a) (flS n N)) 0) (ffS N b) (l7 (x9 (flS n N) 0) (ffS N a) (flS n N));rw[PK N a b];cases h:x9 (flS n N) 0
  .simp only[o6,h]
  .simp only[o7]
theorem a9h(hN:NmOk N)(hI:jg n.2):(lY n N).1.length<=3000:=by
 unfold lY;have hw:=wJ n.1;have g1:=Cf hN.i n.2;have g2:=Cf hN.d n.2;have g3:=Cf hN.m n.2;have hv:((qN (n.1,0,n.2) []).getD ([],0)).1.length<=100:=by obtain⟨t,ht,hl⟩:=wI (B:=100) o5 o5 (v:=(n.1,0,n.2)) (en:=[]) hI (λe h=>by cases h);rw[←qm [] hI,ht];exact hl
 have he:((J9 N.1 (Z7 .i64 n.2 16)).getD ([],[])).1.length<=1000/\(gtN ((J9 N.1 (Z7 .i64 n.2 16)).getD ([],[])).2 (dJ n.2 16)).length<=1000:=by
  cases hx:J9 N.1 (Z7 .i64 n.2 16)with
  |none=>exact⟨A7,Cf (B:=1000) (λs h=>by cases h) _⟩|some e=>have:=hN.e e (qX hx).2.2.1;exact⟨this.1,Cf this.2 _⟩
 cases P7 n.1 5
 case true=>simp only[o7];omega
 cases x9 n.1 6
 case true=>simp only[o7,o6];simp;omega
 cases x9 n.1 7
 case true=>simp only[o7,o6];omega
 cases x9 n.1 8
 case true=>simp only[o7,o6];omega
 cases x9 n.1 9
 case true=>simp[l7]
 cases x9 n.1 35
 case true=>simp[l7]
 .simp only[o6];simp;omega
theorem b3X(hN:NmOk N)(b:Bool)(a:Tx):(FU n N b a).1.length<=a.1.length+3000:=by
 unfold FU;have hw:=wJ n.1;have hm:=Dt (dJ n.2 8);have g1:=Cf hN.t n.2;have g2:=Cf hN.t (Z7 .i64 n.2 8);have w:=Gl a 6;cases x9 n.1 33
 case true=>simp only[o7];simp;omega
 cases x9 n.1 34
 case true=>simp only[o7,o6];simp;omega
 cases x9 n.1 25
 case true=>simp only[o7,o6];simp;omega
 cases x9 n.1 10
 case true=>simp only[o7,o6];cases b<;>simp<;>omega
 .simp only[o6];simp;omega
theorem b5j(a b:Tx):(DW n a b).1.length<=a.1.length+b.1.length+3000:=by
 unfold DW;have hw:=wJ n.1;have hm:=Dt n.2;have hs:=a0t n.1;have w1:=Gl a (l7 (x9 (iY n.1).2 3) 4 (iY n.1).2);have w2:=Gl b ((iY n.1).2+1);cases Qs n.1
 case true=>simp only[o7];simp;omega
 cases Gq n.1
 case true=>simp only[o7,o6];simp;omega
 .simp only[o6];simp;omega
theorem BF{N:E8}(hN:NmOk N):∀(t:XT),(∀n∈t.post,jg n.2)->(gW N t).1.length<=3000*t.size
 | .l0 n,h=>a9h hN (h n (by simp[XT.post]))| .l1 n a,h=>by have h1:=BF hN a (λm hm=>h m (by simp[XT.post,hm]));have h2:=b3X (n:=n) hN (AB a.node.1) (gW N a);simp only[gW,XT.size];omega| .l2 n a b,h=>by have h1:=BF hN a (λm hm=>h m (by simp[XT.post,hm]));have h2:=BF hN b (λm hm=>h m (by simp[XT.post,hm]));have h3:=b5j (n:=n) (gW N a) (gW N b);simp only[gW,XT.size];omega| .l3 n a b c,h=>by have h1:=BF hN a (λm hm=>h m (by simp[XT.post,hm]));have h2:=BF hN b (λm hm=>h m (by simp[XT.post,hm]));have h3:=BF hN c (λm hm=>h m (by simp[XT.post,hm]));simp only[gW,XT.size,ifX];simp;omega
theorem dM{σ ε ρ:Type}(f:σ->Option (Out σ ε ρ))(n:Nat)(s:σ):iy f (n+1) s=match f s with|some (.nx s')=>iy f n s'|some (.ex e)=>some (.inl e)|some (.rt r)=>some (.inr r)|none=>none:=by rw[iy]<;>rfl
theorem b3z(he:e.length<=48)(hN:NmOk N)(hI:∀n∈e,jg n.2):∀(t:XT) (pre suf:List (Int×Int)) (p:List J3) (m:Nat),e=pre++t.post++suf->t.wf->p.length+t.size<=60->
  iy (fmF e N) (m+t.size) (p,(pre.length:Int))=l7 (x9 (ffS N t.post) 0) (iy (fmF e N) m (p++[pcT N t],((pre.length+t.size:Nat):Int))) (some (.inr ([],ffS N t.post))):=by
 have stepN:∀(n:Int×Int) (pre suf:List (Int×Int)) (p args:List J3) (x:Tx) (m:Nat),e=pre++[n]++suf->p.length<=60->args.length<=3->qp n.1=(args.length:Int)->((n.2=0\/bW n.1=some true)->Gm n args N x)->
   iy (fmF e N) (m+1) (p++args,(pre.length:Int))=l7 (x9 (flS n N) 0) (iy (fmF e N) m (p++[(x.1,x.2,AB n.1)],((pre.length+1:Nat):Int))) (some (.inr ([],flS n N))):=by
  intro n pre suf p args x m h1 h2 h3 h4 h5;have hn:e[pre.length]? =some n:=by rw[h1,E5,F8 (G5 _),aN];rfl
  have hlt:=(aV.1 hn).1;rw[dM,b3y hn o5 o5 h3 h4 h5];unfold fmG;cases x9 (flS n N) 0<;>rfl
 intro t;induction t with
 |l0 n=>
  intro pre suf p m h hw hs;have hI1:=hI n (by rw[h];simp[XT.post]);have:=stepN n pre suf p [] (lY n N) m h o5 A7 hw (λhu=>a6t hN hI1 hw hu);rw[F6]at this;rw[show(XT.l0 n).size=1 from rfl,this];unfold XT.post ffS ffS;cases hf:x9 (flS n N) 0
  .simp only[o6,hf]
  .simp only[o7,O9 (rfl:(0:Int)=0)];rfl
 |l1 n a iha=>
  intro pre suf p m h hw hs;simp only[XT.post,XT.size]at h hs ⊢;have hI1:=hI n (by rw[h];simp);have hIa:∀n∈a.post,jg n.2:=λq hq=>hI q (by rw[h];simp[hq]);have hl:=BF hN a hIa;rw[show m+(a.size+1)=(m+1)+a.size by omega,iha pre ([n]++suf) p (m+1) (by rw[h];simp) hw.2 o5,PK];cases hf:x9 (ffS N a.post) 0
  .simp only[o6,hf]
  have:=stepN n (pre++a.post) suf p [pcT N a] (FU n N (AB a.node.1) (gW N a)) m (by rw[h];simp) o5 A7 hw.1 (λhu=>a6u hN hI1 hw.1 hu (pcT N a) (by simp only[pcT];omega));rw[show(pre++a.post).length=pre.length+a.size by simp[XT.post_len]]at this;simp only[o7];rw[this];unfold ffS ffS;cases hg:x9 (flS n N) 0
  .simp only[o6,hg]
  .simp only[o7,O9 (rfl:(0:Int)=0)];rfl
 |l2 n a b iha ihb=>
  intro pre suf p m h hw hs;simp only[XT.post,XT.size]at h hs ⊢;have hI1:=hI n (by rw[h];simp);have hIa:∀n∈a.post,jg n.2:=λq hq=>hI q (by rw[h];simp[hq]);have hIb:∀n∈b.post,jg n.2:=λq hq=>hI q (by rw[h];simp[hq]);have hla:=BF hN a hIa;have hlb:=BF hN b hIb;have s1:=a.size_pos;have s2:=b.size_pos;rw[show m+(a.size+b.size+1)=(m+1+b.size)+a.size by omega,iha pre (b.post++[n]++suf) p (m+1+b.size) (by rw[h];simp) hw.2.1 o5,PK,PK];cases hf:x9 (ffS N a.post) 0
  .simp only[o6,hf]
  have i2:=ihb (pre++a.post) ([n]++suf) (p++[pcT N a]) (m+1) (by rw[h];simp) hw.2.2 F9;rw[show(pre++a.post).length=pre.length+a.size by simp[XT.post_len]]at i2;simp only[o7];rw[i2];cases hf2:x9 (ffS N b.post) 0
  .simp only[o6,hf2]
  have:=stepN n (pre++a.post++b.post) suf p [pcT N a,pcT N b] (DW n (gW N a) (gW N b)) m (by rw[h];simp) o5 A7 hw.1 (λhu=>a6v hw.1 hu (pcT N a) (pcT N b) (by simp only[pcT];omega) (by simp only[pcT];omega));rw[show(pre++a.post++b.post).length=pre.length+a.size+b.size by simp[XT.post_len];omega,show pre.length+a.size+b.size+1=pre.length+(a.size+b.size+1) by omega]at this;simp only[o7];rw[show p++[pcT N a]++[pcT N b]=p++[pcT N a,pcT N b] by simp,this];unfold ffS ffS;cases hg:x9 (flS n N) 0
  .simp only[o6,hg]
  .simp only[o7,O9 (rfl:(0:Int)=0)];rfl
 |l3 n a b c iha ihb ihc=>
  intro pre suf p m h hw hs;simp only[XT.post,XT.size]at h hs ⊢;have hI1:=hI n (by rw[h];simp);have hIa:∀n∈a.post,jg n.2:=λq hq=>hI q (by rw[h];simp[hq]);have hIb:∀n∈b.post,jg n.2:=λq hq=>hI q (by rw[h];simp[hq]);have hIc:∀n∈c.post,jg n.2:=λq hq=>hI q (by rw[h];simp[hq]);have hla:=BF hN a hIa;have hlb:=BF hN b hIb;have hlc:=BF hN c hIc;have s1:=a.size_pos;have s2:=b.size_pos;have s3:=c.size_pos;have h26:=ar3 hw.1;rw[show m+(a.size+b.size+c.size+1)=(m+1+c.size+b.size)+a.size by omega,iha pre (b.post++c.post++[n]++suf) p (m+1+c.size+b.size) (by rw[h];simp) hw.2.1 o5,PK,PK,PK];cases hf:x9 (ffS N a.post) 0
  .simp only[o6,hf]
  have i2:=ihb (pre++a.post) (c.post++[n]++suf) (p++[pcT N a]) (m+1+c.size) (by rw[h];simp) hw.2.2.1 F9;rw[show(pre++a.post).length=pre.length+a.size by simp[XT.post_len]]at i2;simp only[o7];rw[i2];cases hf2:x9 (ffS N b.post) 0
  .simp only[o6,hf2]
  have i3:=ihc (pre++a.post++b.post) ([n]++suf) (p++[pcT N a]++[pcT N b]) (m+1) (by rw[h];simp) hw.2.2.2 F9;rw[show(pre++a.post++b.post).length=pre.length+a.size+b.size by simp[XT.post_len];omega]at i3;simp only[o7];rw[i3];cases hf3:x9 (ffS N c.post) 0
  .simp only[o6,hf3]
  have:=stepN n (pre++a.post++b.post++c.post) suf p [pcT N a,pcT N b,pcT N c] (ifX (gW N a) (gW N b) (gW N c)) m (by rw[h];simp) o5 A7 hw.1 (λhu=>by obtain⟨k,v⟩:=n;simp only at h26 hu;subst h26;exact a6w hu (pcT N a) (pcT N b) (pcT N c) (by simp only[pcT];omega) (by simp only[pcT];omega) (by simp only[pcT];omega))
  rw[show(pre++a.post++b.post++c.post).length=pre.length+a.size+b.size+c.size by simp[XT.post_len];omega,show pre.length+a.size+b.size+c.size+1=pre.length+(a.size+b.size+c.size+1) by omega]at this;simp only[o7];rw[show p++[pcT N a]++[pcT N b]++[pcT N c]=p++[pcT N a,pcT N b,pcT N c] by simp,this];unfold ffS ffS;cases hg:x9 (flS n N) 0
  .simp only[o6,hg]
  .simp only[o7,O9 (rfl:(0:Int)=0)];rfl
def qG(e:List (Int×Int))(N:E8):d2g×Int:=match kP e with
 | .inl x=>([],x.2)| .inr t=>l7 (x9 (ffS N e) 0) ((gW N t).1,0) ([],ffS N e)
theorem a3I(hN:NmOk N)(hI:∀n∈e,jg n.2):qg e N=some (qG e N):=by
 unfold qg Ai qG;rw[Kv];unfold vZ;cases h:kP e with
 |inl x=>simp only[o9,O5 (yf h)];rfl|inr t=>
  obtain⟨h1,h2,h3,h4⟩:=a0S h;obtain⟨hp,-⟩:=oQ h;simp only[o9,O9 (rfl:(0:Int)=0),G8,o6];have hl:O6 (fmF e N) ([],0)=some (l7 (x9 (ffS N e) 0) (.inl [pcT N t]) (.inr ([],ffS N e))):=by
   unfold O6;rw[show aH=(aH -t.size)+t.size by unfold aH;omega];have:=b3z h2 hN hI t [] [] [] (aH -t.size) (by simp[←hp]) (EO h) F9;rw[show(([]:List (Int×Int)).length:Int)=0 from rfl]at this;rw[this,←hp];cases x9 (ffS N e) 0
   .rfl
   .simp only[o7];rw[show aH -t.size=(aH -t.size -1)+1 by unfold aH;omega];rw[dM];unfold fmF;simp only[I8,dR];rw[←h3,show H5 ((e.length:Nat):Int) (x8 e)=false from af e];rfl
  refine V5 hl ?_;rw[o9];cases x9 (ffS N e) 0<;>rfl
abbrev b3i:Type:=List (Int×Int)×E8
theorem OW(n:Nat)(p:b3i)(i:Int):(F7 (n+1)).1 p i=aG (F7 n).1 (F7 n).2.1 (F7 n).2.2 p i:=rfl
theorem c5e(n:Nat)(p:b3i)(x:Int×Int)(l:d2h):(F7 (n+1)).2.1 p x l=qj (F7 n).1 (F7 n).2.1 (F7 n).2.2 p x l:=rfl
theorem c5f(n:Nat)(p:b3i)(i c:Int):(F7 (n+1)).2.2 p i c=sF (F7 n).1 (F7 n).2.1 (F7 n).2.2 p i c:=rfl
theorem vW{n:Nat}{p:b3i}(c:Int)(h:(F7 n).1 p i=some (x.1,x.2,p))(hl:x.1.length<=1000000):(F7 (n+1)).2.2 p i c=some (wiS x c,p):=by rw[c5f];unfold sF wiS;rw[h,o9,H7 F9,o9,H7 F9,o9];cases H5 x.2 c<;>rfl
theorem b5g(k:Int):0<=(iY k).2:=by
 unfold iY dE;simp only[qw];repeat' split
 all_goals simp
theorem a9g(n:Int×Int)(N:E8):0<=(lY n N).2:=by
 unfold lY;simp only[qw];repeat' split
 all_goals simp
theorem b3W(n:Int×Int)(N:E8)(b:Bool)(a:Tx):0<=(FU n N b a).2:=by
 unfold FU;simp only[qw];repeat' split
 all_goals simp
theorem TR(N:E8)(t:XT):0<=(gW N t).2:=by
 cases t with
 |l0 n=>exact a9g n N|l1 n a=>exact b3W _ _ _ _|l2 n a b=>have:=b5g n.1;unfold gW DW;cases Qs n.1<;>cases Gq n.1<;>simp[l7]<;>exact this|l3 n a b c=>simp[gW,ifX]
theorem wi0(h:0<=x.2):wiS x 0=x.1:=by unfold wiS;rw[X5 h];rfl
theorem a2c(h:0<=m/\m<=5):xP m=some (iM m):=by obtain⟨k,rfl⟩:∃k:Fin 6,m=(k.val:Int):=⟨⟨m.toNat,o5⟩,by simp;omega⟩;revert k;decide
def YT(b:d2g×Nat)(a:d2g):d2g×Nat:=(l7 (H5 0 (b.2:Int)) (b.1++[44,32]++a) (b.1++a),b.2+1)
def LZ(l:List d2g):d2g:=(l.foldl YT ([],0)).1
theorem b3J(hl:l.length<=10)(hb:∀s∈l,s.length<=1000000){f:d2g×Int->Option ((d2g×Int)⊕d2g)}
  (hf:∀(t:d2g) (i:Nat) (a:d2g),l[i]? =some a->f (t,(i:Int))=l7 (H5 0 (i:Int)) (l9 (O0 t [44,32]) λx=>l9 (O0 x a) λx=>some (.inl (x,((i+1:Nat):Int)))) (l9 (O0 t a) λx=>some (.inl (x,((i+1:Nat):Int)))))
  (he:∀t,f (t,(l.length:Int))=some (.inr t)):bC f ([],0)=some (LZ l):=by
 have:=(FC l YT (λb i=>(b.1,i)) (λb=>b.1) (λi b=>b.2=i/\b.1.length<=i*1000010) (f:=f) (b:=([],0)) o5 ⟨rfl,A7⟩ (λi a b hx hi hI=>?_) (λb hI=>he b.1)).1
 .exact this
 .have ha:=hb a (zg hx);have hlt:=(aV.1 hx).1;obtain⟨h1,h2⟩:=hI;rw[hf b.1 i a hx];unfold YT;rw[h1];cases H5 0 (i:Int)
  .rw[o6,o6,H7 o5,o9];exact⟨rfl,rfl,by simp;omega⟩
  .rw[o7,o7,H7 F9,o9,H7 F9,o9];exact⟨rfl,rfl,by simp;omega⟩
def UT(n:Int×Int)(N:E8)(l:List d2g):List d2g:=
 let a:=l7 (x9 n.1 34) [gtN N.2.1 (Z7 .i64 n.2 8)] [];let b:=l7 (x9 n.1 33) (a++[gtN N.2.1 n.2]) (l7 (P7 36 n.1) (a++[gtN N.2.2.2.2 n.2]) a);let c:=b++l;let d:=l7 (Gq n.1) (c++[iM n.2]) c
 l7 (x9 n.1 34) (d++[iM (dJ n.2 8)]) d
structure Ref11 (n:Int×Int) (N:E8):Prop where
 b:n.1=34->J9 N.2.1 (Z7 .i64 n.2 8)=some (gtN N.2.1 (Z7 .i64 n.2 8))/\0<=dJ n.2 8/\dJ n.2 8<=5
 t:n.1=33->J9 N.2.1 n.2=some (gtN N.2.1 n.2)
 m:36<=n.1->J9 N.2.2.2.2 n.2=some (gtN N.2.2.2.2 n.2)
 r:Gq n.1=true->0<=n.2/\n.2<=5
theorem a6V{k:Nat}{ops:d2h}{ts:List d2g}(hr:Ref11 n N)(hN:NmOk N)(hlen:ops.length=ts.length)(h3:ts.length<=3)(hts:∀s∈ts,s.length<=1000000)
  (hc:∀(i:Nat) (o:Int) (s:d2g),ops[i]? =some o->ts[i]? =some s->(F7 k).2.2 (e,N) o 0=some (s,(e,N))):(F7 (k+1)).2.1 (e,N) n ops=some (LZ (UT n N ts),(e,N)):=by
 rw[c5e];unfold qj UT;have s1:(l7 (x9 n.1 34) (l9 (J9 N.2.1 (Z7 IntKind.i64 n.2 8)) λ(x:d2g)=>l9 (bF [] [x]) λ(x:List d2g)=>some x) (some []))=some (l7 (x9 n.1 34) [gtN N.2.1 (Z7 .i64 n.2 8)] []):=by
  cases h:x9 n.1 34
  .rfl
  .rw[(hr.b (Z8.1 h)).1];rfl
 refine V5 s1 ?_;rw[o9];generalize hA:l7 (x9 n.1 34) [gtN N.2.1 (Z7 .i64 n.2 8)] []=A;have lA:A.length<=1:=by rw[←hA];cases x9 n.1 34<;>simp
 have mA:∀s∈A,s.length<=1000:=by
  rw[←hA];cases x9 n.1 34
  .intro s hs;cases hs
  .intro s hs;simp at hs;rw[hs];exact Cf hN.t _
 have s2:(l7 (x9 n.1 33)
    (l9 (qW n N) λ(x_1:List d2g)=>
     l9 (J9 x_1 n.2) λ(x_2:d2g)=>l9 (bF A [x_2]) λ(x:List d2g)=>some x)
    (l7 (P7 36 n.1)
     (l9 (qW n N) λ(x_1:List d2g)=>
      l9 (J9 x_1 n.2) λ(x_2:d2g)=>l9 (bF A [x_2]) λ(x:List d2g)=>some x)
     (some A)))=some (l7 (x9 n.1 33) (A++[gtN N.2.1 n.2]) (l7 (P7 36 n.1) (A++[gtN N.2.2.2.2 n.2]) A)):=by
  unfold qW;by_cases h:n.1=33
  .rw[O9 h,o7,o7];simp only[O5 (show n.1≠7 by omega),O5 (show n.1≠8 by omega),O9 h,o7,o6,o9,hr.t h];rw[qV _ o5];rfl
  .rw[O5 h,o6,o6];by_cases h2:36<=n.1
   .rw[Z9 h2,o7,o7];simp only[O5 (show n.1≠7 by omega),O5 (show n.1≠8 by omega),O5 h,o6,o9,hr.m h2];rw[qV _ o5];rfl
   .rw[dO o5];rfl
 refine V5 s2 ?_;rw[o9];generalize hB:l7 (x9 n.1 33) (A++[gtN N.2.1 n.2]) (l7 (P7 36 n.1) (A++[gtN N.2.2.2.2 n.2]) A)=B;have lB:B.length<=2:=by rw[←hB];cases x9 n.1 33<;>cases P7 36 n.1<;>simp[l7]<;>omega
 have mB:∀s∈B,s.length<=1000:=by
  rw[←hB];intro s hs;cases h:x9 n.1 33
  .rw[h]at hs;cases h2:P7 36 n.1
   .rw[h2]at hs;exact mA s hs
   .rw[h2]at hs;simp[l7]at hs;rcases hs with hs|hs
    .exact mA s hs
    .rw[hs];exact Cf hN.m _
  .rw[h]at hs;simp[l7]at hs;rcases hs with hs|hs
   .exact mA s hs
   .rw[hs];exact Cf hN.t _
 have s3:bC (λ(x:I9×List d2g×Int)=>
     l7 (H5 x.2.2 (x8 ops))
      (l9 (J9 ops x.2.2) λ(x_1:Int)=>
       l9 ((F7 k).2.2 x.1 x_1 0) λ(x_2:d2g×I9)=>
        l9 (bF x.2.1 [x_2.1]) λ(x_3:List d2g)=>
         some (Sum.inl (x_2.2,x_3,E9 IntKind.i64 x.2.2 1)))
      (some (Sum.inr (x.1,x.2.1))))
    ((e,N),B,0)=some ((e,N),B++ts):=by
  have:=(FC ts (λ(b:List d2g) a=>b++[a]) (λb i=>((((e,N):I9),b,i):I9×List d2g×Int)) (λb=>(((e,N):I9),b)) (λi b=>b.length<=2+i) (b:=B) (f:=λ(x:I9×List d2g×Int)=>
     l7 (H5 x.2.2 (x8 ops))
      (l9 (J9 ops x.2.2) λ(x_1:Int)=>
       l9 ((F7 k).2.2 x.1 x_1 0) λ(x_2:d2g×I9)=>
        l9 (bF x.2.1 [x_2.1]) λ(x_3:List d2g)=>
         some (Sum.inl (x_2.2,x_3,E9 IntKind.i64 x.2.2 1)))
      (some (Sum.inr (x.1,x.2.1)))) o5 o5 (λi a b hx hi hI=>?_) (λb hI=>?_)).1
  .rw[this];congr 2;have:∀(l B:List d2g),l.foldl (λ(b:List d2g) a=>b++[a]) B=B++l:=by
    intro l;induction l with
    |nil=>intro B;simp|cons a l ih=>intro B;rw[dK,ih];simp
   rw[this]
  .have hlt:=(aV.1 hx).1;have ho:ops[i]? =some ops[i]:=qi o5;simp only[X9 ho,o7,U8,ho,o9,hc i _ _ ho hx];rw[qV _ o5,o9,fF o5];exact⟨rfl,by simp;omega⟩
  .simp only;rw[show H5 ((ts.length:Nat):Int) (x8 ops)=false by rw[←hlen];exact af ops];rfl
 refine V5 s3 ?_;rw[o9];have s4:∀(y:I9×List d2g),y.2.length<=10->(l7 (x9 n.1 14)
     (l9 (xP n.2) λ(x:d2g)=>l9 (bF y.2 [x]) λ(x:List d2g)=>some x)
     (l7 (x9 n.1 15)
      (l9 (xP n.2) λ(x:d2g)=>l9 (bF y.2 [x]) λ(x:List d2g)=>some x)
      (l7 (x9 n.1 16)
       (l9 (xP n.2) λ(x:d2g)=>
        l9 (bF y.2 [x]) λ(x:List d2g)=>some x)
       (some y.2))))=some (l7 (Gq n.1) (y.2++[iM n.2]) y.2):=by
  intro y hy;cases h:Gq n.1
  .unfold Gq at h;cases h1:x9 n.1 14<;>cases h2:x9 n.1 15<;>cases h3:x9 n.1 16<;>simp only[h1,h2,h3,o7,o6]at h<;>first|exact absurd h D9|rfl
  .rw[a2c (hr.r h)];simp only[o9];rw[qV _ o5,o9];unfold Gq at h;cases h1:x9 n.1 14<;>cases h2:x9 n.1 15<;>cases h3:x9 n.1 16<;>simp only[h1,h2,h3,o7,o6]at h<;>first|exact absurd h D9|rfl
 refine V5 (s4 ((e,N),B++ts) F9) ?_;rw[o9];simp only;generalize hD:l7 (Gq n.1) (B++ts++[iM n.2]) (B++ts)=D;have lD:D.length<=6:=by rw[←hD];cases Gq n.1<;>simp[l7]<;>omega
 have mD:∀s∈D,s.length<=1000000:=by
  rw[←hD];intro s hs;have hm:=Dt n.2;cases h:Gq n.1
  .rw[h]at hs;simp[l7]at hs;rcases hs with hs|hs
   .have:=mB s hs;omega
   .exact hts s hs
  .rw[h]at hs;simp[l7]at hs;rcases hs with hs|hs|hs
   .have:=mB s hs;omega
   .exact hts s hs
   .rw[hs];omega
 have jn:∀(l:List d2g),l.length<=10->(∀s∈l,s.length<=1000000)->bC (λ(x_2:d2g×Int)=>
          l7 (H5 x_2.2 (x8 l))
           (l7 (H5 0 x_2.2)
            (l9 (O0 x_2.1 [44,32]) λ(x_3:d2g)=>
             l9 (J9 l x_2.2) λ(x_4:d2g)=>
              l9 (ah l (Y1 x_2.2)) λ(x:d2g)=>
               l9 (O0 x_3 x) λ(x:d2g)=>some (Sum.inl (x,E9 IntKind.i64 x_2.2 1)))
            (l9 (J9 l x_2.2) λ(x_3:d2g)=>
             l9 (ah l (Y1 x_2.2)) λ(x:d2g)=>
              l9 (O0 x_2.1 x) λ(x:d2g)=>some (Sum.inl (x,E9 IntKind.i64 x_2.2 1))))
           (some (Sum.inr x_2.1)))
         ([],0)=some (LZ l):=by
  intro l hl hb;refine b3J hl hb (λt i a hx=>?_) (λt=>?_)
  .have hlt:=(aV.1 hx).1;simp only[X9 hx,o7,U8,ah,Y1,J7,hx,o9];rw[fF o5]
  .simp only[af l,o6]
 cases h34:x9 n.1 34
 .simp only[o6];refine V5 (jn D o5 mD) ?_;rw[o9,hB,hD]
 .simp only[o7];rw[a2c (hr.b (Z8.1 h34)).2,o9,qV _ o5,o9];have hm:=Dt (dJ n.2 8);refine V5 (jn (D++[iM (dJ n.2 8)]) F9 (λs hs=>?_)) ?_
  .simp at hs;rcases hs with hs|hs
   .exact mD s hs
   .rw[hs];omega
  .rw[o9,hB,hD]
theorem zA(hf:V9 n N=l7 (H5 n.2 0) (some 6) (l7 (P7 (x8 l) n.2) (some 6) (some 0)))(h:flS n N=0):J9 l n.2=some (gtN l n.2):=by
 unfold flS at h;rw[hf]at h;by_cases h0:n.2<0
 .rw[bT h0]at h;cases h
 by_cases h1:x8 l<=n.2
 .rw[X5 o5,Z9 h1]at h;cases h
 exact(Md o5 o5).1
theorem h_(hm:jg m)(h:flS (34,m) N=0):J9 N.2.1 (Z7 .i64 m 8)=some (gtN N.2.1 (Z7 .i64 m 8))/\0<=dJ m 8/\dJ m 8<=5:=by
 have hf:V9 (34,m) N=l7 (H5 m 0) (some 6) (l7 (P7 (x8 N.2.1) (Z7 .i64 m 8)) (some 6) (l7 (H5 5 (dJ m 8)) (some 3) (some 0))):=rfl;unfold flS at h;rw[hf]at h;by_cases h0:m<0
 .rw[bT h0]at h;cases h
 by_cases h1:x8 N.2.1<=Z7 .i64 m 8
 .rw[X5 o5,Z9 h1]at h;cases h
 by_cases h2:5<dJ m 8
 .rw[X5 o5,dO o5,bT h2]at h;cases h
 have hq:Z7 .i64 m 8=m / 8:=by rw[Oi hm 8 (.inl rfl),nC o5]
 have hr0:dJ m 8=m % 8:=AU o5;exact⟨(Md o5 o5).1,o5,o5⟩
theorem a3G(hk:k=14\/k=15\/k=16)(h:flS (k,m) N=0):0<=m/\m<=5:=by
 have hf:V9 (k,m) N=l7 (H5 m 0) (some 3) (l7 (H5 5 m) (some 3) (some 0)):=by rcases hk with rfl|rfl|rfl<;>rfl
 unfold flS at h;rw[hf]at h;by_cases h0:m<0
 .rw[bT h0]at h;cases h
 by_cases h2:5<m
 .rw[X5 o5,bT h2]at h;cases h
 omega
theorem b0A(hm:jg n.2)(h:flS n N=0)(ha:0<=qp n.1):Ref11 n N:=by
 obtain⟨k,m⟩:=n;refine⟨λh1=>?_,λh1=>?_,λh1=>?_,λh1=>?_⟩
 .simp only at h1;subst h1;exact h_ hm h
 .simp only at h1;subst h1;exact zA rfl h
 .rcases arN k with h2|h2
  .have:k=36\/k=37\/k=38\/k=39:=by simp only at h1;omega
   rcases this with rfl|rfl|rfl|rfl<;>exact zA rfl h
  .simp only at ha;omega
 .refine a3G (k:=k) ?_ h;unfold Gq at h1;by_cases g1:k=14
  .exact .inl g1
  by_cases g2:k=15
  .exact .inr (.inl g2)
  rw[O5 g1,O5 g2,o6,o6]at h1;exact .inr (.inr (Z8.1 h1))
theorem Am{j:Nat}{ops:d2h}{ts:List d2g}(hx:J9 e i=some (k,m))(ho:Bl e i=some ops)(hm:jg m)(hfl:flS (k,m) N=0)(ha:0<=qp k)(hN:NmOk N)
  (hk:dX (k,m)=some ((0,0,0),false)/\dE k=some ([],0)/\k≠6/\k≠7/\k≠8/\k≠9/\k≠10/\k≠25/\k≠26)
  (hlen:ops.length=ts.length) (h3:ts.length<=3) (hts:∀s∈ts,s.length<=1000000) (hj:(LZ (UT (k,m) N ts)).length<=100000000)
  (hc:∀(a:Nat) (o:Int) (s:d2g),ops[a]? =some o->ts[a]? =some s->(F7 j).2.2 (e,N) o 0=some (s,(e,N))):
  (F7 (j+2)).1 (e,N) i=some (dG k++[40]++LZ (UT (k,m) N ts)++[41],7,(e,N)):=by
 obtain⟨h1,h2,g6,g7,g8,g9,g10,g25,g26⟩:=hk;have hw:=wJ k;rw[OW];unfold aG;simp only[hx,ho,h1,h2,o9,o6,show seq ([]:d2g) []=true from rfl,G8,O5 g6,O5 g7,O5 g8,O5 g9,O5 g10,O5 g25,O5 g26,b3f];rw[H7 F9,o9,a6V (b0A hm hfl ha) hN hlen h3 hts hc,o9,H7 F9,o9,H7 F9,o9]
theorem YS(a:d2g):LZ [a]=a:=by simp[LZ,YT,H5,l7]
theorem a5W(a b:d2g):LZ [a,b]=a++[44,32]++b:=by simp[LZ,YT,H5,l7]
theorem a5X(a b c:d2g):LZ [a,b,c]=a++[44,32]++b++[44,32]++c:=by simp[LZ,YT,H5,l7]
end Go.GP
namespace Go.GP
open Gt
set_option maxRecDepth 100000
variable {α:Type}
theorem lg0(a:α)(l:List α):ah (a::l) (Y1 0)=some a:=rfl
theorem lg1(a b:α)(l:List α):ah (a::b::l) (Y1 1)=some b:=rfl
theorem lg2(a b c:α)(l:List α):ah (a::b::c::l) (Y1 2)=some c:=rfl
theorem hc0{P:Nat->Int->d2g->Prop} :∀(a:Nat) (o:Int) (s:d2g),([]:d2h)[a]? =some o->([]:List d2g)[a]? =some s->P a o s:=by intro a o s h;cases a<;>cases h
theorem hc1{x:Int}{y:d2g}{P:Int->d2g->Prop}(h0:P x y):∀(a:Nat) (o:Int) (s:d2g),[x][a]? =some o->[y][a]? =some s->P o s:=by
 intro a o s h1 h2;match a with
 |0=>cases h1;cases h2;exact h0|a+1=>simp at h1
theorem hc2{x x' :Int}{y y' :d2g}{P:Int->d2g->Prop}(h0:P x y)(h1:P x' y'):∀(a:Nat) (o:Int) (s:d2g),[x,x'][a]? =some o->[y,y'][a]? =some s->P o s:=by
 intro a o s g1 g2;match a with
 |0=>cases g1;cases g2;exact h0|1=>cases g1;cases g2;exact h1|a+2=>simp at g1
section
variable {e:List (Int×Int)} {N:E8} {T:XT} (hN:NmOk N) (hT:kP e= .inr T) (hI:∀n∈e,jg n.2) (hz:∀n∈e,flS n N=0)
include hN hT hI hz
theorem b0w(n:Int×Int)(o k:Nat)(h:At e (T.sts 0) (.l0 n) o)(hw:(XT.l0 n).wf):(F7 (k+2)).1 (e,N) (rtI (.l0 n) o:Int)=some ((lY n N).1,(lY n N).2,(e,N)):=by
 have hr:=yx h;have ho:=Ep hT h hw;have hx:J9 e ((rtI (.l0 n) o:Nat):Int)=some n:=by rw[U8];exact hr.1
 have hmem:=zg hr.1;have hi:=hI n hmem;have hf:=hz n hmem;rw[show a7N (.l0 n) o=[]from rfl]at ho;generalize ((rtI (.l0 n) o:Nat):Int)=i at hx ho;obtain⟨op,m⟩:=n;have ha:qp op=0:=hw;have lit:∀k:Nat,(op=1\/op=2\/op=3\/op=4\/op=5)->(F7 (k+2)).1 (e,N) i=some ((lY (op,m) N).1,(lY (op,m) N).2,(e,N)):=by intro k hk;obtain⟨t,ht,-⟩:=wI (B:=100) o5 o5 (v:=(op,0,m)) (en:=[]) hi (λe h=>by cases h);rw[qm [] hi]at ht;rw[OW];unfold aG dX lY;simp only[hx,ho,o9,Z9 (show(1:Int)<=op by omega),Z9 (show op<=(5:Int) by omega),o7,ht,Z4];cases H5 m 0<;>rfl
 have lst:∀k:Nat,(op=36\/op=37\/op=38\/op=39)->(F7 (k+2)).1 (e,N) i=some ((lY (op,m) N).1,(lY (op,m) N).2,(e,N)):=by
  intro k hk;have e1:UT (op,m) N []=[gtN N.2.2.2.2 m]:=by rcases hk with rfl|rfl|rfl|rfl<;>rfl
  have e2:lY (op,m) N=(dG op++[40]++gtN N.2.2.2.2 m++[41],7):=by rcases hk with rfl|rfl|rfl|rfl<;>rfl
  have:=Am (j:=k) hx ho hi hf o5 hN (ops:=[]) (ts:=[]) (by rcases hk with rfl|rfl|rfl|rfl<;>exact⟨rfl,rfl,o5,o5,o5,o5,o5,o5,o5⟩) rfl A7 A7 (by rw[e1,YS];have:=Cf hN.m m;omega) hc0
  rw[this,e1,YS,e2]
 rcases ar0 ha with rfl|rfl|rfl|rfl|rfl|rfl|rfl|rfl|rfl|rfl|rfl|rfl|rfl|rfl
 .exact lit k o5
 .exact lit k o5
 .exact lit k o5
 .exact lit k o5
 .exact lit k o5
 ·
  have hff:V9 (6,m) N=(l7 (H5 m 0) (some 6)
    (l7 (P7 (x8 N.1) (Z7 .i64 m 16)) (some 6)
     (l9 (J9 N.1 (Z7 .i64 m 16)) λ(x:aP)=>
      l7 (P7 (x8 x.2) (dJ m 16)) (some 6) (some 0)))):=rfl
  unfold flS at hf;rw[hff]at hf;by_cases h0:m<0
  .rw[bT h0]at hf;cases hf
  by_cases h1:x8 N.1<=Z7 .i64 m 16
  .rw[X5 o5,Z9 h1]at hf;cases hf
  have hq:0<=Z7 .i64 m 16:=by rw[Oi hi 16 (.inr rfl),nC o5];omega
  have hr0:dJ m 16=m % 16:=AU o5;obtain⟨en,he,hmem⟩:=ui (l:=N.1) hq o5;have hb:=hN.e en hmem;rw[X5 o5,dO o5,o6,o6,he,o9]at hf;by_cases h2:x8 en.2<=dJ m 16
  .rw[Z9 h2]at hf;cases hf
  have hg:=Md (l:=en.2) (i:=dJ m 16) o5 o5;have h3:=hb.2 _ hg.2;rw[OW];unfold aG lY;simp (disch:=decide) only[hx,ho,o9,show dX (6,m)=some ((0,0,0),false)from rfl,show dE 6=some ([],0)from rfl,o6,show seq ([]:d2g) []=true from rfl,G8,O9,dO,o7,he,hg.1,Z4];rw[H7 F9,o9,H7 F9,o9]
 .rw[OW];unfold aG lY qW;simp (disch:=decide) only[hx,ho,o9,show dX (7,m)=some ((0,0,0),false)from rfl,show dE 7=some ([],0)from rfl,o6,show seq ([]:d2g) []=true from rfl,G8,O9,O5,dO,o7,zA (n:=(7,m)) (l:=N.2.2.1) rfl hf]
 .rw[OW];unfold aG lY qW;simp (disch:=decide) only[hx,ho,o9,show dX (8,m)=some ((0,0,0),false)from rfl,show dE 8=some ([],0)from rfl,o6,show seq ([]:d2g) []=true from rfl,G8,O9,O5,dO,o7,zA (n:=(8,m)) (l:=N.2.2.2.1) rfl hf]
 .rw[OW];unfold aG lY;simp (disch:=decide) only[hx,ho,o9,show dX (9,m)=some ((0,0,0),false)from rfl,show dE 9=some ([],0)from rfl,o6,show seq ([]:d2g) []=true from rfl,G8,O9,O5,dO,o7]
 .have:=Am (j:=k) hx ho hi hf o5 hN (ops:=[]) (ts:=[]) ⟨rfl,rfl,o5,o5,o5,o5,o5,o5,o5⟩ rfl A7 A7 (by rw[show UT (35,m) N []=[]from rfl];decide) hc0;rw[this];rfl
 .exact lst k o5
 .exact lst k o5
 .exact lst k o5
 .exact lst k o5
theorem b4q(n:Int×Int)(a:XT)(o k:Nat)(h:At e (T.sts 0) (.l1 n a) o)(hw:(XT.l1 n a).wf)(hla:(gW N a).1.length<=1000000)
  (ia:∀q,k<=q->(F7 q).1 (e,N) (rtI a o:Int)=some ((gW N a).1,(gW N a).2,(e,N))):(F7 (k+3)).1 (e,N) (rtI (.l1 n a) o:Int)=some ((FU n N (AB a.node.1) (gW N a)).1,(FU n N (AB a.node.1) (gW N a)).2,(e,N)):=by
 have hr:=yx h;have hra:=yx (a5A h);have ho:=Ep hT h hw;have hx:J9 e ((rtI (.l1 n a) o:Nat):Int)=some n:=by rw[U8];exact hr.1
 have hxa:J9 e ((rtI a o:Nat):Int)=some a.node:=by rw[U8];exact hra.1
 have hmem:=zg hr.1;have hi:=hI n hmem;have hf:=hz n hmem;rw[show a7N (.l1 n a) o=[((rtI a o:Nat):Int)]from rfl]at ho;generalize ((rtI (.l1 n a) o:Nat):Int)=i at hx ho;obtain⟨op,m⟩:=n;have ha:qp op=1:=hw.1;have w0:(F7 (k+1)).2.2 (e,N) ((rtI a o:Nat):Int) 0=some ((gW N a).1,(e,N)):=by rw[vW 0 (ia k o5) hla,wi0 (TR N a)]
 have w6:(F7 (k+2)).2.2 (e,N) ((rtI a o:Nat):Int) 6=some (wiS (gW N a) 6,(e,N)):=vW 6 (ia (k+1) o5) hla;have n6:=ia (k+2) o5;generalize ((rtI a o:Nat):Int)=j at hxa ho w0 w6 n6;have hwl:=Gl (gW N a) 6;have hml:=Dt (dJ m 8);have gl1:=Cf hN.t m;have gl2:=Cf hN.t (Z7 .i64 m 8);rcases ar1 ha with rfl|rfl|rfl|rfl|rfl|rfl
 .rw[OW];unfold aG FU AB;simp (disch:=decide) only[hx,ho,o9,show dX (10,m)=some ((0,0,0),false)from rfl,show dE 10=some ([],0)from rfl,o6,show seq ([]:d2g) []=true from rfl,G8,O9,O5,o7,lx0,lg0,hxa,n6,w6];rw[H7 F9,o9,H7 F9,o9,H7 F9,o9];cases x9 a.node.1 2
  .cases x9 a.node.1 3
   .cases x9 a.node.1 4<;>simp[l7]
   .simp[l7]
  .simp[l7]
 .rw[OW];unfold aG FU;simp (disch:=decide) only[hx,ho,o9,show dX (25,m)=some ((0,0,0),false)from rfl,show dE 25=some ([],0)from rfl,o6,show seq ([]:d2g) []=true from rfl,G8,O9,O5,o7,lx0,lg0,w6];rw[H7 F9,o9]
 .have e1:UT (31,m) N [(gW N a).1]=[(gW N a).1]:=rfl;rw[Am (j:=k+1) hx ho hi hf o5 hN (ts:=[(gW N a).1]) ⟨rfl,rfl,o5,o5,o5,o5,o5,o5,o5⟩ rfl A7 (by simpa using hla) (by rw[e1,YS];omega) (hc1 w0),e1,YS];rfl
 .have e1:UT (32,m) N [(gW N a).1]=[(gW N a).1]:=rfl;rw[Am (j:=k+1) hx ho hi hf o5 hN (ts:=[(gW N a).1]) ⟨rfl,rfl,o5,o5,o5,o5,o5,o5,o5⟩ rfl A7 (by simpa using hla) (by rw[e1,YS];omega) (hc1 w0),e1,YS];rfl
 .have e1:UT (33,m) N [(gW N a).1]=[gtN N.2.1 m,(gW N a).1]:=rfl;rw[Am (j:=k+1) hx ho hi hf o5 hN (ts:=[(gW N a).1]) ⟨rfl,rfl,o5,o5,o5,o5,o5,o5,o5⟩ rfl A7 (by simpa using hla) (by rw[e1,a5W];simp;omega) (hc1 w0),e1,a5W];simp[FU,x9,l7]
 .have e1:UT (34,m) N [(gW N a).1]=[gtN N.2.1 (Z7 .i64 m 8),(gW N a).1,iM (dJ m 8)]:=rfl;rw[Am (j:=k+1) hx ho hi hf o5 hN (ts:=[(gW N a).1]) ⟨rfl,rfl,o5,o5,o5,o5,o5,o5,o5⟩ rfl A7 (by simpa using hla) (by rw[e1,a5X];simp;omega) (hc1 w0),e1,a5X];simp[FU,x9,l7]
theorem b4r(n:Int×Int)(a b:XT)(o k:Nat)(h:At e (T.sts 0) (.l2 n a b) o)(hw:(XT.l2 n a b).wf)(hla:(gW N a).1.length<=1000000)(hlb:(gW N b).1.length<=1000000)
  (ia:∀q,k<=q->(F7 q).1 (e,N) (rtI a o:Int)=some ((gW N a).1,(gW N a).2,(e,N))) (ib:∀q,k<=q->(F7 q).1 (e,N) (rtI b (o+a.size):Int)=some ((gW N b).1,(gW N b).2,(e,N))):
  (F7 (k+3)).1 (e,N) (rtI (.l2 n a b) o:Int)=some ((DW n (gW N a) (gW N b)).1,(DW n (gW N a) (gW N b)).2,(e,N)):=by
 have hr:=yx h;have ho:=Ep hT h hw;have hx:J9 e ((rtI (.l2 n a b) o:Nat):Int)=some n:=by rw[U8];exact hr.1
 have hmem:=zg hr.1;have hi:=hI n hmem;have hf:=hz n hmem;rw[show a7N (.l2 n a b) o=[((rtI a o:Nat):Int),((rtI b (o+a.size):Nat):Int)]from rfl]at ho;generalize ((rtI (.l2 n a b) o:Nat):Int)=i at hx ho;obtain⟨op,m⟩:=n;have ha:qp op=2:=hw.1;have w0:(F7 (k+1)).2.2 (e,N) ((rtI a o:Nat):Int) 0=some ((gW N a).1,(e,N)):=by rw[vW 0 (ia k o5) hla,wi0 (TR N a)]
 have w1:(F7 (k+1)).2.2 (e,N) ((rtI b (o+a.size):Nat):Int) 0=some ((gW N b).1,(e,N)):=by rw[vW 0 (ib k o5) hlb,wi0 (TR N b)]
 have u1:∀c,(F7 (k+2)).2.2 (e,N) ((rtI a o:Nat):Int) c=some (wiS (gW N a) c,(e,N)):=λc=>vW c (ia (k+1) o5) hla;have u2:∀c,(F7 (k+2)).2.2 (e,N) ((rtI b (o+a.size):Nat):Int) c=some (wiS (gW N b) c,(e,N)):=λc=>vW c (ib (k+1) o5) hlb;generalize ((rtI a o:Nat):Int)=j at ho w0 u1;generalize ((rtI b (o+a.size):Nat):Int)=j' at ho w1 u2;have hml:=Dt m;by_cases h1:op=17\/op=18\/op=27\/op=28\/op=29\/op=30
 .have e1:UT (op,m) N [(gW N a).1,(gW N b).1]=[(gW N a).1,(gW N b).1]:=by rcases h1 with rfl|rfl|rfl|rfl|rfl|rfl<;>rfl
  have e2:DW (op,m) (gW N a) (gW N b)=(dG op++[40]++(gW N a).1++[44,32]++(gW N b).1++[41],7):=by rcases h1 with rfl|rfl|rfl|rfl|rfl|rfl<;>rfl
  rw[Am (j:=k+1) hx ho hi hf o5 hN (ts:=[(gW N a).1,(gW N b).1]) (by rcases h1 with rfl|rfl|rfl|rfl|rfl|rfl<;>exact⟨rfl,rfl,o5,o5,o5,o5,o5,o5,o5⟩) rfl A7 (by simp;exact⟨hla,hlb⟩) (by rw[e1,a5W];simp;omega) (hc2 w0 w1),e1,a5W,e2];simp
 by_cases h2:op=14\/op=15\/op=16
 .have e1:UT (op,m) N [(gW N a).1,(gW N b).1]=[(gW N a).1,(gW N b).1,iM m]:=by rcases h2 with rfl|rfl|rfl<;>rfl
  have e2:DW (op,m) (gW N a) (gW N b)=(dG op++[40]++(gW N a).1++[44,32]++(gW N b).1++[44,32]++iM m++[41],7):=by rcases h2 with rfl|rfl|rfl<;>rfl
  rw[Am (j:=k+1) hx ho hi hf o5 hN (ts:=[(gW N a).1,(gW N b).1]) (by rcases h2 with rfl|rfl|rfl<;>exact⟨rfl,rfl,o5,o5,o5,o5,o5,o5,o5⟩) rfl A7 (by simp;exact⟨hla,hlb⟩) (by rw[e1,a5X];simp;omega) (hc2 w0 w1),e1,a5X,e2];simp
 have hk:op=11\/op=12\/op=13\/op=19\/op=20\/op=21\/op=22\/op=23\/op=24:=by have:=ar2 ha;omega
 have hl:=a0t op;have hc:1<=(iY op).2/\(iY op).2<=5:=by rcases hk with rfl|rfl|rfl|rfl|rfl|rfl|rfl|rfl|rfl<;>decide
 have hs:seq (iY op).1 []=false:=by rcases hk with rfl|rfl|rfl|rfl|rfl|rfl|rfl|rfl|rfl<;>rfl
 have hlit:dX (op,m)=some ((0,0,0),false):=by rcases hk with rfl|rfl|rfl|rfl|rfl|rfl|rfl|rfl|rfl<;>rfl
 have hb:Qs op=false/\Gq op=false:=by rcases hk with rfl|rfl|rfl|rfl|rfl|rfl|rfl|rfl|rfl<;>exact⟨rfl,rfl⟩
 have v1:=Gl (gW N a) 4;have v2:=Gl (gW N a) (iY op).2;have v3:=Gl (gW N b) ((iY op).2+1);rw[OW];unfold aG DW;simp only[hx,ho,o9,hlit,b2N,hs,o6,o7,V7,lx0,lg0,lx1,lg1,u1,u2,dP (show jg ((iY op).2+1) by unfold jg;omega),hb.1,hb.2];cases x9 (iY op).2 3
 .simp only[o6];rw[H7 F9,o9,H7 F9,o9,H7 F9,o9,H7 F9,o9]
 .simp only[o7];rw[H7 F9,o9,H7 F9,o9,H7 F9,o9,H7 F9,o9]
theorem b6X(n:Int×Int)(a b c:XT)(o k:Nat)(h:At e (T.sts 0) (.l3 n a b c) o)(hw:(XT.l3 n a b c).wf)(hla:(gW N a).1.length<=1000000)(hlb:(gW N b).1.length<=1000000)(hlc:(gW N c).1.length<=1000000)
  (ia:∀q,k<=q->(F7 q).1 (e,N) (rtI a o:Int)=some ((gW N a).1,(gW N a).2,(e,N))) (ib:∀q,k<=q->(F7 q).1 (e,N) (rtI b (o+a.size):Int)=some ((gW N b).1,(gW N b).2,(e,N)))
  (ic:∀q,k<=q->(F7 q).1 (e,N) (rtI c (o+a.size+b.size):Int)=some ((gW N c).1,(gW N c).2,(e,N))):
  (F7 (k+3)).1 (e,N) (rtI (.l3 n a b c) o:Int)=some ((ifX (gW N a) (gW N b) (gW N c)).1,(ifX (gW N a) (gW N b) (gW N c)).2,(e,N)):=by
 have hr:=yx h;have ho:=Ep hT h hw;have hx:J9 e ((rtI (.l3 n a b c) o:Nat):Int)=some n:=by rw[U8];exact hr.1
 rw[show a7N (.l3 n a b c) o=[((rtI a o:Nat):Int),((rtI b (o+a.size):Nat):Int),((rtI c (o+a.size+b.size):Nat):Int)]from rfl]at ho;generalize ((rtI (.l3 n a b c) o:Nat):Int)=i at hx ho;obtain⟨op,m⟩:=n;have ha:op=26:=ar3 hw.1;subst ha;have u1:(F7 (k+2)).2.2 (e,N) ((rtI a o:Nat):Int) 0=some ((gW N a).1,(e,N)):=by rw[vW 0 (ia (k+1) o5) hla,wi0 (TR N a)]
 have u2:(F7 (k+2)).2.2 (e,N) ((rtI b (o+a.size):Nat):Int) 0=some ((gW N b).1,(e,N)):=by rw[vW 0 (ib (k+1) o5) hlb,wi0 (TR N b)]
 have u3:(F7 (k+2)).2.2 (e,N) ((rtI c (o+a.size+b.size):Nat):Int) 0=some ((gW N c).1,(e,N)):=by rw[vW 0 (ic (k+1) o5) hlc,wi0 (TR N c)]
 rw[OW];unfold aG ifX;simp (disch:=decide) only[hx,ho,o9,show dX (26,m)=some ((0,0,0),false)from rfl,show dE 26=some ([],0)from rfl,o6,show seq ([]:d2g) []=true from rfl,G8,O9,O5,o7,lx0,lg0,lx1,lg1,lx2,lg2,u1,u2,u3];rw[H7 F9,o9,H7 F9,o9,H7 F9,o9,H7 F9,o9,H7 F9,o9]
theorem b0x:∀(t:XT) (o k:Nat),At e (T.sts 0) t o->t.wf->3*t.size<=k->(F7 k).1 (e,N) (rtI t o:Int)=some ((gW N t).1,(gW N t).2,(e,N)):=by
 have h48:=(oQ hT).2;have hlen:∀(t:XT) (o:Nat),At e (T.sts 0) t o->(gW N t).1.length<=1000000:=by
  intro t o h;obtain⟨p,s,S1,S2,h1,-,-,-⟩:=h;have hl:=BF hN t (λn hn=>hI n (by rw[h1];simp[hn]));have:t.size<=e.length:=by rw[←t.post_len,h1];simp;omega
  omega
 intro t;induction t with
 |l0 n=>intro o k h hw hk;simp only[XT.size]at hk;obtain⟨k,rfl⟩:∃m,k=m+2:=⟨k -2,o5⟩;exact b0w hN hT hI hz n o k h hw
 |l1 n a iha=>intro o k h hw hk;simp only[XT.size]at hk;obtain⟨k,rfl⟩:∃m,k=m+3:=⟨k -3,o5⟩;exact b4q hN hT hI hz n a o k h hw (hlen a o (a5A h)) (λq hq=>iha o q (a5A h) hw.2 o5)
 |l2 n a b iha ihb=>intro o k h hw hk;simp only[XT.size]at hk;obtain⟨k,rfl⟩:∃m,k=m+3:=⟨k -3,o5⟩;exact b4r hN hT hI hz n a b o k h hw (hlen a o (YA h).1) (hlen b _ (YA h).2) (λq hq=>iha o q (YA h).1 hw.2.1 o5) (λq hq=>ihb _ q (YA h).2 hw.2.2 o5)
 |l3 n a b c iha ihb ihc=>intro o k h hw hk;simp only[XT.size]at hk;obtain⟨k,rfl⟩:∃m,k=m+3:=⟨k -3,o5⟩;exact b6X hN hT hI hz n a b c o k h hw (hlen a o (Qq h).1) (hlen b _ (Qq h).2.1) (hlen c _ (Qq h).2.2) (λq hq=>iha o q (Qq h).1 hw.2.1 o5) (λq hq=>ihb _ q (Qq h).2.1 hw.2.2.1 o5) (λq hq=>ihc _ q (Qq h).2.2 hw.2.2.2 o5)
end
end Go.GP
namespace Go.GP
open Gt
set_option maxRecDepth 100000
variable {N:E8}
theorem b6w{n:Int×Int}(hN:NmOk N)(hI:jg n.2)(ha:0<=qp n.1):V9 n N=some (flS n N):=by
 obtain⟨k,m⟩:=n;have fin:∀{args:List J3} {x:Tx},Gm (k,m) args N x->V9 (k,m) N=some (flS (k,m) N):=by rintro args x ⟨c,h1,-⟩;rw[WE h1];exact h1
 by_cases h0:m=0\/bW k=some true
 .have h3:qp k=0\/qp k=1\/qp k=2\/qp k=3:=by have:=(IE k).2.2;simp only at ha;omega
  rcases h3 with h|h|h|h
  .exact fin (a6t hN hI h h0)
  .exact fin (a6u hN hI h h0 ([],0,false) A7)
  .exact fin (a6v h h0 ([],0,false) ([],0,false) A7 A7)
  .have:=ar3 h;subst this;exact fin (a6w h0 ([],0,false) ([],0,false) ([],0,false) A7 A7 A7)
 .have h1:m≠0:=λh=>h0 (.inl h);have h2:bW k=some false:=(a6J ha).resolve_left λh=>h0 (.inr h);have:=a9w (N:=N) ha h1 h2;rw[WE this];exact this
theorem KA:∀(t:XT),t.wf->∀n∈t.post,0<=qp n.1
 | .l0 n,h,m,hm=>by simp[XT.post]at hm;rw[hm];rw[show qp n.1=0 from h];decide| .l1 n a,h,m,hm=>by
  simp[XT.post]at hm;rcases hm with hm|hm
  .exact KA a h.2 m hm
  .rw[hm,h.1];decide
 | .l2 n a b,h,m,hm=>by
  simp[XT.post]at hm;rcases hm with hm|hm|hm
  .exact KA a h.2.1 m hm
  .exact KA b h.2.2 m hm
  .rw[hm,h.1];decide
 | .l3 n a b c,h,m,hm=>by
  simp[XT.post]at hm;rcases hm with hm|hm|hm|hm
  .exact KA a h.2.1 m hm
  .exact KA b h.2.2.1 m hm
  .exact KA c h.2.2.2 m hm
  .rw[hm,h.1];decide
theorem QA{N:E8} :∀{l:List (Int×Int)},ffS N l=0->∀n∈l,flS n N=0
 |[],_,n,h=>by cases h|a::l,h,n,hn=>by
  unfold ffS at h;cases hf:x9 (flS a N) 0
  .rw[hf]at h;rw[o6]at h;exact absurd h (qh.1 hf)
  .rw[hf]at h;rw[o7]at h;rcases D6.1 hn with rfl|hn
   .exact Z8.1 hf
   .exact QA h n hn
theorem a2b(e:List (Int×Int))(he:e.length<=1000)(hf:∀n∈e,V9 n N=some (flS n N)):
  O6 (λ(x:Int)=>
     l7 (H5 x (x8 e))
      (l9 (J9 e x) λ(x_1:rf)=>
       l9 (V9 x_1 N) λ(x_2:Int)=>
        l7 (G6 (x9 x_2 0)) (some (Out.rt (([]:d2g),x_2))) (some (Out.nx (E9 IntKind.i64 x 1))))
      (some (Out.ex PUnit.unit))) 0=some (l7 (x9 (ffS N e) 0) (.inl PUnit.unit) (.inr ([],ffS N e))):=by
 have key:∀(l pre:List (Int×Int)) (k:Nat),e=pre++l->l.length<k->
   iy (λ(x:Int)=>
     l7 (H5 x (x8 e))
      (l9 (J9 e x) λ(x_1:rf)=>
       l9 (V9 x_1 N) λ(x_2:Int)=>
        l7 (G6 (x9 x_2 0)) (some (Out.rt (([]:d2g),x_2))) (some (Out.nx (E9 IntKind.i64 x 1))))
      (some (Out.ex PUnit.unit))) k (pre.length:Int)=some (l7 (x9 (ffS N l) 0) (.inl PUnit.unit) (.inr ([],ffS N l))):=by
  intro l;induction l with
  |nil=>intro pre k h hk;obtain⟨k,rfl⟩:∃k',k=k' +1:=⟨k -1,by simp at hk;omega⟩;rw[dM];rw[F6]at h;rw[←h,af];rfl
  |cons n l ih=>
   intro pre k h hk;obtain⟨k,rfl⟩:∃k',k=k' +1:=⟨k -1,by simp at hk;omega⟩;have hn:e[pre.length]? =some n:=by rw[h,F8 (G5 _),aN];rfl
   have hlt:=(aV.1 hn).1;rw[dM];simp only[X9 hn,o7,U8,hn,o9,hf n (zg hn)];unfold ffS;cases hg:x9 (flS n N) 0
   .simp only[V7,o7,o6,hg]
   .simp only[G8,o7,o6];have:=ih (pre++[n]) k (by rw[h];simp) (by simp at hk;omega);rw[show(((pre++[n]).length:Nat):Int)=E9 .i64 (pre.length:Int) 1 by rw[fF o5];simp]at this;exact this
 have:=key e [] aH rfl (by unfold aH;omega);exact this
theorem a6y{e:List (Int×Int)}(hN:NmOk N)(hI:∀n∈e,jg n.2):yK e N=some (qG e N):=by
 unfold yK JS qG;rw[OX];unfold vZ;cases h:kP e with
 |inl x=>simp only[o9,O5 (yf h)];rfl|inr t=>
  obtain⟨h1,h2,h3,h4⟩:=a0S h;obtain⟨hp,-⟩:=oQ h;simp only[o9,O9 (rfl:(0:Int)=0),G8,o6];have hw:=EO h;refine V5 (a2b e o5 (λn hn=>b6w hN (hI n hn) (KA t hw n (by rw[←hp];exact hn)))) ?_;rw[o9];cases hf:x9 (ffS N e) 0
  .rfl
  .simp only[o7,X8];rw[h4,show zX (e,N) ((rtI t 0:Nat):Int)=some ((gW N t).1,(gW N t).2,(e,N))from b0x hN h hI (QA (Z8.1 hf)) t 0 aH h1 hw (by unfold aH;omega)]<;>rfl
theorem Vf{e:List (Int×Int)}(hN:NmOk N)(hI:∀n∈e,jg n.2):(qG e N).1.length<=150000:=by
 unfold qG;cases h:kP e with
 |inl x=>simp|inr t=>
  obtain⟨hp,h48⟩:=oQ h;have:=BF hN t (by rw[←hp];exact hI);rw[←t.post_len,←hp]at this;simp only;cases x9 (ffS N e) 0
  .simp[l7]
  .simp only[o7];omega
theorem a8D{a:List aP}(h:a.length<=1000000)(h2:∀e∈a,e.2.length<=1000000):uN a=some a:=by
 unfold uN;refine V5 (a3L a (λe=>e) h (F:=λx=>x) (λi e acc he hi=>?_) (λacc=>?_)) ?_
 rotate_left 2
 .rw[o9,List.map_id']
 .have hlt:=(aV.1 he).1;simp only[X9 he,o7,U8,he,o9,a3m (h2 e (zg he))];rw[qV _ o5];rfl
 .simp only[af a,o6]
theorem a3J{l:List kD}(h:l.length<=1000000):lJ l=some (l.map (·.1)):=by
 unfold lJ;refine V5 (a3L l (λ(f:kD)=>f.1) h (F:=λx=>x) (λi e acc he hi=>?_) (λacc=>?_)) ?_
 rotate_left 2
 .rfl
 .have hlt:=(aV.1 he).1;simp only[X9 he,o7,U8,he,o9];rw[qV _ o5];rfl
 .simp only[af l,o6]
def nmS(l:V4)(s:V6):E8:=(l.1,l.2.1.map (·.1),s.2.2.1.map (·.1),s.2.2.2.1.map (·.1),l7 (P7 0 s.2.1) (match J9 l.2.2 s.2.1 with|some q=>q.2.2.2.1.map (·.1)|none=>[]) [])
structure NmL (l:V4):Prop where
 ne:l.1.length<=9
 nt:l.2.1.length<=9
 e:∀e∈l.1,e.2.length<=20/\e.1.length<=80/\∀m∈e.2,m.length<=80
 t:∀t∈l.2.1,t.1.length<=80
 s:∀s∈l.2.2,s.2.2.1.length<=14/\s.2.2.2.1.length<=14/\s.2.2.2.2.length<=96/\(∀f∈s.2.2.1,f.1.length<=80)/\(∀f∈s.2.2.2.1,f.1.length<=80)/\∀r∈s.2.2.2.2,r.1.length<=80
variable {l:V4}
theorem b6J(h:smL l=true)(hW:WfL l):NmL l:=by
 unfold smL at h;obtain⟨h1,h⟩:=Ef h;obtain⟨h2,h⟩:=Ef h;obtain⟨h3,h⟩:=Ef h;obtain⟨h4,h⟩:=Ef h;cases ht:mZ tG l.2.1 0 with
 |inr r=>rw[ht]at h;cases h|inl b=>
  rw[ht]at h;simp only at h;cases hs:mZ sG l.2.2 0 with
  |inr r=>rw[hs]at h;cases h|inl b' =>
   have T:=a5f l.2.1 0 b o5 o5 hW.rl ht;have S:=a4G l.2.2 0 b' o5 o5 hW.sl hs;refine⟨fA (n:=9) h1,fA (n:=9) h2,λe he=>?_,λt ht=>(T t ht).1,λs hs=>?_⟩
   .have hl:=OA h4 e he;unfold YU at hl;cases g1:H5 80 (x8 e.1)<;>rw[g1]at hl
    case true=>cases hl
    cases g2:H5 20 (x8 e.2)<;>rw[g2]at hl
    case true=>cases hl
    refine⟨fA (n:=20) g2,fA (n:=80) g1,λm hm=>?_⟩;have:=OA (p:=λm=>H5 80 (x8 m)) hl m hm;exact fA (n:=80) this
   .have h:=S s hs;unfold smS at h;obtain⟨a1,h⟩:=Ef h;obtain⟨a2,h⟩:=Ef h;obtain⟨a3,h⟩:=Ef h;obtain⟨a4,h⟩:=Ef h;obtain⟨a5,h⟩:=Ef h;obtain⟨a6,h⟩:=Ef h;have a7:s.2.2.2.2.any OO=false:=by revert h;cases s.2.2.2.2.any OO<;>intro h<;>first|rfl|cases h
    refine⟨fA (n:=14) a2,fA (n:=14) a3,Y4 (fA (n:=60) a4) o5,λf hf=>fA (n:=80) (OA a5 f hf),λf hf=>fA (n:=80) (OA a6 f hf),λr hr=>?_⟩;have hl:=OA a7 r hr;unfold OO at hl;cases g1:H5 80 (x8 r.1)<;>rw[g1]at hl
    case true=>cases hl
    exact fA (n:=80) g1
theorem b6K(h:NmL l){s:V6}(hs:s∈l.2.2):NmOk (nmS l s):=by
 obtain⟨s1,s2,s3,s4,s5,s6⟩:=h.s s hs;refine⟨λe he=>?_,λx hx=>?_,λx hx=>?_,λx hx=>?_,λx hx=>?_⟩
 .have:=h.e e he;exact⟨o5,λm hm=>by have:=this.2.2 m hm;omega⟩
 .obtain⟨t,ht,rfl⟩:=aJ.1 hx;have:=h.t t ht;omega
 .obtain⟨f,hf,rfl⟩:=aJ.1 hx;have:=s4 f hf;omega
 .obtain⟨f,hf,rfl⟩:=aJ.1 hx;have:=s5 f hf;omega
 .unfold nmS at hx;simp only at hx;cases g:P7 0 s.2.1<;>rw[g]at hx
  .cases hx
  .simp only[o7]at hx;split at hx
   .rename_i q hq;obtain⟨f,hf,rfl⟩:=aJ.1 hx;have:=(h.s q (qX hq).2.2.1).2.2.2.2.1 f hf;omega
   .cases hx
variable {k:Int}
theorem Zg(h:NmL l){s:V6}(hs:J9 l.2.2 k=some s):pM l k=some (nmS l s):=by
 obtain⟨k0,k1,hm,-⟩:=qX hs;obtain⟨s1,s2,-⟩:=h.s s hm;have nt:=h.nt;unfold pM;rw[X5 k0,dO k1,o6,o6,o9,X8,hs,o9,a3J o5,o9,a3J o5,o9];refine FB l.2.1 (λ(b:E8) (t:dm)=>((b.1,b.2.1++[t.1],b.2.2):E8)) (λb i=>(b,i)) (λb=>b) (λi b=>b.2.1.length=i) (l.1,[],s.2.2.1.map (·.1),s.2.2.2.1.map (·.1),[]) o5 rfl (λi t b hx hi hI=>?_) (λb _=>?_) (λ_=>?_)
 .have hlt:=(aV.1 hx).1;simp only[X9 hx,o7,U8,hx,o9];rw[qV _ o5,o9,fF o5];exact⟨rfl,by simp;omega⟩
 .simp only[af l.2.1,o6]
 .have e:∀(L:List dm) (b:E8),L.foldl (λ(b:E8) (t:dm)=>((b.1,b.2.1++[t.1],b.2.2):E8)) b=(b.1,b.2.1++L.map (·.1),b.2.2):=by
   intro L;induction L with
   |nil=>intro b;simp|cons t L ih=>intro b;rw[dK,ih];simp
  rw[e];unfold nmS;cases g:P7 0 s.2.1
  .simp[l7]
  .by_cases g2:s.2.1<x8 l.2.2
   .obtain⟨q,hq,hmq⟩:=ui (uF.1 g) g2;have:=(h.s q hmq).2.1;rw[bT g2,hq];simp only[o7,o9];rw[a3J o5,o9];simp
   .rw[X5 (wC.1 g2)];have:J9 l.2.2 s.2.1=none:=by
     cases hq:J9 l.2.2 s.2.1 with
     |none=>rfl|some q=>exact absurd (qX hq).2.1 g2
    rw[this];simp[l7]
theorem a1D(h:NmL l){s:V6}(hs:J9 l.2.2 k=some s):sO l k=some (nmS l s):=by rw[XJ (a8D (by have:=h.ne;omega) (λe he=>by have:=(h.e e he).1;omega)) k];exact Zg h hs
theorem d2c(h:(mY l).1=0):mY l=(0,0,0,0):=by
 unfold mY at h ⊢;cases h1:x9 (DR l).1 0<;>rw[h1]at h
 .simp only[o6]at h;rw[O9 h]at h1;cases h1
 cases h2:x9 (zM l).1 0<;>rw[h2]at h
 .simp only[o7,o6]at h;rw[O9 h]at h2;cases h2
 simp only[o7]at h ⊢;unfold RJ at h ⊢;cases h3:H5 4 (x8 l.2.2)<;>rw[h3]at h
 case true=>exact absurd (show(4:Int)=0 from h) D9
 simp only[o6]at h ⊢;cases hf:fK l.2.2.length (Ko l)with
 |none=>rfl|some r=>
  rw[hf]at h;simp only at h;obtain⟨j,hj,hp⟩:=oC hf;unfold Ko at hp;cases hq:l.2.2[j]? with
  |none=>rw[hq]at hp;cases hp|some q=>
   rw[hq]at hp;simp only at hp;unfold PI at hp;exact absurd h (by cases he:x9 (Kq l j q).1 0<;>rw[he]at hp<;>cases hp;simp only;intro h4;rw[O9 h4]at he;cases he)
variable {s:d2g}
theorem WR(P:UInt8->Bool){f:Int->Option (Int⊕Int)}(hl:s.length<=1000000)
  (h1:∀(i:Nat) (c:UInt8),s[i]? =some c->f (i:Int)=some (l7 (P c) (.inl ((i+1:Nat):Int)) (.inr (i:Int)))) (h2:∀i:Nat,s.length<=i->f (i:Int)=some (.inr (i:Int))) (a:Nat):
  bC f (a:Int)=some (((a+((s.drop a).takeWhile P).length:Nat)):Int):=by
 have key:∀(n a k:Nat),s.length -a<=n->n<k->zU f k (a:Int)=some (((a+((s.drop a).takeWhile P).length:Nat)):Int):=by
  intro n;induction n with
  |zero=>intro a k h hk;obtain⟨k,rfl⟩:∃m,k=m+1:=⟨k -1,o5⟩;rw[CG (h2 a o5),aF o5];rfl
  |succ n ih=>
   intro a k h hk;obtain⟨k,rfl⟩:∃m,k=m+1:=⟨k -1,o5⟩;by_cases hlt:a<s.length
   .have hc:=qi hlt;have:=h1 a _ hc;rw[aA hlt];cases hp:P s[a]
    .rw[hp,o6]at this;rw[CG this,List.takeWhile_cons_of_neg (by rw[hp];simp)];rfl
    .rw[hp,o7]at this;rw[CE this,ih (a+1) k o5 o5,List.takeWhile_cons_of_pos hp];congr 2;simp only[D5];omega
   .rw[CG (h2 a o5),aF o5];rfl
 exact key (s.length -a) a aH o5 (by unfold aH;omega)
theorem a3Y(h:s.length<=1000000):nS s=some ((s.takeWhile uz).length:Int):=by
 unfold nS;have:=WR uz h (f:=λ(x:Int)=>l7 (H5 x (x8 s)) (l9 (sat s x) λx_1=>l9 (lU x_1) λx_2=>l7 x_2 (some (Sum.inl (E9 IntKind.i64 x 1)))
   (l9 (sat s x) λx_3=>l9 (jc x_3) λx_4=>l7 x_4 (some (Sum.inl (E9 IntKind.i64 x 1))) (l9 (sat s x) λx_5=>l7 (x9 x_5 95) (some (Sum.inl (E9 IntKind.i64 x 1))) (some (Sum.inr x))))) (some (Sum.inr x)))
  (λi c hc=>by have hlt:=(aV.1 hc).1;simp only[X9 hc,o7,vX,hc,eX,o9,FK,IK,a9a];rw[fF o5];have hw:uz c=(FI c || vM c || decide (c.toNat=95)):=rfl;rw[hw];cases FI c<;>cases vM c<;>cases decide (c.toNat=95)<;>rfl)
  (λi hi=>by rw[X5 (by unfold x8;omega)];rfl) 0
 rw[uS];rw[show((0:Nat):Int)=0 from rfl]at this;rw[this];simp
theorem qR(h:s.length<=1000000)(a:Nat)(ha:a<=1000000):kW s (a:Int)=some (((s.drop a).takeWhile vM).length:Int):=by
 unfold kW;have:=WR vM h (f:=λ(x:Int)=>
   l7 (H5 x (x8 s))
    (l9 (sat s x) λ(x_1:Int)=>
     l9 (jc x_1) λ(x_2:Bool)=>
      l7 x_2 (some (Sum.inl (E9 IntKind.i64 x 1))) (some (Sum.inr x)))
    (some (Sum.inr x)))
  (λi c hc=>by have hlt:=(aV.1 hc).1;simp only[X9 hc,o7,vX,hc,eX,o9,IK];rw[fF o5];cases vM c<;>rfl)
  (λi hi=>by rw[X5 (by unfold x8;omega)];rfl) a
 refine V5 this ?_;have hl:((s.drop a).takeWhile vM).length<=1000000:=by have:=(List.takeWhile_sublist vM (l:=s.drop a)).length_le;simp at this;omega
 rw[o9,di bn];congr 1;omega
def HdN(P:UInt8->Bool)(r:d2g):Prop:=∀c t,r=c::t->P c=false
variable {r:d2g}{w:d2g}
theorem Ky{P:UInt8->Bool}(hw:∀c∈w,P c=true)(hr:HdN P r):(w++r).takeWhile P=w:=by
 induction w with
 |nil=>
  cases r with
  |nil=>rfl|cons c t=>rw[G9,List.takeWhile_cons_of_neg (by rw[hr c t rfl];simp)]
 |cons c w ih=>rw[I7,List.takeWhile_cons_of_pos (hw c A7),ih (λd hd=>hw d (by simp[hd]))]
def Sl(c:UInt8):Bool:=decide (c=32) || decide (c=9) || decide (c=35)
theorem Ql(c:UInt8)(k:Nat)(hk:k<256):x9 (c.toNat:Int) (k:Int)=decide (c=UInt8.ofNat k):=by
 unfold x9;rw[decide_eq_decide];constructor
 .intro h;apply UInt8.toNat_inj.1;rw[UInt8.toNat_ofNat'];omega
 .intro h;have:=congrArg UInt8.toNat h;rw[UInt8.toNat_ofNat']at this;omega
variable {i:Nat}
theorem Zw(hl:s.length<=1000000)(h:HdN Sl (s.drop i))(hi:i<=s.length):∀k,iy (λ(x:Int×Bool)=>
   l7 (H5 x.1 (x8 s))
    (l9 (sat s x.1) λ(x_1:Int)=>
     l7 x.2 (l7 (x9 x_1 10) (some (Out.rt x.1)) (some (Out.nx (E9 IntKind.i64 x.1 1,x.2))))
      (l7 (x9 x_1 35) (some (Out.nx (E9 IntKind.i64 x.1 1,true)))
       (l7 (G6 (x9 x_1 32))
        (l7 (G6 (x9 x_1 9)) (some (Out.rt x.1)) (some (Out.nx (E9 IntKind.i64 x.1 1,x.2))))
        (some (Out.nx (E9 IntKind.i64 x.1 1,x.2))))))
    (some (Out.ex x.1))) (k+1) ((i:Int),false)=some (.inl (i:Int))\/iy (λ(x:Int×Bool)=>
   l7 (H5 x.1 (x8 s))
    (l9 (sat s x.1) λ(x_1:Int)=>
     l7 x.2 (l7 (x9 x_1 10) (some (Out.rt x.1)) (some (Out.nx (E9 IntKind.i64 x.1 1,x.2))))
      (l7 (x9 x_1 35) (some (Out.nx (E9 IntKind.i64 x.1 1,true)))
       (l7 (G6 (x9 x_1 32))
        (l7 (G6 (x9 x_1 9)) (some (Out.rt x.1)) (some (Out.nx (E9 IntKind.i64 x.1 1,x.2))))
        (some (Out.nx (E9 IntKind.i64 x.1 1,x.2))))))
    (some (Out.ex x.1))) (k+1) ((i:Int),false)=(some (.inr (i:Int)):Option (Int⊕Int)):=by
 intro k;rw[dM];by_cases hlt:i<s.length
 .right;have hc:=qi hlt;have hb:=h s[i] (s.drop (i+1)) (aA hlt);unfold Sl at hb;simp only[cu,decide_eq_false_iff_not]at hb;simp only[X9 hc,o7,vX,hc,eX,o9,o6];rw[show x9 ((s[i].toNat:Nat):Int) 35=false from(Ql _ 35 o5).trans (decide_eq_false hb.2),show x9 ((s[i].toNat:Nat):Int) 32=false from(Ql _ 32 o5).trans (decide_eq_false hb.1.1),show x9 ((s[i].toNat:Nat):Int) 9=false from(Ql _ 9 o5).trans (decide_eq_false hb.1.2)];rfl
 .left;rw[X5 (by unfold x8;simp only;omega)];rfl
theorem XE(hl:s.length<=1000000)(h:HdN Sl (s.drop i))(hi:i<=s.length):uk s (i:Int)=some (i:Int):=by unfold uk O6;rw[show aH=(aH -1)+1 by unfold aH;omega];rcases Zw hl h hi (aH -1)with h|h<;>refine V5 h ?_<;>rfl
theorem b1w(hl:s.length<=1000000)(h0:s[i]? =some 32)(h:HdN Sl (s.drop (i+1))):uk s (i:Int)=some ((i+1:Nat):Int):=by
 have hlt:=(aV.1 h0).1;unfold uk O6;rw[show aH=(aH -2)+1+1 by unfold aH;omega];rcases Zw hl h o5 (aH -2)with h|h
 all_goals
  rw[dM];simp only[X9 h0,o7,vX,h0,eX,o9,o6,show x9 (((32:UInt8).toNat:Nat):Int) 35=false from rfl,show x9 (((32:UInt8).toNat:Nat):Int) 32=true from rfl,G8];rw[fF o5];refine V5 h ?_;rfl
abbrev Y3:Type:=Int×d2g×Int
def vI(k:Y3)(w r:d2g):Prop:=uj (w++r)=some ((k.1,k.2.1,k.2.2,0),((w.length:Nat):Int),0)
variable {c:UInt8}
theorem a9j(h:FI c=true):97<=c.toNat/\c.toNat<=122:=by unfold FI at h;simp at h;omega
theorem LJ(h:vM c=true):48<=c.toNat/\c.toNat<=57:=by unfold vM at h;simp at h;omega
theorem a8c(h0:∃c t,w=c::t/\FI c=true)(hw:∀c∈w,uz c=true)(h16:w.length<=16)(hr:HdN uz r)(hl:(w++r).length<=1000000):vI (1,w,0) w r:=by obtain⟨c,t,rfl,hc⟩:=h0;have hb:=a9j hc;unfold vI uj;rw[show sat (c::t++r) 0=some (c.toNat:Int)from rfl,o9,O5 o5,o6,FK,hc,o9,o7];unfold Fv;rw[a3Y hl,o9,Ky hw hr,X5 o5,o6,Bg o5 F9,o9,o9];rw[J7,aI]
theorem a2n(hc:c=40\/c=41\/c=44\/c=58\/c=43\/c=45\/c=42)(r:d2g):vI (7,[c],0) [c] r:=by
 unfold vI;have hs:gm ([c]++r) 0 1=some [c]:=by rw[Bg o5 F9];rfl
 rcases hc with rfl|rfl|rfl|rfl|rfl|rfl|rfl
 all_goals
  unfold uj;generalize hx:gm _ 0 1=q at hs;subst hs;rfl
theorem XD(hc:c=60\/c=61\/c=33)(r:d2g)(hl:r.length<=1000000):vI (7,[c,61],0) [c,61] r:=by
 unfold vI;have h1:gm ([c,61]++r) 1 (x8 ([c,61]++r))=some (61::r):=by rw[pK o5 F9];rfl
 have h2:gm ([c,61]++r) 0 2=some [c,61]:=by rw[Bg o5 F9];rfl
 have h3:bI (61::r) [61]=some true:=by unfold bI kT Lib.hasPrefix;simp[List.isPrefixOf]
 rcases hc with rfl|rfl|rfl
 all_goals
  unfold uj;rw[h1,h2];simp only[o9,h3];rfl
theorem b4W(r:d2g)(hl:r.length<=1000000)(hr:HdN (λc=>decide (c=61)) r):vI (7,[60],0) [60] r:=by
 unfold vI;have h1:gm ([60]++r) 1 (x8 ([60]++r))=some r:=by rw[pK o5 F9];rfl
 have h2:gm ([60]++r) 0 1=some [60]:=by rw[Bg o5 F9];rfl
 have h3:bI r [61]=some false:=by
  unfold bI kT Lib.hasPrefix;cases r with
  |nil=>rfl
  |cons c t=>have:=hr c t rfl;simp only[decide_eq_false_iff_not]at this;simp[List.isPrefixOf];exact λh=>this h.symm
 unfold uj;rw[h1,h2];simp only[o9,h3];rfl
def oI(v:Nat)(l:d2g):Nat:=l.foldl (λa c=>10*a+(c.toNat -48)) v
theorem RU:∀(l:d2g) (v:Nat),v<=oI v l
 |[],v=>G5 _|c::l,v=>by have:=RU l (10*v+(c.toNat -48));unfold oI at this ⊢;rw[dK];omega
theorem DI(a b:d2g)(v:Nat):oI v (a++b)=oI (oI v a) b:=by unfold oI;rw[List.foldl_append]
theorem DJ(u:Nat):oI 0 (Lib.decDigits u)=u:=by
 induction u using Nat.strongRecOn with
 |_ u ih=>
  rw[Lib.decDigits];by_cases h:u<10
  .rw[dif_pos h];show 10*0+((UInt8.ofNat (48+u)).toNat -48)=u;simp;omega
  .rw[dif_neg h,DI,ih (u / 10) o5];unfold oI;simp;omega
theorem ZZ(u:Nat):∀c r,Lib.decDigits u=c::r->10<=u->c≠48:=by
 induction u using Nat.strongRecOn with
 |_ u ih=>
  intro c r e h;rw[Lib.decDigits,dif_neg o5]at e;by_cases h2:u / 10<10
  .rw[Lib.decDigits,dif_pos h2]at e;simp only[I7,G9,G7]at e;rw[←e.1];intro e3;have:=congrArg UInt8.toNat e3;simp at this;omega
  .cases hd:Lib.decDigits (u / 10)with
   |nil=>have:=(Lib.decDigits_length (u / 10)).symm.trans (congrArg List.length hd);have:=Lib.nDigits_pos (u / 10);simp_all|cons c' r' =>rw[hd]at e;simp only[I7,G7]at e;rw[←e.1];exact ih (u / 10) o5 c' r' hd o5
def Dg(l:d2g):Prop:=∀c∈l,vM c=true
theorem Cc(u:Nat):Dg (Lib.decDigits u):=λc hc=>by have:=LH hc;unfold vM;simp;omega
theorem EL(h:s[i]? =some c)(hc:c.toNat<128):vF s (i:Int)=(c.toNat:Int)/\zi s (i:Int)=((i+1:Nat):Int):=by
 have hlt:=(aV.1 h).1;have hg:(ByteArray.mk s.toArray).get! i=c:=by
  unfold ByteArray.get!;have:(s.toArray)[i]! =c:=by simp[h]
  exact this
 have hd:Utf8.decode ⟨s.toArray⟩ i=(c.toNat,1):=by unfold Utf8.decode;simp only[bH,hg];rw[if_pos o5]
 unfold vF zi;rw[J7,hd];refine⟨rfl,A7⟩
def npF(p:Int)(x:Int×Bool×d2g×Int):Option (Out (Int×Bool×d2g×Int) (Int×Bool) (Int×Int)):=
        l7 (H5 x.2.2.2 (x8 x.2.2.1))
         (l7 (x9 x.2.2.2 p)
          (l7 (G6 (x9 (vF x.2.2.1 x.2.2.2) 46)) (some (Out.rt (0,2)))
           (some (Out.nx (x.1,x.2.1,x.2.2.1,zi x.2.2.1 x.2.2.2))))
          (l9 (wG (vF x.2.2.1 x.2.2.2)) λ(x_3:Bool)=>
           l7 (G6 x_3) (some (Out.rt (0,2)))
            (l7 x.2.1 (some (Out.nx (x.1,true,x.2.2.1,zi x.2.2.1 x.2.2.2)))
             (l7 (H5 461168601842738790 x.1)
              (some (Out.nx (x.1,true,x.2.2.1,zi x.2.2.1 x.2.2.2)))
              (some
               (Out.nx
                (E9 IntKind.i64 (nN IntKind.i64 x.1 10)
                  (wrap IntKind.i64 (N7 IntKind.i32 (vF x.2.2.1 x.2.2.2) 48)),
                 H5 4611686018427387904
                  (E9 IntKind.i64 (nN IntKind.i64 x.1 10)
                   (wrap IntKind.i64 (N7 IntKind.i32 (vF x.2.2.1 x.2.2.2) 48))),
                 x.2.2.1,zi x.2.2.1 x.2.2.2)))))))
         (some (Out.ex (x.1,x.2.1)))
theorem CJ{s:d2g}{p:Nat} :∀(g pre suf:d2g) (v m:Nat),s=pre++g++suf->Dg g->(p<pre.length\/pre.length+g.length<=p)->oI v g<=100000000000000000->
  iy (npF (p:Int)) (m+g.length) ((v:Int),false,s,(pre.length:Int))=iy (npF (p:Int)) m ((oI v g:Int),false,s,((pre.length+g.length:Nat):Int))
 |[],pre,suf,v,m,h,hg,hp,hv=>rfl|c::g,pre,suf,v,m,h,hg,hp,hv=>by
  have hc:s[pre.length]? =some c:=by rw[h,E5,F8 (G5 _),aN];rfl
  have hd:=hg c A7;have hb:=LJ hd;obtain⟨r1,r2⟩:=EL hc o5;have hv1:=RU g (10*v+(c.toNat -48));rw[show oI v (c::g)=oI (10*v+(c.toNat -48)) g from rfl]at hv;have hw:wrap .i64 (N7 .i32 (c.toNat:Int) 48)=((c.toNat -48:Nat):Int):=by
   have h1:N7 .i32 (c.toNat:Int) 48=((c.toNat -48:Nat):Int):=by unfold N7 IntKind.wrap;simp[IntKind.signed,IntKind.bits];omega
   rw[h1];exact BI bn
  have hnd:wG (c.toNat:Int)=some true:=by unfold wG;rw[Z9 o5,Z9 o5];rfl
  have st:npF (p:Int) ((v:Int),false,s,(pre.length:Int))=some (.nx (((10*v+(c.toNat -48):Nat):Int),false,s,((pre.length+1:Nat):Int))):=by unfold npF;simp only[X9 hc,o7,r1,r2,hnd,o9,G8,o6,hw];rw[O5 (by simp at hp;omega),o6,X5 o5,o6,LX bn,dP bn,X5 o5];congr 3;omega
  rw[D5,show m+(g.length+1)=(m+g.length)+1 by omega,dM,st];have:=CJ (s:=s) (p:=p) g (pre++[c]) suf (10*v+(c.toNat -48)) m (by rw[h];simp) (λd hd=>hg d (by simp[hd])) (by simp at hp ⊢;omega) hv;rw[show(pre++[c]).length=pre.length+1 by simp]at this;rw[show pre.length+(g.length+1)=pre.length+1+g.length by omega];exact this
theorem b5z{b:UInt8}(h:HdN (λc=>decide (c=b)) w):pU w [b]=some (w,false):=by
 unfold pU pG kT Lib.hasPrefix;cases w with
 |nil=>rfl|cons c t=>
  have:=h c t rfl;simp only[decide_eq_false_iff_not]at this;have e:[b].isPrefixOf (c::t)=false:=by simp[List.isPrefixOf];exact λh=>this h.symm
  rw[e];rfl
variable {d:d2g}
theorem b5B{b:UInt8}(hd:Dg d)(h:d≠[])(hb:vM b=false):HdN (λc=>decide (c=b)) (d++r):=by
 cases d with
 |nil=>exact absurd rfl h|cons c t=>intro x y e;simp only[I7,G7]at e;have:=hd c A7;rw[decide_eq_false_iff_not];intro hx;rw[←hx,←e.1,this]at hb;cases hb
def NoZ(d:d2g):Prop:=1<d.length->∀c t,d=c::t->c≠48
theorem PS{α:Type}(hz:NoZ d)(h:d≠[])(a b:α):(l7 (H5 1 (d.length:Int)) (l9 (sat (d++r) 0) λ(x:Int)=>l7 (x9 x 48) (some a) (some b)) (some b))=some b:=by
 by_cases h1:1<d.length
 .cases d with
  |nil=>exact absurd rfl h|cons c t=>have:=hz h1 c t rfl;rw[bT o5,o7,show sat (c::t++r) 0=some (c.toNat:Int)from rfl,o9];rw[show x9 (c.toNat:Int) 48=false from(Ql c 48 o5).trans (decide_eq_false this)];rfl
 .rw[X5 o5];rfl
theorem G_{p:Int}{v:Int}(m:Nat):iy (npF p) (m+1) (v,false,s,(s.length:Int))=some (.inl (v,false)):=by rw[dM];unfold npF;simp only[af s,o6]
theorem a9M(hd:Dg d)(h1:d≠[])(hz:NoZ d)(hv:oI 0 d<=100000000000000000)(hl:d.length<=1000):kX d 0=some ((oI 0 d:Int),0):=by
 have hne:1<=d.length:=by cases d with|nil=>exact absurd rfl h1|cons c t=>simp
 have hc:=b5B (r:=[]) hd h1 (show vM 45=false by decide);rw[F6]at hc;unfold kX;rw[b5z hc,o9];simp only[X5 (show(0:Int)<=0 by omega),o6,o9];rw[show x8 d=(d.length:Int)from rfl,X5 o5,o6];have hz2:=PS (r:=[]) hz h1 (Sum.inr (0,2):PUnit⊕(Int×Int)) (Sum.inl PUnit.unit);rw[F6]at hz2;refine V5 hz2 ?_;rw[o9,X8];have lp:O6 (npF (d.length:Int)) (0,false,d,0)=some (.inl ((oI 0 d:Int),false)):=by unfold O6;rw[show aH=(aH -1 -d.length)+1+d.length by unfold aH;omega];have:=CJ (s:=d) (p:=d.length) d [] [] 0 (aH -1 -d.length+1) A7 hd (.inr A7) hv;rw[show(([]:d2g).length:Int)=0 from rfl,show((0:Nat):Int)=0 from rfl]at this;rw[this];have:=G_ (s:=d) (p:=(d.length:Int)) (v:=(oI 0 d:Int)) (aH -1 -d.length);rw[show(([]:d2g).length+d.length)=d.length by simp];exact this
 refine V5 lp ?_;rfl
theorem a4g{d f:d2g}(hd:Dg d)(hf:Dg f)(h1:d≠[])(hz:NoZ d)(hk:1<=f.length)(hv:oI 0 (d++f)<=100000000000000000)(hl:d.length+f.length<=1000):kX (d++46::f) (f.length:Int)=some ((oI 0 (d++f):Int),0):=by
 have hne:1<=d.length:=by cases d with|nil=>exact absurd rfl h1|cons c t=>simp
 have hc:=b5B (r:=46::f) hd h1 (show vM 45=false by decide);unfold kX;rw[b5z hc,o9];have hp:(l7 (H5 0 (f.length:Int)) (some (N7 IntKind.i64 (x8 (d++46::f)) (E9 IntKind.i64 (f.length:Int) 1))) (some (x8 (d++46::f))))=some (d.length:Int):=by rw[bT o5,o7,dP bn,di (by unfold jg x8;simp;omega)];congr 1;unfold x8;simp<;>omega
 refine V5 hp ?_;rw[o9,X5 o5,o6];refine V5 (PS hz h1 (Sum.inr (0,2):PUnit⊕(Int×Int)) (Sum.inl PUnit.unit)) ?_;rw[o9,X8];have hv1:oI 0 d<=oI 0 (d++f):=by rw[DI];exact RU _ _
 have lp:O6 (npF (d.length:Int)) (0,false,d++46::f,0)=some (.inl ((oI 0 (d++f):Int),false)):=by
  unfold O6;rw[show aH=(aH -2 -d.length -f.length)+1+f.length+1+d.length by unfold aH;omega];have a1:=CJ (s:=d++46::f) (p:=d.length) d [] (46::f) 0 (aH -2 -d.length -f.length+1+f.length+1) A7 hd (.inr A7) o5;rw[show(([]:d2g).length:Int)=0 from rfl,show((0:Nat):Int)=0 from rfl,show(([]:d2g).length+d.length)=d.length by simp]at a1;rw[a1,dM];have h46:(d++46::f)[d.length]? =some 46:=by rw[F8 (G5 _),aN];rfl
  obtain⟨r1,r2⟩:=EL h46 D9;have st:npF (d.length:Int) ((oI 0 d:Int),false,d++46::f,(d.length:Int))=some (.nx ((oI 0 d:Int),false,d++46::f,((d.length+1:Nat):Int))):=by unfold npF;simp only[X9 h46,o7,r1,r2,O9 (rfl:(d.length:Int)=(d.length:Int))];rfl
  rw[st];have a2:=CJ (s:=d++46::f) (p:=d.length) f (d++[46]) [] (oI 0 d) (aH -2 -d.length -f.length+1) A7 hf (.inl A7) (by rw[←DI];exact hv);rw[←DI]at a2;simp only[C9,aW]at a2;simp only;rw[a2];have:=G_ (s:=d++46::f) (p:=(d.length:Int)) (v:=(oI 0 (d++f):Int)) (aH -2 -d.length -f.length);rw[show(d++46::f).length=d.length+1+f.length by simp;omega]at this;exact this
 refine V5 lp ?_;rfl
def Wj(c:UInt8):Bool:=FI c || (decide (65<=c.toNat)&&decide (c.toNat<=90)) || vM c || decide (c=95) || decide (c=46)
theorem Xb(hd:Dg d)(hr:HdN vM r)(hr2:HdN (λc=>decide (c=45)) r)(hl:(d++r).length<=1000000):qY (d++r)=some false:=by
 unfold qY;have e0:=qR hl 0 o5;rw[bJ,Ky hd hr]at e0;rw[show((0:Nat):Int)=0 from rfl]at e0;rw[e0,o9];by_cases h4:d.length=4
 .rw[O9 o5,o7];have e5:=qR hl 5 o5;have e8:=qR hl 8 o5;rw[show((5:Nat):Int)=5 from rfl]at e5;rw[show((8:Nat):Int)=8 from rfl]at e8;rw[e5,o9];cases x9 ((((d++r).drop 5).takeWhile vM).length:Int) 2
  .rfl
  rw[o7,e8,o9];by_cases h8:2<=(((d++r).drop 8).takeWhile vM).length
  .rw[Z9 o5,o7];have hlen:=(List.takeWhile_sublist vM (l:=(d++r).drop 8)).length_le;rw[ji,C9]at hlen;cases r with
   |nil=>simp only[I8]at hlen;omega|cons c t=>
    have h4b:sat (d++c::t) 4=some (c.toNat:Int):=by rw[show(4:Int)=((4:Nat):Int)from rfl,vX,F8 o5,h4];rfl
    have:=hr2 c t rfl;rw[h4b,o9,show x9 (c.toNat:Int) 45=false from(Ql c 45 o5).trans this];rfl
  .rw[dO o5];rfl
 .rw[O5 o5];rfl
theorem Vo{k n:Int}(hr:HdN Wj r)(hl:(w++r).length<=1000000)(hn:kw k w=some (n,0)):
  (l9
    (l7 (H5 (w.length:Int) (x8 (w++r)))
     (l9 (sat (w++r) (w.length:Int)) λ(x_1:Int)=>
      l9 (lU x_1) λ(x_2:Bool)=>
       l7 x_2 (some (Sum.inr ((0,[],0,0),0,2)))
        (l7 (P7 65 x_1)
         (l7 (P7 x_1 90) (some (Sum.inr ((0,[],0,0),0,2)))
          (l9 (jc x_1) λ(x_3:Bool)=>
           l7 x_3 (some (Sum.inr ((0,[],0,0),0,2)))
            (l7 (x9 x_1 95) (some (Sum.inr ((0,[],0,0),0,2)))
             (l7 (x9 x_1 46) (some (Sum.inr ((0,[],0,0),0,2))) (some (Sum.inl (0,[],0,0)))))))
         (l9 (jc x_1) λ(x_3:Bool)=>
          l7 x_3 (some (Sum.inr ((0,[],0,0),0,2)))
           (l7 (x9 x_1 95) (some (Sum.inr ((0,[],0,0),0,2)))
            (l7 (x9 x_1 46) (some (Sum.inr ((0,[],0,0),0,2))) (some (Sum.inl (0,[],0,0))))))))
     (some (Sum.inl (0,[],0,0))))
    λ(o:dw⊕dw×rf)=>
    U1 o
     (λ(x_1:dw)=>
      l9 (gm (w++r) 0 (w.length:Int)) λ(x_2:d2g)=>
       l9 (kw k x_2) λ(x_3:rf)=>
        l7 (G6 (x9 x_3.2 0)) (some ((0,[],0,0),0,3))
         (l9 (gm (w++r) 0 (w.length:Int)) λ(x_4:d2g)=>some ((k,x_4,x_3.1,0),(w.length:Int),0)))
     λ(r:dw×rf)=>some r)=some ((k,w,n,0),(w.length:Int),0):=by
 have hs:gm (w++r) 0 (w.length:Int)=some w:=by rw[Bg o5 F9,J7,aI]
 have fin:(λ(o:dw⊕dw×rf)=>
    U1 o
     (λ(x_1:dw)=>
      l9 (gm (w++r) 0 (w.length:Int)) λ(x_2:d2g)=>
       l9 (kw k x_2) λ(x_3:rf)=>
        l7 (G6 (x9 x_3.2 0)) (some ((0,[],0,0),0,3))
         (l9 (gm (w++r) 0 (w.length:Int)) λ(x_4:d2g)=>some ((k,x_4,x_3.1,0),(w.length:Int),0)))
     λ(r:dw×rf)=>some r) (Sum.inl (0,[],0,0))=(some ((k,w,n,0),(w.length:Int),0):Option (dw×rf)):=by
  simp only[X8];rw[hs,o9,hn,o9];rfl
 cases r with
 |nil=>rw[F6]at fin ⊢;rw[show x8 w=(w.length:Int)from rfl,X5 o5,o6,o9];exact fin|cons c t=>
  have hb:sat (w++c::t) (w.length:Int)=some (c.toNat:Int):=by rw[vX,F8 (G5 _),aN];rfl
  have he:=hr c t rfl;unfold Wj at he;simp only[cu]at he;obtain⟨⟨⟨⟨e1,e2⟩,e3⟩,e4⟩,e5⟩:=he;rw[show H5 (w.length:Int) (x8 (w++c::t))=true from bT (by unfold x8;simp;omega),o7,hb,o9,FK,e1,o9,o6,IK,e3];rw[show x9 (c.toNat:Int) 95=false from(Ql c 95 o5).trans e4,show x9 (c.toNat:Int) 46=false from(Ql c 46 o5).trans e5];simp only[o9,o6];by_cases h65:65<=c.toNat
  .have:¬c.toNat<=90:=by
    intro h;rw[Bool.and_eq_false_iff]at e2;simp at e2;omega
   rw[Z9 o5,o7,dO o5,o6];simp only[o9];exact fin
  .rw[dO o5,o6];simp only[o9];exact fin
end Go.GP
