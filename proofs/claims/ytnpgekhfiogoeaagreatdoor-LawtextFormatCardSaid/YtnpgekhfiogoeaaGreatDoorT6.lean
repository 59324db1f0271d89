import Derived.Test.YtnpgekhfiogoeaaGreatDoorT5
import Derived.Test.YtnpgekhfiogoeaaGreatDoorT2
import Derived.Test.YtnpgekhfiogoeaaGreatDoorT3
import Derived.Lib.ItoaLen
set_option linter.all false
namespace Go.GP
variable {a:Int}{b:Int}{n:Int}
section
variable {α β σ ε ρ:Type}
@[simp] theorem o9 (x:α) (f:α->Option β):l9 (some x) f=f x:=rfl
@[simp] theorem a7w (f:α->Option β):l9 none f=none:=rfl
theorem Qm{o:Option α}{x:α}(h:o=some x)(f:α->Option β):l9 o f=f x:=by rw[h];rfl
theorem X8{o o' :Option α}(h:o=o'){K:α->Option β}{r:Option β}(h2:l9 o' K=r):l9 o K=r:=by rw[h];exact h2
theorem bb(a b:Bool):l7 a (some b) (some false)=some (a&&b):=by cases a<;>rfl
theorem wY(o:Option α):l9 o (λx=>some x)=o:=by cases o<;>rfl
@[simp] theorem o7 (x y:α):l7 true x y=x:=rfl
@[simp] theorem o6 (x y:α):l7 false x y=y:=rfl
theorem rO(b:Bool)(x y:α):l7 b x y=if b=true then x else y:=by cases b<;>rfl
theorem kN{b:Bool}(h:b=true)(x y:α):l7 b x y=x:=by rw[h];rfl
theorem lq{b:Bool}(h:b=false)(x y:α):l7 b x y=y:=by rw[h];rfl
@[simp] theorem aj (s:σ) (f:σ->α) (g:ε->α):Z4 (.inl s) f g=f s:=rfl
@[simp] theorem lV (s:ε) (f:σ->α) (g:ε->α):Z4 (.inr s) f g=g s:=rfl
@[simp] theorem O7:G5 true=false:=rfl
@[simp] theorem ae:G5 false=true:=rfl
theorem fJ(h:a<b):H9 a b=true:=by simp[H9,h]
theorem dV(h:b<=a):H9 a b=false:=by simp[H9];omega
theorem bT(h:a<=b):U3 a b=true:=by simp[U3,h]
theorem eQ(h:b<a):U3 a b=false:=by simp[U3];omega
theorem bH(h:a=b):C9 a b=true:=by simp[C9,h]
theorem U8(h:a≠b):C9 a b=false:=by simp[C9,h]
theorem zA :H9 a b=true↔a<b:=by simp[H9]
theorem uN :U3 a b=true↔a<=b:=by simp[U3]
theorem jC :C9 a b=true↔a=b:=by simp[C9]
theorem nz :H9 a b=false↔b<=a:=by simp[H9]
theorem IX :U3 a b=false↔b<a:=by simp[U3]
theorem wI :C9 a b=false↔a≠b:=by simp[C9]
theorem Vh{a b:List UInt8} :seq a b=true↔a=b:=by simp[seq]
theorem oL(h:0<=a):a.tdiv b=a / b:=Int.tdiv_eq_ediv_of_nonneg h
theorem FI(h:0<=a):pO a b=a % b:=Int.tmod_eq_emod_of_nonneg h
def b7W(n:Int):Prop:=-9223372036854775808<=n/\n<=9223372036854775807
theorem jP{p:Int}(h:b7W p:=by unfold b7W;omega):b7W p:=h
def U64(n:Int):Prop:=0<=n/\n<=18446744073709551615
theorem AZ(h:b7W n):IntKind.wrap .i64 n=n:=by unfold b7W at h;unfold IntKind.wrap;simp[IntKind.signed,IntKind.bits];omega
theorem KP(h:U64 n):IntKind.wrap .u64 n=n:=by unfold U64 at h;unfold IntKind.wrap;simp[IntKind.signed,IntKind.bits];omega
theorem kV(h:b7W (a+b)):F9 .i64 a b=a+b:=AZ h
theorem jY(h:b7W (a -b)):O5 .i64 a b=a -b:=AZ h
theorem a2c(h:b7W (a*b)):RZ .i64 a b=a*b:=AZ h
theorem JG(h:b7W (a.tdiv b)):jb .i64 a b=a.tdiv b:=AZ h
theorem Wn(h:U64 (a+b)):F9 .u64 a b=a+b:=KP h
theorem a2e(h:U64 (a.tdiv b)):jb .u64 a b=a.tdiv b:=KP h
theorem Rz(h:(Lit.int .i64 n).wf=true):b7W n:=by simp[Lit.wf,IntKind.min,IntKind.max,IntKind.signed,IntKind.bits]at h;unfold b7W;omega
theorem Nq(l:List α):0<=o8 l:=by simp[o8]
theorem J3(l:List α)(i:Nat):J9 l (i:Int)=l[i]?:=by simp[J9]
theorem pV{l:List α}{i:Int}{x:α}(h:J9 l i=some x):0<=i/\i<o8 l/\x∈l/\l[i.toNat]? =some x:=by
 unfold J9 at h;split at h
 .rename_i h0;obtain⟨h1,h2⟩:=aC.1 h;refine⟨h0,by simp[o8];omega,?_,h⟩;rw[←h2];exact N7 h1
 .cases h
theorem uu{l:List α}{i:Int}(h0:0<=i)(h:i<o8 l):∃x,J9 l i=some x/\x∈l:=by
 unfold o8 at h;refine⟨l[i.toNat]'o5,?_,N7 _⟩;unfold J9
 rw[if_pos h0,lM]
theorem Vf(l:List UInt8)(i:Nat):sat l (i:Int)=(l[i]?).map λc=>(c.toNat:Int):=by simp[sat]
theorem L6{a b:List UInt8}(h:a.length+b.length<=4611686018427387904):P5 a b=some (a++b):=by simp[P5,h]
theorem uP{a b:List α}(h:a.length+b.length<=1073741824):bF a b=some (a++b):=by simp[bF,h]
theorem w_{l:List α}{lo hi:Int}(h0:0<=lo)(h1:lo<=hi)(h2:hi<=l.length):ik l lo hi=some ((l.take hi.toNat).drop lo.toNat):=by simp[ik,h0,h1,h2]
theorem x_{l:List α}{hi:Int}(h1:0<=hi)(h2:hi<=l.length):ik l 0 hi=some (l.take hi.toNat):=by rw[w_ o5 h1 h2];simp
theorem LC{l:List α}{lo:Int}(h1:0<=lo)(h2:lo<=l.length):ik l lo (o8 l)=some (l.drop lo.toNat):=by rw[w_ h1 (by simp[o8];omega) (by simp[o8])];simp[o8]
end
section
variable {σ ε ρ:Type}
theorem Nr{f:σ->Option (σ⊕ε)}(Inv:σ->Prop)(Q:ε->Prop)(meas:σ->Nat)
  (h:∀s,Inv s->(∃s',f s=some (.inl s')/\Inv s' /\meas s' <meas s)\/(∃e,f s=some (.inr e)/\Q e)):
  ∀n s,Inv s->meas s<n->∃e,Eh f n s=some e/\Q e
 |0,_,_,h=>by omega|n+1,s,hi,hm=>by
  unfold Eh;rcases h s hi with⟨s',e,hi',hm'⟩|⟨x,e,hx⟩
  .rw[e];exact Nr Inv Q meas h n s' hi' o5
  .rw[e];exact⟨x,rfl,hx⟩
theorem oP{f:σ->Option (σ⊕ε)}{s:σ}(Inv:σ->Prop)(Q:ε->Prop)(meas:σ->Nat)(hi:Inv s)(hm:meas s<18446744073709551616)
  (h:∀s,Inv s->(∃s',f s=some (.inl s')/\Inv s' /\meas s' <meas s)\/(∃e,f s=some (.inr e)/\Q e)):∃e,aS f s=some e/\Q e:=
 Nr Inv Q meas h _ s hi hm
theorem PX{f:σ->Option (Out σ ε ρ)}(Inv:σ->Prop)(Q:ε->Prop)(Qr:ρ->Prop)(meas:σ->Nat)
  (h:∀s,Inv s->(∃s',f s=some (.nx s')/\Inv s' /\meas s' <meas s)\/(∃e,f s=some (.ex e)/\Q e)\/(∃r,f s=some (.rt r)/\Qr r)):
  ∀n s,Inv s->meas s<n->(∃e,jG f n s=some (.inl e)/\Q e)\/(∃r,jG f n s=some (.inr r)/\Qr r)
 |0,_,_,h=>by omega|n+1,s,hi,hm=>by
  unfold jG;rcases h s hi with⟨s',e,hi',hm'⟩|⟨x,e,hx⟩|⟨x,e,hx⟩
  .rw[e];exact PX Inv Q Qr meas h n s' hi' o5
  .rw[e];exact .inl ⟨x,rfl,hx⟩
  .rw[e];exact .inr ⟨x,rfl,hx⟩
theorem xW{f:σ->Option (Out σ ε ρ)}{s:σ}(Inv:σ->Prop)(Q:ε->Prop)(Qr:ρ->Prop)(meas:σ->Nat)(hi:Inv s)(hm:meas s<18446744073709551616)
  (h:∀s,Inv s->(∃s',f s=some (.nx s')/\Inv s' /\meas s' <meas s)\/(∃e,f s=some (.ex e)/\Q e)\/(∃r,f s=some (.rt r)/\Qr r)):
  (∃e,U7 f s=some (.inl e)/\Q e)\/(∃r,U7 f s=some (.inr r)/\Qr r):=
 PX Inv Q Qr meas h _ s hi hm
end
section
variable {α β ε ρ:Type}
open Classical in
theorem zS(l:List α)(p:Nat->α->Bool)(r:ρ)(e:ε)(f:Int->Option (Out Int ε ρ))(hl:l.length<18446744073709551616)
  (hin:∀(i:Nat) (a:α),l[i]? =some a->f (i:Int)=if p i a=true then some (.nx ((i+1:Nat):Int))else some (.rt r))
  (hend:f (l.length:Int)=some (.ex e)):
  U7 f 0=if(∀i a,l[i]? =some a->p i a=true)then some (.inl e)else some (.inr r):=by
 have key:∀(n i:Nat),i<=l.length->l.length -i<n->(∀j a,j<i->l[j]? =some a->p j a=true)->jG f n (i:Int)=if(∀i a,l[i]? =some a->p i a=true)then some (.inl e)else some (.inr r):=by
  intro n;induction n with
  |zero=>intro i _ h;omega|succ n ih=>
   intro i hi hn hp;unfold jG;by_cases h:i<l.length
   .have e' :=lM h;rw[hin i _ e'];by_cases hpi:p i l[i]=true
    .rw[if_pos hpi];exact ih (i+1) o5 o5 λj a hj ha=>by
      by_cases hji:j=i
      .subst hji;rw[e']at ha;cases ha;exact hpi
      .exact hp j a o5 ha
    .rw[if_neg hpi,if_neg];intro hall;exact hpi (hall i _ e')
   .have:i=l.length:=o5;subst this;rw[hend,if_pos];intro j a ha;exact hp j a (aC.1 ha).1 ha
 exact key _ 0 (eP _) hl λj a hj=>by omega
end
end Go.GP
namespace Go.GP
section
variable {α β α' β' σ τ ε ε' ρ ρ' :Type}
theorem BF{p:Nat->Option ρ}(n:Nat)(hn:n<18446744073709551616)(e:ε){f:Int->Option (Out Int ε ρ)}
  (h1:∀i,i<n->f (i:Int)=some (match p i with|some r=> .rt r|none=> .nx ((i+1:Nat):Int))) (h2:f (n:Int)=some (.ex e)):
  U7 f 0=some (match(List.range n).findSome? p with|some r=> .inr r|none=> .inl e):=by
 have key:∀m i,i+m=n->∀k,m<k->jG f k (i:Int)=some (match(List.range' i m).findSome? p with|some r=> .inr r|none=> .inl e):=by
  intro m;induction m with
  |zero=>intro i hi k hk;obtain⟨k,rfl⟩:∃k',k=k' +1:=⟨k -1,o5⟩;have:i=n:=o5;subst this;unfold jG;rw[h2];rfl
  |succ m ih=>
   intro i hi k hk;obtain⟨k,rfl⟩:∃k',k=k' +1:=⟨k -1,o5⟩;unfold jG;rw[h1 i o5,kw,List.findSome?_cons];cases hp:p i with
   |some r=>rfl|none=>exact ih (i+1) o5 k o5
 have:=key n 0 o5 jq hn;rw[List.range_eq_range'];exact this
end
end Go.GP
namespace Go.GP
open Gt
set_option maxRecDepth 100000
variable {i:Nat}
theorem bY(h:i<=9000000000000000000):F9 .i64 (i:Int) 1=((i+1:Nat):Int):=by rw[kV jP];omega
def Lu(c:UInt8):Bool:=decide (97<=c.toNat)&&decide (c.toNat<=122)
def xE(c:UInt8):Bool:=Lu c || (decide (48<=c.toNat)&&decide (c.toNat<=57)) || decide (c.toNat=95)
def EY:List (List UInt8):=qh.getD []
theorem a5K:qh=some EY:=by kernel_rfl
def vC(s:List UInt8):Bool:=match s with|[]=>false|c::r=>decide (s.length<=16)&&Lu c&&s.all xE&&!(EY.any λw=>seq s w)
theorem Tn(c:UInt8)(r:List UInt8):vC (c::r)=(decide ((c::r).length<=16)&&Lu c&&(c::r).all xE&&!(EY.any λw=>seq (c::r) w)):=rfl
theorem Qa(c:UInt8):mP (c.toNat:Int)=some (Lu c):=by
 unfold mP Lu;cases h:decide (97<=c.toNat)<;>simp only[decide_eq_true_eq,decide_eq_false_iff_not]at h
 .rw[eQ o5];rfl
 .rw[bT o5];simp only[o7,kE,U3];congr 1;by_cases h2:c.toNat<=122<;>simp[h2]<;>omega
theorem TS(c:UInt8):BI (c.toNat:Int)=some (Lu c):=Qa c
def VU(c:UInt8):Bool:=decide (48<=c.toNat)&&decide (c.toNat<=57)
theorem VV(c:UInt8):kR (c.toNat:Int)=some (VU c):=by
 unfold kR VU;cases h:decide (48<=c.toNat)<;>simp only[decide_eq_true_eq,decide_eq_false_iff_not]at h
 .rw[eQ o5];rfl
 .rw[bT o5];simp only[o7,kE,U3];congr 1;by_cases h2:c.toNat<=57<;>simp[h2]<;>omega
theorem a1a(c:UInt8):FZ (c.toNat:Int)=some (VU c):=VV c
theorem a6C(c:UInt8):C9 (c.toNat:Int) 95=decide (c.toNat=95):=by unfold C9;by_cases h:c.toNat=95<;>simp[h]<;>omega
theorem a6s(c:UInt8):Et (c.toNat:Int)=some (xE c):=by unfold Et;rw[TS,o9,a1a,a6C];unfold xE;change _=some (Lu c || VU c || decide (c.toNat=95));cases Lu c<;>cases VU c<;>rfl
variable {s:List UInt8}
theorem Sl(h:s.length<=1000000):∃k,qc s=some k/\(k=o8 s↔s.all xE=true):=by
 unfold qc;have:=oP (f:=λ(x:Int)=>l7 (H9 x (o8 s)) (l9 (sat s x) λx_1=>l9 (mP x_1) λx_2=>l7 x_2 (some (Sum.inl (F9 IntKind.i64 x 1)))
   (l9 (sat s x) λx_3=>l9 (kR x_3) λx_4=>l7 x_4 (some (Sum.inl (F9 IntKind.i64 x 1))) (l9 (sat s x) λx_5=>l7 (C9 x_5 95) (some (Sum.inl (F9 IntKind.i64 x 1))) (some (Sum.inr x))))) (some (Sum.inr x)))
  (s:=0) (λx=>∃i:Nat,x=i/\i<=s.length/\(s.take i).all xE=true) (λk=>k=o8 s↔s.all xE=true) (λx=>s.length -x.toNat) ⟨0,rfl,o5,rfl⟩ H7 ?_
 .obtain⟨k,h1,h2⟩:=this;refine⟨k,?_,h2⟩;rw[wY];exact h1
 .rintro x ⟨i,rfl,hi,hall⟩;by_cases hl:i<s.length
  .have e:=lM hl;simp only[fJ (show(i:Int)<o8 s by simp[o8];omega),o7,Vf,e,ai,o9,Qa,VV,a6C];have hst:(s.take (i+1)).all xE=((s.take i).all xE&&xE s[i]):=by rw[U2 hl,List.all_append];simp
   have hw:xE s[i]=(Lu s[i] || VU s[i] || decide (s[i].toNat=95)):=rfl;cases hwb:xE s[i]with
   |true=>left;refine⟨((i+1:Nat):Int),?_,⟨i+1,rfl,hl,by rw[hst,hall,hwb];rfl⟩,by simp;omega⟩;rw[bY o5];rw[hw]at hwb;cases h1:Lu s[i]<;>cases h2:VU s[i]<;>cases h3:decide (s[i].toNat=95)<;>rw[h1,h2,h3]at hwb<;>first|rfl|cases hwb
   |false=>
    right;refine⟨(i:Int),?_,?_⟩
    .rw[hw]at hwb;cases h1:Lu s[i]<;>cases h2:VU s[i]<;>cases h3:decide (s[i].toNat=95)<;>rw[h1,h2,h3]at hwb<;>first|rfl|cases hwb
    .constructor
     .intro h;simp[o8]at h;omega
     .intro h;have:=iR.1 h s[i] (N7 hl);rw[hwb]at this;cases this
  .right;have:i=s.length:=o5;subst this;rw[dA]at hall;exact⟨_,by rw[dV (by simp[o8])];rfl,by simp[o8,hall]⟩
theorem a1e{a:List UInt8}{w:List UInt8}{r:Option Bool}{x:Bool}(h:r=some x):l7 (seq a w) (some (seq a w)) r=some (seq a w || x):=by rw[h];cases seq a w<;>rfl
theorem Xb(s:List UInt8):wV s=some (EY.any λw=>seq s w):=by
 unfold wV;refine X8 (o' :=some (EY.any λw=>seq s w)) ?_ (by cases EY.any λw=>seq s w<;>rfl);have hr:EY=(qh).getD []:=rfl;rw[show(EY.any λw=>seq s w)=List.foldr (λw b=>seq s w || b) false EY from by induction EY with|nil=>rfl|cons w l ih=>simp[b7Y,ih]];unfold EY qh;simp only[aK,List.foldr]
 repeat (refine a1e ?_)
 simp
theorem nX(h:s.length<=1000000):dh s=some (vC s):=by
 unfold dh;cases s with
 |nil=>rfl|cons c r=>
  have h1:seq (c::r) []=false:=by simp[seq]
  obtain⟨k,h2,h3⟩:=Sl h;rw[h1];simp only[ae,o7];rw[show sat (c::r) 0=some (c.toNat:Int)from rfl,o9,Qa,o9,h2,o9,Xb,o9];have h4:C9 k (o8 (c::r))=(c::r).all xE:=by rw[ji,jC];exact h3
  have h5:U3 (o8 (c::r)) 16=decide ((c::r).length<=16):=by simp only[U3,o8];congr 1;simp;omega
  rw[h4,h5,Tn];cases Lu c<;>cases (c::r).all xE<;>cases decide ((c::r).length<=16)<;>rfl
theorem mV(h:s.length<=1000000):di s=some (vC s):=by
 unfold di;cases s with
 |nil=>rfl|cons c r=>
  have h0:C9 (o8 (c::r)) 0=false:=U8 (by simp[o8];omega);have h5:H9 16 (o8 (c::r))= !decide ((c::r).length<=16):=by simp only[H9,o8];rw[←decide_not];congr 1;simp;omega
  rw[h0,h5,show sat (c::r) 0=some (c.toNat:Int)from rfl,o9,TS,o9,Tn];generalize hs:c::r=s at*;cases hl:decide (s.length<=16)
  .rfl
  cases hc:Lu c
  .rfl
  simp only[kD,o6,O7,o9,aj,kE];refine X8 (zS s (λi a=>xE a) false PUnit.unit _ o5 (λi x hx=>?_) ?_) ?_
  rotate_left 2
  .have ha:(∀(i:Nat) (a:UInt8),s[i]? =some a->xE a=true)↔s.all xE=true:=by
    rw[iR];constructor
    .intro h x hx;obtain⟨i,hi,rfl⟩:=Y9 hx;exact h i _ (lM hi)
    .intro h i a hi;exact h a (oC hi)
   by_cases hw:s.all xE=true
   .rw[if_pos (ha.2 hw),o9,aj,a5K,o9,hw];refine X8 (zS EY (λi a=> !seq a s) false PUnit.unit _ (by decide+kernel) (λi x hx=>?_) ?_) ?_
    rotate_left 2
    .have hb:(∀(i:Nat) (a:List UInt8),EY[i]? =some a->(!seq a s)=true)↔(EY.any λw=>seq s w)=false:=by
      rw[iw];constructor
      .intro h x hx;obtain⟨i,hi,rfl⟩:=Y9 hx;have:=h i _ (lM hi);intro hq;rw[Vh.1 hq]at this;simp[seq]at this
      .intro h i a hi;have:=h a (oC hi);cases hq:seq a s
       .rfl
       .exact absurd (by rw[Vh.1 hq];simp[seq]) this
     by_cases hv:(EY.any λw=>seq s w)=false
     .rw[if_pos (hb.2 hv),hv];rfl
     .rw[if_neg (λh=>hv (hb.1 h))];simp only[lZ]at hv;rw[hv];rfl
    .have hi:=(aC.1 hx).1;simp only[fJ (show(i:Int)<o8 EY by simp[o8];omega),o7,J3,hx,o9];rw[show dM EY (aV (i:Int))=some x from by simp[dM,aV,hx],o9,bY (by
       have:EY.length<=100:=by decide+kernel
       omega)]
     cases seq x s<;>rfl
    .rw[dV (by simp[o8])];rfl
   .rw[if_neg (λh=>hw (ha.1 h))];simp only[xG]at hw;rw[hw];rfl
  .have hi:=(aC.1 hx).1;simp only[fJ (show(i:Int)<o8 s by simp[o8];omega),o7,Vf,hx,ai,o9,a6s];rw[bY o5];cases xE x<;>rfl
  .rw[dV (by simp[o8])];rfl
theorem qJ(t:Int×Int)(en:List Z5):aA t en=V9 t en:=by
 unfold aA V9;by_cases h1:t.1=1
 .simp[C9,h1,U3]
 by_cases h2:t.1=2
 .simp[C9,h2,U3]
 by_cases h3:t.1=3
 .simp[C9,h3,U3]
 by_cases h4:t.1=4
 .simp[C9,h4,U3]
 by_cases h5:t.1=5
 .simp[C9,h5,U3]
 by_cases h6:t.1=6
 .simp[C9,h6,U3]
 .simp only[C9,h1,h2,h3,h4,h5,h6,decide_false,o6,o9];by_cases h7:1<=t.1
  .rw[kN (bT h7),lq (eQ o5)]
  .rw[lq (eQ o5)]
theorem GX(t:Int×Int)(en:List Z5):iE t en=dC t en:=by unfold iE dC;rw[qJ]
def vty(t:Int×Int)(en:List Z5):Bool:=l7 (C9 t.1 6) (l7 (U3 0 t.2) (H9 t.2 (o8 en)) false) (l7 (U3 1 t.1) (l7 (U3 t.1 5) (C9 t.2 0) false) false)
theorem ig(t:Int×Int)(en:List Z5):V9 t en=some (vty t en):=by unfold V9 vty;cases C9 t.1 6<;>cases U3 0 t.2<;>cases U3 1 t.1<;>cases U3 t.1 5<;>rfl
theorem uk(t:Int×Int)(en:List Z5):aA t en=some (vty t en):=(qJ t en).trans (ig t en)
theorem UO(t:Int×Int)(en:List Z5):∃b:Int×Int,dC t en=some b:=by
 unfold dC;rw[ig,o9];cases hv:vty t en
 .exact⟨_,rfl⟩
 simp only[O7,o6];cases h1:C9 t.1 1<;>simp only[o7,o6]
 .cases h2:C9 t.1 2<;>simp only[o7,o6]
  .cases h3:C9 t.1 3<;>simp only[o7,o6]
   .cases h4:C9 t.1 4<;>simp only[o7,o6]
    .cases h5:C9 t.1 5<;>simp only[o7,o6]
     .have h6:C9 t.1 6=true/\U3 0 t.2=true/\H9 t.2 (o8 en)=true:=by
       unfold vty at hv;rw[wI]at h1 h2 h3 h4 h5;cases h6:C9 t.1 6<;>rw[h6]at hv
       .rw[wI]at h6;cases h7:U3 1 t.1<;>rw[h7]at hv
        .cases hv
        cases h8:U3 t.1 5<;>rw[h8]at hv
        .cases hv
        rw[uN]at h7 h8;omega
       .cases h7:U3 0 t.2<;>rw[h7]at hv
        .cases hv
        .exact⟨rfl,rfl,hv⟩
      obtain⟨x,hx,_⟩:=uu (uN.1 h6.2.1) (zA.1 h6.2.2);rw[hx];exact⟨_,rfl⟩
     .exact⟨_,rfl⟩
    .exact⟨_,rfl⟩
   .exact⟨_,rfl⟩
  .exact⟨_,rfl⟩
 .exact⟨_,rfl⟩
def bnd(t:Int×Int)(en:List Z5):Int×Int:=(dC t en).getD (0,0)
theorem Ep(t:Int×Int)(en:List Z5):dC t en=some (bnd t en):=by obtain⟨b,h⟩:=UO t en;unfold bnd;rw[h];rfl
theorem KU(t:Int×Int)(en:List Z5):iE t en=some (bnd t en):=(GX t en).trans (Ep t en)
def inB(n:Int)(b:Int×Int):Bool:=l7 (U3 b.1 n) (U3 n b.2) false
theorem YM(n:Int)(t:Int×Int)(en:List Z5):xf n t en=some (inB n (bnd t en)):=by unfold xf inB;rw[Ep,o9];cases U3 (bnd t en).1 n<;>rfl
def Cb(r:Int×Int):Bool:=l7 (U3 0 r.1) (l7 (U3 r.1 r.2) (U3 r.2 109573) false) false
theorem GZ(r:Int×Int):qM r=some (Cb r):=by unfold qM Cb;cases U3 0 r.1<;>cases U3 r.1 r.2<;>rfl
theorem Jj(r:Int×Int):vY r=some (Cb r):=GZ r
def PE(a b:Int×Int):(Int×Int)×Bool:=l7 (Cb a) (l7 (Cb b) (l7 (U3 (xO a.2 b.2) (xN a.1 b.1)) ((0,0),false) ((xN a.1 b.1,xO a.2 b.2),true)) ((0,0),false)) ((0,0),false)
theorem a3t(a b:Int×Int):uV a b=some (PE a b):=by unfold uV PE;rw[Jj,o9,Jj,o9];cases Cb a<;>cases Cb b<;>cases U3 (xO a.2 b.2) (xN a.1 b.1)<;>rfl
theorem a6e(a b:Int×Int):pg a b=some (PE a b):=by
 unfold pg rC PE;rw[GZ,o9,GZ,o9];cases Cb a
 .rfl
 simp only[o7];cases h1:H9 a.1 a.2
 .rw[nz]at h1;rw[bT (show xO a.2 b.2<=xN a.1 b.1 by unfold xO xN;omega)];cases Cb b<;>rfl
 simp only[o9,O7,o6];cases Cb b
 .rfl
 simp only[o7];cases h2:H9 b.1 b.2
 .rw[nz]at h2;rw[bT (show xO a.2 b.2<=xN a.1 b.1 by unfold xO xN;omega)];rfl
 .cases U3 (xO a.2 b.2) (xN a.1 b.1)<;>rfl
def ul(a b:uz):Bool:=l7 (PE a.1 b.1).2 (H9 (xN a.2.1 b.2.1) (xO a.2.2.1 b.2.2.1)) false
theorem VR(a b:uz):xA a b=some (ul a b):=by unfold xA ul;rw[a6e,o9];cases (PE a.1 b.1).2<;>rfl
theorem UQ(a b:uz):xh a b=some (ul a b):=by unfold xh ul;rw[a3t,o9];cases (PE a.1 b.1).2<;>rfl
theorem a1Y{l:List uz}(r:uz)(h:l.length<=1000000):∃k:Int,pF l r=some (k,l.any λy=>ul y r):=by
 unfold pF;have key:=xW (f:=λ(x:Int)=>l7 (H9 x (o8 l)) (l9 (J9 l x) λx_1=>l9 (qp x_1 r) λx_2=>l7 x_2 (some (Out.rt (x,true))) (some (Out.nx (F9 IntKind.i64 x 1)))) (some (Out.ex PUnit.unit)))
   (s:=0) (λx=>∃i:Nat,x=i/\i<=l.length/\(l.take i).any (λy=>ul y r)=false) (λ_=>(l.any λy=>ul y r)=false) (λk=>k.2=true/\(l.any λy=>ul y r)=true) (λx=>l.length -x.toNat) ⟨0,rfl,o5,rfl⟩ H7 ?_
 .rcases key with⟨e,h1,h2⟩|⟨k,h1,h2,h3⟩
  .exact⟨0,by rw[h1,h2];rfl⟩
  .refine⟨k.1,?_⟩;rw[h1,h3,←h2];rfl
 .rintro x ⟨i,rfl,hi,hall⟩;by_cases hl:i<l.length
  .have e:=lM hl;have hst:(l.take (i+1)).any (λy=>ul y r)=((l.take i).any (λy=>ul y r) || ul l[i] r):=by rw[U2 hl,sD];simp
   have hv:qp l[i] r=some (ul l[i] r):=by unfold qp;rw[VR];rfl
   simp only[fJ (show(i:Int)<o8 l by simp[o8];omega),o7,J3,e,o9,hv];cases hc:ul l[i] r with
   |true=>exact .inr (.inr ⟨_,rfl,rfl,nR.2 ⟨l[i],N7 hl,hc⟩⟩)|false=>exact .inl ⟨((i+1:Nat):Int),by rw[bY o5];rfl,⟨i+1,rfl,hl,by rw[hst,hall,hc];rfl⟩,by simp;omega⟩
  .have:i=l.length:=o5;subst this;rw[dA]at hall;exact .inr (.inl ⟨_,by rw[dV (by simp[o8])];rfl,hall⟩)
def CP(x:uz)(bl br:Int×Int):Bool:=
 l7 (Cb x.1) (l7 (C9 x.1.1 x.1.2) true (l7 (U3 x.2.2.1 x.2.1) true (l7 (inB x.2.1 bl) (l7 (inB (O5 .i64 x.2.2.1 1) bl) (G5 (inB x.2.2.2 br)) true) true))) true
theorem a1g(x:uz)(t:bP)(en:List Z5):BK x t en=some (CP x (bnd t.2.1 en) (bnd t.2.2.1 en)):=by
 unfold BK CP;rw[Jj,o9,YM,YM,YM];cases Cb x.1
 .rfl
 cases C9 x.1.1 x.1.2
 case true=>rfl
 cases U3 x.2.2.1 x.2.1
 case true=>rfl
 simp only[O7,o6,o9,aj,o7];cases inB x.2.1 (bnd t.2.1 en)
 .rfl
 cases inB (O5 .i64 x.2.2.1 1) (bnd t.2.1 en)
 .rfl
 rfl
def KF(t:bP)(en:List Z5)(i:Nat):Option (Int×Int):=match t.2.2.2[i]? with
 |some x=>l7 (CP x (bnd t.2.1 en) (bnd t.2.2.1 en)) (some ((i:Int),3)) (l7 ((t.2.2.2.take i).any λy=>ul y x) (some ((i:Int),11)) none)|none=>none
def EG(t:bP)(en:List Z5):Int×Int:=
 l7 (H9 64 (o8 t.2.2.2)) (64,4) (l7 (vty t.2.1 en) (l7 (vty t.2.2.1 en) (match(List.range t.2.2.2.length).findSome? (KF t en)with|some r=>r|none=>(0,0)) (-1,8)) (-1,8))
theorem BB(a b:Int):H9 a b= !U3 b a:=by simp only[H9,U3];rw[←decide_not];congr 1;simp
theorem a1f(t:bP)(en:List Z5):xg t en=some (EG t en):=by
 unfold xg EG;rw[ig,o9,ig,o9];cases h64:H9 64 (o8 t.2.2.2)
 case true=>rfl
 simp only[o6];cases vty t.2.1 en
 .rfl
 cases vty t.2.2.1 en
 .rfl
 simp only[O7,o6,o9,aj,o7];have hlen:t.2.2.2.length<=64:=by rw[nz]at h64;simp only[o8]at h64;omega
 refine X8 (BF (p:=KF t en) t.2.2.2.length o5 PUnit.unit (λi hi=>?_) ?_) ?_
 rotate_left 2
 .cases (List.range t.2.2.2.length).findSome? (KF t en)<;>rfl
 .have e:=lM hi;simp only[fJ (show(i:Int)<o8 t.2.2.2 by simp only[o8];omega),o7,J3,e,o9,a1g,KF];cases CP t.2.2.2[i] (bnd t.2.1 en) (bnd t.2.2.1 en)
  case true=>rfl
  simp only[o6];refine X8 (zS (t.2.2.2.take i) (λj a=> !ul a t.2.2.2[i]) ((i:Int),(11:Int)) PUnit.unit _ H7 (λj x hx=>?_) ?_) ?_
  rotate_left 2
  .have hb:(∀(j:Nat) (a:uz),(t.2.2.2.take i)[j]? =some a->(!ul a t.2.2.2[i])=true)↔((t.2.2.2.take i).any λy=>ul y t.2.2.2[i])=false:=by
    rw[iw];constructor
    .intro h x hx;obtain⟨j,hj,rfl⟩:=Y9 hx;have:=h j _ (lM hj);simpa using this
    .intro h j a hj;have:=h a (oC hj);simpa using this
   by_cases hv:((t.2.2.2.take i).any λy=>ul y t.2.2.2[i])=false
   .rw[if_pos (hb.2 hv),hv,bY o5];rfl
   .rw[if_neg (λh=>hv (hb.1 h))];simp only[lZ]at hv;rw[hv];rfl
  .have hj:=(aC.1 hx).1;simp only[bu]at hj;have hx' :t.2.2.2[j]? =some x:=by rw[U1]at hx;split at hx<;>first|exact hx|cases hx
   simp only[fJ (show(j:Int)<(i:Int) by omega),o7,J3,hx',o9,e,UQ];rw[bY o5];cases ul x t.2.2.2[i]<;>rfl
  .have hl:(t.2.2.2.take i).length=i:=by simp;omega
   rw[hl,dV o5];rfl
 .rw[dV (by simp[o8])];rfl
variable {α:Type}
theorem vW{l:List α}(h:i<=l.length):ik l 0 (i:Int)=some (l.take i):=by rw[x_ o5 o5];simp
theorem a4R(t:bP)(en:List Z5):xy t en=some (EG t en):=by
 unfold xy EG;rw[uk,o9,uk,o9];cases h64:H9 64 (o8 t.2.2.2)
 case true=>rfl
 simp only[o6];cases vty t.2.1 en
 .rfl
 cases vty t.2.2.1 en
 .rfl
 simp only[O7,o6,o9,aj,o7,KU];have hlen:t.2.2.2.length<=64:=by rw[nz]at h64;simp only[o8]at h64;omega
 refine X8 (BF (p:=KF t en) t.2.2.2.length o5 PUnit.unit (λi hi=>?_) ?_) ?_
 rotate_left 2
 .cases (List.range t.2.2.2.length).findSome? (KF t en)<;>rfl
 .have e:=lM hi;simp only[fJ (show(i:Int)<o8 t.2.2.2 by simp only[o8];omega),o7,J3,e,o9,KF,GZ,vW (show i<=t.2.2.2.length by omega)];obtain⟨k,hk⟩:=a1Y (l:=t.2.2.2.take i) t.2.2.2[i] H7;rw[hk,bY o5];unfold CP inB;simp only[BB];generalize bnd t.2.1 en=bl;generalize bnd t.2.2.1 en=br;cases Cb t.2.2.2[i].1
  .rfl
  cases C9 t.2.2.2[i].1.1 t.2.2.2[i].1.2
  case true=>rfl
  cases U3 t.2.2.2[i].2.2.1 t.2.2.2[i].2.1
  case true=>rfl
  cases U3 bl.1 t.2.2.2[i].2.1
  .rfl
  cases U3 t.2.2.2[i].2.1 bl.2
  .rfl
  cases U3 bl.1 (O5 IntKind.i64 t.2.2.2[i].2.2.1 1)
  .rfl
  cases U3 (O5 IntKind.i64 t.2.2.2[i].2.2.1 1) bl.2
  .rfl
  cases U3 br.1 t.2.2.2[i].2.2.2
  .rfl
  cases U3 t.2.2.2[i].2.2.2 br.2
  .rfl
  cases (t.2.2.2.take i).any λy=>ul y t.2.2.2[i]<;>rfl
 .rw[dV (by simp[o8])];rfl
section
variable {α ε ρ:Type}
theorem Bg(l:List α)(p:α->Bool)(r:ρ)(e:ε){f:Int->Option (Out Int ε ρ)}(hl:l.length<=1000000)
  (hin:∀(i:Nat) (a:α),l[i]? =some a->f (i:Int)=some (bif p a then .rt r else .nx (F9 .i64 (i:Int) 1))) (hend:f (l.length:Int)=some (.ex e)):
  U7 f 0=some (bif l.any p then .inr r else .inl e):=by
 rw[zS l (λi a=> !p a) r e f o5 (λi a ha=>?_) hend]
 .have hb:(∀(j:Nat) (a:α),l[j]? =some a->(!p a)=true)↔l.any p=false:=by
   rw[iw];constructor
   .intro h x hx;obtain⟨j,hj,rfl⟩:=Y9 hx;have:=h j _ (lM hj);simpa using this
   .intro h j a hj;have:=h a (oC hj);simpa using this
  by_cases hv:l.any p=false
  .rw[if_pos (hb.2 hv),hv];rfl
  .rw[if_neg (λh=>hv (hb.1 h))];simp only[lZ]at hv;rw[hv];rfl
 .have hi:=(aC.1 ha).1;rw[hin i a ha,bY o5];cases p a<;>rfl
theorem xP(l:List α)(p:α->Bool){f:Int->Option (Out Int PUnit Int)}(hl:l.length<=1000000)
  (hin:∀(i:Nat) (a:α),l[i]? =some a->f (i:Int)=some (bif p a then .rt (i:Int)else .nx (F9 .i64 (i:Int) 1))) (hend:f (l.length:Int)=some (.ex PUnit.unit)):
  l9 (l9 (U7 f 0) λo=>Z4 o (λ_=>some (-1)) λr=>some r) (λx=>some (U3 0 x))=some (l.any p):=by
 have key:=xW (f:=f) (s:=0) (λx=>∃i:Nat,x=i/\i<=l.length/\(l.take i).any p=false) (λ_=>l.any p=false) (λk=>0<=k/\l.any p=true) (λx=>l.length -x.toNat) ⟨0,rfl,o5,rfl⟩ H7 ?_
 .rcases key with⟨e,h1,h2⟩|⟨k,h1,h2,h3⟩
  .rw[h1,h2];rfl
  .rw[h1,h3,o9,lV,o9,bT h2]
 .rintro x ⟨i,rfl,hi,hall⟩;by_cases h:i<l.length
  .have e:=lM h;have hst:(l.take (i+1)).any p=((l.take i).any p || p l[i]):=by rw[U2 h,sD];simp
   rw[hin i _ e];cases hc:p l[i]with
   |true=>exact .inr (.inr ⟨_,rfl,o5,nR.2 ⟨l[i],N7 h,hc⟩⟩)|false=>exact .inl ⟨((i+1:Nat):Int),by rw[bY o5];rfl,⟨i+1,rfl,h,by rw[hst,hall,hc];rfl⟩,by simp;omega⟩
  .have:i=l.length:=o5;subst this;rw[dA]at hall;exact .inr (.inl ⟨_,hend,hall⟩)
theorem O0{l:List α}{a:α}(h:l[i]? =some a):H9 (i:Int) (o8 l)=true:=fJ (by have:=(aC.1 h).1;simp only[o8];omega)
theorem N9(l:List α):H9 (l.length:Int) (o8 l)=false:=dV (by simp[o8])
end
theorem IW{l:List Z5}(n:List UInt8)(h:l.length<=1000000):vT l n=some (l.any λx=>seq x.1 n):=by unfold vT iD jf;rw[wY];refine xP l (λx=>seq x.1 n) h (λi a ha=>?_) (by rw[N9];rfl);rw[O0 ha,o7,J3,ha,o9];unfold CE;rw[o9];cases seq a.1 n<;>rfl
theorem Nj{l:List bP}(n:List UInt8)(h:l.length<=1000000):wP l n=some (l.any λx=>seq x.1 n):=by unfold wP gq iJ;rw[wY];refine xP l (λx=>seq x.1 n) h (λi a ha=>?_) (by rw[N9];rfl);rw[O0 ha,o7,J3,ha,o9];unfold Am;rw[o9];cases seq a.1 n<;>rfl
theorem Wl{l:List N8}(s:N8)(h:l.length<=1000000):dG l s=some (l.any λx=>seq x.1 s.1):=by unfold dG iI;refine xP l (λx=>seq x.1 s.1) h (λi a ha=>?_) (by rw[N9];rfl);rw[O0 ha,o7,J3,ha,o9];unfold xU;rw[o9];cases seq a.1 s.1<;>rfl
theorem Yr{l:List bM}(s:bM)(h:l.length<=1000000):dU l s=some (l.any λx=>seq x.1 s.1):=by unfold dU jg;refine xP l (λx=>seq x.1 s.1) h (λi a ha=>?_) (by rw[N9];rfl);rw[O0 ha,o7,J3,ha,o9];unfold yX;rw[o9];cases seq a.1 s.1<;>rfl
theorem Nh{l:List dW}(s:dW)(h:l.length<=1000000):aT l s=some (l.any λx=>seq x.1 s.1):=by unfold aT iH;refine xP l (λx=>seq x.1 s.1) h (λi a ha=>?_) (by rw[N9];rfl);rw[O0 ha,o7,J3,ha,o9];unfold xR;rw[o9];cases seq a.1 s.1<;>rfl
theorem a0D{l:List (List UInt8)}(s:List UInt8)(h:l.length<=1000000):iQ l s=some (l.any λx=>seq s x):=by unfold iQ gV;refine xP l (λx=>seq s x) h (λi a ha=>?_) (by rw[N9];rfl);rw[O0 ha,o7,J3,ha,o9];cases seq s a<;>rfl
theorem a0C{l:List Int}(s:Int)(h:l.length<=1000000):lw l s=some (l.any λx=>C9 s x):=by unfold lw sW;refine xP l (λx=>C9 s x) h (λi a ha=>?_) (by rw[N9];rfl);rw[O0 ha,o7,J3,ha,o9];cases C9 s a<;>rfl
section
variable {α ε ρ:Type}
theorem CS(l:List α)(k:Nat)(p:α->Bool)(r:ρ)(e:ε){f:Int->Option (Out Int ε ρ)}(hl:l.length<=1000000)
  (hin:∀(i:Nat) (a:α),l[i]? =some a->f (i:Int)=some (bif (decide (i<k)&&p a)then .rt r else .nx (F9 .i64 (i:Int) 1))) (hend:f (l.length:Int)=some (.ex e)):
  U7 f 0=some (bif (l.take k).any p then .inr r else .inl e):=by
 rw[zS l (λi a=> !(decide (i<k)&&p a)) r e f o5 (λi a ha=>?_) hend]
 .have hb:(∀(j:Nat) (a:α),l[j]? =some a->(!(decide (j<k)&&p a))=true)↔(l.take k).any p=false:=by
   rw[iw];constructor
   .intro h x hx;obtain⟨j,hj,rfl⟩:=Y9 hx;simp only[bu]at hj;have:=h j _ (lM o5);rw[List.getElem_take];simp only[show j<k by omega,decide_true,kE]at this;simpa using this
   .intro h j a hj;by_cases hk:j<k
    .have hm:a∈l.take k:=oC (i:=j) (by rw[dD hk];exact hj);have:=h a hm;simpa[hk]using this
    .simp[hk]
  by_cases hv:(l.take k).any p=false
  .rw[if_pos (hb.2 hv),hv];rfl
  .rw[if_neg (λh=>hv (hb.1 h))];simp only[lZ]at hv;rw[hv];rfl
 .have hi:=(aC.1 ha).1;rw[hin i a ha,bY o5];cases decide (i<k)&&p a<;>rfl
end
theorem JF(i k:Nat):H9 (i:Int) (k:Int)=decide (i<k):=by unfold H9;by_cases h:i<k<;>simp[h]<;>omega
def ww(l:au)(kind:Nat)(k:Nat)(n:List UInt8):Bool:=
 match kind with
 |1=>(l.1.take k).any λx=>seq x.1 n|2=>(l.1.any λx=>seq x.1 n) || ((l.2.1.take k).any λx=>seq x.1 n)|_=>(l.1.any λx=>seq x.1 n) || (l.2.1.any λx=>seq x.1 n) || ((l.2.2.take k).any λx=>seq x.1 n)
def Few(l:au):Prop:=l.1.length<=1000/\l.2.1.length<=1000/\l.2.2.length<=1000
variable {l:au}
theorem a1k(h:Few l)(k:Nat)(n:List UInt8):gZ l 1 (k:Int) n=some (ww l 1 k n):=by
 unfold gZ ww;refine X8 (CS l.1 k (λx=>seq x.1 n) true PUnit.unit (by have:=h.1;omega) (λi a ha=>?_) ?_) ?_
 rotate_left 2
 .cases (l.1.take k).any λx=>seq x.1 n
  case true=>rfl
  simp only[cond_false,aj];refine X8 (CS l.2.1 0 (λx=>seq x.1 n) true PUnit.unit (by have:=h.2.1;omega) (λi a ha=>?_) ?_) ?_
  rotate_left 2
  .simp only[List.take_zero,List.any_nil,cond_false,aj];refine X8 (CS l.2.2 0 (λx=>seq x.1 n) true PUnit.unit (by have:=h.2.2;omega) (λi a ha=>?_) ?_) ?_
   rotate_left 2
   .rfl
   .rw[O0 ha];simp;rfl
   .rw[N9];rfl
  .rw[O0 ha];simp;rfl
  .rw[N9];rfl
 .rw[O0 ha,J3,ha,o9,JF,o7];cases decide (i<k)<;>cases seq a.1 n<;>rfl
 .rw[N9];rfl
theorem a1l(h:Few l)(k:Nat)(n:List UInt8):gZ l 2 (k:Int) n=some (ww l 2 k n):=by
 unfold gZ ww;refine X8 (Bg l.1 (λx=>seq x.1 n) true PUnit.unit (by have:=h.1;omega) (λi a ha=>?_) ?_) ?_
 rotate_left 2
 .cases l.1.any λx=>seq x.1 n
  case true=>rfl
  simp only[cond_false,aj,nC];refine X8 (CS l.2.1 k (λx=>seq x.1 n) true PUnit.unit (by have:=h.2.1;omega) (λi a ha=>?_) ?_) ?_
  rotate_left 2
  .cases (l.2.1.take k).any λx=>seq x.1 n
   case true=>rfl
   simp only[cond_false,aj];refine X8 (CS l.2.2 0 (λx=>seq x.1 n) true PUnit.unit (by have:=h.2.2;omega) (λi a ha=>?_) ?_) ?_
   rotate_left 2
   .rfl
   .rw[O0 ha];simp;rfl
   .rw[N9];rfl
  .rw[O0 ha,J3,ha,o9,JF,o7];cases decide (i<k)<;>cases seq a.1 n<;>rfl
  .rw[N9];rfl
 .rw[O0 ha,J3,ha,o9,o7];cases seq a.1 n<;>rfl
 .rw[N9];rfl
theorem a1m(h:Few l)(k:Nat)(n:List UInt8):gZ l 3 (k:Int) n=some (ww l 3 k n):=by
 unfold gZ ww;refine X8 (Bg l.1 (λx=>seq x.1 n) true PUnit.unit (by have:=h.1;omega) (λi a ha=>?_) ?_) ?_
 rotate_left 2
 .cases l.1.any λx=>seq x.1 n
  case true=>rfl
  simp only[cond_false,aj,nC];refine X8 (Bg l.2.1 (λx=>seq x.1 n) true PUnit.unit (by have:=h.2.1;omega) (λi a ha=>?_) ?_) ?_
  rotate_left 2
  .cases l.2.1.any λx=>seq x.1 n
   case true=>rfl
   simp only[cond_false,aj,nC];refine X8 (CS l.2.2 k (λx=>seq x.1 n) true PUnit.unit (by have:=h.2.2;omega) (λi a ha=>?_) ?_) ?_
   rotate_left 2
   .cases (l.2.2.take k).any λx=>seq x.1 n<;>rfl
   .rw[O0 ha,J3,ha,o9,JF,o7];cases decide (i<k)<;>cases seq a.1 n<;>rfl
   .rw[N9];rfl
  .rw[O0 ha,J3,ha,o9,o7];cases seq a.1 n<;>rfl
  .rw[N9];rfl
 .rw[O0 ha,J3,ha,o9,o7];cases seq a.1 n<;>rfl
 .rw[N9];rfl
def Sj(ms:List (List UInt8))(i:Nat):Option (Int×Int):=match ms[i]? with
 |some m=>l7 (vC m) (l7 ((ms.take i).any λx=>seq m x) (some (7,((100+i:Nat):Int))) none) (some (2,((100+i:Nat):Int)))|none=>none
def PG(l:au)(i:Nat)(e:Z5):Int×Int:=
 l7 (vC e.1) (l7 (ww l 1 i e.1) (7,0) (l7 (C9 (o8 e.2) 0) (5,0) (l7 (H9 16 (o8 e.2)) (4,116) (match(List.range e.2.length).findSome? (Sj e.2)with|some r=>r|none=>(0,0))))) (2,0)
theorem l_(h:i<=1000000):F9 .i64 100 (i:Int)=((100+i:Nat):Int):=by rw[kV jP];omega
theorem Uk(h:Few l)(hi:i<=l.1.length)(e:Z5)(h1:e.1.length<=1000000)(h2:∀m∈e.2,m.length<=1000000):
  yC l (i:Int) e=some (PG l i e):=by
 unfold yC PG ww;rw[nX h1,o9,vW hi,o9,IW _ (by have:=h.1;simp;omega),o9];cases vC e.1
 .rfl
 simp only[O7,o6,o7];cases (l.1.take i).any λx=>seq x.1 e.1
 case true=>rfl
 cases C9 (o8 e.2) 0
 case true=>rfl
 cases h16:H9 16 (o8 e.2)
 case true=>rfl
 simp only[o6];have hlen:e.2.length<=16:=by rw[nz]at h16;simp only[o8]at h16;omega
 refine X8 (BF (p:=Sj e.2) e.2.length o5 PUnit.unit (λj hj=>?_) ?_) ?_
 rotate_left 2
 .cases (List.range e.2.length).findSome? (Sj e.2)<;>rfl
 .have e' :=lM hj;rw[O0 e',o7,J3,e',o9,nX (h2 _ (N7 hj)),o9,vW o5,o9,a0D _ H7,o9,l_ o5,bY o5];simp only[Sj,e'];cases vC e.2[j]
  .rfl
  cases (e.2.take j).any λx=>seq e.2[j] x<;>rfl
 .rw[N9];rfl
theorem a3N(a b:List UInt8):seq a b=seq b a:=by unfold seq;by_cases h:a=b<;>simp[h,eq_comm]
variable {ρ:Type}{ε:Type}{σ:Type}
theorem a0p(l:List α)(p:α->Bool)(n:Nat)(hn:n<=l.length)(hl:l.length<=1000000)(a b:σ)(r:ρ)(e:ε){f:σ×σ×Int->Option (Out (σ×σ×Int) ε ρ)}
  (hin:∀(i:Nat) (x:α),i<n->l[i]? =some x->f (a,b,(i:Int))=some (bif p x then .rt r else .nx (a,b,F9 .i64 (i:Int) 1))) (hend:f (a,b,(n:Int))=some (.ex e)):
  U7 f (a,b,0)=some (bif (l.take n).any p then .inr r else .inl e):=by
 have key:=xW (f:=f) (s:=(a,b,0)) (λx=>∃i:Nat,x=(a,b,(i:Int))/\i<=n/\(l.take i).any p=false) (λx=>x=e/\(l.take n).any p=false) (λk=>k=r/\(l.take n).any p=true) (λx=>n -x.2.2.toNat) ⟨0,rfl,o5,rfl⟩ H7 ?_
 .rcases key with⟨x,h1,rfl,h2⟩|⟨k,h1,rfl,h2⟩
  .rw[h1,h2];rfl
  .rw[h1,h2];rfl
 .rintro x ⟨i,rfl,hi,hall⟩;by_cases h:i<n
  .have e' :=lM (show i<l.length by omega);have hst:(l.take (i+1)).any p=((l.take i).any p || p l[i]):=by rw[U2 o5,sD];simp
   rw[hin i _ h e'];cases hc:p l[i]with
   |true=>refine .inr (.inr ⟨_,rfl,rfl,nR.2 ⟨l[i],?_,hc⟩⟩);exact oC (i:=i) (by rw[dD h];exact e')|false=>exact .inl ⟨(a,b,((i+1:Nat):Int)),by rw[bY o5];rfl,⟨i+1,rfl,h,by rw[hst,hall,hc];rfl⟩,by simp;omega⟩
  .have:i=n:=o5;subst this;exact .inr (.inl ⟨_,hend,rfl,hall⟩)
variable {β:Type}
theorem PP{p:Nat->Option β}{n j:Nat}{c:β}(h0:(List.range j).findSome? p=none)(h1:p j=some c)(hj:j<n):(List.range n).findSome? p=some c:=by
 induction n with
 |zero=>omega|succ n ih=>
  rw[fB,jE];by_cases h:j<n
  .rw[ih h];rfl
  .have:j=n:=o5;subst this;rw[h0];simp[h1]
theorem j_{p:Nat->Option β}{j:Nat}(h0:(List.range j).findSome? p=none)(h1:p j=none):(List.range (j+1)).findSome? p=none:=by rw[fB,jE,h0];simp[h1]
def Hz(kind i:Int)(r:Int×Int):Int×Int×Int×Int:=l7 (C9 r.1 0) (0,0,0,0) (r.1,kind,i,r.2)
theorem Sz(h:Few l){e:Z5}(he:l.1[i]? =some e)(h1:e.1.length<=1000000)(h2:∀m∈e.2,m.length<=1000000):
  uX l (i:Int)=some (Hz 1 i (PG l i e)):=by
 unfold uX PG;rw[J3,he,o9,mV h1,o9,a1k h,o9];cases vC e.1
 .rfl
 simp only[O7,o6,o7];cases ww l 1 i e.1
 case true=>rfl
 cases C9 (o8 e.2) 0
 case true=>rfl
 cases h16:H9 16 (o8 e.2)
 case true=>rfl
 simp only[o6];have hlen:e.2.length<=16:=by rw[nz]at h16;simp only[o8]at h16;omega
 have key:=xW (f:=λ(x_3:lI×lI×Int)=>
   l7 (H9 x_3.2.2 (o8 e.2)) (l9 (J9 e.2 x_3.2.2) λ(x_4:List UInt8)=>l9 (di x_4) λ(x_5:Bool)=>
    l7 (G5 x_5) (some (Out.rt (2,x_3.2.1.2.1,x_3.2.1.2.2.1,F9 IntKind.i64 100 x_3.2.2)))
     (l9 (U7 (λ(x_6:lI×lI×Int)=>l7 (H9 x_6.2.2 x_3.2.2) (l9 (J9 e.2 x_6.2.2) λ(x_7:List UInt8)=>l9 (J9 e.2 x_3.2.2) λ(x:List UInt8)=>
       l7 (seq x_7 x) (some (Out.rt (7,x_6.2.1.2))) (some (Out.nx (x_6.1,x_6.2.1,F9 IntKind.i64 x_6.2.2 1)))) (some (Out.ex (x_6.1,x_6.2.1))))
      (x_3.1,(x_3.2.1.1,x_3.2.1.2.1,x_3.2.1.2.2.1,F9 IntKind.i64 100 x_3.2.2),0)) λ(o:lI×lI⊕lI)=>
       Z4 o (λ(y:lI×lI)=>some (Out.nx (y.1,y.2,F9 IntKind.i64 x_3.2.2 1))) λ(r:lI)=>some (Out.rt r))) (some (Out.ex x_3.1)))
  (s:=((0,0,0,0),(0,1,(i:Int),0),0))
  (λx=>∃(B:Int×Int×Int×Int) (j:Nat),x=((0,0,0,0),B,(j:Int))/\B.2.1=1/\B.2.2.1=i/\j<=e.2.length/\(List.range j).findSome? (Sj e.2)=none)
  (λ_=>(List.range e.2.length).findSome? (Sj e.2)=none) (λr=>∃c,(List.range e.2.length).findSome? (Sj e.2)=some c/\r=(c.1,1,(i:Int),c.2)/\c.1≠0)
  (λx=>e.2.length -x.2.2.toNat) ⟨_,0,rfl,rfl,rfl,o5,rfl⟩ H7 ?_
 .rcases key with⟨x,k1,k2⟩|⟨r,k1,c,k2,k3,k4⟩
  .refine(Qm k1 _).trans ?_;rw[k2];rfl
  .refine(Qm k1 _).trans ?_;rw[k2,k3];simp only[lV,Hz];rw[U8 k4];rfl
 .rintro x ⟨B,j,rfl,b1,b2,hj,hn⟩;by_cases hl:j<e.2.length
  .have e' :=lM hl;simp only[O0 e',o7,J3,e',o9,mV (h2 _ (N7 hl)),l_ (show j<=1000000 by omega)];cases hid:vC e.2[j]
   .refine .inr (.inr ⟨_,rfl,(2,((100+j:Nat):Int)),PP hn (by simp only[Sj,e',hid];rfl) hl,?_,(by show(2:Int)≠0;decide)⟩);rw[b1,b2]
   .simp only[O7,o6];rw[a0p e.2 (λx=>seq e.2[j] x) j o5 o5 (0,0,0,0) (B.1,B.2.1,B.2.2.1,((100+j:Nat):Int)) (7,B.2.1,B.2.2.1,((100+j:Nat):Int)) ((0,0,0,0),(B.1,B.2.1,B.2.2.1,((100+j:Nat):Int)))
     (λk x hk hx=>by simp only[fJ (show(k:Int)<(j:Int) by omega),o7,J3,hx,o9,e'];rw[a3N];cases seq e.2[j] x<;>rfl)
     (by simp only[dV (show(j:Int)<=(j:Int) by omega)];rfl)]
    cases hd:(e.2.take j).any λx=>seq e.2[j] x
    .refine .inl ⟨((0,0,0,0),(B.1,B.2.1,B.2.2.1,((100+j:Nat):Int)),((j+1:Nat):Int)),by rw[bY o5];rfl,⟨_,j+1,rfl,b1,b2,hl,j_ hn (by simp only[Sj,e',hid,hd];rfl)⟩,by simp;omega⟩
    .refine .inr (.inr ⟨_,rfl,(7,((100+j:Nat):Int)),PP hn (by simp only[Sj,e',hid,hd];rfl) hl,?_,(by show(7:Int)≠0;decide)⟩);rw[b1,b2]
  .have:j=e.2.length:=o5;subst this;exact .inr (.inl ⟨_,by simp only[N9];rfl,hn⟩)
def bg(n:Nat)(p:Nat->Option ρ):Option ρ:=(List.range n).findSome? p
theorem mM{p:Nat->Option ρ}(n:Nat)(hn:n<=1000000)(a:σ)(e:ε){f:σ×Int->Option (Out (σ×Int) ε ρ)}
  (h1:∀i,i<n->f (a,(i:Int))=some (match p i with|some r=> .rt r|none=> .nx (a,F9 .i64 (i:Int) 1))) (h2:f (a,(n:Int))=some (.ex e)):
  U7 f (a,0)=some (match bg n p with|some r=> .inr r|none=> .inl e):=by
 have key:=xW (f:=f) (s:=(a,0)) (λx=>∃i:Nat,x=(a,(i:Int))/\i<=n/\bg i p=none) (λx=>x=e/\bg n p=none) (λr=>bg n p=some r) (λx=>n -x.2.toNat) ⟨0,rfl,o5,rfl⟩ H7 ?_
 .rcases key with⟨x,k1,rfl,k2⟩|⟨r,k1,k2⟩
  .rw[k1,k2]
  .rw[k1,k2]
 .rintro x ⟨i,rfl,hi,hnone⟩;by_cases h:i<n
  .rw[h1 i h];cases hp:p i with
   |some r=>exact .inr (.inr ⟨_,rfl,PP hnone hp h⟩)|none=>exact .inl ⟨(a,((i+1:Nat):Int)),by rw[bY o5],⟨i+1,rfl,h,j_ hnone hp⟩,by simp;omega⟩
  .have:i=n:=o5;subst this;exact .inr (.inl ⟨_,h2,rfl,hnone⟩)
def Ld(kind i:Int)(r:Int×Int):Option (Int×Int×Int×Int):=l7 (C9 r.1 0) none (some (r.1,kind,i,r.2))
def MZ(l:au)(i:Nat):Option (Int×Int×Int×Int):=match l.1[i]? with|some e=>Ld 1 i (PG l i e)|none=>none
def DT(l:au):Int×Int×Int×Int:=l7 (H9 8 (o8 l.1)) (4,1,8,0) (match bg l.1.length (MZ l)with|some r=>r|none=>(0,0,0,0))
def ZN(l:au):Prop:=∀e∈l.1,e.1.length<=1000000/\∀m∈e.2,m.length<=1000000
theorem RJ(h:Few l)(hE:ZN l):wM l=some (DT l):=by
 unfold wM DT;cases H9 8 (o8 l.1)
 case true=>rfl
 simp only[o6];refine X8 (mM (p:=MZ l) l.1.length (by have:=h.1;omega) _ (0,0,0,0) (λi hi=>?_) ?_) ?_
 rotate_left 2
 .cases bg l.1.length (MZ l)<;>rfl
 .have e:=lM hi;have hm:=hE _ (N7 hi);simp only[O0 e,o7,J3,e,o9,Uk h (show i<=l.1.length by omega) _ hm.1 hm.2,MZ,Ld];cases C9 (PG l i l.1[i]).1 0<;>rfl
 .rw[N9];rfl
variable {n:Nat}
theorem jB{p:Nat->Option ρ}{r:ρ}(h:bg n p=some r):∃i,i<n/\p i=some r:=by unfold bg at h;obtain⟨i,hi,hp⟩:=List.exists_of_findSome?_eq_some h;exact⟨i,dX.1 hi,hp⟩
theorem a4Q(t:bP)(en:List Z5):(EG t en).1=-1\/0<=(EG t en).1:=by
 unfold EG;cases H9 64 (o8 t.2.2.2)
 case true=>right;simp only[o7];decide
 cases vty t.2.1 en
 .left;rfl
 cases vty t.2.2.1 en
 .left;rfl
 right;simp only[o7,o6];cases hf:(List.range t.2.2.2.length).findSome? (KF t en)with
 |none=>exact xQ _|some r=>
  obtain⟨i,hi,hp⟩:=jB (p:=KF t en) hf;unfold KF at hp;split at hp
  .rename_i x hx;cases hw:CP x (bnd t.2.1 en) (bnd t.2.2.1 en)<;>rw[hw]at hp
   .cases ha:(t.2.2.2.take i).any λy=>ul y x<;>rw[ha]at hp
    .cases hp
    .cases hp;show(0:Int)<=(i:Int);omega
   .cases hp;show(0:Int)<=(i:Int);omega
  .cases hp
def ML(l:au)(i:Nat)(t:bP):Int×Int:=
 l7 (vC t.1) (l7 (ww l 2 i t.1) (7,0) (l7 (C9 (EG t l.1).2 0) (0,0) ((EG t l.1).2,l7 (U3 0 (EG t l.1).1) (F9 .i64 100 (EG t l.1).1) 0))) (2,0)
def CO(l:au)(i:Nat):Option (Int×Int×Int×Int):=match l.2.1[i]? with|some t=>Ld 2 i (ML l i t)|none=>none
def yE(l:au):Int×Int×Int×Int:=l7 (H9 8 (o8 l.2.1)) (4,2,8,0) (match bg l.2.1.length (CO l)with|some r=>r|none=>(0,0,0,0))
def VH(l:au):Prop:=∀t∈l.2.1,t.1.length<=1000000
theorem Qx(h:Few l){t:bP}(he:l.2.1[i]? =some t)(h1:t.1.length<=1000000):uf l (i:Int)=some (Hz 2 i (ML l i t)):=by
 unfold uf ML;rw[J3,he,o9,mV h1,o9,a1l h,o9,a1f,o9];cases vC t.1
 .rfl
 cases ww l 2 i t.1
 case true=>rfl
 simp only[O7,o6,o7];cases hz:C9 (EG t l.1).2 0
 case true=>rfl
 simp only[o6,Hz,hz];cases U3 0 (EG t l.1).1<;>rfl
theorem Pm(h:Few l)(hT:VH l):uS l=some (yE l):=by
 unfold uS yE;cases H9 8 (o8 l.2.1)
 case true=>rfl
 simp only[o6];refine X8 (mM (p:=CO l) l.2.1.length (by have:=h.2.1;omega) _ (0,0,0,0) (λi hi=>?_) ?_) ?_
 rotate_left 2
 .cases bg l.2.1.length (CO l)<;>rfl
 .have e:=lM hi;have hm:=hT _ (N7 hi);simp only[O0 e,o7,J3,e,o9,a4R,nX hm,IW _ (show l.1.length<=1000000 by have:=h.1;omega),vW (show i<=l.2.1.length by omega),
   Nj _ (show(l.2.1.take i).length<=1000000 by have:=h.2.1;simp;omega),CO,ML,ww]
  cases vC l.2.1[i].1
  .rfl
  cases l.1.any λx=>seq x.1 l.2.1[i].1
  case true=>rfl
  cases (l.2.1.take i).any λx=>seq x.1 l.2.1[i].1
  case true=>rfl
  simp only[O7,o6,o7,o9,Bool.or_false];cases hz:C9 (EG l.2.1[i] l.1).2 0
  case true=>rfl
  simp only[ae,o7,o6,Ld,hz];rcases a4Q l.2.1[i] l.1 with hr|hr
  .rw[bH hr,eQ (show(EG l.2.1[i] l.1).1<0 by omega)];simp only[O7,o6,o9,hz,ae,o7]
  .rw[U8 (show(EG l.2.1[i] l.1).1≠-1 by omega),bT hr];simp only[ae,o7,o9,hz]
 .rw[N9];rfl
theorem Yp(l:List α)(g:α->β)(hl:l.length<=1000000){f:List β×Int->Option ((List β×Int)⊕ε)}{F:List β->ε}
  (hin:∀(i:Nat) (a:α) (acc:List β),l[i]? =some a->acc.length=i->f (acc,(i:Int))=some (.inl (acc++[g a],F9 .i64 (i:Int) 1))) (hend:∀acc,f (acc,(l.length:Int))=some (.inr (F acc))):
  aS f ([],0)=some (F (l.map g)):=by
 obtain⟨e,h1,h2⟩:=oP (f:=f) (s:=([],0)) (λx=>∃i:Nat,x=((l.take i).map g,(i:Int))/\i<=l.length) (λe=>e=F (l.map g)) (λx=>l.length -x.2.toNat) ⟨0,rfl,o5⟩ H7 (by
  rintro x ⟨i,rfl,hi⟩;by_cases h:i<l.length
  .have e:=lM h;refine .inl ⟨((l.take (i+1)).map g,((i+1:Nat):Int)),?_,⟨i+1,rfl,h⟩,by simp;omega⟩;rw[hin i _ _ e H7,bY o5,U2 h,gJ];rfl
  .have:i=l.length:=o5;subst this;refine .inr ⟨_,hend _,?_⟩;rw[dA])
 rw[h1,h2]
theorem Cf{l:List dW}(h:l.length<=1000000):pX l=some (l.map (·.2)):=by
 unfold pX;rw[wY];refine Yp (F:=id) l (λx=>x.2) h (λi a acc ha hacc=>?_) (λacc=>?_)
 .have hi:=(aC.1 ha).1;simp only[O0 ha,o7,J3,ha,o9];rw[uP (by simp[hacc];omega)];rfl
 .simp only[N9];rfl
def VG(l:au):Prop:=∀s∈l.2.2,s.1.length<=1000000/\s.2.2.1.length<=1000/\s.2.2.2.1.length<=1000/\s.2.2.2.2.length<=1000
def Vl(l:au)(s:N8):List Z5×List bP×List (Int×Int)×List (Int×Int)×List (Int×Int)×Bool:=
 match(if 0<=s.2.1 then l.2.2[s.2.1.toNat]? else none)with
 |some k=>(l.1,l.2.1,s.2.2.1.map (·.2),s.2.2.2.1.map (·.2),k.2.2.2.1.map (·.2),true)|none=>(l.1,l.2.1,s.2.2.1.map (·.2),s.2.2.2.1.map (·.2),[],false)
theorem Jp(h:VG l){s:N8}(hs:l.2.2[i]? =some s):pq l (i:Int)=some (Vl l s):=by
 have hm:=h s (oC hs);unfold pq Vl;rw[J3,hs,o9,Cf o5,o9,Cf o5,o9];by_cases h0:0<=s.2.1
 .rw[bT h0,if_pos h0,o7];by_cases h1:s.2.1<o8 l.2.2
  .obtain⟨k,hk,hkm⟩:=uu h0 h1;have hk' :l.2.2[s.2.1.toNat]? =some k:=(pV hk).2.2.2;rw[fJ h1,o7,hk,o9,Cf (by have:=h k hkm;omega),o9,hk']
  .have h1' :o8 l.2.2<=s.2.1:=qP.1 h1;rw[dV h1',o6,gI (by simp only[o8]at h1';exact Int.le_toNat h0 |>.2 h1')]
 .have h0' :s.2.1<(0:Int):=qO.1 h0;rw[eQ h0',if_neg h0];rfl
theorem b8o(h:VG l){s:N8}(hs:l.2.2[i]? =some s):ES l (i:Int)=some (Vl l s):=by have hi:=(aC.1 hs).1;rw[←Jp h hs];unfold ES pq;rw[dV o5,eQ (by simp only[o8];omega)];rfl
abbrev SI(l:List Int):Prop:=l.Pairwise (·< ·)
theorem Zi:∀{a b:List Int},SI a->SI b->(∀x,x∈a↔x∈b)->a=b
 |[],[],_,_,_=>rfl|[],y::b,_,_,h=>absurd ((h y).2 A8) A8|x::a,[],_,_,h=>absurd ((h x).1 A8) A8|x::a,y::b,ha,hb,h=>by
  have ha' :=U4.1 ha;have hb' :=U4.1 hb;have hxy:x=y:=by
   rcases A7.1 ((h x).1 A8)with h1|h1
   .exact h1
   .rcases A7.1 ((h y).2 A8)with h2|h2
    .exact h2.symm
    .have:=hb'.1 _ h1;have:=ha'.1 _ h2;omega
  subst hxy;congr 1;refine Zi ha'.2 hb'.2 λz=>⟨λhz=>?_,λhz=>?_⟩
  .rcases A7.1 ((h z).1 (by simp[hz]))with h1|h1
   .have:=ha'.1 _ hz;omega
   .exact h1
  .rcases A7.1 ((h z).2 (by simp[hz]))with h1|h1
   .have:=hb'.1 _ hz;omega
   .exact h1
def ins(n:Int):List Int->List Int
 |[]=>[n]|a::l=>if n<=a then(if n<a then n::a::l else a::l)else a::ins n l
theorem UF(n x:Int):∀l,x∈ins n l↔x=n\/x∈l
 |[]=>by simp[ins]|a::l=>by
  unfold ins;by_cases h:n<=a
  .rw[if_pos h];by_cases h2:n<a
   .rw[if_pos h2];simp
   .rw[if_neg h2];have:n=a:=o5;subst this;simp
  .rw[if_neg h,A7,UF n x l,A7];constructor
   .rintro(h|h|h)<;>simp[h]
   .rintro(h|h|h)<;>simp[h]
theorem a3Q(n:Int):∀{l},SI l->SI (ins n l)
 |[],_=>List.pairwise_singleton _ _|a::l,h=>by
  have h' :=U4.1 h;unfold ins;by_cases h1:n<=a
  .rw[if_pos h1];by_cases h2:n<a
   .rw[if_pos h2];refine U4.2 ⟨λx hx=>?_,h⟩;rcases A7.1 hx with rfl|hx
    .exact h2
    .have:=h'.1 x hx;omega
   .rw[if_neg h2];exact h
  .rw[if_neg h1];refine U4.2 ⟨λx hx=>?_,a3Q n h'.2⟩;rcases(UF n x l).1 hx with rfl|hx
   .omega
   .exact h'.1 x hx
def Cm(ns:List Int)(l:List Int):List Int:=ns.foldl (λacc n=>ins n acc) l
theorem JO(x:Int):∀ns l,x∈Cm ns l↔x∈ns\/x∈l
 |[],l=>by simp[Cm]|n::ns,l=>by
  show x∈Cm ns (ins n l)↔_;rw[JO x ns,UF,A7];constructor
  .rintro(h|h|h)<;>simp[h]
  .rintro((h|h)|h)<;>simp[h]
theorem OC:∀ns {l},SI l->SI (Cm ns l)
 |[],_,h=>h|n::ns,_,h=>OC ns (a3Q n h)
theorem Np(a b l:List Int):Cm (a++b) l=Cm b (Cm a l):=List.foldl_append ..
def Jr(l:List Int):List Int:=Cm l []
theorem WE(x:Int)(l:List Int):x∈Jr l↔x∈l:=by unfold Jr;rw[JO];simp
theorem Y_(l:List Int):SI (Jr l):=OC l List.Pairwise.nil
theorem vF(n:Int):∀l,(ins n l).length<=l.length+1
 |[]=>by simp[ins]|a::l=>by
  unfold ins;by_cases h1:n<=a
  .rw[if_pos h1];by_cases h2:n<a
   .rw[if_pos h2];simp
   .rw[if_neg h2];simp
  .rw[if_neg h1];have:=vF n l;simp only[D7];omega
theorem BC:∀ns l,(Cm ns l).length<=l.length+ns.length
 |[],l=>by simp[Cm]|n::ns,l=>by have h1:=BC ns (ins n l);have h2:=vF n l;show(Cm ns (ins n l)).length<=_;simp only[D7];omega
theorem Wx(l:List Int):(Jr l).length<=l.length:=by have:=BC l [];unfold Jr;simpa using this
theorem Vk{l:List Int}(n:Nat)(h:SI l)(h2:∀x∈l,0<=x/\x<n):l.length<=n:=by
 have key:∀(l:List Int) (lo:Int),SI l->(∀x∈l,lo<=x/\x<n)->lo<=n->(l.length:Int)<=n -lo:=by
  intro l;induction l with
  |nil=>intro lo _ _ hlo;simp;omega|cons a l ih=>intro lo hs hb hlo;have h' :=U4.1 hs;have ha:=hb a A8;have:=ih (a+1) h'.2 (λx hx=>⟨by have:=h'.1 x hx;omega,(hb x (by simp[hx])).2⟩) o5;simp only[D7];omega
 have:=key l 0 h (λx hx=>h2 x hx) o5;omega
theorem Pq(x:Int):∀(l:List Int) (p:Int),(p::l).Pairwise (·<=·)->SI (p::ddp p l)/\(x∈p::ddp p l↔x∈p::l)
 |[],p,_=>⟨List.pairwise_singleton _ _,Iff.rfl⟩|a::l,p,h=>by
  have h1:=U4.1 h;obtain⟨i1,i2⟩:=Pq x l a h1.2;have h2:=U4.1 h1.2;have hpa:=h1.1 a A8;unfold ddp;cases hq:C9 a p
  .rw[wI]at hq;simp only[cond_false];refine⟨U4.2 ⟨λy hy=>?_,i1⟩,?_⟩
   .rcases A7.1 hy with rfl|hy
    .omega
    .have:=(U4.1 i1).1 y hy;omega
   .rw[A7,i2,A7 (a:=x) (b:=p)]
  .rw[jC]at hq;subst hq;simp only[cond_true];refine⟨i1,?_⟩;rw[i2];simp
theorem a1N(l:List Int):dd (FK l)=Jr l:=by
 have hs:=Eb l;have hp:=Ea l;refine Zi ?_ (Y_ l) λx=>?_
 .cases he:FK l with
  |nil=>exact List.Pairwise.nil|cons a r=>rw[he]at hs;exact(Pq a r a hs).1
 .rw[WE,←hp.mem_iff];cases he:FK l with
  |nil=>exact Iff.rfl|cons a r=>rw[he]at hs;exact(Pq x r a hs).2
theorem a0G(l:List Int):(FK l).length=l.length:=(Ea l).length_eq
theorem a6k{l:List Int}(h:l.length<=1000000):l9 (zZ l) (λx=>oq x)=some (Jr l):=by unfold zZ oq;rw[show Nat.blt l.length 4611686018427387904=true from by simp[Nat.blt];omega];simp only[cond_true,o9];rw[show Nat.blt (FK l).length 4611686018427387904=true from by rw[a0G];simp[Nat.blt];omega];rw[cond_true,a1N]
def hg(l:List Int)(i:Nat):Int:=l.getD i 0
theorem Ri{l:List α}{a:α}(h:(l.take n)[i]? =some a):i<n/\l[i]? =some a:=by
 rw[U1]at h;split at h
 .exact⟨by assumption,h⟩
 .cases h
theorem Eo{l:List dW}(hl:l.length<=1000000)(n:Nat)(nm:List UInt8):qj l (n:Int) nm=some ((l.take n).any λx=>seq x.1 nm):=by
 unfold qj;refine X8 (Bg (l.take n) (λx=>seq x.1 nm) true PUnit.unit H7 (λi a ha=>?_) ?_) ?_
 rotate_left 2
 .cases (l.take n).any λx=>seq x.1 nm<;>rfl
 .obtain⟨h1,h2⟩:=Ri ha;rw[fJ (show(i:Int)<n by omega),O0 h2,J3,h2];simp only[o7,o9];cases seq a.1 nm<;>rfl
 .by_cases h:n<l.length
  .have e:(l.take n).length=n:=by simp;omega
   rw[e,dV o5];rfl
  .have e:(l.take n).length=l.length:=by simp;omega
   rw[e,N9];cases H9 (l.length:Int) (n:Int)<;>rfl
def Ce(en:List Z5)(f:dW)(a b:List dW):Int:=
 l7 (vC f.1) (l7 (a.any λx=>seq x.1 f.1) 7 (l7 (b.any λx=>seq x.1 f.1) 7 (l7 (vty f.2 en) 0 8))) 2
theorem Ik{f:dW}{a b:List dW}(h:f.1.length<=1000000)(ha:a.length<=1000000)(hb:b.length<=1000000):sH l f a b=some (Ce l.1 f a b):=by
 unfold sH Ce;rw[nX h,o9,Nh _ ha,o9,Nh _ hb,o9,uk,o9];cases vC f.1
 .rfl
 cases a.any λx=>seq x.1 f.1
 case true=>rfl
 cases b.any λx=>seq x.1 f.1
 case true=>rfl
 cases vty f.2 l.1<;>rfl
def JD(c e:Int):Option (Int×Int):=l7 (C9 c 0) none (some (c,e))
def inP(l:au)(s:N8)(i:Nat):Option (Int×Int):=match s.2.2.1[i]? with|some f=>JD (Ce l.1 f (s.2.2.1.take i) []) (100+i:Nat)|none=>none
def RS(l:au)(s:N8)(i:Nat):Option (Int×Int):=match s.2.2.2.1[i]? with|some f=>JD (Ce l.1 f s.2.2.1 (s.2.2.2.1.take i)) (200+i:Nat)|none=>none
def VE(s:N8):Prop:=(∀f∈s.2.2.1,f.1.length<=1000000)/\(∀f∈s.2.2.2.1,f.1.length<=1000000)
theorem Nk{c i:Nat}(hc:c<=1000)(h:i<=1000000):F9 .i64 (c:Int) (i:Int)=((c+i:Nat):Int):=by rw[kV jP];omega
def Oa(i:Int)(r:Int×Int):Int×Int×Int×Int:=(r.1,3,i,r.2)
theorem BA{ρ ρ' :Type}(g:ρ->ρ')(n:Nat)(p:Nat->Option ρ):bg n (λi=>(p i).map g)=(bg n p).map g:=by
 unfold bg;induction n with
 |zero=>rfl|succ n ih=>rw[fB,jE,jE,ih];cases (List.range n).findSome? p<;>simp
def uM(l:au)(s:N8):Option (Int×Int):=match bg s.2.2.1.length (inP l s)with|some r=>some r|none=>bg s.2.2.2.1.length (RS l s)
theorem Qv{s:N8}(hs:l.2.2[i]? =some s)(h1:s.2.2.1.length<=1000)(h2:s.2.2.2.1.length<=1000)(hf:VE s):
  tX l (i:Int)=some (match uM l s with|some r=>Oa i r|none=>(0,0,0,0)):=by
 unfold tX uM;rw[J3,hs,o9];refine X8 (mM (p:=λk=>(inP l s k).map (Oa i)) s.2.2.1.length o5 _ (0,0,0,0) (λk hk=>?_) ?_) ?_
 rotate_left 2
 .rw[BA];cases bg s.2.2.1.length (inP l s)
  case some r=>rfl
  simp only[Option.map_none,aj];refine X8 (mM (p:=λk=>(RS l s k).map (Oa i)) s.2.2.2.1.length o5 _ (0,0,0,0) (λk hk=>?_) ?_) ?_
  rotate_left 2
  .rw[BA];cases bg s.2.2.2.1.length (RS l s)<;>rfl
  .have e:=lM hk;have hm:=hf.2 _ (N7 hk);simp only[O0 e,o7,J3,e,o9,mV hm,show o8 s.2.2.1=((s.2.2.1.length:Nat):Int)from rfl,Eo (show s.2.2.1.length<=1000000 by omega),Eo (show s.2.2.2.1.length<=1000000 by omega),ig,RS,Ce,JD,dA];rw[show(200:Int)=((200:Nat):Int)from rfl,Nk o5 o5];cases vC s.2.2.2.1[k].1
   .rfl
   cases s.2.2.1.any λx=>seq x.1 s.2.2.2.1[k].1
   case true=>rfl
   cases (s.2.2.2.1.take k).any λx=>seq x.1 s.2.2.2.1[k].1
   case true=>rfl
   cases vty s.2.2.2.1[k].2 l.1<;>rfl
  .simp only[N9];rfl
 .have e:=lM hk;have hm:=hf.1 _ (N7 hk);simp only[O0 e,o7,J3,e,o9,mV hm,Eo (show s.2.2.1.length<=1000000 by omega),ig,inP,Ce,JD];rw[show(100:Int)=((100:Nat):Int)from rfl,Nk o5 o5];cases vC s.2.2.1[k].1
  .rfl
  cases (s.2.2.1.take k).any λx=>seq x.1 s.2.2.1[k].1
  case true=>rfl
  cases vty s.2.2.1[k].2 l.1<;>rfl
 .simp only[N9];rfl
def arF(op:Int):Int:=(gQ op).getD 0
variable {op:Int}
theorem Qo(h:1<=op/\op<=39):∃k:Fin 40,op=(k.val:Int):=⟨⟨op.toNat,o5⟩,by simp;omega⟩
theorem b0J:∀k:Fin 40,1<=k.val->(jA (k.val:Int)=gQ (k.val:Int))/\(gQ (k.val:Int)=some 0\/gQ (k.val:Int)=some 1\/gQ (k.val:Int)=some 2\/gQ (k.val:Int)=some 3):=by decide+kernel
theorem UA(h:¬(1<=op/\op<=39))(k:Int)(h1:1<=k)(h2:k<=39):C9 op k=false:=U8 o5
theorem UN(h:¬(1<=op/\op<=39)):gQ op=some (-1):=by
 unfold gQ;by_cases h1:1<=op
 .rw[bT h1,o7,eQ (show(9:Int)<op by omega),o6,eQ (show(39:Int)<op by omega),eQ (show(30:Int)<op by omega)];simp[UA h];cases U3 35 op<;>cases U3 11 op<;>rfl
 .rw[eQ (show op<1 by omega),o6,eQ (show op<35 by omega),eQ (show op<11 by omega)];simp[UA h]
theorem a7m(h:¬(1<=op/\op<=39)):jA op=some (-1):=by unfold jA;simp[UA h]
theorem CU(op:Int):jA op=some (arF op)/\gQ op=some (arF op)/\(arF op=-1\/arF op=0\/arF op=1\/arF op=2\/arF op=3):=by
 unfold arF;by_cases h:1<=op/\op<=39
 .obtain⟨k,rfl⟩:=Qo h;obtain⟨h1,h2⟩:=b0J k o5;rcases h2 with h2|h2|h2|h2<;>rw[h1,h2]<;>simp
 .rw[a7m h,UN h];simp
theorem a1E(op:Int):jA op=some (arF op):=(CU op).1
theorem a7C(op:Int):gQ op=some (arF op):=(CU op).2.1
inductive XT where
 |l0 (n:Int×Int)|l1 (n:Int×Int) (a:XT)|l2 (n:Int×Int) (a b:XT)|l3 (n:Int×Int) (a b c:XT)
def XT.size:XT->Nat
 | .l0 _=>1| .l1 _ a=>a.size+1| .l2 _ a b=>a.size+b.size+1| .l3 _ a b c=>a.size+b.size+c.size+1
def XT.post:XT->List (Int×Int)
 | .l0 n=>[n]| .l1 n a=>a.post++[n]| .l2 n a b=>a.post++b.post++[n]| .l3 n a b c=>a.post++b.post++c.post++[n]
def XT.sts(o:Nat):XT->List Int
 | .l0 _=>[(o:Int)]| .l1 _ a=>a.sts o++[(o:Int)]| .l2 _ a b=>a.sts o++b.sts (o+a.size)++[(o:Int)]| .l3 _ a b c=>a.sts o++b.sts (o+a.size)++c.sts (o+a.size+b.size)++[(o:Int)]
theorem XT.size_pos(t:XT):0<t.size:=by cases t<;>simp[XT.size]
theorem XT.post_len(t:XT):t.post.length=t.size:=by
 induction t with
 |l0 n=>rfl|l1 n a ha=>simp[XT.post,XT.size,ha]|l2 n a b ha hb=>simp[XT.post,XT.size,ha,hb];try omega
 |l3 n a b c ha hb hc=>simp[XT.post,XT.size,ha,hb,hc];try omega
theorem XT.sts_len(t:XT):∀o,(t.sts o).length=t.size:=by
 induction t with
 |l0 n=>intro o;rfl|l1 n a ha=>intro o;simp[XT.sts,XT.size,ha]|l2 n a b ha hb=>intro o;simp[XT.sts,XT.size,ha,hb];try omega
 |l3 n a b c ha hb hc=>intro o;simp[XT.sts,XT.size,ha,hb,hc];try omega
def gB:List XT->Nat
 |[]=>0|t::r=>gB r+t.size
def EP:List XT->List (Int×Int)
 |[]=>[]|t::r=>EP r++t.post
def stR:List XT->List Int
 |[]=>[]|t::r=>stR r++t.sts (gB r)
def lm:List XT->List Int
 |[]=>[]|t::r=>lm r++[(gB r:Int)]
theorem kZ:∀ts,(lm ts).length=ts.length
 |[]=>rfl|t::r=>by simp[lm,kZ r]
theorem zH:∀ts,(stR ts).length=gB ts
 |[]=>rfl|t::r=>by simp[stR,gB,zH r,XT.sts_len]
theorem Ho:∀ts,(EP ts).length=gB ts
 |[]=>rfl|t::r=>by simp[EP,gB,Ho r,XT.post_len]
def push(n:Int×Int)(ts:List XT):Int⊕List XT:=
 if arF n.1=0 then .inr (.l0 n::ts)
 else if arF n.1=1 then(match ts with|a::r=> .inr (.l1 n a::r)|_=> .inl 5)
 else if arF n.1=2 then(match ts with|b::a::r=> .inr (.l2 n a b::r)|_=> .inl 5)
 else if arF n.1=3 then(match ts with|c::b::a::r=> .inr (.l3 n a b c::r)|_=> .inl 5)
 else .inl 2
def ru:Nat->List (Int×Int)->List XT->(Int×Int)⊕List XT
 |_,[],ts=> .inr ts
 |i,n::es,ts=>match push n ts with
  | .inl c=> .inl ((i:Int),c)| .inr ts' =>if 12<ts'.length then .inl ((i:Int),16)else ru (i+1) es ts'
def lG(e:List (Int×Int)):(Int×Int)⊕XT:=
 if 48<e.length then .inl (0,4)else if e.length=0 then .inl (0,5)else
  match ru 0 e []with
  | .inl x=> .inl x| .inr [t]=> .inr t| .inr _=> .inl ((e.length:Int),4)
theorem TL{n:Int×Int}{ts ts' :List XT}(h:push n ts= .inr ts'):EP ts' =EP ts++[n]/\ts' ≠[]:=by
 unfold push at h;split at h
 .cases h;exact⟨rfl,A8⟩
 split at h
 .split at h
  .cases h;exact⟨by simp[EP,XT.post],A8⟩
  .cases h
 split at h
 .split at h
  .cases h;exact⟨by simp[EP,XT.post],A8⟩
  .cases h
 split at h
 .split at h
  .cases h;exact⟨by simp[EP,XT.post],A8⟩
  .cases h
 .cases h
theorem Hr{n:Int×Int}{ts ts' :List XT}(h:push n ts= .inr ts'):gB ts' =gB ts+1:=by rw[←Ho,←Ho,(TL h).1];simp
theorem En:∀(es:List (Int×Int)) (i:Nat) (ts ts' :List XT),ru i es ts= .inr ts' ->EP ts' =EP ts++es/\(ts≠[]\/es≠[]->ts' ≠[])
 |[],i,ts,ts',h=>by cases h;exact⟨A8,A8⟩|n::es,i,ts,ts',h=>by
  unfold ru at h;cases hp:push n ts with
  |inl c=>rw[hp]at h;cases h|inr t2=>
   rw[hp]at h;simp only at h;split at h
   .cases h
   .obtain⟨h1,h2⟩:=En es (i+1) t2 ts' h;obtain⟨h3,h4⟩:=TL hp;exact⟨by rw[h1,h3];simp,λ_=>h2 (.inl h4)⟩
theorem yQ{e:List (Int×Int)}{t:XT}(h:lG e= .inr t):e=t.post/\e.length<=48:=by
 unfold lG at h;split at h
 .cases h
 split at h
 .cases h
 split at h
 .cases h
 .rename_i t' hp;cases h;have:=(En e 0 [] [t] hp).1;exact⟨by simpa[EP]using this.symm,o5⟩
 .cases h
theorem NY(e:List (Int×Int))(he:e.length<=48)(g:List XT->σ)(fin:List XT->ε)(rt:Int×Int->ρ){f:σ->Option (Out σ ε ρ)}
  (hs:∀(i:Nat) (n:Int×Int) (ts:List XT),e[i]? =some n->i=gB ts->ts.length<=12->f (g ts)=some (match push n ts with
   | .inl c=> .rt (rt ((i:Int),c))
   | .inr ts' =>if 12<ts'.length then .rt (rt ((i:Int),16))else .nx (g ts')))
  (hend:∀ts,gB ts=e.length->f (g ts)=some (.ex (fin ts))):
  U7 f (g [])=some (match ru 0 e []with| .inl x=> .inr (rt x)| .inr ts=> .inl (fin ts)):=by
 have key:∀(es:List (Int×Int)) (i:Nat) (ts:List XT) (k:Nat),e.drop i=es->i=gB ts->ts.length<=12->i<=e.length->es.length<k->
   jG f k (g ts)=some (match ru i es ts with| .inl x=> .inr (rt x)| .inr ts=> .inl (fin ts)):=by
  intro es;induction es with
  |nil=>
   intro i ts k hd hi hl hle hk;obtain⟨k,rfl⟩:∃k',k=k' +1:=⟨k -1,o5⟩;have:i=e.length:=by have:=congrArg List.length hd;simp at this;omega
   unfold jG;rw[hend ts o5];rfl
  |cons n es ih=>
   intro i ts k hd hi hl hle hk;obtain⟨k,rfl⟩:∃k',k=k' +1:=⟨k -1,o5⟩;have hn:e[i]? =some n:=by
    have:(e.drop i)[0]? =some n:=by rw[hd];rfl
    simpa using this
   have hlt:=(aC.1 hn).1;unfold jG;rw[hs i n ts hn hi hl];unfold ru;cases hp:push n ts with
   |inl c=>rfl|inr ts' =>
    simp only;by_cases h12:12<ts'.length
    .rw[if_pos h12,if_pos h12]
    .rw[if_neg h12,if_neg h12];exact ih (i+1) ts' k (by rw[←V5,hd];rfl) (by rw[Hr hp,hi]) o5 o5 (by simp at hk;omega)
 exact key e 0 [] jq rfl rfl A8 o5 (by unfold jq;omega)
theorem WJ:∀(p r:List XT),∃X,lm (p++r)=lm r++X/\X.length=p.length/\(p≠[]->X.head?=some (gB r:Int))
 |[],r=>⟨[],A8,rfl,λh=>absurd rfl h⟩|a::p,r=>by
  obtain⟨X,h1,h2,h3⟩:=WJ p r;refine⟨X++[(gB (p++r):Int)],?_,by simp[h2],λ_=>?_⟩
  .show lm (p++r)++[(gB (p++r):Int)]=_;rw[h1,F6]
  .cases p with
   |nil=>simp at h2;subst h2;rfl|cons b p=>rw[List.head?_append,h3 A8];rfl
theorem LQ(p r:List XT)(k:Int)(hk:k=(p.length:Int))(h:p.length+r.length<=100)(hp:p≠[]):
  O5 .i64 (o8 (lm (p++r))) k=(r.length:Int)/\J9 (lm (p++r)) (r.length:Int)=some (gB r:Int)/\dM (lm (p++r)) (aV (r.length:Int))=some (gB r:Int)
  /\jO 0 (r.length:Int) (o8 (lm (p++r)))=true/\iO (lm (p++r)) (aV 0) (aV (r.length:Int))=lm r:=by
 obtain⟨X,h1,h2,h3⟩:=WJ p r;have hl:(lm (p++r)).length=r.length+p.length:=by rw[kZ];simp;omega
 have hg:(lm (p++r))[r.length]? =some (gB r:Int):=by rw[h1,I4 (by rw[kZ];omega),kZ,fZ,←List.head?_eq_getElem?];exact h3 hp
 refine⟨?_,?_,?_,?_,?_⟩
 .simp only[o8,hl];rw[jY jP];omega
 .rw[J3];exact hg
 .exact hg
 .simp only[jO,o8,hl,decide_eq_true_eq];omega
 .show((lm (p++r)).take r.length).drop 0=_;rw[h1,jS,X5 (by rw[kZ];omega),P7 (by rw[kZ];omega)]
theorem Nl(ts:List XT):H9 12 (o8 (lm ts))=decide (12<ts.length):=by rw[show o8 (lm ts)=((ts.length:Nat):Int) by simp[o8,kZ]];exact JF 12 ts.length
theorem pU{l:List α}(x:α)(h:l.length<=1000000):bF l [x]=some (l++[x]):=uP H7
theorem Dh(ts:List XT)(k:Nat):H9 (o8 (lm ts)) (k:Int)=decide (ts.length<k):=by rw[show o8 (lm ts)=((ts.length:Nat):Int) by simp[o8,kZ]];exact JF _ _
def uj(e:List (Int×Int)):List Int×Int×Int:=match lG e with| .inl x=>([],x)| .inr t=>(t.sts 0,0,0)
theorem TG{e:List (Int×Int)}(h0:e.length≠0){K:List Int×Int×Int->List Int×Int×Int}(h48:¬48<e.length)
  {r:List Int×Int×Int} (h:∀ts,ru 0 e []= .inr ts->r=l7 (H9 1 (o8 (lm ts))) ([],o8 e,4) (stR ts,0,0)) (hi:∀x,ru 0 e []= .inl x->r=([],x)):r=uj e:=by
 unfold uj lG;rw[if_neg h48,if_neg h0];cases hp:ru 0 e []with
 |inl x=>exact hi x hp|inr ts=>
  rw[h ts hp];have:=(En e 0 [] ts hp).2 (.inr (by intro he;subst he;exact h0 rfl));match ts,this with
  |[t],_=>simp[lm,o8,H9,stR,gB]|a::b::ts,_=>rw[fJ (by simp[o8,kZ];omega)];rfl
theorem SA(e:List (Int×Int)):oh e=some (uj e):=by
 unfold oh;by_cases h48:48<e.length
 .rw[fJ (by simp[o8];omega),o7];unfold uj lG;rw[if_pos h48]
 by_cases h0:e.length=0
 .rw[dV (by simp[o8];omega),o6,bH (by simp[o8,h0]),o7];unfold uj lG;rw[if_neg h48,if_pos h0]
 rw[dV (by simp[o8];omega),o6,U8 (by simp[o8];intro h;exact h0 (by simp[h])),o6];refine X8 (NY e o5 (λts=>(stR ts,lm ts,(gB ts:Int))) (λts=>(stR ts,lm ts)) (λx=>(([]:List Int),x)) (λi n ts hn hi hl=>?_) (λts hsz=>?_)) ?_
 rotate_left 2
 .rw[←TG h0 h48 (K:=id) (r:=match ru 0 e []with| .inl x=>([],x)| .inr ts=>l7 (H9 1 (o8 (lm ts))) ([],o8 e,4) (stR ts,0,0)) (λts h=>by rw[h]) (λx h=>by rw[h])];cases ru 0 e []with
  |inl x=>rfl|inr ts=>simp only[o9,aj];cases H9 1 (o8 (lm ts))<;>rfl
 .subst hi;have hlt:=(aC.1 hn).1;have hst:=zH ts;have hof:=kZ ts;simp only[O0 hn,o7,J3,hn,o9,a7C];rcases(CU n.1).2.2 with h|h|h|h|h
  .rw[show push n ts= .inl 2 by simp[push,h],h];rfl
  .rw[show push n ts= .inr (.l0 n::ts) by simp[push,h],h,dV o5,o6,dV (Nq _),o6,o6,pU _ o5,o9,pU _ o5,o9,bY o5];rw[show lm ts++[(gB ts:Int)]=lm (.l0 n::ts)from rfl,Nl];by_cases hc:12<(XT.l0 n::ts).length
   .simp only[hc,decide_true,if_true,o7]
   .simp only[hc,decide_false,if_false,o6];rfl
  .match ts with
   |[]=>rw[show push n []= .inl 5 by simp[push,h],h];rfl|a::r=>
    obtain⟨p1,p2,p3,p4,p5⟩:=LQ [a] r 1 rfl (by simp at hl ⊢;omega) A8;simp only[J8,E9]at p1 p2 p3 p4 p5;have:=zH (a::r);have:=kZ r;simp only[D7]at hl;rw[show push n (a::r)= .inr (.l1 n a::r) by simp[push,h],h,dV o5,o6,show(1:Int)=((1:Nat):Int)from rfl,Dh,show decide ((a::r).length<1)=false by simp];simp only[Int.natCast_one]at p1 ⊢;rw[o6,fJ o5,o7,p1,p2,o9,p3,o9,p4,o7,p5,pU _ o5,o9,pU _ o5,o9,bY o5];rw[show lm r++[(gB r:Int)]=lm (.l1 n a::r)from rfl,Nl];by_cases hc:12<(XT.l1 n a::r).length
    .simp only[hc,decide_true,if_true,o7]
    .simp only[hc,decide_false,if_false,o6,stR,XT.sts,F6,gB,XT.size,dO]
  .match ts with
   |[]=>rw[show push n []= .inl 5 by simp[push,h],h];rfl|[a]=>rw[show push n [a]= .inl 5 by simp[push,h],h];rfl|b::a::r=>
    obtain⟨p1,p2,p3,p4,p5⟩:=LQ [b,a] r 2 rfl (by simp at hl ⊢;omega) A8;simp only[J8,E9]at p1 p2 p3 p4 p5;have:=zH (b::a::r);have:=kZ r;simp only[D7]at hl;rw[show push n (b::a::r)= .inr (.l2 n a b::r) by simp[push,h],h,dV o5,o6,show(2:Int)=((2:Nat):Int)from rfl,Dh,show decide ((b::a::r).length<2)=false by simp];rw[o6,fJ o5,o7,show((2:Nat):Int)=2 from rfl,p1,p2,o9,p3,o9,p4,o7,p5,pU _ o5,o9,pU _ o5,o9,bY o5];rw[show lm r++[(gB r:Int)]=lm (.l2 n a b::r)from rfl,Nl];by_cases hc:12<(XT.l2 n a b::r).length
    .simp only[hc,decide_true,if_true,o7]
    .simp only[hc,decide_false,if_false,o6,stR,XT.sts,F6,gB,XT.size,dO]
  .match ts with
   |[]=>rw[show push n []= .inl 5 by simp[push,h],h];rfl|[a]=>rw[show push n [a]= .inl 5 by simp[push,h],h];rfl|[b,a]=>rw[show push n [b,a]= .inl 5 by simp[push,h],h];rfl|c::b::a::r=>
    obtain⟨p1,p2,p3,p4,p5⟩:=LQ [c,b,a] r 3 rfl (by simp at hl ⊢;omega) A8;simp only[J8,E9]at p1 p2 p3 p4 p5;have:=zH (c::b::a::r);have:=kZ r;simp only[D7]at hl;rw[show push n (c::b::a::r)= .inr (.l3 n a b c::r) by simp[push,h],h,dV o5,o6,show(3:Int)=((3:Nat):Int)from rfl,Dh,show decide ((c::b::a::r).length<3)=false by simp];rw[o6,fJ o5,o7,show((3:Nat):Int)=3 from rfl,p1,p2,o9,p3,o9,p4,o7,p5,pU _ o5,o9,pU _ o5,o9,bY o5];rw[show lm r++[(gB r:Int)]=lm (.l3 n a b c::r)from rfl,Nl];by_cases hc:12<(XT.l3 n a b c::r).length
    .simp only[hc,decide_true,if_true,o7]
    .simp only[hc,decide_false,if_false,o6,stR,XT.sts,F6,gB,XT.size,dO]
 .simp only[hsz,N9];rfl
def pd(l:List Int)(k:Nat):List Int:=l++List.replicate k 0
theorem a2H(l:List Int)(m:Nat):J9 (pd l (m+1)) (l.length:Int)=some 0:=by rw[J3];unfold pd;rw[I4 o5,fZ];rfl
theorem a5C(l:List Int)(m:Nat):dM (pd l (m+1)) (aV (l.length:Int))=some 0:=by have:=a2H l m;rw[J3]at this;exact this
theorem a7B(l:List Int)(m:Nat)(v:Int):qR (pd l (m+1)) (aV (l.length:Int)) v=pd (l++[v]) m:=by show(l++List.replicate (m+1) 0).set l.length v=_;rw[nI _ _ o5,fZ,List.replicate_succ];simp[pd]
theorem Ou(l:List Int)(m:Nat)(v w:Int):qR (pd (l++[v]) m) (aV (l.length:Int)) w=pd (l++[w]) m:=by show(l++[v]++List.replicate m 0).set l.length w=_;rw[F6,nI _ _ o5,fZ];simp[pd]
theorem Ko(l:List Int)(m:Nat)(v:Int):J9 (pd (l++[v]) m) (l.length:Int)=some v:=by rw[J3];unfold pd;rw[F6,I4 o5,fZ];rfl
theorem Kq(l:List Int)(m:Nat)(v:Int):dM (pd (l++[v]) m) (aV (l.length:Int))=some v:=by have:=Ko l m v;rw[J3]at this;exact this
theorem KN(e:List (Int×Int)):rY e=some (uj e):=by
 unfold rY;by_cases h48:48<e.length
 .rw[fJ (by simp[o8];omega),o7];unfold uj lG;rw[if_pos h48]
 by_cases h0:e.length=0
 .rw[dV (by simp[o8];omega),o6,bH (by simp[o8,h0]),o7];unfold uj lG;rw[if_neg h48,if_pos h0]
 rw[dV (by simp[o8];omega),o6,U8 (by simp[o8];intro h;exact h0 (by simp[h])),o6];rw[show Ib (o8 e) (0:Int)=some (pd (stR []) (e.length -gB [])) by simp[Ib,o8,pd,stR,gB];omega,o9];refine X8 (NY e o5 (λts=>(pd (stR ts) (e.length -gB ts),lm ts,(gB ts:Int))) (λts=>(pd (stR ts) (e.length -gB ts),lm ts)) (λx=>(([]:List Int),x)) (λi n ts hn hi hl=>?_) (λts hsz=>?_)) ?_
 rotate_left 2
 .rw[←TG h0 h48 (K:=id) (r:=match ru 0 e []with| .inl x=>([],x)| .inr ts=>l7 (H9 1 (o8 (lm ts))) ([],o8 e,4) (stR ts,0,0)) (λts h=>by rw[h]) (λx h=>by rw[h])];cases hp:ru 0 e []with
  |inl x=>rfl|inr ts=>
   have:=(En e 0 [] ts hp).1;have hz:e.length -gB ts=0:=by have:=congrArg List.length this;rw[Ho]at this;simp[EP]at this;omega
   simp only[o9,aj,hz,pd,List.replicate_zero,E8];cases H9 1 (o8 (lm ts))<;>rfl
 .subst hi;have hlt:=(aC.1 hn).1;have hst:=zH ts;have hof:=kZ ts;obtain⟨m,hm⟩:∃m,e.length -gB ts=m+1:=⟨e.length -gB ts -1,o5⟩;simp only[O0 hn,o7,J3 e,hn,o9,a1E,hm];rw[←hst];simp only[a2H,a5C,o9,a7B,Ko,Kq,Ou];rw[hst];rcases(CU n.1).2.2 with h|h|h|h|h
  .rw[show push n ts= .inl 2 by simp[push,h],h];rfl
  .have e0:O5 .i64 (o8 (lm ts)) 0=((lm ts).length:Int):=by rw[jY (by unfold b7W o8;omega)];simp[o8]
   rw[show push n ts= .inr (.l0 n::ts) by simp[push,h],h,dV o5,o6,dV (Nq _),o6,o6,e0,show jO 0 ((lm ts).length:Int) (o8 (lm ts))=true by simp[jO,o8],o7,
    show iO (lm ts) (aV 0) (aV ((lm ts).length:Int))=lm ts by simp[iO,aV],pU _ o5,o9,bY o5]
   rw[show lm ts++[(gB ts:Int)]=lm (.l0 n::ts)from rfl,Nl];by_cases hc:12<(XT.l0 n::ts).length
   .simp only[hc,decide_true,if_true,o7]
   .simp only[hc,decide_false,if_false,o6,gB,XT.size,stR,XT.sts,show e.length -(gB ts+1)=m by omega]
  .match ts with
   |[]=>rw[show push n []= .inl 5 by simp[push,h],h];rfl|a::r=>
    obtain⟨p1,p2,p3,p4,p5⟩:=LQ [a] r 1 rfl (by simp at hl ⊢;omega) A8;simp only[J8,E9]at p1 p2 p3 p4 p5;have:=zH (a::r);have:=kZ r;simp only[D7]at hl;rw[show push n (a::r)= .inr (.l1 n a::r) by simp[push,h],h,dV o5,o6,show(1:Int)=((1:Nat):Int)from rfl,Dh,show decide ((a::r).length<1)=false by simp];simp only[Int.natCast_one]at p1 ⊢;rw[o6,fJ o5,o7,p1,p2,o9,p3,o9,p4,o7,p5];rw[←hst]
    try simp only[Ou,Ko,Kq,o9]
    rw[hst,pU _ o5,o9,bY o5];rw[show lm r++[(gB r:Int)]=lm (.l1 n a::r)from rfl,Nl];have hz:=Hr (show push n (a::r)= .inr (.l1 n a::r) by simp[push,h]);by_cases hc:12<(XT.l1 n a::r).length
    .simp only[hc,decide_true,if_true,o7]
    .simp only[hc,decide_false,if_false,o6,hz,show e.length -(gB (a::r)+1)=m by omega,stR,XT.sts,F6]
  .match ts with
   |[]=>rw[show push n []= .inl 5 by simp[push,h],h];rfl|[a]=>rw[show push n [a]= .inl 5 by simp[push,h],h];rfl|b::a::r=>
    obtain⟨p1,p2,p3,p4,p5⟩:=LQ [b,a] r 2 rfl (by simp at hl ⊢;omega) A8;simp only[J8,E9]at p1 p2 p3 p4 p5;have:=zH (b::a::r);have:=kZ r;simp only[D7]at hl;rw[show push n (b::a::r)= .inr (.l2 n a b::r) by simp[push,h],h,dV o5,o6,show(2:Int)=((2:Nat):Int)from rfl,Dh,show decide ((b::a::r).length<2)=false by simp];rw[o6,fJ o5,o7,show((2:Nat):Int)=2 from rfl,p1,p2,o9,p3,o9,p4,o7,p5];rw[←hst]
    try simp only[Ou,Ko,Kq,o9]
    rw[hst,pU _ o5,o9,bY o5];rw[show lm r++[(gB r:Int)]=lm (.l2 n a b::r)from rfl,Nl];have hz:=Hr (show push n (b::a::r)= .inr (.l2 n a b::r) by simp[push,h]);by_cases hc:12<(XT.l2 n a b::r).length
    .simp only[hc,decide_true,if_true,o7]
    .rw[hz,show e.length -(gB (b::a::r)+1)=m by omega,show stR (.l2 n a b::r)=stR (b::a::r)++[(gB r:Int)] by simp only[stR,XT.sts,F6,gB]];simp only[hc,decide_false,if_false,o6]
  .match ts with
   |[]=>rw[show push n []= .inl 5 by simp[push,h],h];rfl|[a]=>rw[show push n [a]= .inl 5 by simp[push,h],h];rfl|[b,a]=>rw[show push n [b,a]= .inl 5 by simp[push,h],h];rfl|c::b::a::r=>
    obtain⟨p1,p2,p3,p4,p5⟩:=LQ [c,b,a] r 3 rfl (by simp at hl ⊢;omega) A8;simp only[J8,E9]at p1 p2 p3 p4 p5;have:=zH (c::b::a::r);have:=kZ r;simp only[D7]at hl;rw[show push n (c::b::a::r)= .inr (.l3 n a b c::r) by simp[push,h],h,dV o5,o6,show(3:Int)=((3:Nat):Int)from rfl,Dh,show decide ((c::b::a::r).length<3)=false by simp];rw[o6,fJ o5,o7,show((3:Nat):Int)=3 from rfl,p1,p2,o9,p3,o9,p4,o7,p5];rw[←hst]
    try simp only[Ou,Ko,Kq,o9]
    rw[hst,pU _ o5,o9,bY o5];rw[show lm r++[(gB r:Int)]=lm (.l3 n a b c::r)from rfl,Nl];have hz:=Hr (show push n (c::b::a::r)= .inr (.l3 n a b c::r) by simp[push,h]);by_cases hc:12<(XT.l3 n a b c::r).length
    .simp only[hc,decide_true,if_true,o7]
    .rw[hz,show e.length -(gB (c::b::a::r)+1)=m by omega,show stR (.l3 n a b c::r)=stR (c::b::a::r)++[(gB r:Int)] by simp only[stR,XT.sts,F6,gB]];simp only[hc,decide_false,if_false,o6]
 .simp only[hsz,N9];rfl
end Go.GP
namespace Go.GP
open Gt
set_option maxRecDepth 100000
def VT(t:Int×Int):Prop:=t=(1,0)\/t=(2,0)\/t=(3,0)\/t=(4,0)\/t=(5,0)\/∃e,t=(6,e)
theorem GH{t:Int×Int}{en:List Z5}(h:vty t en=true):VT t:=by
 obtain⟨k,e⟩:=t;unfold vty at h;simp only at h;cases h6:C9 k 6
 .rw[h6,o6]at h;cases h1:U3 1 k<;>rw[h1]at h
  .cases h
  cases h5:U3 k 5<;>rw[h5]at h
  .cases h
  simp only[o7,jC]at h;rw[uN]at h1 h5;subst h;have:k=1\/k=2\/k=3\/k=4\/k=5:=o5;rcases this with rfl|rfl|rfl|rfl|rfl<;>simp[VT]
 .rw[jC]at h6;subst h6;exact .inr (.inr (.inr (.inr (.inr ⟨e,rfl⟩))))
def EN(n:Int×Int)(ops:List (Int×Int))(sg:P8):Option ((Int×Int)×Int):=
 l7 (G5 (C9 n.2 0)) (l9 (aW n.1) λu=>l7 (G5 u) (some ((0,0),2)) (aB n ops sg)) (aB n ops sg)
def qB(n:Int×Int)(ops:List (Int×Int))(sg:P8):Prop:=∃r:(Int×Int)×Int,tH n ops sg=some r/\EN n ops sg=some r/\(r.2=0->VT r.1)
variable {k:Int}
theorem VT.lit(h:1<=k/\k<=5):VT (k,0):=by have:k=1\/k=2\/k=3\/k=4\/k=5:=o5;rcases this with rfl|rfl|rfl|rfl|rfl<;>simp[VT]
theorem Oo(a b:Int):U3 a b= !H9 b a:=by simp only[H9,U3];rw[←decide_not];congr 1;simp
theorem BM{α β:Type}(o:Option β)(f:α->Option β):l9 (l9 o λx=>some (Sum.inr x)) (λq=>Z4 q f λr=>some r)=o:=by cases o<;>rfl
theorem VT.enum(e:Int):VT (6,e):=.inr (.inr (.inr (.inr (.inr ⟨e,rfl⟩))))
theorem oG{R E:Option ((Int×Int)×Int)}{c:Int}(hc:c≠0)(h1:R=some ((0,0),c))(h2:E=some ((0,0),c)):∃r:(Int×Int)×Int,R=some r/\E=some r/\(r.2=0->VT r.1):=⟨_,h1,h2,λh=>absurd h hc⟩
theorem nok{R E:Option ((Int×Int)×Int)}{t:Int×Int}(hv:VT t)(h1:R=some (t,0))(h2:E=some (t,0)):∃r:(Int×Int)×Int,R=some r/\E=some r/\(r.2=0->VT r.1):=⟨_,h1,h2,λ_=>hv⟩
def RR(a0:Int×Int)(a1:List (Int×Int))(a2:P8):Option ((Int×Int)×Int):=
 l9 (qH a0 a2) λ(x:Bool)=>l7 (G5 x) (some ((0,0),3)) (l9 (sO a0 a2) λ(x:Bool)=>l7 (G5 x) (some ((0,0),6))
  (l7 (C9 (o8 a1) 0) (l9 (kK a0 a2) λ(x:I8×Bool)=>l7 (G5 x.2) (some ((0,0),8)) (some (x.1,0)))
  (l7 (C9 (o8 a1) 1) (l9 (J9 a1 0) λ(x:I8)=>l9 (qI a0 x a2) λ(x:I8×Bool)=>l7 (G5 x.2) (some ((0,0),8)) (some (x.1,0)))
  (l7 (C9 (o8 a1) 2) (l9 (J9 a1 0) λ(x:I8)=>l9 (J9 a1 1) λ(x_1:I8)=>l9 (tJ a0.1 x x_1) λ(x:I8×Bool)=>l7 (G5 x.2) (some ((0,0),8)) (some (x.1,0)))
  (l9 (J9 a1 1) λ(x:I8)=>l9 (J9 a1 0) λ(x_1:I8)=>l7 (C9 x_1.1 1) (l9 (J9 a1 1) λ(x_2:I8)=>l9 (J9 a1 2) λ(x_3:I8)=>
   l7 (G5 (jv (C9 x_2.1 x_3.1) (C9 x_2.2 x_3.2))) (some ((0,0),8)) (some (x,0))) (l7 (G5 false) (some ((0,0),8)) (some (x,0))))))))
theorem b0y(n:Int×Int)(ops:List (Int×Int))(sg:P8):tH n ops sg=l7 (G5 (C9 n.2 0)) (l9 (gY n.1) λx=>l7 x (RR n ops sg) (some ((0,0),2))) (RR n ops sg):=by
 unfold tH;cases C9 n.2 0
 .simp only[ae,o7];cases gY n.1 with
  |none=>rfl|some b=>cases b<;>rfl
 .rfl
theorem FU{op N:Int}{ops:List (Int×Int)}{sg:P8}(h1:aW op=some true)(h2:gY op=some true)
  (h:∃r:(Int×Int)×Int,RR (op,N) ops sg=some r/\aB (op,N) ops sg=some r/\(r.2=0->VT r.1)):qB (op,N) ops sg:=by
 unfold qB;rw[b0y];unfold EN;dsimp only;rw[h1,h2];cases C9 N 0<;>exact h
theorem LG{op N:Int}{ops:List (Int×Int)}{sg:P8}(h1:aW op=some false)(h2:gY op=some false)
  (h:∃r:(Int×Int)×Int,RR (op,0) ops sg=some r/\aB (op,0) ops sg=some r/\(r.2=0->VT r.1)):qB (op,N) ops sg:=by
 unfold qB;rw[b0y];unfold EN;dsimp only;rw[h1,h2];cases hz:C9 N 0
 .exact oG (c:=2) I5 rfl rfl
 .rw[jC]at hz;subst hz;exact h
section
variable (N:Int) (sg:P8)
theorem a2u(hk:k=1\/k=2\/k=3\/k=4\/k=5):qB (k,N) [] sg:=by
 have hv:vty (k,0) sg.1=true:=by rcases hk with rfl|rfl|rfl|rfl|rfl<;>rfl
 have hm:aW k=some true/\gY k=some true:=by rcases hk with rfl|rfl|rfl|rfl|rfl<;>exact⟨rfl,rfl⟩
 refine FU hm.1 hm.2 ?_;have key:aB (k,N) [] sg=jh N k sg:=by rcases hk with rfl|rfl|rfl|rfl|rfl<;>exact BM _ _
 have key2:RR (k,N) [] sg=l9 (l9 (dC (k,0) sg.1) λ(x:I8)=>l7 (U3 x.1 N) (some (U3 N x.2)) (some false)) λ(x:Bool)=>l7 (G5 x) (some ((0,0),3)) (some ((k,0),0)):=by rcases hk with rfl|rfl|rfl|rfl|rfl<;>rfl
 rw[key,key2];unfold jh;rw[KU,Ep,o9,o9,BB,BB];cases U3 (bnd (k,0) sg.1).1 N
 .exact oG (c:=3) I5 rfl rfl
 cases U3 N (bnd (k,0) sg.1).2
 .exact oG (c:=3) I5 rfl rfl
 .exact nok (GH hv) rfl rfl
theorem a0N(hN:b7W N):qB (6,N) [] sg:=by
 have hq:0<=N->jb .i64 N 16=N / 16:=λh=>by rw[JG (by rw[oL h];unfold b7W at*;omega),oL h]
 refine FU rfl rfl ?_;have hf:sO (6,N) sg=l7 (H9 (jb .i64 N 16) (o8 sg.1)) (l9 (J9 sg.1 (jb .i64 N 16)) λ(x:Z5)=>some (H9 (pO N 16) (o8 x.2))) (some false):=rfl;have hl:kK (6,N) sg=some ((6,jb .i64 N 16),vty (6,jb .i64 N 16) sg.1):=by unfold kK;simp only[ig];rfl
 rw[show aB (6,N) [] sg=yB N sg from BM _ _];unfold RR yB;rw[hf,show qH (6,N) sg=some (U3 0 N)from rfl,hl];by_cases h0:0<=N
 .rw[dV h0,bT h0,hq h0];by_cases h1:N / 16<o8 sg.1
  .obtain⟨x,hx,_⟩:=uu (show 0<=N / 16 by omega) h1;rw[fJ h1,eQ h1,hx,show vty (6,N / 16) sg.1=true by unfold vty;simp only[bT (show 0<=N / 16 by omega),fJ h1];rfl];simp only[o9,BB];cases U3 (o8 x.2) (pO N 16)
   .exact nok (VT.enum (N / 16)) rfl rfl
   .exact oG (c:=6) I5 rfl rfl
  .have h1' :o8 sg.1<=N / 16:=o5;rw[dV h1',bT h1'];exact oG (c:=6) I5 rfl rfl
 .rw[fJ (show N<0 by omega),eQ (show N<0 by omega)];exact oG (c:=3) I5 rfl rfl
theorem wW(ts:List (Int×Int))(en:P8):(∃x,J9 ts N=some x/\U3 0 N=true/\H9 N (o8 ts)=true/\iZ N ts en=some (l7 (vty x en.1) (x,0) ((0,0),8)))\/((U3 0 N=false\/U3 0 N=true/\H9 N (o8 ts)=false)/\iZ N ts en=some ((0,0),6)):=by
 unfold iZ;rw[BB N 0,Oo (o8 ts) N];cases h0:U3 0 N
 .exact .inr ⟨.inl A8,rfl⟩
 cases h1:H9 N (o8 ts)
 .exact .inr ⟨.inr A8,rfl⟩
 rw[uN]at h0;rw[zA]at h1;obtain⟨x,hx,_⟩:=uu h0 h1;rw[hx];simp only[kD,Bool.not_false,o6,o7,o9,uk];exact .inl ⟨x,rfl,A8,A8,by cases vty x en.1<;>rfl⟩
theorem a5p:qB (7,N) [] sg:=by
 refine FU rfl rfl ?_;rw[show aB (7,N) [] sg=iZ N sg.2.2.1 sg from BM _ _];have hf:sO (7,N) sg=l7 (U3 0 N) (some (H9 N (o8 sg.2.2.1))) (some false):=rfl;unfold RR;rw[hf,show qH (7,N) sg=some true from rfl];rcases wW N sg.2.2.1 sg with⟨x,h1,h2,h3,h4⟩|⟨h1|⟨h1,h2⟩,h4⟩
 .have hl:kK (7,N) sg=some (x,vty x sg.1):=by
   unfold kK;dsimp only;rw[h1];simp only[ig];rfl
  rw[h2,h3,h4,hl];cases hv:vty x sg.1
  .exact oG (c:=8) I5 rfl rfl
  .exact nok (GH hv) rfl rfl
 .rw[h1,h4];exact oG (c:=6) I5 rfl rfl
 .rw[h1,h2,h4];exact oG (c:=6) I5 rfl rfl
theorem a2t:qB (8,N) [] sg:=by
 refine FU rfl rfl ?_;rw[show aB (8,N) [] sg=iZ N sg.2.2.2.1 sg from BM _ _];have hf:sO (8,N) sg=l7 (U3 0 N) (some (H9 N (o8 sg.2.2.2.1))) (some false):=rfl;unfold RR;rw[hf,show qH (8,N) sg=some true from rfl];rcases wW N sg.2.2.2.1 sg with⟨x,h1,h2,h3,h4⟩|⟨h1|⟨h1,h2⟩,h4⟩
 .have hl:kK (8,N) sg=some (x,vty x sg.1):=by
   unfold kK;dsimp only;rw[h1];simp only[ig];rfl
  rw[h2,h3,h4,hl];cases hv:vty x sg.1
  .exact oG (c:=8) I5 rfl rfl
  .exact nok (GH hv) rfl rfl
 .rw[h1,h4];exact oG (c:=6) I5 rfl rfl
 .rw[h1,h2,h4];exact oG (c:=6) I5 rfl rfl
theorem a0M:qB (9,N) [] sg:=LG rfl rfl (nok (VT.lit (k:=5) o5) rfl rfl)
theorem YC:qB (35,N) [] sg:=by
 refine LG rfl rfl ?_;rw[show aB (35,0) [] sg=nY (35,0) sg from BM _ _];unfold RR nY;simp only[qH,sO,kK,ig,o9];cases sg.2.2.2.2.2
 .exact oG (c:=6) I5 rfl rfl
 .exact nok (VT.lit (k:=2) o5) rfl rfl
theorem a2v(hk:k=36\/k=37\/k=38\/k=39):qB (k,N) [] sg:=by
 have hm:aW k=some true/\gY k=some true/\C9 k 35=false:=by rcases hk with rfl|rfl|rfl|rfl<;>exact⟨rfl,rfl,rfl⟩
 refine FU hm.1 hm.2.1 ?_;rw[show aB (k,N) [] sg=nY (k,N) sg by rcases hk with rfl|rfl|rfl|rfl<;>exact BM _ _];have hr:RR (k,N) [] sg=l9 (l7 sg.2.2.2.2.2 (l7 (U3 0 N) (some (H9 N (o8 sg.2.2.2.2.1))) (some false)) (some false)) λ(x:Bool)=>l7 (G5 x) (some ((0,0),6))
   (l9 (kK (k,N) sg) λ(x:I8×Bool)=>l7 (G5 x.2) (some ((0,0),8)) (some (x.1,0))):=by rcases hk with rfl|rfl|rfl|rfl<;>rfl
 rw[hr];unfold nY;rw[hm.2.2,o6];cases sg.2.2.2.2.2
 .exact oG (c:=6) I5 rfl rfl
 simp only[o7,O7,o6];rcases wW N sg.2.2.2.2.1 sg with⟨x,h1,h2,h3,h4⟩|⟨h1|⟨h1,h2⟩,h4⟩
 .rw[h2,h3,h4];have hl:kK (k,N) sg=l9 (some (l7 (C9 k 36) (l7 (vty x sg.1) (l7 (C9 x.1 2) true (C9 x.1 3)) false) (l7 (C9 k 39) (l7 (vty x sg.1) (l7 (C9 x.1 2) true (l7 (C9 x.1 3) true (l7 (C9 x.1 4) true (C9 x.1 5)))) false) (l7 (vty x sg.1) (C9 x.1 1) false)))) λb=>some (x,b):=by
   unfold kK;simp only[ig,oU,tK];rcases hk with rfl|rfl|rfl|rfl<;>(rw[h1];simp only[C9,Int.reduceEq,decide_true,decide_false,o7,o6,o9];cases vty x sg.1<;>cases decide (x.1=2)<;>cases decide (x.1=3)<;>cases decide (x.1=4)<;>rfl)
  rw[hl];simp only[o9,kP];cases hv:vty x sg.1
  .rcases hk with rfl|rfl|rfl|rfl<;>exact oG (c:=8) I5 rfl rfl
  .have hx:=GH hv;rcases hk with rfl|rfl|rfl|rfl<;>rcases hx with rfl|rfl|rfl|rfl|rfl|⟨e,rfl⟩ <;>
    first
    |exact nok (GH hv) rfl rfl
    |exact oG (c:=8) I5 rfl rfl
 .rw[h1,h4];exact oG (c:=6) I5 rfl rfl
 .rw[h1,h2,h4];exact oG (c:=6) I5 rfl rfl
end
end Go.GP
namespace Go.GP
open Gt
set_option maxRecDepth 100000
variable {a:Int×Int}{k:Int}{b:Int×Int}
section
variable (N:Int) (sg:P8)
theorem a5q(hk:k=10\/k=25\/k=31\/k=32)(ha:VT a):qB (k,N) [a] sg:=by
 have hm:aW k=some false/\gY k=some false:=by rcases hk with rfl|rfl|rfl|rfl<;>exact⟨rfl,rfl⟩
 refine LG hm.1 hm.2 ?_;rcases hk with rfl|rfl|rfl|rfl<;>rcases ha with rfl|rfl|rfl|rfl|rfl|⟨e,rfl⟩ <;>
  first
  |exact nok (VT.lit (k:=1) o5) rfl rfl
  |exact nok (VT.lit (k:=2) o5) rfl rfl
  |exact nok (VT.lit (k:=3) o5) rfl rfl
  |exact nok (VT.lit (k:=4) o5) rfl rfl
  |exact oG (c:=8) I5 rfl rfl
theorem a2s(hk:k=13\/k=23\/k=24\/k=27\/k=28\/k=29\/k=30)(ha:VT a)(hb:VT b):qB (k,N) [a,b] sg:=by
 have hm:aW k=some false/\gY k=some false:=by rcases hk with rfl|rfl|rfl|rfl|rfl|rfl|rfl<;>exact⟨rfl,rfl⟩
 refine LG hm.1 hm.2 ?_;rcases hk with rfl|rfl|rfl|rfl|rfl|rfl|rfl<;>rcases ha with rfl|rfl|rfl|rfl|rfl|⟨e,rfl⟩<;>rcases hb with rfl|rfl|rfl|rfl|rfl|⟨f,rfl⟩ <;>
  first
  |exact oG (c:=8) I5 rfl rfl
  |exact nok (VT.lit (k:=1) o5) rfl rfl
  |exact nok (VT.lit (k:=2) o5) rfl rfl
  |exact nok (VT.lit (k:=3) o5) rfl rfl
  |exact nok (VT.lit (k:=4) o5) rfl rfl
  |exact nok (VT.lit (k:=5) o5) rfl rfl
theorem a0O(hk:k=14\/k=15\/k=16)(ha:VT a)(hb:VT b):qB (k,N) [a,b] sg:=by
 have hm:aW k=some true/\gY k=some true:=by rcases hk with rfl|rfl|rfl<;>exact⟨rfl,rfl⟩
 refine FU hm.1 hm.2 ?_;have hr:RR (k,N) [a,b] sg=l9 (l7 (U3 0 N) (some (U3 N 5)) (some false)) λx=>l7 (G5 x) (some ((0,0),3)) (l9 (tJ k a b) λx=>l7 (G5 x.2) (some ((0,0),8)) (some (x.1,0))):=by rcases hk with rfl|rfl|rfl<;>rfl
 have he:aB (k,N) [a,b] sg=l9 (l7 (U3 0 N) (some (U3 N 5)) (some false)) λx=>l7 (G5 x) (some ((0,0),3)) (l9 (lK k [a,b]) λx=>l7 (G5 x.2) (some ((0,0),8)) (some (x.1,0))):=by
  rcases hk with rfl|rfl|rfl <;>
   (show l9 (l9 (kS N) λx=>l7 (G5 x) (some (Sum.inr (((0:Int),(0:Int)),(3:Int)))) (some (.inl ((0:Int),(0:Int))))) _=_
    unfold kS;cases U3 0 N<;>cases U3 N 5<;>rfl)
 rw[hr,he];cases U3 0 N
 .exact oG (c:=3) I5 rfl rfl
 cases U3 N 5
 .exact oG (c:=3) I5 rfl rfl
 rcases hk with rfl|rfl|rfl<;>rcases ha with rfl|rfl|rfl|rfl|rfl|⟨e,rfl⟩<;>rcases hb with rfl|rfl|rfl|rfl|rfl|⟨f,rfl⟩ <;>
  first
  |exact oG (c:=8) I5 rfl rfl
  |exact nok (VT.lit (k:=2) o5) rfl rfl
  |exact nok (VT.lit (k:=3) o5) rfl rfl
  |exact nok (VT.lit (k:=4) o5) rfl rfl
theorem a0P(hk:k=11\/k=12\/k=17\/k=18\/k=19\/k=20\/k=21\/k=22)(ha:VT a):qB (k,N) [a,b] sg:=by
 have hm:aW k=some false/\gY k=some false:=by rcases hk with rfl|rfl|rfl|rfl|rfl|rfl|rfl|rfl<;>exact⟨rfl,rfl⟩
 refine LG hm.1 hm.2 ?_;have hr:RR (k,0) [a,b] sg=l9 (tJ k a b) λx=>l7 (G5 x.2) (some ((0,0),8)) (some (x.1,0)):=by rcases hk with rfl|rfl|rfl|rfl|rfl|rfl|rfl|rfl<;>rfl
 have he:aB (k,0) [a,b] sg=l9 (lK k [a,b]) λx=>l7 (G5 x.2) (some ((0,0),8)) (some (x.1,0)):=by rcases hk with rfl|rfl|rfl|rfl|rfl|rfl|rfl|rfl<;>rfl
 rw[hr,he];unfold tJ lK;simp only[show J9 [a,b] 0=some a from rfl,show J9 [a,b] 1=some b from rfl,o9,tK,oU,gU,kP];cases h1:C9 a.1 b.1
 .rcases hk with rfl|rfl|rfl|rfl|rfl|rfl|rfl|rfl<;>exact oG (c:=8) I5 rfl rfl
 cases h2:C9 a.2 b.2
 .rcases hk with rfl|rfl|rfl|rfl|rfl|rfl|rfl|rfl<;>exact oG (c:=8) I5 rfl rfl
 have ha' :=ha;rcases hk with rfl|rfl|rfl|rfl|rfl|rfl|rfl|rfl<;>rcases ha with rfl|rfl|rfl|rfl|rfl|⟨e,rfl⟩ <;>
  first
  |exact nok ha' rfl rfl
  |exact nok (VT.lit (k:=1) o5) rfl rfl
  |exact oG (c:=8) I5 rfl rfl
theorem a5o{a b c:Int×Int}(ha:VT a)(hb:VT b):qB (26,N) [a,b,c] sg:=by
 refine LG rfl rfl ?_;have hr:RR (26,0) [a,b,c] sg=l7 (C9 a.1 1) (l7 (G5 (jv (C9 b.1 c.1) (C9 b.2 c.2))) (some ((0,0),8)) (some (b,0))) (some ((0,0),8)):=rfl;have he:aB (26,0) [a,b,c] sg=l9 (lK 26 [a,b,c]) λx=>l7 (G5 x.2) (some ((0,0),8)) (some (x.1,0)):=rfl;have he2:lK 26 [a,b,c]=l9 (l7 (C9 a.1 1) (some (Sum.inr (b,jv (C9 b.1 c.1) (C9 b.2 c.2)))) (some (Sum.inr (b,false)))) λ(o:I8⊕I8×Bool)=>Z4 o (λ(x:I8)=>some ((0,0),false)) λ(r:I8×Bool)=>some r:=rfl;rw[hr,he,he2];cases C9 a.1 1
 .exact oG (c:=8) I5 rfl rfl
 cases C9 b.1 c.1
 .exact oG (c:=8) I5 rfl rfl
 cases C9 b.2 c.2
 .exact oG (c:=8) I5 rfl rfl
 .exact nok hb rfl rfl
theorem WH(ha:VT a):qB (33,N) [a] sg:=by
 refine FU rfl rfl ?_;have he:aB (33,N) [a] sg=pK (33,N) a sg:=BM _ _;have hr:RR (33,N) [a] sg=l9 (l7 (U3 0 N) (some (H9 N (o8 sg.2.1))) (some false)) λx=>l7 (G5 x) (some ((0,0),6)) (l9 (qI (33,N) a sg) λx=>l7 (G5 x.2) (some ((0,0),8)) (some (x.1,0))):=rfl;have hs:qI (33,N) a sg=l9 (J9 sg.2.1 N) λ(x:bP)=>l9 (V9 x.2.1 sg.1) λ(x_1:Bool)=>l7 x_1 (l9 (V9 x.2.2.1 sg.1) λ(x_2:Bool)=>l7 x_2 (some (x.2.2.1,jv (C9 a.1 x.2.1.1) (C9 a.2 x.2.1.2))) (some (x.2.2.1,false))) (some (x.2.2.1,false)):=rfl;rw[he,hr,hs];unfold pK;simp only[C9,Int.reduceEq,decide_false,o6,o9,aj,BB N 0,Oo (o8 sg.2.1) N];cases h0:U3 0 N
 .exact oG (c:=6) I5 rfl rfl
 cases h1:H9 N (o8 sg.2.1)
 .exact oG (c:=6) I5 rfl rfl
 rw[uN]at h0;rw[zA]at h1;obtain⟨x,hx,_⟩:=uu h0 h1;simp only[o9,aj,kD,o6,hx,uk,ig,ae,o7];cases vty x.2.1 sg.1
 .exact oG (c:=8) I5 rfl rfl
 cases hv:vty x.2.2.1 sg.1
 .exact oG (c:=8) I5 rfl rfl
 simp only[O7,o6,o7,o9];cases jv (decide (a.1=x.2.1.1)) (decide (a.2=x.2.1.2))
 .exact oG (c:=8) I5 rfl rfl
 .exact nok (GH hv) rfl rfl
theorem Sr(hN:b7W N)(ha:VT a):qB (34,N) [a] sg:=by
 refine FU rfl rfl ?_;have he:aB (34,N) [a] sg=pK (34,N) a sg:=BM _ _;have hr:RR (34,N) [a] sg=l9 (l7 (U3 0 N) (some (U3 (pO N 8) 5)) (some false)) λx=>l7 (G5 x) (some ((0,0),3)) (l7 (G5 (H9 (jb .i64 N 8) (o8 sg.2.1))) (some ((0,0),6)) (l9 (qI (34,N) a sg) λx=>l7 (G5 x.2) (some ((0,0),8)) (some (x.1,0)))):=rfl;have hs:qI (34,N) a sg=l9 (J9 sg.2.1 (jb .i64 N 8)) λ(x:bP)=>l7 (C9 a.1 3) (l7 (jv (C9 x.2.1.1 3) (C9 x.2.1.2 0)) (some (a,jv (C9 x.2.2.1.1 4) (C9 x.2.2.1.2 0))) (some (a,false))) (some (a,false)):=rfl;rw[he,hr,hs];unfold pK kS;by_cases h0:0<=N
 case neg=>rw[eQ (show N<0 by omega),fJ (show N<0 by omega)];exact oG (c:=3) I5 rfl rfl
 have hq:jb .i64 N 8=N / 8:=by rw[JG (by rw[oL h0];unfold b7W at*;omega),oL h0]
 rw[bT h0,dV h0,hq,FI h0];simp only[C9,Int.reduceEq,decide_true,o7,o6,bT (show 0<=N % 8 by omega),o9];cases U3 (N % 8) 5
 .exact oG (c:=3) I5 rfl rfl
 simp only[O7,o6,o9,aj,dV (show 0<=N / 8 by omega),Oo];cases h1:H9 (N / 8) (o8 sg.2.1)
 .exact oG (c:=6) I5 rfl rfl
 rw[zA]at h1;obtain⟨x,hx,_⟩:=uu (show 0<=N / 8 by omega) h1;simp only[hx,kD,o6,o9,aj,uk,O7];obtain⟨nm,⟨k1,k2⟩,⟨v1,v2⟩,rows⟩:=x;dsimp only;by_cases hK:k1=3/\k2=0
 .obtain⟨rfl,rfl⟩:=hK;by_cases hV:v1=4/\v2=0
  .obtain⟨rfl,rfl⟩:=hV;rcases ha with rfl|rfl|rfl|rfl|rfl|⟨e,rfl⟩ <;>
    first
    |exact nok (VT.lit (k:=3) o5) rfl rfl
    |exact oG (c:=8) I5 rfl rfl
  .have hE:vty (v1,v2) sg.1=true->v1≠4:=λhv h=>by
    subst h;rcases GH hv with h|h|h|h|h|⟨e,h⟩<;>cases h;exact hV ⟨rfl,rfl⟩
   have hR:jv (decide (v1=4)) (decide (v2=0))=false:=by
    by_cases h1:v1=4
    .have:v2≠0:=λh2=>hV ⟨h1,h2⟩;simp[jv,h1,this]
    .simp[jv,h1]
   rw[hR];cases hv:vty (v1,v2) sg.1
   .rcases ha with rfl|rfl|rfl|rfl|rfl|⟨e,rfl⟩<;>exact oG (c:=8) I5 rfl rfl
   .have h4:=hE hv;rw[show decide (v1=4)=false by simp[h4]];rcases ha with rfl|rfl|rfl|rfl|rfl|⟨e,rfl⟩<;>exact oG (c:=8) I5 rfl rfl
 .have hR:jv (decide (k1=3)) (decide (k2=0))=false:=by
   by_cases h1:k1=3
   .have:k2≠0:=λh2=>hK ⟨h1,h2⟩;simp[jv,h1,this]
   .simp[jv,h1]
  rw[hR];cases hv:vty (k1,k2) sg.1
  .rcases ha with rfl|rfl|rfl|rfl|rfl|⟨e,rfl⟩<;>exact oG (c:=8) I5 rfl rfl
  cases hw:vty (v1,v2) sg.1
  .rcases ha with rfl|rfl|rfl|rfl|rfl|⟨e,rfl⟩<;>exact oG (c:=8) I5 rfl rfl
  have h3:k1≠3:=λh=>by subst h;rcases GH hv with h|h|h|h|h|⟨e,h⟩<;>cases h;exact hK ⟨rfl,rfl⟩
  simp only[show decide (k1=3)=false by simp[h3],O7,o6,o7,o9];cases jv (decide (a.1=k1)) (decide (a.2=k2))
  .cases decide (a.1=3)<;>exact oG (c:=8) I5 rfl rfl
  .cases decide (a.1=3)<;>exact oG (c:=8) I5 rfl rfl
theorem F_(n:Int×Int)(hN:b7W n.2)(ops:List (Int×Int))(hv:∀t∈ops,VT t)(hl:o8 ops=arF n.1):qB n ops sg:=by
 obtain⟨op,N⟩:=n;dsimp only at hN hl;have hr:1<=op/\op<=39:=by
  by_cases h:1<=op/\op<=39
  .exact h
  .have:arF op=-1:=by unfold arF;rw[UN h];rfl
   rw[this]at hl;simp[o8]at hl
 have hc:op=1\/op=2\/op=3\/op=4\/op=5\/op=6\/op=7\/op=8\/op=9\/op=10\/op=11\/op=12\/op=13\/op=14\/op=15\/op=16\/op=17\/op=18\/op=19\/op=20\/op=21\/op=22\/op=23\/op=24\/op=25\/op=26\/op=27\/op=28\/op=29\/op=30\/op=31\/op=32\/op=33\/op=34\/op=35\/op=36\/op=37\/op=38\/op=39:=o5;have L0:arF op=0->ops=[]:=λh=>by rw[h]at hl;simp only[o8]at hl;exact Z7.1 o5
 have L1:arF op=1->∃a,ops=[a]/\VT a:=λh=>by
  rw[h]at hl;simp only[o8]at hl;match ops,hl,hv with
  |[a],_,hv=>exact⟨a,rfl,hv a A8⟩|[],hl,_=>simp at hl|a::b::r,hl,_=>simp at hl;omega
 have L2:arF op=2->∃a b,ops=[a,b]/\VT a/\VT b:=λh=>by
  rw[h]at hl;simp only[o8]at hl;match ops,hl,hv with
  |[a,b],_,hv=>exact⟨a,b,rfl,hv a A8,hv b A8⟩|[],hl,_=>simp at hl|[a],hl,_=>simp at hl|a::b::c::r,hl,_=>simp at hl;omega
 have L3:arF op=3->∃a b c,ops=[a,b,c]/\VT a/\VT b:=λh=>by
  rw[h]at hl;simp only[o8]at hl;match ops,hl,hv with
  |[a,b,c],_,hv=>exact⟨a,b,c,rfl,hv a A8,hv b A8⟩|[],hl,_=>simp at hl|[a],hl,_=>simp at hl|[a,b],hl,_=>simp at hl|a::b::c::d::r,hl,_=>simp at hl;omega
 rcases hc with rfl|rfl|rfl|rfl|rfl|rfl|rfl|rfl|rfl|rfl|rfl|rfl|rfl|rfl|rfl|rfl|rfl|rfl|rfl|rfl|rfl|rfl|rfl|rfl|rfl|rfl|rfl|rfl|rfl|rfl|rfl|rfl|rfl|rfl|rfl|rfl|rfl|rfl|rfl <;>
  first
  |(rw[L0 rfl];first|exact a2u N sg o5|exact a0N N sg hN|exact a5p N sg|exact a2t N sg|exact a0M N sg|exact YC N sg|exact a2v N sg o5)
  |(obtain⟨a,rfl,ha⟩:=L1 rfl;first|exact a5q N sg o5 ha|exact WH N sg ha|exact Sr N sg hN ha)
  |(obtain⟨a,b,rfl,ha,hb⟩:=L2 rfl;first|exact a2s N sg o5 ha hb|exact a0O N sg o5 ha hb|exact a0P N sg o5 ha)
  |(obtain⟨a,b,c,rfl,ha,hb⟩:=L3 rfl;exact a5o N sg ha hb)
end
end Go.GP
namespace Go.GP
open Gt
set_option maxRecDepth 100000
def XT.wf:XT->Prop
 | .l0 n=>arF n.1=0| .l1 n a=>arF n.1=1/\a.wf| .l2 n a b=>arF n.1=2/\a.wf/\b.wf| .l3 n a b c=>arF n.1=3/\a.wf/\b.wf/\c.wf
theorem a5F{n:Int×Int}{ts ts' :List XT}(h:push n ts= .inr ts')(hw:∀t∈ts,t.wf):∀t∈ts',t.wf:=by
 unfold push at h;split at h
 .cases h;intro t ht;rcases A7.1 ht with rfl|ht
  .assumption
  .exact hw t ht
 split at h
 .split at h
  .cases h;intro t ht;rcases A7.1 ht with rfl|ht
   .exact⟨by assumption,hw _ A8⟩
   .exact hw t (by simp[ht])
  .cases h
 split at h
 .split at h
  .cases h;intro t ht;rcases A7.1 ht with rfl|ht
   .exact⟨by assumption,hw _ A8,hw _ A8⟩
   .exact hw t (by simp[ht])
  .cases h
 split at h
 .split at h
  .cases h;intro t ht;rcases A7.1 ht with rfl|ht
   .exact⟨by assumption,hw _ A8,hw _ A8,hw _ A8⟩
   .exact hw t (by simp[ht])
  .cases h
 .cases h
theorem WP:∀(es:List (Int×Int)) (i:Nat) (ts ts' :List XT),ru i es ts= .inr ts' ->(∀t∈ts,t.wf)->∀t∈ts',t.wf
 |[],i,ts,ts',h,hw=>by cases h;exact hw|n::es,i,ts,ts',h,hw=>by
  unfold ru at h;cases hp:push n ts with
  |inl c=>rw[hp]at h;cases h|inr t2=>
   rw[hp]at h;simp only at h;split at h
   .cases h
   .exact WP es (i+1) t2 ts' h (a5F hp hw)
variable {e:List (Int×Int)}
theorem MK{t:XT}(h:lG e= .inr t):t.wf:=by
 unfold lG at h;split at h
 .cases h
 split at h
 .cases h
 split at h
 .cases h
 .rename_i t' hp;cases h;exact WP e 0 [] [t] hp A8 t A8
 .cases h
def YT(n:Int×Int)(ops:List (Int×Int))(sg:P8):(Int×Int)×Int:=(tH n ops sg).getD ((0,0),0)
def Iw(sg:P8)(n:Int×Int)(ops:List (Int×Int))(i:Nat):(Int×Int)⊕(Int×Int):=if(YT n ops sg).2=0 then .inr (YT n ops sg).1 else .inl ((i:Int),(YT n ops sg).2)
def xB(sg:P8):XT->Nat->(Int×Int)⊕(Int×Int)
 | .l0 n,o=>Iw sg n [] o
 | .l1 n a,o=>match xB sg a o with
  | .inl x=> .inl x| .inr ta=>Iw sg n [ta] (o+a.size)
 | .l2 n a b,o=>match xB sg a o with
  | .inl x=> .inl x
  | .inr ta=>match xB sg b (o+a.size)with
   | .inl x=> .inl x| .inr tb=>Iw sg n [ta,tb] (o+a.size+b.size)
 | .l3 n a b c,o=>match xB sg a o with
  | .inl x=> .inl x
  | .inr ta=>match xB sg b (o+a.size)with
   | .inl x=> .inl x
   | .inr tb=>match xB sg c (o+a.size+b.size)with
    | .inl x=> .inl x| .inr tc=>Iw sg n [ta,tb,tc] (o+a.size+b.size+c.size)
variable {i:Nat}
theorem JR{sg:P8}{n:Int×Int}{ops:List (Int×Int)}{t:Int×Int}(hN:b7W n.2)(hv:∀t∈ops,VT t)(hl:o8 ops=arF n.1)(h:Iw sg n ops i= .inr t):VT t:=by
 obtain⟨r,h1,h2,h3⟩:=F_ sg n hN ops hv hl;unfold Iw at h;split at h
 .rename_i h0;cases h;have e:YT n ops sg=r:=by unfold YT;rw[h1];rfl
  rw[e]at h0 ⊢;exact h3 h0
 .cases h
section
variable (e:List (Int×Int)) (sg:P8) (z:Int×Int)
def a6w(f:(Int×Int)×List (Int×Int)×Int->Option (Out ((Int×Int)×List (Int×Int)×Int) ((Int×Int)×List (Int×Int)) ((Int×Int)×Int×Int))):Prop:=
 ∀(i:Nat) (n:Int×Int) (s ops:List (Int×Int)),e[i]? =some n->i<=100->o8 ops=arF n.1->(∀t∈ops,VT t)->s.length+ops.length<=100->
  f (z,s++ops,(i:Int))=some (match Iw sg n ops i with| .inl x=> .rt ((0,0),x)| .inr t=> .nx (z,s++[t],((i+1:Nat):Int)))
theorem a1p{f:(Int×Int)×List (Int×Int)×Int->Option (Out ((Int×Int)×List (Int×Int)×Int) ((Int×Int)×List (Int×Int)) ((Int×Int)×Int×Int))}
  (he:e.length<=48) (hI:∀n∈e,b7W n.2) (hs:a6w e sg z f):∀(t:XT),t.wf->∀(pre suf s:List (Int×Int)) (k:Nat),e=pre++t.post++suf->s.length<=pre.length->
  jG f (k+t.size) (z,s,(pre.length:Int))=(match xB sg t pre.length with| .inl x=>some (.inr ((0,0),x))| .inr r=>jG f k (z,s++[r],((pre.length+t.size:Nat):Int)))/\∀r,xB sg t pre.length= .inr r->VT r:=by
 intro t;have step:∀(i k:Nat) (n:Int×Int) (s ops:List (Int×Int)),e[i]? =some n->o8 ops=arF n.1->(∀t∈ops,VT t)->s.length+ops.length<=100->
   jG f (k+1) (z,s++ops,(i:Int))=(match Iw sg n ops i with| .inl x=>some (.inr ((0,0),x))| .inr r=>jG f k (z,s++[r],((i+1:Nat):Int))):=by
  intro i k n s ops h1 h2 h3 h4;rw[jG,hs i n s ops h1 (by have:=(aC.1 h1).1;omega) h2 h3 h4];cases Iw sg n ops i<;>rfl
 have getn:∀(pre suf:List (Int×Int)) (n:Int×Int),e=pre++[n]++suf->e[pre.length]? =some n:=by intro pre suf n h;rw[h,F6,I4 o5,fZ];rfl
 have mem:∀(i:Nat) (n:Int×Int),e[i]? =some n->b7W n.2:=λi n h=>hI n (oC h);induction t with
 |l0 n=>
  intro hw pre suf s k hd hl;have hn:=getn pre suf n hd;have hlen:pre.length<e.length:=(aC.1 hn).1;have hz:o8 ([]:List (Int×Int))=arF n.1:=by rw[show arF n.1=0 from hw];rfl
  have h:=step pre.length k n s [] hn hz A8 H7;rw[E8]at h;exact⟨h,λr hr=>JR (mem _ n hn) A8 hz hr⟩
 |l1 n a iha=>
  intro hw pre suf s k hd hl;simp only[XT.post,F6]at hd;have hpa:(pre++a.post).length=pre.length+a.size:=by simp[XT.post_len]
  have hn:=getn (pre++a.post) suf n (by simpa using hd);rw[hpa]at hn;have hlen:=(aC.1 hn).1;obtain⟨i1,i2⟩:=iha hw.2 pre ([n]++suf) s (k+1) (by simpa using hd) hl;simp only[XT.size,xB];rw[show k+(a.size+1)=(k+1)+a.size by omega,i1];cases ht:xB sg a pre.length with
  |inl x=>exact⟨rfl,λr hr=>by cases hr⟩|inr ta=>
   have hz:o8 [ta]=arF n.1:=by rw[show arF n.1=1 from hw.1];rfl
   have hv:∀t∈[ta],VT t:=by simpa using i2 ta ht
   exact⟨step _ k n s [ta] hn hz hv H7,λr hr=>JR (mem _ n hn) hv hz hr⟩
 |l2 n a b iha ihb=>
  intro hw pre suf s k hd hl;simp only[XT.post,F6]at hd;have hpa:(pre++a.post).length=pre.length+a.size:=by simp[XT.post_len]
  have hpb:(pre++a.post++b.post).length=pre.length+a.size+b.size:=by simp[XT.post_len];omega
  have hn:=getn (pre++a.post++b.post) suf n (by simpa using hd);rw[hpb]at hn;have hlen:=(aC.1 hn).1;obtain⟨i1,i2⟩:=iha hw.2.1 pre (b.post++[n]++suf) s (k+1+b.size) (by simpa using hd) hl;simp only[XT.size,xB];rw[show k+(a.size+b.size+1)=(k+1+b.size)+a.size by omega,i1];cases ht:xB sg a pre.length with
  |inl x=>exact⟨rfl,λr hr=>by cases hr⟩|inr ta=>
   have hsa:=a.size_pos;obtain⟨j1,j2⟩:=ihb hw.2.2 (pre++a.post) ([n]++suf) (s++[ta]) (k+1) (by simpa using hd) (by simp[XT.post_len];omega);rw[hpa]at j1 j2;simp only;rw[j1];cases hu:xB sg b (pre.length+a.size)with
   |inl x=>exact⟨rfl,λr hr=>by cases hr⟩|inr tb=>
    have hz:o8 [ta,tb]=arF n.1:=by rw[show arF n.1=2 from hw.1];rfl
    have hv:∀t∈[ta,tb],VT t:=by simpa using ⟨i2 ta ht,j2 tb hu⟩
    have:=step _ k n s [ta,tb] hn hz hv H7;simp only[F6,J8,E9];rw[show pre.length+(a.size+b.size+1)=pre.length+a.size+b.size+1 by omega];exact⟨this,λr hr=>JR (mem _ n hn) hv hz hr⟩
 |l3 n a b c iha ihb ihc=>
  intro hw pre suf s k hd hl;simp only[XT.post,F6]at hd;have hpa:(pre++a.post).length=pre.length+a.size:=by simp[XT.post_len]
  have hpb:(pre++a.post++b.post).length=pre.length+a.size+b.size:=by simp[XT.post_len];omega
  have hpc:(pre++a.post++b.post++c.post).length=pre.length+a.size+b.size+c.size:=by simp[XT.post_len];omega
  have hn:=getn (pre++a.post++b.post++c.post) suf n (by simpa using hd);rw[hpc]at hn;have hlen:=(aC.1 hn).1;obtain⟨i1,i2⟩:=iha hw.2.1 pre (b.post++(c.post++([n]++suf))) s (k+1+c.size+b.size) (by simpa using hd) hl;simp only[XT.size,xB];rw[show k+(a.size+b.size+c.size+1)=(k+1+c.size+b.size)+a.size by omega,i1];have hsa:=a.size_pos;have hsb:=b.size_pos;cases ht:xB sg a pre.length with
  |inl x=>exact⟨rfl,λr hr=>by cases hr⟩|inr ta=>
   obtain⟨j1,j2⟩:=ihb hw.2.2.1 (pre++a.post) (c.post++([n]++suf)) (s++[ta]) (k+1+c.size) (by simpa using hd) (by simp[XT.post_len];omega);rw[hpa]at j1 j2;simp only;rw[j1];cases hu:xB sg b (pre.length+a.size)with
   |inl x=>exact⟨rfl,λr hr=>by cases hr⟩|inr tb=>
    obtain⟨q1,q2⟩:=ihc hw.2.2.2 (pre++a.post++b.post) ([n]++suf) (s++[ta]++[tb]) (k+1) (by simpa using hd) (by simp[XT.post_len];omega);rw[hpb]at q1 q2;simp only;rw[q1];cases hc:xB sg c (pre.length+a.size+b.size)with
    |inl x=>exact⟨rfl,λr hr=>by cases hr⟩|inr tc=>
     have hz:o8 [ta,tb,tc]=arF n.1:=by rw[show arF n.1=3 from hw.1];rfl
     have hv:∀t∈[ta,tb,tc],VT t:=by simpa using ⟨i2 ta ht,j2 tb hu,q2 tc hc⟩
     have:=step _ k n s [ta,tb,tc] hn hz hv H7;simp only[F6,J8,E9];rw[show pre.length+(a.size+b.size+c.size+1)=pre.length+a.size+b.size+c.size+1 by omega];exact⟨this,λr hr=>JR (mem _ n hn) hv hz hr⟩
end
def yF(e:List (Int×Int))(sg:P8):(Int×Int)×Int×Int:=match lG e with
 | .inl x=>((0,0),x)
 | .inr t=>match xB sg t 0 with
  | .inl x=>((0,0),x)| .inr r=>(r,0,0)
variable {α:Type}
theorem ZI(s ops:List α)(k:Int)(hk:o8 ops=k)(h:s.length+ops.length<=100):
  O5 .i64 (o8 (s++ops)) k=(s.length:Int)/\jO (s.length:Int) (o8 (s++ops)) (o8 (s++ops))=true/\iO (s++ops) (aV (s.length:Int)) (aV (o8 (s++ops)))=ops
  /\jO 0 (s.length:Int) (o8 (s++ops))=true/\iO (s++ops) (aV 0) (aV (s.length:Int))=s:=by
 subst hk;refine⟨?_,?_,?_,?_,?_⟩
 .rw[jY (by unfold b7W;simp[o8];omega)];simp[o8]
 .simp[jO,o8];omega
 .show((s++ops).take (((s++ops).length:Nat):Int).toNat).drop s.length=ops;rw[ax,dA,List.drop_left]
 .simp[jO,o8];omega
 .simp[iO,aV]
theorem ZH{sg:P8}{f:(Int×Int)×List (Int×Int)×Int->Option (Out ((Int×Int)×List (Int×Int)×Int) ((Int×Int)×List (Int×Int)) ((Int×Int)×Int×Int))}
  (hI:∀n∈e,b7W n.2) (hs:a6w e sg (0,0) f) (hend:∀s,f ((0,0),s,(e.length:Int))=some (.ex ((0,0),s))) (hcode:∀x,lG e= .inl x->x.2≠0):
  l7 (G5 (C9 (uj e).2.2 0)) (some ((((0:Int),(0:Int)),(uj e).2):(Int×Int)×Int×Int)) (l9 (U7 f (((0:Int),(0:Int)),([]:List (Int×Int)),(0:Int))) λ(o:(Int×Int)×List (Int×Int)⊕(Int×Int)×Int×Int)=>
   Z4 o (λ(y:(Int×Int)×List (Int×Int))=>l9 (J9 y.2 0) λ(x:Int×Int)=>l9 (dM y.2 (aV 0)) λ(x:Int×Int)=>some (x,0,0)) λ(r:(Int×Int)×Int×Int)=>some r)=some (yF e sg):=by
 unfold uj yF;cases h:lG e with
 |inl x=>simp only[U8 (hcode x h),ae,o7]|inr t=>
  obtain⟨hp,h48⟩:=yQ h;have hw:=MK h;obtain⟨l1,_⟩:=a1p e sg (0,0) h48 hI hs t hw [] [] [] (jq -t.size) (by simpa using hp) A8;have hsz:e.length=t.size:=by rw[hp,XT.post_len]
  have hlo:U7 f (((0:Int),(0:Int)),([]:List (Int×Int)),(0:Int))=jG f (jq -t.size+t.size) ((0,0),[],(([]:List (Int×Int)).length:Int)):=by unfold U7;rw[Nat.sub_add_cancel (by unfold jq;omega)];rfl
  simp only[bH (rfl:(0:Int)=0),O7,o6];rw[hlo,l1];simp only[J7,cu];cases xB sg t 0 with
  |inl x=>rfl|inr r=>obtain⟨k,hk⟩:∃k,jq -t.size=k+1:=⟨jq -t.size -1,by unfold jq;omega⟩;simp only[E9];rw[hk,jG,←hsz,hend];rfl
theorem Gz{x:Int×Int}(h:lG e= .inl x):x.2≠0:=by
 have key:∀(es:List (Int×Int)) (i:Nat) (ts:List XT) (x:Int×Int),ru i es ts= .inl x->x.2≠0:=by
  intro es;induction es with
  |nil=>intro i ts x h;cases h|cons n es ih=>
   intro i ts x h;unfold ru at h;cases hp:push n ts with
   |inl c=>
    rw[hp]at h;cases h;show c≠0;unfold push at hp
    (repeat' split at hp)<;>first|(cases hp;done)|(cases hp;decide)
   |inr t2=>
    rw[hp]at h;simp only at h;split at h
    .cases h;show(16:Int)≠0;decide
    .exact ih _ _ _ h
 unfold lG at h;split at h
 .cases h;show(4:Int)≠0;decide
 split at h
 .cases h;show(5:Int)≠0;decide
 split at h
 .rename_i y hp;cases h;exact key _ _ _ _ hp
 .cases h
 .cases h;show(4:Int)≠0;decide
theorem b8v(sg:P8)(hI:∀n∈e,b7W n.2):Ku e sg=some (yF e sg):=by
 unfold Ku;rw[SA,o9];refine ZH hI (λi n s ops hn hi2 hl hv hlen=>?_) (λs=>?_) (λx h=>Gz h)
 .obtain⟨r,h1,h2,h3⟩:=F_ sg n (hI n (oC hn)) ops hv hl;obtain⟨v1,v2,v3,v4,v5⟩:=ZI s ops _ hl hlen;have e' :YT n ops sg=r:=by unfold YT;rw[h1];rfl
  have hi:=(aC.1 hn).1;simp only[O0 hn,o7,J3,hn,o9,a7C,v1,v2,v3,v4,v5,h1];unfold Iw;rw[e'];by_cases h0:r.2=0
  .rw[if_pos h0,bH h0];simp only[O7,o6];rw[pU _ o5,o9,bY o5]
  .rw[if_neg h0,U8 h0];rfl
 .rw[N9];rfl
theorem a1o(sg:P8)(hI:∀n∈e,b7W n.2):Bz e sg=some (yF e sg):=by
 unfold Bz;rw[KN,o9];refine ZH hI (λi n s ops hn hi2 hl hv hlen=>?_) (λs=>?_) (λx h=>Gz h)
 .obtain⟨r,h1,h2,h3⟩:=F_ sg n (hI n (oC hn)) ops hv hl;obtain⟨v1,v2,v3,v4,v5⟩:=ZI s ops _ hl hlen;have e' :YT n ops sg=r:=by unfold YT;rw[h1];rfl
  have hi:=(aC.1 hn).1;simp only[O0 hn,o7,J3,hn,o9,a1E,v1,v2,v3,v4,v5];unfold Iw;rw[e'];unfold EN at h2;have fin:aB n ops sg=some r->(l9 (aB n ops sg) λ(x_3:I8×Int)=>l7 (G5 (C9 x_3.2 0)) (some (Out.rt ((((0:Int),(0:Int)),((i:Int),x_3.2)):(Int×Int)×Int×Int)))
    (l9 (bF s [x_3.1]) λ(x_4:List I8)=>some (Out.nx (((0:Int),(0:Int)),x_4,F9 .i64 (i:Int) 1))))=
    some (match if r.2=0 then(.inr r.1:(Int×Int)⊕(Int×Int))else .inl ((i:Int),r.2)with| .inl x=>Out.rt ((0,0),x)| .inr t=>(Out.nx ((0,0),s++[t],((i+1:Nat):Int)):Out ((Int×Int)×List (Int×Int)×Int) ((Int×Int)×List (Int×Int)) ((Int×Int)×Int×Int))):=by
   intro hr;rw[hr,o9];by_cases h0:r.2=0
   .rw[if_pos h0,bH h0];simp only[O7,o6];rw[pU _ o5,o9,bY o5]
   .rw[if_neg h0,U8 h0];rfl
  cases hz:C9 n.2 0
  .rw[hz]at h2;simp only[ae,o7]at h2 ⊢;cases hu:aW n.1 with
   |none=>rw[hu]at h2;cases h2|some u=>
    rw[hu]at h2;simp only[o9]at h2 ⊢;cases u
    .simp only[ae,o7]at h2 ⊢;cases h2;rfl
    .exact fin h2
  .rw[hz]at h2;exact fin h2
 .rw[N9];rfl
section
variable {α β σ ε ρ:Type}
theorem Ei(l:List α)(G:β->α->β)(mk:β->Int->σ)(fin:β->ε)(Inv:Nat->β->Prop){f:σ->Option (σ⊕ε)}{b:β}(hl:l.length<=1000000)(h0:Inv 0 b)
  (hin:∀(i:Nat) (a:α) (b:β),l[i]? =some a->i<=1000000->Inv i b->f (mk b (i:Int))=some (.inl (mk (G b a) ((i+1:Nat):Int)))/\Inv (i+1) (G b a))
  (hend:∀b,Inv l.length b->f (mk b (l.length:Int))=some (.inr (fin b))):
  aS f (mk b 0)=some (fin (l.foldl G b))/\Inv l.length (l.foldl G b):=by
 have key:∀(n i:Nat) (b:β),i<=l.length->l.length -i<n->Inv i b->Eh f n (mk b (i:Int))=some (fin ((l.drop i).foldl G b))/\Inv l.length ((l.drop i).foldl G b):=by
  intro n;induction n with
  |zero=>intro i b _ h _;omega|succ n ih=>
   intro i b hi hn hI;unfold Eh;by_cases h:i<l.length
   .have e:=lM h;obtain⟨h1,h2⟩:=hin i _ b e o5 hI;rw[h1,bW h];exact ih (i+1) _ o5 o5 h2
   .have:i=l.length:=o5;subst this;rw[hend b hI,xH];exact⟨rfl,hI⟩
 have:=key jq 0 b o5 (by unfold jq;omega) h0;exact this
theorem kH{γ:Type}(l:List α)(G:β->α->β)(mk:β->Int->σ)(fin:β->ε)(Inv:Nat->β->Prop)(b:β){f:σ->Option (σ⊕ε)}{K:ε->Option γ}{r:Option γ}(hl:l.length<=1000000)(h0:Inv 0 b)
  (hin:∀(i:Nat) (a:α) (b:β),l[i]? =some a->i<=1000000->Inv i b->f (mk b (i:Int))=some (.inl (mk (G b a) ((i+1:Nat):Int)))/\Inv (i+1) (G b a))
  (hend:∀b,Inv l.length b->f (mk b (l.length:Int))=some (.inr (fin b))) (hk:Inv l.length (l.foldl G b)->K (fin (l.foldl G b))=r):l9 (aS f (mk b 0)) K=r:=by
 obtain⟨h1,h2⟩:=Ei l G mk fin Inv hl h0 hin hend;rw[h1];exact hk h2
def rD(G:β->α->β⊕ρ):List α->β->β⊕ρ
 |[],b=> .inl b
 |a::l,b=>match G b a with| .inl b' =>rD G l b'| .inr r=> .inr r
theorem PZ(l:List α)(G:β->α->β⊕ρ)(mk:β->Int->σ)(fin:β->ε)(Inv:Nat->β->Prop){f:σ->Option (Out σ ε ρ)}{b:β}(hl:l.length<=1000000)(h0:Inv 0 b)
  (hin:∀(i:Nat) (a:α) (b:β),l[i]? =some a->i<=1000000->Inv i b->f (mk b (i:Int))=some (match G b a with| .inl b' => .nx (mk b' ((i+1:Nat):Int))| .inr r=> .rt r)/\∀b',G b a= .inl b' ->Inv (i+1) b')
  (hend:∀b,Inv l.length b->f (mk b (l.length:Int))=some (.ex (fin b))):
  U7 f (mk b 0)=some (match rD G l b with| .inl b' => .inl (fin b')| .inr r=> .inr r)/\∀b',rD G l b= .inl b' ->Inv l.length b' :=by
 have key:∀(n i:Nat) (b:β),i<=l.length->l.length -i<n->Inv i b->jG f n (mk b (i:Int))=some (match rD G (l.drop i) b with| .inl b' => .inl (fin b')| .inr r=> .inr r)/\∀b',rD G (l.drop i) b= .inl b' ->Inv l.length b' :=by
  intro n;induction n with
  |zero=>intro i b _ h _;omega|succ n ih=>
   intro i b hi hn hI;unfold jG;by_cases h:i<l.length
   .have e:=lM h;obtain⟨h1,h2⟩:=hin i _ b e o5 hI;rw[h1,bW h];unfold rD;cases hg:G b l[i]with
    |inr r=>exact⟨rfl,λb' hb=>by cases hb⟩|inl b' =>exact ih (i+1) _ o5 o5 (h2 b' hg)
   .have:i=l.length:=o5;subst this;rw[hend b hI,xH];exact⟨rfl,λb' hb=>by cases hb;exact hI⟩
 have:=key jq 0 b o5 (by unfold jq;omega) h0;exact this
theorem PY{γ:Type}(l:List α)(G:β->α->β⊕ρ)(mk:β->Int->σ)(fin:β->ε)(Inv:Nat->β->Prop)(b:β){f:σ->Option (Out σ ε ρ)}{K:ε⊕ρ->Option γ}{r:Option γ}(hl:l.length<=1000000)(h0:Inv 0 b)
  (hin:∀(i:Nat) (a:α) (b:β),l[i]? =some a->i<=1000000->Inv i b->f (mk b (i:Int))=some (match G b a with| .inl b' => .nx (mk b' ((i+1:Nat):Int))| .inr r=> .rt r)/\∀b',G b a= .inl b' ->Inv (i+1) b')
  (hend:∀b,Inv l.length b->f (mk b (l.length:Int))=some (.ex (fin b)))
  (hk:(∀b',rD G l b= .inl b' ->Inv l.length b')->K (match rD G l b with| .inl b' => .inl (fin b')| .inr r=> .inr r)=r):l9 (U7 f (mk b 0)) K=r:=by
 obtain⟨h1,h2⟩:=PZ l G mk fin Inv hl h0 hin hend;rw[h1];exact hk h2
end
def Vu(c:UInt8):Bool:=decide (32<=c.toNat)&&decide (c.toNat<=126)&&decide (c.toNat≠34)
def ZB(s:List UInt8):Bool:=decide (s.length<=64)&&s.all Vu
theorem n_(c:UInt8):∀s:List UInt8,decide (0<=Lib.indexByte s c)=s.any λx=>decide (x.toNat=c.toNat)
 |[]=>by simp[Lib.indexByte]|b::l=>by
  have ih:=n_ c l;have hge:=Lib.indexByte_ge l c;rw[b7Y,←ih];have e:Lib.indexByte (b::l) c=if b=c then 0 else if Lib.indexByte l c=-1 then -1 else Lib.indexByte l c+1:=by rw[Lib.indexByte];simp
  rw[e];by_cases h:b=c
  .subst h;simp
  .have h2:b.toNat≠c.toNat:=λhh=>h (UInt8.toNat_inj.1 hh);rw[if_neg h,show decide (b.toNat=c.toNat)=false by simp[h2],nC];by_cases h3:Lib.indexByte l c=-1
   .rw[h3];rfl
   .rw[if_neg h3];simp;omega
theorem a4N(c:UInt8):Vu c=(!H9 (c.toNat:Int) 32&&!H9 126 (c.toNat:Int)&&!C9 (c.toNat:Int) 34):=by unfold Vu H9 C9;rw[ji];simp;omega
theorem ZT(s:List UInt8)(p:UInt8->Bool):(∀(i:Nat) (a:UInt8),s[i]? =some a->p a=true)↔s.all p=true:=by rw[iR];exact⟨λh x hx=>by obtain⟨i,hi,rfl⟩:=Y9 hx;exact h i _ (lM hi),λh i a hi=>h a (oC hi)⟩
theorem b8t{s:List UInt8}(h:s.length<=1000000):ET s=some (ZB s):=by
 unfold ET;refine X8 (zS s (λi a=>Vu a) false PUnit.unit _ o5 (λi x hx=>?_) ?_) ?_
 rotate_left 2
 .have h5:U3 (o8 s) 64=decide (s.length<=64):=by simp only[U3,o8];congr 1;simp;omega
  unfold ZB;by_cases hw:s.all Vu=true
  .rw[if_pos ((ZT s Vu).2 hw),hw,o9,aj,h5,Bool.and_true]
  .rw[if_neg (λh=>hw ((ZT s Vu).1 h))];simp only[xG]at hw;rw[hw,Bool.and_false];rfl
 .have hi:=(aC.1 hx).1;simp only[O0 hx,o7,Vf,hx,ai,o9];rw[bY o5,a4N];cases H9 (x.toNat:Int) 32<;>cases H9 126 (x.toNat:Int)<;>cases C9 (x.toNat:Int) 34<;>rfl
 .rw[N9];rfl
theorem Ro{s:List UInt8}(h:s.length<=1000000):uT s=some (ZB s):=by
 unfold uT;have h5:H9 64 (o8 s)= !decide (s.length<=64):=by simp only[H9,o8];rw[←decide_not];congr 1;simp;omega
 rw[h5,show uy s [34]=some (s.any λx=>decide (x.toNat=(34:UInt8).toNat))from congrArg some (n_ 34 s)];unfold ZB;cases decide (s.length<=64)
 .rfl
 simp only[kD,o6,o9,kE];cases h34:s.any λx=>decide (x.toNat=(34:UInt8).toNat)
 case true=>
  obtain⟨x,hx,hx2⟩:=nR.1 h34;simp only[decide_eq_true_eq]at hx2;have:s.all Vu=false:=by rw[List.all_eq_false];refine⟨x,hx,?_⟩;unfold Vu;rw[hx2];decide
  rw[this];rfl
 simp only[o6];refine X8 (zS s (λi a=>Vu a) false PUnit.unit _ o5 (λi x hx=>?_) ?_) ?_
 rotate_left 2
 .by_cases hw:s.all Vu=true
  .rw[if_pos ((ZT s Vu).2 hw),hw];rfl
  .rw[if_neg (λh=>hw ((ZT s Vu).1 h))];simp only[xG]at hw;rw[hw];rfl
 .have hi:=(aC.1 hx).1;have hne:C9 (x.toNat:Int) 34=false:=by
   have:=(iw.1 h34) x (oC hx);simp only[decide_eq_true_eq]at this;exact U8 (by have h:(34:UInt8).toNat=34:=rfl;omega)
  simp only[O0 hx,o7,Vf,hx,ai,o9];rw[bY o5,a4N,hne];cases H9 (x.toNat:Int) 32<;>cases H9 126 (x.toNat:Int)<;>rfl
 .rw[N9];rfl
def Ry(e:List (Int×Int))(sg:P8)(t:Int×Int):Int:=l7 (C9 (yF e sg).2.2 0) (l7 (jv (C9 (yF e sg).1.1 t.1) (C9 (yF e sg).1.2 t.2)) 0 8) (yF e sg).2.2
theorem Jz(sg:P8)(t:Int×Int)(hI:∀n∈e,b7W n.2):qW e sg t=some (Ry e sg t):=by
 unfold qW Ry;rw[a1o sg hI,o9];cases C9 (yF e sg).2.2 0
 .rfl
 simp only[O7,o6,o7];cases jv (C9 (yF e sg).1.1 t.1) (C9 (yF e sg).1.2 t.2)<;>rfl
theorem b8i(sg:P8)(t:Int×Int)(hI:∀n∈e,b7W n.2):uY e sg t=some (Ry e sg t):=by
 unfold uY Ry;rw[b8v sg hI,o9];cases C9 (yF e sg).2.2 0
 .rfl
 simp only[O7,o6,o7];cases jv (C9 (yF e sg).1.1 t.1) (C9 (yF e sg).1.2 t.2)<;>rfl
def a1A(r:bM):Prop:=r.1.length<=1000000/\r.2.2.2.2.2.2.2.length<=1000000/\(∀n∈r.2.2.2.2.2.1,b7W n.2)/\(∀n∈r.2.2.2.2.2.2.1,b7W n.2)
def XX(rs:List bM)(d:Int):Nat:=rs.countP λo=>C9 o.2.1 d
def Yl(r:bM)(sg:P8)(t:Int×Int):Int:=
 l7 (H9 0 (o8 r.2.2.2.2.2.1)) (l7 (C9 (Ry r.2.2.2.2.2.1 sg (1,0)) 0) (Ry r.2.2.2.2.2.2.1 sg t) (Ry r.2.2.2.2.2.1 sg (1,0))) (Ry r.2.2.2.2.2.2.1 sg t)
def KH(s:N8)(sg:P8)(k:Nat)(r:bM):Int:=
 l7 (vC r.1) (l7 ((s.2.2.2.2.take k).any λx=>seq x.1 r.1) 7 (match J9 s.2.2.2.1 r.2.1 with
  |none=>6|some d=>l7 (l7 (C9 r.2.2.1 (-1)) false (l7 (H9 r.2.2.1 0) true (l7 (U3 k r.2.2.1) true (match J9 s.2.2.2.2 r.2.2.1 with|some q=>G5 (C9 q.2.1 r.2.1)|none=>true)))) 9
   (l7 (H9 r.2.2.2.1 0) 3 (l7 (H9 9 r.2.2.2.1) 3 (l7 (Cb r.2.2.2.2.1) (l7 (C9 r.2.2.2.2.1.1 r.2.2.2.2.1.2) 3
    (l7 (U3 8 (XX (s.2.2.2.2.take k) r.2.1)) 4 (l7 (ZB r.2.2.2.2.2.2.2) (Yl r sg d.2) 2))) 3))))) 2
theorem Wv{l:List α}{i:Int}(h:U3 0 i=false\/H9 i (o8 l)=false):J9 l i=none:=by
 unfold J9
 split
 .rename_i h0;rcases h with h|h
  .rw[IX]at h;omega
  .rw[nz]at h;simp only[o8]at h;exact gI o5
 .rfl
variable {s:N8}{r:bM}{k:Nat}
theorem Ul(sg:P8)(hr:s.2.2.2.2[k]? =some r)(hl:s.2.2.2.2.length<=1000)(h:a1A r):yD s (k:Int) sg=some (KH s sg k r):=by
 have hk:=(aC.1 hr).1;have hcnt:XX (s.2.2.2.2.take k) r.2.1<=1000:=by have:=List.countP_le_length (l:=s.2.2.2.2.take k) (p:=λ(o:bM)=>C9 o.2.1 r.2.1);unfold XX;simp at this;omega
 unfold yD;rw[J3,hr,o9,vW o5,o9];refine X8 (Ei (s.2.2.2.2.take k) (λ(c:Nat) (o:bM)=>l7 (C9 o.2.1 r.2.1) (c+1) c) (λc i=>((c:Int),i)) (λc=>(c:Int)) (λi c=>c<=i) (b:=0) H7 o5 (λi a c ha hi hc=>?_) (λc hc=>?_)).1 ?_
 rotate_left 2
 .have hf:∀(l:List bM) (c:Nat),l.foldl (λ(c:Nat) (o:bM)=>l7 (C9 o.2.1 r.2.1) (c+1) c) c=c+XX l r.2.1:=by
   intro l;induction l with
   |nil=>intro c;rfl|cons a l ih=>intro c;rw[X3,ih];unfold XX;rw[List.countP_cons];cases C9 a.2.1 r.2.1<;>simp<;>omega
  rw[hf,cu,o9,nX h.1,o9,o9,Yr _ H7,o9];unfold KH;cases vC r.1
  .rfl
  simp only[O7,o6,o7,o9];cases (s.2.2.2.2.take k).any λx=>seq x.1 r.1
  case true=>rfl
  simp only[o6];rw[BB r.2.1 0,Oo (o8 s.2.2.2.1) r.2.1];cases h0:U3 0 r.2.1
  .rw[Wv (.inl h0)];rfl
  cases h1:H9 r.2.1 (o8 s.2.2.2.1)
  .rw[Wv (.inr h1)];rfl
  obtain⟨d,hd,_⟩:=uu (uN.1 h0) (zA.1 h1);rw[hd];simp only[kD,o6,o9,Ro h.2.1];have hpar:(l7 (G5 (C9 r.2.2.1 (-1))) (l7 (H9 r.2.2.1 0) (some true) (l7 (U3 (k:Int) r.2.2.1) (some true) (l9 (J9 s.2.2.2.2 r.2.2.1) λ(x_6:bM)=>some (G5 (C9 x_6.2.1 r.2.1))))) (some false))=
    some (l7 (C9 r.2.2.1 (-1)) false (l7 (H9 r.2.2.1 0) true (l7 (U3 k r.2.2.1) true (match J9 s.2.2.2.2 r.2.2.1 with|some q=>G5 (C9 q.2.1 r.2.1)|none=>true)))):=by
   cases C9 r.2.2.1 (-1)
   case true=>rfl
   simp only[ae,o7,o6];cases hp0:H9 r.2.2.1 0
   case true=>rfl
   cases hp1:U3 (k:Int) r.2.2.1
   case true=>rfl
   rw[nz]at hp0;rw[IX]at hp1;obtain⟨q,hq,_⟩:=uu (l:=s.2.2.2.2) hp0 (by simp only[o8];omega);rw[hq];rfl
  rw[hpar,o9];cases (l7 (C9 r.2.2.1 (-1)) false (l7 (H9 r.2.2.1 0) true (l7 (U3 k r.2.2.1) true (match J9 s.2.2.2.2 r.2.2.1 with|some q=>G5 (C9 q.2.1 r.2.1)|none=>true))))
  case true=>rfl
  simp only[o6];cases H9 r.2.2.2.1 0
  case true=>rfl
  simp only[o6,o9];cases H9 9 r.2.2.2.1
  case true=>rfl
  simp only[o6];have hval:∀(A B:Option (bM⊕Int)),l7 (H9 r.2.2.2.2.1.1 0) A (l7 (U3 r.2.2.2.2.1.2 r.2.2.2.2.1.1) A (l7 (H9 109573 r.2.2.2.2.1.2) A B))=l7 (Cb r.2.2.2.2.1) (l7 (C9 r.2.2.2.2.1.1 r.2.2.2.2.1.2) A B) A:=by
   intro A B;unfold Cb;by_cases v0:r.2.2.2.2.1.1<(0:Int)
   .rw[fJ v0,eQ (show r.2.2.2.2.1.1<(0:Int)from v0)];rfl
   rw[dV (qP.1 v0),bT (qP.1 v0)];by_cases v1:(r.2.2.2.2.1.2:Int)<=r.2.2.2.2.1.1
   .rw[bT v1];by_cases v2:(r.2.2.2.2.1.1:Int)<=r.2.2.2.2.1.2
    .rw[bT v2,bH (Int.le_antisymm v2 v1)];cases U3 r.2.2.2.2.1.2 109573<;>rfl
    .rw[eQ (qO.1 v2)];rfl
   .have v1' :=qO.1 v1;rw[eQ v1',bT (Int.le_of_lt v1'),U8 (λhh=>by rw[hh]at v1';exact Int.lt_irrefl _ v1'),BB];cases U3 r.2.2.2.2.1.2 109573<;>rfl
  rw[hval];cases Cb r.2.2.2.2.1
  .rfl
  cases C9 r.2.2.2.2.1.1 r.2.2.2.2.1.2
  case true=>rfl
  simp only[o7,o6];cases U3 8 ((XX (s.2.2.2.2.take k) r.2.1:Nat):Int)
  case true=>rfl
  cases ZB r.2.2.2.2.2.2.2
  .rfl
  simp only[O7,o6,o7,o9,aj,Yl,hd,Jz sg _ h.2.2.1,Jz sg _ h.2.2.2];cases H9 0 (o8 r.2.2.2.2.2.1)
  .rfl
  simp only[o7];cases C9 (Ry r.2.2.2.2.2.1 sg (1,0)) 0<;>rfl
 .have hc' :c<=1000000:=o5;obtain⟨ha1,ha2⟩:=Ri ha;simp only[O0 ha,o7,J3,ha,o9];rw[bY (show i<=9000000000000000000 by omega),bY (show c<=9000000000000000000 by omega)];cases C9 a.2.1 r.2.1
  .exact⟨rfl,by show c<=i+1;omega⟩
  .exact⟨rfl,by show c+1<=i+1;omega⟩
 .simp only[N9];rfl
theorem b8I(s:N8)(d:Int):Gg s d=some (l7 (U3 0 d) (H9 d (o8 s.2.2.2.1)) false):=by unfold Gg;cases U3 0 d<;>rfl
theorem b8q(r:bM):∀(l:List bM) (c:Nat),rD (λ(c:Nat) (o:bM)=>l7 (seq o.1 r.1) (.inr (7:Int)) (.inl (l7 (C9 o.2.1 r.2.1) (c+1) c))) l c=l7 (l.any λx=>seq x.1 r.1) (.inr 7) (.inl (c+XX l r.2.1))
 |[],c=>rfl|a::l,c=>by
  unfold rD;rw[b7Y];cases seq a.1 r.1
  case true=>rfl
  simp only[o6,nC];rw[b8q r l];unfold XX;rw[List.countP_cons];cases C9 a.2.1 r.2.1
  .simp only[o6,ed,if_false,aO]
  .simp only[o7,if_true];rw[show c+1+List.countP (λo=>C9 o.2.1 r.2.1) l=c+(List.countP (λo=>C9 o.2.1 r.2.1) l+1) by omega]
variable {l:au}
theorem b8n(hL:VG l)(hs:l.2.2[i]? =some s)(hr:s.2.2.2.2[k]? =some r)(h:a1A r):EU l (i:Int) (k:Int)=some (KH s (Vl l s) k r):=by
 have hk:=(aC.1 hr).1;have hl:=(hL s (oC hs)).2.2.2;have hcnt:XX (s.2.2.2.2.take k) r.2.1<=1000:=by have:=List.countP_le_length (l:=s.2.2.2.2.take k) (p:=λ(o:bM)=>C9 o.2.1 r.2.1);unfold XX;simp at this;omega
 unfold EU KH;rw[J3,hs,o9,J3,hr,o9,mV h.1,o9];cases vC r.1
 .rfl
 simp only[O7,o6,o7];refine X8 (PZ (s.2.2.2.2.take k) (λ(c:Nat) (o:bM)=>l7 (seq o.1 r.1) (.inr (7:Int)) (.inl (l7 (C9 o.2.1 r.2.1) (c+1) c))) (λc i=>((c:Int),i)) (λc=>(c:Int)) (λi c=>c<=i) (b:=0) H7 o5 (λj a c ha hi hc=>?_) (λc hc=>?_)).1 ?_
 rotate_left 2
 .rw[b8q];cases (s.2.2.2.2.take k).any λx=>seq x.1 r.1
  case true=>rfl
  simp only[o6,cu,o9,aj];rw[BB r.2.1 0,Oo (o8 s.2.2.2.1) r.2.1];cases h0:U3 0 r.2.1
  .rw[Wv (.inl h0)];rfl
  cases h1:H9 r.2.1 (o8 s.2.2.2.1)
  .rw[Wv (.inr h1)];rfl
  obtain⟨d,hd,_⟩:=uu (uN.1 h0) (zA.1 h1);rw[hd];simp only[kD,o6,o9,aj];have hpar:(l7 (G5 (C9 r.2.2.1 (-1))) (l7 (H9 r.2.2.1 0) (some (Sum.inr (9:Int))) (l7 (U3 (k:Int) r.2.2.1) (some (.inr 9)) (l9 (J9 s.2.2.2.2 r.2.2.1) λ(x:bM)=>l7 (G5 (C9 x.2.1 r.2.1)) (some (.inr 9)) (some (.inl PUnit.unit))))) (some (.inl PUnit.unit)))=
    some (l7 (l7 (C9 r.2.2.1 (-1)) false (l7 (H9 r.2.2.1 0) true (l7 (U3 k r.2.2.1) true (match J9 s.2.2.2.2 r.2.2.1 with|some q=>G5 (C9 q.2.1 r.2.1)|none=>true)))) (.inr 9) (.inl PUnit.unit)):=by
   cases C9 r.2.2.1 (-1)
   case true=>rfl
   simp only[ae,o7,o6];cases hp0:H9 r.2.2.1 0
   case true=>rfl
   cases hp1:U3 (k:Int) r.2.2.1
   case true=>rfl
   rw[nz]at hp0;rw[IX]at hp1;obtain⟨q,hq,_⟩:=uu (l:=s.2.2.2.2) hp0 (by simp only[o8];omega);rw[hq];simp only[o9,o6];cases C9 q.2.1 r.2.1<;>rfl
  rw[hpar,o9];cases (l7 (C9 r.2.2.1 (-1)) false (l7 (H9 r.2.2.1 0) true (l7 (U3 k r.2.2.1) true (match J9 s.2.2.2.2 r.2.2.1 with|some q=>G5 (C9 q.2.1 r.2.1)|none=>true))))
  case true=>rfl
  simp only[o6,aj];cases H9 r.2.2.2.1 0
  case true=>rfl
  cases H9 9 r.2.2.2.1
  case true=>rfl
  simp only[o6,Jj,o9];cases Cb r.2.2.2.2.1
  .rfl
  cases C9 r.2.2.2.2.1.1 r.2.2.2.2.1.2
  case true=>rfl
  simp only[O7,o7,o6,o9,aj];cases U3 8 ((XX (s.2.2.2.2.take k) r.2.1:Nat):Int)
  case true=>rfl
  simp only[o6,b8t h.2.1,o9];cases ZB r.2.2.2.2.2.2.2
  .rfl
  simp only[O7,o6,o7,o9,b8o hL hs,Yl,hd,b8i (Vl l s) _ h.2.2.1,b8i (Vl l s) _ h.2.2.2];cases H9 0 (o8 r.2.2.2.2.2.1)
  .rfl
  simp only[o7];cases C9 (Ry r.2.2.2.2.2.1 (Vl l s) (1,0)) 0<;>rfl
 .obtain⟨ha1,ha2⟩:=Ri ha;simp only[fJ (show(j:Int)<(k:Int) by omega),o7,J3,ha2,o9];rw[bY (show j<=9000000000000000000 by omega),bY (show c<=9000000000000000000 by omega)];cases seq a.1 r.1
  .cases C9 a.2.1 r.2.1
   .exact⟨rfl,λb' hb=>by cases hb;show c<=j+1;omega⟩
   .exact⟨rfl,λb' hb=>by cases hb;show c+1<=j+1;omega⟩
  .exact⟨rfl,λb' hb=>by cases hb⟩
 .have e:(s.2.2.2.2.take k).length=k:=by simp;omega
  simp only[e,dV (show(k:Int)<=(k:Int) by omega)];rfl
structure SmS (s:N8):Prop where
 nm:s.1.length<=1000000
 ni:s.2.2.1.length<=14
 nd:s.2.2.2.1.length<=14
 nr:s.2.2.2.2.length<=60
 fo:VE s
 ro:∀r∈s.2.2.2.2,a1A r/\r.2.2.2.2.2.1.length<=50/\r.2.2.2.2.2.2.1.length<=50
theorem UL:mF=oJ:=rfl
def IY(n:Int)(b:List Int×Bool)(a:Int):List Int×Bool:=l7 b.2 (b.1++[a],true) (l7 (U3 n a) (l7 (H9 n a) (b.1++[n]++[a],true) (b.1++[a],true)) (b.1++[a],false))
theorem Yv(n:Int):∀(l p:List Int),l.foldl (IY n) (p,true)=(p++l,true)
 |[],p=>by simp|a::l,p=>by rw[X3,show IY n (p,true) a=(p++[a],true)from rfl,Yv n l];simp
theorem a2d(n:Int):∀(l p:List Int),(l7 (l.foldl (IY n) (p,false)).2 (l.foldl (IY n) (p,false)).1 ((l.foldl (IY n) (p,false)).1++[n]))=p++ins n l
 |[],p=>rfl|a::l,p=>by
  rw[X3];unfold ins;by_cases h1:n<=a
  .rw[if_pos h1];by_cases h2:n<a
   .rw[if_pos h2,show IY n (p,false) a=(p++[n]++[a],true) by simp[IY,bT h1,fJ h2],Yv];simp
   .rw[if_neg h2,show IY n (p,false) a=(p++[a],true) by simp[IY,bT h1,dV (show a<=n by omega)],Yv];simp
  .rw[if_neg h1,show IY n (p,false) a=(p++[a],false) by simp[IY,eQ (show a<n by omega)],a2d n l];simp
theorem AC{l:List Int}(n:Int)(hl:l.length<=1000000):oJ l n=some (ins n l):=by
 unfold oJ;refine kH l (IY n) (λb i=>(b.1,b.2,i)) (λb=>b) (λi b=>b.1.length<=i+1/\(b.2=false->b.1.length<=i)) (([],false):List Int×Bool) hl A8 (λi a b ha hi hI=>?_) (λb hI=>?_) (λh2=>?_)
 .obtain⟨o,d⟩:=b;simp only at hI;simp only[O0 ha,o7,J3,ha,o9];rw[bY o5];cases d
  .simp only[ae,o7,IY,o6];have:=hI.2 rfl;cases U3 n a
   .rw[o6,pU a (show o.length<=1000000 by omega)];exact⟨rfl,by simp<;>omega,by simp<;>omega⟩
   .rw[o7];cases H9 n a
    .rw[o6,pU a (show o.length<=1000000 by omega)];exact⟨rfl,by simp<;>omega,A8⟩
    .rw[o7,pU n (show o.length<=1000000 by omega),o9,uP H7];exact⟨rfl,by simp<;>omega,A8⟩
  .simp only[O7,o6,IY,o7];rw[uP H7];exact⟨rfl,by simp<;>omega,A8⟩
 .simp only[N9];rfl
 .have hf:=a2d n l [];generalize l.foldl (IY n) ([],false)=b at*;obtain⟨o,d⟩:=b;cases d
  .simp only[o6,E9]at hf;simp only[ae,o7];rw[pU _ (by simp at h2;omega),hf];rfl
  .simp only[o7,E9]at hf;simp only[O7,o6,hf]
def isM(op:Int):Bool:=l7 (U3 36 op) (U3 op 39) false
theorem a7r(op:Int):isM op=l7 (C9 op 36) true (l7 (C9 op 37) true (l7 (C9 op 38) true (C9 op 39))):=by
 unfold isM;by_cases h1:36<=op
 .rw[bT h1,o7];by_cases h2:op<=39
  .rw[bT h2];have:op=36\/op=37\/op=38\/op=39:=o5;rcases this with rfl|rfl|rfl|rfl<;>rfl
  .rw[eQ o5,U8 o5,U8 o5,U8 o5,U8 o5];rfl
 .rw[eQ o5,U8 o5,U8 o5,U8 o5,U8 o5];rfl
def Oi(p:Int->Bool)(e:List (Int×Int)):List Int:=(e.filter λn=>p n.1).map (·.2)
def xI(e:List (Int×Int)):List Int×List Int×List Int:=(Jr (Oi (λo=>C9 o 7) e),Jr (Oi (λo=>C9 o 8) e),Jr (Oi isM e))
def a1b(g:List Int->Int->List Int)(b:List Int×List Int×List Int)(n:Int×Int):List Int×List Int×List Int:=
 (l7 (C9 n.1 7) (g b.1 n.2) b.1,l7 (C9 n.1 8) (g b.2.1 n.2) b.2.1,l7 (isM n.1) (g b.2.2 n.2) b.2.2)
theorem LV(g:List Int->Int->List Int):∀(e:List (Int×Int)) (b:List Int×List Int×List Int),e.foldl (a1b g) b=((Oi (λo=>C9 o 7) e).foldl g b.1,(Oi (λo=>C9 o 8) e).foldl g b.2.1,(Oi isM e).foldl g b.2.2)
 |[],b=>rfl|n::e,b=>by
  have hn:∀p:Int->Bool,Oi p (n::e)=l7 (p n.1) (n.2::Oi p e) (Oi p e):=λp=>by unfold Oi;rw[iT];cases p n.1<;>rfl
  rw[X3,LV g e,hn,hn,hn];unfold a1b;simp only;cases C9 n.1 7<;>cases C9 n.1 8<;>cases isM n.1<;>rfl
theorem Td:∀(l b:List Int),l.foldl (λacc n=>acc++[n]) b=b++l
 |[],b=>by simp|a::l,b=>by rw[X3,Td l];simp
theorem Cj{a k:Int}(h:a=k)(m:Int)(hm:k≠m):C9 a m=false:=U8 o5
theorem Bq{l:List Int}(hl:l.length<=1000000):qV l=some (Jr l):=by unfold qV;have:=a6k (l:=l) hl;rw[show(λx=>l9 (oq x) λ(x:List Int)=>some x)=λx=>oq x from funext λx=>wY _];exact this
theorem IA(h:e.length<=1000000):qN e=some (xI e):=by
 unfold qN;refine kH e (a1b (λacc n=>acc++[n])) (λb i=>(b.1,b.2.1,b.2.2,i)) (λb=>b) (λi b=>b.1.length<=i/\b.2.1.length<=i/\b.2.2.length<=i) (([],[],[]):List Int×List Int×List Int) h A8 (λi a b ha hi hI=>?_) (λb hI=>?_) (λh2=>?_)
 .obtain⟨b1,b2,b3⟩:=b;simp only at hI;simp only[O0 ha,o7,J3,ha,o9,pU a.2 (show b1.length<=1000000 by omega),pU a.2 (show b2.length<=1000000 by omega),pU a.2 (show b3.length<=1000000 by omega),a1b,a7r];rw[bY o5];by_cases h7:a.1=7
  .rw[bH h7,Cj h7 8 I5,Cj h7 36 I5,Cj h7 37 I5,Cj h7 38 I5,Cj h7 39 I5];exact⟨rfl,by simp<;>omega,by simp<;>omega,by simp<;>omega⟩
  rw[U8 h7];by_cases h8:a.1=8
  .rw[bH h8,Cj h8 36 I5,Cj h8 37 I5,Cj h8 38 I5,Cj h8 39 I5];exact⟨rfl,by simp<;>omega,by simp<;>omega,by simp<;>omega⟩
  rw[U8 h8];cases C9 a.1 36<;>cases C9 a.1 37<;>cases C9 a.1 38<;>cases C9 a.1 39<;>exact⟨rfl,by simp<;>omega,by simp<;>omega,by simp<;>omega⟩
 .simp only[N9];rfl
 .rw[LV]at h2 ⊢;simp only[Td,E9]at h2 ⊢;rw[Bq o5,o9,Bq o5,o9,Bq o5];rfl
theorem FW(h:e.length<=500000):qi e=some (xI e):=by
 unfold qi;refine kH e (a1b (λacc n=>ins n acc)) (λb i=>(b.1,b.2.1,b.2.2,i)) (λb=>b) (λi b=>b.1.length<=i/\b.2.1.length<=i/\b.2.2.length<=i) (([],[],[]):List Int×List Int×List Int) o5 A8 (λi a b ha hi hI=>?_) (λb hI=>?_) (λh2=>?_)
 .obtain⟨b1,b2,b3⟩:=b;simp only at hI;have l1:=vF a.2 b1;have l2:=vF a.2 b2;have l3:=vF a.2 b3;rw[UL];simp only[O0 ha,o7,J3,ha,o9,AC a.2 (show b1.length<=1000000 by omega),AC a.2 (show b2.length<=1000000 by omega),AC a.2 (show b3.length<=1000000 by omega),a1b,isM];rw[bY o5];by_cases h7:a.1=7
  .rw[bH h7,Cj h7 8 I5,eQ (show a.1<36 by omega)];exact⟨rfl,by simp<;>omega,by simp<;>omega,by simp<;>omega⟩
  rw[U8 h7];cases C9 a.1 8<;>cases U3 36 a.1<;>cases U3 a.1 39<;>exact⟨rfl,by simp<;>omega,by simp<;>omega,by simp<;>omega⟩
 .simp only[N9];rfl
 .rw[LV];rfl
theorem a2w(p:Int->Bool)(e:List (Int×Int)):(Oi p e).length<=e.length:=by unfold Oi;rw[X4];exact cZ _ _
theorem zU(e:List (Int×Int)):(xI e).2.1.length<=e.length:=aP (Wx _) (a2w _ e)
def inD(n d:Int):Bool:=l7 (U3 0 d) (H9 d n) false
def zn(n:Int)(r:bM):List Int:=(xI r.2.2.2.2.2.1).2.1.filter (inD n)++(xI r.2.2.2.2.2.2.1).2.1.filter (inD n)
theorem PN(p:Int->Bool):∀(l b:List Int),l.foldl (λacc x=>l7 (p x) (acc++[x]) acc) b=b++l.filter p
 |[],b=>by simp|a::l,b=>by rw[X3,PN p l,iT];cases p a<;>simp
variable {f:List Int×Int->Option ((List Int×Int)⊕List Int)}
theorem Tc(l b:List Int)(n:Int)(hl:l.length<=1000)(hb:b.length<=1000)
  (hin:∀(i:Nat) (a:Int) (acc:List Int),l[i]? =some a->i<=1000000->f (acc,(i:Int))=l7 (U3 0 a) (l7 (H9 a n) (l9 (bF acc [a]) λx=>some (.inl (x,F9 .i64 (i:Int) 1))) (some (.inl (acc,F9 .i64 (i:Int) 1)))) (some (.inl (acc,F9 .i64 (i:Int) 1))))
  (hend:∀acc,f (acc,(l.length:Int))=some (.inr acc)):aS f (b,0)=some (b++l.filter (inD n)):=by
 have key:=Ei l (λ(acc:List Int) x=>l7 (inD n x) (acc++[x]) acc) (λb i=>(b,i)) (λb=>b) (λi acc=>acc.length<=1000+i) (f:=f) (b:=b) o5 o5 ?_ ?_
 .rw[key.1,PN]
 .intro i a acc ha hi hI;have:=(aC.1 ha).1;rw[hin i a acc ha hi,bY o5,pU _ o5];unfold inD;cases U3 0 a
  .exact⟨rfl,by show acc.length<=_;omega⟩
  cases H9 a n
  .exact⟨rfl,by show acc.length<=_;omega⟩
  .exact⟨rfl,by simp;omega⟩
 .intro acc hI;rw[hend]
theorem La(n:Int)(h1:r.2.2.2.2.2.1.length<=50)(h2:r.2.2.2.2.2.2.1.length<=50):qE r n=some (zn n r):=by
 have g1:=zU r.2.2.2.2.2.1;have g2:=zU r.2.2.2.2.2.2.1;unfold qE zn;rw[IA o5,o9,IA o5,o9];refine X8 (Tc (xI r.2.2.2.2.2.1).2.1 [] n o5 A8 (λi a acc ha hi=>?_) (λacc=>?_)) ?_
 rotate_left 2
 .rw[o9,wY,E9];have:=cZ (inD n) (xI r.2.2.2.2.2.1).2.1;refine Tc (xI r.2.2.2.2.2.2.1).2.1 _ n o5 o5 (λi a acc ha hi=>?_) (λacc=>?_)
  .simp only[O0 ha,o7,J3,ha,o9];rw[show dM (xI r.2.2.2.2.2.2.1).2.1 (aV (i:Int))=some a from ha,o9]
  .simp only[N9];rfl
 .simp only[O0 ha,o7,J3,ha,o9];rw[show dM (xI r.2.2.2.2.2.1).2.1 (aV (i:Int))=some a from ha,o9]
 .simp only[N9];rfl
def nD(s:N8):Int:=o8 s.2.2.2.1
def dl(n:Int)(rs:List bM)(d:Int):List Int:=rs.flatMap λr=>l7 (C9 r.2.1 d) (zn n r) []
def lW(s:N8)(d:Int):List Int:=l7 (inD (nD s) d) (Jr (dl (nD s) s.2.2.2.2 d)) []
theorem LU(h:SmS s)(hr:r∈s.2.2.2.2)(n:Int):(zn n r).length<=100:=by obtain⟨_,h1,h2⟩:=h.ro r hr;have a1:=zU r.2.2.2.2.2.1;have a2:=zU r.2.2.2.2.2.2.1;have b1:=cZ (inD n) (xI r.2.2.2.2.2.1).2.1;have b2:=cZ (inD n) (xI r.2.2.2.2.2.2.1).2.1;unfold zn;rw[D9];omega
theorem d_(n:Int)(rs:List bM)(r:bM)(d:Int):dl n (rs++[r]) d=dl n rs d++l7 (C9 r.2.1 d) (zn n r) []:=by unfold dl;rw[List.flatMap_append];simp
theorem b_(n:Int)(rs:List bM)(r:bM)(d:Int):dl n (r::rs) d=l7 (C9 r.2.1 d) (zn n r) []++dl n rs d:=rfl
theorem Ye{s:N8}(h:SmS s)(n d:Int):∀(rs:List bM),(∀r∈rs,r∈s.2.2.2.2)->(dl n rs d).length<=100*rs.length
 |[],_=>by simp[dl]|r::rs,hm=>by
  have ih:=Ye h n d rs λr hr=>hm r (by simp[hr]);have h1:=LU h (hm r A8) n;rw[b_,D9,D7];cases C9 r.2.1 d
  .simp only[o6,J7];omega
  .simp only[o7];omega
variable {d:Int}{x:Int}
theorem a7u{n:Int}{rs:List bM} :x∈dl n rs d↔∃r∈rs,r.2.1=d/\x∈zn n r:=by
 unfold dl;rw[List.mem_flatMap];constructor
 .rintro⟨r,hr,hx⟩;cases hq:C9 r.2.1 d<;>rw[hq]at hx
  .simp at hx
  .exact⟨r,hr,jC.1 hq,hx⟩
 .rintro⟨r,hr,hq,hx⟩;exact⟨r,hr,by rw[bH hq];exact hx⟩
theorem a3h{n:Int}(h:x∈zn n r):0<=x/\x<n:=by
 have key:inD n x=true:=by unfold zn at h;rcases O6.1 h with h|h<;>exact(oD.1 h).2
 unfold inD at key;cases h0:U3 0 x<;>rw[h0]at key
 .cases key
 .exact⟨uN.1 h0,zA.1 key⟩
theorem CX(s:N8)(d:Int):SI (lW s d):=by
 unfold lW;cases inD (nD s) d
 .exact List.Pairwise.nil
 .exact Y_ _
theorem zM(h:x∈lW s d):0<=x/\x<nD s:=by
 unfold lW at h;cases hq:inD (nD s) d<;>rw[hq]at h
 .simp at h
 .obtain⟨r,_,_,hx⟩:=a7u.1 ((WE _ _).1 h);exact a3h hx
theorem Wp(s:N8)(l b:List Int)(hl:l.length<=1000)(hb:b.length<=100000)
  (hin:∀(i:Nat) (a:Int) (acc:List Int),l[i]? =some a->i<=1000000->f (acc,(i:Int))=l9 (Gg s a) λx=>l7 x (l9 (oJ acc a) λx=>some (.inl (x,F9 .i64 (i:Int) 1))) (some (.inl (acc,F9 .i64 (i:Int) 1))))
  (hend:∀acc,f (acc,(l.length:Int))=some (.inr acc)):aS f (b,0)=some (Cm (l.filter (inD (nD s))) b):=by
 have key:=Ei l (λ(acc:List Int) x=>l7 (inD (nD s) x) (ins x acc) acc) (λb i=>(b,i)) (λb=>b) (λi acc=>acc.length<=100000+i) (f:=f) (b:=b) o5 o5 ?_ ?_
 .have hf:∀(l b:List Int),l.foldl (λ(acc:List Int) x=>l7 (inD (nD s) x) (ins x acc) acc) b=Cm (l.filter (inD (nD s))) b:=by
   intro l;induction l with
   |nil=>intro b;rfl|cons a l ih=>intro b;rw[X3,ih,iT];cases inD (nD s) a<;>rfl
  rw[key.1,hf]
 .intro i a acc ha hi hI;have hlt:=(aC.1 ha).1;have h2:=vF a acc;rw[hin i a acc ha hi,b8I,o9,bY o5,AC _ o5];change l7 (inD (nD s) a) _ _=_/\_;cases inD (nD s) a
  .exact⟨rfl,by show acc.length<=_;omega⟩
  .exact⟨rfl,by show(ins a acc).length<=_;omega⟩
 .intro acc hI;rw[hend]
theorem Qu(h:SmS s)(d:Int):xk s d=some (lW s d):=by
 have hnr:=h.nr;unfold xk lW;rw[b8I,o9];change l7 (G5 (inD (nD s) d)) _ _=_;cases inD (nD s) d
 .rfl
 simp only[O7,o6,o7];refine kH s.2.2.2.2 (λ(acc:List Int) r=>l7 (C9 r.2.1 d) (Cm (zn (nD s) r) acc) acc) (λb i=>(b,i)) (λb=>b) (λi acc=>acc.length<=100*i) [] o5 A8 (λi r acc ha hi hI=>?_) (λacc hI=>?_) (λh2=>?_)
 .have hlt:=(aC.1 ha).1;obtain⟨_,h1,h2⟩:=h.ro r (oC ha);have a1:=zU r.2.2.2.2.2.1;have a2:=zU r.2.2.2.2.2.2.1;have hlen:=BC (zn (nD s) r) acc;have hrl:=LU h (oC ha) (nD s);simp only[O0 ha,o7,J3,ha,o9];rw[bY o5];cases C9 r.2.1 d
  .exact⟨rfl,by show acc.length<=_;omega⟩
  simp only[O7,o6,o7,FW (show r.2.2.2.2.2.1.length<=500000 by omega),FW (show r.2.2.2.2.2.2.1.length<=500000 by omega),o9];refine⟨?_,by show(Cm (zn (nD s) r) acc).length<=_;omega⟩;refine X8 (Wp s (xI r.2.2.2.2.2.1).2.1 acc o5 o5 (λi a acc ha hi=>?_) (λacc=>?_)) ?_
  rotate_left 2
  .rw[o9];have hl2:=BC ((xI r.2.2.2.2.2.1).2.1.filter (inD (nD s))) acc;have hl3:=cZ (inD (nD s)) (xI r.2.2.2.2.2.1).2.1;refine X8 (Wp s (xI r.2.2.2.2.2.2.1).2.1 _ o5 o5 (λi a acc ha hi=>?_) (λacc=>?_)) ?_
   rotate_left 2
   .rw[o9];unfold zn;rw[Np]
   .simp only[O0 ha,o7,J3,ha,o9];rw[show dM (xI r.2.2.2.2.2.2.1).2.1 (aV (i:Int))=some a from ha];rfl
   .simp only[N9];rfl
  .simp only[O0 ha,o7,J3,ha,o9];rw[show dM (xI r.2.2.2.2.2.1).2.1 (aV (i:Int))=some a from ha];rfl
  .simp only[N9];rfl
 .simp only[N9];rfl
 .have hf:∀(l:List bM) (b:List Int),l.foldl (λ(acc:List Int) r=>l7 (C9 r.2.1 d) (Cm (zn (nD s) r) acc) acc) b=Cm (dl (nD s) l d) b:=by
   intro l;induction l with
   |nil=>intro b;rfl|cons a l ih=>intro b;rw[X3,ih,b_,Np];cases C9 a.2.1 d<;>rfl
  rw[hf];rfl
theorem y_(m k:Nat)(f:Nat->α)(v:α):((List.range m).map f).set k v=(List.range m).map λd=>if d=k then v else f d:=by
 apply dL;intro i;rw[X9,fG,fG,X4,fH];by_cases hi:i<m
 .rw[List.getElem?_range hi];by_cases h:k=i
  .subst h;simp[hi]
  .simp[h,Ne.symm h]
 .have:(List.range m)[i]? =none:=by simp;omega
  rw[this];by_cases h:k=i
  .subst h;simp[hi]
  .simp[h]
def OQ(m:Nat)(rs:List bM):List (List Int):=(List.range m).map λ(d:Nat)=>dl (m:Int) rs (d:Int)
theorem Vs{l:List Int}(hl:l.length<=1000000):Ag l=some (Jr l):=Bq hl
theorem UE(m:Nat)(f:Nat->α)(h:k<m):((List.range m).map f)[k]? =some (f k):=by rw[fG,List.getElem?_range h];rfl
theorem Uh(h:SmS s):wC s=some ((List.range s.2.2.2.1.length).map λ(d:Nat)=>lW s (d:Int)):=by
 have hnr:=h.nr;have hnd:=h.nd;unfold wC;generalize hm:s.2.2.2.1.length=m at*;have hn:nD s=(m:Int):=by unfold nD o8;rw[hm]
 rw[show o8 s.2.2.2.1=(m:Int)from hn,show Ib (m:Int) ([]:List Int)=some (OQ m []) by unfold Ib OQ dl;rw[if_pos o5];simp[List.map_const'],o9];refine kH s.2.2.2.2 (λ(b:List (List Int)) r=>l7 (inD m r.2.1) (b.set r.2.1.toNat ((b.getD r.2.1.toNat [])++zn m r)) b) (λb i=>(b,i)) (λb=>b) (λi b=>b=OQ m (s.2.2.2.2.take i)) (OQ m []) o5 A8 (λi r b ha hi hI=>?_) (λb hI=>?_) (λh2=>?_)
 .have hlt:=(aC.1 ha).1;obtain⟨_,h1,h2⟩:=h.ro r (oC ha);have hst:s.2.2.2.2.take (i+1)=s.2.2.2.2.take i++[r]:=by
   rw[U2 hlt,(aC.1 ha).2]
  have hlb:o8 b=(m:Int):=by rw[hI];simp[o8,OQ]
  obtain⟨rd,hrd⟩:∃rd:Int,r.2.1=rd:=⟨r.2.1,rfl⟩;simp only[O0 ha,o7,J3,ha,o9,hlb,hrd];rw[bY o5,hst];by_cases hd:0<=rd/\rd<(m:Int)
  .obtain⟨d0,d1⟩:=hd;have hk:rd.toNat<m:=o5;have hkk:((rd.toNat:Nat):Int)=rd:=o5;have hg:b[rd.toNat]? =some (dl m (s.2.2.2.2.take i) rd):=by rw[hI];unfold OQ;rw[UE m _ hk,hkk]
   have hll:=Ye h m rd (s.2.2.2.2.take i) λr hr=>nT hr;have hrl:=LU h (oC ha) m;have htl:(s.2.2.2.2.take i).length<=60:=by simp;omega
   rw[bT d0,fJ d1,show inb rd (m:Int)=true by unfold inb;simp;omega,show dM b (aV rd)=some (dl m (s.2.2.2.2.take i) rd)from hg,La _ h1 h2];simp only[o7,o9];rw[uP o5,show Je (aV rd) (aV rd)=true by simp[Je]];simp only[o7,o9];have hin:inD m rd=true:=by unfold inD;rw[bT d0,fJ d1];rfl
   rw[hin,show b.getD rd.toNat []=dl m (s.2.2.2.2.take i) rd by rw[Lr,hg];rfl];refine⟨rfl,?_⟩;show b.set rd.toNat _=_;rw[hI];unfold OQ;rw[y_];apply fO;intro d hdm;rw[d_,hrd];by_cases hq:d=rd.toNat
   .subst hq;rw[if_pos rfl,hkk,bH rfl];rfl
   .rw[if_neg hq,U8 o5];simp
  .have hin:inD m rd=false:=by
    unfold inD;by_cases d0:0<=rd
    .rw[bT d0,dV o5];rfl
    .rw[eQ o5];rfl
   rw[hin];refine⟨?_,?_⟩
   .unfold inD at hin;cases q0:U3 0 rd
    .rfl
    .rw[q0]at hin;simp only[o7]at hin ⊢;rw[hin];rfl
   .show b=_;rw[hI];unfold OQ;apply fO;intro d hdm;have:=dX.1 hdm;rw[d_,hrd,U8 o5];simp
 .simp only[N9];rfl
 .rw[dA]at h2;rw[h2];generalize hA:OQ m s.2.2.2.2=A;have hAl:o8 A=(m:Int):=by rw[←hA];simp[o8,OQ]
  refine kH (List.range m) (λ(b:List (List Int)) d=>b.set d (Jr (b.getD d []))) (λb i=>(b,i)) (λb=>b) (λi b=>b=(List.range m).map λ(d:Nat)=>if d<i then Jr (dl m s.2.2.2.2 (d:Int))else dl m s.2.2.2.2 (d:Int)) A H7 (by rw[←hA];unfold OQ;simp) (λi d b ha hi hI=>?_) (λb hI=>?_) (λh3=>?_)
  .have hlt:=(aC.1 ha).1;simp only[fH]at hlt;have hdi:d=i:=by rw[List.getElem?_range hlt]at ha;exact(sF ha).symm
   subst hdi;have hlb:o8 b=(m:Int):=by rw[hI];simp[o8]
   have hg:b[d]? =some (dl m s.2.2.2.2 (d:Int)):=by rw[hI,UE m _ hlt,if_neg o5]
   have hll:=Ye h m d s.2.2.2.2 λr hr=>hr;simp only[hAl,hlb];rw[fJ (show(d:Int)<(m:Int) by omega),show inb (d:Int) (m:Int)=true by unfold inb;simp;omega,show dM b (aV (d:Int))=some (dl m s.2.2.2.2 (d:Int))from hg];simp only[o7,o9];rw[Vs o5,show Je (aV (d:Int)) (aV (d:Int))=true by simp[Je],bY o5];simp only[o7,o9];rw[show b.getD d []=dl m s.2.2.2.2 (d:Int) by rw[Lr,hg];rfl];refine⟨rfl,?_⟩;rw[hI,y_];apply fO;intro e he;by_cases hq:e=d
   .subst hq;rw[if_pos rfl,if_pos o5]
   .rw[if_neg hq];by_cases hq2:e<d
    .rw[if_pos hq2,if_pos o5]
    .rw[if_neg hq2,if_neg o5]
  .simp only[fH,hAl,dV (show(m:Int)<=(m:Int) by omega)];rfl
  .rw[h3];apply congrArg some;apply fO;intro d hd;have:=dX.1 hd;simp only[fH];rw[if_pos this];unfold lW;rw[hn,show inD (m:Int) (d:Int)=true by unfold inD;rw[bT o5,fJ o5];rfl];rfl
def Rch(D:Int->List Int)(d:Int)(L:List Int):Prop:=SI L/\(∀x∈D d,x∈L)/\(∀x∈L,∀y∈D x,y∈L)/\∀C:Int->Prop,(∀x∈D d,C x)->(∀x,C x->∀y∈D x,C y)->∀x∈L,C x
theorem Rch.unique{D:Int->List Int}{L M:List Int}(h:Rch D d L)(k:Rch D d M):L=M:=
 Zi h.1 k.1 λx=>⟨λhx=>h.2.2.2 (λy=>y∈M) k.2.1 k.2.2.1 x hx,λhx=>k.2.2.2 (λy=>y∈L) h.2.1 h.2.2.1 x hx⟩
theorem Vx:∀{B A:List Int},SI A->SI B->(∀x∈A,x∈B)->A=B\/A.length<B.length
 |[],A,_,_,h=>by
  cases A with
  |nil=>exact .inl rfl|cons a A=>exact absurd (h a A8) A8
 |b::B,[],_,_,_=> .inr A8|b::B,a::A,hA,hB,h=>by
  have hA' :=U4.1 hA;have hB' :=U4.1 hB;rcases A7.1 (h a A8)with hab|hab
  .subst hab;rcases Vx (B:=B) (A:=A) hA'.2 hB'.2 (λx hx=>by
    rcases A7.1 (h x (by simp[hx]))with h1|h1
    .have:=hA'.1 x hx;omega
    .exact h1)with h1|h1
   .exact .inl (by rw[h1])
   .exact .inr (by simp only[D7];omega)
  .have hab2:=hB'.1 a hab;rcases Vx (B:=B) (A:=a::A) hA hB'.2 (λx hx=>by
    rcases A7.1 (h x hx)with h1|h1
    .rcases A7.1 hx with h2|h2
     .omega
     .have:=hA'.1 x h2;omega
    .exact h1)with h1|h1
   .exact .inr (by rw[h1];simp)
   .exact .inr (by simp only[D7]at*;omega)
def Dt(D:Int->List Int)(L:List Int):List Int:=L.foldl (λacc x=>Cm (D x) acc) L
theorem Du(D:Int->List Int)(x:Int):∀(l acc:List Int),x∈l.foldl (λacc x=>Cm (D x) acc) acc↔x∈acc\/∃y∈l,x∈D y
 |[],acc=>by simp|a::l,acc=>by
  rw[X3,Du D x l,JO];constructor
  .rintro((h|h)|⟨y,hy,h⟩)
   .exact .inr ⟨a,A8,h⟩
   .exact .inl h
   .exact .inr ⟨y,by simp[hy],h⟩
  .rintro(h|⟨y,hy,h⟩)
   .exact .inl (.inr h)
   .rcases A7.1 hy with rfl|hy
    .exact .inl (.inl h)
    .exact .inr ⟨y,hy,h⟩
theorem E_(D:Int->List Int):∀(l:List Int) {acc:List Int},SI acc->SI (l.foldl (λacc x=>Cm (D x) acc) acc)
 |[],_,h=>h|a::l,_,h=>by rw[X3];exact E_ D l (OC _ h)
theorem Qk(D:Int->List Int){L:List Int}(h:SI L):SI (Dt D L):=E_ D L h
def itS(D:Int->List Int)(d:Int):Nat->List Int
 |0=>D d|k+1=>Dt D (itS D d k)
section
variable {D:Int->List Int} {n:Nat} (hsi:∀x,SI (D x)) (hin:∀x,∀y∈D x,0<=y/\y<(n:Int))
include hsi hin
theorem Tq(d:Int):∀k,SI (itS D d k)
 |0=>hsi d|k+1=>Qk D (Tq d k)
theorem p_(d:Int):∀k,∀x∈itS D d k,0<=x/\x<(n:Int)
 |0,x,hx=>hin d x hx|k+1,x,hx=>by
  rcases(Du D x _ _).1 hx with h|⟨y,_,h⟩
  .exact p_ d k x h
  .exact hin y x h
theorem o_(d:Int)(k:Nat):Dt D (itS D d k)=itS D d k\/(itS D d k).length<(Dt D (itS D d k)).length:=by
 rcases Vx (Tq hsi hin d k) (Qk D (Tq hsi hin d k)) (λx hx=>(Du D x _ _).2 (.inl hx))with h|h
 .exact .inl h.symm
 .exact .inr h
theorem Tu(d:Int):∀k,Dt D (itS D d k)=itS D d k\/k<(Dt D (itS D d k)).length
 |0=>by
  rcases o_ hsi hin d 0 with h|h
  .exact .inl h
  .exact .inr o5
 |k+1=>by
  rcases Tu d k with h|h
  .exact .inl (by show Dt D (Dt D (itS D d k))=Dt D (itS D d k);rw[h,h])
  .rcases o_ hsi hin d (k+1)with h2|h2
   .exact .inl h2
   .exact .inr (by have:(itS D d (k+1)).length=(Dt D (itS D d k)).length:=rfl;omega)
theorem a7s(d:Int):Rch D d (itS D d n):=by
 have hst:Dt D (itS D d n)=itS D d n:=by
  rcases Tu hsi hin d n with h|h
  .exact h
  .have:=Vk n (Qk D (Tq hsi hin d n)) (p_ hsi hin d (n+1));omega
 refine⟨Tq hsi hin d n,?_,?_,?_⟩
 .intro x hx;have:∀k,x∈itS D d k:=by
   intro k;induction k with
   |zero=>exact hx|succ k ih=>exact(Du D x _ _).2 (.inl ih)
  exact this n
 .intro x hx y hy;rw[←hst];exact(Du D y _ _).2 (.inr ⟨x,hx,hy⟩)
 .intro C h1 h2;have:∀k,∀x∈itS D d k,C x:=by
   intro k;induction k with
   |zero=>exact h1|succ k ih=>
    intro x hx;rcases(Du D x _ _).1 hx with h|⟨y,hy,h⟩
    .exact ih x h
    .exact h2 y (ih y hy) x h
  exact this n
end
def vK(s:N8)(d:Int):List Int:=itS (lW s) d s.2.2.2.1.length
theorem MN(s:N8)(d:Int):Rch (lW s) d (vK s d):=
 a7s (n:=s.2.2.2.1.length) (CX s) (λx y hy=>zM hy) d
theorem XA(h:x∈vK s d):0<=x/\x<nD s:=p_ (n:=s.2.2.2.1.length) (CX s) (λx y hy=>zM hy) d _ x h
theorem Yd(h:SmS s)(d:Int):(lW s d).length<=14:=
 aP (Vk s.2.2.2.1.length (CX s d) (λx hx=>zM hx)) h.nd
theorem DZ(h:SmS s){l:List Int}(hs:SI l)(hi:∀x∈l,0<=x/\x<nD s):l.length<=14:=aP (Vk s.2.2.2.1.length hs hi) h.nd
theorem Qy(h:SmS s)(d:Int):tV s d=some (vK s d):=by
 have hnd:=h.nd;unfold tV;rw[Qu h,o9];have hsi:=CX s;have hin:∀x,∀y∈lW s x,0<=y/\y<((s.2.2.2.1.length:Nat):Int):=λx y hy=>zM hy;refine kH s.2.2.2.1 (λ(b:List Int) (_:dW)=>Dt (lW s) b) (λb i=>(b,i)) (λb=>b) (λi b=>b=itS (lW s) d i) (lW s d) o5 rfl (λi f b ha hi hI=>?_) (λb hI=>?_) (λh2=>?_)
 .simp only[O0 ha,o7];refine⟨?_,by show Dt _ b=_;rw[hI];rfl⟩;have hb1:SI b:=by rw[hI];exact Tq hsi hin d i
  have hb2:∀x∈b,0<=x/\x<nD s:=by rw[hI];exact p_ hsi hin d i
  have hbl:=DZ h hb1 hb2;rw[bY o5];refine kH b (λ(acc:List Int) x=>Cm (lW s x) acc) (λb i=>(b,i)) (λb=>b) (λi acc=>SI acc/\∀x∈acc,0<=x/\x<nD s) b o5 ⟨hb1,hb2⟩ (λj x acc hx hj hJ=>?_) (λacc hJ=>?_) (λh3=>?_)
  .have hal:=DZ h hJ.1 hJ.2;have hdl:=Yd h x;simp only[O0 hx,o7,J3,hx,o9,Qu h x];rw[bY o5];refine⟨?_,OC _ hJ.1,λy hy=>?_⟩
   .refine kH (lW s x) (λ(acc:List Int) y=>ins y acc) (λb i=>(b,i)) (λb=>b) (λi a=>a.length<=acc.length+i) acc o5 o5 (λk y a hy hk hK=>?_) (λa hK=>?_) (λh4=>?_)
    .have hlt:=(aC.1 hy).1;have hli:=vF y a;simp only[O0 hy,o7,J3,hy,o9];rw[show dM (lW s x) (aV (k:Int))=some y from hy,o9,AC _ o5,o9,bY o5];exact⟨rfl,by show(ins y a).length<=_;omega⟩
    .simp only[N9];rfl
    .rfl
   .rcases(JO y _ _).1 hy with h4|h4
    .exact zM h4
    .exact hJ.2 y h4
  .simp only[N9];rfl
  .rfl
 .simp only[N9];rfl
 .rw[h2];rfl
def mk(S:List Bool)(x:Int):Bool:=if 0<=x then S.getD x.toNat false else false
def unm(S:List Bool):Nat:=S.count false
def rG(b:List Bool×List Int)(e:Int):List Bool×List Int:=l7 (mk b.1 e) b (b.1.set e.toNat true,b.2++[e])
variable {S:List Bool}
theorem a2l(h0:0<=x)(h1:x<o8 S):S[x.toNat]? =some (mk S x):=by
 unfold mk;rw[if_pos h0,Lr];have:x.toNat<S.length:=by simp only[o8]at h1;omega
 rw[lM this];rfl
theorem a2m{e:Int}(h0:0<=e)(h1:e<o8 S)(x:Int):mk (S.set e.toNat true) x=l7 (C9 x e) true (mk S x):=by
 unfold mk;have hl:e.toNat<S.length:=by simp only[o8]at h1;omega
 by_cases hx:0<=x
 .rw[if_pos hx,if_pos hx,Lr,Lr,X9];by_cases hq:x=e
  .subst hq;rw[if_pos rfl,if_pos hl,bH rfl];rfl
  .rw[if_neg o5,U8 hq];rfl
 .rw[if_neg hx,if_neg hx,U8 o5];rfl
theorem a6q{e:Int}(h0:0<=e)(h1:e<o8 S)(hm:mk S e=false):unm (S.set e.toNat true)+1=unm S:=by
 have hl:e.toNat<S.length:=by simp only[o8]at h1;omega
 have hg:=a2l h0 h1;rw[hm,lM hl]at hg;have hg' :S[e.toNat]=false:=sF hg;unfold unm;rw[List.count_set hl,hg'];have:0<S.count false:=List.count_pos_iff.2 (by rw[←hg'];exact N7 hl);simp;omega
structure RInv (n:Nat) (S:List Bool) (Q:List Int) (l:List Int) (S' :List Bool) (Q' :List Int):Prop where
 len:S'.length=n
 seen:∀x:Int,0<=x->x<(n:Int)->(mk S' x=true↔mk S x=true\/x∈l)
 sum:Q'.length+unm S' =Q.length+unm S
 le:unm S' <=unm S
 old:∀x∈Q,x∈Q'
 new:∀x∈Q',x∈Q\/x∈l
 got:∀x,mk S' x=true->mk S x=true\/x∈Q'
theorem a3o{n:Nat} :∀(l:List Int) (S:List Bool) (Q:List Int),S.length=n->(∀x∈l,0<=x/\x<(n:Int))->RInv n S Q l (l.foldl rG (S,Q)).1 (l.foldl rG (S,Q)).2
 |[],S,Q,hl,_=>⟨hl,λx _ _=>by simp,rfl,E5 _,λx hx=>hx,λx hx=> .inl hx,λx hx=> .inl hx⟩|e::l,S,Q,hl,hi=>by
  have he:=hi e A8;have hel:e<o8 S:=by simp only[o8];omega
  rw[X3];cases hm:mk S e with
  |true=>
   rw[show rG (S,Q) e=(S,Q) by unfold rG;rw[hm];rfl];have ih:=a3o l S Q hl λx hx=>hi x (by simp[hx]);refine⟨ih.len,λx h0 h1=>?_,ih.sum,ih.le,ih.old,λx hx=>?_,ih.got⟩
   .rw[ih.seen x h0 h1,A7];constructor
    .rintro(h|h)
     .exact .inl h
     .exact .inr (.inr h)
    .rintro(h|h|h)
     .exact .inl h
     .subst h;exact .inl hm
     .exact .inr h
   .rcases ih.new x hx with h|h
    .exact .inl h
    .exact .inr (by simp[h])
  |false=>
   rw[show rG (S,Q) e=(S.set e.toNat true,Q++[e]) by unfold rG;rw[hm];rfl];have ih:=a3o l (S.set e.toNat true) (Q++[e]) (by simp[hl]) λx hx=>hi x (by simp[hx]);have hu:=a6q he.1 hel hm;refine⟨ih.len,λx h0 h1=>?_,?_,?_,λx hx=>ih.old x (by simp[hx]),λx hx=>?_,λx hx=>?_⟩
   .rw[ih.seen x h0 h1,a2m he.1 hel,A7];cases hq:C9 x e
    .rw[wI]at hq;simp[hq]
    .rw[jC]at hq;simp[hq]
   .have:=ih.sum;simp only[D9,D7,J7]at this;omega
   .have:=ih.le;omega
   .rcases ih.new x hx with h|h
    .rcases O6.1 h with h|h
     .exact .inl h
     .exact .inr (by simp at h;simp[h])
    .exact .inr (by simp[h])
   .rcases ih.got x hx with h|h
    .rw[a2m he.1 hel]at h;cases hq:C9 x e
     .rw[hq]at h;exact .inl h
     .rw[jC]at hq;subst hq;exact .inr (ih.old _ A8)
    .exact .inr h
def Nu(S:List Bool):List Int:=((List.range S.length).filter λi=>S.getD i false).map λ(i:Nat)=>(i:Int)
theorem Hl(x:Int):x∈Nu S↔mk S x=true:=by
 unfold Nu mk;rw[iK];constructor
 .rintro⟨i,hi,rfl⟩;rw[if_pos o5];exact(oD.1 hi).2
 .intro h;split at h
  .refine⟨x.toNat,oD.2 ⟨dX.2 ?_,h⟩,o5⟩;rw[Lr]at h;cases hg:S[x.toNat]? with
   |none=>rw[hg]at h;cases h|some b=>exact(aC.1 hg).1
  .cases h
theorem a2j(S:List Bool):SI (Nu S):=by unfold Nu;refine List.Pairwise.map _ (R:=(·< ·)) (λa b h=>by omega) (List.Pairwise.filter _ List.pairwise_lt_range)
theorem Yz(S:List Bool)(hS:S.length<=100)
  (hin:∀(i:Nat) (a:Bool) (acc:List Int),S[i]? =some a->i<=1000000->acc.length<=i->f (acc,(i:Int))=l7 a (l9 (bF acc [(i:Int)]) λx=>some (.inl (x,F9 .i64 (i:Int) 1))) (some (.inl (acc,F9 .i64 (i:Int) 1))))
  (hend:∀acc,f (acc,(S.length:Int))=some (.inr acc)):aS f ([],0)=some (Nu S):=by
 have mk2:∀i,i<=S.length->((List.range i).filter λi=>S.getD i false).length<=i:=λi _=>by have:=cZ (λi=>S.getD i false) (List.range i);simpa using this
 obtain⟨e,h1,h2⟩:=oP (f:=f) (s:=([],0)) (λx=>∃i:Nat,x=(((List.range i).filter λi=>S.getD i false).map λ(i:Nat)=>(i:Int),(i:Int))/\i<=S.length) (λe=>e=Nu S) (λx=>S.length -x.2.toNat) ⟨0,rfl,o5⟩ H7 (by
  rintro x ⟨i,rfl,hi⟩;by_cases h:i<S.length
  .have e:=lM h;have hst:(List.range (i+1)).filter (λi=>S.getD i false)=(List.range i).filter (λi=>S.getD i false)++l7 S[i] [i] []:=by
    rw[fB,List.filter_append];congr 1;rw[iT,Lr,e];cases S[i]<;>rfl
   have hl:=mk2 i hi;refine .inl ⟨(((List.range (i+1)).filter λi=>S.getD i false).map λ(i:Nat)=>(i:Int),((i+1:Nat):Int)),?_,⟨i+1,rfl,h⟩,by simp;omega⟩;rw[hin i _ _ e o5 (by simpa using hl),bY o5,hst,gJ,pU _ (by rw[X4];omega)];cases S[i]
   .simp
   .rfl
  .have:i=S.length:=o5;subst this;exact .inr ⟨_,hend _,rfl⟩)
 rw[h1,h2]
theorem YN{D:Int->List Int}{n:Nat}(hn:n<=14)(hsi:∀x,SI (D x))(hin:∀x,∀y∈D x,0<=y/\y<(n:Int))(h0:0<=d)(h1:d<(n:Int)):
  ∃L,zt ((List.range n).map λ(x:Nat)=>D (x:Int)) d=some L/\Rch D d L:=by
 have hA:o8 ((List.range n).map λ(x:Nat)=>D (x:Int))=(n:Int):=by simp[o8]
 have hget:∀x:Int,0<=x->x<n->J9 ((List.range n).map λ(x:Nat)=>D (x:Int)) x=some (D x):=λx a b=>by
  have:x.toNat<n:=o5;unfold J9
  rw[if_pos a,UE n _ this,fM a]
 unfold zt;generalize (List.range n).map (λ(x:Nat)=>D (x:Int))=A at*;rw[hA,show Ib (n:Int) false=some (List.replicate n false) by unfold Ib;rw[if_pos o5];simp,o9];have hD14:∀x,(D x).length<=14:=λx=>aP (Vk n (hsi x) (hin x)) hn;have key:=oP (f:=λ(x:List Bool×List Int)=>l7 (H9 0 (o8 x.2)) (l9 (J9 x.2 0) λ(x_1:Int)=>l9 (dM x.2 (aV 0)) λ(x_2:Int)=>l7 (jO 1 (o8 x.2) (o8 x.2)) (l9 (J9 A x_2) λ(x_3:List Int)=>
   l9 (aS (λ(x:List Bool×List Int×Int)=>l7 (H9 x.2.2 (o8 x_3)) (l9 (J9 x_3 x.2.2) λ(x_4:Int)=>l9 (J9 x.1 x_4) λ(x_5:Bool)=>l9 (dM x.1 (aV x_4)) λ(x_6:Bool)=>
     l7 (G5 x_6) (l9 (J9 x.1 x_4) λ(x_7:Bool)=>l9 (dM x.1 (aV x_4)) λ(x_8:Bool)=>l9 (bF x.2.1 [x_4]) λ(x_9:List Int)=>some (.inl (qR x.1 (aV x_4) true,x_9,F9 .i64 x.2.2 1)))
      (some (.inl (x.1,x.2.1,F9 .i64 x.2.2 1)))) (some (.inr (x.1,x.2.1)))) (x.1,iO x.2 (aV 1) (aV (o8 x.2)),0)) λ(y:List Bool×List Int)=>some (.inl y)) none) (some (.inr x.1)))
  (s:=(List.replicate n false,[d]))
  (λx=>x.1.length=n/\(∀q∈x.2,0<=q/\q<(n:Int))/\x.2.length+unm x.1<=n+1/\(∀q∈x.2,q=d\/mk x.1 q=true)/\(∀v,v=d\/mk x.1 v=true->v∈x.2\/∀y∈D v,mk x.1 y=true)/\
   (∀C:Int->Prop,(∀x∈D d,C x)->(∀x,C x->∀y∈D x,C y)->∀v,mk x.1 v=true->C v)/\(∀v,mk x.1 v=true->0<=v/\v<(n:Int)))
  (λS=>S.length=n/\Rch D d (Nu S)) (λx=>2*unm x.1+x.2.length) ?_ ?_ ?_
 .obtain⟨S,k1,k2,k3⟩:=key;refine⟨Nu S,?_,k3⟩;refine(Qm k1 _).trans ?_;rw[wY];refine Yz S o5 (λi a acc ha hi hacc=>?_) (λacc=>?_)
  .simp only[O0 ha,o7,J3,ha,o9];rw[show dM S (aV (i:Int))=some a from ha,o9]
  .simp only[N9];rfl
 .have hnone:∀v,mk (List.replicate n false) v=false:=λv=>by
   unfold mk;split
   .rw[Lr,List.getElem?_replicate];split<;>rfl
   .rfl
  refine⟨A8,λq hq=>by simp at hq;omega,?_,λq hq=> .inl (by simpa using hq),λv hv=>?_,λC _ _ v hv=>(by rw[hnone]at hv;cases hv),λv hv=>(by rw[hnone]at hv;cases hv)⟩
  .simp[unm,List.count_replicate];omega
  .rcases hv with rfl|hv
   .exact .inl A8
   .rw[hnone]at hv;cases hv
 .simp[unm,List.count_replicate];omega
 .rintro⟨S,Q⟩ ⟨i1,i2,i3,i4,i5,i6,i7⟩;simp only at i1 i2 i3 i4 i5 i6 i7;cases Q with
  |nil=>
   right;refine⟨S,rfl,i1,a2j S,λx hx=>?_,λx hx y hy=>?_,λC c1 c2 x hx=>i6 C c1 c2 x ((Hl x).1 hx)⟩
   .rcases i5 d (.inl rfl)with h|h
    .cases h
    .exact(Hl x).2 (h x hx)
   .rcases i5 x (.inr ((Hl x).1 hx))with h|h
    .cases h
    .exact(Hl y).2 (h y hy)
  |cons q Q=>
   left;have hq:=i2 q A8;have hfold:=a3o (n:=n) (D q) S Q i1 (λx hx=>hin q x hx);refine⟨(D q).foldl rG (S,Q),?_,?_,?_⟩
   .simp only[fJ (show(0:Int)<o8 (q::Q) by simp[o8]<;>omega),o7,show J9 (q::Q) 0=some q from rfl,show dM (q::Q) (aV 0)=some q from rfl,o9,hget q hq.1 hq.2,
     show jO 1 (o8 (q::Q)) (o8 (q::Q))=true by simp[jO,o8]<;>omega,show iO (q::Q) (aV 1) (aV (o8 (q::Q)))=Q by simp[iO,aV,o8]]
    refine kH (D q) rG (λb i=>(b.1,b.2,i)) (λb=>b) (λi b=>b.1.length=n/\b.2.length<=100+i) (S,Q) (by have:=hD14 q;omega) ⟨i1,by simp at i3;show Q.length<=100+0;omega⟩ (λi e b he hi hI=>?_) (λb hI=>?_) (λh2=>rfl)
    .obtain⟨S1,Q1⟩:=b;simp only at hI;have hee:=hin q e (oC he);have hlt:=(aC.1 he).1;have hdl:=hD14 q;have hg:=a2l (S:=S1) hee.1 (by simp only[o8];omega);have hla:J9 S1 e=some (mk S1 e):=by unfold J9;rw[if_pos hee.1];exact hg
     have hlg:dM S1 (aV e)=some (mk S1 e):=hg;simp only[O0 he,o7,J3 (D q),he,o9,hla,hlg];rw[bY o5,pU _ o5];unfold rG;simp only;cases mk S1 e
     .exact⟨rfl,by simp[hI.1],by simp<;>omega⟩
     .exact⟨rfl,hI.1,by show Q1.length<=_;omega⟩
    .simp only[N9];rfl
   .obtain⟨j1,j2,j3,j4,j5,j6,j7⟩:=hfold;generalize (D q).foldl rG (S,Q)=b at*;obtain⟨S',Q'⟩:=b;simp only at j1 j2 j3 j4 j5 j6 j7 ⊢;have hrange:∀v,mk S' v=true->0<=v/\v<(n:Int):=λv hv=>by
     rcases j7 v hv with h|h
     .exact i7 v h
     .rcases j6 v h with h|h
      .exact i2 v (by simp[h])
      .exact hin q v h
    refine⟨j1,λx hx=>?_,?_,λx hx=>?_,λv hv=>?_,λC c1 c2 v hv=>?_,hrange⟩
    .rcases j6 x hx with h|h
     .exact i2 x (by simp[h])
     .exact hin q x h
    .simp only[D7]at i3;omega
    .rcases j6 x hx with h|h
     .rcases i4 x (by simp[h])with h2|h2
      .exact .inl h2
      .have hr:=i7 x h2;exact .inr ((j2 x hr.1 hr.2).2 (.inl h2))
     .have hr:=hin q x h;exact .inr ((j2 x hr.1 hr.2).2 (.inr h))
    .have up:∀y,mk S y=true->mk S' y=true:=λy hy=>by
      have hr:=i7 y hy;exact(j2 y hr.1 hr.2).2 (.inl hy)
     by_cases hvq:v=q
     .subst hvq;right;intro y hy;have hr:=hin v y hy;exact(j2 y hr.1 hr.2).2 (.inr hy)
     .by_cases hold:v=d\/mk S v=true
      .rcases i5 v hold with h|h
       .rcases A7.1 h with h|h
        .exact absurd h hvq
        .exact .inl (j5 v h)
       .exact .inr λy hy=>up y (h y hy)
      .rcases hv with h|h
       .exact absurd (.inl h) hold
       .rcases j7 v h with h2|h2
        .exact absurd (.inr h2) hold
        .exact .inl h2
    .by_cases hS:mk S v=true
     .exact i6 C c1 c2 v hS
     .have hr:=hrange v hv;rcases(j2 v hr.1 hr.2).1 hv with h|h
      .exact absurd h hS
      .rcases i4 q A8 with h2|h2
       .subst h2;exact c1 v h
       .exact c2 q (i6 C c1 c2 q h2) v h
   .have:=hfold.sum;have:=hfold.le;simp only[D7];omega
theorem SC(h:SmS s)(h0:0<=d)(h1:d<nD s):uJ s d=some (vK s d):=by have hn:nD s=((s.2.2.2.1.length:Nat):Int):=rfl;unfold uJ;change l7 (H9 d 0) _ (l7 (U3 (nD s) d) _ _)=_;rw[dV h0,o6,eQ h1,o6,Uh h,o9,wY];obtain⟨L,k1,k2⟩:=YN (D:=lW s) h.nd (CX s) (λx y hy=>zM hy) h0 (show d<((s.2.2.2.1.length:Nat):Int) by omega);rw[k1,Rch.unique k2 (MN s d)]
structure SmL (l:au):Prop where
 few:Few l
 en:ZN l
 tb:VH l
 sc:∀s∈l.2.2,SmS s
theorem SmL.scopes(h:SmL l):VG l:=λs hs=>by have hm:=h.sc s hs;exact⟨hm.nm,by have:=hm.ni;omega,by have:=hm.nd;omega,by have:=hm.nr;omega⟩
theorem Hg{ε ρ:Type}{p:Nat->Option ρ}(n:Nat)(hn:n<=1000000)(e:ε){f:Int->Option (Out Int ε ρ)}
  (h1:∀i,i<n->f (i:Int)=some (match p i with|some r=> .rt r|none=> .nx (F9 .i64 (i:Int) 1))) (h2:f (n:Int)=some (.ex e)):
  U7 f 0=some (match bg n p with|some r=> .inr r|none=> .inl e):=
 BF n o5 e (λi hi=>by rw[h1 i hi,bY o5]<;>cases p i<;>rfl) h2
def Gm(l:au)(s:N8)(k:Nat):Option (Int×Int):=match s.2.2.2.2[k]? with|some r=>JD (KH s (Vl l s) k r) (300+k:Nat)|none=>none
def VS(s:N8)(d:Nat):Option (Int×Int):=l7 ((vK s d).any λx=>C9 (d:Int) x) (some (9,((200+d:Nat):Int))) none
def Aq(l:au)(i:Nat)(m:Int):Bool:=l7 (C9 m (-1)) false (l7 (H9 m 0) true (l7 (U3 (i:Int) m) true (match J9 l.2.2 m with|some q=>G5 (C9 q.2.1 (-1))|none=>true)))
def LM(l:au)(s:N8):Int×Int:=match uM l s with
 |some r=>r
 |none=>match bg s.2.2.2.2.length (Gm l s)with
  |some r=>r
  |none=>match bg s.2.2.2.1.length (VS s)with
   |some r=>r|none=>(0,0)
def yu(l:au)(i:Nat)(s:N8):Int×Int:=
 l7 (vC s.1) (l7 (ww l 3 i s.1) (7,0) (l7 (Aq l i s.2.1) (6,0) (l7 (H9 12 (o8 s.2.2.1)) (4,112) (l7 (H9 12 (o8 s.2.2.2.1)) (4,212) (LM l s))))) (2,0)
theorem RN(hL:SmL l)(hs:l.2.2[i]? =some s):wO l (i:Int)=some (yu l i s):=by
 have hi:=(aC.1 hs).1;have hS:=hL.sc s (oC hs);have hf:=hL.few;have hf1:=hf.1;have hf2:=hf.2.1;have hf3:=hf.2.2;have n1:=hS.ni;have n2:=hS.nd;have n3:=hS.nr;unfold wO yu ww;rw[J3,hs,o9,vW o5,o9,IW _ o5,o9,Nj _ o5,o9,Wl _ H7,o9];have hb:(l7 (l.1.any λx=>seq x.1 s.1) (some (s,true)) (l7 (l.2.1.any λx=>seq x.1 s.1) (some (s,true)) (some (s,(l.2.2.take i).any λx=>seq x.1 s.1))))=
   some (s,(l.1.any λx=>seq x.1 s.1) || (l.2.1.any λx=>seq x.1 s.1) || (l.2.2.take i).any λx=>seq x.1 s.1):=by
  cases l.1.any λx=>seq x.1 s.1
  .cases l.2.1.any λx=>seq x.1 s.1<;>rfl
  .rfl
 rw[hb,o9];simp only;rw[nX hS.nm,o9];cases vC s.1
 .rfl
 simp only[O7,o6,o7];cases (l.1.any λx=>seq x.1 s.1) || (l.2.1.any λx=>seq x.1 s.1) || (l.2.2.take i).any λx=>seq x.1 s.1
 case true=>rfl
 simp only[o6];have hm:(l7 (G5 (C9 s.2.1 (-1))) (l7 (H9 s.2.1 0) (some true) (l7 (U3 (i:Int) s.2.1) (some true) (l9 (J9 (l.2.2.take i) s.2.1) λ(x:N8)=>some (G5 (C9 x.2.1 (-1)))))) (some false))=some (Aq l i s.2.1):=by
  unfold Aq;cases C9 s.2.1 (-1)
  case true=>rfl
  simp only[ae,o7,o6];cases h0:H9 s.2.1 0
  case true=>rfl
  cases h1:U3 (i:Int) s.2.1
  case true=>rfl
  rw[nz]at h0;rw[IX]at h1;obtain⟨q,hq,_⟩:=uu (l:=l.2.2.take i) h0 (by simp only[o8,bu];omega);have hq2:J9 l.2.2 s.2.1=some q:=by have:=(pV hq).2.2.2;unfold J9;rw[if_pos h0];exact(Ri this).2
  rw[hq,hq2];rfl
 rw[hm,o9];cases Aq l i s.2.1
 case true=>rfl
 simp only[o6];cases H9 12 (o8 s.2.2.1)
 case true=>rfl
 cases H9 12 (o8 s.2.2.2.1)
 case true=>rfl
 simp only[o6,o9,aj];unfold LM uM;refine X8 (Hg (p:=inP l s) s.2.2.1.length o5 PUnit.unit (λk hk=>?_) ?_) ?_
 rotate_left 2
 .cases bg s.2.2.1.length (inP l s)
  case some r=>rfl
  simp only[o9,aj];refine X8 (Hg (p:=RS l s) s.2.2.2.1.length o5 PUnit.unit (λk hk=>?_) ?_) ?_
  rotate_left 2
  .cases bg s.2.2.2.1.length (RS l s)
   case some r=>rfl
   simp only[o9,aj];rw[Jp hL.scopes hs,o9];refine X8 (Hg (p:=Gm l s) s.2.2.2.2.length o5 PUnit.unit (λk hk=>?_) ?_) ?_
   rotate_left 2
   .cases bg s.2.2.2.2.length (Gm l s)
    case some r=>rfl
    simp only[o9,aj];refine X8 (Hg (p:=VS s) s.2.2.2.1.length o5 PUnit.unit (λk hk=>?_) ?_) ?_
    rotate_left 2
    .cases bg s.2.2.2.1.length (VS s)<;>rfl
    .have e:=lM hk;simp only[O0 e,o7];rw[SC hS o5 (by show(k:Int)<o8 s.2.2.2.1;simp only[o8];omega),o9,a0C _ (by
      have:=DZ hS (MN s (k:Int)).1 (λx hx=>XA hx);omega),o9,show(200:Int)=((200:Nat):Int)from rfl,Nk o5 o5]
     unfold VS;cases (vK s (k:Int)).any λx=>C9 (k:Int) x<;>rfl
    .rw[N9];rfl
   .have e:=lM hk;have hr:=(hS.ro _ (N7 hk)).1;simp only[O0 e,o7];rw[Ul _ e o5 hr,o9,show(300:Int)=((300:Nat):Int)from rfl,Nk o5 o5];simp only[Gm,e,JD];cases C9 (KH s (Vl l s) k s.2.2.2.2[k]) 0<;>rfl
   .rw[N9];rfl
  .have e:=lM hk;have hm:=hS.fo.2 _ (N7 hk);simp only[O0 e,o7,J3,e,o9];rw[vW o5,o9,Ik hm o5 H7,o9,show(200:Int)=((200:Nat):Int)from rfl,Nk o5 o5];simp only[RS,e,JD];cases C9 (Ce l.1 s.2.2.2.1[k] s.2.2.1 (s.2.2.2.1.take k)) 0<;>rfl
  .rw[N9];rfl
 .have e:=lM hk;have hm:=hS.fo.1 _ (N7 hk);simp only[O0 e,o7,J3,e,o9];rw[vW o5,o9,Ik hm H7 A8,o9,show(100:Int)=((100:Nat):Int)from rfl,Nk o5 o5];simp only[inP,e,JD];cases C9 (Ce l.1 s.2.2.1[k] (s.2.2.1.take k) []) 0<;>rfl
 .rw[N9];rfl
theorem He{c e:Int}{r:Int×Int}(h:JD c e=some r):r.1≠0:=by
 unfold JD at h;cases hc:C9 c 0<;>rw[hc]at h
 .cases h;exact wI.1 hc
 .cases h
theorem FC{r:Int×Int}(h:uM l s=some r):r.1≠0:=by
 unfold uM at h;split at h
 .rename_i q hq;cases h;obtain⟨k,_,hk⟩:=jB hq;unfold inP at hk;split at hk
  .exact He hk
  .cases hk
 .obtain⟨k,_,hk⟩:=jB h;unfold RS at hk;split at hk
  .exact He hk
  .cases hk
theorem Qw(hL:SmL l)(hs:l.2.2[i]? =some s):tZ l (i:Int)=some (l7 (C9 (yu l i s).1 0) (0,0,0,0) (Oa i (yu l i s))):=by
 have hi:=(aC.1 hs).1;have hS:=hL.sc s (oC hs);have hf:=hL.few;have hf1:=hf.1;have hf2:=hf.2.1;have hf3:=hf.2.2;have n1:=hS.ni;have n2:=hS.nd;have n3:=hS.nr;unfold tZ yu;rw[J3,hs,o9,mV hS.nm,o9];cases vC s.1
 .rfl
 simp only[O7,o6,o7];rw[a1m hf,o9];cases ww l 3 i s.1
 case true=>rfl
 simp only[o6];have hm:(l7 (G5 (C9 s.2.1 (-1))) (l7 (H9 s.2.1 0) (some (Sum.inr ((6:Int),(3:Int),(i:Int),(0:Int)))) (l7 (U3 (i:Int) s.2.1) (some (.inr (6,3,(i:Int),0))) (l9 (J9 l.2.2 s.2.1) λ(x:N8)=>l7 (G5 (C9 x.2.1 (-1))) (some (.inr (6,3,(i:Int),0))) (some (.inl (((0:Int),(0:Int),(0:Int),(0:Int)),(0:Int),(3:Int),(i:Int),(0:Int))))))) (some (.inl ((0,0,0,0),0,3,(i:Int),0))))=
   some (l7 (Aq l i s.2.1) (.inr (6,3,(i:Int),0)) (.inl ((0,0,0,0),0,3,(i:Int),0))):=by
  unfold Aq;cases C9 s.2.1 (-1)
  case true=>rfl
  simp only[ae,o7,o6];cases h0:H9 s.2.1 0
  case true=>rfl
  cases h1:U3 (i:Int) s.2.1
  case true=>rfl
  rw[nz]at h0;rw[IX]at h1;obtain⟨q,hq,_⟩:=uu (l:=l.2.2) h0 (by simp only[o8];omega);rw[hq];simp only[o6,o9];cases C9 q.2.1 (-1)<;>rfl
 rw[hm,o9];cases Aq l i s.2.1
 case true=>rfl
 simp only[o6,aj];cases H9 12 (o8 s.2.2.1)
 case true=>rfl
 cases H9 12 (o8 s.2.2.2.1)
 case true=>rfl
 simp only[o6];rw[Qv hs o5 o5 hS.fo,o9];unfold LM;cases hfs:uM l s with
 |some r=>have hc:=FC hfs;simp only[Oa];rw[U8 hc];rfl|none=>
  simp only[bH (rfl:(0:Int)=0),O7,o6];refine X8 (mM (p:=λk=>(Gm l s k).map (Oa i)) s.2.2.2.2.length o5 _ (0,0,0,0) (λk hk=>?_) ?_) ?_
  rotate_left 2
  .rw[BA];cases hfr:bg s.2.2.2.2.length (Gm l s)with
   |some r=>
    obtain⟨k,_,hk⟩:=jB hfr;have hc:r.1≠0:=by
     unfold Gm at hk;split at hk
     .exact He hk
     .cases hk
    simp only[ai,o9,lV];rw[U8 hc];rfl
   |none=>
    simp only[Option.map_none,o9,aj];refine X8 (mM (p:=λk=>(VS s k).map (Oa i)) s.2.2.2.1.length o5 _ (0,0,0,0) (λk hk=>?_) ?_) ?_
    rotate_left 2
    .rw[BA];cases hfc:bg s.2.2.2.1.length (VS s)with
     |some r=>
      obtain⟨k,_,hk⟩:=jB hfc;have hc:r.1≠0:=by
       unfold VS at hk;cases hq:(vK s (k:Int)).any λx=>C9 (k:Int) x<;>rw[hq]at hk
       .cases hk
       .cases hk;show(9:Int)≠0;decide
      simp only[ai,o9,lV];rw[U8 hc];rfl
     |none=>rfl
    .have e:=lM hk;have htl:=DZ hS (MN s (k:Int)).1 (λx hx=>XA hx);simp only[O0 e,o7];rw[Qy hS,o9,show(200:Int)=((200:Nat):Int)from rfl,Nk o5 o5];have hcy:U7 (λ(x_6:lI×Int)=>l7 (H9 x_6.2 (o8 (vK s (k:Int)))) (l9 (J9 (vK s (k:Int)) x_6.2) λ(x:Int)=>l7 (C9 x (k:Int)) (some (Out.rt ((9:Int),(3:Int),(i:Int),((200+k:Nat):Int)))) (some (.nx (x_6.1,F9 .i64 x_6.2 1)))) (some (.ex x_6.1))) (((0:Int),(0:Int),(0:Int),(0:Int)),(0:Int))=
       some (l7 ((vK s (k:Int)).any λx=>C9 (k:Int) x) (.inr (9,3,(i:Int),((200+k:Nat):Int))) (.inl (0,0,0,0))):=by
      have h1:=PZ (vK s (k:Int)) (λ(b:Int×Int×Int×Int) x=>l7 (C9 x (k:Int)) (.inr ((9:Int),(3:Int),(i:Int),((200+k:Nat):Int))) (.inl b)) (λb i=>(b,i)) (λb=>b) (λ_ _=>True) (b:=((0,0,0,0):Int×Int×Int×Int)) (f:=λ(x_6:lI×Int)=>l7 (H9 x_6.2 (o8 (vK s (k:Int)))) (l9 (J9 (vK s (k:Int)) x_6.2) λ(x:Int)=>l7 (C9 x (k:Int)) (some (Out.rt ((9:Int),(3:Int),(i:Int),((200+k:Nat):Int)))) (some (.nx (x_6.1,F9 .i64 x_6.2 1)))) (some (.ex x_6.1))) o5 trivial (λj x b hx hj _=>by refine⟨?_,λ_ _=>trivial⟩;simp only[O0 hx,o7,J3,hx,o9];rw[bY o5];cases C9 x (k:Int)<;>rfl) (λb _=>by simp only[N9];rfl)
      refine h1.1.trans ?_;have hfo:∀(l:List Int) (b:Int×Int×Int×Int),rD (λ(b:Int×Int×Int×Int) x=>l7 (C9 x (k:Int)) (.inr ((9:Int),(3:Int),(i:Int),((200+k:Nat):Int))) (.inl b)) l b=l7 (l.any λx=>C9 (k:Int) x) (.inr (9,3,(i:Int),((200+k:Nat):Int))) (.inl b):=by
       intro l;induction l with
       |nil=>intro b;rfl|cons a l ih=>
        intro b;unfold rD;rw[b7Y,show C9 (k:Int) a=C9 a (k:Int) by unfold C9;by_cases h:a=(k:Int)<;>simp[h,eq_comm]];cases C9 a (k:Int)
        .simp only[o6,nC];exact ih b
        .rfl
      rw[hfo];cases (vK s (k:Int)).any λx=>C9 (k:Int) x<;>rfl
     refine X8 hcy ?_;unfold VS;cases (vK s (k:Int)).any λx=>C9 (k:Int) x<;>rfl
    .simp only[N9];rfl
  .have e:=lM hk;have hr:=(hS.ro _ (N7 hk)).1;simp only[O0 e,o7];rw[b8n hL.scopes hs e hr,o9,show(300:Int)=((300:Nat):Int)from rfl,Nk o5 o5];simp only[Gm,e,JD];cases C9 (KH s (Vl l s) k s.2.2.2.2[k]) 0<;>rfl
  .simp only[N9];rfl
def CJ(l:au)(i:Nat):Option (Int×Int×Int×Int):=match l.2.2[i]? with|some s=>Ld 3 i (yu l i s)|none=>none
def Hu(l:au):Int×Int×Int×Int:=l7 (H9 4 (o8 l.2.2)) (4,3,4,0) (match bg l.2.2.length (CJ l)with|some r=>r|none=>(0,0,0,0))
def nP(l:au):Int×Int×Int×Int:=l7 (C9 (DT l).1 0) (l7 (C9 (yE l).1 0) (Hu l) (yE l)) (DT l)
theorem Pj(hL:SmL l):uQ l=some (Hu l):=by
 have hf:=hL.few.2.2;unfold uQ Hu;cases H9 4 (o8 l.2.2)
 case true=>rfl
 simp only[o6];refine X8 (mM (p:=CJ l) l.2.2.length o5 _ (0,0,0,0) (λi hi=>?_) ?_) ?_
 rotate_left 2
 .cases bg l.2.2.length (CJ l)<;>rfl
 .have e:=lM hi;simp only[O0 e,o7,RN hL e,o9,CJ,e,Ld];cases C9 (yu l i l.2.2[i]).1 0<;>rfl
 .rw[N9];rfl
theorem XE(hL:SmL l):wL l=some (nP l):=by
 unfold wL nP;rw[RJ hL.few hL.en,o9];cases C9 (DT l).1 0
 .rfl
 simp only[O7,o6,o7];rw[Pm hL.few hL.tb,o9];cases C9 (yE l).1 0
 .rfl
 simp only[O7,o6,o7];rw[Pj hL];rfl
theorem Le{k i:Int}{c:Int×Int}{r:Int×Int×Int×Int}(h:Ld k i c=some r):r.1≠0:=by
 unfold Ld at h;cases hc:C9 c.1 0<;>rw[hc]at h
 .cases h;exact wI.1 hc
 .cases h
theorem UM(hL:SmL l):xm l=some (nP l):=by
 have hf1:=hL.few.1;have hf2:=hL.few.2.1;have hf3:=hL.few.2.2;unfold xm nP DT;cases H9 8 (o8 l.1)
 case true=>rfl
 simp only[o6];refine X8 (mM (p:=MZ l) l.1.length o5 _ (0,0,0,0) (λi hi=>?_) ?_) ?_
 rotate_left 2
 .cases hfe:bg l.1.length (MZ l)with
  |some r=>
   obtain⟨k,_,hk⟩:=jB hfe;have hc:r.1≠0:=by
    unfold MZ at hk;split at hk
    .exact Le hk
    .cases hk
   simp only[o9,lV,U8 hc,o6]
  |none=>
   simp only[o9,aj,bH (rfl:(0:Int)=0),o7];unfold yE;cases H9 8 (o8 l.2.1)
   case true=>rfl
   simp only[o6];refine X8 (mM (p:=CO l) l.2.1.length o5 _ (0,0,0,0) (λi hi=>?_) ?_) ?_
   rotate_left 2
   .cases hft:bg l.2.1.length (CO l)with
    |some r=>
     obtain⟨k,_,hk⟩:=jB hft;have hc:r.1≠0:=by
      unfold CO at hk;split at hk
      .exact Le hk
      .cases hk
     simp only[o9,lV,U8 hc,o6]
    |none=>
     simp only[o9,aj,bH (rfl:(0:Int)=0),o7];unfold Hu;cases H9 4 (o8 l.2.2)
     case true=>rfl
     simp only[o6];refine X8 (mM (p:=CJ l) l.2.2.length o5 _ (0,0,0,0) (λi hi=>?_) ?_) ?_
     rotate_left 2
     .cases bg l.2.2.length (CJ l)<;>rfl
     .have e:=lM hi;simp only[O0 e,o7,Qw hL e,o9,CJ,e,Ld];cases hc:C9 (yu l i l.2.2[i]).1 0
      .simp only[o6,Oa,hc];rfl
      .simp only[o7,bH (rfl:(0:Int)=0)];rfl
     .simp only[N9];rfl
   .have e:=lM hi;simp only[O0 e,o7,Qx hL.few e (hL.tb _ (N7 hi)),o9,CO,e,Ld,Hz];cases hc:C9 (ML l i l.2.1[i]).1 0
    .simp only[o6,hc];rfl
    .simp only[o7,bH (rfl:(0:Int)=0)];rfl
   .simp only[N9];rfl
 .have e:=lM hi;have hm:=hL.en _ (N7 hi);simp only[O0 e,o7,Sz hL.few e hm.1 hm.2,o9,MZ,e,Ld,Hz];cases hc:C9 (PG l i l.1[i]).1 0
  .simp only[o6,hc];rfl
  .simp only[o7,bH (rfl:(0:Int)=0)];rfl
 .simp only[N9];rfl
theorem zx{ρ:Type}{n:Nat}{p:Nat->Option ρ}(h:bg n p=none):∀i,i<n->p i=none:=by unfold bg at h;intro i hi;exact List.findSome?_eq_none_iff.1 h i (dX.2 hi)
def hw(W:List Int)(d:Int):Int:=W.getD d.toNat 0
end Go.GP
namespace Gt
open Go Go.GP
def il(y:Int):Bool:=if y % 4=0 then(if y % 100≠0 then true else decide (y % 400=0))else false
def ys(y:Int):Int:=(y -1900)*365+((y -1) / 4 -(y -1) / 100+(y -1) / 400) -460
def diy(y:Int):Int:=if il y then 366 else 365
theorem HY(y:Int):ys (y+1)=ys y+diy y:=by unfold ys diy il;by_cases h4:y % 4=0<;>by_cases h100:y % 100=0<;>by_cases h400:y % 400=0<;>simp[h4,h100,h400]<;>omega
theorem a5k(a b:Int):a<b\/b<=a:=o5
theorem Py(y:Int):365<=diy y/\diy y<=366:=by unfold diy;split<;>omega
theorem zJ{y y' :Int}(h:y<=y'):ys y<=ys y' :=by
 obtain⟨n,rfl⟩:∃n:Nat,y' =y+n:=⟨(y' -y).toNat,o5⟩;clear h;induction n with
 |zero=>simp|succ n ih=>have:=HY (y+n);have:=Py (y+n);have e:y+((n+1:Nat):Int)=y+n+1:=o5;rw[e];omega
variable {y:Int}
theorem MS(h:1900<=y):0<=ys y:=by
 have:=zJ h;have e:ys 1900=0:=by decide+kernel
 omega
theorem a1t{y y' d:Int}(h1:ys y<=d)(h2:d<ys (y+1))(h3:ys y' <=d)(h4:d<ys (y' +1)):y=y' :=by
 rcases Int.lt_trichotomy y y' with h|h|h
 .have:=zJ (y:=y+1) (y' :=y') o5;omega
 .exact h
 .have:=zJ (y:=y' +1) (y' :=y) o5;omega
def dim(y m:Int):Int:=
 if m=2 then(if il y then 29 else 28)else if m=4\/m=6\/m=9\/m=11 then 30 else 31
theorem Un(y m:Int):28<=dim y m/\dim y m<=31:=by
 unfold dim;repeat' split
 all_goals omega
theorem Fq(h:0<=y):Bi y=some (il y):=by
 unfold Bi il;simp only[FI h];by_cases h4:y % 4=0
 .rw[kN (bH h4),if_pos h4];by_cases h100:y % 100=0
  .simp[C9,h100]
  .simp[C9,h100]
 .rw[lq (U8 h4),if_neg h4]
theorem ER(h:0<=y):zC y=some (il y):=Fq h
theorem Ic(h:0<=y):kJ y=some (diy y):=by unfold kJ diy;rw[ER h,o9];cases il y<;>rfl
variable {m:Int}
theorem m12(h:1<=m/\m<=12):m=1\/m=2\/m=3\/m=4\/m=5\/m=6\/m=7\/m=8\/m=9\/m=10\/m=11\/m=12:=o5
theorem Ia(h:0<=y)(hm:1<=m/\m<=12):kz y m=some (dim y m):=by
 unfold kz;rcases m12 hm with rfl|rfl|rfl|rfl|rfl|rfl|rfl|rfl|rfl|rfl|rfl|rfl
 all_goals first|rfl|(rw[Fq h];unfold dim;cases il y<;>rfl)
theorem FY(h:0<=y)(hm:1<=m/\m<=12):jL y m=some (dim y m):=by
 unfold jL;rcases m12 hm with rfl|rfl|rfl|rfl|rfl|rfl|rfl|rfl|rfl|rfl|rfl|rfl
 all_goals first|rfl|(rw[ER h];unfold dim;cases il y<;>rfl)
theorem Bl(h:0<=y)(h2:y<=1000000):rW y=some (y / 4 -y / 100+y / 400):=by unfold rW;simp only[jb,oL h];rw[AZ jP,AZ jP,AZ jP,jY jP,kV jP]
theorem Bo(h:1<=y)(h2:y<=1000000):ng y=some (ys y):=by unfold ng;have e1:O5 .i64 y 1900=y -1900:=jY jP;have e2:RZ .i64 (y -1900) 365=(y -1900)*365:=a2c jP;rw[jY (a:=y) (b:=1) jP,Bl o5 o5,o9,Bl o5 o5,o9,e1,e2,kV jP,jY jP];unfold ys;congr 1
def mo(y:Int):Nat->Int->Int×Int
 |0,d=>(d,13)|n+1,d=>if d<dim y (12 -n)then(d,12 -n)else mo y n (d -dim y (12 -n))
theorem C_(y:Int)(n:Nat)(d:Int):mo y (n+1) d=if d<dim y (12 -(n:Int))then(d,12 -(n:Int))else mo y n (d -dim y (12 -(n:Int))):=rfl
def rem(y:Int):Nat->Int
 |0=>0|n+1=>dim y (12 -n)+rem y n
theorem a3l(y:Int):rem y 12=diy y:=by unfold diy;cases h:il y<;>simp[rem,dim,h]
theorem a2n(y:Int):∀(n:Nat) (d:Int),n<=12->0<=d->d<rem y n->1<=(mo y n d).2/\(mo y n d).2<=12/\0<=(mo y n d).1/\(mo y n d).1<dim y (mo y n d).2
 |0,d,_,h0,h=>by simp[rem]at h;omega|n+1,d,hn,h0,h=>by
  unfold mo;by_cases hd:d<dim y (12 -n)
  .rw[if_pos hd];refine⟨?_,?_,h0,hd⟩<;>simp<;>omega
  .rw[if_neg hd];refine a2n y n _ o5 o5 ?_;simp only[rem]at h;omega
def yOf(d:Int):Int:=((((List.range 300).find? (λ(k:Nat)=>decide (d<ys (1900+(k:Int)+1)))).getD 0:Nat):Int)+1900
variable {d:Int}
theorem RD(h0:0<=d)(h:d<=109572):1900<=yOf d/\yOf d<=2199/\ys (yOf d)<=d/\d<ys (yOf d+1):=by
 unfold yOf;cases hf:(List.range 300).find? (λ(k:Nat)=>decide (d<ys (1900+(k:Int)+1)))with
 |none=>
  have:=List.find?_eq_none.1 hf 299 A8;simp only[decide_eq_true_eq]at this;have e:ys (1900+(299:Nat)+1)=109573:=by decide+kernel
  omega
 |some k=>
  have h1:=List.find?_some hf;simp only[decide_eq_true_eq]at h1;have h2:=List.mem_of_find?_eq_some hf;simp only[dX]at h2;simp only[aK];refine⟨o5,o5,?_,?_⟩
  .cases k with
   |zero=>
    have e:ys 1900=0:=by decide+kernel
    simp[e,h0]
   |succ j=>have h3:=List.find?_range_eq_some.1 hf;have h4:=h3.2.2 j o5;simp only[aU,decide_eq_false_iff_not,qP]at h4;have e:(((j+1:Nat):Int)+1900)=1900+(j:Int)+1:=o5;rw[e];exact h4
  .have e:(k:Int)+1900+1=1900+k+1:=o5;rw[e];exact h1
def ymd(d:Int):Int×Int×Int:=let y:=yOf d;let r:=mo y 12 (d -ys y);(y,r.2,r.1+1)
theorem RQ(h0:0<=d)(h:d<=109572):DK d=some (ymd d):=by
 obtain⟨y1,y2,y3,y4⟩:=RD h0 h;have y0:=MS y1;unfold DK Af;rw[kN (bT h0),o9,bT h,O7,o6];have e0:F9 .i64 1900 (jb .i64 d 366)=1900+d / 366:=by
  have e:jb .i64 d 366=d / 366:=by rw[JG (by rw[oL h0];unfold b7W;omega),oL h0]
  rw[e,kV jP]
 rw[e0];obtain⟨y,hy,hq⟩:=oP (f:=λ(x:Int)=>l9 (ng (F9 IntKind.i64 x 1)) λ(x_1:Int)=>l7 (U3 x_1 d) (some (Sum.inl (F9 IntKind.i64 x 1))) (some (Sum.inr x))) (s:=1900+d / 366)
  (λy=>1900<=y/\y<=yOf d) (λy=>y=yOf d) (λy=>(2200 -y).toNat) (by
   refine⟨o5,?_⟩;have e:∀n:Nat,ys (1900+n)<=366*n:=by
    intro n;induction n with
    |zero=>decide+kernel|succ n ih=>have:=HY (1900+n);have:=Py (1900+n);have e:(1900:Int)+((n+1:Nat):Int)=1900+n+1:=o5;rw[e];omega
   have e1:=e (d / 366).toNat
   have e2:((d / 366).toNat:Int)=d / 366:=o5;rw[e2]at e1;rcases a5k (yOf d) (1900+d / 366)with hlt|hge
   .have:=zJ (y:=yOf d+1) (y' :=1900+d / 366) o5;omega
   .exact hge) o5 (by
   intro y ⟨hy1,hy2⟩
   try simp only
   rw[kV jP,Bo o5 o5,o9];by_cases hle:ys (y+1)<=d
   .refine .inl ⟨y+1,by rw[kN (bT hle)],⟨o5,?_⟩,o5⟩;rcases a5k (yOf d) (y+1)with hlt|hge
    .have:=zJ (y:=yOf d+1) (y' :=y+1) o5;omega
    .exact hge
   .refine .inr ⟨y,by rw[lq (eQ o5)],?_⟩;rcases a5k y (yOf d)with hlt|hge
    .have:=zJ (y:=y+1) (y' :=yOf d) o5;omega
    .omega)
 rw[hy,o9,hq,Bo o5 o5,o9,jY jP];have hs:=HY (yOf d);have hr:=a3l (yOf d);rcases xW (f:=λ(x:Int×Int)=>l7 (H9 x.2 12) (l9 (kz (yOf d) (F9 IntKind.i64 x.2 1)) λ(x_1:Int)=>l7 (H9 x.1 x_1) (some (Out.rt (yOf d,F9 IntKind.i64 x.2 1,F9 IntKind.i64 x.1 1))) (some (Out.nx (O5 IntKind.i64 x.1 x_1,F9 IntKind.i64 x.2 1)))) (some (Out.ex PUnit.unit))) (s:=(d -ys (yOf d),0))
  (λs=>∃n:Nat,n<=12/\s.2=12 -n/\mo (yOf d) n s.1=mo (yOf d) 12 (d -ys (yOf d))/\0<=s.1/\s.1<rem (yOf d) n/\s.1<=400) (λ_=>False) (λr=>r=ymd d) (λs=>(12 -s.2).toNat)
  ⟨12,o5,A8,rfl,o5,by rw[hr];show d -ys (yOf d)<_;omega,by have:=Py (yOf d);show d -ys (yOf d)<=400;omega⟩ A8 (by
   rintro⟨r,i⟩ ⟨n,hn,hi,hm,hr0,hrn,hr4⟩;simp only at hi hm hr0 hrn hr4 ⊢;cases n with
   |zero=>simp[rem]at hrn;omega|succ n=>
    have ei:i+1=12 -n:=o5;rw[kN (fJ o5),kV jP,ei,Ia o5 o5,o9];have hb:=Un (yOf d) (12 -n);rw[C_ (yOf d) n r]at hm;by_cases hlt:r<dim (yOf d) (12 -n)
    .rw[if_pos hlt]at hm;refine .inr (.inr ⟨_,by rw[kN (fJ hlt)],?_⟩);rw[kV jP];unfold ymd
     try simp only
     rw[←hm]
    .rw[if_neg hlt]at hm;refine .inl ⟨_,by rw[lq (dV o5),jY jP],⟨n,o5,A8,hm,?_,?_,?_⟩,?_⟩
     .simp;omega
     .simp only[rem]at hrn ⊢;omega
     .simp;omega
     .simp;omega)with⟨_,_,hf⟩|⟨r,he,hr⟩
 .exact hf.elim
 .rw[he,o9,lV,hr]
theorem QC(h0:0<=d)(h:d<=109572):BH d=some (ymd d):=by
 obtain⟨y1,y2,y3,y4⟩:=RD h0 h;have y0:=MS y1;unfold BH yL;rw[kN (bT h0),o9,bT h,O7,o6];obtain⟨⟨r,y⟩,hy,hq⟩:=oP (f:=λ(x:Int×Int)=>l9 (kJ x.2) λ(x_1:Int)=>l7 (U3 x_1 x.1) (l9 (kJ x.2) λ(x_2:Int)=>some (Sum.inl (O5 IntKind.i64 x.1 x_2,F9 IntKind.i64 x.2 1))) (some (Sum.inr x))) (s:=(d,1900))
  (λs=>1900<=s.2/\s.2<=yOf d/\s.1=d -ys s.2) (λs=>s=(d -ys (yOf d),yOf d)) (λs=>(2200 -s.2).toNat)
  ⟨A8,by simpa using y1,by(have e:ys 1900=0:=by decide+kernel);simp[e]⟩ A8 (by
   rintro⟨r,y⟩ ⟨h1,h2,h3⟩;simp only at h1 h2 h3 ⊢;have hb:=Py y;have hs:=HY y;have hm:=zJ h2;have hpos:0<=ys y:=by
     have:=zJ (y:=1900) (y' :=y) h1;have e:ys 1900=0:=by decide+kernel
     omega
   rw[Ic o5,o9];by_cases hle:diy y<=r
   .refine .inl ⟨(r -diy y,y+1),?_,⟨by simp;omega,?_,?_⟩,?_⟩
    .rw[kN (bT hle),o9,jY jP,kV jP]
    .simp only;rcases a5k (yOf d) (y+1)with hlt|hge
     .have:=zJ (y:=yOf d+1) (y' :=y+1) o5;omega
     .exact hge
    .simp only;omega
    .simp;omega
   .refine .inr ⟨_,by rw[lq (eQ o5)],?_⟩;have e:y=yOf d:=a1t (d:=d) o5 o5 y3 y4;subst e;rw[h3])
 rw[hy,o9,hq]
 try simp only
 have hs:=HY (yOf d);have hr:=a3l (yOf d);obtain⟨⟨r,m⟩,he,hq2⟩:=oP (f:=λ(x:Int×Int)=>l9 (jL (yOf d) x.2) λ(x_1:Int)=>l7 (U3 x_1 x.1) (l9 (jL (yOf d) x.2) λ(x_2:Int)=>some (Sum.inl (O5 IntKind.i64 x.1 x_2,F9 IntKind.i64 x.2 1))) (some (Sum.inr x))) (s:=(d -ys (yOf d),1))
  (λs=>∃n:Nat,n<=12/\s.2=13 -n/\mo (yOf d) n s.1=mo (yOf d) 12 (d -ys (yOf d))/\0<=s.1/\s.1<rem (yOf d) n/\s.1<=400) (λs=>s=mo (yOf d) 12 (d -ys (yOf d))) (λs=>(13 -s.2).toNat)
  ⟨12,o5,A8,rfl,o5,by rw[hr];show d -ys (yOf d)<_;omega,by have:=Py (yOf d);show d -ys (yOf d)<=400;omega⟩ A8 (by
   rintro⟨r,i⟩ ⟨n,hn,hi,hm,hr0,hrn,hr4⟩;simp only at hi hm hr0 hrn hr4 ⊢;cases n with
   |zero=>simp[rem]at hrn;omega|succ n=>
    have ei:i=12 -n:=o5;subst ei;rw[FY o5 o5,o9];have hb:=Un (yOf d) (12 -n);rw[C_ (yOf d) n r]at hm;by_cases hlt:r<dim (yOf d) (12 -n)
    .rw[if_pos hlt]at hm;exact .inr ⟨_,by rw[lq (eQ o5)],hm⟩
    .rw[if_neg hlt]at hm;refine .inl ⟨(r -dim (yOf d) (12 -n),12 -n+1),by rw[kN (bT o5),o9,jY jP,kV jP],⟨n,o5,by simp;omega,hm,?_,?_,?_⟩,?_⟩
     .simp;omega
     .simp only[rem]at hrn ⊢;omega
     .simp;omega
     .simp;omega)
 rw[he,o9,hq2];have hb:=a2n (yOf d) 12 (d -ys (yOf d)) o5 o5 (by rw[hr];omega);have hb2:=Un (yOf d) (mo (yOf d) 12 (d -ys (yOf d))).2;rw[kV jP];rfl
theorem ZL(h0:0<=d)(h:d<=109572):1900<=(ymd d).1/\(ymd d).1<=2199/\1<=(ymd d).2.1/\(ymd d).2.1<=12/\1<=(ymd d).2.2/\(ymd d).2.2<=31:=by
 obtain⟨y1,y2,y3,y4⟩:=RD h0 h;have y0:=MS y1;have hs:=HY (yOf d);have hb:=a2n (yOf d) 12 (d -ys (yOf d)) o5 o5 (by rw[a3l];omega);have hb2:=Un (yOf d) (mo (yOf d) 12 (d -ys (yOf d))).2;unfold ymd
 try simp only
 omega
end Gt
namespace Go.GP
open Gt
set_option maxRecDepth 100000
def q1(q:Int)(u:Bool):Int:=l7 u (q+1) q
def sg(q:Int)(neg:Bool):Int:=l7 neg (-q) q
def a1z(r:uz):Prop:=b7W r.2.1/\b7W r.2.2.1/\b7W r.2.2.2
def a7i(t:bP):Prop:=t.2.2.2.length<=200/\∀r∈t.2.2.2,a1z r
abbrev V3:Type:=Int×Int×Int
theorem Lm{α β ρ:Type}(G:β->α->β⊕ρ)(P:ρ->Prop)(hG:∀b a r,G b a= .inr r->P r):∀(l:List α) (b:β) (r:ρ),rD G l b= .inr r->P r
 |[],b,r,h=>by cases h|a::l,b,r,h=>by
  unfold rD at h;cases hg:G b a with
  |inr r' =>rw[hg]at h;simp only at h;cases h;exact hG _ _ _ hg|inl b' =>rw[hg]at h;exact Lm G P hG l b' r h
theorem a7k:∀i:Fin 40,(arF ((i.1:Nat):Int)=0->i.1∈[1,2,3,4,5,6,7,8,9,35,36,37,38,39])/\(arF ((i.1:Nat):Int)=1->i.1∈[10,25,31,32,33,34])/\(arF ((i.1:Nat):Int)=2->i.1∈[11,12,13,14,15,16,17,18,19,20,21,22,23,24,27,28,29,30])/\(arF ((i.1:Nat):Int)=3->i.1=26):=by decide+kernel
variable {k:Int}
theorem b0I(h:k<1\/39<k):arF k=-1:=by
 unfold arF gQ;rw[U8 (show k≠10 by omega),U8 (show k≠25 by omega),U8 (show k≠31 by omega),U8 (show k≠32 by omega),U8 (show k≠33 by omega),U8 (show k≠34 by omega),U8 (show k≠26 by omega)];rcases h with h|h
 .rw[eQ (show k<1 by omega),eQ (show k<35 by omega),eQ (show k<11 by omega)];rfl
 .rw[bT (show 1<=k by omega),eQ (show 9<k by omega),bT (show 35<=k by omega),eQ (show 39<k by omega),bT (show 11<=k by omega),eQ (show 30<k by omega)];rfl
theorem b7o(h:arF k≠-1):∃i:Fin 40,k=((i.1:Nat):Int):=by
 by_cases g:1<=k/\k<=39
 .exact⟨⟨k.toNat,o5⟩,by simp;omega⟩
 .exact absurd (b0I o5) h
def XT.node:XT->Int×Int
 | .l0 n=>n| .l1 n _=>n| .l2 n _ _=>n| .l3 n _ _ _=>n
def rtI(t:XT)(o:Nat):Nat:=o+t.size -1
def At(e:List (Int×Int))(S:List Int)(t:XT)(o:Nat):Prop:=∃pre suf S1 S2,e=pre++t.post++suf/\S=S1++t.sts o++S2/\pre.length=o/\S1.length=o
variable {e:List (Int×Int)}{o:Nat}{S:List Int}{a:XT}
theorem b8w{n:Int×Int}(h:At e S (.l1 n a) o):At e S a o:=by obtain⟨p,s,S1,S2,h1,h2,h3,h4⟩:=h;exact⟨p,[n]++s,S1,[(o:Int)]++S2,by rw[h1];simp[XT.post],by rw[h2];simp[XT.sts],h3,h4⟩
theorem b8p{n:Int×Int}{a b:XT}(h:At e S (.l2 n a b) o):At e S a o/\At e S b (o+a.size):=by
 obtain⟨p,s,S1,S2,h1,h2,h3,h4⟩:=h;exact⟨⟨p,b.post++[n]++s,S1,b.sts (o+a.size)++[(o:Int)]++S2,by rw[h1];simp[XT.post],by rw[h2];simp[XT.sts],h3,h4⟩,
  ⟨p++a.post,[n]++s,S1++a.sts o,[(o:Int)]++S2,by rw[h1];simp[XT.post],by rw[h2];simp[XT.sts],by simp[XT.post_len,h3],by simp[XT.sts_len,h4]⟩⟩
theorem b8h{n:Int×Int}{a b c:XT}(h:At e S (.l3 n a b c) o):At e S a o/\At e S b (o+a.size)/\At e S c (o+a.size+b.size):=by
 obtain⟨p,s,S1,S2,h1,h2,h3,h4⟩:=h;exact⟨⟨p,b.post++c.post++[n]++s,S1,b.sts (o+a.size)++c.sts (o+a.size+b.size)++[(o:Int)]++S2,by rw[h1];simp[XT.post],by rw[h2];simp[XT.sts],h3,h4⟩,
  ⟨p++a.post,c.post++[n]++s,S1++a.sts o,c.sts (o+a.size+b.size)++[(o:Int)]++S2,by rw[h1];simp[XT.post],by rw[h2];simp[XT.sts],by simp[XT.post_len,h3],by simp[XT.sts_len,h4]⟩,
  ⟨p++a.post++b.post,[n]++s,S1++a.sts o++b.sts (o+a.size),[(o:Int)]++S2,by rw[h1];simp[XT.post],by rw[h2];simp[XT.sts],by simp[XT.post_len,h3];try omega,by simp[XT.sts_len,h4];try omega⟩⟩
theorem b8D(t:XT):∃p,t.post=p++[t.node]/\p.length+1=t.size:=by
 have hl:=t.post_len;cases t with
 |l0 n=>exact⟨[],rfl,rfl⟩|l1 n a=>refine⟨a.post,rfl,?_⟩;simp only[XT.post,D9,b7V]at hl;exact hl|l2 n a b=>refine⟨a.post++b.post,rfl,?_⟩;simp only[XT.post,D9,b7V]at hl ⊢;exact hl|l3 n a b c=>refine⟨a.post++b.post++c.post,rfl,?_⟩;simp only[XT.post,D9,b7V]at hl ⊢;exact hl
theorem b8K(t:XT)(o:Nat):∃p,t.sts o=p++[(o:Int)]/\p.length+1=t.size:=by
 have hl:=t.sts_len o;cases t with
 |l0 n=>exact⟨[],rfl,rfl⟩|l1 n a=>refine⟨a.sts o,rfl,?_⟩;simp only[XT.sts,D9,b7V]at hl;exact hl|l2 n a b=>refine⟨a.sts o++b.sts (o+a.size),rfl,?_⟩;simp only[XT.sts,D9,b7V]at hl ⊢;exact hl|l3 n a b c=>refine⟨a.sts o++b.sts (o+a.size)++c.sts (o+a.size+b.size),rfl,?_⟩;simp only[XT.sts,D9,b7V]at hl ⊢;exact hl
variable {t:XT}
theorem b8a(h:At e S t o):e[rtI t o]? =some t.node/\S[rtI t o]? =some (o:Int)/\rtI t o<e.length:=by
 obtain⟨p,s,S1,S2,h1,h2,h3,h4⟩:=h;obtain⟨q,e1,e2⟩:=b8D t;obtain⟨q',e1',e2'⟩:=b8K t o;have hp:=t.size_pos;have a1:e[rtI t o]? =some t.node:=by rw[h1,e1,F6,F6,←F6 p,I4 (by simp[rtI];omega)];rw[show rtI t o -(p++q).length=0 by simp[rtI];omega];rfl
 refine⟨a1,?_,(aC.1 a1).1⟩;rw[h2,e1',F6,F6,←F6 S1,I4 (by simp[rtI];omega)];rw[show rtI t o -(S1++q').length=0 by simp[rtI];omega];rfl
def b8C:XT->Nat->List Int
 | .l0 _,_=>[]| .l1 _ a,o=>[(rtI a o:Int)]| .l2 _ a b,o=>[(rtI a o:Int),(rtI b (o+a.size):Int)]| .l3 _ a b c,o=>[(rtI a o:Int),(rtI b (o+a.size):Int),(rtI c (o+a.size+b.size):Int)]
structure OStep (S:List Int) (f:List Int×Int×Int->Option ((List Int×Int×Int)⊕List Int)):Prop where
 step:∀(l:List Int) (c:Nat) (j:Nat) (x:Nat),j<l.length->l.length<=3->S[c]? =some ((x:Nat):Int)->x<=100->f (l,(c:Int),(j:Int))=some (.inl (l.set j (c:Int),(x:Int) -1,(j:Int) -1))
 stop:∀(l:List Int) (c:Int),f (l,c,-1)=some (.inr l)
variable {n:Nat}
theorem b8d{σ ε:Type}{f:σ->Option (σ⊕ε)}{s s' :σ}(h:f s=some (.inl s')):Eh f (n+1) s=Eh f n s' :=by rw[Eh,h]
theorem b8f{σ ε:Type}{f:σ->Option (σ⊕ε)}{s:σ}{e:ε}(h:f s=some (.inr e)):Eh f (n+1) s=some e:=by rw[Eh,h]
theorem b8F{f:List Int×Int×Int->Option ((List Int×Int×Int)⊕List Int)}(hs:OStep S f)(h:At e S t o)(he:e.length<=48)(hw:t.wf):
  aS f (List.replicate (arF t.node.1).toNat 0,(rtI t o:Int) -1,arF t.node.1 -1)=some (b8C t o):=by
 obtain⟨k,hk⟩:∃k,jq=k+1+1+1+1:=⟨jq -4,by unfold jq;omega⟩;unfold aS;rw[hk];have hr:=b8a h;cases t with
 |l0 n=>rw[show arF (XT.l0 n).node.1=0 from hw];exact b8f (hs.stop _ _)|l1 n a=>rw[show arF (XT.l1 n a).node.1=1 from hw.1];have ha:=b8a (b8w h);have p1:=a.size_pos;rw[show((rtI (.l1 n a) o:Nat):Int) -1=((rtI a o:Nat):Int) by simp only[rtI,XT.size];omega];rw[show((1:Int) -1)=((0:Nat):Int)from rfl,b8d (hs.step _ _ 0 o A8 A8 ha.2.1 (by unfold rtI at hr;omega))];rw[show(((0:Nat):Int) -1)=-1 from rfl,b8f (hs.stop _ _)];rfl|l2 n a b=>rw[show arF (XT.l2 n a b).node.1=2 from hw.1];have ha:=b8a (b8p h).1;have hb:=b8a (b8p h).2;have p1:=a.size_pos;have p2:=b.size_pos;rw[show((rtI (.l2 n a b) o:Nat):Int) -1=((rtI b (o+a.size):Nat):Int) by simp only[rtI,XT.size];omega];rw[show((2:Int) -1)=((1:Nat):Int)from rfl,b8d (hs.step _ _ 1 (o+a.size) A8 A8 hb.2.1 (by unfold rtI at hb;omega))];rw[show((o+a.size:Nat):Int) -1=((rtI a o:Nat):Int) by unfold rtI;omega,show(((1:Nat):Int) -1)=((0:Nat):Int)from rfl];rw[b8d (hs.step _ _ 0 o A8 A8 ha.2.1 (by unfold rtI at hr;omega))];rw[show(((0:Nat):Int) -1)=-1 from rfl,b8f (hs.stop _ _)];rfl|l3 n a b c=>rw[show arF (XT.l3 n a b c).node.1=3 from hw.1];have ha:=b8a (b8h h).1;have hb:=b8a (b8h h).2.1;have hc:=b8a (b8h h).2.2;have p1:=a.size_pos;have p2:=b.size_pos;have p3:=c.size_pos;rw[show((rtI (.l3 n a b c) o:Nat):Int) -1=((rtI c (o+a.size+b.size):Nat):Int) by simp only[rtI,XT.size];omega];rw[show((3:Int) -1)=((2:Nat):Int)from rfl,b8d (hs.step _ _ 2 (o+a.size+b.size) A8 A8 hc.2.1 (by unfold rtI at hc;omega))];rw[show((o+a.size+b.size:Nat):Int) -1=((rtI b (o+a.size):Nat):Int) by unfold rtI;omega,show(((2:Nat):Int) -1)=((1:Nat):Int)from rfl];rw[b8d (hs.step _ _ 1 (o+a.size) A8 A8 hb.2.1 (by unfold rtI at hb;omega))];rw[show((o+a.size:Nat):Int) -1=((rtI a o:Nat):Int) by unfold rtI;omega,show(((1:Nat):Int) -1)=((0:Nat):Int)from rfl];rw[b8d (hs.step _ _ 0 o A8 A8 ha.2.1 (by unfold rtI at hr;omega))];rw[show(((0:Nat):Int) -1)=-1 from rfl,b8f (hs.stop _ _)];rfl
theorem b8W(h:t.wf):0<=arF t.node.1/\arF t.node.1<=3:=by
 cases t with
 |l0 n=>rw[show arF (XT.l0 n).node.1=0 from h];decide|l1 n a=>rw[show arF (XT.l1 n a).node.1=1 from h.1];decide|l2 n a b=>rw[show arF (XT.l2 n a b).node.1=2 from h.1];decide|l3 n a b c=>rw[show arF (XT.l3 n a b c).node.1=3 from h.1];decide
variable {α:Type}
theorem b8B(h:0<=k)(h2:k<=1000000)(x:α):Ib k x=some (List.replicate k.toNat x):=if_pos ⟨h,o5⟩
theorem b8c{T t:XT}(hT:lG e= .inr T)(h:At e (T.sts 0) t o)(hw:t.wf):Gf e (rtI t o:Int)=some (b8C t o):=by
 obtain⟨hp,he⟩:=yQ hT;have hr:=b8a h;have ha:=b8W hw;unfold Gf;rw[SA,o9];unfold uj;rw[hT];simp only[J3,hr.1,o9,a7C,bH (rfl:(0:Int)=0),O7,o6];rw[dV (show(0:Int)<=((rtI t o:Nat):Int) by omega),eQ (show((rtI t o:Nat):Int)<o8 e by unfold o8;omega)];simp only[o6,o9,aj];rw[b8B ha.1 o5,o9,wY];rw[show O5 .i64 ((rtI t o:Nat):Int) 1=(rtI t o:Int) -1 from jY jP];rw[show O5 .i64 (arF t.node.1) 1=arF t.node.1 -1 from jY jP];refine b8F ⟨λl c j x hj hl hx hx2=>?_,λl c=>?_⟩ h he hw
 .have hjl:l[j]? =some l[j]:=lM hj;simp only[bT (show(0:Int)<=(j:Int) by omega),o7,J3,hjl,o9,hx,dM,aV,ax,qR];rw[jY jP,jY jP]
 .rfl
abbrev VSt:Type:=V3×List V3×Int
structure VStep (ops:List Int) (ev:Int->Option (V3×Int)) (pad:List V3->List V3) (f:VSt->Option (Out VSt (V3×List V3) (V3×Int))):Prop where
 step:∀(l:List V3) (c:Int) (r:V3×Int),ops[l.length]? =some c->ev c=some r->f ((0,0,0),pad l,(l.length:Int))=some (l7 (C9 r.2 0) (.nx ((0,0,0),pad (l++[r.1]),((l.length+1:Nat):Int))) (.rt ((0,0,0),r.2)))
 stop:∀(l:List V3),l.length=ops.length->f ((0,0,0),pad l,(l.length:Int))=some (.ex ((0,0,0),l))
section
variable {ev:Int->Option (V3×Int)} {pad:List V3->List V3} {f:VSt->Option (Out VSt (V3×List V3) (V3×Int))}
theorem v0(h:VStep [] ev pad f):U7 f ((0,0,0),pad [],0)=some (.inl ((0,0,0),[])):=by obtain⟨k,hk⟩:∃k,jq=k+1:=⟨jq -1,by unfold jq;omega⟩;unfold U7;rw[hk,jG,show f ((0,0,0),pad [],0)=some (.ex ((0,0,0),[]))from h.stop [] rfl]
theorem v1{c:Int}{r:V3×Int}(h:VStep [c] ev pad f)(h1:ev c=some r):U7 f ((0,0,0),pad [],0)=some (l7 (C9 r.2 0) (.inl ((0,0,0),[r.1])) (.inr ((0,0,0),r.2))):=by
 obtain⟨k,hk⟩:∃k,jq=k+1+1:=⟨jq -2,by unfold jq;omega⟩;unfold U7;rw[hk,jG,show f ((0,0,0),pad [],0)=_ from h.step [] c r rfl h1];cases C9 r.2 0
 .rfl
 .simp only[o7];rw[jG,show f ((0,0,0),pad ([]++[r.1]),(([].length+1:Nat):Int))=_ from h.stop [r.1] rfl]
theorem v2{c d:Int}{r q:V3×Int}(h:VStep [c,d] ev pad f)(h1:ev c=some r)(h2:ev d=some q):U7 f ((0,0,0),pad [],0)=some (l7 (C9 r.2 0) (l7 (C9 q.2 0) (.inl ((0,0,0),[r.1,q.1])) (.inr ((0,0,0),q.2))) (.inr ((0,0,0),r.2))):=by
 obtain⟨k,hk⟩:∃k,jq=k+1+1+1:=⟨jq -3,by unfold jq;omega⟩;unfold U7;rw[hk,jG,show f ((0,0,0),pad [],0)=_ from h.step [] c r rfl h1];cases C9 r.2 0
 .rfl
 .simp only[o7];rw[jG,show f ((0,0,0),pad ([]++[r.1]),(([].length+1:Nat):Int))=_ from h.step [r.1] d q rfl h2];cases C9 q.2 0
  .rfl
  .simp only[o7];rw[jG,show f ((0,0,0),pad ([r.1]++[q.1]),(([r.1].length+1:Nat):Int))=_ from h.stop [r.1,q.1] rfl]
end
theorem a7l(h:arF k=3):k=26:=by obtain⟨i,rfl⟩:=b7o (by rw[h];decide);rw[(a7k i).2.2.2 h];rfl
theorem VM(h:lG e= .inr t):At e (t.sts 0) t 0/\e.length<=48/\e.length=t.size/\O5 .i64 (o8 e) 1=(rtI t 0:Int):=by
 obtain⟨hp,h48⟩:=yQ h;have hsz:e.length=t.size:=by rw[hp,XT.post_len]
 have hpos:=t.size_pos;refine⟨⟨[],[],[],[],by simp[←hp],A8,rfl,rfl⟩,h48,hsz,?_⟩;rw[jY (by unfold b7W o8;omega)];unfold o8 rtI;omega
variable {l:au}{s:N8}{i:Nat}
theorem XD(h:(nP l).1=0)(hs:l.2.2[i]? =some s):(yu l i s).1=0:=by
 unfold nP at h;cases h1:C9 (DT l).1 0<;>rw[h1]at h
 .simp only[o6]at h;rw[bH h]at h1;cases h1
 cases h2:C9 (yE l).1 0<;>rw[h2]at h
 .simp only[o7,o6]at h;rw[bH h]at h2;cases h2
 simp only[o7]at h;unfold Hu at h;cases h3:H9 4 (o8 l.2.2)<;>rw[h3]at h
 case true=>exact absurd (show(4:Int)=0 from h) I5
 simp only[o6]at h;have hi:=(aC.1 hs).1;cases hf:bg l.2.2.length (CJ l)with
 |some r=>
  rw[hf]at h;simp only at h;obtain⟨j,hj,hp⟩:=jB hf;unfold CJ at hp;cases hq:l.2.2[j]? with
  |none=>rw[hq]at hp;cases hp|some q=>
   rw[hq]at hp;simp only at hp;unfold Ld at hp;exact absurd h (by cases he:C9 (yu l j q).1 0<;>rw[he]at hp<;>cases hp;simp only;intro h4;rw[bH h4]at he;cases he)
 |none=>
  have hn:=zx hf i hi;unfold CJ at hn;rw[hs]at hn;simp only at hn;unfold Ld at hn;cases he:C9 (yu l i s).1 0<;>rw[he]at hn
  .cases hn
  exact jC.1 he
theorem a1q(h:(nP l).1=0)(hs:l.2.2[i]? =some s):Aq l i s.2.1=false/\(LM l s).1=0:=by
 have he:=XD h hs;unfold yu at he;cases g1:vC s.1<;>rw[g1]at he
 .exact absurd (show(2:Int)=0 from he) I5
 cases g2:ww l 3 i s.1<;>rw[g2]at he
 case true=>exact absurd (show(7:Int)=0 from he) I5
 cases g3:Aq l i s.2.1<;>rw[g3]at he
 case true=>exact absurd (show(6:Int)=0 from he) I5
 cases g4:H9 12 (o8 s.2.2.1)<;>rw[g4]at he
 case true=>exact absurd (show(4:Int)=0 from he) I5
 cases g5:H9 12 (o8 s.2.2.2.1)<;>rw[g5]at he
 case true=>exact absurd (show(4:Int)=0 from he) I5
 exact⟨rfl,he⟩
theorem dP{l:List α}(h:H9 (n:Int) (o8 l)=false):l.length<=n:=by rw[nz]at h;unfold o8 at h;omega
def Iu(r:bM):Bool:=l7 (H9 80 (o8 r.1)) true (l7 (H9 80 (o8 r.2.2.2.2.2.2.2)) true (l7 (H9 50 (o8 r.2.2.2.2.2.1)) true (H9 50 (o8 r.2.2.2.2.2.2.1))))
def smS(s:N8):Bool:=l7 (H9 80 (o8 s.1)) false (l7 (H9 14 (o8 s.2.2.1)) false (l7 (H9 14 (o8 s.2.2.2.1)) false (l7 (H9 60 (o8 s.2.2.2.2)) false
 (l7 (s.2.2.1.any λf=>H9 80 (o8 f.1)) false (l7 (s.2.2.2.1.any λf=>H9 80 (o8 f.1)) false (G5 (s.2.2.2.2.any Iu)))))))
theorem PI{fs:List dW}(h:fs.length<=1000000):U7 (λ(x:Int)=>l7 (H9 x (o8 fs)) (l9 (J9 fs x) λ(x_1:dW)=>l7 (H9 80 (o8 x_1.1)) (some (Out.rt false)) (some (Out.nx (F9 IntKind.i64 x 1)))) (some (Out.ex PUnit.unit))) 0=some (bif fs.any (λf=>H9 80 (o8 f.1))then .inr false else .inl PUnit.unit):=by
 refine Bg fs (λf=>H9 80 (o8 f.1)) false PUnit.unit h (λi a ha=>?_) ?_
 .simp only[O0 ha,o7,J3,ha,o9];cases H9 80 (o8 a.1)<;>rfl
 .rw[N9];rfl
theorem SB(s:N8):uZ s=some (smS s):=by
 unfold uZ smS;cases h1:H9 80 (o8 s.1)
 case true=>rfl
 cases h2:H9 14 (o8 s.2.2.1)
 case true=>rfl
 cases h3:H9 14 (o8 s.2.2.2.1)
 case true=>rfl
 cases h4:H9 60 (o8 s.2.2.2.2)
 case true=>rfl
 have l2:=dP (n:=14) h2;have l3:=dP (n:=14) h3;have l4:=dP (n:=60) h4;simp only[o6,o9,aj];rw[PI o5,PI o5,o9];cases s.2.2.1.any λf=>H9 80 (o8 f.1)
 case true=>rfl
 simp only[cond_false,aj,o6,o9];cases s.2.2.2.1.any λf=>H9 80 (o8 f.1)
 case true=>rfl
 simp only[cond_false,aj,o6];refine X8 (Bg s.2.2.2.2 Iu false PUnit.unit o5 (λi a ha=>?_) ?_) ?_
 rotate_left 2
 .cases s.2.2.2.2.any Iu<;>rfl
 .simp only[O0 ha,o7,J3,ha,o9];unfold Iu;cases H9 80 (o8 a.1)<;>cases H9 80 (o8 a.2.2.2.2.2.2.2)<;>cases H9 50 (o8 a.2.2.2.2.2.1)<;>cases H9 50 (o8 a.2.2.2.2.2.2.1)<;>rfl
 .rw[N9];rfl
def ScI(s:N8):Prop:=∀r∈s.2.2.2.2,(∀n∈r.2.2.2.2.2.1,b7W n.2)/\∀n∈r.2.2.2.2.2.2.1,b7W n.2
theorem CV{a b:Bool}(h:l7 a false b=true):a=false/\b=true:=by cases a<;>cases b<;>first|exact⟨rfl,rfl⟩|cases h
theorem Ie{l:List α}{p:α->Bool}(h:l.any p=false):∀a∈l,p a=false:=by
 intro a ha;rw[iw]at h;have:=h a ha;cases hp:p a
 .rfl
 .exact absurd hp this
theorem a8n(h:smS s=true)(hI:ScI s):SmS s:=by
 unfold smS at h;obtain⟨h1,h⟩:=CV h;obtain⟨h2,h⟩:=CV h;obtain⟨h3,h⟩:=CV h;obtain⟨h4,h⟩:=CV h;obtain⟨h5,h⟩:=CV h;obtain⟨h6,h⟩:=CV h;have h7:s.2.2.2.2.any Iu=false:=by cases hq:s.2.2.2.2.any Iu<;>rw[hq]at h<;>first|rfl|cases h
 refine⟨by have:=dP (n:=80) h1;omega,dP (n:=14) h2,dP (n:=14) h3,dP (n:=60) h4,⟨λf hf=>?_,λf hf=>?_⟩,λr hr=>?_⟩
 .have:=dP (n:=80) (Ie h5 f hf);omega
 .have:=dP (n:=80) (Ie h6 f hf);omega
 .have hl:=Ie h7 r hr;unfold Iu at hl;cases g1:H9 80 (o8 r.1)<;>rw[g1]at hl
  case true=>cases hl
  cases g2:H9 80 (o8 r.2.2.2.2.2.2.2)<;>rw[g2]at hl
  case true=>cases hl
  cases g3:H9 50 (o8 r.2.2.2.2.2.1)<;>rw[g3]at hl
  case true=>cases hl
  have k1:=dP (n:=80) g1;have k2:=dP (n:=80) g2;exact⟨⟨o5,o5,(hI r hr).1,(hI r hr).2⟩,dP (n:=50) g3,dP (n:=50) hl⟩
def Tv(e:Z5):Bool:=l7 (H9 80 (o8 e.1)) true (l7 (H9 20 (o8 e.2)) true (e.2.any λm=>H9 80 (o8 m)))
def tG(b:Int)(t:bP):Int⊕Bool:=l7 (H9 80 (o8 t.1)) (.inr false) (l7 (H9 150 (F9 .i64 b (o8 t.2.2.2))) (.inr false) (.inl (F9 .i64 b (o8 t.2.2.2))))
def sG(b:Int)(s:N8):Int⊕Bool:=l7 (H9 60 (F9 .i64 b (o8 s.2.2.2.2))) (.inr false) (l7 (smS s) (.inl (F9 .i64 b (o8 s.2.2.2.2))) (.inr false))
def smL(l:au):Bool:=l7 (H9 9 (o8 l.1)) false (l7 (H9 9 (o8 l.2.1)) false (l7 (H9 5 (o8 l.2.2)) false (l7 (l.1.any Tv) false
 (match rD tG l.2.1 0 with| .inr _=>false| .inl _=>match rD sG l.2.2 0 with| .inr _=>false| .inl _=>true))))
theorem b0v:∀(b:Int) (t:bP) (r:Bool),tG b t= .inr r->r=false:=by intro b t r h;unfold tG at h;cases g0:H9 80 (o8 t.1)<;>cases g:H9 150 (F9 .i64 b (o8 t.2.2.2))<;>simp only[g0,g,o7,o6]at h<;>cases h<;>rfl
theorem a8l:∀(b:Int) (s:N8) (r:Bool),sG b s= .inr r->r=false:=by intro b s r h;unfold sG at h;cases g:H9 60 (F9 .i64 b (o8 s.2.2.2.2))<;>cases g2:smS s<;>simp only[g,g2,o7,o6]at h<;>cases h<;>rfl
theorem Xg(l:au):qY l=some (smL l):=by
 unfold qY smL;cases h1:H9 9 (o8 l.1)
 case true=>rfl
 cases h2:H9 9 (o8 l.2.1)
 case true=>rfl
 cases h3:H9 5 (o8 l.2.2)
 case true=>rfl
 have l1:=dP (n:=9) h1;have l2:=dP (n:=9) h2;have l3:=dP (n:=5) h3;simp only[o6,o9,aj];refine X8 (Bg l.1 Tv false PUnit.unit o5 (λi a ha=>?_) ?_) ?_
 .simp only[O0 ha,o7,J3,ha,o9];unfold Tv;cases H9 80 (o8 a.1)
  case true=>rfl
  cases h5:H9 20 (o8 a.2)
  case true=>rfl
  have l5:=dP (n:=20) h5;simp only[o6];refine X8 (Bg a.2 (λm=>H9 80 (o8 m)) false PUnit.unit o5 (λj m hm=>?_) ?_) ?_
  .simp only[O0 hm,o7,J3,hm,o9];cases H9 80 (o8 m)<;>rfl
  .rw[N9];rfl
  .cases a.2.any λm=>H9 80 (o8 m)<;>rfl
 .rw[N9];rfl
 cases l.1.any Tv
 case true=>rfl
 simp only[cond_false,aj,o6];apply PY l.2.1 tG (λb i=>((b,i):Int×Int)) (λ_=>PUnit.unit) (λ_ _=>True) 0 o5 trivial
 .intro i t b hi hi' _;refine⟨?_,λ_ _=>trivial⟩;simp only[O0 hi,o7,J3,hi,o9];unfold tG;rw[bY o5];cases H9 80 (o8 t.1)<;>cases H9 150 (F9 .i64 b (o8 t.2.2.2))<;>rfl
 .intro b _;rw[N9];rfl
 .intro _;cases ht:rD tG l.2.1 0 with
  |inr r=>rw[Lm tG (λr=>r=false) b0v _ _ _ ht];rfl|inl b=>
   simp only[aj];apply PY l.2.2 sG (λb i=>((b,i):Int×Int)) (λ_=>PUnit.unit) (λ_ _=>True) 0 o5 trivial
   .intro i s b hi hi' _;refine⟨?_,λ_ _=>trivial⟩;simp only[O0 hi,o7,J3,hi,o9,SB];unfold sG;rw[bY o5];cases H9 60 (F9 .i64 b (o8 s.2.2.2.2))<;>cases smS s<;>rfl
   .intro b _;rw[N9];rfl
   .intro _;cases hs:rD sG l.2.2 0 with
    |inr r=>rw[Lm sG (λr=>r=false) a8l _ _ _ hs];rfl|inl b=>rfl
structure WfL (l:au):Prop where
 rl:∀t∈l.2.1,t.2.2.2.length<=4611686018427387904
 ri:∀t∈l.2.1,∀r∈t.2.2.2,a1z r
 sl:∀s∈l.2.2,s.2.2.2.2.length<=4611686018427387904
 si:∀s∈l.2.2,ScI s
theorem ZC:∀(L:List bP) (b b' :Int),0<=b->b<=150->(∀t∈L,t.2.2.2.length<=4611686018427387904)->rD tG L b= .inl b' ->∀t∈L,t.1.length<=80/\t.2.2.2.length<=150
 |[],_,_,_,_,_,_=>by simp|t::L,b,b',h0,h1,hw,h=>by
  have hwt:=hw t A8;have ha:F9 .i64 b (o8 t.2.2.2)=b+o8 t.2.2.2:=kV (by unfold b7W o8;omega);unfold rD tG at h;rw[ha]at h;cases g0:H9 80 (o8 t.1)<;>rw[g0]at h
  case true=>cases h
  cases g1:H9 150 (b+o8 t.2.2.2)<;>rw[g1]at h
  case true=>cases h
  rw[nz]at g1;intro x hx;rcases A7.1 hx with rfl|hx
  .exact⟨dP (n:=80) g0,by unfold o8 at g1;omega⟩
  .exact ZC L (b+o8 t.2.2.2) b' (by unfold o8;omega) g1 (λq hq=>hw q (by simp[hq])) h x hx
theorem Zh:∀(L:List N8) (b b' :Int),0<=b->b<=60->(∀s∈L,s.2.2.2.2.length<=4611686018427387904)->rD sG L b= .inl b' ->∀s∈L,smS s=true
 |[],_,_,_,_,_,_=>by simp|s::L,b,b',h0,h1,hw,h=>by
  have hwt:=hw s A8;have ha:F9 .i64 b (o8 s.2.2.2.2)=b+o8 s.2.2.2.2:=kV (by unfold b7W o8;omega);unfold rD sG at h;rw[ha]at h;cases g1:H9 60 (b+o8 s.2.2.2.2)<;>rw[g1]at h
  case true=>cases h
  cases g2:smS s<;>rw[g2]at h
  case false=>cases h
  rw[nz]at g1;intro x hx;rcases A7.1 hx with rfl|hx
  .exact g2
  .exact Zh L (b+o8 s.2.2.2.2) b' (by unfold o8;omega) g1 (λq hq=>hw q (by simp[hq])) h x hx
theorem a8m(h:smL l=true)(hW:WfL l):SmL l/\∀t∈l.2.1,a7i t:=by
 unfold smL at h;obtain⟨h1,h⟩:=CV h;obtain⟨h2,h⟩:=CV h;obtain⟨h3,h⟩:=CV h;obtain⟨h4,h⟩:=CV h;have l1:=dP (n:=9) h1;have l2:=dP (n:=9) h2;have l3:=dP (n:=5) h3;cases ht:rD tG l.2.1 0 with
 |inr r=>rw[ht]at h;cases h|inl b=>
  rw[ht]at h;simp only at h;cases hs:rD sG l.2.2 0 with
  |inr r=>rw[hs]at h;cases h|inl b' =>
   have T:=ZC l.2.1 0 b o5 o5 hW.rl ht;have S:=Zh l.2.2 0 b' o5 o5 hW.sl hs;refine⟨⟨⟨o5,o5,o5⟩,λe he=>?_,λt ht=>by have:=(T t ht).1;omega,λs hs=>a8n (S s hs) (hW.si s hs)⟩,λt ht=>⟨by have:=(T t ht).2;omega,hW.ri t ht⟩⟩;have hl:=Ie h4 e he;unfold Tv at hl;cases g1:H9 80 (o8 e.1)<;>rw[g1]at hl
   case true=>cases hl
   cases g2:H9 20 (o8 e.2)<;>rw[g2]at hl
   case true=>cases hl
   have k1:=dP (n:=80) g1;exact⟨o5,λm hm=>by have:=dP (n:=80) (Ie hl m hm);omega⟩
theorem WU:reachBytes<=4611686018427387904:=by decide
theorem b7m(h:wf b7U l):WfL l:=by
 refine⟨λt ht=>?_,λt ht r hr=>?_,λs hs=>?_,λs hs r hr=>⟨λn hn=>?_,λn hn=>?_⟩⟩
 .have:=(h.2.1.2 t ht).2.2.2.1;exact aP this WU
 .have:=(h.2.1.2 t ht).2.2.2.2 r hr;exact⟨Rz this.2.1,Rz this.2.2.1,Rz this.2.2.2⟩
 .have:=(h.2.2.2 s hs).2.2.2.2.1;exact aP this WU
 .have:=(h.2.2.2 s hs).2.2.2.2.2 r hr;exact Rz (this.2.2.2.2.2.1.2 n hn).2
 .have:=(h.2.2.2 s hs).2.2.2.2.2 r hr;exact Rz (this.2.2.2.2.2.2.1.2 n hn).2
theorem ZK(h:(nP l).1=0)(hs:l.2.2[i]? =some s){k:Nat}{r:bM}(hr:s.2.2.2.2[k]? =some r):KH s (Vl l s) k r=0:=by
 have hp:=(a1q h hs).2;unfold LM at hp;cases h1:uM l s with
 |some q=>rw[h1]at hp;exact absurd hp (FC h1)|none=>
  rw[h1]at hp;simp only at hp;cases h2:bg s.2.2.2.2.length (Gm l s)with
  |some q=>
   rw[h2]at hp;obtain⟨j,hj,hq⟩:=jB h2;unfold Gm at hq;cases h3:s.2.2.2.2[j]? with
   |none=>rw[h3]at hq;cases hq|some q2=>rw[h3]at hq;exact absurd hp (He hq)
  |none=>
   have hn:=zx h2 k (aC.1 hr).1;unfold Gm at hn;rw[hr]at hn;simp only at hn;unfold JD at hn;cases he:C9 (KH s (Vl l s) k r) 0<;>rw[he]at hn
   .cases hn
   .exact jC.1 he
theorem b8m{ρ:Type}{p:Nat->Option ρ}(h:∀r,bg n p≠some r):∀i,i<n->p i=none:=by
 cases hf:bg n p with
 |some r=>exact absurd hf (h r)|none=>exact zx hf
theorem b8A{k i:Int}{r:Int×Int}(h:Ld k i r=none):r.1=0:=by
 unfold Ld at h;cases he:C9 r.1 0<;>rw[he]at h
 .cases h
 .exact jC.1 he
end Go.GP
namespace Gt
open Go Go.GP
variable {n:Int}
theorem a5h(h:b7W n):CQ n=some (Lib.itoa n):=by unfold CQ;rw[if_pos (show -9223372036854775808<=n/\n<=9223372036854775807 from h)]
theorem TR{s:List UInt8}{c:Nat}(h:c<=1000000)(hs:s.length<=1000000):qA s (c:Int)=some (Lib.repeatL s c):=by
 unfold qA
 have:s.length*c<=1000000*1000000:=Nat.mul_le_mul hs h;rw[if_pos ⟨o5,o5,by rw[ax];omega⟩,ax]
theorem b3X(x:UInt8)(c:Nat):Lib.repeatL [x] c=List.replicate c x:=by have:=Lib.repeatL_replicate x 1 c;simpa using this
theorem XC{d:Int}(h0:0<=d)(h:d<10):a6p (wrap .u8 (F9 .u64 48 d))=UInt8.ofNat (48+d.toNat):=by
 rw[Wn (by unfold U64;omega)];have e:wrap .u8 (48+d)=((48+d.toNat:Nat):Int):=by unfold wrap IntKind.wrap;simp[IntKind.signed,IntKind.bits];omega
 rw[e];unfold a6p;rw[ax]
theorem a6z(n:Int):VO [n]=[a6p n]:=rfl
theorem VW:∀(k u:Nat),u<k->u<18446744073709551616->mW k (u:Int)=some (Lib.decDigits u)
 |0,u,h,_=>by omega|k+1,u,h,hu=>by
  show xe (mW k) (u:Int)=_;unfold xe;by_cases h10:u<10
  .try simp only[a6z]
   rw[kN (fJ o5),XC o5 o5,Lib.decDigits,dif_pos h10,ax]
  .have e1:(u:Int).tdiv 10=((u / 10:Nat):Int):=by rw[oL o5];omega
   have e2:pO (u:Int) 10=((u % 10:Nat):Int):=by rw[FI o5];omega
   try simp only[a6z]
   rw[lq (dV o5),a2e (by rw[e1];unfold U64;omega)];rw[e1,VW k (u / 10) o5 o5,o9,e2,XC o5 o5,L6,o9,ax]
   .congr 1
    conv=>rhs;rw[Lib.decDigits,dif_neg h10]
   .have:=Lib.nDigits_le20 (u / 10) o5;rw[Lib.decDigits_length];simp;omega
theorem EQ(h:U64 n):zB n=some (Lib.decDigits n.toNat):=by unfold U64 at h;have:=VW jq n.toNat (by unfold jq;omega) o5;rw[fM h.1]at this;exact this
theorem FM(h:b7W n):(Lib.itoa n).length<=21:=Lib.itoa_length_le n h.1 h.2
variable {u:Nat}
theorem yA(h:u<18446744073709551616):1<=(Lib.decDigits u).length/\(Lib.decDigits u).length<=20:=by rw[Lib.decDigits_length];exact⟨Lib.nDigits_pos u,Lib.nDigits_le20 u h⟩
theorem qF(h:b7W n):jU n=some (Lib.itoa n):=by
 unfold b7W at h;unfold jU Lib.itoa;by_cases hn:n<0
 .rw[kN (fJ hn),if_pos hn,kV jP,jY jP];rw[show wrap .u64 (0 -(n+1))=0 -(n+1)from KP (by unfold U64;omega),Wn (by unfold U64;omega),EQ (by unfold U64;omega),o9];have e:(0 -(n+1)+1).toNat=n.natAbs:=o5;rw[e,L6,o9]
  .rfl
  .have:=(yA (u:=n.natAbs) o5).2;simp;omega
 .rw[lq (dV o5),if_neg hn,show wrap .u64 n=n from KP (by unfold U64;omega),EQ (by unfold U64;omega),o9]
theorem jl(h:b7W n):jH n=some (Lib.itoa n):=by unfold jH;rw[a5h h];rfl
def Lj(u k:Nat):List UInt8:=
 let d:=List.replicate (k+1 -(Lib.decDigits u).length) 48++Lib.decDigits u
 d.take (d.length -k)++46::d.drop (d.length -k)
def PM(n:Int)(k:Nat):List UInt8:=if n<0 then 45::Lj n.natAbs k else Lj n.natAbs k
variable {k:Nat}
theorem Yn(hu:u<18446744073709551616)(hk:k<=9):(Lj u k).length<=31:=by have:=yA hu;unfold Lj;simp;omega
theorem Ll(h:b7W n)(hk:k<=9):(PM n k).length<=32:=by unfold b7W at h;have:=Yn (u:=n.natAbs) (k:=k) o5 hk;unfold PM;split<;>simp<;>omega
variable {d:List UInt8}
theorem a1L(h1:k<d.length)(h2:d.length<=100):
  ik d 0 (O5 .i64 (o8 d) (k:Int))=some (d.take (d.length -k))/\ik d (O5 .i64 (o8 d) (k:Int)) (o8 d)=some (d.drop (d.length -k)):=by
 have e:O5 .i64 (o8 d) (k:Int)=((d.length -k:Nat):Int):=by rw[jY (by unfold b7W o8;omega)];unfold o8;omega
 rw[e];exact⟨by rw[x_ o5 o5];simp,by rw[LC o5 o5];simp⟩
theorem a0f{d p:List UInt8}(h1:k<d.length)(h2:d.length<=100)(hp:p.length<=100):
  (l9 (ik d 0 (O5 .i64 (o8 d) (k:Int))) λx=>l9 (P5 p x) λy=>l9 (P5 y [46]) λz=>l9 (ik d (O5 .i64 (o8 d) (k:Int)) (o8 d)) λt=>l9 (P5 z t) λx=>some x)
   =some (p++(d.take (d.length -k)++46::d.drop (d.length -k))):=by
 obtain⟨c1,c2⟩:=a1L h1 h2;rw[c1,o9,L6 H7,o9,L6 H7,o9,c2,o9,L6 H7,o9];simp
theorem iC(h:b7W n)(hk:1<=k/\k<=9):bK n (k:Int)=some (PM n k):=by
 have hI:=h;unfold b7W at h;have ek:xN 0 (xO (k:Int) 9)=(k:Int):=by unfold xN xO;split<;>split<;>omega
 unfold bK pz;rw[o9,ek,jl hI,o9,lq (U8 o5)];have hd:=yA (u:=n.natAbs) o5;have rest:∀(d p:List UInt8),1<=d.length->d.length<=20->p.length<=1->
   l7 (U3 (o8 d) (k:Int))
    (l9 (qA [48] (O5 .i64 (F9 .i64 (k:Int) 1) (o8 d))) λx3=>l9 (P5 x3 d) λx4=>l9 (ik x4 0 (O5 .i64 (o8 x4) (k:Int))) λx5=>l9 (P5 p x5) λx6=>l9 (P5 x6 [46]) λx7=>
     l9 (ik x4 (O5 .i64 (o8 x4) (k:Int)) (o8 x4)) λx=>l9 (P5 x7 x) λx=>some x)
    (l9 (ik d 0 (O5 .i64 (o8 d) (k:Int))) λx=>l9 (P5 p x) λy=>l9 (P5 y [46]) λz=>l9 (ik d (O5 .i64 (o8 d) (k:Int)) (o8 d)) λt=>l9 (P5 z t) λx=>some x)
   =some (p++(let e:=List.replicate (k+1 -d.length) 48++d;e.take (e.length -k)++46::e.drop (e.length -k))):=by
  intro d p h1 h2 h3;by_cases hle:d.length<=k
  .rw[kN (bT (by unfold o8;omega))];have e:O5 .i64 (F9 .i64 (k:Int) 1) (o8 d)=((k+1 -d.length:Nat):Int):=by
    rw[kV jP,jY (by unfold b7W o8;omega)];unfold o8;omega
   rw[e,TR o5 A8,b3X,o9,L6 H7,o9];exact a0f H7 H7 o5
  .rw[lq (eQ (by unfold o8;omega)),a0f o5 o5 o5];have:k+1 -d.length=0:=o5;rw[this];simp
 unfold Lib.itoa PM Lj;by_cases hn:n<0
 .rw[if_pos hn,if_pos hn,kN (fJ hn)];have e:ik (45::Lib.decDigits n.natAbs) 1 (o8 (45::Lib.decDigits n.natAbs))=some (Lib.decDigits n.natAbs):=by
   rw[LC o5 H7];simp
  rw[e,o9];exact rest (Lib.decDigits n.natAbs) [45] hd.1 hd.2 A8
 .rw[if_neg hn,if_neg hn,lq (dV o5)];have e:n.toNat=n.natAbs:=o5;rw[e];exact rest (Lib.decDigits n.natAbs) [] hd.1 hd.2 A8
theorem a4Z :∀(h:d=Lib.decDigits u),∀c∈d,48<=c.toNat/\c.toNat<=57:=by intro h c hc;subst h;rw[Lib.decDigits_eq]at hc;obtain⟨t,_,rfl⟩:=iK.1 hc;unfold Lib.dg;have:u / 10^(Lib.nDigits u -1 -t) % 10<10:=Nat.mod_lt _ o5;generalize u / 10^(Lib.nDigits u -1 -t) % 10=r at this;simp;omega
theorem Pv{c:UInt8}(hc:c∈Lib.decDigits u):48<=c.toNat/\c.toNat<=57:=a4Z rfl c hc
theorem QA(h:∀c∈d,48<=c.toNat/\c.toNat<=57)(h1:1<=d.length):yf d=some (d,false):=by
 unfold yf;rw[kN (fJ (by unfold o8;omega))];match d,h1 with
 |c::r,_=>have e:sat (c::r) 0=some (c.toNat:Int):=rfl;have:=h c A8;rw[e,o9,lq (U8 o5)]
theorem QB :yf (45::d)=some (d,true):=by unfold yf;rw[kN (fJ (by unfold o8;simp))];have e:sat (45::d) 0=some (45:Int):=rfl;rw[e,o9,kN (bH rfl),LC o5 H7,o9];simp
theorem a5A(hk:k<=100)(hd:d.length<=100):
  aS (λ(x_3:List UInt8)=>l7 (U3 (o8 x_3) (k:Int)) (l9 (P5 [48] x_3) λ(x:List UInt8)=>some (Sum.inl x)) (some (Sum.inr x_3))) d=some (List.replicate (k+1 -d.length) 48++d):=by
 obtain⟨e,h1,h2⟩:=oP (f:=λ(x_3:List UInt8)=>l7 (U3 (o8 x_3) (k:Int)) (l9 (P5 [48] x_3) λ(x:List UInt8)=>some (Sum.inl x)) (some (Sum.inr x_3))) (s:=d)
  (λs=>s.length<=102/\List.replicate (k+1 -s.length) 48++s=List.replicate (k+1 -d.length) 48++d) (λe=>e=List.replicate (k+1 -d.length) 48++d) (λs=>k+1 -s.length) ⟨o5,rfl⟩ o5 (by
   intro s ⟨hs,he⟩;by_cases hle:s.length<=k
   .refine .inl ⟨48::s,?_,⟨by simp;omega,?_⟩,by simp;omega⟩
    .rw[kN (bT (by unfold o8;omega)),L6 H7];rfl
    .rw[←he];have e1:k+1 -s.length=(k+1 -(48::s).length)+1:=by simp;omega
     rw[e1,nU];simp
   .refine .inr ⟨s,?_,?_⟩
    .rw[lq (eQ (by unfold o8;omega))]
    .rw[←he,show k+1 -s.length=0 by omega];simp)
 rw[h1,h2]
theorem yK(h:b7W n)(hk:1<=k/\k<=9):jK n (k:Int)=some (PM n k):=by
 have hI:=h;unfold b7W at h;have ek:xO (xN (k:Int) 0) 9=(k:Int):=by unfold xN xO;split<;>split<;>omega
 unfold jK FX;have hd:=yA (u:=n.natAbs) o5;rw[o9,ek,lq (U8 o5),qF hI,o9];have rest:∀(d:List UInt8) (b:Bool),1<=d.length->d.length<=20->
   (l9 (aS (λ(x_3:List UInt8)=>l7 (U3 (o8 x_3) (k:Int)) (l9 (P5 [48] x_3) λ(x:List UInt8)=>some (Sum.inl x)) (some (Sum.inr x_3))) (d,b).1) λ(y:List UInt8)=>
    l9 (ik y 0 (O5 .i64 (o8 y) (k:Int))) λ(x_3:List UInt8)=>l9 (P5 x_3 [46]) λ(x_4:List UInt8)=>l9 (ik y (O5 .i64 (o8 y) (k:Int)) (o8 y)) λ(x:List UInt8)=>
     l9 (P5 x_4 x) λ(x:List UInt8)=>l7 (d,b).2 (l9 (P5 [45] x) λ(x:List UInt8)=>some x) (some x))
   =some ((if b then[45]else[])++(let e:=List.replicate (k+1 -d.length) 48++d;e.take (e.length -k)++46::e.drop (e.length -k))):=by
  intro d b h1 h2;rw[a5A (d:=d) o5 o5,o9];generalize he:List.replicate (k+1 -d.length) 48++d=e;have hl:k<e.length/\e.length<=40:=by subst he;simp;omega
  obtain⟨c1,c2⟩:=a1L hl.1 o5;rw[c1,o9,L6 H7,o9,c2,o9,L6 H7,o9];cases b
  .simp
  .show l9 (P5 [45] _) _=_;rw[L6 H7,o9];simp
 unfold Lib.itoa PM Lj;by_cases hn:n<0
 .rw[if_pos hn,if_pos hn,QB,o9];exact rest (Lib.decDigits n.natAbs) true hd.1 hd.2
 .rw[if_neg hn,if_neg hn];have e:n.toNat=n.natAbs:=o5;rw[e,QA (λc hc=>Pv hc) hd.1,o9];exact rest (Lib.decDigits n.natAbs) false hd.1 hd.2
def YJ(n:Int)(w:Nat):List UInt8:=List.replicate (w -(Lib.itoa n).length) 48++Lib.itoa n
variable {w:Nat}
theorem wZ(h:b7W n)(hw:w<=4):(YJ n w).length<=25:=by have:=FM h;unfold YJ;simp;omega
theorem Fv(h:b7W n)(hw:w<=4):Ae n (w:Int)=some (YJ n w):=by
 have hl:=FM h;unfold Ae;rw[jl h,o9];have e:xN 0 (O5 .i64 (w:Int) (o8 (Lib.itoa n)))=((w -(Lib.itoa n).length:Nat):Int):=by rw[jY (by unfold b7W o8;omega)];unfold xN o8;split<;>omega
 rw[e,TR o5 A8,b3X,o9,L6 H7,o9];rfl
theorem Es(h:b7W n)(hw:w<=4):yg n (w:Int)=some (YJ n w):=by
 have hl:=FM h;unfold yg;rw[qF h,o9];show _=some (List.replicate (w -(Lib.itoa n).length) 48++Lib.itoa n);generalize Lib.itoa n=d at hl ⊢;obtain⟨e,h1,h2⟩:=oP (f:=λ(x:List UInt8)=>l7 (H9 (o8 x) (w:Int)) (l9 (P5 [48] x) λ(x:List UInt8)=>some (Sum.inl x)) (some (Sum.inr x))) (s:=d)
  (λs=>s.length<=30/\List.replicate (w -s.length) 48++s=List.replicate (w -d.length) 48++d) (λe=>e=List.replicate (w -d.length) 48++d) (λs=>w -s.length) ⟨o5,rfl⟩ o5 (by
   intro s ⟨hs,he⟩;by_cases hle:s.length<w
   .refine .inl ⟨48::s,?_,⟨by simp;omega,?_⟩,by simp;omega⟩
    .rw[kN (fJ (by unfold o8;omega)),L6 H7];rfl
    .rw[←he];have e1:w -s.length=(w -(48::s).length)+1:=by simp;omega
     rw[e1,nU];simp
   .refine .inr ⟨s,?_,?_⟩
    .rw[lq (dV (by unfold o8;omega))]
    .rw[←he,show w -s.length=0 by omega];simp)
 rw[h1,o9,h2]
def wB(d:Int):List UInt8:=if 0<=d/\d<=109572 then YJ (ymd d).1 4++45::YJ (ymd d).2.1 2++45::YJ (ymd d).2.2 2 else[]
theorem a6H{a b c:List UInt8}(ha:a.length<=100)(hb:b.length<=100)(hc:c.length<=100){A C B:Option (List UInt8)}(eb:B=some b)(ec:C=some c):
  (l9 (P5 a [45]) λx2=>l9 B λx3=>l9 (P5 x2 x3) λx4=>l9 (P5 x4 [45]) λx5=>l9 C λx=>l9 (P5 x5 x) λx=>some x)=some (a++45::b++45::c):=by
 rw[L6 H7,o9,eb,o9,L6 H7,o9,L6 H7,o9,ec,o9,L6 H7,o9];simp
theorem tu(h1:-1000000<=n)(h2:n<=1000000):b7W n:=by unfold b7W;omega
theorem pI(d:Int):qx d=some (wB d):=by
 unfold qx Af wB;by_cases h0:0<=d
 .rw[kN (bT h0),o9];by_cases h:d<=109572
  .rw[bT h,O7,o6,RQ h0 h,o9,if_pos ⟨h0,h⟩];have hb:=ZL h0 h;have p1:=tu (n:=(ymd d).1) o5 o5;have p2:=tu (n:=(ymd d).2.1) o5 o5;have p3:=tu (n:=(ymd d).2.2) o5 o5;rw[show Ae (ymd d).1 4=_ from Fv (w:=4) p1 o5,o9];have l1:=wZ (w:=4) p1 o5;have l2:=wZ (w:=2) p2 o5;have l3:=wZ (w:=2) p3 o5;exact a6H (A:=none) o5 o5 o5 (Fv (w:=2) p2 o5) (Fv (w:=2) p3 o5)
  .rw[eQ o5,ae,o7,if_neg o5]
 .rw[lq (eQ o5),o9,ae,o7,if_neg o5]
theorem uU(d:Int):oH d=some (wB d):=by
 unfold oH yL wB;by_cases h0:0<=d
 .rw[kN (bT h0),o9];by_cases h:d<=109572
  .rw[bT h,O7,o6,QC h0 h,o9,if_pos ⟨h0,h⟩];have hb:=ZL h0 h;have p1:=tu (n:=(ymd d).1) o5 o5;have p2:=tu (n:=(ymd d).2.1) o5 o5;have p3:=tu (n:=(ymd d).2.2) o5 o5;rw[show yg (ymd d).1 4=_ from Es (w:=4) p1 o5,o9];have l1:=wZ (w:=4) p1 o5;have l2:=wZ (w:=2) p2 o5;have l3:=wZ (w:=2) p3 o5;exact a6H (A:=none) o5 o5 o5 (Es (w:=2) p2 o5) (Es (w:=2) p3 o5)
  .rw[eQ o5,ae,o7,if_neg o5]
 .rw[lq (eQ o5),o9,ae,o7,if_neg o5]
theorem zq(d:Int):(wB d).length<=100:=by
 unfold wB;split
 .rename_i h;have hb:=ZL h.1 h.2;have l1:=wZ (w:=4) (tu (n:=(ymd d).1) o5 o5) o5;have l2:=wZ (w:=2) (tu (n:=(ymd d).2.1) o5 o5) o5;have l3:=wZ (w:=2) (tu (n:=(ymd d).2.2) o5 o5) o5;simp;omega
 .simp
theorem qJ(t:Int×Int)(en:List Z5):aA t en=V9 t en:=by
 unfold aA V9;by_cases h1:t.1=1
 .simp[C9,h1,U3]
 by_cases h2:t.1=2
 .simp[C9,h2,U3]
 by_cases h3:t.1=3
 .simp[C9,h3,U3]
 by_cases h4:t.1=4
 .simp[C9,h4,U3]
 by_cases h5:t.1=5
 .simp[C9,h5,U3]
 by_cases h6:t.1=6
 .simp[C9,h6,U3]
 .simp only[C9,h1,h2,h3,h4,h5,h6,decide_false,o6,o9];by_cases h7:1<=t.1
  .rw[kN (bT h7),lq (eQ o5)]
  .rw[lq (eQ o5)]
theorem GX(t:Int×Int)(en:List Z5):iE t en=dC t en:=by unfold iE dC;rw[qJ]
theorem a1s(n:Int)(t:Int×Int)(en:List Z5):mJ n t en=xf n t en:=by unfold mJ xf;rw[GX]
theorem zg{v:DF}(en:List Z5)(h:b7W v.2.2):jR v en=qG v en:=by
 unfold jR qG yh;rw[o9,qJ];cases hv:V9 (v.1,v.2.1) en with
 |none=>rfl|some b=>
  rw[o9,o9];cases b with
  |false=>rfl|true=>
   rw[O7,o6,o6];have e:BJ v en=mJ v.2.2 (v.1,v.2.1) en:=by unfold BJ yh;rw[o9,hv,o9,o7,o9,wY,a1s]
   rw[e,jl h,qF h,show bK v.2.2 2=_ from iC (k:=2) h o5,show jK v.2.2 2=_ from yK (k:=2) h o5,
    show bK v.2.2 4=_ from iC (k:=4) h o5,show jK v.2.2 4=_ from yK (k:=4) h o5,pI,uU]
theorem zh{B:Nat}(hB:100<=B)(hB2:B<=200000000000000){v:Int×Int×Int}{en:List Z5}(h:b7W v.2.2)(hm:∀e∈en,e.2.length<=B/\∀m∈e.2,m.length<=B):∃t,jR v en=some t/\t.1.length<=B:=by
 unfold jR
 cases hv:aA (v.1,v.2.1) en with
 |none=>
  exfalso;rw[qJ]at hv;unfold V9 at hv;simp only[rO]at hv
  repeat' split at hv
  all_goals cases hv
 |some b=>
  rw[o9];cases b with
  |false=>exact⟨_,rfl,A8⟩|true=>
   rw[O7,o6];unfold mJ iE;rw[hv];simp only[o9,O7,o6];have f1:=FM h;have f2:=Ll (k:=2) h o5;have f4:=Ll (k:=4) h o5;have f5:=zq v.2.2;rw[jl h,show bK v.2.2 2=_ from iC (k:=2) h o5,show bK v.2.2 4=_ from iC (k:=4) h o5,pI];simp only[o9];rw[L6 (a:=PM v.2.2 4) H7];simp only[o9];by_cases h1:v.1=1
   .simp only[bH h1,o7,o9];simp only[bb,o9];simp only[rO];repeat' split
    all_goals exact⟨_,rfl,by first|omega|(simp<;>omega)⟩
   by_cases h2:v.1=2
   .simp only[U8 h1,bH h2,o7,o6,o9];simp only[bb,o9];simp only[rO];repeat' split
    all_goals exact⟨_,rfl,by first|omega|(simp<;>omega)⟩
   by_cases h3:v.1=3
   .simp only[U8 h1,U8 h2,bH h3,o7,o6,o9];simp only[bb,o9];simp only[rO];repeat' split
    all_goals exact⟨_,rfl,by first|omega|(simp<;>omega)⟩
   by_cases h4:v.1=4
   .simp only[U8 h1,U8 h2,U8 h3,bH h4,o7,o6,o9];simp only[bb,o9];simp only[rO];repeat' split
    all_goals exact⟨_,rfl,by first|omega|(simp<;>omega)⟩
   by_cases h5:v.1=5
   .simp only[U8 h1,U8 h2,U8 h3,U8 h4,bH h5,o7,o6,o9];simp only[bb,o9];simp only[rO];repeat' split
    all_goals exact⟨_,rfl,by first|omega|(simp<;>omega)⟩
   .simp only[U8 h1,U8 h2,U8 h3,U8 h4,U8 h5,o6];have hk:v.1=6/\0<=v.2.1/\v.2.1<o8 en:=by
     unfold aA at hv;simp only[U8 h1,U8 h2,U8 h3,U8 h4,U8 h5,o6,o9]at hv;simp only[rO,jC,uN]at hv;split at hv
     .split at hv
      .simp only[D8,zA]at hv;exact⟨by assumption,by assumption,hv⟩
      .cases hv
     .cases hv
    obtain⟨e,he,hmem⟩:=uu hk.2.1 hk.2.2;rw[he];simp only[o9];have hle:=(hm e hmem).1;have hll:o8 e.2=(e.2.length:Int):=rfl;rw[jY jP];by_cases hw0:0<=v.2.2
    .by_cases hw1:v.2.2<=o8 e.2 -1
     .rw[bT hw0,o7,bT hw1,o9,O7,o6];obtain⟨m,hm1,hm2⟩:=uu (l:=e.2) hw0 o5;rw[hm1];exact⟨_,rfl,(hm e hmem).2 m hm2⟩
     .rw[bT hw0,o7,eQ (qO.1 hw1),o9,ae,o7];exact⟨_,rfl,A8⟩
    .rw[eQ (qO.1 hw0),o6];exact⟨_,rfl,A8⟩
end Gt
namespace Go.GP
open Gt
theorem RU(l:List dW):pW l=jm l:=by unfold pW jm;rfl
theorem XW{α:Type}{l:List α}(h:l.length<=1000000):zK l=some l:=by unfold zK;rw[uP H7,E9]
theorem QZ{l:au}(hc:sJ l.1=some l.1)(k:Int):lQ l k=lu l k:=by unfold lQ lu;simp only[hc,RU];rfl
end Go.GP
namespace Go.GP
open Gt
set_option maxRecDepth 100000
def gtN(l:List (List UInt8))(i:Int):List UInt8:=(J9 l i).getD []
def wz(k:Int):List UInt8:=(vI k).getD []
def Dp(k:Int):List UInt8:=(dJ k).getD []
def EF(k:Int):List UInt8×Int:=(oI k).getD ([],0)
def Jf(k:Int):Bool:=l7 (C9 k 2) true (l7 (C9 k 3) true (C9 k 4))
variable {b:Bool}
theorem a7n{x y:Option (List UInt8)}(hx:∃s,x=some s/\s.length<=10)(hy:∃s,y=some s/\s.length<=10):∃s,l7 b x y=some s/\s.length<=10:=by cases b<;>assumption
theorem a0i(k:Int):∃s,vI k=some s/\s.length<=10:=by
 unfold vI
 repeat (refine a7n ⟨_,rfl,I5⟩ ?_)
 exact⟨_,rfl,I5⟩
theorem b0x(k:Int):vI k=some (wz k):=by obtain⟨s,h,-⟩:=a0i k;unfold wz;rw[h];rfl
theorem rU(k:Int):fV k=some (wz k):=(show fV k=vI k from rfl).trans (b0x k)
theorem Nw(k:Int):dJ k=some (Dp k):=by
 unfold Dp;have:∃s,dJ k=some s:=by
  unfold dJ;simp only[rO];repeat' split
  all_goals exact⟨_,rfl⟩
 obtain⟨s,h⟩:=this;rw[h];rfl
theorem b0u(k:Int):oI k=some (EF k):=by
 unfold EF;have:∃s,oI k=some s:=by
  unfold oI;simp only[rO];repeat' split
  all_goals exact⟨_,rfl⟩
 obtain⟨s,h⟩:=this;rw[h];rfl
theorem a6f(k:Int):fQ k=some (EF k):=(show fQ k=oI k from rfl).trans (b0u k)
theorem sZ(k:Int):(wz k).length<=10:=by obtain⟨s,h,h2⟩:=a0i k;unfold wz;rw[h];exact h2
theorem JQ(k:Int):(Dp k).length<=10:=by
 unfold Dp dJ;simp only[rO];repeat' split
 all_goals simp
theorem a0e(k:Int):(EF k).1.length<=10:=by
 unfold EF oI;simp only[rO];repeat' split
 all_goals simp
structure NmOk (N:F5):Prop where
 e:∀e∈N.1,e.1.length<=1000/\∀m∈e.2,m.length<=1000
 t:∀s∈N.2.1,s.length<=1000
 i:∀s∈N.2.2.1,s.length<=1000
 d:∀s∈N.2.2.2.1,s.length<=1000
 m:∀s∈N.2.2.2.2,s.length<=1000
abbrev Tx:Type:=List UInt8×Int
def wiS(p:Tx)(c:Int):List UInt8:=l7 (H9 p.2 c) ([40]++p.1++[41]) p.1
def wS(n:Int×Int)(N:F5):Tx:=
 l7 (U3 n.1 5) (((qG (n.1,0,n.2) []).getD ([],0)).1,l7 (H9 n.2 0) 6 7)
 (l7 (C9 n.1 6) (((J9 N.1 (jb .i64 n.2 16)).getD ([],[])).1++[58]++gtN ((J9 N.1 (jb .i64 n.2 16)).getD ([],[])).2 (pO n.2 16),7)
 (l7 (C9 n.1 7) (gtN N.2.2.1 n.2,7)
 (l7 (C9 n.1 8) (gtN N.2.2.2.1 n.2,7)
 (l7 (C9 n.1 9) ([116,111,100,97,121],7)
 (l7 (C9 n.1 35) ([99,111,117,110,116,40,41],7) (wz n.1++[40]++gtN N.2.2.2.2 n.2++[41],7))))))
def LH(n:Int×Int)(N:F5)(num:Bool)(a:Tx):Tx:=
 l7 (C9 n.1 33) (wz n.1++[40]++gtN N.2.1 n.2++[44,32]++a.1++[41],7)
 (l7 (C9 n.1 34) (wz n.1++[40]++gtN N.2.1 (jb .i64 n.2 8)++[44,32]++a.1++[44,32]++Dp (pO n.2 8)++[41],7)
 (l7 (C9 n.1 25) ([110,111,116,32]++wiS a 6,6)
 (l7 (C9 n.1 10) ([45]++l7 num ([40]++a.1++[41]) (wiS a 6),6) (wz n.1++[40]++a.1++[41],7))))
def a1H(k:Int):Bool:=l7 (C9 k 17) true (l7 (C9 k 18) true (l7 (C9 k 27) true (l7 (C9 k 28) true (l7 (C9 k 29) true (C9 k 30)))))
def a5N(k:Int):Bool:=l7 (C9 k 14) true (l7 (C9 k 15) true (C9 k 16))
def Rn(n:Int×Int)(a b:Tx):Tx:=
 l7 (a1H n.1) (wz n.1++[40]++a.1++[44,32]++b.1++[41],7)
 (l7 (a5N n.1) (wz n.1++[40]++a.1++[44,32]++b.1++[44,32]++Dp n.2++[41],7)
 (wiS a (l7 (C9 (EF n.1).2 3) 4 (EF n.1).2)++[32]++(EF n.1).1++[32]++wiS b ((EF n.1).2+1),(EF n.1).2))
def ifX(a b c:Tx):Tx:=([105,102,32]++a.1++[32,116,104,101,110,32]++b.1++[32,101,108,115,101,32]++c.1,0)
def b7X(N:F5):XT->Tx
 | .l0 n=>wS n N| .l1 n a=>LH n N (Jf a.node.1) (b7X N a)| .l2 n a b=>Rn n (b7X N a) (b7X N b)| .l3 n a b c=>ifX (b7X N a) (b7X N b) (b7X N c)
def pcT(N:F5)(t:XT):G8:=((b7X N t).1,(b7X N t).2,Jf t.node.1)
def Ba(n:Int×Int)(args:List G8)(N:F5)(p:Tx):Prop:=
 ∃c,Y4 n N=some c/\U9 n args N=some (l7 (C9 c 0) ((p.1,p.2,Jf n.1),0) (([],0,false),c))
variable {α:Type}
theorem lx0(a:α)(l:List α):J9 (a::l) 0=some a:=rfl
theorem lx1(a b:α)(l:List α):J9 (a::b::l) 1=some b:=rfl
theorem lx2(a b c:α)(l:List α):J9 (a::b::c::l) 2=some c:=rfl
theorem DD(p:G8)(c:Int)(h:p.1.length<=1000000000):dI p c=some (wiS (p.1,p.2.1) c):=by unfold dI wiS;rw[L6 H7,o9,L6 H7,o9];cases H9 p.2.1 c<;>rfl
theorem Jt(p:Tx)(c:Int):(wiS p c).length<=p.1.length+2:=by unfold wiS;cases H9 p.2 c<;>simp
theorem arN(k:Int):1<=k/\k<=39\/arF k=-1:=by
 by_cases h:1<=k/\k<=39
 .exact .inl h
 .refine .inr ?_;unfold arF;rw[UN h];rfl
variable {k:Int}
theorem ar0(h:arF k=0):k=1\/k=2\/k=3\/k=4\/k=5\/k=6\/k=7\/k=8\/k=9\/k=35\/k=36\/k=37\/k=38\/k=39:=by
 rcases arN k with h1|h1
 .obtain⟨j,rfl⟩:=Qo h1;revert h;revert j;decide
 .omega
theorem ar1(h:arF k=1):k=10\/k=25\/k=31\/k=32\/k=33\/k=34:=by
 rcases arN k with h1|h1
 .obtain⟨j,rfl⟩:=Qo h1;revert h;revert j;decide
 .omega
theorem ar2(h:arF k=2):k=11\/k=12\/k=13\/k=14\/k=15\/k=16\/k=17\/k=18\/k=19\/k=20\/k=21\/k=22\/k=23\/k=24\/k=27\/k=28\/k=29\/k=30:=by
 rcases arN k with h1|h1
 .obtain⟨j,rfl⟩:=Qo h1;revert h;revert j;decide
 .omega
theorem ar3(h:arF k=3):k=26:=a7l h
variable {N:F5}{n:Int×Int}
theorem V_{args:List G8}{p:Tx}(c:Int)(h1:Y4 n N=some c)(h2:U9 n args N=some (l7 (C9 c 0) ((p.1,p.2,Jf n.1),0) (([],0,false),c))):Ba n args N p:=⟨c,h1,h2⟩
variable {m:Int}
theorem a5j(hk:k=1\/k=2\/k=3\/k=4\/k=5)(hm:b7W m)(N:F5):∃c s,Y4 (k,m) N=some c/\jR (k,0,m) []=some (s,c):=by
 have b1:∀lo hi:Int,dC (k,0) []=some (lo,hi)->V9 (k,0) []=some true->∃c s,Y4 (k,m) N=some c/\jR (k,0,m) []=some (s,c):=by
  intro lo hi hb hv;have hf:Y4 (k,m) N=some (l7 (H9 m lo) 3 (l7 (H9 hi m) 3 0)):=by
   unfold Y4 oV;simp only[bT (show 1<=k by omega),bT (show k<=5 by omega),o7,o9,hb];cases H9 m lo
   .cases H9 hi m<;>rfl
   .rfl
  have hw:mJ m (k,0) []=some (l7 (U3 lo m) (U3 m hi) false):=by unfold mJ;rw[GX,hb,o9];cases U3 lo m<;>rfl
  rw[hf];obtain⟨t,ht,-⟩:=zh (B:=100) o5 o5 (v:=(k,0,m)) (en:=[]) hm (λe h=>by cases h);unfold jR at ht ⊢;simp only[qJ,hv,hw,o9,O7,o6]at ht ⊢;by_cases h1:lo<=m
  .by_cases h2:m<=hi
   .rw[bT h1,bT h2,o7,O7,o6]at ht ⊢;rw[dV h1,dV h2,o6,o6];refine⟨0,t.1,rfl,?_⟩;rw[ht];have e:t.2=0:=by
     rcases hk with rfl|rfl|rfl|rfl|rfl
     .simp (disch:=decide) only[bH,o7]at ht;revert ht;cases C9 m 1<;>cases C9 m 0<;>intro ht<;>cases ht<;>rfl
     .simp (disch:=decide) only[bH,U8,o7,o6,jl hm,o9,D8]at ht;rw[←ht]
     .simp (disch:=decide) only[bH,U8,o7,o6]at ht;rw[show bK m 2=_ from iC (k:=2) hm o5]at ht;simp only[o9,D8]at ht;rw[←ht]
     .simp (disch:=decide) only[bH,U8,o7,o6]at ht;have f4:=Ll (k:=4) hm o5;rw[show bK m 4=_ from iC (k:=4) hm o5,o9,L6 H7]at ht;simp only[o9,D8]at ht;rw[←ht]
     .simp (disch:=decide) only[bH,U8,o7,o6,pI,o9,D8]at ht;rw[←ht]
    rw[←e]
   .rw[bT h1,eQ o5,o7,ae,o7,dV h1,fJ o5,o6,o7];exact⟨3,[],rfl,rfl⟩
  .rw[eQ o5,o6,ae,o7,fJ o5,o7];exact⟨3,[],rfl,rfl⟩
 rcases hk with rfl|rfl|rfl|rfl|rfl
 .exact b1 0 1 rfl rfl
 .exact b1 _ _ rfl rfl
 .exact b1 _ _ rfl rfl
 .exact b1 _ _ rfl rfl
 .exact b1 _ _ rfl rfl
theorem AQ(hk:k=1\/k=2\/k=3\/k=4\/k=5)(hm:b7W m)(N:F5):Ba (k,m) [] N (wS (k,m) N):=by
 obtain⟨c,s,h1,h2⟩:=a5j hk hm N;refine V_ c h1 ?_;have e:wS (k,m) N=(s,l7 (H9 m 0) 6 7):=by unfold wS;rw[bT (show k<=5 by omega),o7,←zg [] hm,h2];rfl
 have hc:c=0\/c=3:=by
  unfold Y4 oV at h1;have h:=h1;simp only[bT (show 1<=k by omega),bT (show k<=5 by omega),o7,o9]at h;cases hb:dC (k,0) []with
  |none=>rw[hb]at h;cases h|some b=>rw[hb,o9]at h;cases hx:H9 m b.1<;>cases hy:H9 b.2 m<;>simp only[hx,hy,o7,o6,D8]at h<;>omega
 have hr:lY (k,m)=some (l7 (C9 c 0) ((s,l7 (l7 (Jf k) (H9 m 0) false) 6 7,Jf k),0) (([],0,false),c)):=by
  unfold lY Jf;simp only[h2,o9];rcases hc with rfl|rfl
  .simp only[bH (rfl:(0:Int)=0),O7,o6,o7,ah,o9];cases H9 m 0<;>cases C9 k 2<;>cases C9 k 3<;>cases C9 k 4<;>rfl
  .rfl
 rw[e];unfold U9;rw[hr];have hneg:c=0->l7 (l7 (Jf k) (H9 m 0) false) (6:Int) 7=l7 (H9 m 0) 6 7:=by
  intro h0;subst h0;cases hg:H9 m 0
  .cases Jf k<;>rfl
  rcases hk with rfl|rfl|rfl|rfl|rfl
  .exfalso;unfold Y4 oV at h1;simp only[show dC (1,0) []=some (0,1)from rfl,bT (show(1:Int)<=1 by omega),bT (show(1:Int)<=5 by omega),o7,o9,hg,D8]at h1;omega
  .rfl
  .rfl
  .rfl
  .exfalso;unfold Y4 oV at h1;simp only[show dC (5,0) []=some (0,109572)from rfl,bT (show(1:Int)<=5 by omega),bT (show(5:Int)<=5 by omega),o7,o9,hg,D8]at h1;omega
 rcases hc with rfl|rfl
 .rw[hneg rfl];rcases hk with rfl|rfl|rfl|rfl|rfl<;>rfl
 .rcases hk with rfl|rfl|rfl|rfl|rfl<;>rfl
variable {l:List (List UInt8)}{i:Int}
theorem UB(h0:0<=i)(h:i<o8 l):J9 l i=some (gtN l i)/\gtN l i∈l:=by obtain⟨x,h1,h2⟩:=uu h0 h;unfold gtN;rw[h1];exact⟨rfl,h2⟩
theorem IV{B:Nat}(h:∀s∈l,s.length<=B)(i:Int):(gtN l i).length<=B:=by
 unfold gtN;cases hl:J9 l i with
 |none=>simp|some x=>exact h x (pV hl).2.2.1
theorem NQ(k m:Int)(args:List G8)(N:F5)(hk:k=6\/k=7\/k=8\/k=36\/k=37\/k=38\/k=39):U9 (k,m) args N=dE (k,m) N:=by unfold U9;generalize hq:dE (k,m) N=q;rcases hk with rfl|rfl|rfl|rfl|rfl|rfl|rfl<;>simp (disch:=decide) only[bH,U8,o7,o6,o9,hq]<;>cases q<;>rfl
theorem wo(hk:k=7\/k=8\/k=36\/k=37\/k=38\/k=39)(hN:NmOk N):Ba (k,m) [] N (wS (k,m) N):=by
 have key:∀(l:List (List UInt8)) (before after:List UInt8),(∀s∈l,s.length<=1000)->before.length<=100->after.length<=100->
   Y4 (k,m) N=l7 (H9 m 0) (some 6) (l7 (U3 (o8 l) m) (some 6) (some 0))->
   dE (k,m) N=l7 (H9 m 0) (some (([],0,false),6))
    (l7 (U3 (o8 l) m) (some (([],0,false),6))
     (l9 (J9 l m) λ(x_1:List UInt8)=>
      l9 (P5 before x_1) λ(x_2:List UInt8)=>
       l9 (P5 x_2 after) λ(x:List UInt8)=>some ((x,7,false),0)))->
   wS (k,m) N=(before++gtN l m++after,7)->Ba (k,m) [] N (wS (k,m) N):=by
  intro l before after hl hb ha hf0 hr he;have hf:Y4 (k,m) N=some (l7 (H9 m 0) 6 (l7 (U3 (o8 l) m) 6 0)):=by rw[hf0];cases H9 m 0<;>cases U3 (o8 l) m<;>rfl
  refine V_ _ hf ?_;have hnum:Jf k=false:=by rcases hk with rfl|rfl|rfl|rfl|rfl|rfl<;>rfl
  rw[NQ _ _ _ _ o5,hr,he,hnum];by_cases h0:m<0
  .rw[fJ h0];rfl
  by_cases h1:o8 l<=m
  .simp only[dV (show 0<=m by omega),bT h1];rfl
  .have:=UB (l:=l) (i:=m) o5 o5;have h2:=hl _ this.2;simp only[dV (show 0<=m by omega),eQ (show m<o8 l by omega),o6,this.1,o9];rw[L6 o5,o9,L6 H7,o9];rfl
 have mem:∀k:Int,(k=36\/k=37\/k=38\/k=39)->dE (k,m) N=l7 (H9 m 0) (some (([],0,false),6))
    (l7 (U3 (o8 N.2.2.2.2) m) (some (([],0,false),6))
     (l9 (J9 N.2.2.2.2 m) λ(x_1:List UInt8)=>
      l9 (P5 (wz k++[40]) x_1) λ(x_2:List UInt8)=>
       l9 (P5 x_2 [41]) λ(x:List UInt8)=>some ((x,7,false),0))):=by
  intro k hk;have hw:=sZ k;unfold dE ah;simp only[U8 (show k≠6 by omega),U8 (show k≠7 by omega),U8 (show k≠8 by omega),o6,rU,o9,L6 (a:=wz k) (b:=[40]) H7,aj]
 have lf:∀k:Int,(k=36\/k=37\/k=38\/k=39)->wS (k,m) N=(wz k++[40]++gtN N.2.2.2.2 m++[41],7):=by intro k hk;unfold wS;simp only[eQ (show 5<k by omega),U8 (show k≠6 by omega),U8 (show k≠7 by omega),U8 (show k≠8 by omega),U8 (show k≠9 by omega),U8 (show k≠35 by omega),o6]
 have wl:=λk=>sZ k;rcases hk with rfl|rfl|rfl|rfl|rfl|rfl
 .refine key N.2.2.1 [] [] hN.i A8 A8 rfl ?_ ?_
  .unfold dE ah;simp (disch:=decide) only[bH,U8,o7,o6,o9,aj]
  .unfold wS;simp (disch:=decide) only[bH,U8,eQ,o7,o6];simp
 .refine key N.2.2.2.1 [] [] hN.d A8 A8 rfl ?_ ?_
  .unfold dE ah;simp (disch:=decide) only[bH,U8,o7,o6,o9,aj]
  .unfold wS;simp (disch:=decide) only[bH,U8,eQ,o7,o6];simp
 .exact key N.2.2.2.2 (wz 36++[40]) [41] hN.m I5 I5 rfl (mem _ o5) (lf _ o5)
 .exact key N.2.2.2.2 (wz 37++[40]) [41] hN.m I5 I5 rfl (mem _ o5) (lf _ o5)
 .exact key N.2.2.2.2 (wz 38++[40]) [41] hN.m I5 I5 rfl (mem _ o5) (lf _ o5)
 .exact key N.2.2.2.2 (wz 39++[40]) [41] hN.m I5 I5 rfl (mem _ o5) (lf _ o5)
theorem L_(h:b7W m)(d:Int)(hd:d=8\/d=16):jb .i64 m d=m.tdiv d:=by
 refine JG ?_;unfold b7W at h ⊢;rcases hd with rfl|rfl
 all_goals
  rcases Int.lt_or_le m 0 with h0|h0
  .have e:=Int.neg_tdiv (a:=-m) (b:=8);have e' :=Int.neg_tdiv (a:=-m) (b:=16);rw[Int.neg_neg]at e e';have q1:=oL (a:=-m) (b:=8) o5;have q2:=oL (a:=-m) (b:=16) o5;omega
  .have q1:=oL (a:=m) (b:=8) o5;have q2:=oL (a:=m) (b:=16) o5;omega
theorem Xa(hm:b7W m)(hN:NmOk N):Ba (6,m) [] N (wS (6,m) N):=by
 have hf:Y4 (6,m) N=(l7 (H9 m 0) (some 6)
    (l7 (U3 (o8 N.1) (jb .i64 m 16)) (some 6)
     (l9 (J9 N.1 (jb .i64 m 16)) λ(x:Z5)=>
      l7 (U3 (o8 x.2) (pO m 16)) (some 6) (some 0)))):=rfl
 have hr:dE (6,m) N=l9 (l7 (H9 m 0) (some (Sum.inr (([],0,false),6)))
   (l7 (U3 (o8 N.1) (jb IntKind.i64 m 16)) (some (Sum.inr (([],0,false),6)))
    (l9 (J9 N.1 (jb IntKind.i64 m 16)) λ(x:Z5)=>
     l9 (P5 x.1 [58]) λ(x_1:List UInt8)=>some (Sum.inl (([],0,false),x.2,pO m 16,x_1,[]))))) λ(o:G8×List (List UInt8)×Int×List UInt8×List UInt8⊕G8×Int)=>
 Z4 o
  (λ(x:G8×List (List UInt8)×Int×List UInt8×List UInt8)=>
   l7 (H9 x.2.2.1 0) (some (([],0,false),6))
    (l7 (U3 (o8 x.2.1) x.2.2.1) (some (([],0,false),6))
     (l9 (J9 x.2.1 x.2.2.1) λ(x_1:List UInt8)=>
      l9 (P5 x.2.2.2.1 x_1) λ(x_2:List UInt8)=>
       l9 (P5 x_2 x.2.2.2.2) λ(x:List UInt8)=>
        l9 (ah x) λ(x:G8)=>some (x,0))))
  λ(r:G8×Int)=>some r:=rfl
 have hl:wS (6,m) N=(((J9 N.1 (jb .i64 m 16)).getD ([],[])).1++[58]++gtN ((J9 N.1 (jb .i64 m 16)).getD ([],[])).2 (pO m 16),7):=rfl;unfold Ba;rw[hf,NQ _ _ _ _ o5,hr,hl];by_cases h0:m<0
 .rw[fJ h0];exact⟨6,rfl,rfl⟩
 rw[dV o5,o6,o6];by_cases h1:o8 N.1<=jb .i64 m 16
 .rw[bT h1];exact⟨6,rfl,rfl⟩
 rw[eQ o5,o6,o6];have hq:0<=jb .i64 m 16:=by rw[L_ hm 16 (.inr rfl),oL o5];omega
 obtain⟨e,he,hmem⟩:=uu (l:=N.1) hq o5;have hb:=hN.e e hmem;have hr0:pO m 16=m % 16:=FI o5;simp only[he,o9,aK,L6 (a:=e.1) (b:=[58]) H7,aj];rw[dV (show 0<=pO m 16 by omega),o6];by_cases h2:o8 e.2<=pO m 16
 .rw[bT h2];exact⟨6,rfl,rfl⟩
 rw[eQ o5,o6,o6];have hg:=UB (l:=e.2) (i:=pO m 16) o5 o5;have h3:=hb.2 _ hg.2;refine⟨0,rfl,?_⟩;rw[hg.1,o9,L6 H7,o9,L6 H7,o9];simp only[ah,o9,E8];rfl
theorem a3m :Ba (9,0) [] N (wS (9,0) N):=⟨0,rfl,rfl⟩
theorem a1d :Ba (35,0) [] N (wS (35,0) N):=⟨0,rfl,rfl⟩
theorem Q_(hN:NmOk N)(hm:b7W m)(ha:arF k=0)(hu:m=0\/aW k=some true):Ba (k,m) [] N (wS (k,m) N):=by
 have hz:(k=9\/k=35)->m=0:=by
  intro h;rcases hu with h1|h1
  .exact h1
  .exfalso;rcases h with rfl|rfl<;>exact absurd h1 I5
 rcases ar0 ha with rfl|rfl|rfl|rfl|rfl|rfl|rfl|rfl|rfl|rfl|rfl|rfl|rfl|rfl
 .exact AQ o5 hm N
 .exact AQ o5 hm N
 .exact AQ o5 hm N
 .exact AQ o5 hm N
 .exact AQ o5 hm N
 .exact Xa hm hN
 .exact wo o5 hN
 .exact wo o5 hN
 .rw[hz o5];exact a3m
 .rw[hz o5];exact a1d
 .exact wo o5 hN
 .exact wo o5 hN
 .exact wo o5 hN
 .exact wo o5 hN
theorem YR(hm:b7W m)(hN:NmOk N)(a:G8)(h1:a.1.length<=1000000000):Ba (33,m) [a] N (LH (33,m) N b (a.1,a.2.1)):=by
 have hf:Y4 (33,m) N=l7 (H9 m 0) (some 6) (l7 (U3 (o8 N.2.1) m) (some 6) (some 0)):=rfl;have hr:U9 (33,m) [a] N=eY (33,m) a N:=by unfold U9;generalize hq:eY (33,m) a N=q;simp (disch:=decide) only[bH,U8,o7,o6,o9,lx0,hq];cases q<;>rfl
 have hx:LH (33,m) N b (a.1,a.2.1)=(wz 33++[40]++gtN N.2.1 m++[44,32]++a.1++[41],7):=rfl;unfold Ba;rw[hf,hr,hx];unfold eY ah;simp (disch:=decide) only[bH,U8,o7,o6,o9,rU];by_cases h0:m<0
 .rw[fJ h0];exact⟨6,rfl,rfl⟩
 rw[dV o5,o6,o6];by_cases h2:o8 N.2.1<=m
 .rw[bT h2];exact⟨6,rfl,rfl⟩
 rw[eQ o5,o6,o6];have hg:=UB (l:=N.2.1) (i:=m) o5 o5;have h3:=hN.t _ hg.2;have hw:=sZ 33;refine⟨0,rfl,?_⟩;rw[o9,aj,L6 H7,o9,hg.1,o9,L6 H7,o9,L6 H7,o9,L6 H7,o9,L6 H7,o9];rfl
theorem WF(h:0<=m):seq (Dp m) []=H9 5 m:=by
 by_cases h5:m<=5
 .rw[dV h5];obtain⟨k,rfl⟩:∃k:Fin 6,m=(k.val:Int):=⟨⟨m.toNat,o5⟩,by simp;omega⟩;revert k;decide
 .rw[fJ o5];unfold Dp dJ;simp only[U8 (show m≠0 by omega),U8 (show m≠1 by omega),U8 (show m≠2 by omega),U8 (show m≠3 by omega),U8 (show m≠4 by omega),U8 (show m≠5 by omega),o6];rfl
theorem a2o(h:m<0):seq (Dp m) []=true:=by unfold Dp dJ;simp only[U8 (show m≠0 by omega),U8 (show m≠1 by omega),U8 (show m≠2 by omega),U8 (show m≠3 by omega),U8 (show m≠4 by omega),U8 (show m≠5 by omega),o6];rfl
theorem WZ(hm:b7W m)(hN:NmOk N)(a:G8)(h1:a.1.length<=1000000000):Ba (34,m) [a] N (LH (34,m) N b (a.1,a.2.1)):=by
 have hf:Y4 (34,m) N=l7 (H9 m 0) (some 6) (l7 (U3 (o8 N.2.1) (jb .i64 m 8)) (some 6) (l7 (H9 5 (pO m 8)) (some 3) (some 0))):=rfl;have hr:U9 (34,m) [a] N=eY (34,m) a N:=by unfold U9;generalize hq:eY (34,m) a N=q;simp (disch:=decide) only[bH,U8,o7,o6,o9,lx0,hq];cases q<;>rfl
 have hx:LH (34,m) N b (a.1,a.2.1)=(wz 34++[40]++gtN N.2.1 (jb .i64 m 8)++[44,32]++a.1++[44,32]++Dp (pO m 8)++[41],7):=rfl;unfold Ba;rw[hf,hr,hx];unfold eY ah;simp (disch:=decide) only[bH,U8,o7,o6,o9,rU,Nw];by_cases h0:m<0
 .rw[fJ h0,dV (show m<=0 by omega)];simp only[o7,o6,o9,fJ h0,lV];exact⟨6,rfl,rfl⟩
 have hq:jb .i64 m 8=m / 8:=by rw[L_ hm 8 (.inl rfl),oL o5]
 have hi:(l7 (H9 0 m) (some (jb .i64 m 8)) (some m):Option Int)=some (jb .i64 m 8):=by
  by_cases h:0<m
  .rw[fJ h];rfl
  .rw[dV o5,o6,show jb .i64 m 8=m by omega]
 rw[hi,o9,dV (show 0<=m by omega),o6,dV (show 0<=jb .i64 m 8 by omega),o6];by_cases h2:o8 N.2.1<=jb .i64 m 8
 .rw[bT h2];exact⟨6,rfl,rfl⟩
 rw[eQ o5,o6,o6];have hg:=UB (l:=N.2.1) (i:=jb .i64 m 8) o5 o5;have h3:=hN.t _ hg.2;have hw:=sZ 34;have hm:=JQ (pO m 8);have hr0:pO m 8=m % 8:=FI o5;rw[o9,aj,L6 H7,o9,hg.1,o9,L6 H7,o9,L6 H7,o9,L6 H7,o9,WF (show 0<=pO m 8 by omega)];cases H9 5 (pO m 8)
 .refine⟨0,rfl,?_⟩;rw[o6,L6 H7,o9,L6 H7,o9,L6 H7,o9];simp[l7];rfl
 .exact⟨3,rfl,rfl⟩
theorem R_(hN:NmOk N)(hm:b7W m)(ha:arF k=1)(hu:m=0\/aW k=some true)(a:G8)(h1:a.1.length<=1000000000):Ba (k,m) [a] N (LH (k,m) N a.2.2 (a.1,a.2.1)):=by
 have hz:(k=10\/k=25\/k=31\/k=32)->m=0:=by
  intro h;rcases hu with h1|h1
  .exact h1
  .exfalso;rcases h with rfl|rfl|rfl|rfl<;>exact absurd h1 I5
 have hw:=Jt (a.1,a.2.1) 6;simp only at hw;rcases ar1 ha with rfl|rfl|rfl|rfl|rfl|rfl
 .rw[hz o5];refine⟨0,rfl,?_⟩;unfold U9 LH;simp (disch:=decide) only[bH,U8,o7,o6,o9,lx0,DD a 6 h1];cases h:a.2.2
  .simp only[o6,o7];rw[L6 H7,o9,o9,lV];rfl
  .simp only[o7];rw[L6 H7,o9,L6 H7,o9,L6 H7,o9,o9,lV];rfl
 .rw[hz o5];refine⟨0,rfl,?_⟩;unfold U9 LH;simp (disch:=decide) only[bH,U8,o7,o6,o9,lx0,DD a 6 h1];rw[L6 H7,o9,o9,lV];rfl
 .rw[hz o5];refine⟨0,rfl,?_⟩;have hl:=sZ 31;unfold U9 LH ah;simp (disch:=decide) only[bH,U8,o7,o6,o9,lx0,rU];rw[L6 H7,o9,L6 H7,o9,L6 H7,o9,o9,lV];rfl
 .rw[hz o5];refine⟨0,rfl,?_⟩;have hl:=sZ 32;unfold U9 LH ah;simp (disch:=decide) only[bH,U8,o7,o6,o9,lx0,rU];rw[L6 H7,o9,L6 H7,o9,L6 H7,o9,o9,lV];rfl
 .exact YR hm hN a h1
 .exact WZ hm hN a h1
theorem YP(hk:k=17\/k=18\/k=27\/k=28\/k=29\/k=30)(a b:G8)(h1:a.1.length<=1000000000)(h2:b.1.length<=1000000000):Ba (k,0) [a,b] N (Rn (k,0) (a.1,a.2.1) (b.1,b.2.1)):=by
 have hl:=sZ k;rcases hk with rfl|rfl|rfl|rfl|rfl|rfl
 all_goals
  refine⟨0,rfl,?_⟩;unfold U9 Rn ah a1H;simp (disch:=decide) only[bH,U8,o7,o6,o9,lx0,lx1,rU];rw[L6 H7,o9,L6 H7,o9,L6 H7,o9,L6 H7,o9,L6 H7,o9,o9,lV];rfl
theorem YQ(hk:k=14\/k=15\/k=16)(a b:G8)(h1:a.1.length<=1000000000)(h2:b.1.length<=1000000000):Ba (k,m) [a,b] N (Rn (k,m) (a.1,a.2.1) (b.1,b.2.1)):=by
 have hl:=sZ k;have hm:=JQ m;have hf:Y4 (k,m) N=some (l7 (seq (Dp m) []) 3 0):=by
  have:Y4 (k,m) N=l7 (H9 m 0) (some 3) (l7 (H9 5 m) (some 3) (some 0)):=by rcases hk with rfl|rfl|rfl<;>rfl
  rw[this];by_cases h0:m<0
  .rw[fJ h0,a2o h0];rfl
  .rw[dV o5,WF o5];cases H9 5 m<;>rfl
 refine V_ _ hf ?_;rcases hk with rfl|rfl|rfl
 all_goals
  unfold U9 Rn ah a1H a5N;simp (disch:=decide) only[bH,U8,o7,o6,o9,lx0,lx1,rU,Nw];cases seq (Dp m) []
  .rw[o6,L6 H7,o9,L6 H7,o9,L6 H7,o9,L6 H7,o9,L6 H7,o9,L6 H7,o9,L6 H7,o9,o9,lV];rfl
  .rfl
theorem YO(hk:k=11\/k=12\/k=13\/k=19\/k=20\/k=21\/k=22\/k=23\/k=24)(a b:G8)(h1:a.1.length<=1000000)(h2:b.1.length<=1000000):Ba (k,0) [a,b] N (Rn (k,0) (a.1,a.2.1) (b.1,b.2.1)):=by
 have hl:=a0e k;have hc:1<=(EF k).2/\(EF k).2<=5:=by rcases hk with rfl|rfl|rfl|rfl|rfl|rfl|rfl|rfl|rfl<;>decide
 have w1:=Jt (a.1,a.2.1) 4;have w2:=Jt (a.1,a.2.1) (EF k).2;have w3:=Jt (b.1,b.2.1) ((EF k).2+1);simp only at w1 w2 w3;have hx:U9 (k,0) [a,b] N=l9 (fQ k) λ(x:List UInt8×Int)=>
    l7 (C9 x.2 3)
     (l9 (dI a 4) λ(x_2:List UInt8)=>
       l9 (P5 x_2 [32]) λ(x_3:List UInt8)=>
        l9 (P5 x_3 x.1) λ(x_4:List UInt8)=>
         l9 (P5 x_4 [32]) λ(x_5:List UInt8)=>
           l9 (dI b (F9 IntKind.i64 x.2 1)) λ(x_7:List UInt8)=>
            l9 (P5 x_5 x_7) λ(x_8:List UInt8)=>some ((x_8,x.2,false),0))
     (l9 (dI a x.2) λ(x_2:List UInt8)=>
       l9 (P5 x_2 [32]) λ(x_3:List UInt8)=>
        l9 (P5 x_3 x.1) λ(x_4:List UInt8)=>
         l9 (P5 x_4 [32]) λ(x_5:List UInt8)=>
           l9 (dI b (F9 IntKind.i64 x.2 1)) λ(x_7:List UInt8)=>
            l9 (P5 x_5 x_7) λ(x_8:List UInt8)=>some ((x_8,x.2,false),0)):=by
  rcases hk with rfl|rfl|rfl|rfl|rfl|rfl|rfl|rfl|rfl<;>rfl
 have hf:Y4 (k,0) N=some 0:=by rcases hk with rfl|rfl|rfl|rfl|rfl|rfl|rfl|rfl|rfl<;>rfl
 have hn:Jf k=false:=by rcases hk with rfl|rfl|rfl|rfl|rfl|rfl|rfl|rfl|rfl<;>rfl
 have hb:a1H k=false/\a5N k=false:=by rcases hk with rfl|rfl|rfl|rfl|rfl|rfl|rfl|rfl|rfl<;>exact⟨rfl,rfl⟩
 refine V_ _ hf ?_;rw[hx,a6f,o9];unfold Rn;simp only[hb.1,hb.2,hn,o6,kV (show b7W ((EF k).2+1) by unfold b7W;omega)];rw[DD a 4 o5,DD a _ o5,DD b _ o5];simp only[o9];cases C9 (EF k).2 3
 .simp only[o6];rw[L6 H7,o9,L6 H7,o9,L6 H7,o9,L6 H7,o9];rfl
 .simp only[o7];rw[L6 H7,o9,L6 H7,o9,L6 H7,o9,L6 H7,o9];rfl
theorem S_(ha:arF k=2)(hu:m=0\/aW k=some true)(a b:G8)(h1:a.1.length<=1000000)(h2:b.1.length<=1000000):Ba (k,m) [a,b] N (Rn (k,m) (a.1,a.2.1) (b.1,b.2.1)):=by
 have hz:¬(k=14\/k=15\/k=16)->m=0:=by
  intro h;rcases hu with h1|h1
  .exact h1
  .exfalso;rcases ar2 ha with rfl|rfl|rfl|rfl|rfl|rfl|rfl|rfl|rfl|rfl|rfl|rfl|rfl|rfl|rfl|rfl|rfl|rfl<;>first|omega|exact absurd h1 I5
 by_cases h:k=14\/k=15\/k=16
 .exact YQ h a b o5 o5
 rw[hz h];by_cases h' :k=17\/k=18\/k=27\/k=28\/k=29\/k=30
 .exact YP h' a b o5 o5
 .exact YO (by have:=ar2 ha;omega) a b h1 h2
theorem T_(hu:m=0\/aW 26=some true)(a b c:G8)(h1:a.1.length<=1000000)(h2:b.1.length<=1000000)(h3:c.1.length<=1000000):Ba (26,m) [a,b,c] N (ifX (a.1,a.2.1) (b.1,b.2.1) (c.1,c.2.1)):=by
 have hz:m=0:=by
  rcases hu with h1|h1
  .exact h1
  .exact absurd h1 I5
 rw[hz];refine⟨0,rfl,?_⟩;unfold U9 ifX;simp (disch:=decide) only[bH,U8,o7,o6,o9,lx0,lx1,lx2];rw[L6 H7,o9,L6 H7,o9,L6 H7,o9,L6 H7,o9,L6 H7,o9,o9,lV];rfl
def flS(n:Int×Int)(N:F5):Int:=(Y4 n N).getD 0
theorem Uw{c:Int}(h:Y4 n N=some c):flS n N=c:=by unfold flS;rw[h];rfl
theorem a0h(h:0<=arF k):aW k=some true\/aW k=some false:=by
 rcases arN k with h1|h1
 .obtain⟨j,rfl⟩:=Qo h1;revert h;revert j;decide
 .omega
theorem a6J(ha:0<=arF k)(hm:m≠0)(hu:aW k=some false):Y4 (k,m) N=some 2:=by
 have h3:arF k=0\/arF k=1\/arF k=2\/arF k=3:=by have:=(CU k).2.2;omega
 have key:Y4 (k,m) N=l7 (G5 (C9 m 0)) (some 2) (some 0)->Y4 (k,m) N=some 2:=by intro h;rw[h,U8 hm];rfl
 rcases h3 with h|h|h|h
 .rcases ar0 h with rfl|rfl|rfl|rfl|rfl|rfl|rfl|rfl|rfl|rfl|rfl|rfl|rfl|rfl<;>first|exact absurd hu I5|exact key rfl
 .rcases ar1 h with rfl|rfl|rfl|rfl|rfl|rfl<;>first|exact absurd hu I5|exact key rfl
 .rcases ar2 h with rfl|rfl|rfl|rfl|rfl|rfl|rfl|rfl|rfl|rfl|rfl|rfl|rfl|rfl|rfl|rfl|rfl|rfl<;>first|exact absurd hu I5|exact key rfl
 .have:=ar3 h;subst this;exact key rfl
def fmF(a0:List (Int×Int))(a1:F5)(x:List G8×Int):Option (Out (List G8×Int) (List G8) (List UInt8×Int)):=
     l7 (H9 x.2 (o8 a0))
      (l9 (J9 a0 x.2) λ(x_1:Int×Int)=>
       l7 (G5 (C9 x_1.2 0))
        (l9 (aW x_1.1) λ(x_2:Bool)=>
         l7 (G5 x_2) (some (Out.rt ([],2)))
          (l9 (jA x_1.1) λ(x_3:Int)=>
           l7 (jO (O5 IntKind.i64 (o8 x.1) x_3) (o8 x.1) (o8 x.1))
            (l9
             (U9 x_1 (iO x.1 (aV (O5 IntKind.i64 (o8 x.1) x_3)) (aV (o8 x.1))) a1)
             λ(x_4:G8×Int)=>
             l7 (G5 (C9 x_4.2 0)) (some (Out.rt ([],x_4.2)))
              (l7 (jO 0 (O5 IntKind.i64 (o8 x.1) x_3) (o8 x.1))
               (l9 (bF (iO x.1 (aV 0) (aV (O5 IntKind.i64 (o8 x.1) x_3))) [x_4.1])
                λ(x_5:List G8)=>some (Out.nx (x_5,F9 IntKind.i64 x.2 1)))
               none))
            none))
        (l9 (jA x_1.1) λ(x_2:Int)=>
         l7 (jO (O5 IntKind.i64 (o8 x.1) x_2) (o8 x.1) (o8 x.1))
          (l9 (U9 x_1 (iO x.1 (aV (O5 IntKind.i64 (o8 x.1) x_2)) (aV (o8 x.1))) a1)
           λ(x_3:G8×Int)=>
           l7 (G5 (C9 x_3.2 0)) (some (Out.rt ([],x_3.2)))
            (l7 (jO 0 (O5 IntKind.i64 (o8 x.1) x_2) (o8 x.1))
             (l9 (bF (iO x.1 (aV 0) (aV (O5 IntKind.i64 (o8 x.1) x_2))) [x_3.1])
              λ(x_4:List G8)=>some (Out.nx (x_4,F9 IntKind.i64 x.2 1)))
             none))
          none))
      (some (Out.ex x.1))
def fmG(N:F5)(n:Int×Int)(p:List G8)(x:Tx)(i:Nat):Option (Out (List G8×Int) (List G8) (List UInt8×Int)):=
 some (l7 (C9 (flS n N) 0) (.nx (p++[(x.1,x.2,Jf n.1)],((i+1:Nat):Int))) (.rt ([],flS n N)))
variable {e:List (Int×Int)}{x:Tx}
theorem a5d{i:Nat}{p args:List G8}(hn:e[i]? =some n)(hi:i<=1000)(hp:p.length<=1000)(hl:args.length<=3)(ha:arF n.1=(args.length:Int))
  (hr:(n.2=0\/aW n.1=some true)->Ba n args N x):fmF e N (p++args,(i:Int))=fmG N n p x i:=by
 have hx:O5 .i64 (o8 (p++args)) (arF n.1)=(p.length:Int):=by rw[jY (by unfold b7W o8;simp;omega),ha];unfold o8;simp
 have r1:jO (p.length:Int) (o8 (p++args)) (o8 (p++args))=true:=by unfold jO o8;simp<;>omega
 have r2:jO 0 (p.length:Int) (o8 (p++args))=true:=by unfold jO o8;simp<;>omega
 have v1:iO (p++args) (aV (p.length:Int)) (aV (o8 (p++args)))=args:=by unfold iO aV o8;rw[ax,ax,P7 (E5 _),List.drop_left]
 have v2:iO (p++args) (aV 0) (aV (p.length:Int))=p:=by unfold iO aV;rw[ax,List.take_left];rfl
 have main:(n.2=0\/aW n.1=some true)->(l9 (jA n.1) λ(x_2:Int)=>
         l7 (jO (O5 IntKind.i64 (o8 (p++args)) x_2) (o8 (p++args)) (o8 (p++args)))
          (l9 (U9 n (iO (p++args) (aV (O5 IntKind.i64 (o8 (p++args)) x_2)) (aV (o8 (p++args)))) N)
           λ(x_3:G8×Int)=>
           l7 (G5 (C9 x_3.2 0)) (some (Out.rt ([],x_3.2)))
            (l7 (jO 0 (O5 IntKind.i64 (o8 (p++args)) x_2) (o8 (p++args)))
             (l9 (bF (iO (p++args) (aV 0) (aV (O5 IntKind.i64 (o8 (p++args)) x_2))) [x_3.1])
              λ(x_4:List G8)=>some (Out.nx (x_4,F9 IntKind.i64 (i:Int) 1)))
             none))
          none)=fmG N n p x i:=by
  intro hu;obtain⟨c,h1,h2⟩:=hr hu;rw[a1E,o9,hx,r1,o7,v1,h2,o9,r2,v2];unfold fmG;rw[Uw h1];cases hc:C9 c 0
  .rw[o6];simp only[hc,ae,o7];rfl
  .rw[o7];simp only[bH (rfl:(0:Int)=0),O7,o6,o7];rw[pU _ o5,o9,bY o5]
 unfold fmF;simp only[O0 hn,o7,J3,hn,o9];by_cases h0:n.2=0
 .rw[bH h0,O7,o6];exact main (.inl h0)
 .rw[U8 h0,ae,o7];rcases a0h (k:=n.1) o5 with hu|hu
  .rw[hu,o9,O7,o6];exact main (.inr hu)
  .rw[hu,o9,ae,o7];unfold fmG;rw[Uw (a6J (k:=n.1) (m:=n.2) o5 h0 hu)];rfl
def ffS(N:F5):List (Int×Int)->Int
 |[]=>0|n::l=>l7 (C9 (flS n N) 0) (ffS N l) (flS n N)
theorem IR(N:F5):∀a b,ffS N (a++b)=l7 (C9 (ffS N a) 0) (ffS N b) (ffS N a)
 |[],b=>by rw[show ffS N []=0 from rfl,bH rfl];rfl|n::a,b=>by
  show l7 (C9 (flS n N) 0) (ffS N (a++b)) (flS n N)=l7 (C9 (l7 (C9 (flS n N) 0) (ffS N a) (flS n N)) 0) (ffS N b) (l7 (C9 (flS n N) 0) (ffS N a) (flS n N));rw[IR N a b];cases h:C9 (flS n N) 0
  .simp only[o6,h]
  .simp only[o7]
theorem a2h(hN:NmOk N)(hI:b7W n.2):(wS n N).1.length<=3000:=by
 unfold wS;have hw:=sZ n.1;have g1:=IV hN.i n.2;have g2:=IV hN.d n.2;have g3:=IV hN.m n.2;have hv:((qG (n.1,0,n.2) []).getD ([],0)).1.length<=100:=by obtain⟨t,ht,hl⟩:=zh (B:=100) o5 o5 (v:=(n.1,0,n.2)) (en:=[]) hI (λe h=>by cases h);rw[←zg [] hI,ht];exact hl
 have he:((J9 N.1 (jb .i64 n.2 16)).getD ([],[])).1.length<=1000/\(gtN ((J9 N.1 (jb .i64 n.2 16)).getD ([],[])).2 (pO n.2 16)).length<=1000:=by
  cases hx:J9 N.1 (jb .i64 n.2 16)with
  |none=>exact⟨A8,IV (B:=1000) (λs h=>by cases h) _⟩|some e=>have:=hN.e e (pV hx).2.2.1;exact⟨this.1,IV this.2 _⟩
 cases U3 n.1 5
 case true=>simp only[o7];omega
 cases C9 n.1 6
 case true=>simp only[o7,o6];simp;omega
 cases C9 n.1 7
 case true=>simp only[o7,o6];omega
 cases C9 n.1 8
 case true=>simp only[o7,o6];omega
 cases C9 n.1 9
 case true=>simp[l7]
 cases C9 n.1 35
 case true=>simp[l7]
 .simp only[o6];simp;omega
theorem a5s(hN:NmOk N)(b:Bool)(a:Tx):(LH n N b a).1.length<=a.1.length+3000:=by
 unfold LH;have hw:=sZ n.1;have hm:=JQ (pO n.2 8);have g1:=IV hN.t n.2;have g2:=IV hN.t (jb .i64 n.2 8);have w:=Jt a 6;cases C9 n.1 33
 case true=>simp only[o7];simp;omega
 cases C9 n.1 34
 case true=>simp only[o7,o6];simp;omega
 cases C9 n.1 25
 case true=>simp only[o7,o6];simp;omega
 cases C9 n.1 10
 case true=>simp only[o7,o6];cases b<;>simp<;>omega
 .simp only[o6];simp;omega
theorem a6o(a b:Tx):(Rn n a b).1.length<=a.1.length+b.1.length+3000:=by
 unfold Rn;have hw:=sZ n.1;have hm:=JQ n.2;have hs:=a0e n.1;have w1:=Jt a (l7 (C9 (EF n.1).2 3) 4 (EF n.1).2);have w2:=Jt b ((EF n.1).2+1);cases a1H n.1
 case true=>simp only[o7];simp;omega
 cases a5N n.1
 case true=>simp only[o7,o6];simp;omega
 .simp only[o6];simp;omega
theorem yw{N:F5}(hN:NmOk N):∀(t:XT),(∀n∈t.post,b7W n.2)->(b7X N t).1.length<=3000*t.size
 | .l0 n,h=>a2h hN (h n (by simp[XT.post]))| .l1 n a,h=>by have h1:=yw hN a (λm hm=>h m (by simp[XT.post,hm]));have h2:=a5s (n:=n) hN (Jf a.node.1) (b7X N a);simp only[b7X,XT.size];omega| .l2 n a b,h=>by have h1:=yw hN a (λm hm=>h m (by simp[XT.post,hm]));have h2:=yw hN b (λm hm=>h m (by simp[XT.post,hm]));have h3:=a6o (n:=n) (b7X N a) (b7X N b);simp only[b7X,XT.size];omega| .l3 n a b c,h=>by have h1:=yw hN a (λm hm=>h m (by simp[XT.post,hm]));have h2:=yw hN b (λm hm=>h m (by simp[XT.post,hm]));have h3:=yw hN c (λm hm=>h m (by simp[XT.post,hm]));simp only[b7X,XT.size,ifX];simp;omega
theorem Ej{σ ε ρ:Type}(f:σ->Option (Out σ ε ρ))(n:Nat)(s:σ):jG f (n+1) s=match f s with|some (.nx s')=>jG f n s'|some (.ex e)=>some (.inl e)|some (.rt r)=>some (.inr r)|none=>none:=by rw[jG]<;>rfl
theorem a5e(he:e.length<=48)(hN:NmOk N)(hI:∀n∈e,b7W n.2):∀(t:XT) (pre suf:List (Int×Int)) (p:List G8) (m:Nat),e=pre++t.post++suf->t.wf->p.length+t.size<=60->
  jG (fmF e N) (m+t.size) (p,(pre.length:Int))=l7 (C9 (ffS N t.post) 0) (jG (fmF e N) m (p++[pcT N t],((pre.length+t.size:Nat):Int))) (some (.inr ([],ffS N t.post))):=by
 have stepN:∀(n:Int×Int) (pre suf:List (Int×Int)) (p args:List G8) (x:Tx) (m:Nat),e=pre++[n]++suf->p.length<=60->args.length<=3->arF n.1=(args.length:Int)->((n.2=0\/aW n.1=some true)->Ba n args N x)->
   jG (fmF e N) (m+1) (p++args,(pre.length:Int))=l7 (C9 (flS n N) 0) (jG (fmF e N) m (p++[(x.1,x.2,Jf n.1)],((pre.length+1:Nat):Int))) (some (.inr ([],flS n N))):=by
  intro n pre suf p args x m h1 h2 h3 h4 h5;have hn:e[pre.length]? =some n:=by rw[h1,F6,I4 (E5 _),fZ];rfl
  have hlt:=(aC.1 hn).1;rw[Ej,a5d hn o5 o5 h3 h4 h5];unfold fmG;cases C9 (flS n N) 0<;>rfl
 intro t;induction t with
 |l0 n=>
  intro pre suf p m h hw hs;have hI1:=hI n (by rw[h];simp[XT.post]);have:=stepN n pre suf p [] (wS n N) m h o5 A8 hw (λhu=>Q_ hN hI1 hw hu);rw[E8]at this;rw[show(XT.l0 n).size=1 from rfl,this];unfold XT.post ffS ffS;cases hf:C9 (flS n N) 0
  .simp only[o6,hf]
  .simp only[o7,bH (rfl:(0:Int)=0)];rfl
 |l1 n a iha=>
  intro pre suf p m h hw hs;simp only[XT.post,XT.size]at h hs ⊢;have hI1:=hI n (by rw[h];simp);have hIa:∀n∈a.post,b7W n.2:=λq hq=>hI q (by rw[h];simp[hq]);have hl:=yw hN a hIa;rw[show m+(a.size+1)=(m+1)+a.size by omega,iha pre ([n]++suf) p (m+1) (by rw[h];simp) hw.2 o5,IR];cases hf:C9 (ffS N a.post) 0
  .simp only[o6,hf]
  have:=stepN n (pre++a.post) suf p [pcT N a] (LH n N (Jf a.node.1) (b7X N a)) m (by rw[h];simp) o5 A8 hw.1 (λhu=>R_ hN hI1 hw.1 hu (pcT N a) (by simp only[pcT];omega));rw[show(pre++a.post).length=pre.length+a.size by simp[XT.post_len]]at this;simp only[o7];rw[this];unfold ffS ffS;cases hg:C9 (flS n N) 0
  .simp only[o6,hg]
  .simp only[o7,bH (rfl:(0:Int)=0)];rfl
 |l2 n a b iha ihb=>
  intro pre suf p m h hw hs;simp only[XT.post,XT.size]at h hs ⊢;have hI1:=hI n (by rw[h];simp);have hIa:∀n∈a.post,b7W n.2:=λq hq=>hI q (by rw[h];simp[hq]);have hIb:∀n∈b.post,b7W n.2:=λq hq=>hI q (by rw[h];simp[hq]);have hla:=yw hN a hIa;have hlb:=yw hN b hIb;have s1:=a.size_pos;have s2:=b.size_pos;rw[show m+(a.size+b.size+1)=(m+1+b.size)+a.size by omega,iha pre (b.post++[n]++suf) p (m+1+b.size) (by rw[h];simp) hw.2.1 o5,IR,IR];cases hf:C9 (ffS N a.post) 0
  .simp only[o6,hf]
  have i2:=ihb (pre++a.post) ([n]++suf) (p++[pcT N a]) (m+1) (by rw[h];simp) hw.2.2 H7;rw[show(pre++a.post).length=pre.length+a.size by simp[XT.post_len]]at i2;simp only[o7];rw[i2];cases hf2:C9 (ffS N b.post) 0
  .simp only[o6,hf2]
  have:=stepN n (pre++a.post++b.post) suf p [pcT N a,pcT N b] (Rn n (b7X N a) (b7X N b)) m (by rw[h];simp) o5 A8 hw.1 (λhu=>S_ hw.1 hu (pcT N a) (pcT N b) (by simp only[pcT];omega) (by simp only[pcT];omega));rw[show(pre++a.post++b.post).length=pre.length+a.size+b.size by simp[XT.post_len];omega,show pre.length+a.size+b.size+1=pre.length+(a.size+b.size+1) by omega]at this;simp only[o7];rw[show p++[pcT N a]++[pcT N b]=p++[pcT N a,pcT N b] by simp,this];unfold ffS ffS;cases hg:C9 (flS n N) 0
  .simp only[o6,hg]
  .simp only[o7,bH (rfl:(0:Int)=0)];rfl
 |l3 n a b c iha ihb ihc=>
  intro pre suf p m h hw hs;simp only[XT.post,XT.size]at h hs ⊢;have hI1:=hI n (by rw[h];simp);have hIa:∀n∈a.post,b7W n.2:=λq hq=>hI q (by rw[h];simp[hq]);have hIb:∀n∈b.post,b7W n.2:=λq hq=>hI q (by rw[h];simp[hq]);have hIc:∀n∈c.post,b7W n.2:=λq hq=>hI q (by rw[h];simp[hq]);have hla:=yw hN a hIa;have hlb:=yw hN b hIb;have hlc:=yw hN c hIc;have s1:=a.size_pos;have s2:=b.size_pos;have s3:=c.size_pos;have h26:=ar3 hw.1;rw[show m+(a.size+b.size+c.size+1)=(m+1+c.size+b.size)+a.size by omega,iha pre (b.post++c.post++[n]++suf) p (m+1+c.size+b.size) (by rw[h];simp) hw.2.1 o5,IR,IR,IR];cases hf:C9 (ffS N a.post) 0
  .simp only[o6,hf]
  have i2:=ihb (pre++a.post) (c.post++[n]++suf) (p++[pcT N a]) (m+1+c.size) (by rw[h];simp) hw.2.2.1 H7;rw[show(pre++a.post).length=pre.length+a.size by simp[XT.post_len]]at i2;simp only[o7];rw[i2];cases hf2:C9 (ffS N b.post) 0
  .simp only[o6,hf2]
  have i3:=ihc (pre++a.post++b.post) ([n]++suf) (p++[pcT N a]++[pcT N b]) (m+1) (by rw[h];simp) hw.2.2.2 H7;rw[show(pre++a.post++b.post).length=pre.length+a.size+b.size by simp[XT.post_len];omega]at i3;simp only[o7];rw[i3];cases hf3:C9 (ffS N c.post) 0
  .simp only[o6,hf3]
  have:=stepN n (pre++a.post++b.post++c.post) suf p [pcT N a,pcT N b,pcT N c] (ifX (b7X N a) (b7X N b) (b7X N c)) m (by rw[h];simp) o5 A8 hw.1 (λhu=>by obtain⟨k,v⟩:=n;simp only at h26 hu;subst h26;exact T_ hu (pcT N a) (pcT N b) (pcT N c) (by simp only[pcT];omega) (by simp only[pcT];omega) (by simp only[pcT];omega))
  rw[show(pre++a.post++b.post++c.post).length=pre.length+a.size+b.size+c.size by simp[XT.post_len];omega,show pre.length+a.size+b.size+c.size+1=pre.length+(a.size+b.size+c.size+1) by omega]at this;simp only[o7];rw[show p++[pcT N a]++[pcT N b]++[pcT N c]=p++[pcT N a,pcT N b,pcT N c] by simp,this];unfold ffS ffS;cases hg:C9 (flS n N) 0
  .simp only[o6,hg]
  .simp only[o7,bH (rfl:(0:Int)=0)];rfl
def Wi(e:List (Int×Int))(N:F5):List UInt8×Int:=match lG e with
 | .inl x=>([],x.2)| .inr t=>l7 (C9 (ffS N e) 0) ((b7X N t).1,0) ([],ffS N e)
theorem a2a(hN:NmOk N)(hI:∀n∈e,b7W n.2):lL e N=some (Wi e N):=by
 unfold lL Bv Wi;rw[KN];unfold uj;cases h:lG e with
 |inl x=>simp only[o9,U8 (Gz h)];rfl|inr t=>
  obtain⟨h1,h2,h3,h4⟩:=VM h;obtain⟨hp,-⟩:=yQ h;simp only[o9,bH (rfl:(0:Int)=0),O7,o6];have hl:U7 (fmF e N) ([],0)=some (l7 (C9 (ffS N e) 0) (.inl [pcT N t]) (.inr ([],ffS N e))):=by
   unfold U7;rw[show jq=(jq -t.size)+t.size by unfold jq;omega];have:=a5e h2 hN hI t [] [] [] (jq -t.size) (by simp[←hp]) (MK h) H7;rw[show(([]:List (Int×Int)).length:Int)=0 from rfl]at this;rw[this,←hp];cases C9 (ffS N e) 0
   .rfl
   .simp only[o7];rw[show jq -t.size=(jq -t.size -1)+1 by unfold jq;omega];rw[Ej];unfold fmF;simp only[J7,cu];rw[←h3,show H9 ((e.length:Nat):Int) (o8 e)=false from N9 e];rfl
  refine X8 hl ?_;rw[o9];cases C9 (ffS N e) 0<;>rfl
abbrev b8L:Type:=List (Int×Int)×F5
theorem b8g(n:Nat)(p:b8L)(i:Int):(J5 (n+1)).1 p i=Dw (J5 n).1 (J5 n).2.1 (J5 n).2.2 p i:=rfl
theorem b8U(n:Nat)(p:b8L)(x:Int×Int)(l:List Int):(J5 (n+1)).2.1 p x l=yY (J5 n).1 (J5 n).2.1 (J5 n).2.2 p x l:=rfl
theorem b8V(n:Nat)(p:b8L)(i c:Int):(J5 (n+1)).2.2 p i c=Be (J5 n).1 (J5 n).2.1 (J5 n).2.2 p i c:=rfl
theorem b7Z{n:Nat}{p:b8L}(c:Int)(h:(J5 n).1 p i=some (x.1,x.2,p))(hl:x.1.length<=1000000):(J5 (n+1)).2.2 p i c=some (wiS x c,p):=by rw[b8V];unfold Be wiS;rw[h,o9,L6 H7,o9,L6 H7,o9];cases H9 x.2 c<;>rfl
theorem b8R(k:Int):0<=(EF k).2:=by
 unfold EF oI;simp only[rO];repeat' split
 all_goals simp
theorem b8E(n:Int×Int)(N:F5):0<=(wS n N).2:=by
 unfold wS;simp only[rO];repeat' split
 all_goals simp
theorem b8O(n:Int×Int)(N:F5)(b:Bool)(a:Tx):0<=(LH n N b a).2:=by
 unfold LH;simp only[rO];repeat' split
 all_goals simp
theorem b8j(N:F5)(t:XT):0<=(b7X N t).2:=by
 cases t with
 |l0 n=>exact b8E n N|l1 n a=>exact b8O _ _ _ _|l2 n a b=>have:=b8R n.1;unfold b7X Rn;cases a1H n.1<;>cases a5N n.1<;>simp[l7]<;>exact this|l3 n a b c=>simp[b7X,ifX]
theorem wi0(h:0<=x.2):wiS x 0=x.1:=by unfold wiS;rw[dV h];rfl
theorem b8u(h:0<=m/\m<=5):AL m=some (Dp m):=by obtain⟨k,rfl⟩:∃k:Fin 6,m=(k.val:Int):=⟨⟨m.toNat,o5⟩,by simp;omega⟩;revert k;decide
def b8s(b:List UInt8×Nat)(a:List UInt8):List UInt8×Nat:=(l7 (H9 0 (b.2:Int)) (b.1++[44,32]++a) (b.1++a),b.2+1)
def b8e(l:List (List UInt8)):List UInt8:=(l.foldl b8s ([],0)).1
theorem b8N(hl:l.length<=10)(hb:∀s∈l,s.length<=1000000){f:List UInt8×Int->Option ((List UInt8×Int)⊕List UInt8)}
  (hf:∀(t:List UInt8) (i:Nat) (a:List UInt8),l[i]? =some a->f (t,(i:Int))=l7 (H9 0 (i:Int)) (l9 (P5 t [44,32]) λx=>l9 (P5 x a) λx=>some (.inl (x,((i+1:Nat):Int)))) (l9 (P5 t a) λx=>some (.inl (x,((i+1:Nat):Int)))))
  (he:∀t,f (t,(l.length:Int))=some (.inr t)):aS f ([],0)=some (b8e l):=by
 have:=(Ei l b8s (λb i=>(b.1,i)) (λb=>b.1) (λi b=>b.2=i/\b.1.length<=i*1000010) (f:=f) (b:=([],0)) o5 ⟨rfl,A8⟩ (λi a b hx hi hI=>?_) (λb hI=>he b.1)).1
 .exact this
 .have ha:=hb a (oC hx);have hlt:=(aC.1 hx).1;obtain⟨h1,h2⟩:=hI;rw[hf b.1 i a hx];unfold b8s;rw[h1];cases H9 0 (i:Int)
  .rw[o6,o6,L6 o5,o9];exact⟨rfl,rfl,by simp;omega⟩
  .rw[o7,o7,L6 H7,o9,L6 H7,o9];exact⟨rfl,rfl,by simp;omega⟩
def b8k(n:Int×Int)(N:F5)(l:List (List UInt8)):List (List UInt8):=
 let a:=l7 (C9 n.1 34) [gtN N.2.1 (jb .i64 n.2 8)] [];let b:=l7 (C9 n.1 33) (a++[gtN N.2.1 n.2]) (l7 (U3 36 n.1) (a++[gtN N.2.2.2.2 n.2]) a);let c:=b++l;let d:=l7 (a5N n.1) (c++[Dp n.2]) c
 l7 (C9 n.1 34) (d++[Dp (pO n.2 8)]) d
structure Ref11 (n:Int×Int) (N:F5):Prop where
 b:n.1=34->J9 N.2.1 (jb .i64 n.2 8)=some (gtN N.2.1 (jb .i64 n.2 8))/\0<=pO n.2 8/\pO n.2 8<=5
 t:n.1=33->J9 N.2.1 n.2=some (gtN N.2.1 n.2)
 m:36<=n.1->J9 N.2.2.2.2 n.2=some (gtN N.2.2.2.2 n.2)
 r:a5N n.1=true->0<=n.2/\n.2<=5
theorem b8z{k:Nat}{ops:List Int}{ts:List (List UInt8)}(hr:Ref11 n N)(hN:NmOk N)(hlen:ops.length=ts.length)(h3:ts.length<=3)(hts:∀s∈ts,s.length<=1000000)
  (hc:∀(i:Nat) (o:Int) (s:List UInt8),ops[i]? =some o->ts[i]? =some s->(J5 k).2.2 (e,N) o 0=some (s,(e,N))):(J5 (k+1)).2.1 (e,N) n ops=some (b8e (b8k n N ts),(e,N)):=by
 rw[b8U];unfold yY b8k;have s1:(l7 (C9 n.1 34) (l9 (J9 N.2.1 (jb IntKind.i64 n.2 8)) λ(x:List UInt8)=>l9 (bF [] [x]) λ(x:List (List UInt8))=>some x) (some []))=some (l7 (C9 n.1 34) [gtN N.2.1 (jb .i64 n.2 8)] []):=by
  cases h:C9 n.1 34
  .rfl
  .rw[(hr.b (jC.1 h)).1];rfl
 refine X8 s1 ?_;rw[o9];generalize hA:l7 (C9 n.1 34) [gtN N.2.1 (jb .i64 n.2 8)] []=A;have lA:A.length<=1:=by rw[←hA];cases C9 n.1 34<;>simp
 have mA:∀s∈A,s.length<=1000:=by
  rw[←hA];cases C9 n.1 34
  .intro s hs;cases hs
  .intro s hs;simp at hs;rw[hs];exact IV hN.t _
 have s2:(l7 (C9 n.1 33)
    (l9 (yM n N) λ(x_1:List (List UInt8))=>
     l9 (J9 x_1 n.2) λ(x_2:List UInt8)=>l9 (bF A [x_2]) λ(x:List (List UInt8))=>some x)
    (l7 (U3 36 n.1)
     (l9 (yM n N) λ(x_1:List (List UInt8))=>
      l9 (J9 x_1 n.2) λ(x_2:List UInt8)=>l9 (bF A [x_2]) λ(x:List (List UInt8))=>some x)
     (some A)))=some (l7 (C9 n.1 33) (A++[gtN N.2.1 n.2]) (l7 (U3 36 n.1) (A++[gtN N.2.2.2.2 n.2]) A)):=by
  unfold yM;by_cases h:n.1=33
  .rw[bH h,o7,o7];simp only[U8 (show n.1≠7 by omega),U8 (show n.1≠8 by omega),bH h,o7,o6,o9,hr.t h];rw[pU _ o5];rfl
  .rw[U8 h,o6,o6];by_cases h2:36<=n.1
   .rw[bT h2,o7,o7];simp only[U8 (show n.1≠7 by omega),U8 (show n.1≠8 by omega),U8 h,o6,o9,hr.m h2];rw[pU _ o5];rfl
   .rw[eQ o5];rfl
 refine X8 s2 ?_;rw[o9];generalize hB:l7 (C9 n.1 33) (A++[gtN N.2.1 n.2]) (l7 (U3 36 n.1) (A++[gtN N.2.2.2.2 n.2]) A)=B;have lB:B.length<=2:=by rw[←hB];cases C9 n.1 33<;>cases U3 36 n.1<;>simp[l7]<;>omega
 have mB:∀s∈B,s.length<=1000:=by
  rw[←hB];intro s hs;cases h:C9 n.1 33
  .rw[h]at hs;cases h2:U3 36 n.1
   .rw[h2]at hs;exact mA s hs
   .rw[h2]at hs;simp[l7]at hs;rcases hs with hs|hs
    .exact mA s hs
    .rw[hs];exact IV hN.m _
  .rw[h]at hs;simp[l7]at hs;rcases hs with hs|hs
   .exact mA s hs
   .rw[hs];exact IV hN.t _
 have s3:aS (λ(x:I7×List (List UInt8)×Int)=>
     l7 (H9 x.2.2 (o8 ops))
      (l9 (J9 ops x.2.2) λ(x_1:Int)=>
       l9 ((J5 k).2.2 x.1 x_1 0) λ(x_2:List UInt8×I7)=>
        l9 (bF x.2.1 [x_2.1]) λ(x_3:List (List UInt8))=>
         some (Sum.inl (x_2.2,x_3,F9 IntKind.i64 x.2.2 1)))
      (some (Sum.inr (x.1,x.2.1))))
    ((e,N),B,0)=some ((e,N),B++ts):=by
  have:=(Ei ts (λ(b:List (List UInt8)) a=>b++[a]) (λb i=>((((e,N):I7),b,i):I7×List (List UInt8)×Int)) (λb=>(((e,N):I7),b)) (λi b=>b.length<=2+i) (b:=B) (f:=λ(x:I7×List (List UInt8)×Int)=>
     l7 (H9 x.2.2 (o8 ops))
      (l9 (J9 ops x.2.2) λ(x_1:Int)=>
       l9 ((J5 k).2.2 x.1 x_1 0) λ(x_2:List UInt8×I7)=>
        l9 (bF x.2.1 [x_2.1]) λ(x_3:List (List UInt8))=>
         some (Sum.inl (x_2.2,x_3,F9 IntKind.i64 x.2.2 1)))
      (some (Sum.inr (x.1,x.2.1)))) o5 o5 (λi a b hx hi hI=>?_) (λb hI=>?_)).1
  .rw[this];congr 2;have:∀(l B:List (List UInt8)),l.foldl (λ(b:List (List UInt8)) a=>b++[a]) B=B++l:=by
    intro l;induction l with
    |nil=>intro B;simp|cons a l ih=>intro B;rw[X3,ih];simp
   rw[this]
  .have hlt:=(aC.1 hx).1;have ho:ops[i]? =some ops[i]:=lM o5;simp only[O0 ho,o7,J3,ho,o9,hc i _ _ ho hx];rw[pU _ o5,o9,bY o5];exact⟨rfl,by simp;omega⟩
  .simp only;rw[show H9 ((ts.length:Nat):Int) (o8 ops)=false by rw[←hlen];exact N9 ops];rfl
 refine X8 s3 ?_;rw[o9];have s4:∀(y:I7×List (List UInt8)),y.2.length<=10->(l7 (C9 n.1 14)
     (l9 (AL n.2) λ(x:List UInt8)=>l9 (bF y.2 [x]) λ(x:List (List UInt8))=>some x)
     (l7 (C9 n.1 15)
      (l9 (AL n.2) λ(x:List UInt8)=>l9 (bF y.2 [x]) λ(x:List (List UInt8))=>some x)
      (l7 (C9 n.1 16)
       (l9 (AL n.2) λ(x:List UInt8)=>
        l9 (bF y.2 [x]) λ(x:List (List UInt8))=>some x)
       (some y.2))))=some (l7 (a5N n.1) (y.2++[Dp n.2]) y.2):=by
  intro y hy;cases h:a5N n.1
  .unfold a5N at h;cases h1:C9 n.1 14<;>cases h2:C9 n.1 15<;>cases h3:C9 n.1 16<;>simp only[h1,h2,h3,o7,o6]at h<;>first|exact absurd h I5|rfl
  .rw[b8u (hr.r h)];simp only[o9];rw[pU _ o5,o9];unfold a5N at h;cases h1:C9 n.1 14<;>cases h2:C9 n.1 15<;>cases h3:C9 n.1 16<;>simp only[h1,h2,h3,o7,o6]at h<;>first|exact absurd h I5|rfl
 refine X8 (s4 ((e,N),B++ts) H7) ?_;rw[o9];simp only;generalize hD:l7 (a5N n.1) (B++ts++[Dp n.2]) (B++ts)=D;have lD:D.length<=6:=by rw[←hD];cases a5N n.1<;>simp[l7]<;>omega
 have mD:∀s∈D,s.length<=1000000:=by
  rw[←hD];intro s hs;have hm:=JQ n.2;cases h:a5N n.1
  .rw[h]at hs;simp[l7]at hs;rcases hs with hs|hs
   .have:=mB s hs;omega
   .exact hts s hs
  .rw[h]at hs;simp[l7]at hs;rcases hs with hs|hs|hs
   .have:=mB s hs;omega
   .exact hts s hs
   .rw[hs];omega
 have jn:∀(l:List (List UInt8)),l.length<=10->(∀s∈l,s.length<=1000000)->aS (λ(x_2:List UInt8×Int)=>
          l7 (H9 x_2.2 (o8 l))
           (l7 (H9 0 x_2.2)
            (l9 (P5 x_2.1 [44,32]) λ(x_3:List UInt8)=>
             l9 (J9 l x_2.2) λ(x_4:List UInt8)=>
              l9 (dM l (aV x_2.2)) λ(x:List UInt8)=>
               l9 (P5 x_3 x) λ(x:List UInt8)=>some (Sum.inl (x,F9 IntKind.i64 x_2.2 1)))
            (l9 (J9 l x_2.2) λ(x_3:List UInt8)=>
             l9 (dM l (aV x_2.2)) λ(x:List UInt8)=>
              l9 (P5 x_2.1 x) λ(x:List UInt8)=>some (Sum.inl (x,F9 IntKind.i64 x_2.2 1))))
           (some (Sum.inr x_2.1)))
         ([],0)=some (b8e l):=by
  intro l hl hb;refine b8N hl hb (λt i a hx=>?_) (λt=>?_)
  .have hlt:=(aC.1 hx).1;simp only[O0 hx,o7,J3,dM,aV,ax,hx,o9];rw[bY o5]
  .simp only[N9 l,o6]
 cases h34:C9 n.1 34
 .simp only[o6];refine X8 (jn D o5 mD) ?_;rw[o9,hB,hD]
 .simp only[o7];rw[b8u (hr.b (jC.1 h34)).2,o9,pU _ o5,o9];have hm:=JQ (pO n.2 8);refine X8 (jn (D++[Dp (pO n.2 8)]) H7 (λs hs=>?_)) ?_
  .simp at hs;rcases hs with hs|hs
   .exact mD s hs
   .rw[hs];omega
  .rw[o9,hB,hD]
theorem b8l(hf:Y4 n N=l7 (H9 n.2 0) (some 6) (l7 (U3 (o8 l) n.2) (some 6) (some 0)))(h:flS n N=0):J9 l n.2=some (gtN l n.2):=by
 unfold flS at h;rw[hf]at h;by_cases h0:n.2<0
 .rw[fJ h0]at h;cases h
 by_cases h1:o8 l<=n.2
 .rw[dV o5,bT h1]at h;cases h
 exact(UB o5 o5).1
theorem b8M(hm:b7W m)(h:flS (34,m) N=0):J9 N.2.1 (jb .i64 m 8)=some (gtN N.2.1 (jb .i64 m 8))/\0<=pO m 8/\pO m 8<=5:=by
 have hf:Y4 (34,m) N=l7 (H9 m 0) (some 6) (l7 (U3 (o8 N.2.1) (jb .i64 m 8)) (some 6) (l7 (H9 5 (pO m 8)) (some 3) (some 0))):=rfl;unfold flS at h;rw[hf]at h;by_cases h0:m<0
 .rw[fJ h0]at h;cases h
 by_cases h1:o8 N.2.1<=jb .i64 m 8
 .rw[dV o5,bT h1]at h;cases h
 by_cases h2:5<pO m 8
 .rw[dV o5,eQ o5,fJ h2]at h;cases h
 have hq:jb .i64 m 8=m / 8:=by rw[L_ hm 8 (.inl rfl),oL o5]
 have hr0:pO m 8=m % 8:=FI o5;exact⟨(UB o5 o5).1,o5,o5⟩
theorem b8S(hk:k=14\/k=15\/k=16)(h:flS (k,m) N=0):0<=m/\m<=5:=by
 have hf:Y4 (k,m) N=l7 (H9 m 0) (some 3) (l7 (H9 5 m) (some 3) (some 0)):=by rcases hk with rfl|rfl|rfl<;>rfl
 unfold flS at h;rw[hf]at h;by_cases h0:m<0
 .rw[fJ h0]at h;cases h
 by_cases h2:5<m
 .rw[dV o5,fJ h2]at h;cases h
 omega
theorem b8J(hm:b7W n.2)(h:flS n N=0)(ha:0<=arF n.1):Ref11 n N:=by
 obtain⟨k,m⟩:=n;refine⟨λh1=>?_,λh1=>?_,λh1=>?_,λh1=>?_⟩
 .simp only at h1;subst h1;exact b8M hm h
 .simp only at h1;subst h1;exact b8l rfl h
 .rcases arN k with h2|h2
  .have:k=36\/k=37\/k=38\/k=39:=by simp only at h1;omega
   rcases this with rfl|rfl|rfl|rfl<;>exact b8l rfl h
  .simp only at ha;omega
 .refine b8S (k:=k) ?_ h;unfold a5N at h1;by_cases g1:k=14
  .exact .inl g1
  by_cases g2:k=15
  .exact .inr (.inl g2)
  rw[U8 g1,U8 g2,o6,o6]at h1;exact .inr (.inr (jC.1 h1))
theorem b8b{j:Nat}{ops:List Int}{ts:List (List UInt8)}(hx:J9 e i=some (k,m))(ho:Gf e i=some ops)(hm:b7W m)(hfl:flS (k,m) N=0)(ha:0<=arF k)(hN:NmOk N)
  (hk:oV (k,m)=some ((0,0,0),false)/\oI k=some ([],0)/\k≠6/\k≠7/\k≠8/\k≠9/\k≠10/\k≠25/\k≠26)
  (hlen:ops.length=ts.length) (h3:ts.length<=3) (hts:∀s∈ts,s.length<=1000000) (hj:(b8e (b8k (k,m) N ts)).length<=100000000)
  (hc:∀(a:Nat) (o:Int) (s:List UInt8),ops[a]? =some o->ts[a]? =some s->(J5 j).2.2 (e,N) o 0=some (s,(e,N))):
  (J5 (j+2)).1 (e,N) i=some (wz k++[40]++b8e (b8k (k,m) N ts)++[41],7,(e,N)):=by
 obtain⟨h1,h2,g6,g7,g8,g9,g10,g25,g26⟩:=hk;have hw:=sZ k;rw[b8g];unfold Dw;simp only[hx,ho,h1,h2,o9,o6,show seq ([]:List UInt8) []=true from rfl,O7,U8 g6,U8 g7,U8 g8,U8 g9,U8 g10,U8 g25,U8 g26,b0x];rw[L6 H7,o9,b8z (b8J hm hfl ha) hN hlen h3 hts hc,o9,L6 H7,o9,L6 H7,o9]
theorem b8r(a:List UInt8):b8e [a]=a:=by simp[b8e,b8s,H9,l7]
theorem b8x(a b:List UInt8):b8e [a,b]=a++[44,32]++b:=by simp[b8e,b8s,H9,l7]
theorem b8y(a b c:List UInt8):b8e [a,b,c]=a++[44,32]++b++[44,32]++c:=by simp[b8e,b8s,H9,l7]
end Go.GP
namespace Go.GP
open Gt
set_option maxRecDepth 100000
variable {α:Type}
theorem lg0(a:α)(l:List α):dM (a::l) (aV 0)=some a:=rfl
theorem lg1(a b:α)(l:List α):dM (a::b::l) (aV 1)=some b:=rfl
theorem lg2(a b c:α)(l:List α):dM (a::b::c::l) (aV 2)=some c:=rfl
theorem hc0{P:Nat->Int->List UInt8->Prop} :∀(a:Nat) (o:Int) (s:List UInt8),([]:List Int)[a]? =some o->([]:List (List UInt8))[a]? =some s->P a o s:=by intro a o s h;cases a<;>cases h
theorem hc1{x:Int}{y:List UInt8}{P:Int->List UInt8->Prop}(h0:P x y):∀(a:Nat) (o:Int) (s:List UInt8),[x][a]? =some o->[y][a]? =some s->P o s:=by
 intro a o s h1 h2;match a with
 |0=>cases h1;cases h2;exact h0|a+1=>simp at h1
theorem hc2{x x' :Int}{y y' :List UInt8}{P:Int->List UInt8->Prop}(h0:P x y)(h1:P x' y'):∀(a:Nat) (o:Int) (s:List UInt8),[x,x'][a]? =some o->[y,y'][a]? =some s->P o s:=by
 intro a o s g1 g2;match a with
 |0=>cases g1;cases g2;exact h0|1=>cases g1;cases g2;exact h1|a+2=>simp at g1
section
variable {e:List (Int×Int)} {N:F5} {T:XT} (hN:NmOk N) (hT:lG e= .inr T) (hI:∀n∈e,b7W n.2) (hz:∀n∈e,flS n N=0)
include hN hT hI hz
theorem b8G(n:Int×Int)(o k:Nat)(h:At e (T.sts 0) (.l0 n) o)(hw:(XT.l0 n).wf):(J5 (k+2)).1 (e,N) (rtI (.l0 n) o:Int)=some ((wS n N).1,(wS n N).2,(e,N)):=by
 have hr:=b8a h;have ho:=b8c hT h hw;have hx:J9 e ((rtI (.l0 n) o:Nat):Int)=some n:=by rw[J3];exact hr.1
 have hmem:=oC hr.1;have hi:=hI n hmem;have hf:=hz n hmem;rw[show b8C (.l0 n) o=[]from rfl]at ho;generalize ((rtI (.l0 n) o:Nat):Int)=i at hx ho;obtain⟨op,m⟩:=n;have ha:arF op=0:=hw;have lit:∀k:Nat,(op=1\/op=2\/op=3\/op=4\/op=5)->(J5 (k+2)).1 (e,N) i=some ((wS (op,m) N).1,(wS (op,m) N).2,(e,N)):=by intro k hk;obtain⟨t,ht,-⟩:=zh (B:=100) o5 o5 (v:=(op,0,m)) (en:=[]) hi (λe h=>by cases h);rw[zg [] hi]at ht;rw[b8g];unfold Dw oV wS;simp only[hx,ho,o9,bT (show(1:Int)<=op by omega),bT (show op<=(5:Int) by omega),o7,ht,aK];cases H9 m 0<;>rfl
 have lst:∀k:Nat,(op=36\/op=37\/op=38\/op=39)->(J5 (k+2)).1 (e,N) i=some ((wS (op,m) N).1,(wS (op,m) N).2,(e,N)):=by
  intro k hk;have e1:b8k (op,m) N []=[gtN N.2.2.2.2 m]:=by rcases hk with rfl|rfl|rfl|rfl<;>rfl
  have e2:wS (op,m) N=(wz op++[40]++gtN N.2.2.2.2 m++[41],7):=by rcases hk with rfl|rfl|rfl|rfl<;>rfl
  have:=b8b (j:=k) hx ho hi hf o5 hN (ops:=[]) (ts:=[]) (by rcases hk with rfl|rfl|rfl|rfl<;>exact⟨rfl,rfl,o5,o5,o5,o5,o5,o5,o5⟩) rfl A8 A8 (by rw[e1,b8r];have:=IV hN.m m;omega) hc0
  rw[this,e1,b8r,e2]
 rcases ar0 ha with rfl|rfl|rfl|rfl|rfl|rfl|rfl|rfl|rfl|rfl|rfl|rfl|rfl|rfl
 .exact lit k o5
 .exact lit k o5
 .exact lit k o5
 .exact lit k o5
 .exact lit k o5
 ·
  have hff:Y4 (6,m) N=(l7 (H9 m 0) (some 6)
    (l7 (U3 (o8 N.1) (jb .i64 m 16)) (some 6)
     (l9 (J9 N.1 (jb .i64 m 16)) λ(x:Z5)=>
      l7 (U3 (o8 x.2) (pO m 16)) (some 6) (some 0)))):=rfl
  unfold flS at hf;rw[hff]at hf;by_cases h0:m<0
  .rw[fJ h0]at hf;cases hf
  by_cases h1:o8 N.1<=jb .i64 m 16
  .rw[dV o5,bT h1]at hf;cases hf
  have hq:0<=jb .i64 m 16:=by rw[L_ hi 16 (.inr rfl),oL o5];omega
  have hr0:pO m 16=m % 16:=FI o5;obtain⟨en,he,hmem⟩:=uu (l:=N.1) hq o5;have hb:=hN.e en hmem;rw[dV o5,eQ o5,o6,o6,he,o9]at hf;by_cases h2:o8 en.2<=pO m 16
  .rw[bT h2]at hf;cases hf
  have hg:=UB (l:=en.2) (i:=pO m 16) o5 o5;have h3:=hb.2 _ hg.2;rw[b8g];unfold Dw wS;simp (disch:=decide) only[hx,ho,o9,show oV (6,m)=some ((0,0,0),false)from rfl,show oI 6=some ([],0)from rfl,o6,show seq ([]:List UInt8) []=true from rfl,O7,bH,eQ,o7,he,hg.1,aK];rw[L6 H7,o9,L6 H7,o9]
 .rw[b8g];unfold Dw wS yM;simp (disch:=decide) only[hx,ho,o9,show oV (7,m)=some ((0,0,0),false)from rfl,show oI 7=some ([],0)from rfl,o6,show seq ([]:List UInt8) []=true from rfl,O7,bH,U8,eQ,o7,b8l (n:=(7,m)) (l:=N.2.2.1) rfl hf]
 .rw[b8g];unfold Dw wS yM;simp (disch:=decide) only[hx,ho,o9,show oV (8,m)=some ((0,0,0),false)from rfl,show oI 8=some ([],0)from rfl,o6,show seq ([]:List UInt8) []=true from rfl,O7,bH,U8,eQ,o7,b8l (n:=(8,m)) (l:=N.2.2.2.1) rfl hf]
 .rw[b8g];unfold Dw wS;simp (disch:=decide) only[hx,ho,o9,show oV (9,m)=some ((0,0,0),false)from rfl,show oI 9=some ([],0)from rfl,o6,show seq ([]:List UInt8) []=true from rfl,O7,bH,U8,eQ,o7]
 .have:=b8b (j:=k) hx ho hi hf o5 hN (ops:=[]) (ts:=[]) ⟨rfl,rfl,o5,o5,o5,o5,o5,o5,o5⟩ rfl A8 A8 (by rw[show b8k (35,m) N []=[]from rfl];decide) hc0;rw[this];rfl
 .exact lst k o5
 .exact lst k o5
 .exact lst k o5
 .exact lst k o5
theorem b8P(n:Int×Int)(a:XT)(o k:Nat)(h:At e (T.sts 0) (.l1 n a) o)(hw:(XT.l1 n a).wf)(hla:(b7X N a).1.length<=1000000)
  (ia:∀q,k<=q->(J5 q).1 (e,N) (rtI a o:Int)=some ((b7X N a).1,(b7X N a).2,(e,N))):(J5 (k+3)).1 (e,N) (rtI (.l1 n a) o:Int)=some ((LH n N (Jf a.node.1) (b7X N a)).1,(LH n N (Jf a.node.1) (b7X N a)).2,(e,N)):=by
 have hr:=b8a h;have hra:=b8a (b8w h);have ho:=b8c hT h hw;have hx:J9 e ((rtI (.l1 n a) o:Nat):Int)=some n:=by rw[J3];exact hr.1
 have hxa:J9 e ((rtI a o:Nat):Int)=some a.node:=by rw[J3];exact hra.1
 have hmem:=oC hr.1;have hi:=hI n hmem;have hf:=hz n hmem;rw[show b8C (.l1 n a) o=[((rtI a o:Nat):Int)]from rfl]at ho;generalize ((rtI (.l1 n a) o:Nat):Int)=i at hx ho;obtain⟨op,m⟩:=n;have ha:arF op=1:=hw.1;have w0:(J5 (k+1)).2.2 (e,N) ((rtI a o:Nat):Int) 0=some ((b7X N a).1,(e,N)):=by rw[b7Z 0 (ia k o5) hla,wi0 (b8j N a)]
 have w6:(J5 (k+2)).2.2 (e,N) ((rtI a o:Nat):Int) 6=some (wiS (b7X N a) 6,(e,N)):=b7Z 6 (ia (k+1) o5) hla;have n6:=ia (k+2) o5;generalize ((rtI a o:Nat):Int)=j at hxa ho w0 w6 n6;have hwl:=Jt (b7X N a) 6;have hml:=JQ (pO m 8);have gl1:=IV hN.t m;have gl2:=IV hN.t (jb .i64 m 8);rcases ar1 ha with rfl|rfl|rfl|rfl|rfl|rfl
 .rw[b8g];unfold Dw LH Jf;simp (disch:=decide) only[hx,ho,o9,show oV (10,m)=some ((0,0,0),false)from rfl,show oI 10=some ([],0)from rfl,o6,show seq ([]:List UInt8) []=true from rfl,O7,bH,U8,o7,lx0,lg0,hxa,n6,w6];rw[L6 H7,o9,L6 H7,o9,L6 H7,o9];cases C9 a.node.1 2
  .cases C9 a.node.1 3
   .cases C9 a.node.1 4<;>simp[l7]
   .simp[l7]
  .simp[l7]
 .rw[b8g];unfold Dw LH;simp (disch:=decide) only[hx,ho,o9,show oV (25,m)=some ((0,0,0),false)from rfl,show oI 25=some ([],0)from rfl,o6,show seq ([]:List UInt8) []=true from rfl,O7,bH,U8,o7,lx0,lg0,w6];rw[L6 H7,o9]
 .have e1:b8k (31,m) N [(b7X N a).1]=[(b7X N a).1]:=rfl;rw[b8b (j:=k+1) hx ho hi hf o5 hN (ts:=[(b7X N a).1]) ⟨rfl,rfl,o5,o5,o5,o5,o5,o5,o5⟩ rfl A8 (by simpa using hla) (by rw[e1,b8r];omega) (hc1 w0),e1,b8r];rfl
 .have e1:b8k (32,m) N [(b7X N a).1]=[(b7X N a).1]:=rfl;rw[b8b (j:=k+1) hx ho hi hf o5 hN (ts:=[(b7X N a).1]) ⟨rfl,rfl,o5,o5,o5,o5,o5,o5,o5⟩ rfl A8 (by simpa using hla) (by rw[e1,b8r];omega) (hc1 w0),e1,b8r];rfl
 .have e1:b8k (33,m) N [(b7X N a).1]=[gtN N.2.1 m,(b7X N a).1]:=rfl;rw[b8b (j:=k+1) hx ho hi hf o5 hN (ts:=[(b7X N a).1]) ⟨rfl,rfl,o5,o5,o5,o5,o5,o5,o5⟩ rfl A8 (by simpa using hla) (by rw[e1,b8x];simp;omega) (hc1 w0),e1,b8x];simp[LH,C9,l7]
 .have e1:b8k (34,m) N [(b7X N a).1]=[gtN N.2.1 (jb .i64 m 8),(b7X N a).1,Dp (pO m 8)]:=rfl;rw[b8b (j:=k+1) hx ho hi hf o5 hN (ts:=[(b7X N a).1]) ⟨rfl,rfl,o5,o5,o5,o5,o5,o5,o5⟩ rfl A8 (by simpa using hla) (by rw[e1,b8y];simp;omega) (hc1 w0),e1,b8y];simp[LH,C9,l7]
theorem b8Q(n:Int×Int)(a b:XT)(o k:Nat)(h:At e (T.sts 0) (.l2 n a b) o)(hw:(XT.l2 n a b).wf)(hla:(b7X N a).1.length<=1000000)(hlb:(b7X N b).1.length<=1000000)
  (ia:∀q,k<=q->(J5 q).1 (e,N) (rtI a o:Int)=some ((b7X N a).1,(b7X N a).2,(e,N))) (ib:∀q,k<=q->(J5 q).1 (e,N) (rtI b (o+a.size):Int)=some ((b7X N b).1,(b7X N b).2,(e,N))):
  (J5 (k+3)).1 (e,N) (rtI (.l2 n a b) o:Int)=some ((Rn n (b7X N a) (b7X N b)).1,(Rn n (b7X N a) (b7X N b)).2,(e,N)):=by
 have hr:=b8a h;have ho:=b8c hT h hw;have hx:J9 e ((rtI (.l2 n a b) o:Nat):Int)=some n:=by rw[J3];exact hr.1
 have hmem:=oC hr.1;have hi:=hI n hmem;have hf:=hz n hmem;rw[show b8C (.l2 n a b) o=[((rtI a o:Nat):Int),((rtI b (o+a.size):Nat):Int)]from rfl]at ho;generalize ((rtI (.l2 n a b) o:Nat):Int)=i at hx ho;obtain⟨op,m⟩:=n;have ha:arF op=2:=hw.1;have w0:(J5 (k+1)).2.2 (e,N) ((rtI a o:Nat):Int) 0=some ((b7X N a).1,(e,N)):=by rw[b7Z 0 (ia k o5) hla,wi0 (b8j N a)]
 have w1:(J5 (k+1)).2.2 (e,N) ((rtI b (o+a.size):Nat):Int) 0=some ((b7X N b).1,(e,N)):=by rw[b7Z 0 (ib k o5) hlb,wi0 (b8j N b)]
 have u1:∀c,(J5 (k+2)).2.2 (e,N) ((rtI a o:Nat):Int) c=some (wiS (b7X N a) c,(e,N)):=λc=>b7Z c (ia (k+1) o5) hla;have u2:∀c,(J5 (k+2)).2.2 (e,N) ((rtI b (o+a.size):Nat):Int) c=some (wiS (b7X N b) c,(e,N)):=λc=>b7Z c (ib (k+1) o5) hlb;generalize ((rtI a o:Nat):Int)=j at ho w0 u1;generalize ((rtI b (o+a.size):Nat):Int)=j' at ho w1 u2;have hml:=JQ m;by_cases h1:op=17\/op=18\/op=27\/op=28\/op=29\/op=30
 .have e1:b8k (op,m) N [(b7X N a).1,(b7X N b).1]=[(b7X N a).1,(b7X N b).1]:=by rcases h1 with rfl|rfl|rfl|rfl|rfl|rfl<;>rfl
  have e2:Rn (op,m) (b7X N a) (b7X N b)=(wz op++[40]++(b7X N a).1++[44,32]++(b7X N b).1++[41],7):=by rcases h1 with rfl|rfl|rfl|rfl|rfl|rfl<;>rfl
  rw[b8b (j:=k+1) hx ho hi hf o5 hN (ts:=[(b7X N a).1,(b7X N b).1]) (by rcases h1 with rfl|rfl|rfl|rfl|rfl|rfl<;>exact⟨rfl,rfl,o5,o5,o5,o5,o5,o5,o5⟩) rfl A8 (by simp;exact⟨hla,hlb⟩) (by rw[e1,b8x];simp;omega) (hc2 w0 w1),e1,b8x,e2];simp
 by_cases h2:op=14\/op=15\/op=16
 .have e1:b8k (op,m) N [(b7X N a).1,(b7X N b).1]=[(b7X N a).1,(b7X N b).1,Dp m]:=by rcases h2 with rfl|rfl|rfl<;>rfl
  have e2:Rn (op,m) (b7X N a) (b7X N b)=(wz op++[40]++(b7X N a).1++[44,32]++(b7X N b).1++[44,32]++Dp m++[41],7):=by rcases h2 with rfl|rfl|rfl<;>rfl
  rw[b8b (j:=k+1) hx ho hi hf o5 hN (ts:=[(b7X N a).1,(b7X N b).1]) (by rcases h2 with rfl|rfl|rfl<;>exact⟨rfl,rfl,o5,o5,o5,o5,o5,o5,o5⟩) rfl A8 (by simp;exact⟨hla,hlb⟩) (by rw[e1,b8y];simp;omega) (hc2 w0 w1),e1,b8y,e2];simp
 have hk:op=11\/op=12\/op=13\/op=19\/op=20\/op=21\/op=22\/op=23\/op=24:=by have:=ar2 ha;omega
 have hl:=a0e op;have hc:1<=(EF op).2/\(EF op).2<=5:=by rcases hk with rfl|rfl|rfl|rfl|rfl|rfl|rfl|rfl|rfl<;>decide
 have hs:seq (EF op).1 []=false:=by rcases hk with rfl|rfl|rfl|rfl|rfl|rfl|rfl|rfl|rfl<;>rfl
 have hlit:oV (op,m)=some ((0,0,0),false):=by rcases hk with rfl|rfl|rfl|rfl|rfl|rfl|rfl|rfl|rfl<;>rfl
 have hb:a1H op=false/\a5N op=false:=by rcases hk with rfl|rfl|rfl|rfl|rfl|rfl|rfl|rfl|rfl<;>exact⟨rfl,rfl⟩
 have v1:=Jt (b7X N a) 4;have v2:=Jt (b7X N a) (EF op).2;have v3:=Jt (b7X N b) ((EF op).2+1);rw[b8g];unfold Dw Rn;simp only[hx,ho,o9,hlit,b0u,hs,o6,o7,ae,lx0,lg0,lx1,lg1,u1,u2,kV (show b7W ((EF op).2+1) by unfold b7W;omega),hb.1,hb.2];cases C9 (EF op).2 3
 .simp only[o6];rw[L6 H7,o9,L6 H7,o9,L6 H7,o9,L6 H7,o9]
 .simp only[o7];rw[L6 H7,o9,L6 H7,o9,L6 H7,o9,L6 H7,o9]
theorem b8T(n:Int×Int)(a b c:XT)(o k:Nat)(h:At e (T.sts 0) (.l3 n a b c) o)(hw:(XT.l3 n a b c).wf)(hla:(b7X N a).1.length<=1000000)(hlb:(b7X N b).1.length<=1000000)(hlc:(b7X N c).1.length<=1000000)
  (ia:∀q,k<=q->(J5 q).1 (e,N) (rtI a o:Int)=some ((b7X N a).1,(b7X N a).2,(e,N))) (ib:∀q,k<=q->(J5 q).1 (e,N) (rtI b (o+a.size):Int)=some ((b7X N b).1,(b7X N b).2,(e,N)))
  (ic:∀q,k<=q->(J5 q).1 (e,N) (rtI c (o+a.size+b.size):Int)=some ((b7X N c).1,(b7X N c).2,(e,N))):
  (J5 (k+3)).1 (e,N) (rtI (.l3 n a b c) o:Int)=some ((ifX (b7X N a) (b7X N b) (b7X N c)).1,(ifX (b7X N a) (b7X N b) (b7X N c)).2,(e,N)):=by
 have hr:=b8a h;have ho:=b8c hT h hw;have hx:J9 e ((rtI (.l3 n a b c) o:Nat):Int)=some n:=by rw[J3];exact hr.1
 rw[show b8C (.l3 n a b c) o=[((rtI a o:Nat):Int),((rtI b (o+a.size):Nat):Int),((rtI c (o+a.size+b.size):Nat):Int)]from rfl]at ho;generalize ((rtI (.l3 n a b c) o:Nat):Int)=i at hx ho;obtain⟨op,m⟩:=n;have ha:op=26:=ar3 hw.1;subst ha;have u1:(J5 (k+2)).2.2 (e,N) ((rtI a o:Nat):Int) 0=some ((b7X N a).1,(e,N)):=by rw[b7Z 0 (ia (k+1) o5) hla,wi0 (b8j N a)]
 have u2:(J5 (k+2)).2.2 (e,N) ((rtI b (o+a.size):Nat):Int) 0=some ((b7X N b).1,(e,N)):=by rw[b7Z 0 (ib (k+1) o5) hlb,wi0 (b8j N b)]
 have u3:(J5 (k+2)).2.2 (e,N) ((rtI c (o+a.size+b.size):Nat):Int) 0=some ((b7X N c).1,(e,N)):=by rw[b7Z 0 (ic (k+1) o5) hlc,wi0 (b8j N c)]
 rw[b8g];unfold Dw ifX;simp (disch:=decide) only[hx,ho,o9,show oV (26,m)=some ((0,0,0),false)from rfl,show oI 26=some ([],0)from rfl,o6,show seq ([]:List UInt8) []=true from rfl,O7,bH,U8,o7,lx0,lg0,lx1,lg1,lx2,lg2,u1,u2,u3];rw[L6 H7,o9,L6 H7,o9,L6 H7,o9,L6 H7,o9,L6 H7,o9]
theorem b8H:∀(t:XT) (o k:Nat),At e (T.sts 0) t o->t.wf->3*t.size<=k->(J5 k).1 (e,N) (rtI t o:Int)=some ((b7X N t).1,(b7X N t).2,(e,N)):=by
 have h48:=(yQ hT).2;have hlen:∀(t:XT) (o:Nat),At e (T.sts 0) t o->(b7X N t).1.length<=1000000:=by
  intro t o h;obtain⟨p,s,S1,S2,h1,-,-,-⟩:=h;have hl:=yw hN t (λn hn=>hI n (by rw[h1];simp[hn]));have:t.size<=e.length:=by rw[←t.post_len,h1];simp;omega
  omega
 intro t;induction t with
 |l0 n=>intro o k h hw hk;simp only[XT.size]at hk;obtain⟨k,rfl⟩:∃m,k=m+2:=⟨k -2,o5⟩;exact b8G hN hT hI hz n o k h hw
 |l1 n a iha=>intro o k h hw hk;simp only[XT.size]at hk;obtain⟨k,rfl⟩:∃m,k=m+3:=⟨k -3,o5⟩;exact b8P hN hT hI hz n a o k h hw (hlen a o (b8w h)) (λq hq=>iha o q (b8w h) hw.2 o5)
 |l2 n a b iha ihb=>intro o k h hw hk;simp only[XT.size]at hk;obtain⟨k,rfl⟩:∃m,k=m+3:=⟨k -3,o5⟩;exact b8Q hN hT hI hz n a b o k h hw (hlen a o (b8p h).1) (hlen b _ (b8p h).2) (λq hq=>iha o q (b8p h).1 hw.2.1 o5) (λq hq=>ihb _ q (b8p h).2 hw.2.2 o5)
 |l3 n a b c iha ihb ihc=>intro o k h hw hk;simp only[XT.size]at hk;obtain⟨k,rfl⟩:∃m,k=m+3:=⟨k -3,o5⟩;exact b8T hN hT hI hz n a b c o k h hw (hlen a o (b8h h).1) (hlen b _ (b8h h).2.1) (hlen c _ (b8h h).2.2) (λq hq=>iha o q (b8h h).1 hw.2.1 o5) (λq hq=>ihb _ q (b8h h).2.1 hw.2.2.1 o5) (λq hq=>ihc _ q (b8h h).2.2 hw.2.2.2 o5)
end
end Go.GP
namespace Go.GP
open Gt
set_option maxRecDepth 100000
variable {N:F5}
theorem a7q{n:Int×Int}(hN:NmOk N)(hI:b7W n.2)(ha:0<=arF n.1):Y4 n N=some (flS n N):=by
 obtain⟨k,m⟩:=n;have fin:∀{args:List G8} {x:Tx},Ba (k,m) args N x->Y4 (k,m) N=some (flS (k,m) N):=by rintro args x ⟨c,h1,-⟩;rw[Uw h1];exact h1
 by_cases h0:m=0\/aW k=some true
 .have h3:arF k=0\/arF k=1\/arF k=2\/arF k=3:=by have:=(CU k).2.2;simp only at ha;omega
  rcases h3 with h|h|h|h
  .exact fin (Q_ hN hI h h0)
  .exact fin (R_ hN hI h h0 ([],0,false) A8)
  .exact fin (S_ h h0 ([],0,false) ([],0,false) A8 A8)
  .have:=ar3 h;subst this;exact fin (T_ h0 ([],0,false) ([],0,false) ([],0,false) A8 A8 A8)
 .have h1:m≠0:=λh=>h0 (.inl h);have h2:aW k=some false:=(a0h ha).resolve_left λh=>h0 (.inr h);have:=a6J (N:=N) ha h1 h2;rw[Uw this];exact this
theorem EI:∀(t:XT),t.wf->∀n∈t.post,0<=arF n.1
 | .l0 n,h,m,hm=>by simp[XT.post]at hm;rw[hm];rw[show arF n.1=0 from h];decide| .l1 n a,h,m,hm=>by
  simp[XT.post]at hm;rcases hm with hm|hm
  .exact EI a h.2 m hm
  .rw[hm,h.1];decide
 | .l2 n a b,h,m,hm=>by
  simp[XT.post]at hm;rcases hm with hm|hm|hm
  .exact EI a h.2.1 m hm
  .exact EI b h.2.2 m hm
  .rw[hm,h.1];decide
 | .l3 n a b c,h,m,hm=>by
  simp[XT.post]at hm;rcases hm with hm|hm|hm|hm
  .exact EI a h.2.1 m hm
  .exact EI b h.2.2.1 m hm
  .exact EI c h.2.2.2 m hm
  .rw[hm,h.1];decide
theorem g_{N:F5} :∀{l:List (Int×Int)},ffS N l=0->∀n∈l,flS n N=0
 |[],_,n,h=>by cases h|a::l,h,n,hn=>by
  unfold ffS at h;cases hf:C9 (flS a N) 0
  .rw[hf]at h;rw[o6]at h;exact absurd h (wI.1 hf)
  .rw[hf]at h;rw[o7]at h;rcases A7.1 hn with rfl|hn
   .exact jC.1 hf
   .exact g_ h n hn
theorem Xc(e:List (Int×Int))(he:e.length<=1000)(hf:∀n∈e,Y4 n N=some (flS n N)):
  U7 (λ(x:Int)=>
     l7 (H9 x (o8 e))
      (l9 (J9 e x) λ(x_1:I8)=>
       l9 (Y4 x_1 N) λ(x_2:Int)=>
        l7 (G5 (C9 x_2 0)) (some (Out.rt (([]:List UInt8),x_2))) (some (Out.nx (F9 IntKind.i64 x 1))))
      (some (Out.ex PUnit.unit))) 0=some (l7 (C9 (ffS N e) 0) (.inl PUnit.unit) (.inr ([],ffS N e))):=by
 have key:∀(l pre:List (Int×Int)) (k:Nat),e=pre++l->l.length<k->
   jG (λ(x:Int)=>
     l7 (H9 x (o8 e))
      (l9 (J9 e x) λ(x_1:I8)=>
       l9 (Y4 x_1 N) λ(x_2:Int)=>
        l7 (G5 (C9 x_2 0)) (some (Out.rt (([]:List UInt8),x_2))) (some (Out.nx (F9 IntKind.i64 x 1))))
      (some (Out.ex PUnit.unit))) k (pre.length:Int)=some (l7 (C9 (ffS N l) 0) (.inl PUnit.unit) (.inr ([],ffS N l))):=by
  intro l;induction l with
  |nil=>intro pre k h hk;obtain⟨k,rfl⟩:∃k',k=k' +1:=⟨k -1,by simp at hk;omega⟩;rw[Ej];rw[E8]at h;rw[←h,N9];rfl
  |cons n l ih=>
   intro pre k h hk;obtain⟨k,rfl⟩:∃k',k=k' +1:=⟨k -1,by simp at hk;omega⟩;have hn:e[pre.length]? =some n:=by rw[h,I4 (E5 _),fZ];rfl
   have hlt:=(aC.1 hn).1;rw[Ej];simp only[O0 hn,o7,J3,hn,o9,hf n (oC hn)];unfold ffS;cases hg:C9 (flS n N) 0
   .simp only[ae,o7,o6,hg]
   .simp only[O7,o7,o6];have:=ih (pre++[n]) k (by rw[h];simp) (by simp at hk;omega);rw[show(((pre++[n]).length:Nat):Int)=F9 .i64 (pre.length:Int) 1 by rw[bY o5];simp]at this;exact this
 have:=key e [] jq rfl (by unfold jq;omega);exact this
theorem U_{e:List (Int×Int)}(hN:NmOk N)(hI:∀n∈e,b7W n.2):tN e N=some (Wi e N):=by
 unfold tN Eu Wi;rw[SA];unfold uj;cases h:lG e with
 |inl x=>simp only[o9,U8 (Gz h)];rfl|inr t=>
  obtain⟨h1,h2,h3,h4⟩:=VM h;obtain⟨hp,-⟩:=yQ h;simp only[o9,bH (rfl:(0:Int)=0),O7,o6];have hw:=MK h;refine X8 (Xc e o5 (λn hn=>a7q hN (hI n hn) (EI t hw n (by rw[←hp];exact hn)))) ?_;rw[o9];cases hf:C9 (ffS N e) 0
  .rfl
  .simp only[o7,aj];rw[h4,show vH (e,N) ((rtI t 0:Nat):Int)=some ((b7X N t).1,(b7X N t).2,(e,N))from b8H hN h hI (g_ (jC.1 hf)) t 0 jq h1 hw (by unfold jq;omega)]<;>rfl
theorem h_{e:List (Int×Int)}(hN:NmOk N)(hI:∀n∈e,b7W n.2):(Wi e N).1.length<=150000:=by
 unfold Wi;cases h:lG e with
 |inl x=>simp|inr t=>
  obtain⟨hp,h48⟩:=yQ h;have:=yw hN t (by rw[←hp];exact hI);rw[←t.post_len,←hp]at this;simp only;cases C9 (ffS N e) 0
  .simp[l7]
  .simp only[o7];omega
end Go.GP
