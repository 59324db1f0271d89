import Derived.Test.YtpiondedhhgjbaaGreatDoorV5
import Derived.Test.YtpiondedhhgjbaaGreatDoorV2
import Derived.Test.YtpiondedhhgjbaaGreatDoorV3
import Derived.Lib.ItoaLen
set_option linter.all false
namespace Go.GP
variable {a:Int}{b:Int}{n:Int}
section
variable {α β σ ε ρ:Type}
@[simp] theorem o9 (x:α) (f:α->Option β):l9 (some x) f=f x:=rfl
@[simp] theorem b4x (f:α->Option β):l9 none f=none:=rfl
theorem a0r{o:Option α}{x:α}(h:o=some x)(f:α->Option β):l9 o f=f x:=by rw[h];rfl
theorem Y5{o o' :Option α}(h:o=o'){K:α->Option β}{r:Option β}(h2:l9 o' K=r):l9 o K=r:=by rw[h];exact h2
theorem bb(a b:Bool):l7 a (some b) (some false)=some (a&&b):=by cases a<;>rfl
theorem bZ(o:Option α):l9 o (λx=>some x)=o:=by cases o<;>rfl
@[simp] theorem o7 (x y:α):l7 true x y=x:=rfl
@[simp] theorem o6 (x y:α):l7 false x y=y:=rfl
theorem sS(b:Bool)(x y:α):l7 b x y=if b=true then x else y:=by cases b<;>rfl
theorem nV{b:Bool}(h:b=true)(x y:α):l7 b x y=x:=by rw[h];rfl
theorem oU{b:Bool}(h:b=false)(x y:α):l7 b x y=y:=by rw[h];rfl
@[simp] theorem V6 (s:σ) (f:σ->α) (g:ε->α):Z8 (.inl s) f g=f s:=rfl
@[simp] theorem gI (s:ε) (f:σ->α) (g:ε->α):Z8 (.inr s) f g=g s:=rfl
@[simp] theorem H7:H5 true=false:=rfl
@[simp] theorem P9:H5 false=true:=rfl
theorem aP(h:a<b):I5 a b=true:=by simp[I5,h]
theorem U1(h:b<=a):I5 a b=false:=by simp[I5];omega
theorem bH(h:a<=b):U7 a b=true:=by simp[U7,h]
theorem dE(h:b<a):U7 a b=false:=by simp[U7];omega
theorem U6(h:a=b):C9 a b=true:=by simp[C9,h]
theorem J7(h:a≠b):C9 a b=false:=by simp[C9,h]
theorem zo :I5 a b=true↔a<b:=by simp[I5]
theorem pg :U7 a b=true↔a<=b:=by simp[U7]
theorem gp :C9 a b=true↔a=b:=by simp[C9]
theorem qc :I5 a b=false↔b<=a:=by simp[I5]
theorem Vl :U7 a b=false↔b<a:=by simp[U7]
theorem zI :C9 a b=false↔a≠b:=by simp[C9]
theorem jW{a b:c6F} :seq a b=true↔a=b:=by simp[seq]
theorem Rj{a b:c6F} :seq a b=false↔a≠b:=by simp[seq]
theorem nH(h:0<=a):a.tdiv b=a / b:=Int.tdiv_eq_ediv_of_nonneg h
theorem Aw(h:0<=a):fE a b=a % b:=Int.tmod_eq_emod_of_nonneg h
def eH(n:Int):Prop:=-9223372036854775808<=n/\n<=9223372036854775807
theorem di{p:Int}(h:eH p:=by unfold eH;omega):eH p:=h
def U64(n:Int):Prop:=0<=n/\n<=18446744073709551615
theorem BB(h:eH n):IntKind.wrap .i64 n=n:=by unfold eH at h;unfold IntKind.wrap;simp[IntKind.signed,IntKind.bits];omega
theorem Qk(h:U64 n):IntKind.wrap .u64 n=n:=by unfold U64 at h;unfold IntKind.wrap;simp[IntKind.signed,IntKind.bits];omega
theorem dN(h:eH (a+b)):G5 .i64 a b=a+b:=BB h
theorem dO(h:eH (a -b)):N9 .i64 a b=a -b:=BB h
theorem Vm(h:eH (a*b)):mY .i64 a b=a*b:=BB h
theorem Po(h:eH (a.tdiv b)):aO .i64 a b=a.tdiv b:=BB h
theorem V_(h:U64 (a+b)):G5 .u64 a b=a+b:=Qk h
theorem a7v(h:U64 (a.tdiv b)):aO .u64 a b=a.tdiv b:=Qk h
theorem c6B(h:(Lit.int .i64 n).wf=true):eH n:=by simp[Lit.wf,IntKind.min,IntKind.max,IntKind.signed,IntKind.bits]at h;unfold eH;omega
theorem Sr(l:List α):0<=A7 l:=by simp[A7]
theorem V8(l:List α)(i:Nat):P5 l (i:Int)=l[i]?:=by simp[P5]
theorem wE{l:List α}{i:Int}{x:α}(h:P5 l i=some x):0<=i/\i<A7 l/\x∈l/\l[i.toNat]? =some x:=by
 unfold P5 at h;split at h
 .rename_i h0;obtain⟨h1,h2⟩:=bg.1 h;refine⟨h0,by simp[A7];omega,?_,h⟩;rw[←h2];exact Y2 h1
 .cases h
theorem vH{l:List α}{i:Int}(h0:0<=i)(h:i<A7 l):∃x,P5 l i=some x/\x∈l:=by
 unfold A7 at h;refine⟨l[i.toNat]'o5,?_,Y2 _⟩;unfold P5
 rw[if_pos h0,lF]
theorem wZ(l:c6F)(i:Nat):sat l (i:Int)=(l[i]?).map λc=>(c.toNat:Int):=by simp[sat]
theorem G6{a b:c6F}(h:a.length+b.length<=4611686018427387904):N8 a b=some (a++b):=by simp[N8,h]
theorem Pv{a b:List α}(h:a.length+b.length<=1073741824):eG a b=some (a++b):=by simp[eG,h]
theorem Py{l:List α}{lo hi:Int}(h0:0<=lo)(h1:lo<=hi)(h2:hi<=l.length):gy l lo hi=some ((l.take hi.toNat).drop lo.toNat):=by simp[gy,h0,h1,h2]
theorem yA{l:List α}{hi:Int}(h1:0<=hi)(h2:hi<=l.length):gy l 0 hi=some (l.take hi.toNat):=by rw[Py o5 h1 h2];simp
theorem pG{l:List α}{lo:Int}(h1:0<=lo)(h2:lo<=l.length):gy l lo (A7 l)=some (l.drop lo.toNat):=by rw[Py h1 (by simp[A7];omega) (by simp[A7])];simp[A7]
end
section
variable {σ ε ρ:Type}
theorem Su{f:σ->Option (σ⊕ε)}(Inv:σ->Prop)(Q:ε->Prop)(meas:σ->Nat)
  (h:∀s,Inv s->(∃s',f s=some (.inl s')/\Inv s' /\meas s' <meas s)\/(∃e,f s=some (.inr e)/\Q e)):
  ∀n s,Inv s->meas s<n->∃e,zJ f n s=some e/\Q e
 |0,_,_,h=>by omega|n+1,s,hi,hm=>by
  unfold zJ;rcases h s hi with⟨s',e,hi',hm'⟩|⟨x,e,hx⟩
  .rw[e];exact Su Inv Q meas h n s' hi' o5
  .rw[e];exact⟨x,rfl,hx⟩
theorem ug{f:σ->Option (σ⊕ε)}{s:σ}(Inv:σ->Prop)(Q:ε->Prop)(meas:σ->Nat)(hi:Inv s)(hm:meas s<18446744073709551616)
  (h:∀s,Inv s->(∃s',f s=some (.inl s')/\Inv s' /\meas s' <meas s)\/(∃e,f s=some (.inr e)/\Q e)):∃e,fA f s=some e/\Q e:=
 Su Inv Q meas h _ s hi hm
theorem Vu{f:σ->Option (Out σ ε ρ)}(Inv:σ->Prop)(Q:ε->Prop)(Qr:ρ->Prop)(meas:σ->Nat)
  (h:∀s,Inv s->(∃s',f s=some (.nx s')/\Inv s' /\meas s' <meas s)\/(∃e,f s=some (.ex e)/\Q e)\/(∃r,f s=some (.rt r)/\Qr r)):
  ∀n s,Inv s->meas s<n->(∃e,iZ f n s=some (.inl e)/\Q e)\/(∃r,iZ f n s=some (.inr r)/\Qr r)
 |0,_,_,h=>by omega|n+1,s,hi,hm=>by
  unfold iZ;rcases h s hi with⟨s',e,hi',hm'⟩|⟨x,e,hx⟩|⟨x,e,hx⟩
  .rw[e];exact Vu Inv Q Qr meas h n s' hi' o5
  .rw[e];exact .inl ⟨x,rfl,hx⟩
  .rw[e];exact .inr ⟨x,rfl,hx⟩
theorem jH{f:σ->Option (Out σ ε ρ)}{s:σ}(Inv:σ->Prop)(Q:ε->Prop)(Qr:ρ->Prop)(meas:σ->Nat)(hi:Inv s)(hm:meas s<18446744073709551616)
  (h:∀s,Inv s->(∃s',f s=some (.nx s')/\Inv s' /\meas s' <meas s)\/(∃e,f s=some (.ex e)/\Q e)\/(∃r,f s=some (.rt r)/\Qr r)):
  (∃e,V4 f s=some (.inl e)/\Q e)\/(∃r,V4 f s=some (.inr r)/\Qr r):=
 Vu Inv Q Qr meas h _ s hi hm
end
section
variable {α β ε ρ:Type}
open Classical in
theorem Io(l:List α)(p:Nat->α->Bool)(r:ρ)(e:ε)(f:Int->Option (Out Int ε ρ))(hl:l.length<18446744073709551616)
  (hin:∀(i:Nat) (a:α),l[i]? =some a->f (i:Int)=if p i a=true then some (.nx ((i+1:Nat):Int))else some (.rt r))
  (hend:f (l.length:Int)=some (.ex e)):
  V4 f 0=if(∀i a,l[i]? =some a->p i a=true)then some (.inl e)else some (.inr r):=by
 have key:∀(n i:Nat),i<=l.length->l.length -i<n->(∀j a,j<i->l[j]? =some a->p j a=true)->iZ f n (i:Int)=if(∀i a,l[i]? =some a->p i a=true)then some (.inl e)else some (.inr r):=by
  intro n;induction n with
  |zero=>intro i _ h;omega|succ n ih=>
   intro i hi hn hp;unfold iZ;by_cases h:i<l.length
   .have e' :=lF h;rw[hin i _ e'];by_cases hpi:p i l[i]=true
    .rw[if_pos hpi];exact ih (i+1) o5 o5 λj a hj ha=>by
      by_cases hji:j=i
      .subst hji;rw[e']at ha;cases ha;exact hpi
      .exact hp j a o5 ha
    .rw[if_neg hpi,if_neg];intro hall;exact hpi (hall i _ e')
   .have:i=l.length:=o5;subst this;rw[hend,if_pos];intro j a ha;exact hp j a (bg.1 ha).1 ha
 exact key _ 0 (cO _) hl λj a hj=>by omega
end
end Go.GP
namespace Go.GP
section
variable {α β α' β' σ τ ε ε' ρ ρ' :Type}
theorem KI{p:Nat->Option ρ}(n:Nat)(hn:n<18446744073709551616)(e:ε){f:Int->Option (Out Int ε ρ)}
  (h1:∀i,i<n->f (i:Int)=some (match p i with|some r=> .rt r|none=> .nx ((i+1:Nat):Int))) (h2:f (n:Int)=some (.ex e)):
  V4 f 0=some (match(List.range n).findSome? p with|some r=> .inr r|none=> .inl e):=by
 have key:∀m i,i+m=n->∀k,m<k->iZ f k (i:Int)=some (match(List.range' i m).findSome? p with|some r=> .inr r|none=> .inl e):=by
  intro m;induction m with
  |zero=>intro i hi k hk;obtain⟨k,rfl⟩:∃k',k=k' +1:=⟨k -1,o5⟩;have:i=n:=o5;subst this;unfold iZ;rw[h2];rfl
  |succ m ih=>
   intro i hi k hk;obtain⟨k,rfl⟩:∃k',k=k' +1:=⟨k -1,o5⟩;unfold iZ;rw[h1 i o5,jh,List.findSome?_cons];cases hp:p i with
   |some r=>rfl|none=>exact ih (i+1) o5 k o5
 have:=key n 0 o5 dZ hn;rw[rQ];exact this
end
end Go.GP
namespace Go.GP
open Gt
set_option maxRecDepth 100000
variable {i:Nat}
theorem dH(h:i<=9000000000000000000):G5 .i64 (i:Int) 1=((i+1:Nat):Int):=by rw[dN di];omega
def KJ(c:UInt8):Bool:=decide (97<=c.toNat)&&decide (c.toNat<=122)
def uV(c:UInt8):Bool:=KJ c || (decide (48<=c.toNat)&&decide (c.toNat<=57)) || decide (c.toNat=95)
def JP:List c6F:=xM.getD []
theorem b2x:xM=some JP:=by kernel_rfl
def mJ(s:c6F):Bool:=match s with|[]=>false|c::r=>decide (s.length<=16)&&KJ c&&s.all uV&&!(JP.any λw=>seq s w)
theorem QJ(c:UInt8)(r:c6F):mJ (c::r)=(decide ((c::r).length<=16)&&KJ c&&(c::r).all uV&&!(JP.any λw=>seq (c::r) w)):=rfl
theorem Ip(c:UInt8):kS (c.toNat:Int)=some (KJ c):=by
 unfold kS KJ;cases h:decide (97<=c.toNat)<;>simp only[decide_eq_true_eq,decide_eq_false_iff_not]at h
 .rw[dE o5];rfl
 .rw[bH o5];simp only[o7,nP,U7];congr 1;by_cases h2:c.toNat<=122<;>simp[h2]<;>omega
theorem Yl(c:UInt8):KX (c.toNat:Int)=some (KJ c):=Ip c
def zG(c:UInt8):Bool:=decide (48<=c.toNat)&&decide (c.toNat<=57)
theorem EE(c:UInt8):fJ (c.toNat:Int)=some (zG c):=by
 unfold fJ zG;cases h:decide (48<=c.toNat)<;>simp only[decide_eq_true_eq,decide_eq_false_iff_not]at h
 .rw[dE o5];rfl
 .rw[bH o5];simp only[o7,nP,U7];congr 1;by_cases h2:c.toNat<=57<;>simp[h2]<;>omega
theorem a6o(c:UInt8):SS (c.toNat:Int)=some (zG c):=EE c
theorem a7u(c:UInt8):C9 (c.toNat:Int) 95=decide (c.toNat=95):=by unfold C9;by_cases h:c.toNat=95<;>simp[h]<;>omega
theorem b3c(c:UInt8):Oo (c.toNat:Int)=some (uV c):=by unfold Oo;rw[Yl,o9,a6o,a7u];unfold uV;change _=some (KJ c || zG c || decide (c.toNat=95));cases KJ c<;>cases zG c<;>rfl
variable {s:c6F}
theorem Xb(h:s.length<=4611686018427387904):∃k,nS s=some k/\(k=A7 s↔s.all uV=true):=by
 unfold nS;have:=ug (f:=λ(x:Int)=>l7 (I5 x (A7 s)) (l9 (sat s x) λx_1=>l9 (kS x_1) λx_2=>l7 x_2 (some (Sum.inl (G5 IntKind.i64 x 1)))
   (l9 (sat s x) λx_3=>l9 (fJ x_3) λx_4=>l7 x_4 (some (Sum.inl (G5 IntKind.i64 x 1))) (l9 (sat s x) λx_5=>l7 (C9 x_5 95) (some (Sum.inl (G5 IntKind.i64 x 1))) (some (Sum.inr x))))) (some (Sum.inr x)))
  (s:=0) (λx=>∃i:Nat,x=i/\i<=s.length/\(s.take i).all uV=true) (λk=>k=A7 s↔s.all uV=true) (λx=>s.length -x.toNat) ⟨0,rfl,o5,rfl⟩ E5 ?_
 .obtain⟨k,h1,h2⟩:=this;refine⟨k,?_,h2⟩;rw[bZ];exact h1
 .rintro x ⟨i,rfl,hi,hall⟩;by_cases hl:i<s.length
  .have e:=lF hl;simp only[aP (show(i:Int)<A7 s by simp[A7];omega),o7,wZ,e,eX,o9,Ip,EE,a7u];have hst:(s.take (i+1)).all uV=((s.take i).all uV&&uV s[i]):=by rw[Y8 hl,List.all_append];simp
   have hw:uV s[i]=(KJ s[i] || zG s[i] || decide (s[i].toNat=95)):=rfl;cases hwb:uV s[i]with
   |true=>left;refine⟨((i+1:Nat):Int),?_,⟨i+1,rfl,hl,by rw[hst,hall,hwb];rfl⟩,by simp;omega⟩;rw[dH o5];rw[hw]at hwb;cases h1:KJ s[i]<;>cases h2:zG s[i]<;>cases h3:decide (s[i].toNat=95)<;>rw[h1,h2,h3]at hwb<;>first|rfl|cases hwb
   |false=>
    right;refine⟨(i:Int),?_,?_⟩
    .rw[hw]at hwb;cases h1:KJ s[i]<;>cases h2:zG s[i]<;>cases h3:decide (s[i].toNat=95)<;>rw[h1,h2,h3]at hwb<;>first|rfl|cases hwb
    .constructor
     .intro h;simp[A7]at h;omega
     .intro h;have:=kN.1 h s[i] (Y2 hl);rw[hwb]at this;cases this
  .right;have:i=s.length:=o5;subst this;rw[bJ]at hall;exact⟨_,by rw[U1 (by simp[A7])];rfl,by simp[A7,hall]⟩
theorem a6s{a:c6F}{w:c6F}{r:c6J}{x:Bool}(h:r=some x):l7 (seq a w) (some (seq a w)) r=some (seq a w || x):=by rw[h];cases seq a w<;>rfl
theorem a0K(s:c6F):AO s=some (JP.any λw=>seq s w):=by
 unfold AO;refine Y5 (o' :=some (JP.any λw=>seq s w)) ?_ (by cases JP.any λw=>seq s w<;>rfl);have hr:JP=(xM).getD []:=rfl;rw[show(JP.any λw=>seq s w)=List.foldr (λw b=>seq s w || b) false JP from by induction JP with|nil=>rfl|cons w l ih=>simp[List.any_cons,ih]];unfold JP xM;simp only[Y3,List.foldr]
 repeat (refine a6s ?_)
 simp
theorem nJ(h:s.length<=4611686018427387904):X6 s=some (mJ s):=by
 unfold X6;cases s with
 |nil=>rfl|cons c r=>
  have h1:seq (c::r) []=false:=by simp[seq]
  obtain⟨k,h2,h3⟩:=Xb h;rw[h1];simp only[P9,o7];rw[show sat (c::r) 0=some (c.toNat:Int)from rfl,o9,Ip,o9,h2,o9,a0K,o9];have h4:C9 k (A7 (c::r))=(c::r).all uV:=by rw[tq,gp];exact h3
  have h5:U7 (A7 (c::r)) 16=decide ((c::r).length<=16):=by simp only[U7,A7];congr 1;simp;omega
  rw[h4,h5,QJ];cases KJ c<;>cases (c::r).all uV<;>cases decide ((c::r).length<=16)<;>rfl
theorem mP(h:s.length<=1000000):X6 s=some (mJ s):=nJ o5
theorem tJ(h:s.length<=4611686018427387904):kY s=some (mJ s):=by
 unfold kY;cases s with
 |nil=>rfl|cons c r=>
  have h0:C9 (A7 (c::r)) 0=false:=J7 (by simp[A7];omega);have h5:I5 16 (A7 (c::r))= !decide ((c::r).length<=16):=by simp only[I5,A7];rw[←decide_not];congr 1;simp;omega
  rw[h0,h5,show sat (c::r) 0=some (c.toNat:Int)from rfl,o9,Yl,o9,QJ];generalize hs:c::r=s at*;cases hl:decide (s.length<=16)
  .rfl
  cases hc:KJ c
  .rfl
  simp only[nO,o6,H7,o9,V6,nP];refine Y5 (Io s (λi a=>uV a) false PUnit.unit _ o5 (λi x hx=>?_) ?_) ?_
  rotate_left 2
  .have ha:(∀(i:Nat) (a:UInt8),s[i]? =some a->uV a=true)↔s.all uV=true:=by
    rw[kN];constructor
    .intro h x hx;obtain⟨i,hi,rfl⟩:=gJ hx;exact h i _ (lF hi)
    .intro h i a hi;exact h a (yu hi)
   by_cases hw:s.all uV=true
   .rw[if_pos (ha.2 hw),o9,V6,b2x,o9,hw];refine Y5 (Io JP (λi a=> !seq a s) false PUnit.unit _ (by decide+kernel) (λi x hx=>?_) ?_) ?_
    rotate_left 2
    .have hb:(∀(i:Nat) (a:c6F),JP[i]? =some a->(!seq a s)=true)↔(JP.any λw=>seq s w)=false:=by
      rw[jS];constructor
      .intro h x hx;obtain⟨i,hi,rfl⟩:=gJ hx;have:=h i _ (lF hi);intro hq;rw[jW.1 hq]at this;simp[seq]at this
      .intro h i a hi;have:=h a (yu hi);cases hq:seq a s
       .rfl
       .exact absurd (by rw[jW.1 hq];simp[seq]) this
     by_cases hv:(JP.any λw=>seq s w)=false
     .rw[if_pos (hb.2 hv),hv];rfl
     .rw[if_neg (λh=>hv (hb.1 h))];simp only[Az]at hv;rw[hv];rfl
    .have hi:=(bg.1 hx).1;simp only[aP (show(i:Int)<A7 JP by simp[A7];omega),o7,V8,hx,o9];rw[show aN JP (Z7 (i:Int))=some x from by simp[aN,Z7,hx],o9,dH (by
       have:JP.length<=100:=by decide+kernel
       omega)]
     cases seq x s<;>rfl
    .rw[U1 (by simp[A7])];rfl
   .rw[if_neg (λh=>hw (ha.1 h))];simp only[wO]at hw;rw[hw];rfl
  .have hi:=(bg.1 hx).1;simp only[aP (show(i:Int)<A7 s by simp[A7];omega),o7,wZ,hx,eX,o9,b3c];rw[dH o5];cases uV x<;>rfl
  .rw[U1 (by simp[A7])];rfl
theorem vU(t:Int×Int)(en:List bK):dw t en=dm t en:=by
 unfold dw dm;by_cases h1:t.1=1
 .simp[C9,h1,U7]
 by_cases h2:t.1=2
 .simp[C9,h2,U7]
 by_cases h3:t.1=3
 .simp[C9,h3,U7]
 by_cases h4:t.1=4
 .simp[C9,h4,U7]
 by_cases h5:t.1=5
 .simp[C9,h5,U7]
 by_cases h6:t.1=6
 .simp[C9,h6,U7]
 .simp only[C9,h1,h2,h3,h4,h5,h6,decide_false,o6,o9];by_cases h7:1<=t.1
  .rw[nV (bH h7),oU (dE o5)]
  .rw[oU (dE o5)]
theorem LX(t:Int×Int)(en:List bK):jo t en=eQ t en:=by unfold jo eQ;rw[vU]
def vty(t:Int×Int)(en:List bK):Bool:=l7 (C9 t.1 6) (l7 (U7 0 t.2) (I5 t.2 (A7 en)) false) (l7 (U7 1 t.1) (l7 (U7 t.1 5) (C9 t.2 0) false) false)
theorem oz(t:Int×Int)(en:List bK):dm t en=some (vty t en):=by unfold dm vty;cases C9 t.1 6<;>cases U7 0 t.2<;>cases U7 1 t.1<;>cases U7 t.1 5<;>rfl
theorem qG(t:Int×Int)(en:List bK):dw t en=some (vty t en):=(vU t en).trans (oz t en)
theorem Zo(t:Int×Int)(en:List bK):∃b:Int×Int,eQ t en=some b:=by
 unfold eQ;rw[oz,o9];cases hv:vty t en
 .exact⟨_,rfl⟩
 simp only[H7,o6];cases h1:C9 t.1 1<;>simp only[o7,o6]
 .cases h2:C9 t.1 2<;>simp only[o7,o6]
  .cases h3:C9 t.1 3<;>simp only[o7,o6]
   .cases h4:C9 t.1 4<;>simp only[o7,o6]
    .cases h5:C9 t.1 5<;>simp only[o7,o6]
     .have h6:C9 t.1 6=true/\U7 0 t.2=true/\I5 t.2 (A7 en)=true:=by
       unfold vty at hv;rw[zI]at h1 h2 h3 h4 h5;cases h6:C9 t.1 6<;>rw[h6]at hv
       .rw[zI]at h6;cases h7:U7 1 t.1<;>rw[h7]at hv
        .cases hv
        cases h8:U7 t.1 5<;>rw[h8]at hv
        .cases hv
        rw[pg]at h7 h8;omega
       .cases h7:U7 0 t.2<;>rw[h7]at hv
        .cases hv
        .exact⟨rfl,rfl,hv⟩
      obtain⟨x,hx,_⟩:=vH (pg.1 h6.2.1) (zo.1 h6.2.2);rw[hx];exact⟨_,rfl⟩
     .exact⟨_,rfl⟩
    .exact⟨_,rfl⟩
   .exact⟨_,rfl⟩
  .exact⟨_,rfl⟩
 .exact⟨_,rfl⟩
def bnd(t:Int×Int)(en:List bK):Int×Int:=(eQ t en).getD (0,0)
theorem Ji(t:Int×Int)(en:List bK):eQ t en=some (bnd t en):=by obtain⟨b,h⟩:=Zo t en;unfold bnd;rw[h];rfl
theorem BO(t:Int×Int)(en:List bK):jo t en=some (bnd t en):=(LX t en).trans (Ji t en)
def inB(n:Int)(b:Int×Int):Bool:=l7 (U7 b.1 n) (U7 n b.2) false
def OY(r:Int×Int):Bool:=l7 (U7 0 r.1) (l7 (U7 r.1 r.2) (U7 r.2 109573) false) false
theorem QB(r:Int×Int):su r=some (OY r):=by unfold su OY;cases U7 0 r.1<;>cases U7 r.1 r.2<;>rfl
def a4e(a b:Int×Int):(Int×Int)×Bool:=l7 (OY a) (l7 (OY b) (l7 (U7 (Dj a.2 b.2) (wL a.1 b.1)) ((0,0),false) ((wL a.1 b.1,Dj a.2 b.2),true)) ((0,0),false)) ((0,0),false)
theorem b2Q(a b:Int×Int):uq a b=some (a4e a b):=by
 unfold uq wW a4e;rw[QB,o9,QB,o9];cases OY a
 .rfl
 simp only[o7];cases h1:I5 a.1 a.2
 .rw[qc]at h1;rw[bH (show Dj a.2 b.2<=wL a.1 b.1 by unfold Dj wL;omega)];cases OY b<;>rfl
 simp only[o9,H7,o6];cases OY b
 .rfl
 simp only[o7];cases h2:I5 b.1 b.2
 .rw[qc]at h2;rw[bH (show Dj a.2 b.2<=wL a.1 b.1 by unfold Dj wL;omega)];rfl
 .cases U7 (Dj a.2 b.2) (wL a.1 b.1)<;>rfl
def FI(a b:OM):Bool:=l7 (a4e a.1 b.1).2 (I5 (wL a.2.1 b.2.1) (Dj a.2.2.1 b.2.2.1)) false
theorem E_(a b:OM):Bo a b=some (FI a b):=by unfold Bo FI;rw[b2Q,o9];cases (a4e a.1 b.1).2<;>rfl
theorem a7m{l:List OM}(r:OM)(h:l.length<=1000000):∃k:Int,uw l r=some (k,l.any λy=>FI y r):=by
 unfold uw;have key:=jH (f:=λ(x:Int)=>l7 (I5 x (A7 l)) (l9 (P5 l x) λx_1=>l9 (uQ x_1 r) λx_2=>l7 x_2 (some (Out.rt (x,true))) (some (Out.nx (G5 IntKind.i64 x 1)))) (some (Out.ex PUnit.unit)))
   (s:=0) (λx=>∃i:Nat,x=i/\i<=l.length/\(l.take i).any (λy=>FI y r)=false) (λ_=>(l.any λy=>FI y r)=false) (λk=>k.2=true/\(l.any λy=>FI y r)=true) (λx=>l.length -x.toNat) ⟨0,rfl,o5,rfl⟩ E5 ?_
 .rcases key with⟨e,h1,h2⟩|⟨k,h1,h2,h3⟩
  .exact⟨0,by rw[h1,h2];rfl⟩
  .refine⟨k.1,?_⟩;rw[h1,h3,←h2];rfl
 .rintro x ⟨i,rfl,hi,hall⟩;by_cases hl:i<l.length
  .have e:=lF hl;have hst:(l.take (i+1)).any (λy=>FI y r)=((l.take i).any (λy=>FI y r) || FI l[i] r):=by rw[Y8 hl,Dk];simp
   have hv:uQ l[i] r=some (FI l[i] r):=by unfold uQ;rw[E_];rfl
   simp only[aP (show(i:Int)<A7 l by simp[A7];omega),o7,V8,e,o9,hv];cases hc:FI l[i] r with
   |true=>exact .inr (.inr ⟨_,rfl,rfl,wQ.2 ⟨l[i],Y2 hl,hc⟩⟩)|false=>exact .inl ⟨((i+1:Nat):Int),by rw[dH o5];rfl,⟨i+1,rfl,hl,by rw[hst,hall,hc];rfl⟩,by simp;omega⟩
  .have:i=l.length:=o5;subst this;rw[bJ]at hall;exact .inr (.inl ⟨_,by rw[U1 (by simp[A7])];rfl,hall⟩)
def a3K(x:OM)(bl br:Int×Int):Bool:=
 l7 (OY x.1) (l7 (C9 x.1.1 x.1.2) true (l7 (U7 x.2.2.1 x.2.1) true (l7 (inB x.2.1 bl) (l7 (inB (N9 .i64 x.2.2.1 1) bl) (H5 (inB x.2.2.2 br)) true) true))) true
def a2N(t:eP)(en:List bK)(i:Nat):Option (Int×Int):=match t.2.2.2[i]? with
 |some x=>l7 (a3K x (bnd t.2.1 en) (bnd t.2.2.1 en)) (some ((i:Int),3)) (l7 ((t.2.2.2.take i).any λy=>FI y x) (some ((i:Int),11)) none)|none=>none
def TL(t:eP)(en:List bK):Int×Int:=
 l7 (I5 64 (A7 t.2.2.2)) (64,4) (l7 (vty t.2.1 en) (l7 (vty t.2.2.1 en) (match(List.range t.2.2.2.length).findSome? (a2N t en)with|some r=>r|none=>(0,0)) (-1,8)) (-1,8))
theorem FY(a b:Int):I5 a b= !U7 b a:=by simp only[I5,U7];rw[←decide_not];congr 1;simp
variable {α:Type}
theorem zX{l:List α}(h:i<=l.length):gy l 0 (i:Int)=some (l.take i):=by rw[yA o5 o5];simp
theorem b0X(t:eP)(en:List bK):Bl t en=some (TL t en):=by
 unfold Bl TL;rw[qG,o9,qG,o9];cases h64:I5 64 (A7 t.2.2.2)
 case true=>rfl
 simp only[o6];cases vty t.2.1 en
 .rfl
 cases vty t.2.2.1 en
 .rfl
 simp only[H7,o6,o9,V6,o7,BO];have hlen:t.2.2.2.length<=64:=by rw[qc]at h64;simp only[A7]at h64;omega
 refine Y5 (KI (p:=a2N t en) t.2.2.2.length o5 PUnit.unit (λi hi=>?_) ?_) ?_
 rotate_left 2
 .cases (List.range t.2.2.2.length).findSome? (a2N t en)<;>rfl
 .have e:=lF hi;simp only[aP (show(i:Int)<A7 t.2.2.2 by simp only[A7];omega),o7,V8,e,o9,a2N,QB,zX (show i<=t.2.2.2.length by omega)];obtain⟨k,hk⟩:=a7m (l:=t.2.2.2.take i) t.2.2.2[i] E5;rw[hk,dH o5];unfold a3K inB;simp only[FY];generalize bnd t.2.1 en=bl;generalize bnd t.2.2.1 en=br;cases OY t.2.2.2[i].1
  .rfl
  cases C9 t.2.2.2[i].1.1 t.2.2.2[i].1.2
  case true=>rfl
  cases U7 t.2.2.2[i].2.2.1 t.2.2.2[i].2.1
  case true=>rfl
  cases U7 bl.1 t.2.2.2[i].2.1
  .rfl
  cases U7 t.2.2.2[i].2.1 bl.2
  .rfl
  cases U7 bl.1 (N9 IntKind.i64 t.2.2.2[i].2.2.1 1)
  .rfl
  cases U7 (N9 IntKind.i64 t.2.2.2[i].2.2.1 1) bl.2
  .rfl
  cases U7 br.1 t.2.2.2[i].2.2.2
  .rfl
  cases U7 t.2.2.2[i].2.2.2 br.2
  .rfl
  cases (t.2.2.2.take i).any λy=>FI y t.2.2.2[i]<;>rfl
 .rw[U1 (by simp[A7])];rfl
section
variable {α ε ρ:Type}
theorem TP(l:List α)(p:α->Bool)(r:ρ)(e:ε){f:Int->Option (Out Int ε ρ)}(hl:l.length<=1000000)
  (hin:∀(i:Nat) (a:α),l[i]? =some a->f (i:Int)=some (bif p a then .rt r else .nx (G5 .i64 (i:Int) 1))) (hend:f (l.length:Int)=some (.ex e)):
  V4 f 0=some (bif l.any p then .inr r else .inl e):=by
 rw[Io l (λi a=> !p a) r e f o5 (λi a ha=>?_) hend]
 .have hb:(∀(j:Nat) (a:α),l[j]? =some a->(!p a)=true)↔l.any p=false:=by
   rw[jS];constructor
   .intro h x hx;obtain⟨j,hj,rfl⟩:=gJ hx;have:=h j _ (lF hj);simpa using this
   .intro h j a hj;have:=h a (yu hj);simpa using this
  by_cases hv:l.any p=false
  .rw[if_pos (hb.2 hv),hv];rfl
  .rw[if_neg (λh=>hv (hb.1 h))];simp only[Az]at hv;rw[hv];rfl
 .have hi:=(bg.1 ha).1;rw[hin i a ha,dH o5];cases p a<;>rfl
theorem BR(l:List α)(p:α->Bool){f:Int->Option (Out Int PUnit Int)}(hl:l.length<=1000000)
  (hin:∀(i:Nat) (a:α),l[i]? =some a->f (i:Int)=some (bif p a then .rt (i:Int)else .nx (G5 .i64 (i:Int) 1))) (hend:f (l.length:Int)=some (.ex PUnit.unit)):
  l9 (l9 (V4 f 0) λo=>Z8 o (λ_=>some (-1)) λr=>some r) (λx=>some (U7 0 x))=some (l.any p):=by
 have key:=jH (f:=f) (s:=0) (λx=>∃i:Nat,x=i/\i<=l.length/\(l.take i).any p=false) (λ_=>l.any p=false) (λk=>0<=k/\l.any p=true) (λx=>l.length -x.toNat) ⟨0,rfl,o5,rfl⟩ E5 ?_
 .rcases key with⟨e,h1,h2⟩|⟨k,h1,h2,h3⟩
  .rw[h1,h2];rfl
  .rw[h1,h3,o9,gI,o9,bH h2]
 .rintro x ⟨i,rfl,hi,hall⟩;by_cases h:i<l.length
  .have e:=lF h;have hst:(l.take (i+1)).any p=((l.take i).any p || p l[i]):=by rw[Y8 h,Dk];simp
   rw[hin i _ e];cases hc:p l[i]with
   |true=>exact .inr (.inr ⟨_,rfl,o5,wQ.2 ⟨l[i],Y2 h,hc⟩⟩)|false=>exact .inl ⟨((i+1:Nat):Int),by rw[dH o5];rfl,⟨i+1,rfl,h,by rw[hst,hall,hc];rfl⟩,by simp;omega⟩
  .have:i=l.length:=o5;subst this;rw[bJ]at hall;exact .inr (.inl ⟨_,hend,hall⟩)
theorem aF{l:List α}{a:α}(h:l[i]? =some a):I5 (i:Int) (A7 l)=true:=aP (by have:=(bg.1 h).1;simp only[A7];omega)
theorem aS(l:List α):I5 (l.length:Int) (A7 l)=false:=U1 (by simp[A7])
end
theorem NW{l:List bK}(n:c6F)(h:l.length<=1000000):zW l n=some (l.any λx=>seq x.1 n):=by unfold zW jX kZ;rw[bZ];refine BR l (λx=>seq x.1 n) h (λi a ha=>?_) (by rw[aS];rfl);rw[aF ha,o7,V8,ha,o9];unfold GX;rw[o9];cases seq a.1 n<;>rfl
theorem RY{l:List eP}(n:c6F)(h:l.length<=1000000):AC l n=some (l.any λx=>seq x.1 n):=by unfold AC jq kE;rw[bZ];refine BR l (λx=>seq x.1 n) h (λi a ha=>?_) (by rw[aS];rfl);rw[aF ha,o7,V8,ha,o9];unfold EQ;rw[o9];cases seq a.1 n<;>rfl
theorem S_{l:List au}(s:au)(h:l.length<=1000000):fO l s=some (l.any λx=>seq x.1 s.1):=by unfold fO kD;refine BR l (λx=>seq x.1 s.1) h (λi a ha=>?_) (by rw[aS];rfl);rw[aF ha,o7,V8,ha,o9];unfold BV;rw[o9];cases seq a.1 s.1<;>rfl
theorem a2l{l:List kF}(s:kF)(h:l.length<=1000000):gU l s=some (l.any λx=>seq x.1 s.1):=by unfold gU lh;refine BR l (λx=>seq x.1 s.1) h (λi a ha=>?_) (by rw[aS];rfl);rw[aF ha,o7,V8,ha,o9];unfold Dz;rw[o9];cases seq a.1 s.1<;>rfl
theorem RX{l:List mW}(s:mW)(h:l.length<=1000000):dI l s=some (l.any λx=>seq x.1 s.1):=by unfold dI kC;refine BR l (λx=>seq x.1 s.1) h (λi a ha=>?_) (by rw[aS];rfl);rw[aF ha,o7,V8,ha,o9];unfold BU;rw[o9];cases seq a.1 s.1<;>rfl
theorem a5P{l:List c6F}(s:c6F)(h:l.length<=1000000):kK l s=some (l.any λx=>seq s x):=by unfold kK cu;refine BR l (λx=>seq s x) h (λi a ha=>?_) (by rw[aS];rfl);rw[aF ha,o7,V8,ha,o9];cases seq s a<;>rfl
theorem a5O{l:c6G}(s:Int)(h:l.length<=1000000):pO l s=some (l.any λx=>C9 s x):=by unfold pO xR;refine BR l (λx=>C9 s x) h (λi a ha=>?_) (by rw[aS];rfl);rw[aF ha,o7,V8,ha,o9];cases C9 s a<;>rfl
theorem a4t(i k:Nat):I5 (i:Int) (k:Int)=decide (i<k):=by unfold I5;by_cases h:i<k<;>simp[h]<;>omega
def Tm(l:Z9)(kind:Nat)(k:Nat)(n:c6F):Bool:=
 match kind with
 |1=>(l.1.take k).any λx=>seq x.1 n|2=>(l.1.any λx=>seq x.1 n) || ((l.2.1.take k).any λx=>seq x.1 n)|_=>(l.1.any λx=>seq x.1 n) || (l.2.1.any λx=>seq x.1 n) || ((l.2.2.take k).any λx=>seq x.1 n)
def Few(l:Z9):Prop:=l.1.length<=100000/\l.2.1.length<=100000/\l.2.2.length<=100000
def a0h(ms:List c6F)(i:Nat):Option (Int×Int):=match ms[i]? with
 |some m=>l7 (mJ m) (l7 ((ms.take i).any λx=>seq m x) (some (7,((100+i:Nat):Int))) none) (some (2,((100+i:Nat):Int)))|none=>none
def J_(l:Z9)(i:Nat)(e:bK):Int×Int:=
 l7 (mJ e.1) (l7 (Tm l 1 i e.1) (7,0) (l7 (C9 (A7 e.2) 0) (5,0) (l7 (I5 16 (A7 e.2)) (4,116) (match(List.range e.2.length).findSome? (a0h e.2)with|some r=>r|none=>(0,0))))) (2,0)
theorem b1H(h:i<=1000000):G5 .i64 100 (i:Int)=((100+i:Nat):Int):=by rw[dN di];omega
variable {l:Z9}
theorem YE(h:Few l)(hi:i<=l.1.length)(e:bK)(h1:e.1.length<=1000000)(h2:∀m∈e.2,m.length<=1000000):
  CU l (i:Int) e=some (J_ l i e):=by
 unfold CU J_ Tm;rw[mP h1,o9,zX hi,o9,NW _ (by have:=h.1;simp;omega),o9];cases mJ e.1
 .rfl
 simp only[H7,o6,o7];cases (l.1.take i).any λx=>seq x.1 e.1
 case true=>rfl
 cases C9 (A7 e.2) 0
 case true=>rfl
 cases h16:I5 16 (A7 e.2)
 case true=>rfl
 simp only[o6];have hlen:e.2.length<=16:=by rw[qc]at h16;simp only[A7]at h16;omega
 refine Y5 (KI (p:=a0h e.2) e.2.length o5 PUnit.unit (λj hj=>?_) ?_) ?_
 rotate_left 2
 .cases (List.range e.2.length).findSome? (a0h e.2)<;>rfl
 .have e' :=lF hj;rw[aF e',o7,V8,e',o9,mP (h2 _ (Y2 hj)),o9,zX o5,o9,a5P _ E5,o9,b1H o5,dH o5];simp only[a0h,e'];cases mJ e.2[j]
  .rfl
  cases (e.2.take j).any λx=>seq e.2[j] x<;>rfl
 .rw[aS];rfl
variable {β:Type}
theorem a7p{p:Nat->Option β}{n j:Nat}{c:β}(h0:(List.range j).findSome? p=none)(h1:p j=some c)(hj:j<n):(List.range n).findSome? p=some c:=by
 induction n with
 |zero=>omega|succ n ih=>
  rw[jF,xE];by_cases h:j<n
  .rw[ih h];rfl
  .have:j=n:=o5;subst this;rw[h0];simp[h1]
theorem b1E{p:Nat->Option β}{j:Nat}(h0:(List.range j).findSome? p=none)(h1:p j=none):(List.range (j+1)).findSome? p=none:=by rw[jF,xE,h0];simp[h1]
variable {ρ:Type}
def ja(n:Nat)(p:Nat->Option ρ):Option ρ:=(List.range n).findSome? p
theorem KA{σ ε ρ:Type}{p:Nat->Option ρ}(n:Nat)(hn:n<=1000000)(a:σ)(e:ε){f:σ×Int->Option (Out (σ×Int) ε ρ)}
  (h1:∀i,i<n->f (a,(i:Int))=some (match p i with|some r=> .rt r|none=> .nx (a,G5 .i64 (i:Int) 1))) (h2:f (a,(n:Int))=some (.ex e)):
  V4 f (a,0)=some (match ja n p with|some r=> .inr r|none=> .inl e):=by
 have key:=jH (f:=f) (s:=(a,0)) (λx=>∃i:Nat,x=(a,(i:Int))/\i<=n/\ja i p=none) (λx=>x=e/\ja n p=none) (λr=>ja n p=some r) (λx=>n -x.2.toNat) ⟨0,rfl,o5,rfl⟩ E5 ?_
 .rcases key with⟨x,k1,rfl,k2⟩|⟨r,k1,k2⟩
  .rw[k1,k2]
  .rw[k1,k2]
 .rintro x ⟨i,rfl,hi,hnone⟩;by_cases h:i<n
  .rw[h1 i h];cases hp:p i with
   |some r=>exact .inr (.inr ⟨_,rfl,a7p hnone hp h⟩)|none=>exact .inl ⟨(a,((i+1:Nat):Int)),by rw[dH o5],⟨i+1,rfl,h,b1E hnone hp⟩,by simp;omega⟩
  .have:i=n:=o5;subst this;exact .inr (.inl ⟨_,h2,rfl,hnone⟩)
def UU(kind i:Int)(r:Int×Int):Option (Int×Int×Int×Int):=l7 (C9 r.1 0) none (some (r.1,kind,i,r.2))
def UT(l:Z9)(i:Nat):Option (Int×Int×Int×Int):=match l.1[i]? with|some e=>UU 1 i (J_ l i e)|none=>none
def Kv(l:Z9):Int×Int×Int×Int:=l7 (I5 8 (A7 l.1)) (4,1,8,0) (match ja l.1.length (UT l)with|some r=>r|none=>(0,0,0,0))
def Yw(l:Z9):Prop:=∀e∈l.1,e.1.length<=1000000/\∀m∈e.2,m.length<=1000000
theorem WT(h:Few l)(hE:Yw l):AA l=some (Kv l):=by
 unfold AA Kv;cases I5 8 (A7 l.1)
 case true=>rfl
 simp only[o6];refine Y5 (KA (p:=UT l) l.1.length (by have:=h.1;omega) _ (0,0,0,0) (λi hi=>?_) ?_) ?_
 rotate_left 2
 .cases ja l.1.length (UT l)<;>rfl
 .have e:=lF hi;have hm:=hE _ (Y2 hi);simp only[aF e,o7,V8,e,o9,YE h (show i<=l.1.length by omega) _ hm.1 hm.2,UT,UU];cases C9 (J_ l i l.1[i]).1 0<;>rfl
 .rw[aS];rfl
variable {n:Nat}{p:Nat->Option ρ}
theorem DU{r:ρ}(h:ja n p=some r):∃i,i<n/\p i=some r:=by unfold ja at h;obtain⟨i,hi,hp⟩:=List.exists_of_findSome?_eq_some h;exact⟨i,fH.1 hi,hp⟩
theorem Pj(h:ja n p=none):∀i,i<n->p i=none:=by unfold ja at h;intro i hi;exact ul.1 h i (fH.2 hi)
theorem b0V(t:eP)(en:List bK):(TL t en).1=-1\/0<=(TL t en).1:=by
 unfold TL;cases I5 64 (A7 t.2.2.2)
 case true=>right;simp only[o7];decide
 cases vty t.2.1 en
 .left;rfl
 cases vty t.2.2.1 en
 .left;rfl
 right;simp only[o7,o6];cases hf:(List.range t.2.2.2.length).findSome? (a2N t en)with
 |none=>exact uF _|some r=>
  obtain⟨i,hi,hp⟩:=DU (p:=a2N t en) hf;unfold a2N at hp;split at hp
  .rename_i x hx;cases hw:a3K x (bnd t.2.1 en) (bnd t.2.2.1 en)<;>rw[hw]at hp
   .cases ha:(t.2.2.2.take i).any λy=>FI y x<;>rw[ha]at hp
    .cases hp
    .cases hp;show(0:Int)<=(i:Int);omega
   .cases hp;show(0:Int)<=(i:Int);omega
  .cases hp
def b0W(l:Z9)(i:Nat)(t:eP):Int×Int:=
 l7 (mJ t.1) (l7 (Tm l 2 i t.1) (7,0) (l7 (C9 (TL t l.1).2 0) (0,0) ((TL t l.1).2,l7 (U7 0 (TL t l.1).1) (G5 .i64 100 (TL t l.1).1) 0))) (2,0)
def ZY(l:Z9)(i:Nat):Option (Int×Int×Int×Int):=match l.2.1[i]? with|some t=>UU 2 i (b0W l i t)|none=>none
def MM(l:Z9):Int×Int×Int×Int:=l7 (I5 8 (A7 l.2.1)) (4,2,8,0) (match ja l.2.1.length (ZY l)with|some r=>r|none=>(0,0,0,0))
def Ur(l:Z9):Prop:=∀t∈l.2.1,t.1.length<=1000000
theorem UG(h:Few l)(hT:Ur l):zt l=some (MM l):=by
 unfold zt MM;cases I5 8 (A7 l.2.1)
 case true=>rfl
 simp only[o6];refine Y5 (KA (p:=ZY l) l.2.1.length (by have:=h.2.1;omega) _ (0,0,0,0) (λi hi=>?_) ?_) ?_
 rotate_left 2
 .cases ja l.2.1.length (ZY l)<;>rfl
 .have e:=lF hi;have hm:=hT _ (Y2 hi);simp only[aF e,o7,V8,e,o9,b0X,mP hm,NW _ (show l.1.length<=1000000 by have:=h.1;omega),zX (show i<=l.2.1.length by omega),
   RY _ (show(l.2.1.take i).length<=1000000 by have:=h.2.1;simp;omega),ZY,b0W,Tm]
  cases mJ l.2.1[i].1
  .rfl
  cases l.1.any λx=>seq x.1 l.2.1[i].1
  case true=>rfl
  cases (l.2.1.take i).any λx=>seq x.1 l.2.1[i].1
  case true=>rfl
  simp only[H7,o6,o7,o9,Bool.or_false];cases hz:C9 (TL l.2.1[i] l.1).2 0
  case true=>rfl
  simp only[P9,o7,o6,UU,hz];rcases b0V l.2.1[i] l.1 with hr|hr
  .rw[U6 hr,dE (show(TL l.2.1[i] l.1).1<0 by omega)];simp only[H7,o6,o9,hz,P9,o7]
  .rw[J7 (show(TL l.2.1[i] l.1).1≠-1 by omega),bH hr];simp only[P9,o7,o9,hz]
 .rw[aS];rfl
variable {ε:Type}
theorem a2i(l:List α)(g:α->β)(hl:l.length<=1000000){f:List β×Int->Option ((List β×Int)⊕ε)}{F:List β->ε}
  (hin:∀(i:Nat) (a:α) (acc:List β),l[i]? =some a->acc.length=i->f (acc,(i:Int))=some (.inl (acc++[g a],G5 .i64 (i:Int) 1))) (hend:∀acc,f (acc,(l.length:Int))=some (.inr (F acc))):
  fA f ([],0)=some (F (l.map g)):=by
 obtain⟨e,h1,h2⟩:=ug (f:=f) (s:=([],0)) (λx=>∃i:Nat,x=((l.take i).map g,(i:Int))/\i<=l.length) (λe=>e=F (l.map g)) (λx=>l.length -x.2.toNat) ⟨0,rfl,o5⟩ E5 (by
  rintro x ⟨i,rfl,hi⟩;by_cases h:i<l.length
  .have e:=lF h;refine .inl ⟨((l.take (i+1)).map g,((i+1:Nat):Int)),?_,⟨i+1,rfl,h⟩,by simp;omega⟩;rw[hin i _ _ e E5,dH o5,Y8 h,gu];rfl
  .have:i=l.length:=o5;subst this;refine .inr ⟨_,hend _,?_⟩;rw[bJ])
 rw[h1,h2]
theorem GN{l:List mW}(h:l.length<=1000000):uI l=some (l.map (·.2)):=by
 unfold uI;rw[bZ];refine a2i (F:=id) l (λx=>x.2) h (λi a acc ha hacc=>?_) (λacc=>?_)
 .have hi:=(bg.1 ha).1;simp only[aF ha,o7,V8,ha,o9];rw[Pv (by simp[hacc];omega)];rfl
 .simp only[aS];rfl
def r_(l:Z9):Prop:=∀s∈l.2.2,s.1.length<=1000000/\s.2.2.1.length<=100000/\s.2.2.2.1.length<=100000/\s.2.2.2.2.length<=100000
def a6v(l:Z9)(s:au):List bK×List eP×List (Int×Int)×List (Int×Int)×List (Int×Int)×Bool:=
 match(if 0<=s.2.1 then l.2.2[s.2.1.toNat]? else none)with
 |some k=>(l.1,l.2.1,s.2.2.1.map (·.2),s.2.2.2.1.map (·.2),k.2.2.2.1.map (·.2),true)|none=>(l.1,l.2.1,s.2.2.1.map (·.2),s.2.2.2.1.map (·.2),[],false)
theorem OA(h:r_ l){s:au}(hs:l.2.2[i]? =some s):ut l (i:Int)=some (a6v l s):=by
 have hm:=h s (yu hs);unfold ut a6v;rw[V8,hs,o9,GN o5,o9,GN o5,o9];by_cases h0:0<=s.2.1
 .rw[bH h0,if_pos h0,o7];by_cases h1:s.2.1<A7 l.2.2
  .obtain⟨k,hk,hkm⟩:=vH h0 h1;have hk' :l.2.2[s.2.1.toNat]? =some k:=(wE hk).2.2.2;rw[aP h1,o7,hk,o9,GN (by have:=h k hkm;omega),o9,hk']
  .have h1' :A7 l.2.2<=s.2.1:=vZ.1 h1;rw[U1 h1',o6,aA (by simp only[A7]at h1';exact Int.le_toNat h0 |>.2 h1')]
 .have h0' :s.2.1<(0:Int):=vY.1 h0;rw[dE h0',if_neg h0];rfl
abbrev SI(l:c6G):Prop:=l.Pairwise (·< ·)
theorem a3c:∀{a b:c6G},SI a->SI b->(∀x,x∈a↔x∈b)->a=b
 |[],[],_,_,_=>rfl|[],y::b,_,_,h=>absurd ((h y).2 D5) D5|x::a,[],_,_,h=>absurd ((h x).1 D5) D5|x::a,y::b,ha,hb,h=>by
  have ha' :=X5.1 ha;have hb' :=X5.1 hb;have hxy:x=y:=by
   rcases D8.1 ((h x).1 D5)with h1|h1
   .exact h1
   .rcases D8.1 ((h y).2 D5)with h2|h2
    .exact h2.symm
    .have:=hb'.1 _ h1;have:=ha'.1 _ h2;omega
  subst hxy;congr 1;refine a3c ha'.2 hb'.2 λz=>⟨λhz=>?_,λhz=>?_⟩
  .rcases D8.1 ((h z).1 (by simp[hz]))with h1|h1
   .have:=ha'.1 _ hz;omega
   .exact h1
  .rcases D8.1 ((h z).2 (by simp[hz]))with h1|h1
   .have:=hb'.1 _ hz;omega
   .exact h1
def ins(n:Int):c6G->c6G
 |[]=>[n]|a::l=>if n<=a then(if n<a then n::a::l else a::l)else a::ins n l
theorem Zb(n x:Int):∀l,x∈ins n l↔x=n\/x∈l
 |[]=>by simp[ins]|a::l=>by
  unfold ins;by_cases h:n<=a
  .rw[if_pos h];by_cases h2:n<a
   .rw[if_pos h2];simp
   .rw[if_neg h2];have:n=a:=o5;subst this;simp
  .rw[if_neg h,D8,Zb n x l,D8];constructor
   .rintro(h|h|h)<;>simp[h]
   .rintro(h|h|h)<;>simp[h]
theorem a9L(n:Int):∀{l},SI l->SI (ins n l)
 |[],_=>List.pairwise_singleton _ _|a::l,h=>by
  have h' :=X5.1 h;unfold ins;by_cases h1:n<=a
  .rw[if_pos h1];by_cases h2:n<a
   .rw[if_pos h2];refine X5.2 ⟨λx hx=>?_,h⟩;rcases D8.1 hx with rfl|hx
    .exact h2
    .have:=h'.1 x hx;omega
   .rw[if_neg h2];exact h
  .rw[if_neg h1];refine X5.2 ⟨λx hx=>?_,a9L n h'.2⟩;rcases(Zb n x l).1 hx with rfl|hx
   .omega
   .exact h'.1 x hx
def Vq(ns:c6G)(l:c6G):c6G:=ns.foldl (λacc n=>ins n acc) l
theorem Vz(x:Int):∀ns l,x∈Vq ns l↔x∈ns\/x∈l
 |[],l=>by simp[Vq]|n::ns,l=>by
  show x∈Vq ns (ins n l)↔_;rw[Vz x ns,Zb,D8];constructor
  .rintro(h|h|h)<;>simp[h]
  .rintro((h|h)|h)<;>simp[h]
theorem ZL:∀ns {l},SI l->SI (Vq ns l)
 |[],_,h=>h|n::ns,_,h=>ZL ns (a9L n h)
def OC(l:c6G):c6G:=Vq l []
theorem a0i(x:Int)(l:c6G):x∈OC l↔x∈l:=by unfold OC;rw[Vz];simp
theorem a4Y(l:c6G):SI (OC l):=ZL l List.Pairwise.nil
theorem Vt(n:Int):∀l,(ins n l).length<=l.length+1
 |[]=>by simp[ins]|a::l=>by
  unfold ins;by_cases h1:n<=a
  .rw[if_pos h1];by_cases h2:n<a
   .rw[if_pos h2];simp
   .rw[if_neg h2];simp
  .rw[if_neg h1];have:=Vt n l;simp only[F5];omega
theorem Sl:∀ns l,(Vq ns l).length<=l.length+ns.length
 |[],l=>by simp[Vq]|n::ns,l=>by have h1:=Sl ns (ins n l);have h2:=Vt n l;show(Vq ns (ins n l)).length<=_;simp only[F5];omega
theorem a0a(l:c6G):(OC l).length<=l.length:=by have:=Sl l [];unfold OC;simpa using this
theorem a3d{l:c6G}(n:Nat)(h:SI l)(h2:∀x∈l,0<=x/\x<n):l.length<=n:=by
 have key:∀(l:c6G) (lo:Int),SI l->(∀x∈l,lo<=x/\x<n)->lo<=n->(l.length:Int)<=n -lo:=by
  intro l;induction l with
  |nil=>intro lo _ _ hlo;simp;omega|cons a l ih=>intro lo hs hb hlo;have h' :=X5.1 hs;have ha:=hb a D5;have:=ih (a+1) h'.2 (λx hx=>⟨by have:=h'.1 x hx;omega,(hb x (by simp[hx])).2⟩) o5;simp only[F5];omega
 have:=key l 0 h (λx hx=>h2 x hx) o5;omega
theorem UK(x:Int):∀(l:c6G) (p:Int),(p::l).Pairwise (·<=·)->SI (p::ddp p l)/\(x∈p::ddp p l↔x∈p::l)
 |[],p,_=>⟨List.pairwise_singleton _ _,Iff.rfl⟩|a::l,p,h=>by
  have h1:=X5.1 h;obtain⟨i1,i2⟩:=UK x l a h1.2;have h2:=X5.1 h1.2;have hpa:=h1.1 a D5;unfold ddp;cases hq:C9 a p
  .rw[zI]at hq;simp only[cond_false];refine⟨X5.2 ⟨λy hy=>?_,i1⟩,?_⟩
   .rcases D8.1 hy with rfl|hy
    .omega
    .have:=(X5.1 i1).1 y hy;omega
   .rw[D8,i2,D8 (a:=x) (b:=p)]
  .rw[gp]at hq;subst hq;simp only[cond_true];refine⟨i1,?_⟩;rw[i2];simp
theorem a7a(l:c6G):dd (KD l)=OC l:=by
 have hs:=Ja l;have hp:=IZ l;refine a3c ?_ (a4Y l) λx=>?_
 .cases he:KD l with
  |nil=>exact List.Pairwise.nil|cons a r=>rw[he]at hs;exact(UK a r a hs).1
 .rw[a0i,←hp.mem_iff];cases he:KD l with
  |nil=>exact Iff.rfl|cons a r=>rw[he]at hs;exact(UK x r a hs).2
theorem a5T(l:c6G):(KD l).length=l.length:=(IZ l).length_eq
theorem b2V{l:c6G}(h:l.length<=1000000):l9 (Eo l) (λx=>sO x)=some (OC l):=by unfold Eo sO;rw[show Nat.blt l.length 4611686018427387904=true from by simp[Nat.blt];omega];simp only[cond_true,o9];rw[show Nat.blt (KD l).length 4611686018427387904=true from by rw[a5T];simp[Nat.blt];omega];rw[cond_true,a7a]
def hg(l:c6G)(i:Nat):Int:=l.getD i 0
theorem b1G{l:c6G}(h:i<l.length):l[i]? =some (hg l i):=by unfold hg;rw[KF,lF h];rfl
theorem a1p{l:List α}{a:α}(h:(l.take n)[i]? =some a):i<n/\l[i]? =some a:=by
 rw[Y7]at h;split at h
 .exact⟨by assumption,h⟩
 .cases h
def QE(en:List bK)(f:mW)(a b:List mW):Int:=
 l7 (mJ f.1) (l7 (a.any λx=>seq x.1 f.1) 7 (l7 (b.any λx=>seq x.1 f.1) 7 (l7 (vty f.2 en) 0 8))) 2
theorem Nc{f:mW}{a b:List mW}(h:f.1.length<=1000000)(ha:a.length<=1000000)(hb:b.length<=1000000):xG l f a b=some (QE l.1 f a b):=by
 unfold xG QE;rw[mP h,o9,RX _ ha,o9,RX _ hb,o9,qG,o9];cases mJ f.1
 .rfl
 cases a.any λx=>seq x.1 f.1
 case true=>rfl
 cases b.any λx=>seq x.1 f.1
 case true=>rfl
 cases vty f.2 l.1<;>rfl
def a2d(c e:Int):Option (Int×Int):=l7 (C9 c 0) none (some (c,e))
def inP(l:Z9)(s:au)(i:Nat):Option (Int×Int):=match s.2.2.1[i]? with|some f=>a2d (QE l.1 f (s.2.2.1.take i) []) (100+i:Nat)|none=>none
def b1y(l:Z9)(s:au)(i:Nat):Option (Int×Int):=match s.2.2.2.1[i]? with|some f=>a2d (QE l.1 f s.2.2.1 (s.2.2.2.1.take i)) (200+i:Nat)|none=>none
def l_(s:au):Prop:=(∀f∈s.2.2.1,f.1.length<=1000000)/\(∀f∈s.2.2.2.1,f.1.length<=1000000)
theorem a4p{c i:Nat}(hc:c<=1000)(h:i<=1000000):G5 .i64 (c:Int) (i:Int)=((c+i:Nat):Int):=by rw[dN di];omega
def a4i(l:Z9)(s:au):Option (Int×Int):=match ja s.2.2.1.length (inP l s)with|some r=>some r|none=>ja s.2.2.2.1.length (b1y l s)
def arF(op:Int):Int:=(lI op).getD 0
variable {op:Int}
theorem VH(h:1<=op/\op<=39):∃k:Fin 40,op=(k.val:Int):=⟨⟨op.toNat,o5⟩,by simp;omega⟩
theorem b7J:∀k:Fin 40,1<=k.val->(jB (k.val:Int)=lI (k.val:Int))/\(lI (k.val:Int)=some 0\/lI (k.val:Int)=some 1\/lI (k.val:Int)=some 2\/lI (k.val:Int)=some 3):=by decide+kernel
theorem YV(h:¬(1<=op/\op<=39))(k:Int)(h1:1<=k)(h2:k<=39):C9 op k=false:=J7 o5
theorem Zn(h:¬(1<=op/\op<=39)):lI op=some (-1):=by
 unfold lI;by_cases h1:1<=op
 .rw[bH h1,o7,dE (show(9:Int)<op by omega),o6,dE (show(39:Int)<op by omega),dE (show(30:Int)<op by omega)];simp[YV h];cases U7 35 op<;>cases U7 11 op<;>rfl
 .rw[dE (show op<1 by omega),o6,dE (show op<35 by omega),dE (show op<11 by omega)];simp[YV h]
theorem b3X(h:¬(1<=op/\op<=39)):jB op=some (-1):=by unfold jB;simp[YV h]
theorem Hu(op:Int):jB op=some (arF op)/\lI op=some (arF op)/\(arF op=-1\/arF op=0\/arF op=1\/arF op=2\/arF op=3):=by
 unfold arF;by_cases h:1<=op/\op<=39
 .obtain⟨k,rfl⟩:=VH h;obtain⟨h1,h2⟩:=b7J k o5;rcases h2 with h2|h2|h2|h2<;>rw[h1,h2]<;>simp
 .rw[b3X h,Zn h];simp
theorem a6M(op:Int):jB op=some (arF op):=(Hu op).1
theorem a8R(op:Int):lI op=some (arF op):=(Hu op).2.1
inductive XT where
 |l0 (n:Int×Int)|l1 (n:Int×Int) (a:XT)|l2 (n:Int×Int) (a b:XT)|l3 (n:Int×Int) (a b c:XT)
def XT.size:XT->Nat
 | .l0 _=>1| .l1 _ a=>a.size+1| .l2 _ a b=>a.size+b.size+1| .l3 _ a b c=>a.size+b.size+c.size+1
def XT.post:XT->List (Int×Int)
 | .l0 n=>[n]| .l1 n a=>a.post++[n]| .l2 n a b=>a.post++b.post++[n]| .l3 n a b c=>a.post++b.post++c.post++[n]
def XT.sts(o:Nat):XT->c6G
 | .l0 _=>[(o:Int)]| .l1 _ a=>a.sts o++[(o:Int)]| .l2 _ a b=>a.sts o++b.sts (o+a.size)++[(o:Int)]| .l3 _ a b c=>a.sts o++b.sts (o+a.size)++c.sts (o+a.size+b.size)++[(o:Int)]
theorem XT.size_pos(t:XT):0<t.size:=by cases t<;>simp[XT.size]
theorem XT.post_len(t:XT):t.post.length=t.size:=by
 induction t with
 |l0 n=>rfl|l1 n a ha=>simp[XT.post,XT.size,ha]|l2 n a b ha hb=>simp[XT.post,XT.size,ha,hb];try omega
 |l3 n a b c ha hb hc=>simp[XT.post,XT.size,ha,hb,hc];try omega
theorem XT.sts_len(t:XT):∀o,(t.sts o).length=t.size:=by
 induction t with
 |l0 n=>intro o;rfl|l1 n a ha=>intro o;simp[XT.sts,XT.size,ha]|l2 n a b ha hb=>intro o;simp[XT.sts,XT.size,ha,hb];try omega
 |l3 n a b c ha hb hc=>intro o;simp[XT.sts,XT.size,ha,hb,hc];try omega
def jv:List XT->Nat
 |[]=>0|t::r=>jv r+t.size
def JH:List XT->List (Int×Int)
 |[]=>[]|t::r=>JH r++t.post
def stR:List XT->c6G
 |[]=>[]|t::r=>stR r++t.sts (jv r)
def oO:List XT->c6G
 |[]=>[]|t::r=>oO r++[(jv r:Int)]
theorem oM:∀ts,(oO ts).length=ts.length
 |[]=>rfl|t::r=>by simp[oO,oM r]
theorem Ec:∀ts,(stR ts).length=jv ts
 |[]=>rfl|t::r=>by simp[stR,jv,Ec r,XT.sts_len]
theorem MF:∀ts,(JH ts).length=jv ts
 |[]=>rfl|t::r=>by simp[JH,jv,MF r,XT.post_len]
def push(n:Int×Int)(ts:List XT):Int⊕List XT:=
 if arF n.1=0 then .inr (.l0 n::ts)
 else if arF n.1=1 then(match ts with|a::r=> .inr (.l1 n a::r)|_=> .inl 5)
 else if arF n.1=2 then(match ts with|b::a::r=> .inr (.l2 n a b::r)|_=> .inl 5)
 else if arF n.1=3 then(match ts with|c::b::a::r=> .inr (.l3 n a b c::r)|_=> .inl 5)
 else .inl 2
def wR:Nat->List (Int×Int)->List XT->(Int×Int)⊕List XT
 |_,[],ts=> .inr ts
 |i,n::es,ts=>match push n ts with
  | .inl c=> .inl ((i:Int),c)| .inr ts' =>if 12<ts'.length then .inl ((i:Int),16)else wR (i+1) es ts'
def kM(e:List (Int×Int)):(Int×Int)⊕XT:=
 if 48<e.length then .inl (0,4)else if e.length=0 then .inl (0,5)else
  match wR 0 e []with
  | .inl x=> .inl x| .inr [t]=> .inr t| .inr _=> .inl ((e.length:Int),4)
theorem Yc{n:Int×Int}{ts ts' :List XT}(h:push n ts= .inr ts'):JH ts' =JH ts++[n]/\ts' ≠[]:=by
 unfold push at h;split at h
 .cases h;exact⟨rfl,D5⟩
 split at h
 .split at h
  .cases h;exact⟨by simp[JH,XT.post],D5⟩
  .cases h
 split at h
 .split at h
  .cases h;exact⟨by simp[JH,XT.post],D5⟩
  .cases h
 split at h
 .split at h
  .cases h;exact⟨by simp[JH,XT.post],D5⟩
  .cases h
 .cases h
theorem MH{n:Int×Int}{ts ts' :List XT}(h:push n ts= .inr ts'):jv ts' =jv ts+1:=by rw[←MF,←MF,(Yc h).1];simp
theorem Jg:∀(es:List (Int×Int)) (i:Nat) (ts ts' :List XT),wR i es ts= .inr ts' ->JH ts' =JH ts++es/\(ts≠[]\/es≠[]->ts' ≠[])
 |[],i,ts,ts',h=>by cases h;exact⟨D5,D5⟩|n::es,i,ts,ts',h=>by
  unfold wR at h;cases hp:push n ts with
  |inl c=>rw[hp]at h;cases h|inr t2=>
   rw[hp]at h;simp only at h;split at h
   .cases h
   .obtain⟨h1,h2⟩:=Jg es (i+1) t2 ts' h;obtain⟨h3,h4⟩:=Yc hp;exact⟨by rw[h1,h3];simp,λ_=>h2 (.inl h4)⟩
theorem qK{e:List (Int×Int)}{t:XT}(h:kM e= .inr t):e=t.post/\e.length<=48:=by
 unfold kM at h;split at h
 .cases h
 split at h
 .cases h
 split at h
 .cases h
 .rename_i t' hp;cases h;have:=(Jg e 0 [] [t] hp).1;exact⟨by simpa[JH]using this.symm,o5⟩
 .cases h
theorem Tj{σ ε ρ:Type}(e:List (Int×Int))(he:e.length<=48)(g:List XT->σ)(fin:List XT->ε)(rt:Int×Int->ρ){f:σ->Option (Out σ ε ρ)}
  (hs:∀(i:Nat) (n:Int×Int) (ts:List XT),e[i]? =some n->i=jv ts->ts.length<=12->f (g ts)=some (match push n ts with
   | .inl c=> .rt (rt ((i:Int),c))
   | .inr ts' =>if 12<ts'.length then .rt (rt ((i:Int),16))else .nx (g ts')))
  (hend:∀ts,jv ts=e.length->f (g ts)=some (.ex (fin ts))):
  V4 f (g [])=some (match wR 0 e []with| .inl x=> .inr (rt x)| .inr ts=> .inl (fin ts)):=by
 have key:∀(es:List (Int×Int)) (i:Nat) (ts:List XT) (k:Nat),e.drop i=es->i=jv ts->ts.length<=12->i<=e.length->es.length<k->
   iZ f k (g ts)=some (match wR i es ts with| .inl x=> .inr (rt x)| .inr ts=> .inl (fin ts)):=by
  intro es;induction es with
  |nil=>
   intro i ts k hd hi hl hle hk;obtain⟨k,rfl⟩:∃k',k=k' +1:=⟨k -1,o5⟩;have:i=e.length:=by have:=congrArg List.length hd;simp at this;omega
   unfold iZ;rw[hend ts o5];rfl
  |cons n es ih=>
   intro i ts k hd hi hl hle hk;obtain⟨k,rfl⟩:∃k',k=k' +1:=⟨k -1,o5⟩;have hn:e[i]? =some n:=by
    have:(e.drop i)[0]? =some n:=by rw[hd];rfl
    simpa using this
   have hlt:=(bg.1 hn).1;unfold iZ;rw[hs i n ts hn hi hl];unfold wR;cases hp:push n ts with
   |inl c=>rfl|inr ts' =>
    simp only;by_cases h12:12<ts'.length
    .rw[if_pos h12,if_pos h12]
    .rw[if_neg h12,if_neg h12];exact ih (i+1) ts' k (by rw[←af,hd];rfl) (by rw[MH hp,hi]) o5 o5 (by simp at hk;omega)
 exact key e 0 [] dZ rfl rfl D5 o5 (by unfold dZ;omega)
theorem a0s:∀(p r:List XT),∃X,oO (p++r)=oO r++X/\X.length=p.length/\(p≠[]->X.head?=some (jv r:Int))
 |[],r=>⟨[],D5,rfl,λh=>absurd rfl h⟩|a::p,r=>by
  obtain⟨X,h1,h2,h3⟩:=a0s p r;refine⟨X++[(jv (p++r):Int)],?_,by simp[h2],λ_=>?_⟩
  .show oO (p++r)++[(jv (p++r):Int)]=_;rw[h1,E8]
  .cases p with
   |nil=>simp at h2;subst h2;rfl|cons b p=>rw[List.head?_append,h3 D5];rfl
theorem QT(p r:List XT)(k:Int)(hk:k=(p.length:Int))(h:p.length+r.length<=100)(hp:p≠[]):
  N9 .i64 (A7 (oO (p++r))) k=(r.length:Int)/\P5 (oO (p++r)) (r.length:Int)=some (jv r:Int)/\aN (oO (p++r)) (Z7 (r.length:Int))=some (jv r:Int)
  /\mi 0 (r.length:Int) (A7 (oO (p++r)))=true/\kH (oO (p++r)) (Z7 0) (Z7 (r.length:Int))=oO r:=by
 obtain⟨X,h1,h2,h3⟩:=a0s p r;have hl:(oO (p++r)).length=r.length+p.length:=by rw[oM];simp;omega
 have hg:(oO (p++r))[r.length]? =some (jv r:Int):=by rw[h1,H9 (by rw[oM];omega),oM,dR,←List.head?_eq_getElem?];exact h3 hp
 refine⟨?_,?_,?_,?_,?_⟩
 .simp only[A7,hl];rw[dO di];omega
 .rw[V8];exact hg
 .exact hg
 .simp only[mi,A7,hl,decide_eq_true_eq];omega
 .show((oO (p++r)).take r.length).drop 0=_;rw[h1,kw,aC (by rw[oM];omega),W9 (by rw[oM];omega)]
theorem RZ(ts:List XT):I5 12 (A7 (oO ts))=decide (12<ts.length):=by rw[show A7 (oO ts)=((ts.length:Nat):Int) by simp[A7,oM]];exact a4t 12 ts.length
theorem ru{l:List α}(x:α)(h:l.length<=1000000):eG l [x]=some (l++[x]):=Pv E5
theorem Ij(ts:List XT)(k:Nat):I5 (A7 (oO ts)) (k:Int)=decide (ts.length<k):=by rw[show A7 (oO ts)=((ts.length:Nat):Int) by simp[A7,oM]];exact a4t _ _
def uu(e:List (Int×Int)):c6G×Int×Int:=match kM e with| .inl x=>([],x)| .inr t=>(t.sts 0,0,0)
theorem XY{e:List (Int×Int)}(h0:e.length≠0){K:c6G×Int×Int->c6G×Int×Int}(h48:¬48<e.length)
  {r:c6G×Int×Int} (h:∀ts,wR 0 e []= .inr ts->r=l7 (I5 1 (A7 (oO ts))) ([],A7 e,4) (stR ts,0,0)) (hi:∀x,wR 0 e []= .inl x->r=([],x)):r=uu e:=by
 unfold uu kM;rw[if_neg h48,if_neg h0];cases hp:wR 0 e []with
 |inl x=>exact hi x hp|inr ts=>
  rw[h ts hp];have:=(Jg e 0 [] ts hp).2 (.inr (by intro he;subst he;exact h0 rfl));match ts,this with
  |[t],_=>simp[oO,A7,I5,stR,jv]|a::b::ts,_=>rw[aP (by simp[A7,oM];omega)];rfl
theorem Nz(e:List (Int×Int)):zA e=some (uu e):=by
 unfold zA;by_cases h48:48<e.length
 .rw[aP (by simp[A7];omega),o7];unfold uu kM;rw[if_pos h48]
 by_cases h0:e.length=0
 .rw[U1 (by simp[A7];omega),o6,U6 (by simp[A7,h0]),o7];unfold uu kM;rw[if_neg h48,if_pos h0]
 rw[U1 (by simp[A7];omega),o6,J7 (by simp[A7];intro h;exact h0 (by simp[h])),o6];refine Y5 (Tj e o5 (λts=>(stR ts,oO ts,(jv ts:Int))) (λts=>(stR ts,oO ts)) (λx=>(([]:c6G),x)) (λi n ts hn hi hl=>?_) (λts hsz=>?_)) ?_
 rotate_left 2
 .rw[←XY h0 h48 (K:=id) (r:=match wR 0 e []with| .inl x=>([],x)| .inr ts=>l7 (I5 1 (A7 (oO ts))) ([],A7 e,4) (stR ts,0,0)) (λts h=>by rw[h]) (λx h=>by rw[h])];cases wR 0 e []with
  |inl x=>rfl|inr ts=>simp only[o9,V6];cases I5 1 (A7 (oO ts))<;>rfl
 .subst hi;have hlt:=(bg.1 hn).1;have hst:=Ec ts;have hof:=oM ts;simp only[aF hn,o7,V8,hn,o9,a8R];rcases(Hu n.1).2.2 with h|h|h|h|h
  .rw[show push n ts= .inl 2 by simp[push,h],h];rfl
  .rw[show push n ts= .inr (.l0 n::ts) by simp[push,h],h,U1 o5,o6,U1 (Sr _),o6,o6,ru _ o5,o9,ru _ o5,o9,dH o5];rw[show oO ts++[(jv ts:Int)]=oO (.l0 n::ts)from rfl,RZ];by_cases hc:12<(XT.l0 n::ts).length
   .simp only[hc,decide_true,if_true,o7]
   .simp only[hc,decide_false,if_false,o6];rfl
  .match ts with
   |[]=>rw[show push n []= .inl 5 by simp[push,h],h];rfl|a::r=>
    obtain⟨p1,p2,p3,p4,p5⟩:=QT [a] r 1 rfl (by simp at hl ⊢;omega) D5;simp only[U3,J4]at p1 p2 p3 p4 p5;have:=Ec (a::r);have:=oM r;simp only[F5]at hl;rw[show push n (a::r)= .inr (.l1 n a::r) by simp[push,h],h,U1 o5,o6,show(1:Int)=((1:Nat):Int)from rfl,Ij,show decide ((a::r).length<1)=false by simp];simp only[Int.natCast_one]at p1 ⊢;rw[o6,aP o5,o7,p1,p2,o9,p3,o9,p4,o7,p5,ru _ o5,o9,ru _ o5,o9,dH o5];rw[show oO r++[(jv r:Int)]=oO (.l1 n a::r)from rfl,RZ];by_cases hc:12<(XT.l1 n a::r).length
    .simp only[hc,decide_true,if_true,o7]
    .simp only[hc,decide_false,if_false,o6,stR,XT.sts,E8,jv,XT.size,iO]
  .match ts with
   |[]=>rw[show push n []= .inl 5 by simp[push,h],h];rfl|[a]=>rw[show push n [a]= .inl 5 by simp[push,h],h];rfl|b::a::r=>
    obtain⟨p1,p2,p3,p4,p5⟩:=QT [b,a] r 2 rfl (by simp at hl ⊢;omega) D5;simp only[U3,J4]at p1 p2 p3 p4 p5;have:=Ec (b::a::r);have:=oM r;simp only[F5]at hl;rw[show push n (b::a::r)= .inr (.l2 n a b::r) by simp[push,h],h,U1 o5,o6,show(2:Int)=((2:Nat):Int)from rfl,Ij,show decide ((b::a::r).length<2)=false by simp];rw[o6,aP o5,o7,show((2:Nat):Int)=2 from rfl,p1,p2,o9,p3,o9,p4,o7,p5,ru _ o5,o9,ru _ o5,o9,dH o5];rw[show oO r++[(jv r:Int)]=oO (.l2 n a b::r)from rfl,RZ];by_cases hc:12<(XT.l2 n a b::r).length
    .simp only[hc,decide_true,if_true,o7]
    .simp only[hc,decide_false,if_false,o6,stR,XT.sts,E8,jv,XT.size,iO]
  .match ts with
   |[]=>rw[show push n []= .inl 5 by simp[push,h],h];rfl|[a]=>rw[show push n [a]= .inl 5 by simp[push,h],h];rfl|[b,a]=>rw[show push n [b,a]= .inl 5 by simp[push,h],h];rfl|c::b::a::r=>
    obtain⟨p1,p2,p3,p4,p5⟩:=QT [c,b,a] r 3 rfl (by simp at hl ⊢;omega) D5;simp only[U3,J4]at p1 p2 p3 p4 p5;have:=Ec (c::b::a::r);have:=oM r;simp only[F5]at hl;rw[show push n (c::b::a::r)= .inr (.l3 n a b c::r) by simp[push,h],h,U1 o5,o6,show(3:Int)=((3:Nat):Int)from rfl,Ij,show decide ((c::b::a::r).length<3)=false by simp];rw[o6,aP o5,o7,show((3:Nat):Int)=3 from rfl,p1,p2,o9,p3,o9,p4,o7,p5,ru _ o5,o9,ru _ o5,o9,dH o5];rw[show oO r++[(jv r:Int)]=oO (.l3 n a b c::r)from rfl,RZ];by_cases hc:12<(XT.l3 n a b c::r).length
    .simp only[hc,decide_true,if_true,o7]
    .simp only[hc,decide_false,if_false,o6,stR,XT.sts,E8,jv,XT.size,iO]
 .simp only[hsz,aS];rfl
def pd(l:c6G)(k:Nat):c6G:=l++List.replicate k 0
theorem a8f(l:c6G)(m:Nat):P5 (pd l (m+1)) (l.length:Int)=some 0:=by rw[V8];unfold pd;rw[H9 o5,dR];rfl
theorem b2m(l:c6G)(m:Nat):aN (pd l (m+1)) (Z7 (l.length:Int))=some 0:=by have:=a8f l m;rw[V8]at this;exact this
theorem b4D(l:c6G)(m:Nat)(v:Int):fD (pd l (m+1)) (Z7 (l.length:Int)) v=pd (l++[v]) m:=by show(l++List.replicate (m+1) 0).set l.length v=_;rw[lW _ _ o5,dR,oh];simp[pd]
theorem Uc(l:c6G)(m:Nat)(v w:Int):fD (pd (l++[v]) m) (Z7 (l.length:Int)) w=pd (l++[w]) m:=by show(l++[v]++List.replicate m 0).set l.length w=_;rw[E8,lW _ _ o5,dR];simp[pd]
theorem PO(l:c6G)(m:Nat)(v:Int):P5 (pd (l++[v]) m) (l.length:Int)=some v:=by rw[V8];unfold pd;rw[E8,H9 o5,dR];rfl
theorem PS(l:c6G)(m:Nat)(v:Int):aN (pd (l++[v]) m) (Z7 (l.length:Int))=some v:=by have:=PO l m v;rw[V8]at this;exact this
theorem Ed(e:List (Int×Int)):xy e=some (uu e):=by
 unfold xy;by_cases h48:48<e.length
 .rw[aP (by simp[A7];omega),o7];unfold uu kM;rw[if_pos h48]
 by_cases h0:e.length=0
 .rw[U1 (by simp[A7];omega),o6,U6 (by simp[A7,h0]),o7];unfold uu kM;rw[if_neg h48,if_pos h0]
 rw[U1 (by simp[A7];omega),o6,J7 (by simp[A7];intro h;exact h0 (by simp[h])),o6];rw[show BD (A7 e) (0:Int)=some (pd (stR []) (e.length -jv [])) by simp[BD,A7,pd,stR,jv];omega,o9];refine Y5 (Tj e o5 (λts=>(pd (stR ts) (e.length -jv ts),oO ts,(jv ts:Int))) (λts=>(pd (stR ts) (e.length -jv ts),oO ts)) (λx=>(([]:c6G),x)) (λi n ts hn hi hl=>?_) (λts hsz=>?_)) ?_
 rotate_left 2
 .rw[←XY h0 h48 (K:=id) (r:=match wR 0 e []with| .inl x=>([],x)| .inr ts=>l7 (I5 1 (A7 (oO ts))) ([],A7 e,4) (stR ts,0,0)) (λts h=>by rw[h]) (λx h=>by rw[h])];cases hp:wR 0 e []with
  |inl x=>rfl|inr ts=>
   have:=(Jg e 0 [] ts hp).1;have hz:e.length -jv ts=0:=by have:=congrArg List.length this;rw[MF]at this;simp[JH]at this;omega
   simp only[o9,V6,hz,pd,List.replicate_zero,G7];cases I5 1 (A7 (oO ts))<;>rfl
 .subst hi;have hlt:=(bg.1 hn).1;have hst:=Ec ts;have hof:=oM ts;obtain⟨m,hm⟩:∃m,e.length -jv ts=m+1:=⟨e.length -jv ts -1,o5⟩;simp only[aF hn,o7,V8 e,hn,o9,a6M,hm];rw[←hst];simp only[a8f,b2m,o9,b4D,PO,PS,Uc];rw[hst];rcases(Hu n.1).2.2 with h|h|h|h|h
  .rw[show push n ts= .inl 2 by simp[push,h],h];rfl
  .have e0:N9 .i64 (A7 (oO ts)) 0=((oO ts).length:Int):=by rw[dO (by unfold eH A7;omega)];simp[A7]
   rw[show push n ts= .inr (.l0 n::ts) by simp[push,h],h,U1 o5,o6,U1 (Sr _),o6,o6,e0,show mi 0 ((oO ts).length:Int) (A7 (oO ts))=true by simp[mi,A7],o7,
    show kH (oO ts) (Z7 0) (Z7 ((oO ts).length:Int))=oO ts by simp[kH,Z7],ru _ o5,o9,dH o5]
   rw[show oO ts++[(jv ts:Int)]=oO (.l0 n::ts)from rfl,RZ];by_cases hc:12<(XT.l0 n::ts).length
   .simp only[hc,decide_true,if_true,o7]
   .simp only[hc,decide_false,if_false,o6,jv,XT.size,stR,XT.sts,show e.length -(jv ts+1)=m by omega]
  .match ts with
   |[]=>rw[show push n []= .inl 5 by simp[push,h],h];rfl|a::r=>
    obtain⟨p1,p2,p3,p4,p5⟩:=QT [a] r 1 rfl (by simp at hl ⊢;omega) D5;simp only[U3,J4]at p1 p2 p3 p4 p5;have:=Ec (a::r);have:=oM r;simp only[F5]at hl;rw[show push n (a::r)= .inr (.l1 n a::r) by simp[push,h],h,U1 o5,o6,show(1:Int)=((1:Nat):Int)from rfl,Ij,show decide ((a::r).length<1)=false by simp];simp only[Int.natCast_one]at p1 ⊢;rw[o6,aP o5,o7,p1,p2,o9,p3,o9,p4,o7,p5];rw[←hst]
    try simp only[Uc,PO,PS,o9]
    rw[hst,ru _ o5,o9,dH o5];rw[show oO r++[(jv r:Int)]=oO (.l1 n a::r)from rfl,RZ];have hz:=MH (show push n (a::r)= .inr (.l1 n a::r) by simp[push,h]);by_cases hc:12<(XT.l1 n a::r).length
    .simp only[hc,decide_true,if_true,o7]
    .simp only[hc,decide_false,if_false,o6,hz,show e.length -(jv (a::r)+1)=m by omega,stR,XT.sts,E8]
  .match ts with
   |[]=>rw[show push n []= .inl 5 by simp[push,h],h];rfl|[a]=>rw[show push n [a]= .inl 5 by simp[push,h],h];rfl|b::a::r=>
    obtain⟨p1,p2,p3,p4,p5⟩:=QT [b,a] r 2 rfl (by simp at hl ⊢;omega) D5;simp only[U3,J4]at p1 p2 p3 p4 p5;have:=Ec (b::a::r);have:=oM r;simp only[F5]at hl;rw[show push n (b::a::r)= .inr (.l2 n a b::r) by simp[push,h],h,U1 o5,o6,show(2:Int)=((2:Nat):Int)from rfl,Ij,show decide ((b::a::r).length<2)=false by simp];rw[o6,aP o5,o7,show((2:Nat):Int)=2 from rfl,p1,p2,o9,p3,o9,p4,o7,p5];rw[←hst]
    try simp only[Uc,PO,PS,o9]
    rw[hst,ru _ o5,o9,dH o5];rw[show oO r++[(jv r:Int)]=oO (.l2 n a b::r)from rfl,RZ];have hz:=MH (show push n (b::a::r)= .inr (.l2 n a b::r) by simp[push,h]);by_cases hc:12<(XT.l2 n a b::r).length
    .simp only[hc,decide_true,if_true,o7]
    .rw[hz,show e.length -(jv (b::a::r)+1)=m by omega,show stR (.l2 n a b::r)=stR (b::a::r)++[(jv r:Int)] by simp only[stR,XT.sts,E8,jv]];simp only[hc,decide_false,if_false,o6]
  .match ts with
   |[]=>rw[show push n []= .inl 5 by simp[push,h],h];rfl|[a]=>rw[show push n [a]= .inl 5 by simp[push,h],h];rfl|[b,a]=>rw[show push n [b,a]= .inl 5 by simp[push,h],h];rfl|c::b::a::r=>
    obtain⟨p1,p2,p3,p4,p5⟩:=QT [c,b,a] r 3 rfl (by simp at hl ⊢;omega) D5;simp only[U3,J4]at p1 p2 p3 p4 p5;have:=Ec (c::b::a::r);have:=oM r;simp only[F5]at hl;rw[show push n (c::b::a::r)= .inr (.l3 n a b c::r) by simp[push,h],h,U1 o5,o6,show(3:Int)=((3:Nat):Int)from rfl,Ij,show decide ((c::b::a::r).length<3)=false by simp];rw[o6,aP o5,o7,show((3:Nat):Int)=3 from rfl,p1,p2,o9,p3,o9,p4,o7,p5];rw[←hst]
    try simp only[Uc,PO,PS,o9]
    rw[hst,ru _ o5,o9,dH o5];rw[show oO r++[(jv r:Int)]=oO (.l3 n a b c::r)from rfl,RZ];have hz:=MH (show push n (c::b::a::r)= .inr (.l3 n a b c::r) by simp[push,h]);by_cases hc:12<(XT.l3 n a b c::r).length
    .simp only[hc,decide_true,if_true,o7]
    .rw[hz,show e.length -(jv (c::b::a::r)+1)=m by omega,show stR (.l3 n a b c::r)=stR (c::b::a::r)++[(jv r:Int)] by simp only[stR,XT.sts,E8,jv]];simp only[hc,decide_false,if_false,o6]
 .simp only[hsz,aS];rfl
end Go.GP
namespace Go.GP
open Gt
set_option maxRecDepth 100000
def VT(t:Int×Int):Prop:=t=(1,0)\/t=(2,0)\/t=(3,0)\/t=(4,0)\/t=(5,0)\/∃e,t=(6,e)
theorem LH{t:Int×Int}{en:List bK}(h:vty t en=true):VT t:=by
 obtain⟨k,e⟩:=t;unfold vty at h;simp only at h;cases h6:C9 k 6
 .rw[h6,o6]at h;cases h1:U7 1 k<;>rw[h1]at h
  .cases h
  cases h5:U7 k 5<;>rw[h5]at h
  .cases h
  simp only[o7,gp]at h;rw[pg]at h1 h5;subst h;have:k=1\/k=2\/k=3\/k=4\/k=5:=o5;rcases this with rfl|rfl|rfl|rfl|rfl<;>simp[VT]
 .rw[gp]at h6;subst h6;exact .inr (.inr (.inr (.inr (.inr ⟨e,rfl⟩))))
def EN(n:Int×Int)(ops:List (Int×Int))(sg:Y0):Option ((Int×Int)×Int):=
 l7 (H5 (C9 n.2 0)) (l9 (bI n.1) λu=>l7 (H5 u) (some ((0,0),2)) (dB n ops sg)) (dB n ops sg)
def uY(n:Int×Int)(ops:List (Int×Int))(sg:Y0):Prop:=∃r:(Int×Int)×Int,DX n ops sg=some r/\EN n ops sg=some r/\(r.2=0->VT r.1)
variable {k:Int}
theorem VT.lit(h:1<=k/\k<=5):VT (k,0):=by have:k=1\/k=2\/k=3\/k=4\/k=5:=o5;rcases this with rfl|rfl|rfl|rfl|rfl<;>simp[VT]
theorem TU(a b:Int):U7 a b= !I5 b a:=by simp only[I5,U7];rw[←decide_not];congr 1;simp
theorem Gm{α β:Type}(o:Option β)(f:α->Option β):l9 (l9 o λx=>some (Sum.inr x)) (λq=>Z8 q f λr=>some r)=o:=by cases o<;>rfl
theorem VT.enum(e:Int):VT (6,e):=.inr (.inr (.inr (.inr (.inr ⟨e,rfl⟩))))
theorem tH{R E:Option ((Int×Int)×Int)}{c:Int}(hc:c≠0)(h1:R=some ((0,0),c))(h2:E=some ((0,0),c)):∃r:(Int×Int)×Int,R=some r/\E=some r/\(r.2=0->VT r.1):=⟨_,h1,h2,λh=>absurd h hc⟩
theorem nok{R E:Option ((Int×Int)×Int)}{t:Int×Int}(hv:VT t)(h1:R=some (t,0))(h2:E=some (t,0)):∃r:(Int×Int)×Int,R=some r/\E=some r/\(r.2=0->VT r.1):=⟨_,h1,h2,λ_=>hv⟩
def RR(a0:Int×Int)(a1:List (Int×Int))(a2:Y0):Option ((Int×Int)×Int):=
 l9 (yC a0 a2) λ(x:Bool)=>l7 (H5 x) (some ((0,0),3)) (l9 (Ad a0 a2) λ(x:Bool)=>l7 (H5 x) (some ((0,0),6))
  (l7 (C9 (A7 a1) 0) (l9 (qh a0 a2) λ(x:H6×Bool)=>l7 (H5 x.2) (some ((0,0),8)) (some (x.1,0)))
  (l7 (C9 (A7 a1) 1) (l9 (P5 a1 0) λ(x:H6)=>l9 (yD a0 x a2) λ(x:H6×Bool)=>l7 (H5 x.2) (some ((0,0),8)) (some (x.1,0)))
  (l7 (C9 (A7 a1) 2) (l9 (P5 a1 0) λ(x:H6)=>l9 (P5 a1 1) λ(x_1:H6)=>l9 (AZ a0.1 x x_1) λ(x:H6×Bool)=>l7 (H5 x.2) (some ((0,0),8)) (some (x.1,0)))
  (l9 (P5 a1 1) λ(x:H6)=>l9 (P5 a1 0) λ(x_1:H6)=>l7 (C9 x_1.1 1) (l9 (P5 a1 1) λ(x_2:H6)=>l9 (P5 a1 2) λ(x_3:H6)=>
   l7 (H5 (iV (C9 x_2.1 x_3.1) (C9 x_2.2 x_3.2))) (some ((0,0),8)) (some (x,0))) (l7 (H5 false) (some ((0,0),8)) (some (x,0))))))))
theorem b7v(n:Int×Int)(ops:List (Int×Int))(sg:Y0):DX n ops sg=l7 (H5 (C9 n.2 0)) (l9 (kT n.1) λx=>l7 x (RR n ops sg) (some ((0,0),2))) (RR n ops sg):=by
 unfold DX;cases C9 n.2 0
 .simp only[P9,o7];cases kT n.1 with
  |none=>rfl|some b=>cases b<;>rfl
 .rfl
theorem KO{op N:Int}{ops:List (Int×Int)}{sg:Y0}(h1:bI op=some true)(h2:kT op=some true)
  (h:∃r:(Int×Int)×Int,RR (op,N) ops sg=some r/\dB (op,N) ops sg=some r/\(r.2=0->VT r.1)):uY (op,N) ops sg:=by
 unfold uY;rw[b7v];unfold EN;dsimp only;rw[h1,h2];cases C9 N 0<;>exact h
theorem QN{op N:Int}{ops:List (Int×Int)}{sg:Y0}(h1:bI op=some false)(h2:kT op=some false)
  (h:∃r:(Int×Int)×Int,RR (op,0) ops sg=some r/\dB (op,0) ops sg=some r/\(r.2=0->VT r.1)):uY (op,N) ops sg:=by
 unfold uY;rw[b7v];unfold EN;dsimp only;rw[h1,h2];cases hz:C9 N 0
 .exact tH (c:=2) J8 rfl rfl
 .rw[gp]at hz;subst hz;exact h
section
variable (N:Int) (sg:Y0)
theorem a7L(hk:k=1\/k=2\/k=3\/k=4\/k=5):uY (k,N) [] sg:=by
 have hv:vty (k,0) sg.1=true:=by rcases hk with rfl|rfl|rfl|rfl|rfl<;>rfl
 have hm:bI k=some true/\kT k=some true:=by rcases hk with rfl|rfl|rfl|rfl|rfl<;>exact⟨rfl,rfl⟩
 refine KO hm.1 hm.2 ?_;have key:dB (k,N) [] sg=lq N k sg:=by rcases hk with rfl|rfl|rfl|rfl|rfl<;>exact Gm _ _
 have key2:RR (k,N) [] sg=l9 (l9 (eQ (k,0) sg.1) λ(x:H6)=>l7 (U7 x.1 N) (some (U7 N x.2)) (some false)) λ(x:Bool)=>l7 (H5 x) (some ((0,0),3)) (some ((k,0),0)):=by rcases hk with rfl|rfl|rfl|rfl|rfl<;>rfl
 rw[key,key2];unfold lq;rw[BO,Ji,o9,o9,FY,FY];cases U7 (bnd (k,0) sg.1).1 N
 .exact tH (c:=3) J8 rfl rfl
 cases U7 N (bnd (k,0) sg.1).2
 .exact tH (c:=3) J8 rfl rfl
 .exact nok (LH hv) rfl rfl
theorem a6a(hN:eH N):uY (6,N) [] sg:=by
 have hq:0<=N->aO .i64 N 16=N / 16:=λh=>by rw[Po (by rw[nH h];unfold eH at*;omega),nH h]
 refine KO rfl rfl ?_;have hf:Ad (6,N) sg=l7 (I5 (aO .i64 N 16) (A7 sg.1)) (l9 (P5 sg.1 (aO .i64 N 16)) λ(x:bK)=>some (I5 (fE N 16) (A7 x.2))) (some false):=rfl;have hl:qh (6,N) sg=some ((6,aO .i64 N 16),vty (6,aO .i64 N 16) sg.1):=by unfold qh;simp only[oz];rfl
 rw[show dB (6,N) [] sg=CS N sg from Gm _ _];unfold RR CS;rw[hf,show yC (6,N) sg=some (U7 0 N)from rfl,hl];by_cases h0:0<=N
 .rw[U1 h0,bH h0,hq h0];by_cases h1:N / 16<A7 sg.1
  .obtain⟨x,hx,_⟩:=vH (show 0<=N / 16 by omega) h1;rw[aP h1,dE h1,hx,show vty (6,N / 16) sg.1=true by unfold vty;simp only[bH (show 0<=N / 16 by omega),aP h1];rfl];simp only[o9,FY];cases U7 (A7 x.2) (fE N 16)
   .exact nok (VT.enum (N / 16)) rfl rfl
   .exact tH (c:=6) J8 rfl rfl
  .have h1' :A7 sg.1<=N / 16:=o5;rw[U1 h1',bH h1'];exact tH (c:=6) J8 rfl rfl
 .rw[aP (show N<0 by omega),dE (show N<0 by omega)];exact tH (c:=3) J8 rfl rfl
theorem rC(ts:List (Int×Int))(en:Y0):(∃x,P5 ts N=some x/\U7 0 N=true/\I5 N (A7 ts)=true/\kV N ts en=some (l7 (vty x en.1) (x,0) ((0,0),8)))\/((U7 0 N=false\/U7 0 N=true/\I5 N (A7 ts)=false)/\kV N ts en=some ((0,0),6)):=by
 unfold kV;rw[FY N 0,TU (A7 ts) N];cases h0:U7 0 N
 .exact .inr ⟨.inl D5,rfl⟩
 cases h1:I5 N (A7 ts)
 .exact .inr ⟨.inr D5,rfl⟩
 rw[pg]at h0;rw[zo]at h1;obtain⟨x,hx,_⟩:=vH h0 h1;rw[hx];simp only[nO,Bool.not_false,o6,o7,o9,qG];exact .inl ⟨x,rfl,D5,D5,by cases vty x en.1<;>rfl⟩
theorem b1V:uY (7,N) [] sg:=by
 refine KO rfl rfl ?_;rw[show dB (7,N) [] sg=kV N sg.2.2.1 sg from Gm _ _];have hf:Ad (7,N) sg=l7 (U7 0 N) (some (I5 N (A7 sg.2.2.1))) (some false):=rfl;unfold RR;rw[hf,show yC (7,N) sg=some true from rfl];rcases rC N sg.2.2.1 sg with⟨x,h1,h2,h3,h4⟩|⟨h1|⟨h1,h2⟩,h4⟩
 .have hl:qh (7,N) sg=some (x,vty x sg.1):=by
   unfold qh;dsimp only;rw[h1];simp only[oz];rfl
  rw[h2,h3,h4,hl];cases hv:vty x sg.1
  .exact tH (c:=8) J8 rfl rfl
  .exact nok (LH hv) rfl rfl
 .rw[h1,h4];exact tH (c:=6) J8 rfl rfl
 .rw[h1,h2,h4];exact tH (c:=6) J8 rfl rfl
theorem a7K:uY (8,N) [] sg:=by
 refine KO rfl rfl ?_;rw[show dB (8,N) [] sg=kV N sg.2.2.2.1 sg from Gm _ _];have hf:Ad (8,N) sg=l7 (U7 0 N) (some (I5 N (A7 sg.2.2.2.1))) (some false):=rfl;unfold RR;rw[hf,show yC (8,N) sg=some true from rfl];rcases rC N sg.2.2.2.1 sg with⟨x,h1,h2,h3,h4⟩|⟨h1|⟨h1,h2⟩,h4⟩
 .have hl:qh (8,N) sg=some (x,vty x sg.1):=by
   unfold qh;dsimp only;rw[h1];simp only[oz];rfl
  rw[h2,h3,h4,hl];cases hv:vty x sg.1
  .exact tH (c:=8) J8 rfl rfl
  .exact nok (LH hv) rfl rfl
 .rw[h1,h4];exact tH (c:=6) J8 rfl rfl
 .rw[h1,h2,h4];exact tH (c:=6) J8 rfl rfl
theorem a5Z:uY (9,N) [] sg:=QN rfl rfl (nok (VT.lit (k:=5) o5) rfl rfl)
theorem a2u:uY (35,N) [] sg:=by
 refine QN rfl rfl ?_;rw[show dB (35,0) [] sg=sD (35,0) sg from Gm _ _];unfold RR sD;simp only[yC,Ad,qh,oz,o9];cases sg.2.2.2.2.2
 .exact tH (c:=6) J8 rfl rfl
 .exact nok (VT.lit (k:=2) o5) rfl rfl
theorem a7M(hk:k=36\/k=37\/k=38\/k=39):uY (k,N) [] sg:=by
 have hm:bI k=some true/\kT k=some true/\C9 k 35=false:=by rcases hk with rfl|rfl|rfl|rfl<;>exact⟨rfl,rfl,rfl⟩
 refine KO hm.1 hm.2.1 ?_;rw[show dB (k,N) [] sg=sD (k,N) sg by rcases hk with rfl|rfl|rfl|rfl<;>exact Gm _ _];have hr:RR (k,N) [] sg=l9 (l7 sg.2.2.2.2.2 (l7 (U7 0 N) (some (I5 N (A7 sg.2.2.2.2.1))) (some false)) (some false)) λ(x:Bool)=>l7 (H5 x) (some ((0,0),6))
   (l9 (qh (k,N) sg) λ(x:H6×Bool)=>l7 (H5 x.2) (some ((0,0),8)) (some (x.1,0))):=by rcases hk with rfl|rfl|rfl|rfl<;>rfl
 rw[hr];unfold sD;rw[hm.2.2,o6];cases sg.2.2.2.2.2
 .exact tH (c:=6) J8 rfl rfl
 simp only[o7,H7,o6];rcases rC N sg.2.2.2.2.1 sg with⟨x,h1,h2,h3,h4⟩|⟨h1|⟨h1,h2⟩,h4⟩
 .rw[h2,h3,h4];have hl:qh (k,N) sg=l9 (some (l7 (C9 k 36) (l7 (vty x sg.1) (l7 (C9 x.1 2) true (C9 x.1 3)) false) (l7 (C9 k 39) (l7 (vty x sg.1) (l7 (C9 x.1 2) true (l7 (C9 x.1 3) true (l7 (C9 x.1 4) true (C9 x.1 5)))) false) (l7 (vty x sg.1) (C9 x.1 1) false)))) λb=>some (x,b):=by
   unfold qh;simp only[oz,wH,Ba];rcases hk with rfl|rfl|rfl|rfl<;>(rw[h1];simp only[C9,Int.reduceEq,decide_true,decide_false,o7,o6,o9];cases vty x sg.1<;>cases decide (x.1=2)<;>cases decide (x.1=3)<;>cases decide (x.1=4)<;>rfl)
  rw[hl];simp only[o9,nY];cases hv:vty x sg.1
  .rcases hk with rfl|rfl|rfl|rfl<;>exact tH (c:=8) J8 rfl rfl
  .have hx:=LH hv;rcases hk with rfl|rfl|rfl|rfl<;>rcases hx with rfl|rfl|rfl|rfl|rfl|⟨e,rfl⟩ <;>
    first
    |exact nok (LH hv) rfl rfl
    |exact tH (c:=8) J8 rfl rfl
 .rw[h1,h4];exact tH (c:=6) J8 rfl rfl
 .rw[h1,h2,h4];exact tH (c:=6) J8 rfl rfl
end
end Go.GP
namespace Go.GP
open Gt
set_option maxRecDepth 100000
variable {a:Int×Int}{k:Int}{b:Int×Int}
section
variable (N:Int) (sg:Y0)
theorem b1W(hk:k=10\/k=25\/k=31\/k=32)(ha:VT a):uY (k,N) [a] sg:=by
 have hm:bI k=some false/\kT k=some false:=by rcases hk with rfl|rfl|rfl|rfl<;>exact⟨rfl,rfl⟩
 refine QN hm.1 hm.2 ?_;rcases hk with rfl|rfl|rfl|rfl<;>rcases ha with rfl|rfl|rfl|rfl|rfl|⟨e,rfl⟩ <;>
  first
  |exact nok (VT.lit (k:=1) o5) rfl rfl
  |exact nok (VT.lit (k:=2) o5) rfl rfl
  |exact nok (VT.lit (k:=3) o5) rfl rfl
  |exact nok (VT.lit (k:=4) o5) rfl rfl
  |exact tH (c:=8) J8 rfl rfl
theorem a7J(hk:k=13\/k=23\/k=24\/k=27\/k=28\/k=29\/k=30)(ha:VT a)(hb:VT b):uY (k,N) [a,b] sg:=by
 have hm:bI k=some false/\kT k=some false:=by rcases hk with rfl|rfl|rfl|rfl|rfl|rfl|rfl<;>exact⟨rfl,rfl⟩
 refine QN hm.1 hm.2 ?_;rcases hk with rfl|rfl|rfl|rfl|rfl|rfl|rfl<;>rcases ha with rfl|rfl|rfl|rfl|rfl|⟨e,rfl⟩<;>rcases hb with rfl|rfl|rfl|rfl|rfl|⟨f,rfl⟩ <;>
  first
  |exact tH (c:=8) J8 rfl rfl
  |exact nok (VT.lit (k:=1) o5) rfl rfl
  |exact nok (VT.lit (k:=2) o5) rfl rfl
  |exact nok (VT.lit (k:=3) o5) rfl rfl
  |exact nok (VT.lit (k:=4) o5) rfl rfl
  |exact nok (VT.lit (k:=5) o5) rfl rfl
theorem a6b(hk:k=14\/k=15\/k=16)(ha:VT a)(hb:VT b):uY (k,N) [a,b] sg:=by
 have hm:bI k=some true/\kT k=some true:=by rcases hk with rfl|rfl|rfl<;>exact⟨rfl,rfl⟩
 refine KO hm.1 hm.2 ?_;have hr:RR (k,N) [a,b] sg=l9 (l7 (U7 0 N) (some (U7 N 5)) (some false)) λx=>l7 (H5 x) (some ((0,0),3)) (l9 (AZ k a b) λx=>l7 (H5 x.2) (some ((0,0),8)) (some (x.1,0))):=by rcases hk with rfl|rfl|rfl<;>rfl
 have he:dB (k,N) [a,b] sg=l9 (l7 (U7 0 N) (some (U7 N 5)) (some false)) λx=>l7 (H5 x) (some ((0,0),3)) (l9 (pY k [a,b]) λx=>l7 (H5 x.2) (some ((0,0),8)) (some (x.1,0))):=by
  rcases hk with rfl|rfl|rfl <;>
   (show l9 (l9 (oG N) λx=>l7 (H5 x) (some (Sum.inr (((0:Int),(0:Int)),(3:Int)))) (some (.inl ((0:Int),(0:Int))))) _=_
    unfold oG;cases U7 0 N<;>cases U7 N 5<;>rfl)
 rw[hr,he];cases U7 0 N
 .exact tH (c:=3) J8 rfl rfl
 cases U7 N 5
 .exact tH (c:=3) J8 rfl rfl
 rcases hk with rfl|rfl|rfl<;>rcases ha with rfl|rfl|rfl|rfl|rfl|⟨e,rfl⟩<;>rcases hb with rfl|rfl|rfl|rfl|rfl|⟨f,rfl⟩ <;>
  first
  |exact tH (c:=8) J8 rfl rfl
  |exact nok (VT.lit (k:=2) o5) rfl rfl
  |exact nok (VT.lit (k:=3) o5) rfl rfl
  |exact nok (VT.lit (k:=4) o5) rfl rfl
theorem a6c(hk:k=11\/k=12\/k=17\/k=18\/k=19\/k=20\/k=21\/k=22)(ha:VT a):uY (k,N) [a,b] sg:=by
 have hm:bI k=some false/\kT k=some false:=by rcases hk with rfl|rfl|rfl|rfl|rfl|rfl|rfl|rfl<;>exact⟨rfl,rfl⟩
 refine QN hm.1 hm.2 ?_;have hr:RR (k,0) [a,b] sg=l9 (AZ k a b) λx=>l7 (H5 x.2) (some ((0,0),8)) (some (x.1,0)):=by rcases hk with rfl|rfl|rfl|rfl|rfl|rfl|rfl|rfl<;>rfl
 have he:dB (k,0) [a,b] sg=l9 (pY k [a,b]) λx=>l7 (H5 x.2) (some ((0,0),8)) (some (x.1,0)):=by rcases hk with rfl|rfl|rfl|rfl|rfl|rfl|rfl|rfl<;>rfl
 rw[hr,he];unfold AZ pY;simp only[show P5 [a,b] 0=some a from rfl,show P5 [a,b] 1=some b from rfl,o9,Ba,wH,kz,nY];cases h1:C9 a.1 b.1
 .rcases hk with rfl|rfl|rfl|rfl|rfl|rfl|rfl|rfl<;>exact tH (c:=8) J8 rfl rfl
 cases h2:C9 a.2 b.2
 .rcases hk with rfl|rfl|rfl|rfl|rfl|rfl|rfl|rfl<;>exact tH (c:=8) J8 rfl rfl
 have ha' :=ha;rcases hk with rfl|rfl|rfl|rfl|rfl|rfl|rfl|rfl<;>rcases ha with rfl|rfl|rfl|rfl|rfl|⟨e,rfl⟩ <;>
  first
  |exact nok ha' rfl rfl
  |exact nok (VT.lit (k:=1) o5) rfl rfl
  |exact tH (c:=8) J8 rfl rfl
theorem b1U{a b c:Int×Int}(ha:VT a)(hb:VT b):uY (26,N) [a,b,c] sg:=by
 refine QN rfl rfl ?_;have hr:RR (26,0) [a,b,c] sg=l7 (C9 a.1 1) (l7 (H5 (iV (C9 b.1 c.1) (C9 b.2 c.2))) (some ((0,0),8)) (some (b,0))) (some ((0,0),8)):=rfl;have he:dB (26,0) [a,b,c] sg=l9 (pY 26 [a,b,c]) λx=>l7 (H5 x.2) (some ((0,0),8)) (some (x.1,0)):=rfl;have he2:pY 26 [a,b,c]=l9 (l7 (C9 a.1 1) (some (Sum.inr (b,iV (C9 b.1 c.1) (C9 b.2 c.2)))) (some (Sum.inr (b,false)))) λ(o:H6⊕H6×Bool)=>Z8 o (λ(x:H6)=>some ((0,0),false)) λ(r:H6×Bool)=>some r:=rfl;rw[hr,he,he2];cases C9 a.1 1
 .exact tH (c:=8) J8 rfl rfl
 cases C9 b.1 c.1
 .exact tH (c:=8) J8 rfl rfl
 cases C9 b.2 c.2
 .exact tH (c:=8) J8 rfl rfl
 .exact nok hb rfl rfl
theorem a0o(ha:VT a):uY (33,N) [a] sg:=by
 refine KO rfl rfl ?_;have he:dB (33,N) [a] sg=uA (33,N) a sg:=Gm _ _;have hr:RR (33,N) [a] sg=l9 (l7 (U7 0 N) (some (I5 N (A7 sg.2.1))) (some false)) λx=>l7 (H5 x) (some ((0,0),6)) (l9 (yD (33,N) a sg) λx=>l7 (H5 x.2) (some ((0,0),8)) (some (x.1,0))):=rfl;have hs:yD (33,N) a sg=l9 (P5 sg.2.1 N) λ(x:eP)=>l9 (dm x.2.1 sg.1) λ(x_1:Bool)=>l7 x_1 (l9 (dm x.2.2.1 sg.1) λ(x_2:Bool)=>l7 x_2 (some (x.2.2.1,iV (C9 a.1 x.2.1.1) (C9 a.2 x.2.1.2))) (some (x.2.2.1,false))) (some (x.2.2.1,false)):=rfl;rw[he,hr,hs];unfold uA;simp only[C9,Int.reduceEq,decide_false,o6,o9,V6,FY N 0,TU (A7 sg.2.1) N];cases h0:U7 0 N
 .exact tH (c:=6) J8 rfl rfl
 cases h1:I5 N (A7 sg.2.1)
 .exact tH (c:=6) J8 rfl rfl
 rw[pg]at h0;rw[zo]at h1;obtain⟨x,hx,_⟩:=vH h0 h1;simp only[o9,V6,nO,o6,hx,qG,oz,P9,o7];cases vty x.2.1 sg.1
 .exact tH (c:=8) J8 rfl rfl
 cases hv:vty x.2.2.1 sg.1
 .exact tH (c:=8) J8 rfl rfl
 simp only[H7,o6,o7,o9];cases iV (decide (a.1=x.2.1.1)) (decide (a.2=x.2.1.2))
 .exact tH (c:=8) J8 rfl rfl
 .exact nok (LH hv) rfl rfl
theorem Xd(hN:eH N)(ha:VT a):uY (34,N) [a] sg:=by
 refine KO rfl rfl ?_;have he:dB (34,N) [a] sg=uA (34,N) a sg:=Gm _ _;have hr:RR (34,N) [a] sg=l9 (l7 (U7 0 N) (some (U7 (fE N 8) 5)) (some false)) λx=>l7 (H5 x) (some ((0,0),3)) (l7 (H5 (I5 (aO .i64 N 8) (A7 sg.2.1))) (some ((0,0),6)) (l9 (yD (34,N) a sg) λx=>l7 (H5 x.2) (some ((0,0),8)) (some (x.1,0)))):=rfl;have hs:yD (34,N) a sg=l9 (P5 sg.2.1 (aO .i64 N 8)) λ(x:eP)=>l7 (C9 a.1 3) (l7 (iV (C9 x.2.1.1 3) (C9 x.2.1.2 0)) (some (a,iV (C9 x.2.2.1.1 4) (C9 x.2.2.1.2 0))) (some (a,false))) (some (a,false)):=rfl;rw[he,hr,hs];unfold uA oG;by_cases h0:0<=N
 case neg=>rw[dE (show N<0 by omega),aP (show N<0 by omega)];exact tH (c:=3) J8 rfl rfl
 have hq:aO .i64 N 8=N / 8:=by rw[Po (by rw[nH h0];unfold eH at*;omega),nH h0]
 rw[bH h0,U1 h0,hq,Aw h0];simp only[C9,Int.reduceEq,decide_true,o7,o6,bH (show 0<=N % 8 by omega),o9];cases U7 (N % 8) 5
 .exact tH (c:=3) J8 rfl rfl
 simp only[H7,o6,o9,V6,U1 (show 0<=N / 8 by omega),TU];cases h1:I5 (N / 8) (A7 sg.2.1)
 .exact tH (c:=6) J8 rfl rfl
 rw[zo]at h1;obtain⟨x,hx,_⟩:=vH (show 0<=N / 8 by omega) h1;simp only[hx,nO,o6,o9,V6,qG,H7];obtain⟨nm,⟨k1,k2⟩,⟨v1,v2⟩,rows⟩:=x;dsimp only;by_cases hK:k1=3/\k2=0
 .obtain⟨rfl,rfl⟩:=hK;by_cases hV:v1=4/\v2=0
  .obtain⟨rfl,rfl⟩:=hV;rcases ha with rfl|rfl|rfl|rfl|rfl|⟨e,rfl⟩ <;>
    first
    |exact nok (VT.lit (k:=3) o5) rfl rfl
    |exact tH (c:=8) J8 rfl rfl
  .have hE:vty (v1,v2) sg.1=true->v1≠4:=λhv h=>by
    subst h;rcases LH hv with h|h|h|h|h|⟨e,h⟩<;>cases h;exact hV ⟨rfl,rfl⟩
   have hR:iV (decide (v1=4)) (decide (v2=0))=false:=by
    by_cases h1:v1=4
    .have:v2≠0:=λh2=>hV ⟨h1,h2⟩;simp[iV,h1,this]
    .simp[iV,h1]
   rw[hR];cases hv:vty (v1,v2) sg.1
   .rcases ha with rfl|rfl|rfl|rfl|rfl|⟨e,rfl⟩<;>exact tH (c:=8) J8 rfl rfl
   .have h4:=hE hv;rw[show decide (v1=4)=false by simp[h4]];rcases ha with rfl|rfl|rfl|rfl|rfl|⟨e,rfl⟩<;>exact tH (c:=8) J8 rfl rfl
 .have hR:iV (decide (k1=3)) (decide (k2=0))=false:=by
   by_cases h1:k1=3
   .have:k2≠0:=λh2=>hK ⟨h1,h2⟩;simp[iV,h1,this]
   .simp[iV,h1]
  rw[hR];cases hv:vty (k1,k2) sg.1
  .rcases ha with rfl|rfl|rfl|rfl|rfl|⟨e,rfl⟩<;>exact tH (c:=8) J8 rfl rfl
  cases hw:vty (v1,v2) sg.1
  .rcases ha with rfl|rfl|rfl|rfl|rfl|⟨e,rfl⟩<;>exact tH (c:=8) J8 rfl rfl
  have h3:k1≠3:=λh=>by subst h;rcases LH hv with h|h|h|h|h|⟨e,h⟩<;>cases h;exact hK ⟨rfl,rfl⟩
  simp only[show decide (k1=3)=false by simp[h3],H7,o6,o7,o9];cases iV (decide (a.1=k1)) (decide (a.2=k2))
  .cases decide (a.1=3)<;>exact tH (c:=8) J8 rfl rfl
  .cases decide (a.1=3)<;>exact tH (c:=8) J8 rfl rfl
theorem a4J(n:Int×Int)(hN:eH n.2)(ops:List (Int×Int))(hv:∀t∈ops,VT t)(hl:A7 ops=arF n.1):uY n ops sg:=by
 obtain⟨op,N⟩:=n;dsimp only at hN hl;have hr:1<=op/\op<=39:=by
  by_cases h:1<=op/\op<=39
  .exact h
  .have:arF op=-1:=by unfold arF;rw[Zn h];rfl
   rw[this]at hl;simp[A7]at hl
 have hc:op=1\/op=2\/op=3\/op=4\/op=5\/op=6\/op=7\/op=8\/op=9\/op=10\/op=11\/op=12\/op=13\/op=14\/op=15\/op=16\/op=17\/op=18\/op=19\/op=20\/op=21\/op=22\/op=23\/op=24\/op=25\/op=26\/op=27\/op=28\/op=29\/op=30\/op=31\/op=32\/op=33\/op=34\/op=35\/op=36\/op=37\/op=38\/op=39:=o5;have L0:arF op=0->ops=[]:=λh=>by rw[h]at hl;simp only[A7]at hl;exact bf.1 o5
 have L1:arF op=1->∃a,ops=[a]/\VT a:=λh=>by
  rw[h]at hl;simp only[A7]at hl;match ops,hl,hv with
  |[a],_,hv=>exact⟨a,rfl,hv a D5⟩|[],hl,_=>simp at hl|a::b::r,hl,_=>simp at hl;omega
 have L2:arF op=2->∃a b,ops=[a,b]/\VT a/\VT b:=λh=>by
  rw[h]at hl;simp only[A7]at hl;match ops,hl,hv with
  |[a,b],_,hv=>exact⟨a,b,rfl,hv a D5,hv b D5⟩|[],hl,_=>simp at hl|[a],hl,_=>simp at hl|a::b::c::r,hl,_=>simp at hl;omega
 have L3:arF op=3->∃a b c,ops=[a,b,c]/\VT a/\VT b:=λh=>by
  rw[h]at hl;simp only[A7]at hl;match ops,hl,hv with
  |[a,b,c],_,hv=>exact⟨a,b,c,rfl,hv a D5,hv b D5⟩|[],hl,_=>simp at hl|[a],hl,_=>simp at hl|[a,b],hl,_=>simp at hl|a::b::c::d::r,hl,_=>simp at hl;omega
 rcases hc with rfl|rfl|rfl|rfl|rfl|rfl|rfl|rfl|rfl|rfl|rfl|rfl|rfl|rfl|rfl|rfl|rfl|rfl|rfl|rfl|rfl|rfl|rfl|rfl|rfl|rfl|rfl|rfl|rfl|rfl|rfl|rfl|rfl|rfl|rfl|rfl|rfl|rfl|rfl <;>
  first
  |(rw[L0 rfl];first|exact a7L N sg o5|exact a6a N sg hN|exact b1V N sg|exact a7K N sg|exact a5Z N sg|exact a2u N sg|exact a7M N sg o5)
  |(obtain⟨a,rfl,ha⟩:=L1 rfl;first|exact b1W N sg o5 ha|exact a0o N sg ha|exact Xd N sg hN ha)
  |(obtain⟨a,b,rfl,ha,hb⟩:=L2 rfl;first|exact a7J N sg o5 ha hb|exact a6b N sg o5 ha hb|exact a6c N sg o5 ha)
  |(obtain⟨a,b,c,rfl,ha,hb⟩:=L3 rfl;exact b1U N sg ha hb)
end
end Go.GP
namespace Go.GP
open Gt
set_option maxRecDepth 100000
def XT.wf:XT->Prop
 | .l0 n=>arF n.1=0| .l1 n a=>arF n.1=1/\a.wf| .l2 n a b=>arF n.1=2/\a.wf/\b.wf| .l3 n a b c=>arF n.1=3/\a.wf/\b.wf/\c.wf
theorem b2o{n:Int×Int}{ts ts' :List XT}(h:push n ts= .inr ts')(hw:∀t∈ts,t.wf):∀t∈ts',t.wf:=by
 unfold push at h;split at h
 .cases h;intro t ht;rcases D8.1 ht with rfl|ht
  .assumption
  .exact hw t ht
 split at h
 .split at h
  .cases h;intro t ht;rcases D8.1 ht with rfl|ht
   .exact⟨by assumption,hw _ D5⟩
   .exact hw t (by simp[ht])
  .cases h
 split at h
 .split at h
  .cases h;intro t ht;rcases D8.1 ht with rfl|ht
   .exact⟨by assumption,hw _ D5,hw _ D5⟩
   .exact hw t (by simp[ht])
  .cases h
 split at h
 .split at h
  .cases h;intro t ht;rcases D8.1 ht with rfl|ht
   .exact⟨by assumption,hw _ D5,hw _ D5,hw _ D5⟩
   .exact hw t (by simp[ht])
  .cases h
 .cases h
theorem a0x:∀(es:List (Int×Int)) (i:Nat) (ts ts' :List XT),wR i es ts= .inr ts' ->(∀t∈ts,t.wf)->∀t∈ts',t.wf
 |[],i,ts,ts',h,hw=>by cases h;exact hw|n::es,i,ts,ts',h,hw=>by
  unfold wR at h;cases hp:push n ts with
  |inl c=>rw[hp]at h;cases h|inr t2=>
   rw[hp]at h;simp only at h;split at h
   .cases h
   .exact a0x es (i+1) t2 ts' h (b2o hp hw)
variable {e:List (Int×Int)}
theorem ML{t:XT}(h:kM e= .inr t):t.wf:=by
 unfold kM at h;split at h
 .cases h
 split at h
 .cases h
 split at h
 .cases h
 .rename_i t' hp;cases h;exact a0x e 0 [] [t] hp D5 t D5
 .cases h
def a2L(n:Int×Int)(ops:List (Int×Int))(sg:Y0):(Int×Int)×Int:=(DX n ops sg).getD ((0,0),0)
def Nr(sg:Y0)(n:Int×Int)(ops:List (Int×Int))(i:Nat):(Int×Int)⊕(Int×Int):=if(a2L n ops sg).2=0 then .inr (a2L n ops sg).1 else .inl ((i:Int),(a2L n ops sg).2)
def BA(sg:Y0):XT->Nat->(Int×Int)⊕(Int×Int)
 | .l0 n,o=>Nr sg n [] o
 | .l1 n a,o=>match BA sg a o with
  | .inl x=> .inl x| .inr ta=>Nr sg n [ta] (o+a.size)
 | .l2 n a b,o=>match BA sg a o with
  | .inl x=> .inl x
  | .inr ta=>match BA sg b (o+a.size)with
   | .inl x=> .inl x| .inr tb=>Nr sg n [ta,tb] (o+a.size+b.size)
 | .l3 n a b c,o=>match BA sg a o with
  | .inl x=> .inl x
  | .inr ta=>match BA sg b (o+a.size)with
   | .inl x=> .inl x
   | .inr tb=>match BA sg c (o+a.size+b.size)with
    | .inl x=> .inl x| .inr tc=>Nr sg n [ta,tb,tc] (o+a.size+b.size+c.size)
variable {i:Nat}{t:Int×Int}
theorem PE{sg:Y0}{n:Int×Int}{ops:List (Int×Int)}(hN:eH n.2)(hv:∀t∈ops,VT t)(hl:A7 ops=arF n.1)(h:Nr sg n ops i= .inr t):VT t:=by
 obtain⟨r,h1,h2,h3⟩:=a4J sg n hN ops hv hl;unfold Nr at h;split at h
 .rename_i h0;cases h;have e:a2L n ops sg=r:=by unfold a2L;rw[h1];rfl
  rw[e]at h0 ⊢;exact h3 h0
 .cases h
section
variable (e:List (Int×Int)) (sg:Y0) (z:Int×Int)
def b3j(f:(Int×Int)×List (Int×Int)×Int->Option (Out ((Int×Int)×List (Int×Int)×Int) ((Int×Int)×List (Int×Int)) ((Int×Int)×Int×Int))):Prop:=
 ∀(i:Nat) (n:Int×Int) (s ops:List (Int×Int)),e[i]? =some n->i<=100->A7 ops=arF n.1->(∀t∈ops,VT t)->s.length+ops.length<=100->
  f (z,s++ops,(i:Int))=some (match Nr sg n ops i with| .inl x=> .rt ((0,0),x)| .inr t=> .nx (z,s++[t],((i+1:Nat):Int)))
theorem a6A{f:(Int×Int)×List (Int×Int)×Int->Option (Out ((Int×Int)×List (Int×Int)×Int) ((Int×Int)×List (Int×Int)) ((Int×Int)×Int×Int))}
  (he:e.length<=48) (hI:∀n∈e,eH n.2) (hs:b3j e sg z f):∀(t:XT),t.wf->∀(pre suf s:List (Int×Int)) (k:Nat),e=pre++t.post++suf->s.length<=pre.length->
  iZ f (k+t.size) (z,s,(pre.length:Int))=(match BA sg t pre.length with| .inl x=>some (.inr ((0,0),x))| .inr r=>iZ f k (z,s++[r],((pre.length+t.size:Nat):Int)))/\∀r,BA sg t pre.length= .inr r->VT r:=by
 intro t;have step:∀(i k:Nat) (n:Int×Int) (s ops:List (Int×Int)),e[i]? =some n->A7 ops=arF n.1->(∀t∈ops,VT t)->s.length+ops.length<=100->
   iZ f (k+1) (z,s++ops,(i:Int))=(match Nr sg n ops i with| .inl x=>some (.inr ((0,0),x))| .inr r=>iZ f k (z,s++[r],((i+1:Nat):Int))):=by
  intro i k n s ops h1 h2 h3 h4;rw[iZ,hs i n s ops h1 (by have:=(bg.1 h1).1;omega) h2 h3 h4];cases Nr sg n ops i<;>rfl
 have getn:∀(pre suf:List (Int×Int)) (n:Int×Int),e=pre++[n]++suf->e[pre.length]? =some n:=by intro pre suf n h;rw[h,E8,H9 o5,dR];rfl
 have mem:∀(i:Nat) (n:Int×Int),e[i]? =some n->eH n.2:=λi n h=>hI n (yu h);induction t with
 |l0 n=>
  intro hw pre suf s k hd hl;have hn:=getn pre suf n hd;have hlen:pre.length<e.length:=(bg.1 hn).1;have hz:A7 ([]:List (Int×Int))=arF n.1:=by rw[show arF n.1=0 from hw];rfl
  have h:=step pre.length k n s [] hn hz D5 E5;rw[G7]at h;exact⟨h,λr hr=>PE (mem _ n hn) D5 hz hr⟩
 |l1 n a iha=>
  intro hw pre suf s k hd hl;simp only[XT.post,E8]at hd;have hpa:(pre++a.post).length=pre.length+a.size:=by simp[XT.post_len]
  have hn:=getn (pre++a.post) suf n (by simpa using hd);rw[hpa]at hn;have hlen:=(bg.1 hn).1;obtain⟨i1,i2⟩:=iha hw.2 pre ([n]++suf) s (k+1) (by simpa using hd) hl;simp only[XT.size,BA];rw[show k+(a.size+1)=(k+1)+a.size by omega,i1];cases ht:BA sg a pre.length with
  |inl x=>exact⟨rfl,λr hr=>by cases hr⟩|inr ta=>
   have hz:A7 [ta]=arF n.1:=by rw[show arF n.1=1 from hw.1];rfl
   have hv:∀t∈[ta],VT t:=by simpa using i2 ta ht
   exact⟨step _ k n s [ta] hn hz hv E5,λr hr=>PE (mem _ n hn) hv hz hr⟩
 |l2 n a b iha ihb=>
  intro hw pre suf s k hd hl;simp only[XT.post,E8]at hd;have hpa:(pre++a.post).length=pre.length+a.size:=by simp[XT.post_len]
  have hpb:(pre++a.post++b.post).length=pre.length+a.size+b.size:=by simp[XT.post_len];omega
  have hn:=getn (pre++a.post++b.post) suf n (by simpa using hd);rw[hpb]at hn;have hlen:=(bg.1 hn).1;obtain⟨i1,i2⟩:=iha hw.2.1 pre (b.post++[n]++suf) s (k+1+b.size) (by simpa using hd) hl;simp only[XT.size,BA];rw[show k+(a.size+b.size+1)=(k+1+b.size)+a.size by omega,i1];cases ht:BA sg a pre.length with
  |inl x=>exact⟨rfl,λr hr=>by cases hr⟩|inr ta=>
   have hsa:=a.size_pos;obtain⟨j1,j2⟩:=ihb hw.2.2 (pre++a.post) ([n]++suf) (s++[ta]) (k+1) (by simpa using hd) (by simp[XT.post_len];omega);rw[hpa]at j1 j2;simp only;rw[j1];cases hu:BA sg b (pre.length+a.size)with
   |inl x=>exact⟨rfl,λr hr=>by cases hr⟩|inr tb=>
    have hz:A7 [ta,tb]=arF n.1:=by rw[show arF n.1=2 from hw.1];rfl
    have hv:∀t∈[ta,tb],VT t:=by simpa using ⟨i2 ta ht,j2 tb hu⟩
    have:=step _ k n s [ta,tb] hn hz hv E5;simp only[E8,U3,J4];rw[show pre.length+(a.size+b.size+1)=pre.length+a.size+b.size+1 by omega];exact⟨this,λr hr=>PE (mem _ n hn) hv hz hr⟩
 |l3 n a b c iha ihb ihc=>
  intro hw pre suf s k hd hl;simp only[XT.post,E8]at hd;have hpa:(pre++a.post).length=pre.length+a.size:=by simp[XT.post_len]
  have hpb:(pre++a.post++b.post).length=pre.length+a.size+b.size:=by simp[XT.post_len];omega
  have hpc:(pre++a.post++b.post++c.post).length=pre.length+a.size+b.size+c.size:=by simp[XT.post_len];omega
  have hn:=getn (pre++a.post++b.post++c.post) suf n (by simpa using hd);rw[hpc]at hn;have hlen:=(bg.1 hn).1;obtain⟨i1,i2⟩:=iha hw.2.1 pre (b.post++(c.post++([n]++suf))) s (k+1+c.size+b.size) (by simpa using hd) hl;simp only[XT.size,BA];rw[show k+(a.size+b.size+c.size+1)=(k+1+c.size+b.size)+a.size by omega,i1];have hsa:=a.size_pos;have hsb:=b.size_pos;cases ht:BA sg a pre.length with
  |inl x=>exact⟨rfl,λr hr=>by cases hr⟩|inr ta=>
   obtain⟨j1,j2⟩:=ihb hw.2.2.1 (pre++a.post) (c.post++([n]++suf)) (s++[ta]) (k+1+c.size) (by simpa using hd) (by simp[XT.post_len];omega);rw[hpa]at j1 j2;simp only;rw[j1];cases hu:BA sg b (pre.length+a.size)with
   |inl x=>exact⟨rfl,λr hr=>by cases hr⟩|inr tb=>
    obtain⟨q1,q2⟩:=ihc hw.2.2.2 (pre++a.post++b.post) ([n]++suf) (s++[ta]++[tb]) (k+1) (by simpa using hd) (by simp[XT.post_len];omega);rw[hpb]at q1 q2;simp only;rw[q1];cases hc:BA sg c (pre.length+a.size+b.size)with
    |inl x=>exact⟨rfl,λr hr=>by cases hr⟩|inr tc=>
     have hz:A7 [ta,tb,tc]=arF n.1:=by rw[show arF n.1=3 from hw.1];rfl
     have hv:∀t∈[ta,tb,tc],VT t:=by simpa using ⟨i2 ta ht,j2 tb hu,q2 tc hc⟩
     have:=step _ k n s [ta,tb,tc] hn hz hv E5;simp only[E8,U3,J4];rw[show pre.length+(a.size+b.size+c.size+1)=pre.length+a.size+b.size+c.size+1 by omega];exact⟨this,λr hr=>PE (mem _ n hn) hv hz hr⟩
end
def Bz(e:List (Int×Int))(sg:Y0):(Int×Int)×Int×Int:=match kM e with
 | .inl x=>((0,0),x)
 | .inr t=>match BA sg t 0 with
  | .inl x=>((0,0),x)| .inr r=>(r,0,0)
variable {α:Type}
theorem a3G(s ops:List α)(k:Int)(hk:A7 ops=k)(h:s.length+ops.length<=100):
  N9 .i64 (A7 (s++ops)) k=(s.length:Int)/\mi (s.length:Int) (A7 (s++ops)) (A7 (s++ops))=true/\kH (s++ops) (Z7 (s.length:Int)) (Z7 (A7 (s++ops)))=ops
  /\mi 0 (s.length:Int) (A7 (s++ops))=true/\kH (s++ops) (Z7 0) (Z7 (s.length:Int))=s:=by
 subst hk;refine⟨?_,?_,?_,?_,?_⟩
 .rw[dO (by unfold eH;simp[A7];omega)];simp[A7]
 .simp[mi,A7];omega
 .show((s++ops).take (((s++ops).length:Nat):Int).toNat).drop s.length=ops;rw[F7,bJ,fG]
 .simp[mi,A7];omega
 .simp[kH,Z7]
theorem a3F{sg:Y0}{f:(Int×Int)×List (Int×Int)×Int->Option (Out ((Int×Int)×List (Int×Int)×Int) ((Int×Int)×List (Int×Int)) ((Int×Int)×Int×Int))}
  (hI:∀n∈e,eH n.2) (hs:b3j e sg (0,0) f) (hend:∀s,f ((0,0),s,(e.length:Int))=some (.ex ((0,0),s))) (hcode:∀x,kM e= .inl x->x.2≠0):
  l7 (H5 (C9 (uu e).2.2 0)) (some ((((0:Int),(0:Int)),(uu e).2):(Int×Int)×Int×Int)) (l9 (V4 f (((0:Int),(0:Int)),([]:List (Int×Int)),(0:Int))) λ(o:(Int×Int)×List (Int×Int)⊕(Int×Int)×Int×Int)=>
   Z8 o (λ(y:(Int×Int)×List (Int×Int))=>l9 (P5 y.2 0) λ(x:Int×Int)=>l9 (aN y.2 (Z7 0)) λ(x:Int×Int)=>some (x,0,0)) λ(r:(Int×Int)×Int×Int)=>some r)=some (Bz e sg):=by
 unfold uu Bz;cases h:kM e with
 |inl x=>simp only[J7 (hcode x h),P9,o7]|inr t=>
  obtain⟨hp,h48⟩:=qK h;have hw:=ML h;obtain⟨l1,_⟩:=a6A e sg (0,0) h48 hI hs t hw [] [] [] (dZ -t.size) (by simpa using hp) D5;have hsz:e.length=t.size:=by rw[hp,XT.post_len]
  have hlo:V4 f (((0:Int),(0:Int)),([]:List (Int×Int)),(0:Int))=iZ f (dZ -t.size+t.size) ((0,0),[],(([]:List (Int×Int)).length:Int)):=by unfold V4;rw[Nat.sub_add_cancel (by unfold dZ;omega)];rfl
  simp only[U6 (rfl:(0:Int)=0),H7,o6];rw[hlo,l1];simp only[aB,bY];cases BA sg t 0 with
  |inl x=>rfl|inr r=>obtain⟨k,hk⟩:∃k,dZ -t.size=k+1:=⟨dZ -t.size -1,by unfold dZ;omega⟩;simp only[J4];rw[hk,iZ,←hsz,hend];rfl
theorem xW{x:Int×Int}(h:kM e= .inl x):x.2≠0:=by
 have key:∀(es:List (Int×Int)) (i:Nat) (ts:List XT) (x:Int×Int),wR i es ts= .inl x->x.2≠0:=by
  intro es;induction es with
  |nil=>intro i ts x h;cases h|cons n es ih=>
   intro i ts x h;unfold wR at h;cases hp:push n ts with
   |inl c=>
    rw[hp]at h;cases h;show c≠0;unfold push at hp
    (repeat' split at hp)<;>first|(cases hp;done)|(cases hp;decide)
   |inr t2=>
    rw[hp]at h;simp only at h;split at h
    .cases h;show(16:Int)≠0;decide
    .exact ih _ _ _ h
 unfold kM at h;split at h
 .cases h;show(4:Int)≠0;decide
 split at h
 .cases h;show(5:Int)≠0;decide
 split at h
 .rename_i y hp;cases h;exact key _ _ _ _ hp
 .cases h
 .cases h;show(4:Int)≠0;decide
theorem a6z(sg:Y0)(hI:∀n∈e,eH n.2):FW e sg=some (Bz e sg):=by
 unfold FW;rw[Ed,o9];refine a3F hI (λi n s ops hn hi2 hl hv hlen=>?_) (λs=>?_) (λx h=>xW h)
 .obtain⟨r,h1,h2,h3⟩:=a4J sg n (hI n (yu hn)) ops hv hl;obtain⟨v1,v2,v3,v4,v5⟩:=a3G s ops _ hl hlen;have e' :a2L n ops sg=r:=by unfold a2L;rw[h1];rfl
  have hi:=(bg.1 hn).1;simp only[aF hn,o7,V8,hn,o9,a6M,v1,v2,v3,v4,v5];unfold Nr;rw[e'];unfold EN at h2;have fin:dB n ops sg=some r->(l9 (dB n ops sg) λ(x_3:H6×Int)=>l7 (H5 (C9 x_3.2 0)) (some (Out.rt ((((0:Int),(0:Int)),((i:Int),x_3.2)):(Int×Int)×Int×Int)))
    (l9 (eG s [x_3.1]) λ(x_4:List H6)=>some (Out.nx (((0:Int),(0:Int)),x_4,G5 .i64 (i:Int) 1))))=
    some (match if r.2=0 then(.inr r.1:(Int×Int)⊕(Int×Int))else .inl ((i:Int),r.2)with| .inl x=>Out.rt ((0,0),x)| .inr t=>(Out.nx ((0,0),s++[t],((i+1:Nat):Int)):Out ((Int×Int)×List (Int×Int)×Int) ((Int×Int)×List (Int×Int)) ((Int×Int)×Int×Int))):=by
   intro hr;rw[hr,o9];by_cases h0:r.2=0
   .rw[if_pos h0,U6 h0];simp only[H7,o6];rw[ru _ o5,o9,dH o5]
   .rw[if_neg h0,J7 h0];rfl
  cases hz:C9 n.2 0
  .rw[hz]at h2;simp only[P9,o7]at h2 ⊢;cases hu:bI n.1 with
   |none=>rw[hu]at h2;cases h2|some u=>
    rw[hu]at h2;simp only[o9]at h2 ⊢;cases u
    .simp only[P9,o7]at h2 ⊢;cases h2;rfl
    .exact fin h2
  .rw[hz]at h2;exact fin h2
 .rw[aS];rfl
section
variable {α β σ ε ρ:Type}
theorem EU(l:List α)(G:β->α->β)(mk:β->Int->σ)(fin:β->ε)(Inv:Nat->β->Prop){f:σ->Option (σ⊕ε)}{b:β}(hl:l.length<=1000000)(h0:Inv 0 b)
  (hin:∀(i:Nat) (a:α) (b:β),l[i]? =some a->i<=1000000->Inv i b->f (mk b (i:Int))=some (.inl (mk (G b a) ((i+1:Nat):Int)))/\Inv (i+1) (G b a))
  (hend:∀b,Inv l.length b->f (mk b (l.length:Int))=some (.inr (fin b))):
  fA f (mk b 0)=some (fin (l.foldl G b))/\Inv l.length (l.foldl G b):=by
 have key:∀(n i:Nat) (b:β),i<=l.length->l.length -i<n->Inv i b->zJ f n (mk b (i:Int))=some (fin ((l.drop i).foldl G b))/\Inv l.length ((l.drop i).foldl G b):=by
  intro n;induction n with
  |zero=>intro i b _ h _;omega|succ n ih=>
   intro i b hi hn hI;unfold zJ;by_cases h:i<l.length
   .have e:=lF h;obtain⟨h1,h2⟩:=hin i _ b e o5 hI;rw[h1,bC h];exact ih (i+1) _ o5 o5 h2
   .have:i=l.length:=o5;subst this;rw[hend b hI,BI];exact⟨rfl,hI⟩
 have:=key dZ 0 b o5 (by unfold dZ;omega) h0;exact this
theorem ET{γ:Type}(l:List α)(G:β->α->β)(mk:β->Int->σ)(fin:β->ε)(Inv:Nat->β->Prop)(b:β){f:σ->Option (σ⊕ε)}{K:ε->Option γ}{r:Option γ}(hl:l.length<=1000000)(h0:Inv 0 b)
  (hin:∀(i:Nat) (a:α) (b:β),l[i]? =some a->i<=1000000->Inv i b->f (mk b (i:Int))=some (.inl (mk (G b a) ((i+1:Nat):Int)))/\Inv (i+1) (G b a))
  (hend:∀b,Inv l.length b->f (mk b (l.length:Int))=some (.inr (fin b))) (hk:Inv l.length (l.foldl G b)->K (fin (l.foldl G b))=r):l9 (fA f (mk b 0)) K=r:=by
 obtain⟨h1,h2⟩:=EU l G mk fin Inv hl h0 hin hend;rw[h1];exact hk h2
def qV(G:β->α->β⊕ρ):List α->β->β⊕ρ
 |[],b=> .inl b
 |a::l,b=>match G b a with| .inl b' =>qV G l b'| .inr r=> .inr r
theorem a2p(l:List α)(G:β->α->β⊕ρ)(mk:β->Int->σ)(fin:β->ε)(Inv:Nat->β->Prop){f:σ->Option (Out σ ε ρ)}{b:β}(hl:l.length<=1000000)(h0:Inv 0 b)
  (hin:∀(i:Nat) (a:α) (b:β),l[i]? =some a->i<=1000000->Inv i b->f (mk b (i:Int))=some (match G b a with| .inl b' => .nx (mk b' ((i+1:Nat):Int))| .inr r=> .rt r)/\∀b',G b a= .inl b' ->Inv (i+1) b')
  (hend:∀b,Inv l.length b->f (mk b (l.length:Int))=some (.ex (fin b))):
  V4 f (mk b 0)=some (match qV G l b with| .inl b' => .inl (fin b')| .inr r=> .inr r)/\∀b',qV G l b= .inl b' ->Inv l.length b' :=by
 have key:∀(n i:Nat) (b:β),i<=l.length->l.length -i<n->Inv i b->iZ f n (mk b (i:Int))=some (match qV G (l.drop i) b with| .inl b' => .inl (fin b')| .inr r=> .inr r)/\∀b',qV G (l.drop i) b= .inl b' ->Inv l.length b' :=by
  intro n;induction n with
  |zero=>intro i b _ h _;omega|succ n ih=>
   intro i b hi hn hI;unfold iZ;by_cases h:i<l.length
   .have e:=lF h;obtain⟨h1,h2⟩:=hin i _ b e o5 hI;rw[h1,bC h];unfold qV;cases hg:G b l[i]with
    |inr r=>exact⟨rfl,λb' hb=>by cases hb⟩|inl b' =>exact ih (i+1) _ o5 o5 (h2 b' hg)
   .have:i=l.length:=o5;subst this;rw[hend b hI,BI];exact⟨rfl,λb' hb=>by cases hb;exact hI⟩
 have:=key dZ 0 b o5 (by unfold dZ;omega) h0;exact this
theorem Oc{γ:Type}(l:List α)(G:β->α->β⊕ρ)(mk:β->Int->σ)(fin:β->ε)(Inv:Nat->β->Prop)(b:β){f:σ->Option (Out σ ε ρ)}{K:ε⊕ρ->Option γ}{r:Option γ}(hl:l.length<=1000000)(h0:Inv 0 b)
  (hin:∀(i:Nat) (a:α) (b:β),l[i]? =some a->i<=1000000->Inv i b->f (mk b (i:Int))=some (match G b a with| .inl b' => .nx (mk b' ((i+1:Nat):Int))| .inr r=> .rt r)/\∀b',G b a= .inl b' ->Inv (i+1) b')
  (hend:∀b,Inv l.length b->f (mk b (l.length:Int))=some (.ex (fin b)))
  (hk:(∀b',qV G l b= .inl b' ->Inv l.length b')->K (match qV G l b with| .inl b' => .inl (fin b')| .inr r=> .inr r)=r):l9 (V4 f (mk b 0)) K=r:=by
 obtain⟨h1,h2⟩:=a2p l G mk fin Inv hl h0 hin hend;rw[h1];exact hk h2
end
def MS(c:UInt8):Bool:=decide (32<=c.toNat)&&decide (c.toNat<=126)&&decide (c.toNat≠34)
def Qh(s:c6F):Bool:=decide (s.length<=64)&&s.all MS
theorem a4r(c:UInt8):∀s:c6F,decide (0<=Lib.indexByte s c)=s.any λx=>decide (x.toNat=c.toNat)
 |[]=>by simp[Lib.indexByte]|b::l=>by
  have ih:=a4r c l;have hge:=Lib.indexByte_ge l c;rw[List.any_cons,←ih];have e:Lib.indexByte (b::l) c=if b=c then 0 else if Lib.indexByte l c=-1 then -1 else Lib.indexByte l c+1:=by rw[Lib.indexByte];simp
  rw[e];by_cases h:b=c
  .subst h;simp
  .have h2:b.toNat≠c.toNat:=λhh=>h (UInt8.toNat_inj.1 hh);rw[if_neg h,show decide (b.toNat=c.toNat)=false by simp[h2],Ob];by_cases h3:Lib.indexByte l c=-1
   .rw[h3];rfl
   .rw[if_neg h3];simp;omega
theorem Wy(c:UInt8):MS c=(!I5 (c.toNat:Int) 32&&!I5 126 (c.toNat:Int)&&!C9 (c.toNat:Int) 34):=by unfold MS I5 C9;rw[tq];simp;omega
theorem TN(s:c6F)(p:UInt8->Bool):(∀(i:Nat) (a:UInt8),s[i]? =some a->p a=true)↔s.all p=true:=by rw[kN];exact⟨λh x hx=>by obtain⟨i,hi,rfl⟩:=gJ hx;exact h i _ (lF hi),λh i a hi=>h a (yu hi)⟩
theorem WL{s:c6F}(h:s.length<=1000000):zu s=some (Qh s):=by
 unfold zu;have h5:I5 64 (A7 s)= !decide (s.length<=64):=by simp only[I5,A7];rw[←decide_not];congr 1;simp;omega
 rw[h5,show yO s [34]=some (s.any λx=>decide (x.toNat=(34:UInt8).toNat))from congrArg some (a4r 34 s)];unfold Qh;cases decide (s.length<=64)
 .rfl
 simp only[nO,o6,o9,nP];cases h34:s.any λx=>decide (x.toNat=(34:UInt8).toNat)
 case true=>
  obtain⟨x,hx,hx2⟩:=wQ.1 h34;simp only[decide_eq_true_eq]at hx2;have:s.all MS=false:=by rw[List.all_eq_false];refine⟨x,hx,?_⟩;unfold MS;rw[hx2];decide
  rw[this];rfl
 simp only[o6];refine Y5 (Io s (λi a=>MS a) false PUnit.unit _ o5 (λi x hx=>?_) ?_) ?_
 rotate_left 2
 .by_cases hw:s.all MS=true
  .rw[if_pos ((TN s MS).2 hw),hw];rfl
  .rw[if_neg (λh=>hw ((TN s MS).1 h))];simp only[wO]at hw;rw[hw];rfl
 .have hi:=(bg.1 hx).1;have hne:C9 (x.toNat:Int) 34=false:=by
   have:=(jS.1 h34) x (yu hx);simp only[decide_eq_true_eq]at this;exact J7 (by have h:(34:UInt8).toNat=34:=rfl;omega)
  simp only[aF hx,o7,wZ,hx,eX,o9];rw[dH o5,Wy,hne];cases I5 (x.toNat:Int) 32<;>cases I5 126 (x.toNat:Int)<;>rfl
 .rw[aS];rfl
def NK(e:List (Int×Int))(sg:Y0)(t:Int×Int):Int:=l7 (C9 (Bz e sg).2.2 0) (l7 (iV (C9 (Bz e sg).1.1 t.1) (C9 (Bz e sg).1.2 t.2)) 0 8) (Bz e sg).2.2
theorem OV(sg:Y0)(t:Int×Int)(hI:∀n∈e,eH n.2):wG e sg t=some (NK e sg t):=by
 unfold wG NK;rw[a6z sg hI,o9];cases C9 (Bz e sg).2.2 0
 .rfl
 simp only[H7,o6,o7];cases iV (C9 (Bz e sg).1.1 t.1) (C9 (Bz e sg).1.2 t.2)<;>rfl
def a1z(r:kF):Prop:=r.1.length<=4611686018427387904/\r.2.2.2.2.2.2.2.length<=1000000/\(∀n∈r.2.2.2.2.2.1,eH n.2)/\(∀n∈r.2.2.2.2.2.2.1,eH n.2)
def YH(rs:List kF)(d:Int):Nat:=rs.countP λo=>C9 o.2.1 d
def UY(r:kF)(sg:Y0)(t:Int×Int):Int:=
 l7 (I5 0 (A7 r.2.2.2.2.2.1)) (l7 (C9 (NK r.2.2.2.2.2.1 sg (1,0)) 0) (NK r.2.2.2.2.2.2.1 sg t) (NK r.2.2.2.2.2.1 sg (1,0))) (NK r.2.2.2.2.2.2.1 sg t)
def Td(s:au)(sg:Y0)(k:Nat)(r:kF):Int:=
 l7 (mJ r.1) (l7 ((s.2.2.2.2.take k).any λx=>seq x.1 r.1) 7 (match P5 s.2.2.2.1 r.2.1 with
  |none=>6|some d=>l7 (l7 (C9 r.2.2.1 (-1)) false (l7 (I5 r.2.2.1 0) true (l7 (U7 k r.2.2.1) true (match P5 s.2.2.2.2 r.2.2.1 with|some q=>H5 (C9 q.2.1 r.2.1)|none=>true)))) 9
   (l7 (I5 r.2.2.2.1 0) 3 (l7 (I5 9 r.2.2.2.1) 3 (l7 (OY r.2.2.2.2.1) (l7 (C9 r.2.2.2.2.1.1 r.2.2.2.2.1.2) 3
    (l7 (U7 8 (YH (s.2.2.2.2.take k) r.2.1)) 4 (l7 (Qh r.2.2.2.2.2.2.2) (UY r sg d.2) 2))) 3))))) 2
theorem KG{l:List α}{i:Int}(h:U7 0 i=false\/I5 i (A7 l)=false):P5 l i=none:=by
 unfold P5
 split
 .rename_i h0;rcases h with h|h
  .rw[Vl]at h;omega
  .rw[qc]at h;simp only[A7]at h;exact aA o5
 .rfl
variable {s:au}{r:kF}{k:Nat}
theorem YF(sg:Y0)(hr:s.2.2.2.2[k]? =some r)(hl:s.2.2.2.2.length<=100000)(h:a1z r):CV s (k:Int) sg=some (Td s sg k r):=by
 have hk:=(bg.1 hr).1;have hcnt:YH (s.2.2.2.2.take k) r.2.1<=100000:=by have:=List.countP_le_length (l:=s.2.2.2.2.take k) (p:=λ(o:kF)=>C9 o.2.1 r.2.1);unfold YH;simp at this;omega
 unfold CV;rw[V8,hr,o9,zX o5,o9];refine Y5 (EU (s.2.2.2.2.take k) (λ(c:Nat) (o:kF)=>l7 (C9 o.2.1 r.2.1) (c+1) c) (λc i=>((c:Int),i)) (λc=>(c:Int)) (λi c=>c<=i) (b:=0) E5 o5 (λi a c ha hi hc=>?_) (λc hc=>?_)).1 ?_
 rotate_left 2
 .have hf:∀(l:List kF) (c:Nat),l.foldl (λ(c:Nat) (o:kF)=>l7 (C9 o.2.1 r.2.1) (c+1) c) c=c+YH l r.2.1:=by
   intro l;induction l with
   |nil=>intro c;rfl|cons a l ih=>intro c;rw[dK,ih];unfold YH;rw[List.countP_cons];cases C9 a.2.1 r.2.1<;>simp<;>omega
  rw[hf,bY,o9,nJ h.1,o9,o9,a2l _ E5,o9];unfold Td;cases mJ r.1
  .rfl
  simp only[H7,o6,o7,o9];cases (s.2.2.2.2.take k).any λx=>seq x.1 r.1
  case true=>rfl
  simp only[o6];rw[FY r.2.1 0,TU (A7 s.2.2.2.1) r.2.1];cases h0:U7 0 r.2.1
  .rw[KG (.inl h0)];rfl
  cases h1:I5 r.2.1 (A7 s.2.2.2.1)
  .rw[KG (.inr h1)];rfl
  obtain⟨d,hd,_⟩:=vH (pg.1 h0) (zo.1 h1);rw[hd];simp only[nO,o6,o9,WL h.2.1];have hpar:(l7 (H5 (C9 r.2.2.1 (-1))) (l7 (I5 r.2.2.1 0) (some true) (l7 (U7 (k:Int) r.2.2.1) (some true) (l9 (P5 s.2.2.2.2 r.2.2.1) λ(x_6:kF)=>some (H5 (C9 x_6.2.1 r.2.1))))) (some false))=
    some (l7 (C9 r.2.2.1 (-1)) false (l7 (I5 r.2.2.1 0) true (l7 (U7 k r.2.2.1) true (match P5 s.2.2.2.2 r.2.2.1 with|some q=>H5 (C9 q.2.1 r.2.1)|none=>true)))):=by
   cases C9 r.2.2.1 (-1)
   case true=>rfl
   simp only[P9,o7,o6];cases hp0:I5 r.2.2.1 0
   case true=>rfl
   cases hp1:U7 (k:Int) r.2.2.1
   case true=>rfl
   rw[qc]at hp0;rw[Vl]at hp1;obtain⟨q,hq,_⟩:=vH (l:=s.2.2.2.2) hp0 (by simp only[A7];omega);rw[hq];rfl
  rw[hpar,o9];cases (l7 (C9 r.2.2.1 (-1)) false (l7 (I5 r.2.2.1 0) true (l7 (U7 k r.2.2.1) true (match P5 s.2.2.2.2 r.2.2.1 with|some q=>H5 (C9 q.2.1 r.2.1)|none=>true))))
  case true=>rfl
  simp only[o6];cases I5 r.2.2.2.1 0
  case true=>rfl
  simp only[o6,o9];cases I5 9 r.2.2.2.1
  case true=>rfl
  simp only[o6];have hval:∀(A B:Option (kF⊕Int)),l7 (I5 r.2.2.2.2.1.1 0) A (l7 (U7 r.2.2.2.2.1.2 r.2.2.2.2.1.1) A (l7 (I5 109573 r.2.2.2.2.1.2) A B))=l7 (OY r.2.2.2.2.1) (l7 (C9 r.2.2.2.2.1.1 r.2.2.2.2.1.2) A B) A:=by
   intro A B;unfold OY;by_cases v0:r.2.2.2.2.1.1<(0:Int)
   .rw[aP v0,dE (show r.2.2.2.2.1.1<(0:Int)from v0)];rfl
   rw[U1 (vZ.1 v0),bH (vZ.1 v0)];by_cases v1:(r.2.2.2.2.1.2:Int)<=r.2.2.2.2.1.1
   .rw[bH v1];by_cases v2:(r.2.2.2.2.1.1:Int)<=r.2.2.2.2.1.2
    .rw[bH v2,U6 (Int.le_antisymm v2 v1)];cases U7 r.2.2.2.2.1.2 109573<;>rfl
    .rw[dE (vY.1 v2)];rfl
   .have v1' :=vY.1 v1;rw[dE v1',bH (Int.le_of_lt v1'),J7 (λhh=>by rw[hh]at v1';exact Int.lt_irrefl _ v1'),FY];cases U7 r.2.2.2.2.1.2 109573<;>rfl
  rw[hval];cases OY r.2.2.2.2.1
  .rfl
  cases C9 r.2.2.2.2.1.1 r.2.2.2.2.1.2
  case true=>rfl
  simp only[o7,o6];cases U7 8 ((YH (s.2.2.2.2.take k) r.2.1:Nat):Int)
  case true=>rfl
  cases Qh r.2.2.2.2.2.2.2
  .rfl
  simp only[H7,o6,o7,o9,V6,UY,hd,OV sg _ h.2.2.1,OV sg _ h.2.2.2];cases I5 0 (A7 r.2.2.2.2.2.1)
  .rfl
  simp only[o7];cases C9 (NK r.2.2.2.2.2.1 sg (1,0)) 0<;>rfl
 .have hc' :c<=1000000:=o5;obtain⟨ha1,ha2⟩:=a1p ha;simp only[aF ha,o7,V8,ha,o9];rw[dH (show i<=9000000000000000000 by omega),dH (show c<=9000000000000000000 by omega)];cases C9 a.2.1 r.2.1
  .exact⟨rfl,by show c<=i+1;omega⟩
  .exact⟨rfl,by show c+1<=i+1;omega⟩
 .simp only[aS];rfl
structure SmS (s:au):Prop where
 nm:s.1.length<=1000000
 ni:s.2.2.1.length<=14
 nd:s.2.2.2.1.length<=14
 nr:s.2.2.2.2.length<=96
 fo:l_ s
 ro:∀r∈s.2.2.2.2,a1z r/\r.2.2.2.2.2.1.length<=50/\r.2.2.2.2.2.2.1.length<=50
def isM(op:Int):Bool:=l7 (U7 36 op) (U7 op 39) false
theorem b4o(op:Int):isM op=l7 (C9 op 36) true (l7 (C9 op 37) true (l7 (C9 op 38) true (C9 op 39))):=by
 unfold isM;by_cases h1:36<=op
 .rw[bH h1,o7];by_cases h2:op<=39
  .rw[bH h2];have:op=36\/op=37\/op=38\/op=39:=o5;rcases this with rfl|rfl|rfl|rfl<;>rfl
  .rw[dE o5,J7 o5,J7 o5,J7 o5,J7 o5];rfl
 .rw[dE o5,J7 o5,J7 o5,J7 o5,J7 o5];rfl
def TJ(p:Int->Bool)(e:List (Int×Int)):c6G:=(e.filter λn=>p n.1).map (·.2)
def KZ(e:List (Int×Int)):c6G×c6G×c6G:=(OC (TJ (λo=>C9 o 7) e),OC (TJ (λo=>C9 o 8) e),OC (TJ isM e))
def b2s(g:c6G->Int->c6G)(b:c6G×c6G×c6G)(n:Int×Int):c6G×c6G×c6G:=
 (l7 (C9 n.1 7) (g b.1 n.2) b.1,l7 (C9 n.1 8) (g b.2.1 n.2) b.2.1,l7 (isM n.1) (g b.2.2 n.2) b.2.2)
theorem Yg(g:c6G->Int->c6G):∀(e:List (Int×Int)) (b:c6G×c6G×c6G),e.foldl (b2s g) b=((TJ (λo=>C9 o 7) e).foldl g b.1,(TJ (λo=>C9 o 8) e).foldl g b.2.1,(TJ isM e).foldl g b.2.2)
 |[],b=>rfl|n::e,b=>by
  have hn:∀p:Int->Bool,TJ p (n::e)=l7 (p n.1) (n.2::TJ p e) (TJ p e):=λp=>by unfold TJ;rw[kP];cases p n.1<;>rfl
  rw[dK,Yg g e,hn,hn,hn];unfold b2s;simp only;cases C9 n.1 7<;>cases C9 n.1 8<;>cases isM n.1<;>rfl
theorem XE:∀(l b:c6G),l.foldl (λacc n=>acc++[n]) b=b++l
 |[],b=>by simp|a::l,b=>by rw[dK,XE l];simp
theorem IY{a k:Int}(h:a=k)(m:Int)(hm:k≠m):C9 a m=false:=J7 o5
theorem FT{l:c6G}(hl:l.length<=1000000):wC l=some (OC l):=by unfold wC;have:=b2V (l:=l) hl;rw[show(λx=>l9 (sO x) λ(x:c6G)=>some x)=λx=>sO x from funext λx=>bZ _];exact this
theorem ND(h:e.length<=1000000):vW e=some (KZ e):=by
 unfold vW;refine ET e (b2s (λacc n=>acc++[n])) (λb i=>(b.1,b.2.1,b.2.2,i)) (λb=>b) (λi b=>b.1.length<=i/\b.2.1.length<=i/\b.2.2.length<=i) (([],[],[]):c6G×c6G×c6G) h D5 (λi a b ha hi hI=>?_) (λb hI=>?_) (λh2=>?_)
 .obtain⟨b1,b2,b3⟩:=b;simp only at hI;simp only[aF ha,o7,V8,ha,o9,ru a.2 (show b1.length<=1000000 by omega),ru a.2 (show b2.length<=1000000 by omega),ru a.2 (show b3.length<=1000000 by omega),b2s,b4o];rw[dH o5];by_cases h7:a.1=7
  .rw[U6 h7,IY h7 8 J8,IY h7 36 J8,IY h7 37 J8,IY h7 38 J8,IY h7 39 J8];exact⟨rfl,by simp<;>omega,by simp<;>omega,by simp<;>omega⟩
  rw[J7 h7];by_cases h8:a.1=8
  .rw[U6 h8,IY h8 36 J8,IY h8 37 J8,IY h8 38 J8,IY h8 39 J8];exact⟨rfl,by simp<;>omega,by simp<;>omega,by simp<;>omega⟩
  rw[J7 h8];cases C9 a.1 36<;>cases C9 a.1 37<;>cases C9 a.1 38<;>cases C9 a.1 39<;>exact⟨rfl,by simp<;>omega,by simp<;>omega,by simp<;>omega⟩
 .simp only[aS];rfl
 .rw[Yg]at h2 ⊢;simp only[XE,J4]at h2 ⊢;rw[FT o5,o9,FT o5,o9,FT o5];rfl
theorem a7O(p:Int->Bool)(e:List (Int×Int)):(TJ p e).length<=e.length:=by unfold TJ;rw[L8];exact iy _ _
theorem MJ(e:List (Int×Int)):(KZ e).2.1.length<=e.length:=V5 (a0a _) (a7O _ e)
def inD(n d:Int):Bool:=l7 (U7 0 d) (I5 d n) false
def KT(n:Int)(r:kF):c6G:=(KZ r.2.2.2.2.2.1).2.1.filter (inD n)++(KZ r.2.2.2.2.2.2.1).2.1.filter (inD n)
theorem Vd(p:Int->Bool):∀(l b:c6G),l.foldl (λacc x=>l7 (p x) (acc++[x]) acc) b=b++l.filter p
 |[],b=>by simp|a::l,b=>by rw[dK,Vd p l,kP];cases p a<;>simp
theorem XC{f:c6G×Int->Option ((c6G×Int)⊕c6G)}(l b:c6G)(n:Int)(hl:l.length<=1000)(hb:b.length<=1000)
  (hin:∀(i:Nat) (a:Int) (acc:c6G),l[i]? =some a->i<=1000000->f (acc,(i:Int))=l7 (U7 0 a) (l7 (I5 a n) (l9 (eG acc [a]) λx=>some (.inl (x,G5 .i64 (i:Int) 1))) (some (.inl (acc,G5 .i64 (i:Int) 1)))) (some (.inl (acc,G5 .i64 (i:Int) 1))))
  (hend:∀acc,f (acc,(l.length:Int))=some (.inr acc)):fA f (b,0)=some (b++l.filter (inD n)):=by
 have key:=EU l (λ(acc:c6G) x=>l7 (inD n x) (acc++[x]) acc) (λb i=>(b,i)) (λb=>b) (λi acc=>acc.length<=1000+i) (f:=f) (b:=b) o5 o5 ?_ ?_
 .rw[key.1,Vd]
 .intro i a acc ha hi hI;have:=(bg.1 ha).1;rw[hin i a acc ha hi,dH o5,ru _ o5];unfold inD;cases U7 0 a
  .exact⟨rfl,by show acc.length<=_;omega⟩
  cases I5 a n
  .exact⟨rfl,by show acc.length<=_;omega⟩
  .exact⟨rfl,by simp;omega⟩
 .intro acc hI;rw[hend]
theorem Qx(n:Int)(h1:r.2.2.2.2.2.1.length<=50)(h2:r.2.2.2.2.2.2.1.length<=50):vF r n=some (KT n r):=by
 have g1:=MJ r.2.2.2.2.2.1;have g2:=MJ r.2.2.2.2.2.2.1;unfold vF KT;rw[ND o5,o9,ND o5,o9];refine Y5 (XC (KZ r.2.2.2.2.2.1).2.1 [] n o5 D5 (λi a acc ha hi=>?_) (λacc=>?_)) ?_
 rotate_left 2
 .rw[o9,bZ,J4];have:=iy (inD n) (KZ r.2.2.2.2.2.1).2.1;refine XC (KZ r.2.2.2.2.2.2.1).2.1 _ n o5 o5 (λi a acc ha hi=>?_) (λacc=>?_)
  .simp only[aF ha,o7,V8,ha,o9];rw[show aN (KZ r.2.2.2.2.2.2.1).2.1 (Z7 (i:Int))=some a from ha,o9]
  .simp only[aS];rfl
 .simp only[aF ha,o7,V8,ha,o9];rw[show aN (KZ r.2.2.2.2.2.1).2.1 (Z7 (i:Int))=some a from ha,o9]
 .simp only[aS];rfl
def nD(s:au):Int:=A7 s.2.2.2.1
def dl(n:Int)(rs:List kF)(d:Int):c6G:=rs.flatMap λr=>l7 (C9 r.2.1 d) (KT n r) []
def DN(s:au)(d:Int):c6G:=l7 (inD (nD s) d) (OC (dl (nD s) s.2.2.2.2 d)) []
theorem Ye(h:SmS s)(hr:r∈s.2.2.2.2)(n:Int):(KT n r).length<=100:=by obtain⟨_,h1,h2⟩:=h.ro r hr;have a1:=MJ r.2.2.2.2.2.1;have a2:=MJ r.2.2.2.2.2.2.1;have b1:=iy (inD n) (KZ r.2.2.2.2.2.1).2.1;have b2:=iy (inD n) (KZ r.2.2.2.2.2.2.1).2.1;unfold KT;rw[I8];omega
theorem a4c(n:Int)(rs:List kF)(r:kF)(d:Int):dl n (rs++[r]) d=dl n rs d++l7 (C9 r.2.1 d) (KT n r) []:=by unfold dl;rw[GV];simp
theorem b1A(n:Int)(rs:List kF)(r:kF)(d:Int):dl n (r::rs) d=l7 (C9 r.2.1 d) (KT n r) []++dl n rs d:=rfl
theorem a1X{s:au}(h:SmS s)(n d:Int):∀(rs:List kF),(∀r∈rs,r∈s.2.2.2.2)->(dl n rs d).length<=100*rs.length
 |[],_=>by simp[dl]|r::rs,hm=>by
  have ih:=a1X h n d rs λr hr=>hm r (by simp[hr]);have h1:=Ye h (hm r D5) n;rw[b1A,I8,F5];cases C9 r.2.1 d
  .simp only[o6,aB];omega
  .simp only[o7];omega
variable {d:Int}{x:Int}
theorem b4s{n:Int}{rs:List kF} :x∈dl n rs d↔∃r∈rs,r.2.1=d/\x∈KT n r:=by
 unfold dl;rw[List.mem_flatMap];constructor
 .rintro⟨r,hr,hx⟩;cases hq:C9 r.2.1 d<;>rw[hq]at hx
  .simp at hx
  .exact⟨r,hr,gp.1 hq,hx⟩
 .rintro⟨r,hr,hq,hx⟩;exact⟨r,hr,by rw[U6 hq];exact hx⟩
theorem a8T{n:Int}(h:x∈KT n r):0<=x/\x<n:=by
 have key:inD n x=true:=by unfold KT at h;rcases J6.1 h with h|h<;>exact(oK.1 h).2
 unfold inD at key;cases h0:U7 0 x<;>rw[h0]at key
 .cases key
 .exact⟨pg.1 h0,zo.1 key⟩
theorem Qz(s:au)(d:Int):SI (DN s d):=by
 unfold DN;cases inD (nD s) d
 .exact List.Pairwise.nil
 .exact a4Y _
theorem Qy(h:x∈DN s d):0<=x/\x<nD s:=by
 unfold DN at h;cases hq:inD (nD s) d<;>rw[hq]at h
 .simp at h
 .obtain⟨r,_,_,hx⟩:=b4s.1 ((a0i _ _).1 h);exact a8T hx
theorem a4E(m k:Nat)(f:Nat->α)(v:α):((List.range m).map f).set k v=(List.range m).map λd=>if d=k then v else f d:=by
 apply bU;intro i;rw[O6,bV,bV,L8,ak];by_cases hi:i<m
 .rw[jd hi];by_cases h:k=i
  .subst h;simp[hi]
  .simp[h,Ne.symm h]
 .have:(List.range m)[i]? =none:=by simp;omega
  rw[this];by_cases h:k=i
  .subst h;simp[hi]
  .simp[h]
def Uy(m:Nat)(rs:List kF):List c6G:=(List.range m).map λ(d:Nat)=>dl (m:Int) rs (d:Int)
theorem ZT{l:c6G}(hl:l.length<=1000000):ED l=some (OC l):=FT hl
theorem YY(m:Nat)(f:Nat->α)(h:k<m):((List.range m).map f)[k]? =some (f k):=by rw[bV,jd h];rfl
theorem YA(h:SmS s):xx s=some ((List.range s.2.2.2.1.length).map λ(d:Nat)=>DN s (d:Int)):=by
 have hnr:=h.nr;have hnd:=h.nd;unfold xx;generalize hm:s.2.2.2.1.length=m at*;have hn:nD s=(m:Int):=by unfold nD A7;rw[hm]
 rw[show A7 s.2.2.2.1=(m:Int)from hn,show BD (m:Int) ([]:c6G)=some (Uy m []) by unfold BD Uy dl;rw[if_pos o5];simp[List.map_const'],o9];refine ET s.2.2.2.2 (λ(b:List c6G) r=>l7 (inD m r.2.1) (b.set r.2.1.toNat ((b.getD r.2.1.toNat [])++KT m r)) b) (λb i=>(b,i)) (λb=>b) (λi b=>b=Uy m (s.2.2.2.2.take i)) (Uy m []) o5 D5 (λi r b ha hi hI=>?_) (λb hI=>?_) (λh2=>?_)
 .have hlt:=(bg.1 ha).1;obtain⟨_,h1,h2⟩:=h.ro r (yu ha);have hst:s.2.2.2.2.take (i+1)=s.2.2.2.2.take i++[r]:=by
   rw[Y8 hlt,(bg.1 ha).2]
  have hlb:A7 b=(m:Int):=by rw[hI];simp[A7,Uy]
  obtain⟨rd,hrd⟩:∃rd:Int,r.2.1=rd:=⟨r.2.1,rfl⟩;simp only[aF ha,o7,V8,ha,o9,hlb,hrd];rw[dH o5,hst];by_cases hd:0<=rd/\rd<(m:Int)
  .obtain⟨d0,d1⟩:=hd;have hk:rd.toNat<m:=o5;have hkk:((rd.toNat:Nat):Int)=rd:=o5;have hg:b[rd.toNat]? =some (dl m (s.2.2.2.2.take i) rd):=by rw[hI];unfold Uy;rw[YY m _ hk,hkk]
   have hll:=a1X h m rd (s.2.2.2.2.take i) λr hr=>yJ hr;have hrl:=Ye h (yu ha) m;have htl:(s.2.2.2.2.take i).length<=96:=by simp;omega
   rw[bH d0,aP d1,show inb rd (m:Int)=true by unfold inb;simp;omega,show aN b (Z7 rd)=some (dl m (s.2.2.2.2.take i) rd)from hg,Qx _ h1 h2];simp only[o7,o9];rw[Pv o5,show JO (Z7 rd) (Z7 rd)=true by simp[JO]];simp only[o7,o9];have hin:inD m rd=true:=by unfold inD;rw[bH d0,aP d1];rfl
   rw[hin,show b.getD rd.toNat []=dl m (s.2.2.2.2.take i) rd by rw[KF,hg];rfl];refine⟨rfl,?_⟩;show b.set rd.toNat _=_;rw[hI];unfold Uy;rw[a4E];apply je;intro d hdm;rw[a4c,hrd];by_cases hq:d=rd.toNat
   .subst hq;rw[if_pos rfl,hkk,U6 rfl];rfl
   .rw[if_neg hq,J7 o5];simp
  .have hin:inD m rd=false:=by
    unfold inD;by_cases d0:0<=rd
    .rw[bH d0,U1 o5];rfl
    .rw[dE o5];rfl
   rw[hin];refine⟨?_,?_⟩
   .unfold inD at hin;cases q0:U7 0 rd
    .rfl
    .rw[q0]at hin;simp only[o7]at hin ⊢;rw[hin];rfl
   .show b=_;rw[hI];unfold Uy;apply je;intro d hdm;have:=fH.1 hdm;rw[a4c,hrd,J7 o5];simp
 .simp only[aS];rfl
 .rw[bJ]at h2;rw[h2];generalize hA:Uy m s.2.2.2.2=A;have hAl:A7 A=(m:Int):=by rw[←hA];simp[A7,Uy]
  refine ET (List.range m) (λ(b:List c6G) d=>b.set d (OC (b.getD d []))) (λb i=>(b,i)) (λb=>b) (λi b=>b=(List.range m).map λ(d:Nat)=>if d<i then OC (dl m s.2.2.2.2 (d:Int))else dl m s.2.2.2.2 (d:Int)) A E5 (by rw[←hA];unfold Uy;simp) (λi d b ha hi hI=>?_) (λb hI=>?_) (λh3=>?_)
  .have hlt:=(bg.1 ha).1;simp only[ak]at hlt;have hdi:d=i:=by rw[jd hlt]at ha;exact(Y1 ha).symm
   subst hdi;have hlb:A7 b=(m:Int):=by rw[hI];simp[A7]
   have hg:b[d]? =some (dl m s.2.2.2.2 (d:Int)):=by rw[hI,YY m _ hlt,if_neg o5]
   have hll:=a1X h m d s.2.2.2.2 λr hr=>hr;simp only[hAl,hlb];rw[aP (show(d:Int)<(m:Int) by omega),show inb (d:Int) (m:Int)=true by unfold inb;simp;omega,show aN b (Z7 (d:Int))=some (dl m s.2.2.2.2 (d:Int))from hg];simp only[o7,o9];rw[ZT o5,show JO (Z7 (d:Int)) (Z7 (d:Int))=true by simp[JO],dH o5];simp only[o7,o9];rw[show b.getD d []=dl m s.2.2.2.2 (d:Int) by rw[KF,hg];rfl];refine⟨rfl,?_⟩;rw[hI,a4E];apply je;intro e he;by_cases hq:e=d
   .subst hq;rw[if_pos rfl,if_pos o5]
   .rw[if_neg hq];by_cases hq2:e<d
    .rw[if_pos hq2,if_pos o5]
    .rw[if_neg hq2,if_neg o5]
  .simp only[ak,hAl,U1 (show(m:Int)<=(m:Int) by omega)];rfl
  .rw[h3];apply congrArg some;apply je;intro d hd;have:=fH.1 hd;simp only[ak];rw[if_pos this];unfold DN;rw[hn,show inD (m:Int) (d:Int)=true by unfold inD;rw[bH o5,aP o5];rfl];rfl
def Rch(D:Int->c6G)(d:Int)(L:c6G):Prop:=SI L/\(∀x∈D d,x∈L)/\(∀x∈L,∀y∈D x,y∈L)/\∀C:Int->Prop,(∀x∈D d,C x)->(∀x,C x->∀y∈D x,C y)->∀x∈L,C x
theorem Rch.unique{D:Int->c6G}{L M:c6G}(h:Rch D d L)(k:Rch D d M):L=M:=
 a3c h.1 k.1 λx=>⟨λhx=>h.2.2.2 (λy=>y∈M) k.2.1 k.2.2.1 x hx,λhx=>k.2.2.2 (λy=>y∈L) h.2.1 h.2.2.1 x hx⟩
theorem ZW:∀{B A:c6G},SI A->SI B->(∀x∈A,x∈B)->A=B\/A.length<B.length
 |[],A,_,_,h=>by
  cases A with
  |nil=>exact .inl rfl|cons a A=>exact absurd (h a D5) D5
 |b::B,[],_,_,_=> .inr D5|b::B,a::A,hA,hB,h=>by
  have hA' :=X5.1 hA;have hB' :=X5.1 hB;rcases D8.1 (h a D5)with hab|hab
  .subst hab;rcases ZW (B:=B) (A:=A) hA'.2 hB'.2 (λx hx=>by
    rcases D8.1 (h x (by simp[hx]))with h1|h1
    .have:=hA'.1 x hx;omega
    .exact h1)with h1|h1
   .exact .inl (by rw[h1])
   .exact .inr (by simp only[F5];omega)
  .have hab2:=hB'.1 a hab;rcases ZW (B:=B) (A:=a::A) hA hB'.2 (λx hx=>by
    rcases D8.1 (h x hx)with h1|h1
    .rcases D8.1 hx with h2|h2
     .omega
     .have:=hA'.1 x h2;omega
    .exact h1)with h1|h1
   .exact .inr (by rw[h1];simp)
   .exact .inr (by simp only[F5]at*;omega)
def KN(D:Int->c6G)(L:c6G):c6G:=L.foldl (λacc x=>Vq (D x) acc) L
theorem Iq(D:Int->c6G)(x:Int):∀(l acc:c6G),x∈l.foldl (λacc x=>Vq (D x) acc) acc↔x∈acc\/∃y∈l,x∈D y
 |[],acc=>by simp|a::l,acc=>by
  rw[dK,Iq D x l,Vz];constructor
  .rintro((h|h)|⟨y,hy,h⟩)
   .exact .inr ⟨a,D5,h⟩
   .exact .inl h
   .exact .inr ⟨y,by simp[hy],h⟩
  .rintro(h|⟨y,hy,h⟩)
   .exact .inl (.inr h)
   .rcases D8.1 hy with rfl|hy
    .exact .inl (.inl h)
    .exact .inr ⟨y,hy,h⟩
theorem a4I(D:Int->c6G):∀(l:c6G) {acc:c6G},SI acc->SI (l.foldl (λacc x=>Vq (D x) acc) acc)
 |[],_,h=>h|a::l,_,h=>by rw[dK];exact a4I D l (ZL _ h)
theorem VE(D:Int->c6G){L:c6G}(h:SI L):SI (KN D L):=a4I D L h
def itS(D:Int->c6G)(d:Int):Nat->c6G
 |0=>D d|k+1=>KN D (itS D d k)
section
variable {D:Int->c6G} {n:Nat} (hsi:∀x,SI (D x)) (hin:∀x,∀y∈D x,0<=y/\y<(n:Int))
include hsi hin
theorem Y_(d:Int):∀k,SI (itS D d k)
 |0=>hsi d|k+1=>VE D (Y_ d k)
theorem a7x(d:Int):∀k,∀x∈itS D d k,0<=x/\x<(n:Int)
 |0,x,hx=>hin d x hx|k+1,x,hx=>by
  rcases(Iq D x _ _).1 hx with h|⟨y,_,h⟩
  .exact a7x d k x h
  .exact hin y x h
theorem a4x(d:Int)(k:Nat):KN D (itS D d k)=itS D d k\/(itS D d k).length<(KN D (itS D d k)).length:=by
 rcases ZW (Y_ hsi hin d k) (VE D (Y_ hsi hin d k)) (λx hx=>(Iq D x _ _).2 (.inl hx))with h|h
 .exact .inl h.symm
 .exact .inr h
theorem XL(d:Int):∀k,KN D (itS D d k)=itS D d k\/k<(KN D (itS D d k)).length
 |0=>by
  rcases a4x hsi hin d 0 with h|h
  .exact .inl h
  .exact .inr o5
 |k+1=>by
  rcases XL d k with h|h
  .exact .inl (by show KN D (KN D (itS D d k))=KN D (itS D d k);rw[h,h])
  .rcases a4x hsi hin d (k+1)with h2|h2
   .exact .inl h2
   .exact .inr (by have:(itS D d (k+1)).length=(KN D (itS D d k)).length:=rfl;omega)
theorem b4p(d:Int):Rch D d (itS D d n):=by
 have hst:KN D (itS D d n)=itS D d n:=by
  rcases XL hsi hin d n with h|h
  .exact h
  .have:=a3d n (VE D (Y_ hsi hin d n)) (a7x hsi hin d (n+1));omega
 refine⟨Y_ hsi hin d n,?_,?_,?_⟩
 .intro x hx;have:∀k,x∈itS D d k:=by
   intro k;induction k with
   |zero=>exact hx|succ k ih=>exact(Iq D x _ _).2 (.inl ih)
  exact this n
 .intro x hx y hy;rw[←hst];exact(Iq D y _ _).2 (.inr ⟨x,hx,hy⟩)
 .intro C h1 h2;have:∀k,∀x∈itS D d k,C x:=by
   intro k;induction k with
   |zero=>exact h1|succ k ih=>
    intro x hx;rcases(Iq D x _ _).1 hx with h|⟨y,hy,h⟩
    .exact ih x h
    .exact h2 y (ih y hy) x h
  exact this n
end
def WH(s:au)(d:Int):c6G:=itS (DN s) d s.2.2.2.1.length
theorem Yt(s:au)(d:Int):Rch (DN s) d (WH s d):=
 b4p (n:=s.2.2.2.1.length) (Qz s) (λx y hy=>Qy hy) d
theorem b1e(h:x∈WH s d):0<=x/\x<nD s:=a7x (n:=s.2.2.2.1.length) (Qz s) (λx y hy=>Qy hy) d _ x h
theorem a2n(h:SmS s){l:c6G}(hs:SI l)(hi:∀x∈l,0<=x/\x<nD s):l.length<=14:=V5 (a3d s.2.2.2.1.length hs hi) h.nd
def mk(S:List Bool)(x:Int):Bool:=if 0<=x then S.getD x.toNat false else false
def unm(S:List Bool):Nat:=S.count false
def rG(b:List Bool×c6G)(e:Int):List Bool×c6G:=l7 (mk b.1 e) b (b.1.set e.toNat true,b.2++[e])
variable {S:List Bool}
theorem a7E(h0:0<=x)(h1:x<A7 S):S[x.toNat]? =some (mk S x):=by
 unfold mk;rw[if_pos h0,KF];have:x.toNat<S.length:=by simp only[A7]at h1;omega
 rw[lF this];rfl
theorem a7F{e:Int}(h0:0<=e)(h1:e<A7 S)(x:Int):mk (S.set e.toNat true) x=l7 (C9 x e) true (mk S x):=by
 unfold mk;have hl:e.toNat<S.length:=by simp only[A7]at h1;omega
 by_cases hx:0<=x
 .rw[if_pos hx,if_pos hx,KF,KF,O6];by_cases hq:x=e
  .subst hq;rw[if_pos rfl,if_pos hl,U6 rfl];rfl
  .rw[if_neg o5,J7 hq];rfl
 .rw[if_neg hx,if_neg hx,J7 o5];rfl
theorem b3a{e:Int}(h0:0<=e)(h1:e<A7 S)(hm:mk S e=false):unm (S.set e.toNat true)+1=unm S:=by
 have hl:e.toNat<S.length:=by simp only[A7]at h1;omega
 have hg:=a7E h0 h1;rw[hm,lF hl]at hg;have hg' :S[e.toNat]=false:=Y1 hg;unfold unm;rw[List.count_set hl,hg'];have:0<S.count false:=List.count_pos_iff.2 (by rw[←hg'];exact Y2 hl);simp;omega
structure RInv (n:Nat) (S:List Bool) (Q:c6G) (l:c6G) (S' :List Bool) (Q' :c6G):Prop where
 len:S'.length=n
 seen:∀x:Int,0<=x->x<(n:Int)->(mk S' x=true↔mk S x=true\/x∈l)
 sum:Q'.length+unm S' =Q.length+unm S
 le:unm S' <=unm S
 old:∀x∈Q,x∈Q'
 new:∀x∈Q',x∈Q\/x∈l
 got:∀x,mk S' x=true->mk S x=true\/x∈Q'
theorem a9c{n:Nat} :∀(l:c6G) (S:List Bool) (Q:c6G),S.length=n->(∀x∈l,0<=x/\x<(n:Int))->RInv n S Q l (l.foldl rG (S,Q)).1 (l.foldl rG (S,Q)).2
 |[],S,Q,hl,_=>⟨hl,λx _ _=>by simp,rfl,D7 _,λx hx=>hx,λx hx=> .inl hx,λx hx=> .inl hx⟩|e::l,S,Q,hl,hi=>by
  have he:=hi e D5;have hel:e<A7 S:=by simp only[A7];omega
  rw[dK];cases hm:mk S e with
  |true=>
   rw[show rG (S,Q) e=(S,Q) by unfold rG;rw[hm];rfl];have ih:=a9c l S Q hl λx hx=>hi x (by simp[hx]);refine⟨ih.len,λx h0 h1=>?_,ih.sum,ih.le,ih.old,λx hx=>?_,ih.got⟩
   .rw[ih.seen x h0 h1,D8];constructor
    .rintro(h|h)
     .exact .inl h
     .exact .inr (.inr h)
    .rintro(h|h|h)
     .exact .inl h
     .subst h;exact .inl hm
     .exact .inr h
   .rcases ih.new x hx with h|h
    .exact .inl h
    .exact .inr (by simp[h])
  |false=>
   rw[show rG (S,Q) e=(S.set e.toNat true,Q++[e]) by unfold rG;rw[hm];rfl];have ih:=a9c l (S.set e.toNat true) (Q++[e]) (by simp[hl]) λx hx=>hi x (by simp[hx]);have hu:=b3a he.1 hel hm;refine⟨ih.len,λx h0 h1=>?_,?_,?_,λx hx=>ih.old x (by simp[hx]),λx hx=>?_,λx hx=>?_⟩
   .rw[ih.seen x h0 h1,a7F he.1 hel,D8];cases hq:C9 x e
    .rw[zI]at hq;simp[hq]
    .rw[gp]at hq;simp[hq]
   .have:=ih.sum;simp only[I8,F5,aB]at this;omega
   .have:=ih.le;omega
   .rcases ih.new x hx with h|h
    .rcases J6.1 h with h|h
     .exact .inl h
     .exact .inr (by simp at h;simp[h])
    .exact .inr (by simp[h])
   .rcases ih.got x hx with h|h
    .rw[a7F he.1 hel]at h;cases hq:C9 x e
     .rw[hq]at h;exact .inl h
     .rw[gp]at hq;subst hq;exact .inr (ih.old _ D5)
    .exact .inr h
def Sv(S:List Bool):c6G:=((List.range S.length).filter λi=>S.getD i false).map λ(i:Nat)=>(i:Int)
theorem Md(x:Int):x∈Sv S↔mk S x=true:=by
 unfold Sv mk;rw[ji];constructor
 .rintro⟨i,hi,rfl⟩;rw[if_pos o5];exact(oK.1 hi).2
 .intro h;split at h
  .refine⟨x.toNat,oK.2 ⟨fH.2 ?_,h⟩,o5⟩;rw[KF]at h;cases hg:S[x.toNat]? with
   |none=>rw[hg]at h;cases h|some b=>exact(bg.1 hg).1
  .cases h
theorem a7C(S:List Bool):SI (Sv S):=by unfold Sv;refine List.Pairwise.map _ (R:=(·< ·)) (λa b h=>by omega) (List.Pairwise.filter _ List.pairwise_lt_range)
theorem a2r{f:c6G×Int->Option ((c6G×Int)⊕c6G)}(S:List Bool)(hS:S.length<=100)
  (hin:∀(i:Nat) (a:Bool) (acc:c6G),S[i]? =some a->i<=1000000->acc.length<=i->f (acc,(i:Int))=l7 a (l9 (eG acc [(i:Int)]) λx=>some (.inl (x,G5 .i64 (i:Int) 1))) (some (.inl (acc,G5 .i64 (i:Int) 1))))
  (hend:∀acc,f (acc,(S.length:Int))=some (.inr acc)):fA f ([],0)=some (Sv S):=by
 have mk2:∀i,i<=S.length->((List.range i).filter λi=>S.getD i false).length<=i:=λi _=>by have:=iy (λi=>S.getD i false) (List.range i);simpa using this
 obtain⟨e,h1,h2⟩:=ug (f:=f) (s:=([],0)) (λx=>∃i:Nat,x=(((List.range i).filter λi=>S.getD i false).map λ(i:Nat)=>(i:Int),(i:Int))/\i<=S.length) (λe=>e=Sv S) (λx=>S.length -x.2.toNat) ⟨0,rfl,o5⟩ E5 (by
  rintro x ⟨i,rfl,hi⟩;by_cases h:i<S.length
  .have e:=lF h;have hst:(List.range (i+1)).filter (λi=>S.getD i false)=(List.range i).filter (λi=>S.getD i false)++l7 S[i] [i] []:=by
    rw[jF,List.filter_append];congr 1;rw[kP,KF,e];cases S[i]<;>rfl
   have hl:=mk2 i hi;refine .inl ⟨(((List.range (i+1)).filter λi=>S.getD i false).map λ(i:Nat)=>(i:Int),((i+1:Nat):Int)),?_,⟨i+1,rfl,h⟩,by simp;omega⟩;rw[hin i _ _ e o5 (by simpa using hl),dH o5,hst,gu,ru _ (by rw[L8];omega)];cases S[i]
   .simp
   .rfl
  .have:i=S.length:=o5;subst this;exact .inr ⟨_,hend _,rfl⟩)
 rw[h1,h2]
theorem a2F{D:Int->c6G}{n:Nat}(hn:n<=14)(hsi:∀x,SI (D x))(hin:∀x,∀y∈D x,0<=y/\y<(n:Int))(h0:0<=d)(h1:d<(n:Int)):
  ∃L,DL ((List.range n).map λ(x:Nat)=>D (x:Int)) d=some L/\Rch D d L:=by
 have hA:A7 ((List.range n).map λ(x:Nat)=>D (x:Int))=(n:Int):=by simp[A7]
 have hget:∀x:Int,0<=x->x<n->P5 ((List.range n).map λ(x:Nat)=>D (x:Int)) x=some (D x):=λx a b=>by
  have:x.toNat<n:=o5;unfold P5
  rw[if_pos a,YY n _ this,og a]
 unfold DL;generalize (List.range n).map (λ(x:Nat)=>D (x:Int))=A at*;rw[hA,show BD (n:Int) false=some (List.replicate n false) by unfold BD;rw[if_pos o5];simp,o9];have hD14:∀x,(D x).length<=14:=λx=>V5 (a3d n (hsi x) (hin x)) hn;have key:=ug (f:=λ(x:List Bool×c6G)=>l7 (I5 0 (A7 x.2)) (l9 (P5 x.2 0) λ(x_1:Int)=>l9 (aN x.2 (Z7 0)) λ(x_2:Int)=>l7 (mi 1 (A7 x.2) (A7 x.2)) (l9 (P5 A x_2) λ(x_3:c6G)=>
   l9 (fA (λ(x:List Bool×c6G×Int)=>l7 (I5 x.2.2 (A7 x_3)) (l9 (P5 x_3 x.2.2) λ(x_4:Int)=>l9 (P5 x.1 x_4) λ(x_5:Bool)=>l9 (aN x.1 (Z7 x_4)) λ(x_6:Bool)=>
     l7 (H5 x_6) (l9 (P5 x.1 x_4) λ(x_7:Bool)=>l9 (aN x.1 (Z7 x_4)) λ(x_8:Bool)=>l9 (eG x.2.1 [x_4]) λ(x_9:c6G)=>some (.inl (fD x.1 (Z7 x_4) true,x_9,G5 .i64 x.2.2 1)))
      (some (.inl (x.1,x.2.1,G5 .i64 x.2.2 1)))) (some (.inr (x.1,x.2.1)))) (x.1,kH x.2 (Z7 1) (Z7 (A7 x.2)),0)) λ(y:List Bool×c6G)=>some (.inl y)) none) (some (.inr x.1)))
  (s:=(List.replicate n false,[d]))
  (λx=>x.1.length=n/\(∀q∈x.2,0<=q/\q<(n:Int))/\x.2.length+unm x.1<=n+1/\(∀q∈x.2,q=d\/mk x.1 q=true)/\(∀v,v=d\/mk x.1 v=true->v∈x.2\/∀y∈D v,mk x.1 y=true)/\
   (∀C:Int->Prop,(∀x∈D d,C x)->(∀x,C x->∀y∈D x,C y)->∀v,mk x.1 v=true->C v)/\(∀v,mk x.1 v=true->0<=v/\v<(n:Int)))
  (λS=>S.length=n/\Rch D d (Sv S)) (λx=>2*unm x.1+x.2.length) ?_ ?_ ?_
 .obtain⟨S,k1,k2,k3⟩:=key;refine⟨Sv S,?_,k3⟩;refine(a0r k1 _).trans ?_;rw[bZ];refine a2r S o5 (λi a acc ha hi hacc=>?_) (λacc=>?_)
  .simp only[aF ha,o7,V8,ha,o9];rw[show aN S (Z7 (i:Int))=some a from ha,o9]
  .simp only[aS];rfl
 .have hnone:∀v,mk (List.replicate n false) v=false:=λv=>by
   unfold mk;split
   .rw[KF,List.getElem?_replicate];split<;>rfl
   .rfl
  refine⟨D5,λq hq=>by simp at hq;omega,?_,λq hq=> .inl (by simpa using hq),λv hv=>?_,λC _ _ v hv=>(by rw[hnone]at hv;cases hv),λv hv=>(by rw[hnone]at hv;cases hv)⟩
  .simp[unm,List.count_replicate];omega
  .rcases hv with rfl|hv
   .exact .inl D5
   .rw[hnone]at hv;cases hv
 .simp[unm,List.count_replicate];omega
 .rintro⟨S,Q⟩ ⟨i1,i2,i3,i4,i5,i6,i7⟩;simp only at i1 i2 i3 i4 i5 i6 i7;cases Q with
  |nil=>
   right;refine⟨S,rfl,i1,a7C S,λx hx=>?_,λx hx y hy=>?_,λC c1 c2 x hx=>i6 C c1 c2 x ((Md x).1 hx)⟩
   .rcases i5 d (.inl rfl)with h|h
    .cases h
    .exact(Md x).2 (h x hx)
   .rcases i5 x (.inr ((Md x).1 hx))with h|h
    .cases h
    .exact(Md y).2 (h y hy)
  |cons q Q=>
   left;have hq:=i2 q D5;have hfold:=a9c (n:=n) (D q) S Q i1 (λx hx=>hin q x hx);refine⟨(D q).foldl rG (S,Q),?_,?_,?_⟩
   .simp only[aP (show(0:Int)<A7 (q::Q) by simp[A7]<;>omega),o7,show P5 (q::Q) 0=some q from rfl,show aN (q::Q) (Z7 0)=some q from rfl,o9,hget q hq.1 hq.2,
     show mi 1 (A7 (q::Q)) (A7 (q::Q))=true by simp[mi,A7]<;>omega,show kH (q::Q) (Z7 1) (Z7 (A7 (q::Q)))=Q by simp[kH,Z7,A7]]
    refine ET (D q) rG (λb i=>(b.1,b.2,i)) (λb=>b) (λi b=>b.1.length=n/\b.2.length<=100+i) (S,Q) (by have:=hD14 q;omega) ⟨i1,by simp at i3;show Q.length<=100+0;omega⟩ (λi e b he hi hI=>?_) (λb hI=>?_) (λh2=>rfl)
    .obtain⟨S1,Q1⟩:=b;simp only at hI;have hee:=hin q e (yu he);have hlt:=(bg.1 he).1;have hdl:=hD14 q;have hg:=a7E (S:=S1) hee.1 (by simp only[A7];omega);have hla:P5 S1 e=some (mk S1 e):=by unfold P5;rw[if_pos hee.1];exact hg
     have hlg:aN S1 (Z7 e)=some (mk S1 e):=hg;simp only[aF he,o7,V8 (D q),he,o9,hla,hlg];rw[dH o5,ru _ o5];unfold rG;simp only;cases mk S1 e
     .exact⟨rfl,by simp[hI.1],by simp<;>omega⟩
     .exact⟨rfl,hI.1,by show Q1.length<=_;omega⟩
    .simp only[aS];rfl
   .obtain⟨j1,j2,j3,j4,j5,j6,j7⟩:=hfold;generalize (D q).foldl rG (S,Q)=b at*;obtain⟨S',Q'⟩:=b;simp only at j1 j2 j3 j4 j5 j6 j7 ⊢;have hrange:∀v,mk S' v=true->0<=v/\v<(n:Int):=λv hv=>by
     rcases j7 v hv with h|h
     .exact i7 v h
     .rcases j6 v h with h|h
      .exact i2 v (by simp[h])
      .exact hin q v h
    refine⟨j1,λx hx=>?_,?_,λx hx=>?_,λv hv=>?_,λC c1 c2 v hv=>?_,hrange⟩
    .rcases j6 x hx with h|h
     .exact i2 x (by simp[h])
     .exact hin q x h
    .simp only[F5]at i3;omega
    .rcases j6 x hx with h|h
     .rcases i4 x (by simp[h])with h2|h2
      .exact .inl h2
      .have hr:=i7 x h2;exact .inr ((j2 x hr.1 hr.2).2 (.inl h2))
     .have hr:=hin q x h;exact .inr ((j2 x hr.1 hr.2).2 (.inr h))
    .have up:∀y,mk S y=true->mk S' y=true:=λy hy=>by
      have hr:=i7 y hy;exact(j2 y hr.1 hr.2).2 (.inl hy)
     by_cases hvq:v=q
     .subst hvq;right;intro y hy;have hr:=hin v y hy;exact(j2 y hr.1 hr.2).2 (.inr hy)
     .by_cases hold:v=d\/mk S v=true
      .rcases i5 v hold with h|h
       .rcases D8.1 h with h|h
        .exact absurd h hvq
        .exact .inl (j5 v h)
       .exact .inr λy hy=>up y (h y hy)
      .rcases hv with h|h
       .exact absurd (.inl h) hold
       .rcases j7 v h with h2|h2
        .exact absurd (.inr h2) hold
        .exact .inl h2
    .by_cases hS:mk S v=true
     .exact i6 C c1 c2 v hS
     .have hr:=hrange v hv;rcases(j2 v hr.1 hr.2).1 hv with h|h
      .exact absurd h hS
      .rcases i4 q D5 with h2|h2
       .subst h2;exact c1 v h
       .exact c2 q (i6 C c1 c2 q h2) v h
   .have:=hfold.sum;have:=hfold.le;simp only[F5];omega
theorem Xk(h:SmS s)(h0:0<=d)(h1:d<nD s):zk s d=some (WH s d):=by have hn:nD s=((s.2.2.2.1.length:Nat):Int):=rfl;unfold zk;change l7 (I5 d 0) _ (l7 (U7 (nD s) d) _ _)=_;rw[U1 h0,o6,dE h1,o6,YA h,o9,bZ];obtain⟨L,k1,k2⟩:=a2F (D:=DN s) h.nd (Qz s) (λx y hy=>Qy hy) h0 (show d<((s.2.2.2.1.length:Nat):Int) by omega);rw[k1,Rch.unique k2 (Yt s d)]
structure SmL (l:Z9):Prop where
 few:Few l
 en:Yw l
 tb:Ur l
 sc:∀s∈l.2.2,SmS s
 fs:l.2.2.length<=100
structure SwS (s:au):Prop where
 nm:s.1.length<=1000000
 ni:s.2.2.1.length<=100000
 nd:s.2.2.2.1.length<=100000
 nr:s.2.2.2.2.length<=100000
 fo:l_ s
 ro:∀r∈s.2.2.2.2,a1z r
structure SwL (l:Z9):Prop where
 few:Few l
 en:Yw l
 tb:Ur l
 sc:∀s∈l.2.2,SwS s
variable {l:Z9}
theorem SwL.scopes(h:SwL l):r_ l:=λs hs=>by have hm:=h.sc s hs;exact⟨hm.nm,hm.ni,hm.nd,hm.nr⟩
theorem SmL.w(h:SmL l):SwL l:=⟨h.few,h.en,h.tb,λs hs=>by have hm:=h.sc s hs;exact⟨hm.nm,by have:=hm.ni;omega,by have:=hm.nd;omega,by have:=hm.nr;omega,hm.fo,λr hr=>(hm.ro r hr).1⟩⟩
theorem Ig{ε ρ:Type}{p:Nat->Option ρ}(n:Nat)(hn:n<=1000000)(e:ε){f:Int->Option (Out Int ε ρ)}
  (h1:∀i,i<n->f (i:Int)=some (match p i with|some r=> .rt r|none=> .nx (G5 .i64 (i:Int) 1))) (h2:f (n:Int)=some (.ex e)):
  V4 f 0=some (match ja n p with|some r=> .inr r|none=> .inl e):=
 KI n o5 e (λi hi=>by rw[h1 i hi,dH o5]<;>cases p i<;>rfl) h2
def Ym(l:Z9)(s:au)(k:Nat):Option (Int×Int):=match s.2.2.2.2[k]? with|some r=>a2d (Td s (a6v l s) k r) (300+k:Nat)|none=>none
def b1x(s:au)(d:Nat):Option (Int×Int):=l7 ((WH s d).any λx=>C9 (d:Int) x) (some (9,((200+d:Nat):Int))) none
def YZ(l:Z9)(i:Nat)(m:Int):Bool:=l7 (C9 m (-1)) false (l7 (I5 m 0) true (l7 (U7 (i:Int) m) true (match P5 l.2.2 m with|some q=>H5 (C9 q.2.1 (-1))|none=>true)))
def a8e(l:Z9)(s:au):Int×Int:=match a4i l s with
 |some r=>r
 |none=>match ja s.2.2.2.2.length (Ym l s)with
  |some r=>r
  |none=>match ja s.2.2.2.1.length (b1x s)with
   |some r=>r|none=>(0,0)
def Wl(l:Z9)(i:Nat)(s:au):Int×Int:=
 l7 (mJ s.1) (l7 (Tm l 3 i s.1) (7,0) (l7 (YZ l i s.2.1) (6,0) (l7 (I5 12 (A7 s.2.2.1)) (4,112) (l7 (I5 12 (A7 s.2.2.2.1)) (4,212) (a8e l s))))) (2,0)
theorem WN{sg:Y0}(h:NK e sg t=0):e.length<=50:=by
 unfold NK Bz at h;cases hs:kM e with
 |inl x=>
  rw[hs]at h;simp only at h;cases hc:C9 x.2 0<;>rw[hc]at h
  .exact absurd h (zI.1 hc)
  .exact absurd (gp.1 hc) (xW hs)
 |inr x=>have:=(qK hs).2;omega
theorem b1v{m:Nat} :∀(D:c6G),(∀x∈D,0<=x/\x<(m:Int))->(∀d:Int,D.countP (λo=>C9 o d)<=8)->D.length<=m*8:=by
 induction m with
 |zero=>
  intro D h _;cases D with
  |nil=>simp|cons a D=>have:=h a D5;omega
 |succ m ih=>
  intro D h h8;have h1:=ih (D.filter λo=>H5 (C9 o (m:Int))) (λx hx=>by
   obtain⟨hx,hn⟩:=oK.1 hx;have:=h x hx;have hn:x≠(m:Int):=λe=>by rw[U6 e]at hn;cases hn
   omega) (λd=>by rw[List.countP_filter];refine V5 (List.countP_mono_left λx _ hx=>?_) (h8 d);simp only[D6]at hx;exact hx.1)
  have h2:=h8 (m:Int);have h3:∀D:c6G,D.length=D.countP (λo=>C9 o (m:Int))+(D.filter λo=>H5 (C9 o (m:Int))).length:=by
   intro D;induction D with
   |nil=>rfl|cons a D ih=>rw[List.countP_cons,kP,F5,ih];cases C9 a (m:Int)<;>simp<;>omega
  have:=h3 D;omega
theorem We{sg:Y0}(h:Td s sg k r=0):(∃d,P5 s.2.2.2.1 r.2.1=some d/\UY r sg d.2=0)/\YH (s.2.2.2.2.take k) r.2.1<8:=by
 unfold Td at h;cases g1:mJ r.1<;>rw[g1]at h
 .exact absurd (show(2:Int)=0 from h) J8
 cases g2:(s.2.2.2.2.take k).any λx=>seq x.1 r.1<;>rw[g2]at h
 case true=>exact absurd (show(7:Int)=0 from h) J8
 simp only[o7,o6]at h;cases g3:P5 s.2.2.2.1 r.2.1 with
 |none=>rw[g3]at h;exact absurd (show(6:Int)=0 from h) J8|some d=>
  rw[g3]at h;simp only at h;generalize (l7 (C9 r.2.2.1 (-1)) false (l7 (I5 r.2.2.1 0) true (l7 (U7 (k:Int) r.2.2.1) true (match P5 s.2.2.2.2 r.2.2.1 with|some q=>H5 (C9 q.2.1 r.2.1)|none=>true))))=g4 at h;cases g4
  case true=>exact absurd (show(9:Int)=0 from h) J8
  cases g5:I5 r.2.2.2.1 0<;>rw[g5]at h
  case true=>exact absurd (show(3:Int)=0 from h) J8
  cases g6:I5 9 r.2.2.2.1<;>rw[g6]at h
  case true=>exact absurd (show(3:Int)=0 from h) J8
  cases g7:OY r.2.2.2.2.1<;>rw[g7]at h
  .exact absurd (show(3:Int)=0 from h) J8
  cases g8:C9 r.2.2.2.2.1.1 r.2.2.2.2.1.2<;>rw[g8]at h
  case true=>exact absurd (show(3:Int)=0 from h) J8
  cases g9:U7 8 (YH (s.2.2.2.2.take k) r.2.1:Int)<;>rw[g9]at h
  case true=>exact absurd (show(4:Int)=0 from h) J8
  cases g10:Qh r.2.2.2.2.2.2.2<;>rw[g10]at h
  .exact absurd (show(2:Int)=0 from h) J8
  simp only[o7,o6]at h;have:=Vl.1 g9;exact⟨⟨d,rfl,h⟩,o5⟩
theorem a5J{sg:Y0}(h:UY r sg t=0):r.2.2.2.2.2.1.length<=50/\r.2.2.2.2.2.2.1.length<=50:=by
 unfold UY at h;cases g:I5 0 (A7 r.2.2.2.2.2.1)<;>rw[g]at h
 .have:=qc.1 g;unfold A7 at this;exact⟨o5,WN h⟩
 .rw[o7]at h;cases g2:C9 (NK r.2.2.2.2.2.1 sg (1,0)) 0<;>rw[g2]at h
  .exact absurd h (zI.1 g2)
  .exact⟨WN (gp.1 g2),WN h⟩
theorem a9M(hw:SwS s)(h1:s.2.2.1.length<=12)(h2:s.2.2.2.1.length<=12)(h:ja s.2.2.2.2.length (Ym l s)=none):SmS s:=by
 have hz:∀(k:Nat) (r:kF),s.2.2.2.2[k]? =some r->Td s (a6v l s) k r=0:=λk r hr=>by
  have:=Pj h k (bg.1 hr).1;unfold Ym at this;rw[hr]at this;unfold a2d at this;simp only at this;cases g:C9 (Td s (a6v l s) k r) 0<;>rw[g]at this
  .cases this
  .exact gp.1 g
 have hk:∀k,k<=s.2.2.2.2.length->∀d:Int,((s.2.2.2.2.take k).map λ(o:kF)=>o.2.1).countP (λo=>C9 o d)<=8:=by
  intro k;induction k with
  |zero=>intro _ d;simp|succ k ih=>
   intro hk d;have e:=lF (show k<s.2.2.2.2.length by omega);have h3:=(We (hz k _ e)).2;unfold YH at h3;have h4:=ih o5 d;rw[Y8 o5,gu,List.countP_append];rw[List.countP_map]at h4 ⊢;by_cases hd:(s.2.2.2.2[k]).2.1=d
   .have e5:List.countP ((λ(o:Int)=>C9 o d)∘λ(o:kF)=>o.2.1) (s.2.2.2.2.take k)=(s.2.2.2.2.take k).countP λ(o:kF)=>C9 o.2.1 (s.2.2.2.2[k]).2.1:=by rw[hd];rfl
    have e6:List.countP (λo=>C9 o d) [(s.2.2.2.2[k]).2.1]<=1:=List.countP_le_length;simp only[dG,lV];omega
   .have e6:List.countP (λo=>C9 o d) [(s.2.2.2.2[k]).2.1]=0:=by simp[J7 hd]
    simp only[dG,lV];omega
 have h8:=hk s.2.2.2.2.length (D7 _);rw[bJ]at h8;have hc:=b1v (m:=12) (s.2.2.2.2.map λ(o:kF)=>o.2.1) (λx hx=>by obtain⟨r,hr,rfl⟩:=ji.1 hx;obtain⟨k,hk,e⟩:=gJ hr;obtain⟨⟨d,hd,-⟩,-⟩:=We (hz k r (by rw[lF hk,e]));obtain⟨a,b,-⟩:=wE hd;unfold A7 at b;omega) h8
 rw[L8]at hc;refine⟨hw.nm,o5,o5,o5,hw.fo,λr hr=>⟨hw.ro r hr,?_⟩⟩;obtain⟨k,hk,e⟩:=gJ hr;obtain⟨⟨d,-,hd⟩,-⟩:=We (hz k r (by rw[lF hk,e]));exact a5J hd
theorem WU(hL:SwL l)(hs:l.2.2[i]? =some s):AB l (i:Int)=some (Wl l i s):=by
 have hi:=(bg.1 hs).1;have hS:=hL.sc s (yu hs);have hf:=hL.few;have hf1:=hf.1;have hf2:=hf.2.1;have hf3:=hf.2.2;have n1:=hS.ni;have n2:=hS.nd;have n3:=hS.nr;unfold AB Wl Tm;rw[V8,hs,o9,zX o5,o9,NW _ o5,o9,RY _ o5,o9,S_ _ E5,o9];have hb:(l7 (l.1.any λx=>seq x.1 s.1) (some (s,true)) (l7 (l.2.1.any λx=>seq x.1 s.1) (some (s,true)) (some (s,(l.2.2.take i).any λx=>seq x.1 s.1))))=
   some (s,(l.1.any λx=>seq x.1 s.1) || (l.2.1.any λx=>seq x.1 s.1) || (l.2.2.take i).any λx=>seq x.1 s.1):=by
  cases l.1.any λx=>seq x.1 s.1
  .cases l.2.1.any λx=>seq x.1 s.1<;>rfl
  .rfl
 rw[hb,o9];simp only;rw[mP hS.nm,o9];cases mJ s.1
 .rfl
 simp only[H7,o6,o7];cases (l.1.any λx=>seq x.1 s.1) || (l.2.1.any λx=>seq x.1 s.1) || (l.2.2.take i).any λx=>seq x.1 s.1
 case true=>rfl
 simp only[o6];have hm:(l7 (H5 (C9 s.2.1 (-1))) (l7 (I5 s.2.1 0) (some true) (l7 (U7 (i:Int) s.2.1) (some true) (l9 (P5 (l.2.2.take i) s.2.1) λ(x:au)=>some (H5 (C9 x.2.1 (-1)))))) (some false))=some (YZ l i s.2.1):=by
  unfold YZ;cases C9 s.2.1 (-1)
  case true=>rfl
  simp only[P9,o7,o6];cases h0:I5 s.2.1 0
  case true=>rfl
  cases h1:U7 (i:Int) s.2.1
  case true=>rfl
  rw[qc]at h0;rw[Vl]at h1;obtain⟨q,hq,_⟩:=vH (l:=l.2.2.take i) h0 (by simp only[A7,aX];omega);have hq2:P5 l.2.2 s.2.1=some q:=by have:=(wE hq).2.2.2;unfold P5;rw[if_pos h0];exact(a1p this).2
  rw[hq,hq2];rfl
 rw[hm,o9];cases YZ l i s.2.1
 case true=>rfl
 simp only[o6];cases g12:I5 12 (A7 s.2.2.1)
 case true=>rfl
 cases g13:I5 12 (A7 s.2.2.2.1)
 case true=>rfl
 have m1:s.2.2.1.length<=12:=by have:=qc.1 g12;unfold A7 at this;omega
 have m2:s.2.2.2.1.length<=12:=by have:=qc.1 g13;unfold A7 at this;omega
 simp only[o6,o9,V6];unfold a8e a4i;refine Y5 (Ig (p:=inP l s) s.2.2.1.length o5 PUnit.unit (λk hk=>?_) ?_) ?_
 rotate_left 2
 .cases ja s.2.2.1.length (inP l s)
  case some r=>rfl
  simp only[o9,V6];refine Y5 (Ig (p:=b1y l s) s.2.2.2.1.length o5 PUnit.unit (λk hk=>?_) ?_) ?_
  rotate_left 2
  .cases ja s.2.2.2.1.length (b1y l s)
   case some r=>rfl
   simp only[o9,V6];rw[OA hL.scopes hs,o9];refine Y5 (Ig (p:=Ym l s) s.2.2.2.2.length o5 PUnit.unit (λk hk=>?_) ?_) ?_
   rotate_left 2
   .cases hfr:ja s.2.2.2.2.length (Ym l s)
    case some r=>rfl
    have hS:=a9M hS m1 m2 hfr;simp only[o9,V6];refine Y5 (Ig (p:=b1x s) s.2.2.2.1.length o5 PUnit.unit (λk hk=>?_) ?_) ?_
    rotate_left 2
    .cases ja s.2.2.2.1.length (b1x s)<;>rfl
    .have e:=lF hk;simp only[aF e,o7];rw[Xk hS o5 (by show(k:Int)<A7 s.2.2.2.1;simp only[A7];omega),o9,a5O _ (by
      have:=a2n hS (Yt s (k:Int)).1 (λx hx=>b1e hx);omega),o9,show(200:Int)=((200:Nat):Int)from rfl,a4p o5 o5]
     unfold b1x;cases (WH s (k:Int)).any λx=>C9 (k:Int) x<;>rfl
    .rw[aS];rfl
   .have e:=lF hk;have hr:=hS.ro _ (Y2 hk);simp only[aF e,o7];rw[YF _ e o5 hr,o9,show(300:Int)=((300:Nat):Int)from rfl,a4p o5 o5];simp only[Ym,e,a2d];cases C9 (Td s (a6v l s) k s.2.2.2.2[k]) 0<;>rfl
   .rw[aS];rfl
  .have e:=lF hk;have hm:=hS.fo.2 _ (Y2 hk);simp only[aF e,o7,V8,e,o9];rw[zX o5,o9,Nc hm o5 E5,o9,show(200:Int)=((200:Nat):Int)from rfl,a4p o5 o5];simp only[b1y,e,a2d];cases C9 (QE l.1 s.2.2.2.1[k] s.2.2.1 (s.2.2.2.1.take k)) 0<;>rfl
  .rw[aS];rfl
 .have e:=lF hk;have hm:=hS.fo.1 _ (Y2 hk);simp only[aF e,o7,V8,e,o9];rw[zX o5,o9,Nc hm E5 D5,o9,show(100:Int)=((100:Nat):Int)from rfl,a4p o5 o5];simp only[inP,e,a2d];cases C9 (QE l.1 s.2.2.1[k] (s.2.2.1.take k) []) 0<;>rfl
 .rw[aS];rfl
def Rh(l:Z9)(i:Nat):Option (Int×Int×Int×Int):=match l.2.2[i]? with|some s=>UU 3 i (Wl l i s)|none=>none
def Uf(l:Z9):Int×Int×Int×Int:=l7 (I5 4 (A7 l.2.2)) (4,3,4,0) (match ja l.2.2.length (Rh l)with|some r=>r|none=>(0,0,0,0))
def rW(l:Z9):Int×Int×Int×Int:=l7 (C9 (Kv l).1 0) (l7 (C9 (MM l).1 0) (Uf l) (MM l)) (Kv l)
theorem UF(hL:SwL l):zq l=some (Uf l):=by
 have hf:=hL.few.2.2;unfold zq Uf;cases I5 4 (A7 l.2.2)
 case true=>rfl
 simp only[o6];refine Y5 (KA (p:=Rh l) l.2.2.length o5 _ (0,0,0,0) (λi hi=>?_) ?_) ?_
 rotate_left 2
 .cases ja l.2.2.length (Rh l)<;>rfl
 .have e:=lF hi;simp only[aF e,o7,WU hL e,o9,Rh,e,UU];cases C9 (Wl l i l.2.2[i]).1 0<;>rfl
 .rw[aS];rfl
theorem b_(hL:SwL l):qE l=some (rW l):=by
 unfold qE rW;rw[WT hL.few hL.en,o9];cases C9 (Kv l).1 0
 .rfl
 simp only[H7,o6,o7];rw[UG hL.few hL.tb,o9];cases C9 (MM l).1 0
 .rfl
 simp only[H7,o6,o7];rw[UF hL];rfl
theorem Tq(hL:SmL l):qE l=some (rW l):=b_ hL.w
theorem a5I{k i:Int}{c:Int×Int}{r:Int×Int×Int×Int}(h:UU k i c=some r):r.1≠0:=by
 unfold UU at h;cases hc:C9 c.1 0<;>rw[hc]at h
 .cases h;exact zI.1 hc
 .cases h
theorem NZ{l:c6G}(h:i<l.length):P5 l (i:Int)=some (hg l i):=by rw[V8];exact b1G h
def hw(W:c6G)(d:Int):Int:=W.getD d.toNat 0
end Go.GP
namespace Gt
open Go Go.GP
def il(y:Int):Bool:=if y % 4=0 then(if y % 100≠0 then true else decide (y % 400=0))else false
def ys(y:Int):Int:=(y -1900)*365+((y -1) / 4 -(y -1) / 100+(y -1) / 400) -460
def diy(y:Int):Int:=if il y then 366 else 365
theorem Gx(y:Int):ys (y+1)=ys y+diy y:=by unfold ys diy il;by_cases h4:y % 4=0<;>by_cases h100:y % 100=0<;>by_cases h400:y % 400=0<;>simp[h4,h100,h400]<;>omega
theorem b1Q(a b:Int):a<b\/b<=a:=o5
theorem QA(y:Int):365<=diy y/\diy y<=366:=by unfold diy;split<;>omega
theorem CZ{y y' :Int}(h:y<=y'):ys y<=ys y' :=by
 obtain⟨n,rfl⟩:∃n:Nat,y' =y+n:=⟨(y' -y).toNat,o5⟩;clear h;induction n with
 |zero=>simp|succ n ih=>have:=Gx (y+n);have:=QA (y+n);have e:y+((n+1:Nat):Int)=y+n+1:=o5;rw[e];omega
variable {y:Int}
theorem MO(h:1900<=y):0<=ys y:=by
 have:=CZ h;have e:ys 1900=0:=by decide+kernel
 omega
theorem a6D{y y' d:Int}(h1:ys y<=d)(h2:d<ys (y+1))(h3:ys y' <=d)(h4:d<ys (y' +1)):y=y' :=by
 rcases Int.lt_trichotomy y y' with h|h|h
 .have:=CZ (y:=y+1) (y' :=y') o5;omega
 .exact h
 .have:=CZ (y:=y' +1) (y' :=y) o5;omega
def dim(y m:Int):Int:=
 if m=2 then(if il y then 29 else 28)else if m=4\/m=6\/m=9\/m=11 then 30 else 31
theorem IM(y m:Int):28<=dim y m/\dim y m<=31:=by
 unfold dim;repeat' split
 all_goals omega
theorem Ko(h:0<=y):FM y=some (il y):=by
 unfold FM il;simp only[Aw h];by_cases h4:y % 4=0
 .rw[nV (U6 h4),if_pos h4];by_cases h100:y % 100=0
  .simp[C9,h100]
  .simp[C9,h100]
 .rw[oU (J7 h4),if_neg h4]
theorem JJ(h:0<=y):Jk y=some (il y):=Ko h
theorem MQ(h:0<=y):qL y=some (diy y):=by unfold qL diy;rw[JJ h,o9];cases il y<;>rfl
variable {m:Int}
theorem m12(h:1<=m/\m<=12):m=1\/m=2\/m=3\/m=4\/m=5\/m=6\/m=7\/m=8\/m=9\/m=10\/m=11\/m=12:=o5
theorem qm(h:0<=y)(hm:1<=m/\m<=12):jQ y m=some (dim y m):=by
 unfold jQ;rcases m12 hm with rfl|rfl|rfl|rfl|rfl|rfl|rfl|rfl|rfl|rfl|rfl|rfl
 all_goals first|rfl|(rw[Ko h];unfold dim;cases il y<;>rfl)
theorem KU(h:0<=y)(hm:1<=m/\m<=12):pM y m=some (dim y m):=by
 unfold pM;rcases m12 hm with rfl|rfl|rfl|rfl|rfl|rfl|rfl|rfl|rfl|rfl|rfl|rfl
 all_goals first|rfl|(rw[JJ h];unfold dim;cases il y<;>rfl)
theorem FO(h:0<=y)(h2:y<=1000000):xu y=some (y / 4 -y / 100+y / 400):=by unfold xu;simp only[aO,nH h];rw[BB di,BB di,BB di,dO di,dN di]
theorem Ak(h:1<=y)(h2:y<=1000000):qP y=some (ys y):=by unfold qP;have e1:N9 .i64 y 1900=y -1900:=dO di;have e2:mY .i64 (y -1900) 365=(y -1900)*365:=Vm di;rw[dO (a:=y) (b:=1) di,FO o5 o5,o9,FO o5 o5,o9,e1,e2,dN di,dO di];unfold ys;congr 1
def mo(y:Int):Nat->Int->Int×Int
 |0,d=>(d,13)|n+1,d=>if d<dim y (12 -n)then(d,12 -n)else mo y n (d -dim y (12 -n))
theorem Zc(y:Int)(n:Nat)(d:Int):mo y (n+1) d=if d<dim y (12 -(n:Int))then(d,12 -(n:Int))else mo y n (d -dim y (12 -(n:Int))):=rfl
def rem(y:Int):Nat->Int
 |0=>0|n+1=>dim y (12 -n)+rem y n
theorem a4S(y:Int):rem y 12=diy y:=by unfold diy;cases h:il y<;>simp[rem,dim,h]
theorem a4H(y:Int):∀(n:Nat) (d:Int),n<=12->0<=d->d<rem y n->1<=(mo y n d).2/\(mo y n d).2<=12/\0<=(mo y n d).1/\(mo y n d).1<dim y (mo y n d).2
 |0,d,_,h0,h=>by simp[rem]at h;omega|n+1,d,hn,h0,h=>by
  unfold mo;by_cases hd:d<dim y (12 -n)
  .rw[if_pos hd];refine⟨?_,?_,h0,hd⟩<;>simp<;>omega
  .rw[if_neg hd];refine a4H y n _ o5 o5 ?_;simp only[rem]at h;omega
def yOf(d:Int):Int:=((((List.range 300).find? (λ(k:Nat)=>decide (d<ys (1900+(k:Int)+1)))).getD 0:Nat):Int)+1900
variable {d:Int}
theorem Ql(h0:0<=d)(h:d<=109572):1900<=yOf d/\yOf d<=2199/\ys (yOf d)<=d/\d<ys (yOf d+1):=by
 unfold yOf;cases hf:(List.range 300).find? (λ(k:Nat)=>decide (d<ys (1900+(k:Int)+1)))with
 |none=>
  have:=List.find?_eq_none.1 hf 299 D5;simp only[decide_eq_true_eq]at this;have e:ys (1900+(299:Nat)+1)=109573:=by decide+kernel
  omega
 |some k=>
  have h1:=List.find?_some hf;simp only[decide_eq_true_eq]at h1;have h2:=List.mem_of_find?_eq_some hf;simp only[fH]at h2;simp only[Y3];refine⟨o5,o5,?_,?_⟩
  .cases k with
   |zero=>
    have e:ys 1900=0:=by decide+kernel
    simp[e,h0]
   |succ j=>have h3:=List.find?_range_eq_some.1 hf;have h4:=h3.2.2 j o5;simp only[bT,decide_eq_false_iff_not,vZ]at h4;have e:(((j+1:Nat):Int)+1900)=1900+(j:Int)+1:=o5;rw[e];exact h4
  .have e:(k:Int)+1900+1=1900+k+1:=o5;rw[e];exact h1
def ymd(d:Int):Int×Int×Int:=let y:=yOf d;let r:=mo y 12 (d -ys y);(y,r.2,r.1+1)
theorem WW(h0:0<=d)(h:d<=109572):xq d=some (ymd d):=by
 obtain⟨y1,y2,y3,y4⟩:=Ql h0 h;have y0:=MO y1;unfold xq xw;rw[nV (bH h0),o9,bH h,H7,o6];have e0:G5 .i64 1900 (aO .i64 d 366)=1900+d / 366:=by
  have e:aO .i64 d 366=d / 366:=by rw[Po (by rw[nH h0];unfold eH;omega),nH h0]
  rw[e,dN di]
 rw[e0];obtain⟨y,hy,hq⟩:=ug (f:=λ(x:Int)=>l9 (qP (G5 IntKind.i64 x 1)) λ(x_1:Int)=>l7 (U7 x_1 d) (some (Sum.inl (G5 IntKind.i64 x 1))) (some (Sum.inr x))) (s:=1900+d / 366)
  (λy=>1900<=y/\y<=yOf d) (λy=>y=yOf d) (λy=>(2200 -y).toNat) (by
   refine⟨o5,?_⟩;have e:∀n:Nat,ys (1900+n)<=366*n:=by
    intro n;induction n with
    |zero=>decide+kernel|succ n ih=>have:=Gx (1900+n);have:=QA (1900+n);have e:(1900:Int)+((n+1:Nat):Int)=1900+n+1:=o5;rw[e];omega
   have e1:=e (d / 366).toNat
   have e2:((d / 366).toNat:Int)=d / 366:=o5;rw[e2]at e1;rcases b1Q (yOf d) (1900+d / 366)with hlt|hge
   .have:=CZ (y:=yOf d+1) (y' :=1900+d / 366) o5;omega
   .exact hge) o5 (by
   intro y ⟨hy1,hy2⟩
   try simp only
   rw[dN di,Ak o5 o5,o9];by_cases hle:ys (y+1)<=d
   .refine .inl ⟨y+1,by rw[nV (bH hle)],⟨o5,?_⟩,o5⟩;rcases b1Q (yOf d) (y+1)with hlt|hge
    .have:=CZ (y:=yOf d+1) (y' :=y+1) o5;omega
    .exact hge
   .refine .inr ⟨y,by rw[oU (dE o5)],?_⟩;rcases b1Q y (yOf d)with hlt|hge
    .have:=CZ (y:=y+1) (y' :=yOf d) o5;omega
    .omega)
 rw[hy,o9,hq,Ak o5 o5,o9,dO di];have hs:=Gx (yOf d);have hr:=a4S (yOf d);rcases jH (f:=λ(x:Int×Int)=>l7 (I5 x.2 12) (l9 (jQ (yOf d) (G5 IntKind.i64 x.2 1)) λ(x_1:Int)=>l7 (I5 x.1 x_1) (some (Out.rt (yOf d,G5 IntKind.i64 x.2 1,G5 IntKind.i64 x.1 1))) (some (Out.nx (N9 IntKind.i64 x.1 x_1,G5 IntKind.i64 x.2 1)))) (some (Out.ex PUnit.unit))) (s:=(d -ys (yOf d),0))
  (λs=>∃n:Nat,n<=12/\s.2=12 -n/\mo (yOf d) n s.1=mo (yOf d) 12 (d -ys (yOf d))/\0<=s.1/\s.1<rem (yOf d) n/\s.1<=400) (λ_=>False) (λr=>r=ymd d) (λs=>(12 -s.2).toNat)
  ⟨12,o5,D5,rfl,o5,by rw[hr];show d -ys (yOf d)<_;omega,by have:=QA (yOf d);show d -ys (yOf d)<=400;omega⟩ D5 (by
   rintro⟨r,i⟩ ⟨n,hn,hi,hm,hr0,hrn,hr4⟩;simp only at hi hm hr0 hrn hr4 ⊢;cases n with
   |zero=>simp[rem]at hrn;omega|succ n=>
    have ei:i+1=12 -n:=o5;rw[nV (aP o5),dN di,ei,qm o5 o5,o9];have hb:=IM (yOf d) (12 -n);rw[Zc (yOf d) n r]at hm;by_cases hlt:r<dim (yOf d) (12 -n)
    .rw[if_pos hlt]at hm;refine .inr (.inr ⟨_,by rw[nV (aP hlt)],?_⟩);rw[dN di];unfold ymd
     try simp only
     rw[←hm]
    .rw[if_neg hlt]at hm;refine .inl ⟨_,by rw[oU (U1 o5),dO di],⟨n,o5,D5,hm,?_,?_,?_⟩,?_⟩
     .simp;omega
     .simp only[rem]at hrn ⊢;omega
     .simp;omega
     .simp;omega)with⟨_,_,hf⟩|⟨r,he,hr⟩
 .exact hf.elim
 .rw[he,o9,gI,hr]
theorem VP(h0:0<=d)(h:d<=109572):KW d=some (ymd d):=by
 obtain⟨y1,y2,y3,y4⟩:=Ql h0 h;have y0:=MO y1;unfold KW Gi;rw[nV (bH h0),o9,bH h,H7,o6];obtain⟨⟨r,y⟩,hy,hq⟩:=ug (f:=λ(x:Int×Int)=>l9 (qL x.2) λ(x_1:Int)=>l7 (U7 x_1 x.1) (l9 (qL x.2) λ(x_2:Int)=>some (Sum.inl (N9 IntKind.i64 x.1 x_2,G5 IntKind.i64 x.2 1))) (some (Sum.inr x))) (s:=(d,1900))
  (λs=>1900<=s.2/\s.2<=yOf d/\s.1=d -ys s.2) (λs=>s=(d -ys (yOf d),yOf d)) (λs=>(2200 -s.2).toNat)
  ⟨D5,by simpa using y1,by(have e:ys 1900=0:=by decide+kernel);simp[e]⟩ D5 (by
   rintro⟨r,y⟩ ⟨h1,h2,h3⟩;simp only at h1 h2 h3 ⊢;have hb:=QA y;have hs:=Gx y;have hm:=CZ h2;have hpos:0<=ys y:=by
     have:=CZ (y:=1900) (y' :=y) h1;have e:ys 1900=0:=by decide+kernel
     omega
   rw[MQ o5,o9];by_cases hle:diy y<=r
   .refine .inl ⟨(r -diy y,y+1),?_,⟨by simp;omega,?_,?_⟩,?_⟩
    .rw[nV (bH hle),o9,dO di,dN di]
    .simp only;rcases b1Q (yOf d) (y+1)with hlt|hge
     .have:=CZ (y:=yOf d+1) (y' :=y+1) o5;omega
     .exact hge
    .simp only;omega
    .simp;omega
   .refine .inr ⟨_,by rw[oU (dE o5)],?_⟩;have e:y=yOf d:=a6D (d:=d) o5 o5 y3 y4;subst e;rw[h3])
 rw[hy,o9,hq]
 try simp only
 have hs:=Gx (yOf d);have hr:=a4S (yOf d);obtain⟨⟨r,m⟩,he,hq2⟩:=ug (f:=λ(x:Int×Int)=>l9 (pM (yOf d) x.2) λ(x_1:Int)=>l7 (U7 x_1 x.1) (l9 (pM (yOf d) x.2) λ(x_2:Int)=>some (Sum.inl (N9 IntKind.i64 x.1 x_2,G5 IntKind.i64 x.2 1))) (some (Sum.inr x))) (s:=(d -ys (yOf d),1))
  (λs=>∃n:Nat,n<=12/\s.2=13 -n/\mo (yOf d) n s.1=mo (yOf d) 12 (d -ys (yOf d))/\0<=s.1/\s.1<rem (yOf d) n/\s.1<=400) (λs=>s=mo (yOf d) 12 (d -ys (yOf d))) (λs=>(13 -s.2).toNat)
  ⟨12,o5,D5,rfl,o5,by rw[hr];show d -ys (yOf d)<_;omega,by have:=QA (yOf d);show d -ys (yOf d)<=400;omega⟩ D5 (by
   rintro⟨r,i⟩ ⟨n,hn,hi,hm,hr0,hrn,hr4⟩;simp only at hi hm hr0 hrn hr4 ⊢;cases n with
   |zero=>simp[rem]at hrn;omega|succ n=>
    have ei:i=12 -n:=o5;subst ei;rw[KU o5 o5,o9];have hb:=IM (yOf d) (12 -n);rw[Zc (yOf d) n r]at hm;by_cases hlt:r<dim (yOf d) (12 -n)
    .rw[if_pos hlt]at hm;exact .inr ⟨_,by rw[oU (dE o5)],hm⟩
    .rw[if_neg hlt]at hm;refine .inl ⟨(r -dim (yOf d) (12 -n),12 -n+1),by rw[nV (bH o5),o9,dO di,dN di],⟨n,o5,by simp;omega,hm,?_,?_,?_⟩,?_⟩
     .simp;omega
     .simp only[rem]at hrn ⊢;omega
     .simp;omega
     .simp;omega)
 rw[he,o9,hq2];have hb:=a4H (yOf d) 12 (d -ys (yOf d)) o5 o5 (by rw[hr];omega);have hb2:=IM (yOf d) (mo (yOf d) 12 (d -ys (yOf d))).2;rw[dN di];rfl
theorem a3L(h0:0<=d)(h:d<=109572):1900<=(ymd d).1/\(ymd d).1<=2199/\1<=(ymd d).2.1/\(ymd d).2.1<=12/\1<=(ymd d).2.2/\(ymd d).2.2<=31:=by
 obtain⟨y1,y2,y3,y4⟩:=Ql h0 h;have y0:=MO y1;have hs:=Gx (yOf d);have hb:=a4H (yOf d) 12 (d -ys (yOf d)) o5 o5 (by rw[a4S];omega);have hb2:=IM (yOf d) (mo (yOf d) 12 (d -ys (yOf d))).2;unfold ymd
 try simp only
 omega
end Gt
namespace Go.GP
open Gt
set_option maxRecDepth 100000
def yY(y:Int):Nat->Int
 |0=>0|k+1=>yY y k+dim y ((k:Int)+1)
def Kt(y m d:Int):Int:=ys y+yY y (m -1).toNat+d -1
theorem PD(y:Int):∀k:Nat,k<=12->28*k<=yY y k/\yY y k<=31*k
 |0,_=>by simp[yY]|k+1,h=>by have:=PD y k o5;have:=IM y ((k:Int)+1);unfold yY;omega
theorem b3S{y:Int}(h:1900<=y)(h2:y<=2200):0<=ys y/\ys y<=109573:=by
 have h1:=MO h;have h3:=CZ h2;have:ys 2200=109573:=by decide
 omega
theorem Ve{y m d:Int}(hy:1900<=y/\y<=2199)(hm:1<=m/\m<=12)(h1:1<=d)(h2:d<=dim y m):iL y m d=some (Kt y m d,0):=by
 have hyb:=b3S hy.1 o5;have hdb:=IM y m;unfold iL;rw[U1 hy.1,o6,U1 hy.2,o6,U1 hm.1,o6,U1 hm.2,o6,U1 h1,o6,qm o5 hm,o9,U1 h2,o6,o9,V6,Ak o5 o5,o9];have hs:N9 .i64 m 1=m -1:=dO di;obtain⟨e,k1,k2⟩:=ug (f:=λ(x:Int×Int)=>l7 (I5 x.2 (N9 .i64 m 1)) (l9 (jQ y (G5 .i64 x.2 1)) λ(x_1:Int)=>some (.inl (G5 .i64 x.1 x_1,G5 .i64 x.2 1))) (some (.inr x.1)))
  (s:=(ys y,0)) (λx=>∃i:Nat,x=(ys y+yY y i,(i:Int))/\(i:Int)<=m -1) (λe=>e=ys y+yY y (m -1).toNat) (λx=>(m -1 -x.2).toNat) ⟨0,by simp[yY],o5⟩ E5 (by
  rintro x ⟨i,rfl,hi⟩;simp only[hs];by_cases hlt:(i:Int)<m -1
  .have hb:=PD y i o5;have hd:=IM y ((i:Int)+1);left;refine⟨(ys y+yY y (i+1),((i+1:Nat):Int)),?_,⟨i+1,rfl,o5⟩,by simp;omega⟩;rw[aP hlt,o7,dH o5,show(((i+1:Nat):Int))=(i:Int)+1 by omega,qm o5 o5,o9,dN di];simp only[yY];rw[Int.add_assoc]
  .right;have:i=(m -1).toNat:=o5;subst this;exact⟨_,by rw[U1 o5];rfl,rfl⟩)
 refine(a0r k1 _).trans ?_;have hb:=PD y (m -1).toNat o5;rw[k2,dN di,dO di];rfl
def q1(q:Int)(u:Bool):Int:=l7 u (q+1) q
def sg(q:Int)(neg:Bool):Int:=l7 neg (-q) q
def b3i(r:OM):Prop:=eH r.2.1/\eH r.2.2.1/\eH r.2.2.2
def b3U(t:eP):Prop:=t.2.2.2.length<=200/\∀r∈t.2.2.2,b3i r
abbrev V3:Type:=Int×Int×Int
theorem QG{α β ρ:Type}(G:β->α->β⊕ρ)(P:ρ->Prop)(hG:∀b a r,G b a= .inr r->P r):∀(l:List α) (b:β) (r:ρ),qV G l b= .inr r->P r
 |[],b,r,h=>by cases h|a::l,b,r,h=>by
  unfold qV at h;cases hg:G b a with
  |inr r' =>rw[hg]at h;simp only at h;cases h;exact hG _ _ _ hg|inl b' =>rw[hg]at h;exact QG G P hG l b' r h
theorem b3V:∀i:Fin 40,(arF ((i.1:Nat):Int)=0->i.1∈[1,2,3,4,5,6,7,8,9,35,36,37,38,39])/\(arF ((i.1:Nat):Int)=1->i.1∈[10,25,31,32,33,34])/\(arF ((i.1:Nat):Int)=2->i.1∈[11,12,13,14,15,16,17,18,19,20,21,22,23,24,27,28,29,30])/\(arF ((i.1:Nat):Int)=3->i.1=26):=by decide+kernel
variable {k:Int}
theorem b7I(h:k<1\/39<k):arF k=-1:=by
 unfold arF lI;rw[J7 (show k≠10 by omega),J7 (show k≠25 by omega),J7 (show k≠31 by omega),J7 (show k≠32 by omega),J7 (show k≠33 by omega),J7 (show k≠34 by omega),J7 (show k≠26 by omega)];rcases h with h|h
 .rw[dE (show k<1 by omega),dE (show k<35 by omega),dE (show k<11 by omega)];rfl
 .rw[bH (show 1<=k by omega),dE (show 9<k by omega),bH (show 35<=k by omega),dE (show 39<k by omega),bH (show 11<=k by omega),dE (show 30<k by omega)];rfl
theorem c5O(h:arF k≠-1):∃i:Fin 40,k=((i.1:Nat):Int):=by
 by_cases g:1<=k/\k<=39
 .exact⟨⟨k.toNat,o5⟩,by simp;omega⟩
 .exact absurd (b7I o5) h
def XT.node:XT->Int×Int
 | .l0 n=>n| .l1 n _=>n| .l2 n _ _=>n| .l3 n _ _ _=>n
def rtI(t:XT)(o:Nat):Nat:=o+t.size -1
def At(e:List (Int×Int))(S:c6G)(t:XT)(o:Nat):Prop:=∃pre suf S1 S2,e=pre++t.post++suf/\S=S1++t.sts o++S2/\pre.length=o/\S1.length=o
variable {e:List (Int×Int)}{o:Nat}{S:c6G}{n:Int×Int}{a:XT}
theorem a3W(h:At e S (.l1 n a) o):At e S a o:=by obtain⟨p,s,S1,S2,h1,h2,h3,h4⟩:=h;exact⟨p,[n]++s,S1,[(o:Int)]++S2,by rw[h1];simp[XT.post],by rw[h2];simp[XT.sts],h3,h4⟩
theorem Xr{a b:XT}(h:At e S (.l2 n a b) o):At e S a o/\At e S b (o+a.size):=by
 obtain⟨p,s,S1,S2,h1,h2,h3,h4⟩:=h;exact⟨⟨p,b.post++[n]++s,S1,b.sts (o+a.size)++[(o:Int)]++S2,by rw[h1];simp[XT.post],by rw[h2];simp[XT.sts],h3,h4⟩,
  ⟨p++a.post,[n]++s,S1++a.sts o,[(o:Int)]++S2,by rw[h1];simp[XT.post],by rw[h2];simp[XT.sts],by simp[XT.post_len,h3],by simp[XT.sts_len,h4]⟩⟩
theorem OQ{a b c:XT}(h:At e S (.l3 n a b c) o):At e S a o/\At e S b (o+a.size)/\At e S c (o+a.size+b.size):=by
 obtain⟨p,s,S1,S2,h1,h2,h3,h4⟩:=h;exact⟨⟨p,b.post++c.post++[n]++s,S1,b.sts (o+a.size)++c.sts (o+a.size+b.size)++[(o:Int)]++S2,by rw[h1];simp[XT.post],by rw[h2];simp[XT.sts],h3,h4⟩,
  ⟨p++a.post,c.post++[n]++s,S1++a.sts o,c.sts (o+a.size+b.size)++[(o:Int)]++S2,by rw[h1];simp[XT.post],by rw[h2];simp[XT.sts],by simp[XT.post_len,h3],by simp[XT.sts_len,h4]⟩,
  ⟨p++a.post++b.post,[n]++s,S1++a.sts o++b.sts (o+a.size),[(o:Int)]++S2,by rw[h1];simp[XT.post],by rw[h2];simp[XT.sts],by simp[XT.post_len,h3];try omega,by simp[XT.sts_len,h4];try omega⟩⟩
theorem a6l(t:XT):∃p,t.post=p++[t.node]/\p.length+1=t.size:=by
 have hl:=t.post_len;cases t with
 |l0 n=>exact⟨[],rfl,rfl⟩|l1 n a=>refine⟨a.post,rfl,?_⟩;simp only[XT.post,I8,fC]at hl;exact hl|l2 n a b=>refine⟨a.post++b.post,rfl,?_⟩;simp only[XT.post,I8,fC]at hl ⊢;exact hl|l3 n a b c=>refine⟨a.post++b.post++c.post,rfl,?_⟩;simp only[XT.post,I8,fC]at hl ⊢;exact hl
theorem b0S(t:XT)(o:Nat):∃p,t.sts o=p++[(o:Int)]/\p.length+1=t.size:=by
 have hl:=t.sts_len o;cases t with
 |l0 n=>exact⟨[],rfl,rfl⟩|l1 n a=>refine⟨a.sts o,rfl,?_⟩;simp only[XT.sts,I8,fC]at hl;exact hl|l2 n a b=>refine⟨a.sts o++b.sts (o+a.size),rfl,?_⟩;simp only[XT.sts,I8,fC]at hl ⊢;exact hl|l3 n a b c=>refine⟨a.sts o++b.sts (o+a.size)++c.sts (o+a.size+b.size),rfl,?_⟩;simp only[XT.sts,I8,fC]at hl ⊢;exact hl
variable {t:XT}
theorem yf(h:At e S t o):e[rtI t o]? =some t.node/\S[rtI t o]? =some (o:Int)/\rtI t o<e.length:=by
 obtain⟨p,s,S1,S2,h1,h2,h3,h4⟩:=h;obtain⟨q,e1,e2⟩:=a6l t;obtain⟨q',e1',e2'⟩:=b0S t o;have hp:=t.size_pos;have a1:e[rtI t o]? =some t.node:=by rw[h1,e1,E8,E8,←E8 p,H9 (by simp[rtI];omega)];rw[show rtI t o -(p++q).length=0 by simp[rtI];omega];rfl
 refine⟨a1,?_,(bg.1 a1).1⟩;rw[h2,e1',E8,E8,←E8 S1,H9 (by simp[rtI];omega)];rw[show rtI t o -(S1++q').length=0 by simp[rtI];omega];rfl
def a6j:XT->Nat->c6G
 | .l0 _,_=>[]| .l1 _ a,o=>[(rtI a o:Int)]| .l2 _ a b,o=>[(rtI a o:Int),(rtI b (o+a.size):Int)]| .l3 _ a b c,o=>[(rtI a o:Int),(rtI b (o+a.size):Int),(rtI c (o+a.size+b.size):Int)]
structure OStep (S:c6G) (f:c6G×Int×Int->Option ((c6G×Int×Int)⊕c6G)):Prop where
 step:∀(l:c6G) (c:Nat) (j:Nat) (x:Nat),j<l.length->l.length<=3->S[c]? =some ((x:Nat):Int)->x<=100->f (l,(c:Int),(j:Int))=some (.inl (l.set j (c:Int),(x:Int) -1,(j:Int) -1))
 stop:∀(l:c6G) (c:Int),f (l,c,-1)=some (.inr l)
theorem Cb{σ ε:Type}{f:σ->Option (σ⊕ε)}{s s' :σ}{n:Nat}(h:f s=some (.inl s')):zJ f (n+1) s=zJ f n s' :=by rw[zJ,h]
theorem Cc{σ ε:Type}{f:σ->Option (σ⊕ε)}{s:σ}{e:ε}{n:Nat}(h:f s=some (.inr e)):zJ f (n+1) s=some e:=by rw[zJ,h]
theorem a8b{f:c6G×Int×Int->Option ((c6G×Int×Int)⊕c6G)}(hs:OStep S f)(h:At e S t o)(he:e.length<=48)(hw:t.wf):
  fA f (List.replicate (arF t.node.1).toNat 0,(rtI t o:Int) -1,arF t.node.1 -1)=some (a6j t o):=by
 obtain⟨k,hk⟩:∃k,dZ=k+1+1+1+1:=⟨dZ -4,by unfold dZ;omega⟩;unfold fA;rw[hk];have hr:=yf h;cases t with
 |l0 n=>rw[show arF (XT.l0 n).node.1=0 from hw];exact Cc (hs.stop _ _)|l1 n a=>rw[show arF (XT.l1 n a).node.1=1 from hw.1];have ha:=yf (a3W h);have p1:=a.size_pos;rw[show((rtI (.l1 n a) o:Nat):Int) -1=((rtI a o:Nat):Int) by simp only[rtI,XT.size];omega];rw[show((1:Int) -1)=((0:Nat):Int)from rfl,Cb (hs.step _ _ 0 o D5 D5 ha.2.1 (by unfold rtI at hr;omega))];rw[show(((0:Nat):Int) -1)=-1 from rfl,Cc (hs.stop _ _)];rfl|l2 n a b=>rw[show arF (XT.l2 n a b).node.1=2 from hw.1];have ha:=yf (Xr h).1;have hb:=yf (Xr h).2;have p1:=a.size_pos;have p2:=b.size_pos;rw[show((rtI (.l2 n a b) o:Nat):Int) -1=((rtI b (o+a.size):Nat):Int) by simp only[rtI,XT.size];omega];rw[show((2:Int) -1)=((1:Nat):Int)from rfl,Cb (hs.step _ _ 1 (o+a.size) D5 D5 hb.2.1 (by unfold rtI at hb;omega))];rw[show((o+a.size:Nat):Int) -1=((rtI a o:Nat):Int) by unfold rtI;omega,show(((1:Nat):Int) -1)=((0:Nat):Int)from rfl];rw[Cb (hs.step _ _ 0 o D5 D5 ha.2.1 (by unfold rtI at hr;omega))];rw[show(((0:Nat):Int) -1)=-1 from rfl,Cc (hs.stop _ _)];rfl|l3 n a b c=>rw[show arF (XT.l3 n a b c).node.1=3 from hw.1];have ha:=yf (OQ h).1;have hb:=yf (OQ h).2.1;have hc:=yf (OQ h).2.2;have p1:=a.size_pos;have p2:=b.size_pos;have p3:=c.size_pos;rw[show((rtI (.l3 n a b c) o:Nat):Int) -1=((rtI c (o+a.size+b.size):Nat):Int) by simp only[rtI,XT.size];omega];rw[show((3:Int) -1)=((2:Nat):Int)from rfl,Cb (hs.step _ _ 2 (o+a.size+b.size) D5 D5 hc.2.1 (by unfold rtI at hc;omega))];rw[show((o+a.size+b.size:Nat):Int) -1=((rtI b (o+a.size):Nat):Int) by unfold rtI;omega,show(((2:Nat):Int) -1)=((1:Nat):Int)from rfl];rw[Cb (hs.step _ _ 1 (o+a.size) D5 D5 hb.2.1 (by unfold rtI at hb;omega))];rw[show((o+a.size:Nat):Int) -1=((rtI a o:Nat):Int) by unfold rtI;omega,show(((1:Nat):Int) -1)=((0:Nat):Int)from rfl];rw[Cb (hs.step _ _ 0 o D5 D5 ha.2.1 (by unfold rtI at hr;omega))];rw[show(((0:Nat):Int) -1)=-1 from rfl,Cc (hs.stop _ _)];rfl
theorem c5z(h:t.wf):0<=arF t.node.1/\arF t.node.1<=3:=by
 cases t with
 |l0 n=>rw[show arF (XT.l0 n).node.1=0 from h];decide|l1 n a=>rw[show arF (XT.l1 n a).node.1=1 from h.1];decide|l2 n a b=>rw[show arF (XT.l2 n a b).node.1=2 from h.1];decide|l3 n a b c=>rw[show arF (XT.l3 n a b c).node.1=3 from h.1];decide
variable {α:Type}
theorem a5W(h:0<=k)(h2:k<=1000000)(x:α):BD k x=some (List.replicate k.toNat x):=if_pos ⟨h,o5⟩
theorem DW{T t:XT}(hT:kM e= .inr T)(h:At e (T.sts 0) t o)(hw:t.wf):AY e (rtI t o:Int)=some (a6j t o):=by
 obtain⟨hp,he⟩:=qK hT;have hr:=yf h;have ha:=c5z hw;unfold AY;rw[Nz,o9];unfold uu;rw[hT];simp only[V8,hr.1,o9,a8R,U6 (rfl:(0:Int)=0),H7,o6];rw[U1 (show(0:Int)<=((rtI t o:Nat):Int) by omega),dE (show((rtI t o:Nat):Int)<A7 e by unfold A7;omega)];simp only[o6,o9,V6];rw[a5W ha.1 o5,o9,bZ];rw[show N9 .i64 ((rtI t o:Nat):Int) 1=(rtI t o:Int) -1 from dO di];rw[show N9 .i64 (arF t.node.1) 1=arF t.node.1 -1 from dO di];refine a8b ⟨λl c j x hj hl hx hx2=>?_,λl c=>?_⟩ h he hw
 .have hjl:l[j]? =some l[j]:=lF hj;simp only[bH (show(0:Int)<=(j:Int) by omega),o7,V8,hjl,o9,hx,aN,Z7,F7,fD];rw[dO di,dO di]
 .rfl
abbrev VSt:Type:=V3×List V3×Int
structure VStep (ops:c6G) (ev:Int->Option (V3×Int)) (pad:List V3->List V3) (f:VSt->Option (Out VSt (V3×List V3) (V3×Int))):Prop where
 step:∀(l:List V3) (c:Int) (r:V3×Int),ops[l.length]? =some c->ev c=some r->f ((0,0,0),pad l,(l.length:Int))=some (l7 (C9 r.2 0) (.nx ((0,0,0),pad (l++[r.1]),((l.length+1:Nat):Int))) (.rt ((0,0,0),r.2)))
 stop:∀(l:List V3),l.length=ops.length->f ((0,0,0),pad l,(l.length:Int))=some (.ex ((0,0,0),l))
section
variable {ev:Int->Option (V3×Int)} {pad:List V3->List V3} {f:VSt->Option (Out VSt (V3×List V3) (V3×Int))}
theorem v0(h:VStep [] ev pad f):V4 f ((0,0,0),pad [],0)=some (.inl ((0,0,0),[])):=by obtain⟨k,hk⟩:∃k,dZ=k+1:=⟨dZ -1,by unfold dZ;omega⟩;unfold V4;rw[hk,iZ,show f ((0,0,0),pad [],0)=some (.ex ((0,0,0),[]))from h.stop [] rfl]
theorem v1{c:Int}{r:V3×Int}(h:VStep [c] ev pad f)(h1:ev c=some r):V4 f ((0,0,0),pad [],0)=some (l7 (C9 r.2 0) (.inl ((0,0,0),[r.1])) (.inr ((0,0,0),r.2))):=by
 obtain⟨k,hk⟩:∃k,dZ=k+1+1:=⟨dZ -2,by unfold dZ;omega⟩;unfold V4;rw[hk,iZ,show f ((0,0,0),pad [],0)=_ from h.step [] c r rfl h1];cases C9 r.2 0
 .rfl
 .simp only[o7];rw[iZ,show f ((0,0,0),pad ([]++[r.1]),(([].length+1:Nat):Int))=_ from h.stop [r.1] rfl]
theorem v2{c d:Int}{r q:V3×Int}(h:VStep [c,d] ev pad f)(h1:ev c=some r)(h2:ev d=some q):V4 f ((0,0,0),pad [],0)=some (l7 (C9 r.2 0) (l7 (C9 q.2 0) (.inl ((0,0,0),[r.1,q.1])) (.inr ((0,0,0),q.2))) (.inr ((0,0,0),r.2))):=by
 obtain⟨k,hk⟩:∃k,dZ=k+1+1+1:=⟨dZ -3,by unfold dZ;omega⟩;unfold V4;rw[hk,iZ,show f ((0,0,0),pad [],0)=_ from h.step [] c r rfl h1];cases C9 r.2 0
 .rfl
 .simp only[o7];rw[iZ,show f ((0,0,0),pad ([]++[r.1]),(([].length+1:Nat):Int))=_ from h.step [r.1] d q rfl h2];cases C9 q.2 0
  .rfl
  .simp only[o7];rw[iZ,show f ((0,0,0),pad ([r.1]++[q.1]),(([r.1].length+1:Nat):Int))=_ from h.stop [r.1,q.1] rfl]
end
theorem b3W(h:arF k=3):k=26:=by obtain⟨i,rfl⟩:=c5O (by rw[h];decide);rw[(b3V i).2.2.2 h];rfl
theorem OT(h:kM e= .inr t):At e (t.sts 0) t 0/\e.length<=48/\e.length=t.size/\N9 .i64 (A7 e) 1=(rtI t 0:Int):=by
 obtain⟨hp,h48⟩:=qK h;have hsz:e.length=t.size:=by rw[hp,XT.post_len]
 have hpos:=t.size_pos;refine⟨⟨[],[],[],[],by simp[←hp],D5,rfl,rfl⟩,h48,hsz,?_⟩;rw[dO (by unfold eH A7;omega)];unfold A7 rtI;omega
theorem gq{n:Nat}{l:List α}(h:I5 (n:Int) (A7 l)=false):l.length<=n:=by rw[qc]at h;unfold A7 at h;omega
def Np(r:kF):Bool:=l7 (I5 80 (A7 r.1)) true (l7 (I5 80 (A7 r.2.2.2.2.2.2.2)) true (l7 (I5 50 (A7 r.2.2.2.2.2.1)) true (I5 50 (A7 r.2.2.2.2.2.2.1))))
def smS(s:au):Bool:=l7 (I5 80 (A7 s.1)) false (l7 (I5 14 (A7 s.2.2.1)) false (l7 (I5 14 (A7 s.2.2.2.1)) false (l7 (I5 60 (A7 s.2.2.2.2)) false
 (l7 (s.2.2.1.any λf=>I5 80 (A7 f.1)) false (l7 (s.2.2.2.1.any λf=>I5 80 (A7 f.1)) false (H5 (s.2.2.2.2.any Np)))))))
theorem UZ{fs:List mW}(h:fs.length<=1000000):V4 (λ(x:Int)=>l7 (I5 x (A7 fs)) (l9 (P5 fs x) λ(x_1:mW)=>l7 (I5 80 (A7 x_1.1)) (some (Out.rt false)) (some (Out.nx (G5 IntKind.i64 x 1)))) (some (Out.ex PUnit.unit))) 0=some (bif fs.any (λf=>I5 80 (A7 f.1))then .inr false else .inl PUnit.unit):=by
 refine TP fs (λf=>I5 80 (A7 f.1)) false PUnit.unit h (λi a ha=>?_) ?_
 .simp only[aF ha,o7,V8,ha,o9];cases I5 80 (A7 a.1)<;>rfl
 .rw[aS];rfl
theorem Xj(s:au):zB s=some (smS s):=by
 unfold zB smS;cases h1:I5 80 (A7 s.1)
 case true=>rfl
 cases h2:I5 14 (A7 s.2.2.1)
 case true=>rfl
 cases h3:I5 14 (A7 s.2.2.2.1)
 case true=>rfl
 cases h4:I5 60 (A7 s.2.2.2.2)
 case true=>rfl
 have l2:=gq (n:=14) h2;have l3:=gq (n:=14) h3;have l4:=gq (n:=60) h4;simp only[o6,o9,V6];rw[UZ o5,UZ o5,o9];cases s.2.2.1.any λf=>I5 80 (A7 f.1)
 case true=>rfl
 simp only[cond_false,V6,o6,o9];cases s.2.2.2.1.any λf=>I5 80 (A7 f.1)
 case true=>rfl
 simp only[cond_false,V6,o6];refine Y5 (TP s.2.2.2.2 Np false PUnit.unit o5 (λi a ha=>?_) ?_) ?_
 rotate_left 2
 .cases s.2.2.2.2.any Np<;>rfl
 .simp only[aF ha,o7,V8,ha,o9];unfold Np;cases I5 80 (A7 a.1)<;>cases I5 80 (A7 a.2.2.2.2.2.2.2)<;>cases I5 50 (A7 a.2.2.2.2.2.1)<;>cases I5 50 (A7 a.2.2.2.2.2.2.1)<;>rfl
 .rw[aS];rfl
def ScI(s:au):Prop:=∀r∈s.2.2.2.2,(∀n∈r.2.2.2.2.2.1,eH n.2)/\∀n∈r.2.2.2.2.2.2.1,eH n.2
theorem Hw{a b:Bool}(h:l7 a false b=true):a=false/\b=true:=by cases a<;>cases b<;>first|exact⟨rfl,rfl⟩|cases h
theorem MV{l:List α}{p:α->Bool}(h:l.any p=false):∀a∈l,p a=false:=by
 intro a ha;rw[jS]at h;have:=h a ha;cases hp:p a
 .rfl
 .exact absurd hp this
theorem b5u{s:au}(h:smS s=true)(hI:ScI s):SmS s:=by
 unfold smS at h;obtain⟨h1,h⟩:=Hw h;obtain⟨h2,h⟩:=Hw h;obtain⟨h3,h⟩:=Hw h;obtain⟨h4,h⟩:=Hw h;obtain⟨h5,h⟩:=Hw h;obtain⟨h6,h⟩:=Hw h;have h7:s.2.2.2.2.any Np=false:=by cases hq:s.2.2.2.2.any Np<;>rw[hq]at h<;>first|rfl|cases h
 refine⟨by have:=gq (n:=80) h1;omega,gq (n:=14) h2,gq (n:=14) h3,V5 (gq (n:=60) h4) o5,⟨λf hf=>?_,λf hf=>?_⟩,λr hr=>?_⟩
 .have:=gq (n:=80) (MV h5 f hf);omega
 .have:=gq (n:=80) (MV h6 f hf);omega
 .have hl:=MV h7 r hr;unfold Np at hl;cases g1:I5 80 (A7 r.1)<;>rw[g1]at hl
  case true=>cases hl
  cases g2:I5 80 (A7 r.2.2.2.2.2.2.2)<;>rw[g2]at hl
  case true=>cases hl
  cases g3:I5 50 (A7 r.2.2.2.2.2.1)<;>rw[g3]at hl
  case true=>cases hl
  have k1:=gq (n:=80) g1;have k2:=gq (n:=80) g2;exact⟨⟨o5,o5,(hI r hr).1,(hI r hr).2⟩,gq (n:=50) g3,gq (n:=50) hl⟩
def XQ(e:bK):Bool:=l7 (I5 80 (A7 e.1)) true (l7 (I5 20 (A7 e.2)) true (e.2.any λm=>I5 80 (A7 m)))
def tG(b:Int)(t:eP):Int⊕Bool:=l7 (I5 80 (A7 t.1)) (.inr false) (l7 (I5 150 (G5 .i64 b (A7 t.2.2.2))) (.inr false) (.inl (G5 .i64 b (A7 t.2.2.2))))
def sG(b:Int)(s:au):Int⊕Bool:=l7 (I5 60 (G5 .i64 b (A7 s.2.2.2.2))) (.inr false) (l7 (smS s) (.inl (G5 .i64 b (A7 s.2.2.2.2))) (.inr false))
def smL(l:Z9):Bool:=l7 (I5 9 (A7 l.1)) false (l7 (I5 9 (A7 l.2.1)) false (l7 (I5 5 (A7 l.2.2)) false (l7 (l.1.any XQ) false
 (match qV tG l.2.1 0 with| .inr _=>false| .inl _=>match qV sG l.2.2 0 with| .inr _=>false| .inl _=>true))))
theorem b7q:∀(b:Int) (t:eP) (r:Bool),tG b t= .inr r->r=false:=by intro b t r h;unfold tG at h;cases g0:I5 80 (A7 t.1)<;>cases g:I5 150 (G5 .i64 b (A7 t.2.2.2))<;>simp only[g0,g,o7,o6]at h<;>cases h<;>rfl
theorem b5s:∀(b:Int) (s:au) (r:Bool),sG b s= .inr r->r=false:=by intro b s r h;unfold sG at h;cases g:I5 60 (G5 .i64 b (A7 s.2.2.2.2))<;>cases g2:smS s<;>simp only[g,g2,o7,o6]at h<;>cases h<;>rfl
theorem a0W(l:Z9):CW l=some (smL l):=by
 unfold CW smL;cases h1:I5 9 (A7 l.1)
 case true=>rfl
 cases h2:I5 9 (A7 l.2.1)
 case true=>rfl
 cases h3:I5 5 (A7 l.2.2)
 case true=>rfl
 have l1:=gq (n:=9) h1;have l2:=gq (n:=9) h2;have l3:=gq (n:=5) h3;simp only[o6,o9,V6];refine Y5 (TP l.1 XQ false PUnit.unit o5 (λi a ha=>?_) ?_) ?_
 .simp only[aF ha,o7,V8,ha,o9];unfold XQ;cases I5 80 (A7 a.1)
  case true=>rfl
  cases h5:I5 20 (A7 a.2)
  case true=>rfl
  have l5:=gq (n:=20) h5;simp only[o6];refine Y5 (TP a.2 (λm=>I5 80 (A7 m)) false PUnit.unit o5 (λj m hm=>?_) ?_) ?_
  .simp only[aF hm,o7,V8,hm,o9];cases I5 80 (A7 m)<;>rfl
  .rw[aS];rfl
  .cases a.2.any λm=>I5 80 (A7 m)<;>rfl
 .rw[aS];rfl
 cases l.1.any XQ
 case true=>rfl
 simp only[cond_false,V6,o6];apply Oc l.2.1 tG (λb i=>((b,i):Int×Int)) (λ_=>PUnit.unit) (λ_ _=>True) 0 o5 trivial
 .intro i t b hi hi' _;refine⟨?_,λ_ _=>trivial⟩;simp only[aF hi,o7,V8,hi,o9];unfold tG;rw[dH o5];cases I5 80 (A7 t.1)<;>cases I5 150 (G5 .i64 b (A7 t.2.2.2))<;>rfl
 .intro b _;rw[aS];rfl
 .intro _;cases ht:qV tG l.2.1 0 with
  |inr r=>rw[QG tG (λr=>r=false) b7q _ _ _ ht];rfl|inl b=>
   simp only[V6];apply Oc l.2.2 sG (λb i=>((b,i):Int×Int)) (λ_=>PUnit.unit) (λ_ _=>True) 0 o5 trivial
   .intro i s b hi hi' _;refine⟨?_,λ_ _=>trivial⟩;simp only[aF hi,o7,V8,hi,o9,Xj];unfold sG;rw[dH o5];cases I5 60 (G5 .i64 b (A7 s.2.2.2.2))<;>cases smS s<;>rfl
   .intro b _;rw[aS];rfl
   .intro _;cases hs:qV sG l.2.2 0 with
    |inr r=>rw[QG sG (λr=>r=false) b5s _ _ _ hs];rfl|inl b=>rfl
structure WfL (l:Z9):Prop where
 rl:∀t∈l.2.1,t.2.2.2.length<=4611686018427387904
 ri:∀t∈l.2.1,∀r∈t.2.2.2,b3i r
 sl:∀s∈l.2.2,s.2.2.2.2.length<=4611686018427387904
 si:∀s∈l.2.2,ScI s
theorem a3A:∀(L:List eP) (b b' :Int),0<=b->b<=150->(∀t∈L,t.2.2.2.length<=4611686018427387904)->qV tG L b= .inl b' ->∀t∈L,t.1.length<=80/\t.2.2.2.length<=150
 |[],_,_,_,_,_,_=>by simp|t::L,b,b',h0,h1,hw,h=>by
  have hwt:=hw t D5;have ha:G5 .i64 b (A7 t.2.2.2)=b+A7 t.2.2.2:=dN (by unfold eH A7;omega);unfold qV tG at h;rw[ha]at h;cases g0:I5 80 (A7 t.1)<;>rw[g0]at h
  case true=>cases h
  cases g1:I5 150 (b+A7 t.2.2.2)<;>rw[g1]at h
  case true=>cases h
  rw[qc]at g1;intro x hx;rcases D8.1 hx with rfl|hx
  .exact⟨gq (n:=80) g0,by unfold A7 at g1;omega⟩
  .exact a3A L (b+A7 t.2.2.2) b' (by unfold A7;omega) g1 (λq hq=>hw q (by simp[hq])) h x hx
theorem a3b:∀(L:List au) (b b' :Int),0<=b->b<=60->(∀s∈L,s.2.2.2.2.length<=4611686018427387904)->qV sG L b= .inl b' ->∀s∈L,smS s=true
 |[],_,_,_,_,_,_=>by simp|s::L,b,b',h0,h1,hw,h=>by
  have hwt:=hw s D5;have ha:G5 .i64 b (A7 s.2.2.2.2)=b+A7 s.2.2.2.2:=dN (by unfold eH A7;omega);unfold qV sG at h;rw[ha]at h;cases g1:I5 60 (b+A7 s.2.2.2.2)<;>rw[g1]at h
  case true=>cases h
  cases g2:smS s<;>rw[g2]at h
  case false=>cases h
  rw[qc]at g1;intro x hx;rcases D8.1 hx with rfl|hx
  .exact g2
  .exact a3b L (b+A7 s.2.2.2.2) b' (by unfold A7;omega) g1 (λq hq=>hw q (by simp[hq])) h x hx
theorem b5t{l:Z9}(h:smL l=true)(hW:WfL l):SmL l/\∀t∈l.2.1,b3U t:=by
 unfold smL at h;obtain⟨h1,h⟩:=Hw h;obtain⟨h2,h⟩:=Hw h;obtain⟨h3,h⟩:=Hw h;obtain⟨h4,h⟩:=Hw h;have l1:=gq (n:=9) h1;have l2:=gq (n:=9) h2;have l3:=gq (n:=5) h3;cases ht:qV tG l.2.1 0 with
 |inr r=>rw[ht]at h;cases h|inl b=>
  rw[ht]at h;simp only at h;cases hs:qV sG l.2.2 0 with
  |inr r=>rw[hs]at h;cases h|inl b' =>
   have T:=a3A l.2.1 0 b o5 o5 hW.rl ht;have S:=a3b l.2.2 0 b' o5 o5 hW.sl hs;refine⟨⟨⟨o5,o5,o5⟩,λe he=>?_,λt ht=>by have:=(T t ht).1;omega,λs hs=>b5u (S s hs) (hW.si s hs),o5⟩,λt ht=>⟨by have:=(T t ht).2;omega,hW.ri t ht⟩⟩;have hl:=MV h4 e he;unfold XQ at hl;cases g1:I5 80 (A7 e.1)<;>rw[g1]at hl
   case true=>cases hl
   cases g2:I5 20 (A7 e.2)<;>rw[g2]at hl
   case true=>cases hl
   have k1:=gq (n:=80) g1;exact⟨o5,λm hm=>by have:=gq (n:=80) (MV hl m hm);omega⟩
theorem c6C:reachBytes<=4611686018427387904:=by decide
theorem c6D{l:Z9}(h:wf c6E l):WfL l:=by
 refine⟨λt ht=>?_,λt ht r hr=>?_,λs hs=>?_,λs hs r hr=>⟨λn hn=>?_,λn hn=>?_⟩⟩
 .have:=(h.2.1.2 t ht).2.2.2.1;exact V5 this c6C
 .have:=(h.2.1.2 t ht).2.2.2.2 r hr;exact⟨c6B this.2.1,c6B this.2.2.1,c6B this.2.2.2⟩
 .have:=(h.2.2.2 s hs).2.2.2.2.1;exact V5 this c6C
 .have:=(h.2.2.2 s hs).2.2.2.2.2 r hr;exact c6B (this.2.2.2.2.2.1.2 n hn).2
 .have:=(h.2.2.2 s hs).2.2.2.2.2 r hr;exact c6B (this.2.2.2.2.2.2.1.2 n hn).2
end Go.GP
namespace Gt
open Go Go.GP
variable {n:Int}
theorem b1K(h:eH n):Hm n=some (Lib.itoa n):=by unfold Hm;rw[if_pos (show -9223372036854775808<=n/\n<=9223372036854775807 from h)]
theorem Yk{s:c6F}{c:Nat}(h:c<=1000000)(hs:s.length<=1000000):uX s (c:Int)=some (Lib.repeatL s c):=by
 unfold uX
 have:s.length*c<=1000000*1000000:=Nat.mul_le_mul hs h;rw[if_pos ⟨o5,o5,by rw[F7];omega⟩,F7]
theorem c1M(x:UInt8)(c:Nat):Lib.repeatL [x] c=List.replicate c x:=by have:=Lib.repeatL_replicate x 1 c;simpa using this
theorem a1t{d:Int}(h0:0<=d)(h:d<10):b2Z (wrap .u8 (G5 .u64 48 d))=UInt8.ofNat (48+d.toNat):=by
 rw[V_ (by unfold U64;omega)];have e:wrap .u8 (48+d)=((48+d.toNat:Nat):Int):=by unfold wrap IntKind.wrap;simp[IntKind.signed,IntKind.bits];omega
 rw[e];unfold b2Z;rw[F7]
theorem b3m(n:Int):C_ [n]=[b2Z n]:=rfl
theorem H_:∀(k u:Nat),u<k->u<18446744073709551616->yB k (u:Int)=some (Lib.decDigits u)
 |0,u,h,_=>by omega|k+1,u,h,hu=>by
  show AX (yB k) (u:Int)=_;unfold AX;by_cases h10:u<10
  .try simp only[b3m]
   rw[nV (aP o5),a1t o5 o5,Lib.decDigits,dif_pos h10,F7]
  .have e1:(u:Int).tdiv 10=((u / 10:Nat):Int):=by rw[nH o5];omega
   have e2:fE (u:Int) 10=((u % 10:Nat):Int):=by rw[Aw o5];omega
   try simp only[b3m]
   rw[oU (U1 o5),a7v (by rw[e1];unfold U64;omega)];rw[e1,H_ k (u / 10) o5 o5,o9,e2,a1t o5 o5,G6,o9,F7]
   .congr 1
    conv=>rhs;rw[Lib.decDigits,dif_neg h10]
   .have:=Lib.nDigits_le20 (u / 10) o5;rw[Lib.decDigits_length];simp;omega
theorem JI(h:U64 n):Jj n=some (Lib.decDigits n.toNat):=by unfold U64 at h;have:=H_ dZ n.toNat (by unfold dZ;omega) o5;rw[og h.1]at this;exact this
theorem EO(h:eH n):(Lib.itoa n).length<=21:=Lib.itoa_length_le n h.1 h.2
variable {u:Nat}
theorem CQ(h:u<18446744073709551616):1<=(Lib.decDigits u).length/\(Lib.decDigits u).length<=20:=by rw[Lib.decDigits_length];exact⟨Lib.nDigits_pos u,Lib.nDigits_le20 u h⟩
theorem vM(h:eH n):qg n=some (Lib.itoa n):=by
 unfold eH at h;unfold qg Lib.itoa;by_cases hn:n<0
 .rw[nV (aP hn),if_pos hn,dN di,dO di];rw[show wrap .u64 (0 -(n+1))=0 -(n+1)from Qk (by unfold U64;omega),V_ (by unfold U64;omega),JI (by unfold U64;omega),o9];have e:(0 -(n+1)+1).toNat=n.natAbs:=o5;rw[e,G6,o9]
  .rfl
  .have:=(CQ (u:=n.natAbs) o5).2;simp;omega
 .rw[oU (U1 o5),if_neg hn,show wrap .u64 n=n from Qk (by unfold U64;omega),JI (by unfold U64;omega),o9]
theorem jI(h:eH n):lY n=some (Lib.itoa n):=by unfold lY;rw[b1K h];rfl
def KC(u k:Nat):c6F:=
 let d:=List.replicate (k+1 -(Lib.decDigits u).length) 48++Lib.decDigits u
 d.take (d.length -k)++46::d.drop (d.length -k)
def Di(n:Int)(k:Nat):c6F:=if n<0 then 45::KC n.natAbs k else KC n.natAbs k
variable {k:Nat}
theorem a2g(hu:u<18446744073709551616)(hk:k<=9):(KC u k).length<=31:=by have:=CQ hu;unfold KC;simp;omega
theorem LZ(h:eH n)(hk:k<=9):(Di n k).length<=32:=by unfold eH at h;have:=a2g (u:=n.natAbs) (k:=k) o5 hk;unfold Di;split<;>simp<;>omega
variable {d:c6F}
theorem a6Y(h1:k<d.length)(h2:d.length<=100):
  gy d 0 (N9 .i64 (A7 d) (k:Int))=some (d.take (d.length -k))/\gy d (N9 .i64 (A7 d) (k:Int)) (A7 d)=some (d.drop (d.length -k)):=by
 have e:N9 .i64 (A7 d) (k:Int)=((d.length -k:Nat):Int):=by rw[dO (by unfold eH A7;omega)];unfold A7;omega
 rw[e];exact⟨by rw[yA o5 o5];simp,by rw[pG o5 o5];simp⟩
theorem a5i{d p:c6F}(h1:k<d.length)(h2:d.length<=100)(hp:p.length<=100):
  (l9 (gy d 0 (N9 .i64 (A7 d) (k:Int))) λx=>l9 (N8 p x) λy=>l9 (N8 y [46]) λz=>l9 (gy d (N9 .i64 (A7 d) (k:Int)) (A7 d)) λt=>l9 (N8 z t) λx=>some x)
   =some (p++(d.take (d.length -k)++46::d.drop (d.length -k))):=by
 obtain⟨c1,c2⟩:=a6Y h1 h2;rw[c1,o9,G6 E5,o9,G6 E5,o9,c2,o9,G6 E5,o9];simp
theorem gz(h:eH n)(hk:1<=k/\k<=9):cZ n (k:Int)=some (Di n k):=by
 have hI:=h;unfold eH at h;have ek:wL 0 (Dj (k:Int) 9)=(k:Int):=by unfold wL Dj;split<;>split<;>omega
 unfold cZ fK;rw[o9,ek,jI hI,o9,oU (J7 o5)];have hd:=CQ (u:=n.natAbs) o5;have rest:∀(d p:c6F),1<=d.length->d.length<=20->p.length<=1->
   l7 (U7 (A7 d) (k:Int))
    (l9 (uX [48] (N9 .i64 (G5 .i64 (k:Int) 1) (A7 d))) λx3=>l9 (N8 x3 d) λx4=>l9 (gy x4 0 (N9 .i64 (A7 x4) (k:Int))) λx5=>l9 (N8 p x5) λx6=>l9 (N8 x6 [46]) λx7=>
     l9 (gy x4 (N9 .i64 (A7 x4) (k:Int)) (A7 x4)) λx=>l9 (N8 x7 x) λx=>some x)
    (l9 (gy d 0 (N9 .i64 (A7 d) (k:Int))) λx=>l9 (N8 p x) λy=>l9 (N8 y [46]) λz=>l9 (gy d (N9 .i64 (A7 d) (k:Int)) (A7 d)) λt=>l9 (N8 z t) λx=>some x)
   =some (p++(let e:=List.replicate (k+1 -d.length) 48++d;e.take (e.length -k)++46::e.drop (e.length -k))):=by
  intro d p h1 h2 h3;by_cases hle:d.length<=k
  .rw[nV (bH (by unfold A7;omega))];have e:N9 .i64 (G5 .i64 (k:Int) 1) (A7 d)=((k+1 -d.length:Nat):Int):=by
    rw[dN di,dO (by unfold eH A7;omega)];unfold A7;omega
   rw[e,Yk o5 D5,c1M,o9,G6 E5,o9];exact a5i E5 E5 o5
  .rw[oU (dE (by unfold A7;omega)),a5i o5 o5 o5];have:k+1 -d.length=0:=o5;rw[this];simp
 unfold Lib.itoa Di KC;by_cases hn:n<0
 .rw[if_pos hn,if_pos hn,nV (aP hn)];have e:gy (45::Lib.decDigits n.natAbs) 1 (A7 (45::Lib.decDigits n.natAbs))=some (Lib.decDigits n.natAbs):=by
   rw[pG o5 E5];simp
  rw[e,o9];exact rest (Lib.decDigits n.natAbs) [45] hd.1 hd.2 D5
 .rw[if_neg hn,if_neg hn,oU (U1 o5)];have e:n.toNat=n.natAbs:=o5;rw[e];exact rest (Lib.decDigits n.natAbs) [] hd.1 hd.2 D5
theorem b1s :∀(h:d=Lib.decDigits u),∀c∈d,48<=c.toNat/\c.toNat<=57:=by intro h c hc;subst h;rw[Lib.decDigits_eq]at hc;obtain⟨t,_,rfl⟩:=ji.1 hc;unfold Lib.dg;have:u / 10^(Lib.nDigits u -1 -t) % 10<10:=Nat.mod_lt _ o5;generalize u / 10^(Lib.nDigits u -1 -t) % 10=r at this;simp;omega
theorem UL{c:UInt8}(hc:c∈Lib.decDigits u):48<=c.toNat/\c.toNat<=57:=b1s rfl c hc
theorem VN(h:∀c∈d,48<=c.toNat/\c.toNat<=57)(h1:1<=d.length):Fe d=some (d,false):=by
 unfold Fe;rw[nV (aP (by unfold A7;omega))];match d,h1 with
 |c::r,_=>have e:sat (c::r) 0=some (c.toNat:Int):=rfl;have:=h c D5;rw[e,o9,oU (J7 o5)]
theorem VO :Fe (45::d)=some (d,true):=by unfold Fe;rw[nV (aP (by unfold A7;simp))];have e:sat (45::d) 0=some (45:Int):=rfl;rw[e,o9,nV (U6 rfl),pG o5 E5,o9];simp
theorem b2k(hk:k<=100)(hd:d.length<=100):
  fA (λ(x_3:c6F)=>l7 (U7 (A7 x_3) (k:Int)) (l9 (N8 [48] x_3) λ(x:c6F)=>some (Sum.inl x)) (some (Sum.inr x_3))) d=some (List.replicate (k+1 -d.length) 48++d):=by
 obtain⟨e,h1,h2⟩:=ug (f:=λ(x_3:c6F)=>l7 (U7 (A7 x_3) (k:Int)) (l9 (N8 [48] x_3) λ(x:c6F)=>some (Sum.inl x)) (some (Sum.inr x_3))) (s:=d)
  (λs=>s.length<=102/\List.replicate (k+1 -s.length) 48++s=List.replicate (k+1 -d.length) 48++d) (λe=>e=List.replicate (k+1 -d.length) 48++d) (λs=>k+1 -s.length) ⟨o5,rfl⟩ o5 (by
   intro s ⟨hs,he⟩;by_cases hle:s.length<=k
   .refine .inl ⟨48::s,?_,⟨by simp;omega,?_⟩,by simp;omega⟩
    .rw[nV (bH (by unfold A7;omega)),G6 E5];rfl
    .rw[←he];have e1:k+1 -s.length=(k+1 -(48::s).length)+1:=by simp;omega
     rw[e1,rU];simp
   .refine .inr ⟨s,?_,?_⟩
    .rw[oU (dE (by unfold A7;omega))]
    .rw[←he,show k+1 -s.length=0 by omega];simp)
 rw[h1,h2]
theorem Dn(h:eH n)(hk:1<=k/\k<=9):pK n (k:Int)=some (Di n k):=by
 have hI:=h;unfold eH at h;have ek:Dj (wL (k:Int) 0) 9=(k:Int):=by unfold wL Dj;split<;>split<;>omega
 unfold pK SQ;have hd:=CQ (u:=n.natAbs) o5;rw[o9,ek,oU (J7 o5),vM hI,o9];have rest:∀(d:c6F) (b:Bool),1<=d.length->d.length<=20->
   (l9 (fA (λ(x_3:c6F)=>l7 (U7 (A7 x_3) (k:Int)) (l9 (N8 [48] x_3) λ(x:c6F)=>some (Sum.inl x)) (some (Sum.inr x_3))) (d,b).1) λ(y:c6F)=>
    l9 (gy y 0 (N9 .i64 (A7 y) (k:Int))) λ(x_3:c6F)=>l9 (N8 x_3 [46]) λ(x_4:c6F)=>l9 (gy y (N9 .i64 (A7 y) (k:Int)) (A7 y)) λ(x:c6F)=>
     l9 (N8 x_4 x) λ(x:c6F)=>l7 (d,b).2 (l9 (N8 [45] x) λ(x:c6F)=>some x) (some x))
   =some ((if b then[45]else[])++(let e:=List.replicate (k+1 -d.length) 48++d;e.take (e.length -k)++46::e.drop (e.length -k))):=by
  intro d b h1 h2;rw[b2k (d:=d) o5 o5,o9];generalize he:List.replicate (k+1 -d.length) 48++d=e;have hl:k<e.length/\e.length<=40:=by subst he;simp;omega
  obtain⟨c1,c2⟩:=a6Y hl.1 o5;rw[c1,o9,G6 E5,o9,c2,o9,G6 E5,o9];cases b
  .simp
  .show l9 (N8 [45] _) _=_;rw[G6 E5,o9];simp
 unfold Lib.itoa Di KC;by_cases hn:n<0
 .rw[if_pos hn,if_pos hn,VO,o9];exact rest (Lib.decDigits n.natAbs) true hd.1 hd.2
 .rw[if_neg hn,if_neg hn];have e:n.toNat=n.natAbs:=o5;rw[e,VN (λc hc=>UL hc) hd.1,o9];exact rest (Lib.decDigits n.natAbs) false hd.1 hd.2
def Zi(n:Int)(w:Nat):c6F:=List.replicate (w -(Lib.itoa n).length) 48++Lib.itoa n
variable {w:Nat}
theorem AQ(h:eH n)(hw:w<=4):(Zi n w).length<=25:=by have:=EO h;unfold Zi;simp;omega
theorem Kq(h:eH n)(hw:w<=4):EC n (w:Int)=some (Zi n w):=by
 have hl:=EO h;unfold EC;rw[jI h,o9];have e:wL 0 (N9 .i64 (w:Int) (A7 (Lib.itoa n)))=((w -(Lib.itoa n).length:Nat):Int):=by rw[dO (by unfold eH A7;omega)];unfold wL A7;split<;>omega
 rw[e,Yk o5 D5,c1M,o9,G6 E5,o9];rfl
theorem Jl(h:eH n)(hw:w<=4):Ej n (w:Int)=some (Zi n w):=by
 have hl:=EO h;unfold Ej;rw[vM h,o9];show _=some (List.replicate (w -(Lib.itoa n).length) 48++Lib.itoa n);generalize Lib.itoa n=d at hl ⊢;obtain⟨e,h1,h2⟩:=ug (f:=λ(x:c6F)=>l7 (I5 (A7 x) (w:Int)) (l9 (N8 [48] x) λ(x:c6F)=>some (Sum.inl x)) (some (Sum.inr x))) (s:=d)
  (λs=>s.length<=30/\List.replicate (w -s.length) 48++s=List.replicate (w -d.length) 48++d) (λe=>e=List.replicate (w -d.length) 48++d) (λs=>w -s.length) ⟨o5,rfl⟩ o5 (by
   intro s ⟨hs,he⟩;by_cases hle:s.length<w
   .refine .inl ⟨48::s,?_,⟨by simp;omega,?_⟩,by simp;omega⟩
    .rw[nV (aP (by unfold A7;omega)),G6 E5];rfl
    .rw[←he];have e1:w -s.length=(w -(48::s).length)+1:=by simp;omega
     rw[e1,rU];simp
   .refine .inr ⟨s,?_,?_⟩
    .rw[oU (U1 (by unfold A7;omega))]
    .rw[←he,show w -s.length=0 by omega];simp)
 rw[h1,o9,h2]
def fV(d:Int):c6F:=if 0<=d/\d<=109572 then Zi (ymd d).1 4++45::Zi (ymd d).2.1 2++45::Zi (ymd d).2.2 2 else[]
theorem b3n{a b c:c6F}(ha:a.length<=100)(hb:b.length<=100)(hc:c.length<=100){A C B:Option c6F}(eb:B=some b)(ec:C=some c):
  (l9 (N8 a [45]) λx2=>l9 B λx3=>l9 (N8 x2 x3) λx4=>l9 (N8 x4 [45]) λx5=>l9 C λx=>l9 (N8 x5 x) λx=>some x)=some (a++45::b++45::c):=by
 rw[G6 E5,o9,eb,o9,G6 E5,o9,G6 E5,o9,ec,o9,G6 E5,o9];simp
theorem yl(h1:-1000000<=n)(h2:n<=1000000):eH n:=by unfold eH;omega
theorem oC(d:Int):sU d=some (fV d):=by
 unfold sU xw fV;by_cases h0:0<=d
 .rw[nV (bH h0),o9];by_cases h:d<=109572
  .rw[bH h,H7,o6,WW h0 h,o9,if_pos ⟨h0,h⟩];have hb:=a3L h0 h;have p1:=yl (n:=(ymd d).1) o5 o5;have p2:=yl (n:=(ymd d).2.1) o5 o5;have p3:=yl (n:=(ymd d).2.2) o5 o5;rw[show EC (ymd d).1 4=_ from Kq (w:=4) p1 o5,o9];have l1:=AQ (w:=4) p1 o5;have l2:=AQ (w:=2) p2 o5;have l3:=AQ (w:=2) p3 o5;exact b3n (A:=none) o5 o5 o5 (Kq (w:=2) p2 o5) (Kq (w:=2) p3 o5)
  .rw[dE o5,P9,o7,if_neg o5]
 .rw[oU (dE o5),o9,P9,o7,if_neg o5]
theorem zy(d:Int):vN d=some (fV d):=by
 unfold vN Gi fV;by_cases h0:0<=d
 .rw[nV (bH h0),o9];by_cases h:d<=109572
  .rw[bH h,H7,o6,VP h0 h,o9,if_pos ⟨h0,h⟩];have hb:=a3L h0 h;have p1:=yl (n:=(ymd d).1) o5 o5;have p2:=yl (n:=(ymd d).2.1) o5 o5;have p3:=yl (n:=(ymd d).2.2) o5 o5;rw[show Ej (ymd d).1 4=_ from Jl (w:=4) p1 o5,o9];have l1:=AQ (w:=4) p1 o5;have l2:=AQ (w:=2) p2 o5;have l3:=AQ (w:=2) p3 o5;exact b3n (A:=none) o5 o5 o5 (Jl (w:=2) p2 o5) (Jl (w:=2) p3 o5)
  .rw[dE o5,P9,o7,if_neg o5]
 .rw[oU (dE o5),o9,P9,o7,if_neg o5]
theorem yg(d:Int):(fV d).length<=100:=by
 unfold fV;split
 .rename_i h;have hb:=a3L h.1 h.2;have l1:=AQ (w:=4) (yl (n:=(ymd d).1) o5 o5) o5;have l2:=AQ (w:=2) (yl (n:=(ymd d).2.1) o5 o5) o5;have l3:=AQ (w:=2) (yl (n:=(ymd d).2.2) o5 o5) o5;simp;omega
 .simp
theorem vU(t:Int×Int)(en:List bK):dw t en=dm t en:=by
 unfold dw dm;by_cases h1:t.1=1
 .simp[C9,h1,U7]
 by_cases h2:t.1=2
 .simp[C9,h2,U7]
 by_cases h3:t.1=3
 .simp[C9,h3,U7]
 by_cases h4:t.1=4
 .simp[C9,h4,U7]
 by_cases h5:t.1=5
 .simp[C9,h5,U7]
 by_cases h6:t.1=6
 .simp[C9,h6,U7]
 .simp only[C9,h1,h2,h3,h4,h5,h6,decide_false,o6,o9];by_cases h7:1<=t.1
  .rw[nV (bH h7),oU (dE o5)]
  .rw[oU (dE o5)]
theorem LX(t:Int×Int)(en:List bK):jo t en=eQ t en:=by unfold jo eQ;rw[vU]
theorem a6C(n:Int)(t:Int×Int)(en:List bK):iU n t en=VQ n t en:=by unfold iU VQ;rw[LX]
theorem wz{v:aI}(en:List bK)(h:eH v.2.2):iR v en=vO v en:=by
 unfold iR vO Ff;rw[o9,vU];cases hv:dm (v.1,v.2.1) en with
 |none=>rfl|some b=>
  rw[o9,o9];cases b with
  |false=>rfl|true=>
   rw[H7,o6,o6];have e:KY v en=iU v.2.2 (v.1,v.2.1) en:=by unfold KY Ff;rw[o9,hv,o9,o7,o9,bZ,a6C]
   rw[e,jI h,vM h,show cZ v.2.2 2=_ from gz (k:=2) h o5,show pK v.2.2 2=_ from Dn (k:=2) h o5,
    show cZ v.2.2 4=_ from gz (k:=4) h o5,show pK v.2.2 4=_ from Dn (k:=4) h o5,oC,zy]
theorem wB{B:Nat}(hB:100<=B)(hB2:B<=200000000000000){v:Int×Int×Int}{en:List bK}(h:eH v.2.2)(hm:∀e∈en,e.2.length<=B/\∀m∈e.2,m.length<=B):∃t,iR v en=some t/\t.1.length<=B:=by
 unfold iR
 cases hv:dw (v.1,v.2.1) en with
 |none=>
  exfalso;rw[vU]at hv;unfold dm at hv;simp only[sS]at hv
  repeat' split at hv
  all_goals cases hv
 |some b=>
  rw[o9];cases b with
  |false=>exact⟨_,rfl,D5⟩|true=>
   rw[H7,o6];unfold iU jo;rw[hv];simp only[o9,H7,o6];have f1:=EO h;have f2:=LZ (k:=2) h o5;have f4:=LZ (k:=4) h o5;have f5:=yg v.2.2;rw[jI h,show cZ v.2.2 2=_ from gz (k:=2) h o5,show cZ v.2.2 4=_ from gz (k:=4) h o5,oC];simp only[o9];rw[G6 (a:=Di v.2.2 4) E5];simp only[o9];by_cases h1:v.1=1
   .simp only[U6 h1,o7,o9];simp only[bb,o9];simp only[sS];repeat' split
    all_goals exact⟨_,rfl,by first|omega|(simp<;>omega)⟩
   by_cases h2:v.1=2
   .simp only[J7 h1,U6 h2,o7,o6,o9];simp only[bb,o9];simp only[sS];repeat' split
    all_goals exact⟨_,rfl,by first|omega|(simp<;>omega)⟩
   by_cases h3:v.1=3
   .simp only[J7 h1,J7 h2,U6 h3,o7,o6,o9];simp only[bb,o9];simp only[sS];repeat' split
    all_goals exact⟨_,rfl,by first|omega|(simp<;>omega)⟩
   by_cases h4:v.1=4
   .simp only[J7 h1,J7 h2,J7 h3,U6 h4,o7,o6,o9];simp only[bb,o9];simp only[sS];repeat' split
    all_goals exact⟨_,rfl,by first|omega|(simp<;>omega)⟩
   by_cases h5:v.1=5
   .simp only[J7 h1,J7 h2,J7 h3,J7 h4,U6 h5,o7,o6,o9];simp only[bb,o9];simp only[sS];repeat' split
    all_goals exact⟨_,rfl,by first|omega|(simp<;>omega)⟩
   .simp only[J7 h1,J7 h2,J7 h3,J7 h4,J7 h5,o6];have hk:v.1=6/\0<=v.2.1/\v.2.1<A7 en:=by
     unfold dw at hv;simp only[J7 h1,J7 h2,J7 h3,J7 h4,J7 h5,o6,o9]at hv;simp only[sS,gp,pg]at hv;split at hv
     .split at hv
      .simp only[G8,zo]at hv;exact⟨by assumption,by assumption,hv⟩
      .cases hv
     .cases hv
    obtain⟨e,he,hmem⟩:=vH hk.2.1 hk.2.2;rw[he];simp only[o9];have hle:=(hm e hmem).1;have hll:A7 e.2=(e.2.length:Int):=rfl;rw[dO di];by_cases hw0:0<=v.2.2
    .by_cases hw1:v.2.2<=A7 e.2 -1
     .rw[bH hw0,o7,bH hw1,o9,H7,o6];obtain⟨m,hm1,hm2⟩:=vH (l:=e.2) hw0 o5;rw[hm1];exact⟨_,rfl,(hm e hmem).2 m hm2⟩
     .rw[bH hw0,o7,dE (vY.1 hw1),o9,P9,o7];exact⟨_,rfl,D5⟩
    .rw[dE (vY.1 hw0),o6];exact⟨_,rfl,D5⟩
end Gt
namespace Go.GP
open Gt
theorem WX(l:List mW):uH l=nT l:=by unfold uH nT;rfl
theorem a1P{α:Type}{l:List α}(h:l.length<=1000000):oP l=some l:=by unfold oP;rw[Pv E5,J4]
theorem WB{l:Z9}(hc:uG l.1=some l.1)(k:Int):sF l k=tN l k:=by unfold sF tN;simp only[hc,WX];rfl
end Go.GP
namespace Go.GP
open Gt
set_option maxRecDepth 100000
def gtN(l:List c6F)(i:Int):c6F:=(P5 l i).getD []
def pV(k:Int):c6F:=(Ci k).getD []
def wX(k:Int):c6F:=(eY k).getD []
def Ai(k:Int):c6F×Int:=(ik k).getD ([],0)
def Fz(k:Int):Bool:=l7 (C9 k 2) true (l7 (C9 k 3) true (C9 k 4))
variable {b:Bool}
theorem b3Z{x y:Option c6F}(hx:∃s,x=some s/\s.length<=10)(hy:∃s,y=some s/\s.length<=10):∃s,l7 b x y=some s/\s.length<=10:=by cases b<;>assumption
theorem a5o(k:Int):∃s,Ci k=some s/\s.length<=10:=by
 unfold Ci
 repeat (refine b3Z ⟨_,rfl,J8⟩ ?_)
 exact⟨_,rfl,J8⟩
theorem b1j(k:Int):Ci k=some (pV k):=by obtain⟨s,h,-⟩:=a5o k;unfold pV;rw[h];rfl
theorem lm(k:Int):iH k=some (pV k):=(show iH k=Ci k from rfl).trans (b1j k)
theorem Gf(k:Int):eY k=some (wX k):=by
 unfold wX;have:∃s,eY k=some s:=by
  unfold eY;simp only[sS];repeat' split
  all_goals exact⟨_,rfl⟩
 obtain⟨s,h⟩:=this;rw[h];rfl
theorem b0U(k:Int):ik k=some (Ai k):=by
 unfold Ai;have:∃s,ik k=some s:=by
  unfold ik;simp only[sS];repeat' split
  all_goals exact⟨_,rfl⟩
 obtain⟨s,h⟩:=this;rw[h];rfl
theorem a4Z(k:Int):gY k=some (Ai k):=(show gY k=ik k from rfl).trans (b0U k)
theorem lJ(k:Int):(pV k).length<=10:=by obtain⟨s,h,h2⟩:=a5o k;unfold pV;rw[h];exact h2
theorem yX(k:Int):(wX k).length<=10:=by
 unfold wX eY;simp only[sS];repeat' split
 all_goals simp
theorem ZX(k:Int):(Ai k).1.length<=10:=by
 unfold Ai ik;simp only[sS];repeat' split
 all_goals simp
structure NmOk (N:E9):Prop where
 e:∀e∈N.1,e.1.length<=1000/\∀m∈e.2,m.length<=1000
 t:∀s∈N.2.1,s.length<=1000
 i:∀s∈N.2.2.1,s.length<=1000
 d:∀s∈N.2.2.2.1,s.length<=1000
 m:∀s∈N.2.2.2.2,s.length<=1000
abbrev Tx:Type:=c6F×Int
def wiS(p:Tx)(c:Int):c6F:=l7 (I5 p.2 c) ([40]++p.1++[41]) p.1
def jP(n:Int×Int)(N:E9):Tx:=
 l7 (U7 n.1 5) (((vO (n.1,0,n.2) []).getD ([],0)).1,l7 (I5 n.2 0) 6 7)
 (l7 (C9 n.1 6) (((P5 N.1 (aO .i64 n.2 16)).getD ([],[])).1++[58]++gtN ((P5 N.1 (aO .i64 n.2 16)).getD ([],[])).2 (fE n.2 16),7)
 (l7 (C9 n.1 7) (gtN N.2.2.1 n.2,7)
 (l7 (C9 n.1 8) (gtN N.2.2.2.1 n.2,7)
 (l7 (C9 n.1 9) ([116,111,100,97,121],7)
 (l7 (C9 n.1 35) ([99,111,117,110,116,40,41],7) (pV n.1++[40]++gtN N.2.2.2.2 n.2++[41],7))))))
def yN(n:Int×Int)(N:E9)(num:Bool)(a:Tx):Tx:=
 l7 (C9 n.1 33) (pV n.1++[40]++gtN N.2.1 n.2++[44,32]++a.1++[41],7)
 (l7 (C9 n.1 34) (pV n.1++[40]++gtN N.2.1 (aO .i64 n.2 8)++[44,32]++a.1++[44,32]++wX (fE n.2 8)++[41],7)
 (l7 (C9 n.1 25) ([110,111,116,32]++wiS a 6,6)
 (l7 (C9 n.1 10) ([45]++l7 num ([40]++a.1++[41]) (wiS a 6),6) (pV n.1++[40]++a.1++[41],7))))
def a1L(k:Int):Bool:=l7 (C9 k 17) true (l7 (C9 k 18) true (l7 (C9 k 27) true (l7 (C9 k 28) true (l7 (C9 k 29) true (C9 k 30)))))
def MR(k:Int):Bool:=l7 (C9 k 14) true (l7 (C9 k 15) true (C9 k 16))
def JQ(n:Int×Int)(a b:Tx):Tx:=
 l7 (a1L n.1) (pV n.1++[40]++a.1++[44,32]++b.1++[41],7)
 (l7 (MR n.1) (pV n.1++[40]++a.1++[44,32]++b.1++[44,32]++wX n.2++[41],7)
 (wiS a (l7 (C9 (Ai n.1).2 3) 4 (Ai n.1).2)++[32]++(Ai n.1).1++[32]++wiS b ((Ai n.1).2+1),(Ai n.1).2))
def ifX(a b c:Tx):Tx:=([105,102,32]++a.1++[32,116,104,101,110,32]++b.1++[32,101,108,115,101,32]++c.1,0)
def mG(N:E9):XT->Tx
 | .l0 n=>jP n N| .l1 n a=>yN n N (Fz a.node.1) (mG N a)| .l2 n a b=>JQ n (mG N a) (mG N b)| .l3 n a b c=>ifX (mG N a) (mG N b) (mG N c)
def pcT(N:E9)(t:XT):H8:=((mG N t).1,(mG N t).2,Fz t.node.1)
def yL(n:Int×Int)(args:List H8)(N:E9)(p:Tx):Prop:=
 ∃c,X3 n N=some c/\U4 n args N=some (l7 (C9 c 0) ((p.1,p.2,Fz n.1),0) (([],0,false),c))
variable {α:Type}
theorem lx0(a:α)(l:List α):P5 (a::l) 0=some a:=rfl
theorem lx1(a b:α)(l:List α):P5 (a::b::l) 1=some b:=rfl
theorem lx2(a b c:α)(l:List α):P5 (a::b::c::l) 2=some c:=rfl
theorem CP(p:H8)(c:Int)(h:p.1.length<=1000000000):fU p c=some (wiS (p.1,p.2.1) c):=by unfold fU wiS;rw[G6 E5,o9,G6 E5,o9];cases I5 p.2.1 c<;>rfl
theorem CO(p:Tx)(c:Int):(wiS p c).length<=p.1.length+2:=by unfold wiS;cases I5 p.2 c<;>simp
theorem arN(k:Int):1<=k/\k<=39\/arF k=-1:=by
 by_cases h:1<=k/\k<=39
 .exact .inl h
 .refine .inr ?_;unfold arF;rw[Zn h];rfl
variable {k:Int}
theorem ar0(h:arF k=0):k=1\/k=2\/k=3\/k=4\/k=5\/k=6\/k=7\/k=8\/k=9\/k=35\/k=36\/k=37\/k=38\/k=39:=by
 rcases arN k with h1|h1
 .obtain⟨j,rfl⟩:=VH h1;revert h;revert j;decide
 .omega
theorem ar1(h:arF k=1):k=10\/k=25\/k=31\/k=32\/k=33\/k=34:=by
 rcases arN k with h1|h1
 .obtain⟨j,rfl⟩:=VH h1;revert h;revert j;decide
 .omega
theorem ar2(h:arF k=2):k=11\/k=12\/k=13\/k=14\/k=15\/k=16\/k=17\/k=18\/k=19\/k=20\/k=21\/k=22\/k=23\/k=24\/k=27\/k=28\/k=29\/k=30:=by
 rcases arN k with h1|h1
 .obtain⟨j,rfl⟩:=VH h1;revert h;revert j;decide
 .omega
theorem ar3(h:arF k=3):k=26:=b3W h
variable {N:E9}{n:Int×Int}
theorem a0O{args:List H8}{p:Tx}(c:Int)(h1:X3 n N=some c)(h2:U4 n args N=some (l7 (C9 c 0) ((p.1,p.2,Fz n.1),0) (([],0,false),c))):yL n args N p:=⟨c,h1,h2⟩
variable {m:Int}
theorem b1O(hk:k=1\/k=2\/k=3\/k=4\/k=5)(hm:eH m)(N:E9):∃c s,X3 (k,m) N=some c/\iR (k,0,m) []=some (s,c):=by
 have b1:∀lo hi:Int,eQ (k,0) []=some (lo,hi)->dm (k,0) []=some true->∃c s,X3 (k,m) N=some c/\iR (k,0,m) []=some (s,c):=by
  intro lo hi hb hv;have hf:X3 (k,m) N=some (l7 (I5 m lo) 3 (l7 (I5 hi m) 3 0)):=by
   unfold X3 fM;simp only[bH (show 1<=k by omega),bH (show k<=5 by omega),o7,o9,hb];cases I5 m lo
   .cases I5 hi m<;>rfl
   .rfl
  have hw:iU m (k,0) []=some (l7 (U7 lo m) (U7 m hi) false):=by unfold iU;rw[LX,hb,o9];cases U7 lo m<;>rfl
  rw[hf];obtain⟨t,ht,-⟩:=wB (B:=100) o5 o5 (v:=(k,0,m)) (en:=[]) hm (λe h=>by cases h);unfold iR at ht ⊢;simp only[vU,hv,hw,o9,H7,o6]at ht ⊢;by_cases h1:lo<=m
  .by_cases h2:m<=hi
   .rw[bH h1,bH h2,o7,H7,o6]at ht ⊢;rw[U1 h1,U1 h2,o6,o6];refine⟨0,t.1,rfl,?_⟩;rw[ht];have e:t.2=0:=by
     rcases hk with rfl|rfl|rfl|rfl|rfl
     .simp (disch:=decide) only[U6,o7]at ht;revert ht;cases C9 m 1<;>cases C9 m 0<;>intro ht<;>cases ht<;>rfl
     .simp (disch:=decide) only[U6,J7,o7,o6,jI hm,o9,G8]at ht;rw[←ht]
     .simp (disch:=decide) only[U6,J7,o7,o6]at ht;rw[show cZ m 2=_ from gz (k:=2) hm o5]at ht;simp only[o9,G8]at ht;rw[←ht]
     .simp (disch:=decide) only[U6,J7,o7,o6]at ht;have f4:=LZ (k:=4) hm o5;rw[show cZ m 4=_ from gz (k:=4) hm o5,o9,G6 E5]at ht;simp only[o9,G8]at ht;rw[←ht]
     .simp (disch:=decide) only[U6,J7,o7,o6,oC,o9,G8]at ht;rw[←ht]
    rw[←e]
   .rw[bH h1,dE o5,o7,P9,o7,U1 h1,aP o5,o6,o7];exact⟨3,[],rfl,rfl⟩
  .rw[dE o5,o6,P9,o7,aP o5,o7];exact⟨3,[],rfl,rfl⟩
 rcases hk with rfl|rfl|rfl|rfl|rfl
 .exact b1 0 1 rfl rfl
 .exact b1 _ _ rfl rfl
 .exact b1 _ _ rfl rfl
 .exact b1 _ _ rfl rfl
 .exact b1 _ _ rfl rfl
theorem uh(hk:k=1\/k=2\/k=3\/k=4\/k=5)(hm:eH m)(N:E9):yL (k,m) [] N (jP (k,m) N):=by
 obtain⟨c,s,h1,h2⟩:=b1O hk hm N;refine a0O c h1 ?_;have e:jP (k,m) N=(s,l7 (I5 m 0) 6 7):=by unfold jP;rw[bH (show k<=5 by omega),o7,←wz [] hm,h2];rfl
 have hc:c=0\/c=3:=by
  unfold X3 fM at h1;have h:=h1;simp only[bH (show 1<=k by omega),bH (show k<=5 by omega),o7,o9]at h;cases hb:eQ (k,0) []with
  |none=>rw[hb]at h;cases h|some b=>rw[hb,o9]at h;cases hx:I5 m b.1<;>cases hy:I5 b.2 m<;>simp only[hx,hy,o7,o6,G8]at h<;>omega
 have hr:qp (k,m)=some (l7 (C9 c 0) ((s,l7 (l7 (Fz k) (I5 m 0) false) 6 7,Fz k),0) (([],0,false),c)):=by
  unfold qp Fz;simp only[h2,o9];rcases hc with rfl|rfl
  .simp only[U6 (rfl:(0:Int)=0),H7,o6,o7,V9,o9];cases I5 m 0<;>cases C9 k 2<;>cases C9 k 3<;>cases C9 k 4<;>rfl
  .rfl
 rw[e];unfold U4;rw[hr];have hneg:c=0->l7 (l7 (Fz k) (I5 m 0) false) (6:Int) 7=l7 (I5 m 0) 6 7:=by
  intro h0;subst h0;cases hg:I5 m 0
  .cases Fz k<;>rfl
  rcases hk with rfl|rfl|rfl|rfl|rfl
  .exfalso;unfold X3 fM at h1;simp only[show eQ (1,0) []=some (0,1)from rfl,bH (show(1:Int)<=1 by omega),bH (show(1:Int)<=5 by omega),o7,o9,hg,G8]at h1;omega
  .rfl
  .rfl
  .rfl
  .exfalso;unfold X3 fM at h1;simp only[show eQ (5,0) []=some (0,109572)from rfl,bH (show(1:Int)<=5 by omega),bH (show(5:Int)<=5 by omega),o7,o9,hg,G8]at h1;omega
 rcases hc with rfl|rfl
 .rw[hneg rfl];rcases hk with rfl|rfl|rfl|rfl|rfl<;>rfl
 .rcases hk with rfl|rfl|rfl|rfl|rfl<;>rfl
variable {l:List c6F}{i:Int}
theorem EP(h0:0<=i)(h:i<A7 l):P5 l i=some (gtN l i)/\gtN l i∈l:=by obtain⟨x,h1,h2⟩:=vH h0 h;unfold gtN;rw[h1];exact⟨rfl,h2⟩
theorem uB{B:Nat}(h:∀s∈l,s.length<=B)(i:Int):(gtN l i).length<=B:=by
 unfold gtN;cases hl:P5 l i with
 |none=>simp|some x=>exact h x (wE hl).2.2.1
theorem Gl(k m:Int)(args:List H8)(N:E9)(hk:k=6\/k=7\/k=8\/k=36\/k=37\/k=38\/k=39):U4 (k,m) args N=ay (k,m) N:=by unfold U4;generalize hq:ay (k,m) N=q;rcases hk with rfl|rfl|rfl|rfl|rfl|rfl|rfl<;>simp (disch:=decide) only[U6,J7,o7,o6,o9,hq]<;>cases q<;>rfl
theorem Ae(hk:k=7\/k=8\/k=36\/k=37\/k=38\/k=39)(hN:NmOk N):yL (k,m) [] N (jP (k,m) N):=by
 have key:∀(l:List c6F) (before after:c6F),(∀s∈l,s.length<=1000)->before.length<=100->after.length<=100->
   X3 (k,m) N=l7 (I5 m 0) (some 6) (l7 (U7 (A7 l) m) (some 6) (some 0))->
   ay (k,m) N=l7 (I5 m 0) (some (([],0,false),6))
    (l7 (U7 (A7 l) m) (some (([],0,false),6))
     (l9 (P5 l m) λ(x_1:c6F)=>
      l9 (N8 before x_1) λ(x_2:c6F)=>
       l9 (N8 x_2 after) λ(x:c6F)=>some ((x,7,false),0)))->
   jP (k,m) N=(before++gtN l m++after,7)->yL (k,m) [] N (jP (k,m) N):=by
  intro l before after hl hb ha hf0 hr he;have hf:X3 (k,m) N=some (l7 (I5 m 0) 6 (l7 (U7 (A7 l) m) 6 0)):=by rw[hf0];cases I5 m 0<;>cases U7 (A7 l) m<;>rfl
  refine a0O _ hf ?_;have hnum:Fz k=false:=by rcases hk with rfl|rfl|rfl|rfl|rfl|rfl<;>rfl
  rw[Gl _ _ _ _ o5,hr,he,hnum];by_cases h0:m<0
  .rw[aP h0];rfl
  by_cases h1:A7 l<=m
  .simp only[U1 (show 0<=m by omega),bH h1];rfl
  .have:=EP (l:=l) (i:=m) o5 o5;have h2:=hl _ this.2;simp only[U1 (show 0<=m by omega),dE (show m<A7 l by omega),o6,this.1,o9];rw[G6 o5,o9,G6 E5,o9];rfl
 have mem:∀k:Int,(k=36\/k=37\/k=38\/k=39)->ay (k,m) N=l7 (I5 m 0) (some (([],0,false),6))
    (l7 (U7 (A7 N.2.2.2.2) m) (some (([],0,false),6))
     (l9 (P5 N.2.2.2.2 m) λ(x_1:c6F)=>
      l9 (N8 (pV k++[40]) x_1) λ(x_2:c6F)=>
       l9 (N8 x_2 [41]) λ(x:c6F)=>some ((x,7,false),0))):=by
  intro k hk;have hw:=lJ k;unfold ay V9;simp only[J7 (show k≠6 by omega),J7 (show k≠7 by omega),J7 (show k≠8 by omega),o6,lm,o9,G6 (a:=pV k) (b:=[40]) E5,V6]
 have lf:∀k:Int,(k=36\/k=37\/k=38\/k=39)->jP (k,m) N=(pV k++[40]++gtN N.2.2.2.2 m++[41],7):=by intro k hk;unfold jP;simp only[dE (show 5<k by omega),J7 (show k≠6 by omega),J7 (show k≠7 by omega),J7 (show k≠8 by omega),J7 (show k≠9 by omega),J7 (show k≠35 by omega),o6]
 have wl:=λk=>lJ k;rcases hk with rfl|rfl|rfl|rfl|rfl|rfl
 .refine key N.2.2.1 [] [] hN.i D5 D5 rfl ?_ ?_
  .unfold ay V9;simp (disch:=decide) only[U6,J7,o7,o6,o9,V6]
  .unfold jP;simp (disch:=decide) only[U6,J7,dE,o7,o6];simp
 .refine key N.2.2.2.1 [] [] hN.d D5 D5 rfl ?_ ?_
  .unfold ay V9;simp (disch:=decide) only[U6,J7,o7,o6,o9,V6]
  .unfold jP;simp (disch:=decide) only[U6,J7,dE,o7,o6];simp
 .exact key N.2.2.2.2 (pV 36++[40]) [41] hN.m J8 J8 rfl (mem _ o5) (lf _ o5)
 .exact key N.2.2.2.2 (pV 37++[40]) [41] hN.m J8 J8 rfl (mem _ o5) (lf _ o5)
 .exact key N.2.2.2.2 (pV 38++[40]) [41] hN.m J8 J8 rfl (mem _ o5) (lf _ o5)
 .exact key N.2.2.2.2 (pV 39++[40]) [41] hN.m J8 J8 rfl (mem _ o5) (lf _ o5)
theorem MI(h:eH m)(d:Int)(hd:d=8\/d=16):aO .i64 m d=m.tdiv d:=by
 refine Po ?_;unfold eH at h ⊢;rcases hd with rfl|rfl
 all_goals
  rcases Int.lt_or_le m 0 with h0|h0
  .have e:=Int.neg_tdiv (a:=-m) (b:=8);have e' :=Int.neg_tdiv (a:=-m) (b:=16);rw[Int.neg_neg]at e e';have q1:=nH (a:=-m) (b:=8) o5;have q2:=nH (a:=-m) (b:=16) o5;omega
  .have q1:=nH (a:=m) (b:=8) o5;have q2:=nH (a:=m) (b:=16) o5;omega
theorem a0I(hm:eH m)(hN:NmOk N):yL (6,m) [] N (jP (6,m) N):=by
 have hf:X3 (6,m) N=(l7 (I5 m 0) (some 6)
    (l7 (U7 (A7 N.1) (aO .i64 m 16)) (some 6)
     (l9 (P5 N.1 (aO .i64 m 16)) λ(x:bK)=>
      l7 (U7 (A7 x.2) (fE m 16)) (some 6) (some 0)))):=rfl
 have hr:ay (6,m) N=l9 (l7 (I5 m 0) (some (Sum.inr (([],0,false),6)))
   (l7 (U7 (A7 N.1) (aO IntKind.i64 m 16)) (some (Sum.inr (([],0,false),6)))
    (l9 (P5 N.1 (aO IntKind.i64 m 16)) λ(x:bK)=>
     l9 (N8 x.1 [58]) λ(x_1:c6F)=>some (Sum.inl (([],0,false),x.2,fE m 16,x_1,[]))))) λ(o:H8×List c6F×Int×c6F×c6F⊕H8×Int)=>
 Z8 o
  (λ(x:H8×List c6F×Int×c6F×c6F)=>
   l7 (I5 x.2.2.1 0) (some (([],0,false),6))
    (l7 (U7 (A7 x.2.1) x.2.2.1) (some (([],0,false),6))
     (l9 (P5 x.2.1 x.2.2.1) λ(x_1:c6F)=>
      l9 (N8 x.2.2.2.1 x_1) λ(x_2:c6F)=>
       l9 (N8 x_2 x.2.2.2.2) λ(x:c6F)=>
        l9 (V9 x) λ(x:H8)=>some (x,0))))
  λ(r:H8×Int)=>some r:=rfl
 have hl:jP (6,m) N=(((P5 N.1 (aO .i64 m 16)).getD ([],[])).1++[58]++gtN ((P5 N.1 (aO .i64 m 16)).getD ([],[])).2 (fE m 16),7):=rfl;unfold yL;rw[hf,Gl _ _ _ _ o5,hr,hl];by_cases h0:m<0
 .rw[aP h0];exact⟨6,rfl,rfl⟩
 rw[U1 o5,o6,o6];by_cases h1:A7 N.1<=aO .i64 m 16
 .rw[bH h1];exact⟨6,rfl,rfl⟩
 rw[dE o5,o6,o6];have hq:0<=aO .i64 m 16:=by rw[MI hm 16 (.inr rfl),nH o5];omega
 obtain⟨e,he,hmem⟩:=vH (l:=N.1) hq o5;have hb:=hN.e e hmem;have hr0:fE m 16=m % 16:=Aw o5;simp only[he,o9,Y3,G6 (a:=e.1) (b:=[58]) E5,V6];rw[U1 (show 0<=fE m 16 by omega),o6];by_cases h2:A7 e.2<=fE m 16
 .rw[bH h2];exact⟨6,rfl,rfl⟩
 rw[dE o5,o6,o6];have hg:=EP (l:=e.2) (i:=fE m 16) o5 o5;have h3:=hb.2 _ hg.2;refine⟨0,rfl,?_⟩;rw[hg.1,o9,G6 E5,o9,G6 E5,o9];simp only[V9,o9,G7];rfl
theorem a0G :yL (9,0) [] N (jP (9,0) N):=⟨0,rfl,rfl⟩
theorem Yi :yL (35,0) [] N (jP (35,0) N):=⟨0,rfl,rfl⟩
theorem a4T(hN:NmOk N)(hm:eH m)(ha:arF k=0)(hu:m=0\/bI k=some true):yL (k,m) [] N (jP (k,m) N):=by
 have hz:(k=9\/k=35)->m=0:=by
  intro h;rcases hu with h1|h1
  .exact h1
  .exfalso;rcases h with rfl|rfl<;>exact absurd h1 J8
 rcases ar0 ha with rfl|rfl|rfl|rfl|rfl|rfl|rfl|rfl|rfl|rfl|rfl|rfl|rfl|rfl
 .exact uh o5 hm N
 .exact uh o5 hm N
 .exact uh o5 hm N
 .exact uh o5 hm N
 .exact uh o5 hm N
 .exact a0I hm hN
 .exact Ae o5 hN
 .exact Ae o5 hN
 .rw[hz o5];exact a0G
 .rw[hz o5];exact Yi
 .exact Ae o5 hN
 .exact Ae o5 hN
 .exact Ae o5 hN
 .exact Ae o5 hN
theorem a2K(hm:eH m)(hN:NmOk N)(a:H8)(h1:a.1.length<=1000000000):yL (33,m) [a] N (yN (33,m) N b (a.1,a.2.1)):=by
 have hf:X3 (33,m) N=l7 (I5 m 0) (some 6) (l7 (U7 (A7 N.2.1) m) (some 6) (some 0)):=rfl;have hr:U4 (33,m) [a] N=aT (33,m) a N:=by unfold U4;generalize hq:aT (33,m) a N=q;simp (disch:=decide) only[U6,J7,o7,o6,o9,lx0,hq];cases q<;>rfl
 have hx:yN (33,m) N b (a.1,a.2.1)=(pV 33++[40]++gtN N.2.1 m++[44,32]++a.1++[41],7):=rfl;unfold yL;rw[hf,hr,hx];unfold aT V9;simp (disch:=decide) only[U6,J7,o7,o6,o9,lm];by_cases h0:m<0
 .rw[aP h0];exact⟨6,rfl,rfl⟩
 rw[U1 o5,o6,o6];by_cases h2:A7 N.2.1<=m
 .rw[bH h2];exact⟨6,rfl,rfl⟩
 rw[dE o5,o6,o6];have hg:=EP (l:=N.2.1) (i:=m) o5 o5;have h3:=hN.t _ hg.2;have hw:=lJ 33;refine⟨0,rfl,?_⟩;rw[o9,V6,G6 E5,o9,hg.1,o9,G6 E5,o9,G6 E5,o9,G6 E5,o9,G6 E5,o9];rfl
theorem VC(h:0<=m):seq (wX m) []=I5 5 m:=by
 by_cases h5:m<=5
 .rw[U1 h5];obtain⟨k,rfl⟩:∃k:Fin 6,m=(k.val:Int):=⟨⟨m.toNat,o5⟩,by simp;omega⟩;revert k;decide
 .rw[aP o5];unfold wX eY;simp only[J7 (show m≠0 by omega),J7 (show m≠1 by omega),J7 (show m≠2 by omega),J7 (show m≠3 by omega),J7 (show m≠4 by omega),J7 (show m≠5 by omega),o6];rfl
theorem a7G(h:m<0):seq (wX m) []=true:=by unfold wX eY;simp only[J7 (show m≠0 by omega),J7 (show m≠1 by omega),J7 (show m≠2 by omega),J7 (show m≠3 by omega),J7 (show m≠4 by omega),J7 (show m≠5 by omega),o6];rfl
theorem a0H(hm:eH m)(hN:NmOk N)(a:H8)(h1:a.1.length<=1000000000):yL (34,m) [a] N (yN (34,m) N b (a.1,a.2.1)):=by
 have hf:X3 (34,m) N=l7 (I5 m 0) (some 6) (l7 (U7 (A7 N.2.1) (aO .i64 m 8)) (some 6) (l7 (I5 5 (fE m 8)) (some 3) (some 0))):=rfl;have hr:U4 (34,m) [a] N=aT (34,m) a N:=by unfold U4;generalize hq:aT (34,m) a N=q;simp (disch:=decide) only[U6,J7,o7,o6,o9,lx0,hq];cases q<;>rfl
 have hx:yN (34,m) N b (a.1,a.2.1)=(pV 34++[40]++gtN N.2.1 (aO .i64 m 8)++[44,32]++a.1++[44,32]++wX (fE m 8)++[41],7):=rfl;unfold yL;rw[hf,hr,hx];unfold aT V9;simp (disch:=decide) only[U6,J7,o7,o6,o9,lm,Gf];by_cases h0:m<0
 .rw[aP h0,U1 (show m<=0 by omega)];simp only[o7,o6,o9,aP h0,gI];exact⟨6,rfl,rfl⟩
 have hq:aO .i64 m 8=m / 8:=by rw[MI hm 8 (.inl rfl),nH o5]
 have hi:(l7 (I5 0 m) (some (aO .i64 m 8)) (some m):c6K)=some (aO .i64 m 8):=by
  by_cases h:0<m
  .rw[aP h];rfl
  .rw[U1 o5,o6,show aO .i64 m 8=m by omega]
 rw[hi,o9,U1 (show 0<=m by omega),o6,U1 (show 0<=aO .i64 m 8 by omega),o6];by_cases h2:A7 N.2.1<=aO .i64 m 8
 .rw[bH h2];exact⟨6,rfl,rfl⟩
 rw[dE o5,o6,o6];have hg:=EP (l:=N.2.1) (i:=aO .i64 m 8) o5 o5;have h3:=hN.t _ hg.2;have hw:=lJ 34;have hm:=yX (fE m 8);have hr0:fE m 8=m % 8:=Aw o5;rw[o9,V6,G6 E5,o9,hg.1,o9,G6 E5,o9,G6 E5,o9,G6 E5,o9,VC (show 0<=fE m 8 by omega)];cases I5 5 (fE m 8)
 .refine⟨0,rfl,?_⟩;rw[o6,G6 E5,o9,G6 E5,o9,G6 E5,o9];simp[l7];rfl
 .exact⟨3,rfl,rfl⟩
theorem a4U(hN:NmOk N)(hm:eH m)(ha:arF k=1)(hu:m=0\/bI k=some true)(a:H8)(h1:a.1.length<=1000000000):yL (k,m) [a] N (yN (k,m) N a.2.2 (a.1,a.2.1)):=by
 have hz:(k=10\/k=25\/k=31\/k=32)->m=0:=by
  intro h;rcases hu with h1|h1
  .exact h1
  .exfalso;rcases h with rfl|rfl|rfl|rfl<;>exact absurd h1 J8
 have hw:=CO (a.1,a.2.1) 6;simp only at hw;rcases ar1 ha with rfl|rfl|rfl|rfl|rfl|rfl
 .rw[hz o5];refine⟨0,rfl,?_⟩;unfold U4 yN;simp (disch:=decide) only[U6,J7,o7,o6,o9,lx0,CP a 6 h1];cases h:a.2.2
  .simp only[o6,o7];rw[G6 E5,o9,o9,gI];rfl
  .simp only[o7];rw[G6 E5,o9,G6 E5,o9,G6 E5,o9,o9,gI];rfl
 .rw[hz o5];refine⟨0,rfl,?_⟩;unfold U4 yN;simp (disch:=decide) only[U6,J7,o7,o6,o9,lx0,CP a 6 h1];rw[G6 E5,o9,o9,gI];rfl
 .rw[hz o5];refine⟨0,rfl,?_⟩;have hl:=lJ 31;unfold U4 yN V9;simp (disch:=decide) only[U6,J7,o7,o6,o9,lx0,lm];rw[G6 E5,o9,G6 E5,o9,G6 E5,o9,o9,gI];rfl
 .rw[hz o5];refine⟨0,rfl,?_⟩;have hl:=lJ 32;unfold U4 yN V9;simp (disch:=decide) only[U6,J7,o7,o6,o9,lx0,lm];rw[G6 E5,o9,G6 E5,o9,G6 E5,o9,o9,gI];rfl
 .exact a2K hm hN a h1
 .exact a0H hm hN a h1
theorem a2I(hk:k=17\/k=18\/k=27\/k=28\/k=29\/k=30)(a b:H8)(h1:a.1.length<=1000000000)(h2:b.1.length<=1000000000):yL (k,0) [a,b] N (JQ (k,0) (a.1,a.2.1) (b.1,b.2.1)):=by
 have hl:=lJ k;rcases hk with rfl|rfl|rfl|rfl|rfl|rfl
 all_goals
  refine⟨0,rfl,?_⟩;unfold U4 JQ V9 a1L;simp (disch:=decide) only[U6,J7,o7,o6,o9,lx0,lx1,lm];rw[G6 E5,o9,G6 E5,o9,G6 E5,o9,G6 E5,o9,G6 E5,o9,o9,gI];rfl
theorem a2J(hk:k=14\/k=15\/k=16)(a b:H8)(h1:a.1.length<=1000000000)(h2:b.1.length<=1000000000):yL (k,m) [a,b] N (JQ (k,m) (a.1,a.2.1) (b.1,b.2.1)):=by
 have hl:=lJ k;have hm:=yX m;have hf:X3 (k,m) N=some (l7 (seq (wX m) []) 3 0):=by
  have:X3 (k,m) N=l7 (I5 m 0) (some 3) (l7 (I5 5 m) (some 3) (some 0)):=by rcases hk with rfl|rfl|rfl<;>rfl
  rw[this];by_cases h0:m<0
  .rw[aP h0,a7G h0];rfl
  .rw[U1 o5,VC o5];cases I5 5 m<;>rfl
 refine a0O _ hf ?_;rcases hk with rfl|rfl|rfl
 all_goals
  unfold U4 JQ V9 a1L MR;simp (disch:=decide) only[U6,J7,o7,o6,o9,lx0,lx1,lm,Gf];cases seq (wX m) []
  .rw[o6,G6 E5,o9,G6 E5,o9,G6 E5,o9,G6 E5,o9,G6 E5,o9,G6 E5,o9,G6 E5,o9,o9,gI];rfl
  .rfl
theorem a2H(hk:k=11\/k=12\/k=13\/k=19\/k=20\/k=21\/k=22\/k=23\/k=24)(a b:H8)(h1:a.1.length<=100000000)(h2:b.1.length<=100000000):yL (k,0) [a,b] N (JQ (k,0) (a.1,a.2.1) (b.1,b.2.1)):=by
 have hl:=ZX k;have hc:1<=(Ai k).2/\(Ai k).2<=5:=by rcases hk with rfl|rfl|rfl|rfl|rfl|rfl|rfl|rfl|rfl<;>decide
 have w1:=CO (a.1,a.2.1) 4;have w2:=CO (a.1,a.2.1) (Ai k).2;have w3:=CO (b.1,b.2.1) ((Ai k).2+1);simp only at w1 w2 w3;have hx:U4 (k,0) [a,b] N=l9 (gY k) λ(x:c6F×Int)=>
    l7 (C9 x.2 3)
     (l9 (fU a 4) λ(x_2:c6F)=>
       l9 (N8 x_2 [32]) λ(x_3:c6F)=>
        l9 (N8 x_3 x.1) λ(x_4:c6F)=>
         l9 (N8 x_4 [32]) λ(x_5:c6F)=>
           l9 (fU b (G5 IntKind.i64 x.2 1)) λ(x_7:c6F)=>
            l9 (N8 x_5 x_7) λ(x_8:c6F)=>some ((x_8,x.2,false),0))
     (l9 (fU a x.2) λ(x_2:c6F)=>
       l9 (N8 x_2 [32]) λ(x_3:c6F)=>
        l9 (N8 x_3 x.1) λ(x_4:c6F)=>
         l9 (N8 x_4 [32]) λ(x_5:c6F)=>
           l9 (fU b (G5 IntKind.i64 x.2 1)) λ(x_7:c6F)=>
            l9 (N8 x_5 x_7) λ(x_8:c6F)=>some ((x_8,x.2,false),0)):=by
  rcases hk with rfl|rfl|rfl|rfl|rfl|rfl|rfl|rfl|rfl<;>rfl
 have hf:X3 (k,0) N=some 0:=by rcases hk with rfl|rfl|rfl|rfl|rfl|rfl|rfl|rfl|rfl<;>rfl
 have hn:Fz k=false:=by rcases hk with rfl|rfl|rfl|rfl|rfl|rfl|rfl|rfl|rfl<;>rfl
 have hb:a1L k=false/\MR k=false:=by rcases hk with rfl|rfl|rfl|rfl|rfl|rfl|rfl|rfl|rfl<;>exact⟨rfl,rfl⟩
 refine a0O _ hf ?_;rw[hx,a4Z,o9];unfold JQ;simp only[hb.1,hb.2,hn,o6,dN (show eH ((Ai k).2+1) by unfold eH;omega)];rw[CP a 4 o5,CP a _ o5,CP b _ o5];simp only[o9];cases C9 (Ai k).2 3
 .simp only[o6];rw[G6 E5,o9,G6 E5,o9,G6 E5,o9,G6 E5,o9];rfl
 .simp only[o7];rw[G6 E5,o9,G6 E5,o9,G6 E5,o9,G6 E5,o9];rfl
theorem Zz(ha:arF k=2)(hu:m=0\/bI k=some true)(a b:H8)(h1:a.1.length<=100000000)(h2:b.1.length<=100000000):yL (k,m) [a,b] N (JQ (k,m) (a.1,a.2.1) (b.1,b.2.1)):=by
 have hz:¬(k=14\/k=15\/k=16)->m=0:=by
  intro h;rcases hu with h1|h1
  .exact h1
  .exfalso;rcases ar2 ha with rfl|rfl|rfl|rfl|rfl|rfl|rfl|rfl|rfl|rfl|rfl|rfl|rfl|rfl|rfl|rfl|rfl|rfl<;>first|omega|exact absurd h1 J8
 by_cases h:k=14\/k=15\/k=16
 .exact a2J h a b o5 o5
 rw[hz h];by_cases h' :k=17\/k=18\/k=27\/k=28\/k=29\/k=30
 .exact a2I h' a b o5 o5
 .exact a2H (by have:=ar2 ha;omega) a b h1 h2
theorem ZA(hu:m=0\/bI 26=some true)(a b c:H8)(h1:a.1.length<=100000000)(h2:b.1.length<=100000000)(h3:c.1.length<=100000000):yL (26,m) [a,b,c] N (ifX (a.1,a.2.1) (b.1,b.2.1) (c.1,c.2.1)):=by
 have hz:m=0:=by
  rcases hu with h1|h1
  .exact h1
  .exact absurd h1 J8
 rw[hz];refine⟨0,rfl,?_⟩;unfold U4 ifX;simp (disch:=decide) only[U6,J7,o7,o6,o9,lx0,lx1,lx2];rw[G6 E5,o9,G6 E5,o9,G6 E5,o9,G6 E5,o9,G6 E5,o9,o9,gI];rfl
def flS(n:Int×Int)(N:E9):Int:=(X3 n N).getD 0
theorem YP{c:Int}(h:X3 n N=some c):flS n N=c:=by unfold flS;rw[h];rfl
theorem a5k(h:0<=arF k):bI k=some true\/bI k=some false:=by
 rcases arN k with h1|h1
 .obtain⟨j,rfl⟩:=VH h1;revert h;revert j;decide
 .omega
theorem b3r(ha:0<=arF k)(hm:m≠0)(hu:bI k=some false):X3 (k,m) N=some 2:=by
 have h3:arF k=0\/arF k=1\/arF k=2\/arF k=3:=by have:=(Hu k).2.2;omega
 have key:X3 (k,m) N=l7 (H5 (C9 m 0)) (some 2) (some 0)->X3 (k,m) N=some 2:=by intro h;rw[h,J7 hm];rfl
 rcases h3 with h|h|h|h
 .rcases ar0 h with rfl|rfl|rfl|rfl|rfl|rfl|rfl|rfl|rfl|rfl|rfl|rfl|rfl|rfl<;>first|exact absurd hu J8|exact key rfl
 .rcases ar1 h with rfl|rfl|rfl|rfl|rfl|rfl<;>first|exact absurd hu J8|exact key rfl
 .rcases ar2 h with rfl|rfl|rfl|rfl|rfl|rfl|rfl|rfl|rfl|rfl|rfl|rfl|rfl|rfl|rfl|rfl|rfl|rfl<;>first|exact absurd hu J8|exact key rfl
 .have:=ar3 h;subst this;exact key rfl
def fmF(a0:List (Int×Int))(a1:E9)(x:List H8×Int):Option (Out (List H8×Int) (List H8) (c6F×Int)):=
     l7 (I5 x.2 (A7 a0))
      (l9 (P5 a0 x.2) λ(x_1:Int×Int)=>
       l7 (H5 (C9 x_1.2 0))
        (l9 (bI x_1.1) λ(x_2:Bool)=>
         l7 (H5 x_2) (some (Out.rt ([],2)))
          (l9 (jB x_1.1) λ(x_3:Int)=>
           l7 (mi (N9 IntKind.i64 (A7 x.1) x_3) (A7 x.1) (A7 x.1))
            (l9
             (U4 x_1 (kH x.1 (Z7 (N9 IntKind.i64 (A7 x.1) x_3)) (Z7 (A7 x.1))) a1)
             λ(x_4:H8×Int)=>
             l7 (H5 (C9 x_4.2 0)) (some (Out.rt ([],x_4.2)))
              (l7 (mi 0 (N9 IntKind.i64 (A7 x.1) x_3) (A7 x.1))
               (l9 (eG (kH x.1 (Z7 0) (Z7 (N9 IntKind.i64 (A7 x.1) x_3))) [x_4.1])
                λ(x_5:List H8)=>some (Out.nx (x_5,G5 IntKind.i64 x.2 1)))
               none))
            none))
        (l9 (jB x_1.1) λ(x_2:Int)=>
         l7 (mi (N9 IntKind.i64 (A7 x.1) x_2) (A7 x.1) (A7 x.1))
          (l9 (U4 x_1 (kH x.1 (Z7 (N9 IntKind.i64 (A7 x.1) x_2)) (Z7 (A7 x.1))) a1)
           λ(x_3:H8×Int)=>
           l7 (H5 (C9 x_3.2 0)) (some (Out.rt ([],x_3.2)))
            (l7 (mi 0 (N9 IntKind.i64 (A7 x.1) x_2) (A7 x.1))
             (l9 (eG (kH x.1 (Z7 0) (Z7 (N9 IntKind.i64 (A7 x.1) x_2))) [x_3.1])
              λ(x_4:List H8)=>some (Out.nx (x_4,G5 IntKind.i64 x.2 1)))
             none))
          none))
      (some (Out.ex x.1))
def fmG(N:E9)(n:Int×Int)(p:List H8)(x:Tx)(i:Nat):Option (Out (List H8×Int) (List H8) (c6F×Int)):=
 some (l7 (C9 (flS n N) 0) (.nx (p++[(x.1,x.2,Fz n.1)],((i+1:Nat):Int))) (.rt ([],flS n N)))
variable {e:List (Int×Int)}{x:Tx}
theorem a4k{i:Nat}{p args:List H8}(hn:e[i]? =some n)(hi:i<=1000)(hp:p.length<=1000)(hl:args.length<=3)(ha:arF n.1=(args.length:Int))
  (hr:(n.2=0\/bI n.1=some true)->yL n args N x):fmF e N (p++args,(i:Int))=fmG N n p x i:=by
 have hx:N9 .i64 (A7 (p++args)) (arF n.1)=(p.length:Int):=by rw[dO (by unfold eH A7;simp;omega),ha];unfold A7;simp
 have r1:mi (p.length:Int) (A7 (p++args)) (A7 (p++args))=true:=by unfold mi A7;simp<;>omega
 have r2:mi 0 (p.length:Int) (A7 (p++args))=true:=by unfold mi A7;simp<;>omega
 have v1:kH (p++args) (Z7 (p.length:Int)) (Z7 (A7 (p++args)))=args:=by unfold kH Z7 A7;rw[F7,F7,W9 (D7 _),fG]
 have v2:kH (p++args) (Z7 0) (Z7 (p.length:Int))=p:=by unfold kH Z7;rw[F7,ed];rfl
 have main:(n.2=0\/bI n.1=some true)->(l9 (jB n.1) λ(x_2:Int)=>
         l7 (mi (N9 IntKind.i64 (A7 (p++args)) x_2) (A7 (p++args)) (A7 (p++args)))
          (l9 (U4 n (kH (p++args) (Z7 (N9 IntKind.i64 (A7 (p++args)) x_2)) (Z7 (A7 (p++args)))) N)
           λ(x_3:H8×Int)=>
           l7 (H5 (C9 x_3.2 0)) (some (Out.rt ([],x_3.2)))
            (l7 (mi 0 (N9 IntKind.i64 (A7 (p++args)) x_2) (A7 (p++args)))
             (l9 (eG (kH (p++args) (Z7 0) (Z7 (N9 IntKind.i64 (A7 (p++args)) x_2))) [x_3.1])
              λ(x_4:List H8)=>some (Out.nx (x_4,G5 IntKind.i64 (i:Int) 1)))
             none))
          none)=fmG N n p x i:=by
  intro hu;obtain⟨c,h1,h2⟩:=hr hu;rw[a6M,o9,hx,r1,o7,v1,h2,o9,r2,v2];unfold fmG;rw[YP h1];cases hc:C9 c 0
  .rw[o6];simp only[hc,P9,o7];rfl
  .rw[o7];simp only[U6 (rfl:(0:Int)=0),H7,o6,o7];rw[ru _ o5,o9,dH o5]
 unfold fmF;simp only[aF hn,o7,V8,hn,o9];by_cases h0:n.2=0
 .rw[U6 h0,H7,o6];exact main (.inl h0)
 .rw[J7 h0,P9,o7];rcases a5k (k:=n.1) o5 with hu|hu
  .rw[hu,o9,H7,o6];exact main (.inr hu)
  .rw[hu,o9,P9,o7];unfold fmG;rw[YP (b3r (k:=n.1) (m:=n.2) o5 h0 hu)];rfl
def ffS(N:E9):List (Int×Int)->Int
 |[]=>0|n::l=>l7 (C9 (flS n N) 0) (ffS N l) (flS n N)
theorem BQ(N:E9):∀a b,ffS N (a++b)=l7 (C9 (ffS N a) 0) (ffS N b) (ffS N a)
 |[],b=>by rw[show ffS N []=0 from rfl,U6 rfl];rfl|n::a,b=>by
  show l7 (C9 (flS n N) 0) (ffS N (a++b)) (flS n N)=l7 (C9 (l7 (C9 (flS n N) 0) (ffS N a) (flS n N)) 0) (ffS N b) (l7 (C9 (flS n N) 0) (ffS N a) (flS n N));rw[BQ N a b];cases h:C9 (flS n N) 0
  .simp only[o6,h]
  .simp only[o7]
theorem a7A(hN:NmOk N)(hI:eH n.2):(jP n N).1.length<=3000:=by
 unfold jP;have hw:=lJ n.1;have g1:=uB hN.i n.2;have g2:=uB hN.d n.2;have g3:=uB hN.m n.2;have hv:((vO (n.1,0,n.2) []).getD ([],0)).1.length<=100:=by obtain⟨t,ht,hl⟩:=wB (B:=100) o5 o5 (v:=(n.1,0,n.2)) (en:=[]) hI (λe h=>by cases h);rw[←wz [] hI,ht];exact hl
 have he:((P5 N.1 (aO .i64 n.2 16)).getD ([],[])).1.length<=1000/\(gtN ((P5 N.1 (aO .i64 n.2 16)).getD ([],[])).2 (fE n.2 16)).length<=1000:=by
  cases hx:P5 N.1 (aO .i64 n.2 16)with
  |none=>exact⟨D5,uB (B:=1000) (λs h=>by cases h) _⟩|some e=>have:=hN.e e (wE hx).2.2.1;exact⟨this.1,uB this.2 _⟩
 cases U7 n.1 5
 case true=>simp only[o7];omega
 cases C9 n.1 6
 case true=>simp only[o7,o6];simp;omega
 cases C9 n.1 7
 case true=>simp only[o7,o6];omega
 cases C9 n.1 8
 case true=>simp only[o7,o6];omega
 cases C9 n.1 9
 case true=>simp[l7]
 cases C9 n.1 35
 case true=>simp[l7]
 .simp only[o6];simp;omega
theorem b2b(hN:NmOk N)(b:Bool)(a:Tx):(yN n N b a).1.length<=a.1.length+3000:=by
 unfold yN;have hw:=lJ n.1;have hm:=yX (fE n.2 8);have g1:=uB hN.t n.2;have g2:=uB hN.t (aO .i64 n.2 8);have w:=CO a 6;cases C9 n.1 33
 case true=>simp only[o7];simp;omega
 cases C9 n.1 34
 case true=>simp only[o7,o6];simp;omega
 cases C9 n.1 25
 case true=>simp only[o7,o6];simp;omega
 cases C9 n.1 10
 case true=>simp only[o7,o6];cases b<;>simp<;>omega
 .simp only[o6];simp;omega
theorem a5j(a b:Tx):(JQ n a b).1.length<=a.1.length+b.1.length+3000:=by
 unfold JQ;have hw:=lJ n.1;have hm:=yX n.2;have hs:=ZX n.1;have w1:=CO a (l7 (C9 (Ai n.1).2 3) 4 (Ai n.1).2);have w2:=CO b ((Ai n.1).2+1);cases a1L n.1
 case true=>simp only[o7];simp;omega
 cases MR n.1
 case true=>simp only[o7,o6];simp;omega
 .simp only[o6];simp;omega
theorem Bv{N:E9}(hN:NmOk N):∀(t:XT),(∀n∈t.post,eH n.2)->(mG N t).1.length<=3000*t.size
 | .l0 n,h=>a7A hN (h n (by simp[XT.post]))| .l1 n a,h=>by have h1:=Bv hN a (λm hm=>h m (by simp[XT.post,hm]));have h2:=b2b (n:=n) hN (Fz a.node.1) (mG N a);simp only[mG,XT.size];omega| .l2 n a b,h=>by have h1:=Bv hN a (λm hm=>h m (by simp[XT.post,hm]));have h2:=Bv hN b (λm hm=>h m (by simp[XT.post,hm]));have h3:=a5j (n:=n) (mG N a) (mG N b);simp only[mG,XT.size];omega| .l3 n a b c,h=>by have h1:=Bv hN a (λm hm=>h m (by simp[XT.post,hm]));have h2:=Bv hN b (λm hm=>h m (by simp[XT.post,hm]));have h3:=Bv hN c (λm hm=>h m (by simp[XT.post,hm]));simp only[mG,XT.size,ifX];simp;omega
theorem jG{σ ε ρ:Type}(f:σ->Option (Out σ ε ρ))(n:Nat)(s:σ):iZ f (n+1) s=match f s with|some (.nx s')=>iZ f n s'|some (.ex e)=>some (.inl e)|some (.rt r)=>some (.inr r)|none=>none:=by rw[iZ]<;>rfl
theorem b1D(he:e.length<=48)(hN:NmOk N)(hI:∀n∈e,eH n.2):∀(t:XT) (pre suf:List (Int×Int)) (p:List H8) (m:Nat),e=pre++t.post++suf->t.wf->p.length+t.size<=60->
  iZ (fmF e N) (m+t.size) (p,(pre.length:Int))=l7 (C9 (ffS N t.post) 0) (iZ (fmF e N) m (p++[pcT N t],((pre.length+t.size:Nat):Int))) (some (.inr ([],ffS N t.post))):=by
 have stepN:∀(n:Int×Int) (pre suf:List (Int×Int)) (p args:List H8) (x:Tx) (m:Nat),e=pre++[n]++suf->p.length<=60->args.length<=3->arF n.1=(args.length:Int)->((n.2=0\/bI n.1=some true)->yL n args N x)->
   iZ (fmF e N) (m+1) (p++args,(pre.length:Int))=l7 (C9 (flS n N) 0) (iZ (fmF e N) m (p++[(x.1,x.2,Fz n.1)],((pre.length+1:Nat):Int))) (some (.inr ([],flS n N))):=by
  intro n pre suf p args x m h1 h2 h3 h4 h5;have hn:e[pre.length]? =some n:=by rw[h1,E8,H9 (D7 _),dR];rfl
  have hlt:=(bg.1 hn).1;rw[jG,a4k hn o5 o5 h3 h4 h5];unfold fmG;cases C9 (flS n N) 0<;>rfl
 intro t;induction t with
 |l0 n=>
  intro pre suf p m h hw hs;have hI1:=hI n (by rw[h];simp[XT.post]);have:=stepN n pre suf p [] (jP n N) m h o5 D5 hw (λhu=>a4T hN hI1 hw hu);rw[G7]at this;rw[show(XT.l0 n).size=1 from rfl,this];unfold XT.post ffS ffS;cases hf:C9 (flS n N) 0
  .simp only[o6,hf]
  .simp only[o7,U6 (rfl:(0:Int)=0)];rfl
 |l1 n a iha=>
  intro pre suf p m h hw hs;simp only[XT.post,XT.size]at h hs ⊢;have hI1:=hI n (by rw[h];simp);have hIa:∀n∈a.post,eH n.2:=λq hq=>hI q (by rw[h];simp[hq]);have hl:=Bv hN a hIa;rw[show m+(a.size+1)=(m+1)+a.size by omega,iha pre ([n]++suf) p (m+1) (by rw[h];simp) hw.2 o5,BQ];cases hf:C9 (ffS N a.post) 0
  .simp only[o6,hf]
  have:=stepN n (pre++a.post) suf p [pcT N a] (yN n N (Fz a.node.1) (mG N a)) m (by rw[h];simp) o5 D5 hw.1 (λhu=>a4U hN hI1 hw.1 hu (pcT N a) (by simp only[pcT];omega));rw[show(pre++a.post).length=pre.length+a.size by simp[XT.post_len]]at this;simp only[o7];rw[this];unfold ffS ffS;cases hg:C9 (flS n N) 0
  .simp only[o6,hg]
  .simp only[o7,U6 (rfl:(0:Int)=0)];rfl
 |l2 n a b iha ihb=>
  intro pre suf p m h hw hs;simp only[XT.post,XT.size]at h hs ⊢;have hI1:=hI n (by rw[h];simp);have hIa:∀n∈a.post,eH n.2:=λq hq=>hI q (by rw[h];simp[hq]);have hIb:∀n∈b.post,eH n.2:=λq hq=>hI q (by rw[h];simp[hq]);have hla:=Bv hN a hIa;have hlb:=Bv hN b hIb;have s1:=a.size_pos;have s2:=b.size_pos;rw[show m+(a.size+b.size+1)=(m+1+b.size)+a.size by omega,iha pre (b.post++[n]++suf) p (m+1+b.size) (by rw[h];simp) hw.2.1 o5,BQ,BQ];cases hf:C9 (ffS N a.post) 0
  .simp only[o6,hf]
  have i2:=ihb (pre++a.post) ([n]++suf) (p++[pcT N a]) (m+1) (by rw[h];simp) hw.2.2 E5;rw[show(pre++a.post).length=pre.length+a.size by simp[XT.post_len]]at i2;simp only[o7];rw[i2];cases hf2:C9 (ffS N b.post) 0
  .simp only[o6,hf2]
  have:=stepN n (pre++a.post++b.post) suf p [pcT N a,pcT N b] (JQ n (mG N a) (mG N b)) m (by rw[h];simp) o5 D5 hw.1 (λhu=>Zz hw.1 hu (pcT N a) (pcT N b) (by simp only[pcT];omega) (by simp only[pcT];omega));rw[show(pre++a.post++b.post).length=pre.length+a.size+b.size by simp[XT.post_len];omega,show pre.length+a.size+b.size+1=pre.length+(a.size+b.size+1) by omega]at this;simp only[o7];rw[show p++[pcT N a]++[pcT N b]=p++[pcT N a,pcT N b] by simp,this];unfold ffS ffS;cases hg:C9 (flS n N) 0
  .simp only[o6,hg]
  .simp only[o7,U6 (rfl:(0:Int)=0)];rfl
 |l3 n a b c iha ihb ihc=>
  intro pre suf p m h hw hs;simp only[XT.post,XT.size]at h hs ⊢;have hI1:=hI n (by rw[h];simp);have hIa:∀n∈a.post,eH n.2:=λq hq=>hI q (by rw[h];simp[hq]);have hIb:∀n∈b.post,eH n.2:=λq hq=>hI q (by rw[h];simp[hq]);have hIc:∀n∈c.post,eH n.2:=λq hq=>hI q (by rw[h];simp[hq]);have hla:=Bv hN a hIa;have hlb:=Bv hN b hIb;have hlc:=Bv hN c hIc;have s1:=a.size_pos;have s2:=b.size_pos;have s3:=c.size_pos;have h26:=ar3 hw.1;rw[show m+(a.size+b.size+c.size+1)=(m+1+c.size+b.size)+a.size by omega,iha pre (b.post++c.post++[n]++suf) p (m+1+c.size+b.size) (by rw[h];simp) hw.2.1 o5,BQ,BQ,BQ];cases hf:C9 (ffS N a.post) 0
  .simp only[o6,hf]
  have i2:=ihb (pre++a.post) (c.post++[n]++suf) (p++[pcT N a]) (m+1+c.size) (by rw[h];simp) hw.2.2.1 E5;rw[show(pre++a.post).length=pre.length+a.size by simp[XT.post_len]]at i2;simp only[o7];rw[i2];cases hf2:C9 (ffS N b.post) 0
  .simp only[o6,hf2]
  have i3:=ihc (pre++a.post++b.post) ([n]++suf) (p++[pcT N a]++[pcT N b]) (m+1) (by rw[h];simp) hw.2.2.2 E5;rw[show(pre++a.post++b.post).length=pre.length+a.size+b.size by simp[XT.post_len];omega]at i3;simp only[o7];rw[i3];cases hf3:C9 (ffS N c.post) 0
  .simp only[o6,hf3]
  have:=stepN n (pre++a.post++b.post++c.post) suf p [pcT N a,pcT N b,pcT N c] (ifX (mG N a) (mG N b) (mG N c)) m (by rw[h];simp) o5 D5 hw.1 (λhu=>by obtain⟨k,v⟩:=n;simp only at h26 hu;subst h26;exact ZA hu (pcT N a) (pcT N b) (pcT N c) (by simp only[pcT];omega) (by simp only[pcT];omega) (by simp only[pcT];omega))
  rw[show(pre++a.post++b.post++c.post).length=pre.length+a.size+b.size+c.size by simp[XT.post_len];omega,show pre.length+a.size+b.size+c.size+1=pre.length+(a.size+b.size+c.size+1) by omega]at this;simp only[o7];rw[show p++[pcT N a]++[pcT N b]++[pcT N c]=p++[pcT N a,pcT N b,pcT N c] by simp,this];unfold ffS ffS;cases hg:C9 (flS n N) 0
  .simp only[o6,hg]
  .simp only[o7,U6 (rfl:(0:Int)=0)];rfl
def BC(e:List (Int×Int))(N:E9):c6F×Int:=match kM e with
 | .inl x=>([],x.2)| .inr t=>l7 (C9 (ffS N e) 0) ((mG N t).1,0) ([],ffS N e)
theorem a7o(hN:NmOk N)(hI:∀n∈e,eH n.2):iq e N=some (BC e N):=by
 unfold iq sW BC;rw[Ed];unfold uu;cases h:kM e with
 |inl x=>simp only[o9,J7 (xW h)];rfl|inr t=>
  obtain⟨h1,h2,h3,h4⟩:=OT h;obtain⟨hp,-⟩:=qK h;simp only[o9,U6 (rfl:(0:Int)=0),H7,o6];have hl:V4 (fmF e N) ([],0)=some (l7 (C9 (ffS N e) 0) (.inl [pcT N t]) (.inr ([],ffS N e))):=by
   unfold V4;rw[show dZ=(dZ -t.size)+t.size by unfold dZ;omega];have:=b1D h2 hN hI t [] [] [] (dZ -t.size) (by simp[←hp]) (ML h) E5;rw[show(([]:List (Int×Int)).length:Int)=0 from rfl]at this;rw[this,←hp];cases C9 (ffS N e) 0
   .rfl
   .simp only[o7];rw[show dZ -t.size=(dZ -t.size -1)+1 by unfold dZ;omega];rw[jG];unfold fmF;simp only[aB,bY];rw[←h3,show I5 ((e.length:Nat):Int) (A7 e)=false from aS e];rfl
  refine Y5 hl ?_;rw[o9];cases C9 (ffS N e) 0<;>rfl
abbrev b1o:Type:=List (Int×Int)×E9
theorem Ny(n:Nat)(p:b1o)(i:Int):(F6 (n+1)).1 p i=aQ (F6 n).1 (F6 n).2.1 (F6 n).2.2 p i:=rfl
theorem c1G(n:Nat)(p:b1o)(x:Int×Int)(l:c6G):(F6 (n+1)).2.1 p x l=qi (F6 n).1 (F6 n).2.1 (F6 n).2.2 p x l:=rfl
theorem c1H(n:Nat)(p:b1o)(i c:Int):(F6 (n+1)).2.2 p i c=rV (F6 n).1 (F6 n).2.1 (F6 n).2.2 p i c:=rfl
theorem vT{n:Nat}{p:b1o}(c:Int)(h:(F6 n).1 p i=some (x.1,x.2,p))(hl:x.1.length<=1000000):(F6 (n+1)).2.2 p i c=some (wiS x c,p):=by rw[c1H];unfold rV wiS;rw[h,o9,G6 E5,o9,G6 E5,o9];cases I5 x.2 c<;>rfl
theorem b2X(k:Int):0<=(Ai k).2:=by
 unfold Ai ik;simp only[sS];repeat' split
 all_goals simp
theorem a7z(n:Int×Int)(N:E9):0<=(jP n N).2:=by
 unfold jP;simp only[sS];repeat' split
 all_goals simp
theorem b2a(n:Int×Int)(N:E9)(b:Bool)(a:Tx):0<=(yN n N b a).2:=by
 unfold yN;simp only[sS];repeat' split
 all_goals simp
theorem RF(N:E9)(t:XT):0<=(mG N t).2:=by
 cases t with
 |l0 n=>exact a7z n N|l1 n a=>exact b2a _ _ _ _|l2 n a b=>have:=b2X n.1;unfold mG JQ;cases a1L n.1<;>cases MR n.1<;>simp[l7]<;>exact this|l3 n a b c=>simp[mG,ifX]
theorem wi0(h:0<=x.2):wiS x 0=x.1:=by unfold wiS;rw[U1 h];rfl
theorem a0N(h:0<=m/\m<=5):xN m=some (wX m):=by obtain⟨k,rfl⟩:∃k:Fin 6,m=(k.val:Int):=⟨⟨m.toNat,o5⟩,by simp;omega⟩;revert k;decide
def XN(b:c6F×Nat)(a:c6F):c6F×Nat:=(l7 (I5 0 (b.2:Int)) (b.1++[44,32]++a) (b.1++a),b.2+1)
def KE(l:List c6F):c6F:=(l.foldl XN ([],0)).1
theorem b1M(hl:l.length<=10)(hb:∀s∈l,s.length<=1000000){f:c6F×Int->Option ((c6F×Int)⊕c6F)}
  (hf:∀(t:c6F) (i:Nat) (a:c6F),l[i]? =some a->f (t,(i:Int))=l7 (I5 0 (i:Int)) (l9 (N8 t [44,32]) λx=>l9 (N8 x a) λx=>some (.inl (x,((i+1:Nat):Int)))) (l9 (N8 t a) λx=>some (.inl (x,((i+1:Nat):Int)))))
  (he:∀t,f (t,(l.length:Int))=some (.inr t)):fA f ([],0)=some (KE l):=by
 have:=(EU l XN (λb i=>(b.1,i)) (λb=>b.1) (λi b=>b.2=i/\b.1.length<=i*1000010) (f:=f) (b:=([],0)) o5 ⟨rfl,D5⟩ (λi a b hx hi hI=>?_) (λb hI=>he b.1)).1
 .exact this
 .have ha:=hb a (yu hx);have hlt:=(bg.1 hx).1;obtain⟨h1,h2⟩:=hI;rw[hf b.1 i a hx];unfold XN;rw[h1];cases I5 0 (i:Int)
  .rw[o6,o6,G6 o5,o9];exact⟨rfl,rfl,by simp;omega⟩
  .rw[o7,o7,G6 E5,o9,G6 E5,o9];exact⟨rfl,rfl,by simp;omega⟩
def Tv(n:Int×Int)(N:E9)(l:List c6F):List c6F:=
 let a:=l7 (C9 n.1 34) [gtN N.2.1 (aO .i64 n.2 8)] [];let b:=l7 (C9 n.1 33) (a++[gtN N.2.1 n.2]) (l7 (U7 36 n.1) (a++[gtN N.2.2.2.2 n.2]) a);let c:=b++l;let d:=l7 (MR n.1) (c++[wX n.2]) c
 l7 (C9 n.1 34) (d++[wX (fE n.2 8)]) d
structure Ref11 (n:Int×Int) (N:E9):Prop where
 b:n.1=34->P5 N.2.1 (aO .i64 n.2 8)=some (gtN N.2.1 (aO .i64 n.2 8))/\0<=fE n.2 8/\fE n.2 8<=5
 t:n.1=33->P5 N.2.1 n.2=some (gtN N.2.1 n.2)
 m:36<=n.1->P5 N.2.2.2.2 n.2=some (gtN N.2.2.2.2 n.2)
 r:MR n.1=true->0<=n.2/\n.2<=5
theorem a5B{k:Nat}{ops:c6G}{ts:List c6F}(hr:Ref11 n N)(hN:NmOk N)(hlen:ops.length=ts.length)(h3:ts.length<=3)(hts:∀s∈ts,s.length<=1000000)
  (hc:∀(i:Nat) (o:Int) (s:c6F),ops[i]? =some o->ts[i]? =some s->(F6 k).2.2 (e,N) o 0=some (s,(e,N))):(F6 (k+1)).2.1 (e,N) n ops=some (KE (Tv n N ts),(e,N)):=by
 rw[c1G];unfold qi Tv;have s1:(l7 (C9 n.1 34) (l9 (P5 N.2.1 (aO IntKind.i64 n.2 8)) λ(x:c6F)=>l9 (eG [] [x]) λ(x:List c6F)=>some x) (some []))=some (l7 (C9 n.1 34) [gtN N.2.1 (aO .i64 n.2 8)] []):=by
  cases h:C9 n.1 34
  .rfl
  .rw[(hr.b (gp.1 h)).1];rfl
 refine Y5 s1 ?_;rw[o9];generalize hA:l7 (C9 n.1 34) [gtN N.2.1 (aO .i64 n.2 8)] []=A;have lA:A.length<=1:=by rw[←hA];cases C9 n.1 34<;>simp
 have mA:∀s∈A,s.length<=1000:=by
  rw[←hA];cases C9 n.1 34
  .intro s hs;cases hs
  .intro s hs;simp at hs;rw[hs];exact uB hN.t _
 have s2:(l7 (C9 n.1 33)
    (l9 (tK n N) λ(x_1:List c6F)=>
     l9 (P5 x_1 n.2) λ(x_2:c6F)=>l9 (eG A [x_2]) λ(x:List c6F)=>some x)
    (l7 (U7 36 n.1)
     (l9 (tK n N) λ(x_1:List c6F)=>
      l9 (P5 x_1 n.2) λ(x_2:c6F)=>l9 (eG A [x_2]) λ(x:List c6F)=>some x)
     (some A)))=some (l7 (C9 n.1 33) (A++[gtN N.2.1 n.2]) (l7 (U7 36 n.1) (A++[gtN N.2.2.2.2 n.2]) A)):=by
  unfold tK;by_cases h:n.1=33
  .rw[U6 h,o7,o7];simp only[J7 (show n.1≠7 by omega),J7 (show n.1≠8 by omega),U6 h,o7,o6,o9,hr.t h];rw[ru _ o5];rfl
  .rw[J7 h,o6,o6];by_cases h2:36<=n.1
   .rw[bH h2,o7,o7];simp only[J7 (show n.1≠7 by omega),J7 (show n.1≠8 by omega),J7 h,o6,o9,hr.m h2];rw[ru _ o5];rfl
   .rw[dE o5];rfl
 refine Y5 s2 ?_;rw[o9];generalize hB:l7 (C9 n.1 33) (A++[gtN N.2.1 n.2]) (l7 (U7 36 n.1) (A++[gtN N.2.2.2.2 n.2]) A)=B;have lB:B.length<=2:=by rw[←hB];cases C9 n.1 33<;>cases U7 36 n.1<;>simp[l7]<;>omega
 have mB:∀s∈B,s.length<=1000:=by
  rw[←hB];intro s hs;cases h:C9 n.1 33
  .rw[h]at hs;cases h2:U7 36 n.1
   .rw[h2]at hs;exact mA s hs
   .rw[h2]at hs;simp[l7]at hs;rcases hs with hs|hs
    .exact mA s hs
    .rw[hs];exact uB hN.m _
  .rw[h]at hs;simp[l7]at hs;rcases hs with hs|hs
   .exact mA s hs
   .rw[hs];exact uB hN.t _
 have s3:fA (λ(x:F9×List c6F×Int)=>
     l7 (I5 x.2.2 (A7 ops))
      (l9 (P5 ops x.2.2) λ(x_1:Int)=>
       l9 ((F6 k).2.2 x.1 x_1 0) λ(x_2:c6F×F9)=>
        l9 (eG x.2.1 [x_2.1]) λ(x_3:List c6F)=>
         some (Sum.inl (x_2.2,x_3,G5 IntKind.i64 x.2.2 1)))
      (some (Sum.inr (x.1,x.2.1))))
    ((e,N),B,0)=some ((e,N),B++ts):=by
  have:=(EU ts (λ(b:List c6F) a=>b++[a]) (λb i=>((((e,N):F9),b,i):F9×List c6F×Int)) (λb=>(((e,N):F9),b)) (λi b=>b.length<=2+i) (b:=B) (f:=λ(x:F9×List c6F×Int)=>
     l7 (I5 x.2.2 (A7 ops))
      (l9 (P5 ops x.2.2) λ(x_1:Int)=>
       l9 ((F6 k).2.2 x.1 x_1 0) λ(x_2:c6F×F9)=>
        l9 (eG x.2.1 [x_2.1]) λ(x_3:List c6F)=>
         some (Sum.inl (x_2.2,x_3,G5 IntKind.i64 x.2.2 1)))
      (some (Sum.inr (x.1,x.2.1)))) o5 o5 (λi a b hx hi hI=>?_) (λb hI=>?_)).1
  .rw[this];congr 2;have:∀(l B:List c6F),l.foldl (λ(b:List c6F) a=>b++[a]) B=B++l:=by
    intro l;induction l with
    |nil=>intro B;simp|cons a l ih=>intro B;rw[dK,ih];simp
   rw[this]
  .have hlt:=(bg.1 hx).1;have ho:ops[i]? =some ops[i]:=lF o5;simp only[aF ho,o7,V8,ho,o9,hc i _ _ ho hx];rw[ru _ o5,o9,dH o5];exact⟨rfl,by simp;omega⟩
  .simp only;rw[show I5 ((ts.length:Nat):Int) (A7 ops)=false by rw[←hlen];exact aS ops];rfl
 refine Y5 s3 ?_;rw[o9];have s4:∀(y:F9×List c6F),y.2.length<=10->(l7 (C9 n.1 14)
     (l9 (xN n.2) λ(x:c6F)=>l9 (eG y.2 [x]) λ(x:List c6F)=>some x)
     (l7 (C9 n.1 15)
      (l9 (xN n.2) λ(x:c6F)=>l9 (eG y.2 [x]) λ(x:List c6F)=>some x)
      (l7 (C9 n.1 16)
       (l9 (xN n.2) λ(x:c6F)=>
        l9 (eG y.2 [x]) λ(x:List c6F)=>some x)
       (some y.2))))=some (l7 (MR n.1) (y.2++[wX n.2]) y.2):=by
  intro y hy;cases h:MR n.1
  .unfold MR at h;cases h1:C9 n.1 14<;>cases h2:C9 n.1 15<;>cases h3:C9 n.1 16<;>simp only[h1,h2,h3,o7,o6]at h<;>first|exact absurd h J8|rfl
  .rw[a0N (hr.r h)];simp only[o9];rw[ru _ o5,o9];unfold MR at h;cases h1:C9 n.1 14<;>cases h2:C9 n.1 15<;>cases h3:C9 n.1 16<;>simp only[h1,h2,h3,o7,o6]at h<;>first|exact absurd h J8|rfl
 refine Y5 (s4 ((e,N),B++ts) E5) ?_;rw[o9];simp only;generalize hD:l7 (MR n.1) (B++ts++[wX n.2]) (B++ts)=D;have lD:D.length<=6:=by rw[←hD];cases MR n.1<;>simp[l7]<;>omega
 have mD:∀s∈D,s.length<=1000000:=by
  rw[←hD];intro s hs;have hm:=yX n.2;cases h:MR n.1
  .rw[h]at hs;simp[l7]at hs;rcases hs with hs|hs
   .have:=mB s hs;omega
   .exact hts s hs
  .rw[h]at hs;simp[l7]at hs;rcases hs with hs|hs|hs
   .have:=mB s hs;omega
   .exact hts s hs
   .rw[hs];omega
 have jn:∀(l:List c6F),l.length<=10->(∀s∈l,s.length<=1000000)->fA (λ(x_2:c6F×Int)=>
          l7 (I5 x_2.2 (A7 l))
           (l7 (I5 0 x_2.2)
            (l9 (N8 x_2.1 [44,32]) λ(x_3:c6F)=>
             l9 (P5 l x_2.2) λ(x_4:c6F)=>
              l9 (aN l (Z7 x_2.2)) λ(x:c6F)=>
               l9 (N8 x_3 x) λ(x:c6F)=>some (Sum.inl (x,G5 IntKind.i64 x_2.2 1)))
            (l9 (P5 l x_2.2) λ(x_3:c6F)=>
             l9 (aN l (Z7 x_2.2)) λ(x:c6F)=>
              l9 (N8 x_2.1 x) λ(x:c6F)=>some (Sum.inl (x,G5 IntKind.i64 x_2.2 1))))
           (some (Sum.inr x_2.1)))
         ([],0)=some (KE l):=by
  intro l hl hb;refine b1M hl hb (λt i a hx=>?_) (λt=>?_)
  .have hlt:=(bg.1 hx).1;simp only[aF hx,o7,V8,aN,Z7,F7,hx,o9];rw[dH o5]
  .simp only[aS l,o6]
 cases h34:C9 n.1 34
 .simp only[o6];refine Y5 (jn D o5 mD) ?_;rw[o9,hB,hD]
 .simp only[o7];rw[a0N (hr.b (gp.1 h34)).2,o9,ru _ o5,o9];have hm:=yX (fE n.2 8);refine Y5 (jn (D++[wX (fE n.2 8)]) E5 (λs hs=>?_)) ?_
  .simp at hs;rcases hs with hs|hs
   .exact mD s hs
   .rw[hs];omega
  .rw[o9,hB,hD]
theorem TS(hf:X3 n N=l7 (I5 n.2 0) (some 6) (l7 (U7 (A7 l) n.2) (some 6) (some 0)))(h:flS n N=0):P5 l n.2=some (gtN l n.2):=by
 unfold flS at h;rw[hf]at h;by_cases h0:n.2<0
 .rw[aP h0]at h;cases h
 by_cases h1:A7 l<=n.2
 .rw[U1 o5,bH h1]at h;cases h
 exact(EP o5 o5).1
theorem b1C(hm:eH m)(h:flS (34,m) N=0):P5 N.2.1 (aO .i64 m 8)=some (gtN N.2.1 (aO .i64 m 8))/\0<=fE m 8/\fE m 8<=5:=by
 have hf:X3 (34,m) N=l7 (I5 m 0) (some 6) (l7 (U7 (A7 N.2.1) (aO .i64 m 8)) (some 6) (l7 (I5 5 (fE m 8)) (some 3) (some 0))):=rfl;unfold flS at h;rw[hf]at h;by_cases h0:m<0
 .rw[aP h0]at h;cases h
 by_cases h1:A7 N.2.1<=aO .i64 m 8
 .rw[U1 o5,bH h1]at h;cases h
 by_cases h2:5<fE m 8
 .rw[U1 o5,dE o5,aP h2]at h;cases h
 have hq:aO .i64 m 8=m / 8:=by rw[MI hm 8 (.inl rfl),nH o5]
 have hr0:fE m 8=m % 8:=Aw o5;exact⟨(EP o5 o5).1,o5,o5⟩
theorem b4j(hk:k=14\/k=15\/k=16)(h:flS (k,m) N=0):0<=m/\m<=5:=by
 have hf:X3 (k,m) N=l7 (I5 m 0) (some 3) (l7 (I5 5 m) (some 3) (some 0)):=by rcases hk with rfl|rfl|rfl<;>rfl
 unfold flS at h;rw[hf]at h;by_cases h0:m<0
 .rw[aP h0]at h;cases h
 by_cases h2:5<m
 .rw[U1 o5,aP h2]at h;cases h
 omega
theorem a8U(hm:eH n.2)(h:flS n N=0)(ha:0<=arF n.1):Ref11 n N:=by
 obtain⟨k,m⟩:=n;refine⟨λh1=>?_,λh1=>?_,λh1=>?_,λh1=>?_⟩
 .simp only at h1;subst h1;exact b1C hm h
 .simp only at h1;subst h1;exact TS rfl h
 .rcases arN k with h2|h2
  .have:k=36\/k=37\/k=38\/k=39:=by simp only at h1;omega
   rcases this with rfl|rfl|rfl|rfl<;>exact TS rfl h
  .simp only at ha;omega
 .refine b4j (k:=k) ?_ h;unfold MR at h1;by_cases g1:k=14
  .exact .inl g1
  by_cases g2:k=15
  .exact .inr (.inl g2)
  rw[J7 g1,J7 g2,o6,o6]at h1;exact .inr (.inr (gp.1 h1))
theorem zY{j:Nat}{ops:c6G}{ts:List c6F}(hx:P5 e i=some (k,m))(ho:AY e i=some ops)(hm:eH m)(hfl:flS (k,m) N=0)(ha:0<=arF k)(hN:NmOk N)
  (hk:fM (k,m)=some ((0,0,0),false)/\ik k=some ([],0)/\k≠6/\k≠7/\k≠8/\k≠9/\k≠10/\k≠25/\k≠26)
  (hlen:ops.length=ts.length) (h3:ts.length<=3) (hts:∀s∈ts,s.length<=1000000) (hj:(KE (Tv (k,m) N ts)).length<=100000000)
  (hc:∀(a:Nat) (o:Int) (s:c6F),ops[a]? =some o->ts[a]? =some s->(F6 j).2.2 (e,N) o 0=some (s,(e,N))):
  (F6 (j+2)).1 (e,N) i=some (pV k++[40]++KE (Tv (k,m) N ts)++[41],7,(e,N)):=by
 obtain⟨h1,h2,g6,g7,g8,g9,g10,g25,g26⟩:=hk;have hw:=lJ k;rw[Ny];unfold aQ;simp only[hx,ho,h1,h2,o9,o6,show seq ([]:c6F) []=true from rfl,H7,J7 g6,J7 g7,J7 g8,J7 g9,J7 g10,J7 g25,J7 g26,b1j];rw[G6 E5,o9,a5B (a8U hm hfl ha) hN hlen h3 hts hc,o9,G6 E5,o9,G6 E5,o9]
theorem XM(a:c6F):KE [a]=a:=by simp[KE,XN,I5,l7]
theorem a4y(a b:c6F):KE [a,b]=a++[44,32]++b:=by simp[KE,XN,I5,l7]
theorem a4z(a b c:c6F):KE [a,b,c]=a++[44,32]++b++[44,32]++c:=by simp[KE,XN,I5,l7]
end Go.GP
namespace Go.GP
open Gt
set_option maxRecDepth 100000
variable {α:Type}
theorem lg0(a:α)(l:List α):aN (a::l) (Z7 0)=some a:=rfl
theorem lg1(a b:α)(l:List α):aN (a::b::l) (Z7 1)=some b:=rfl
theorem lg2(a b c:α)(l:List α):aN (a::b::c::l) (Z7 2)=some c:=rfl
theorem hc0{P:Nat->Int->c6F->Prop} :∀(a:Nat) (o:Int) (s:c6F),([]:c6G)[a]? =some o->([]:List c6F)[a]? =some s->P a o s:=by intro a o s h;cases a<;>cases h
theorem hc1{x:Int}{y:c6F}{P:Int->c6F->Prop}(h0:P x y):∀(a:Nat) (o:Int) (s:c6F),[x][a]? =some o->[y][a]? =some s->P o s:=by
 intro a o s h1 h2;match a with
 |0=>cases h1;cases h2;exact h0|a+1=>simp at h1
theorem hc2{x x' :Int}{y y' :c6F}{P:Int->c6F->Prop}(h0:P x y)(h1:P x' y'):∀(a:Nat) (o:Int) (s:c6F),[x,x'][a]? =some o->[y,y'][a]? =some s->P o s:=by
 intro a o s g1 g2;match a with
 |0=>cases g1;cases g2;exact h0|1=>cases g1;cases g2;exact h1|a+2=>simp at g1
section
variable {e:List (Int×Int)} {N:E9} {T:XT} (hN:NmOk N) (hT:kM e= .inr T) (hI:∀n∈e,eH n.2) (hz:∀n∈e,flS n N=0)
include hN hT hI hz
theorem a8P(n:Int×Int)(o k:Nat)(h:At e (T.sts 0) (.l0 n) o)(hw:(XT.l0 n).wf):(F6 (k+2)).1 (e,N) (rtI (.l0 n) o:Int)=some ((jP n N).1,(jP n N).2,(e,N)):=by
 have hr:=yf h;have ho:=DW hT h hw;have hx:P5 e ((rtI (.l0 n) o:Nat):Int)=some n:=by rw[V8];exact hr.1
 have hmem:=yu hr.1;have hi:=hI n hmem;have hf:=hz n hmem;rw[show a6j (.l0 n) o=[]from rfl]at ho;generalize ((rtI (.l0 n) o:Nat):Int)=i at hx ho;obtain⟨op,m⟩:=n;have ha:arF op=0:=hw;have lit:∀k:Nat,(op=1\/op=2\/op=3\/op=4\/op=5)->(F6 (k+2)).1 (e,N) i=some ((jP (op,m) N).1,(jP (op,m) N).2,(e,N)):=by intro k hk;obtain⟨t,ht,-⟩:=wB (B:=100) o5 o5 (v:=(op,0,m)) (en:=[]) hi (λe h=>by cases h);rw[wz [] hi]at ht;rw[Ny];unfold aQ fM jP;simp only[hx,ho,o9,bH (show(1:Int)<=op by omega),bH (show op<=(5:Int) by omega),o7,ht,Y3];cases I5 m 0<;>rfl
 have lst:∀k:Nat,(op=36\/op=37\/op=38\/op=39)->(F6 (k+2)).1 (e,N) i=some ((jP (op,m) N).1,(jP (op,m) N).2,(e,N)):=by
  intro k hk;have e1:Tv (op,m) N []=[gtN N.2.2.2.2 m]:=by rcases hk with rfl|rfl|rfl|rfl<;>rfl
  have e2:jP (op,m) N=(pV op++[40]++gtN N.2.2.2.2 m++[41],7):=by rcases hk with rfl|rfl|rfl|rfl<;>rfl
  have:=zY (j:=k) hx ho hi hf o5 hN (ops:=[]) (ts:=[]) (by rcases hk with rfl|rfl|rfl|rfl<;>exact⟨rfl,rfl,o5,o5,o5,o5,o5,o5,o5⟩) rfl D5 D5 (by rw[e1,XM];have:=uB hN.m m;omega) hc0
  rw[this,e1,XM,e2]
 rcases ar0 ha with rfl|rfl|rfl|rfl|rfl|rfl|rfl|rfl|rfl|rfl|rfl|rfl|rfl|rfl
 .exact lit k o5
 .exact lit k o5
 .exact lit k o5
 .exact lit k o5
 .exact lit k o5
 ·
  have hff:X3 (6,m) N=(l7 (I5 m 0) (some 6)
    (l7 (U7 (A7 N.1) (aO .i64 m 16)) (some 6)
     (l9 (P5 N.1 (aO .i64 m 16)) λ(x:bK)=>
      l7 (U7 (A7 x.2) (fE m 16)) (some 6) (some 0)))):=rfl
  unfold flS at hf;rw[hff]at hf;by_cases h0:m<0
  .rw[aP h0]at hf;cases hf
  by_cases h1:A7 N.1<=aO .i64 m 16
  .rw[U1 o5,bH h1]at hf;cases hf
  have hq:0<=aO .i64 m 16:=by rw[MI hi 16 (.inr rfl),nH o5];omega
  have hr0:fE m 16=m % 16:=Aw o5;obtain⟨en,he,hmem⟩:=vH (l:=N.1) hq o5;have hb:=hN.e en hmem;rw[U1 o5,dE o5,o6,o6,he,o9]at hf;by_cases h2:A7 en.2<=fE m 16
  .rw[bH h2]at hf;cases hf
  have hg:=EP (l:=en.2) (i:=fE m 16) o5 o5;have h3:=hb.2 _ hg.2;rw[Ny];unfold aQ jP;simp (disch:=decide) only[hx,ho,o9,show fM (6,m)=some ((0,0,0),false)from rfl,show ik 6=some ([],0)from rfl,o6,show seq ([]:c6F) []=true from rfl,H7,U6,dE,o7,he,hg.1,Y3];rw[G6 E5,o9,G6 E5,o9]
 .rw[Ny];unfold aQ jP tK;simp (disch:=decide) only[hx,ho,o9,show fM (7,m)=some ((0,0,0),false)from rfl,show ik 7=some ([],0)from rfl,o6,show seq ([]:c6F) []=true from rfl,H7,U6,J7,dE,o7,TS (n:=(7,m)) (l:=N.2.2.1) rfl hf]
 .rw[Ny];unfold aQ jP tK;simp (disch:=decide) only[hx,ho,o9,show fM (8,m)=some ((0,0,0),false)from rfl,show ik 8=some ([],0)from rfl,o6,show seq ([]:c6F) []=true from rfl,H7,U6,J7,dE,o7,TS (n:=(8,m)) (l:=N.2.2.2.1) rfl hf]
 .rw[Ny];unfold aQ jP;simp (disch:=decide) only[hx,ho,o9,show fM (9,m)=some ((0,0,0),false)from rfl,show ik 9=some ([],0)from rfl,o6,show seq ([]:c6F) []=true from rfl,H7,U6,J7,dE,o7]
 .have:=zY (j:=k) hx ho hi hf o5 hN (ops:=[]) (ts:=[]) ⟨rfl,rfl,o5,o5,o5,o5,o5,o5,o5⟩ rfl D5 D5 (by rw[show Tv (35,m) N []=[]from rfl];decide) hc0;rw[this];rfl
 .exact lst k o5
 .exact lst k o5
 .exact lst k o5
 .exact lst k o5
theorem b2p(n:Int×Int)(a:XT)(o k:Nat)(h:At e (T.sts 0) (.l1 n a) o)(hw:(XT.l1 n a).wf)(hla:(mG N a).1.length<=1000000)
  (ia:∀q,k<=q->(F6 q).1 (e,N) (rtI a o:Int)=some ((mG N a).1,(mG N a).2,(e,N))):(F6 (k+3)).1 (e,N) (rtI (.l1 n a) o:Int)=some ((yN n N (Fz a.node.1) (mG N a)).1,(yN n N (Fz a.node.1) (mG N a)).2,(e,N)):=by
 have hr:=yf h;have hra:=yf (a3W h);have ho:=DW hT h hw;have hx:P5 e ((rtI (.l1 n a) o:Nat):Int)=some n:=by rw[V8];exact hr.1
 have hxa:P5 e ((rtI a o:Nat):Int)=some a.node:=by rw[V8];exact hra.1
 have hmem:=yu hr.1;have hi:=hI n hmem;have hf:=hz n hmem;rw[show a6j (.l1 n a) o=[((rtI a o:Nat):Int)]from rfl]at ho;generalize ((rtI (.l1 n a) o:Nat):Int)=i at hx ho;obtain⟨op,m⟩:=n;have ha:arF op=1:=hw.1;have w0:(F6 (k+1)).2.2 (e,N) ((rtI a o:Nat):Int) 0=some ((mG N a).1,(e,N)):=by rw[vT 0 (ia k o5) hla,wi0 (RF N a)]
 have w6:(F6 (k+2)).2.2 (e,N) ((rtI a o:Nat):Int) 6=some (wiS (mG N a) 6,(e,N)):=vT 6 (ia (k+1) o5) hla;have n6:=ia (k+2) o5;generalize ((rtI a o:Nat):Int)=j at hxa ho w0 w6 n6;have hwl:=CO (mG N a) 6;have hml:=yX (fE m 8);have gl1:=uB hN.t m;have gl2:=uB hN.t (aO .i64 m 8);rcases ar1 ha with rfl|rfl|rfl|rfl|rfl|rfl
 .rw[Ny];unfold aQ yN Fz;simp (disch:=decide) only[hx,ho,o9,show fM (10,m)=some ((0,0,0),false)from rfl,show ik 10=some ([],0)from rfl,o6,show seq ([]:c6F) []=true from rfl,H7,U6,J7,o7,lx0,lg0,hxa,n6,w6];rw[G6 E5,o9,G6 E5,o9,G6 E5,o9];cases C9 a.node.1 2
  .cases C9 a.node.1 3
   .cases C9 a.node.1 4<;>simp[l7]
   .simp[l7]
  .simp[l7]
 .rw[Ny];unfold aQ yN;simp (disch:=decide) only[hx,ho,o9,show fM (25,m)=some ((0,0,0),false)from rfl,show ik 25=some ([],0)from rfl,o6,show seq ([]:c6F) []=true from rfl,H7,U6,J7,o7,lx0,lg0,w6];rw[G6 E5,o9]
 .have e1:Tv (31,m) N [(mG N a).1]=[(mG N a).1]:=rfl;rw[zY (j:=k+1) hx ho hi hf o5 hN (ts:=[(mG N a).1]) ⟨rfl,rfl,o5,o5,o5,o5,o5,o5,o5⟩ rfl D5 (by simpa using hla) (by rw[e1,XM];omega) (hc1 w0),e1,XM];rfl
 .have e1:Tv (32,m) N [(mG N a).1]=[(mG N a).1]:=rfl;rw[zY (j:=k+1) hx ho hi hf o5 hN (ts:=[(mG N a).1]) ⟨rfl,rfl,o5,o5,o5,o5,o5,o5,o5⟩ rfl D5 (by simpa using hla) (by rw[e1,XM];omega) (hc1 w0),e1,XM];rfl
 .have e1:Tv (33,m) N [(mG N a).1]=[gtN N.2.1 m,(mG N a).1]:=rfl;rw[zY (j:=k+1) hx ho hi hf o5 hN (ts:=[(mG N a).1]) ⟨rfl,rfl,o5,o5,o5,o5,o5,o5,o5⟩ rfl D5 (by simpa using hla) (by rw[e1,a4y];simp;omega) (hc1 w0),e1,a4y];simp[yN,C9,l7]
 .have e1:Tv (34,m) N [(mG N a).1]=[gtN N.2.1 (aO .i64 m 8),(mG N a).1,wX (fE m 8)]:=rfl;rw[zY (j:=k+1) hx ho hi hf o5 hN (ts:=[(mG N a).1]) ⟨rfl,rfl,o5,o5,o5,o5,o5,o5,o5⟩ rfl D5 (by simpa using hla) (by rw[e1,a4z];simp;omega) (hc1 w0),e1,a4z];simp[yN,C9,l7]
theorem b2q(n:Int×Int)(a b:XT)(o k:Nat)(h:At e (T.sts 0) (.l2 n a b) o)(hw:(XT.l2 n a b).wf)(hla:(mG N a).1.length<=1000000)(hlb:(mG N b).1.length<=1000000)
  (ia:∀q,k<=q->(F6 q).1 (e,N) (rtI a o:Int)=some ((mG N a).1,(mG N a).2,(e,N))) (ib:∀q,k<=q->(F6 q).1 (e,N) (rtI b (o+a.size):Int)=some ((mG N b).1,(mG N b).2,(e,N))):
  (F6 (k+3)).1 (e,N) (rtI (.l2 n a b) o:Int)=some ((JQ n (mG N a) (mG N b)).1,(JQ n (mG N a) (mG N b)).2,(e,N)):=by
 have hr:=yf h;have ho:=DW hT h hw;have hx:P5 e ((rtI (.l2 n a b) o:Nat):Int)=some n:=by rw[V8];exact hr.1
 have hmem:=yu hr.1;have hi:=hI n hmem;have hf:=hz n hmem;rw[show a6j (.l2 n a b) o=[((rtI a o:Nat):Int),((rtI b (o+a.size):Nat):Int)]from rfl]at ho;generalize ((rtI (.l2 n a b) o:Nat):Int)=i at hx ho;obtain⟨op,m⟩:=n;have ha:arF op=2:=hw.1;have w0:(F6 (k+1)).2.2 (e,N) ((rtI a o:Nat):Int) 0=some ((mG N a).1,(e,N)):=by rw[vT 0 (ia k o5) hla,wi0 (RF N a)]
 have w1:(F6 (k+1)).2.2 (e,N) ((rtI b (o+a.size):Nat):Int) 0=some ((mG N b).1,(e,N)):=by rw[vT 0 (ib k o5) hlb,wi0 (RF N b)]
 have u1:∀c,(F6 (k+2)).2.2 (e,N) ((rtI a o:Nat):Int) c=some (wiS (mG N a) c,(e,N)):=λc=>vT c (ia (k+1) o5) hla;have u2:∀c,(F6 (k+2)).2.2 (e,N) ((rtI b (o+a.size):Nat):Int) c=some (wiS (mG N b) c,(e,N)):=λc=>vT c (ib (k+1) o5) hlb;generalize ((rtI a o:Nat):Int)=j at ho w0 u1;generalize ((rtI b (o+a.size):Nat):Int)=j' at ho w1 u2;have hml:=yX m;by_cases h1:op=17\/op=18\/op=27\/op=28\/op=29\/op=30
 .have e1:Tv (op,m) N [(mG N a).1,(mG N b).1]=[(mG N a).1,(mG N b).1]:=by rcases h1 with rfl|rfl|rfl|rfl|rfl|rfl<;>rfl
  have e2:JQ (op,m) (mG N a) (mG N b)=(pV op++[40]++(mG N a).1++[44,32]++(mG N b).1++[41],7):=by rcases h1 with rfl|rfl|rfl|rfl|rfl|rfl<;>rfl
  rw[zY (j:=k+1) hx ho hi hf o5 hN (ts:=[(mG N a).1,(mG N b).1]) (by rcases h1 with rfl|rfl|rfl|rfl|rfl|rfl<;>exact⟨rfl,rfl,o5,o5,o5,o5,o5,o5,o5⟩) rfl D5 (by simp;exact⟨hla,hlb⟩) (by rw[e1,a4y];simp;omega) (hc2 w0 w1),e1,a4y,e2];simp
 by_cases h2:op=14\/op=15\/op=16
 .have e1:Tv (op,m) N [(mG N a).1,(mG N b).1]=[(mG N a).1,(mG N b).1,wX m]:=by rcases h2 with rfl|rfl|rfl<;>rfl
  have e2:JQ (op,m) (mG N a) (mG N b)=(pV op++[40]++(mG N a).1++[44,32]++(mG N b).1++[44,32]++wX m++[41],7):=by rcases h2 with rfl|rfl|rfl<;>rfl
  rw[zY (j:=k+1) hx ho hi hf o5 hN (ts:=[(mG N a).1,(mG N b).1]) (by rcases h2 with rfl|rfl|rfl<;>exact⟨rfl,rfl,o5,o5,o5,o5,o5,o5,o5⟩) rfl D5 (by simp;exact⟨hla,hlb⟩) (by rw[e1,a4z];simp;omega) (hc2 w0 w1),e1,a4z,e2];simp
 have hk:op=11\/op=12\/op=13\/op=19\/op=20\/op=21\/op=22\/op=23\/op=24:=by have:=ar2 ha;omega
 have hl:=ZX op;have hc:1<=(Ai op).2/\(Ai op).2<=5:=by rcases hk with rfl|rfl|rfl|rfl|rfl|rfl|rfl|rfl|rfl<;>decide
 have hs:seq (Ai op).1 []=false:=by rcases hk with rfl|rfl|rfl|rfl|rfl|rfl|rfl|rfl|rfl<;>rfl
 have hlit:fM (op,m)=some ((0,0,0),false):=by rcases hk with rfl|rfl|rfl|rfl|rfl|rfl|rfl|rfl|rfl<;>rfl
 have hb:a1L op=false/\MR op=false:=by rcases hk with rfl|rfl|rfl|rfl|rfl|rfl|rfl|rfl|rfl<;>exact⟨rfl,rfl⟩
 have v1:=CO (mG N a) 4;have v2:=CO (mG N a) (Ai op).2;have v3:=CO (mG N b) ((Ai op).2+1);rw[Ny];unfold aQ JQ;simp only[hx,ho,o9,hlit,b0U,hs,o6,o7,P9,lx0,lg0,lx1,lg1,u1,u2,dN (show eH ((Ai op).2+1) by unfold eH;omega),hb.1,hb.2];cases C9 (Ai op).2 3
 .simp only[o6];rw[G6 E5,o9,G6 E5,o9,G6 E5,o9,G6 E5,o9]
 .simp only[o7];rw[G6 E5,o9,G6 E5,o9,G6 E5,o9,G6 E5,o9]
theorem b4E(n:Int×Int)(a b c:XT)(o k:Nat)(h:At e (T.sts 0) (.l3 n a b c) o)(hw:(XT.l3 n a b c).wf)(hla:(mG N a).1.length<=1000000)(hlb:(mG N b).1.length<=1000000)(hlc:(mG N c).1.length<=1000000)
  (ia:∀q,k<=q->(F6 q).1 (e,N) (rtI a o:Int)=some ((mG N a).1,(mG N a).2,(e,N))) (ib:∀q,k<=q->(F6 q).1 (e,N) (rtI b (o+a.size):Int)=some ((mG N b).1,(mG N b).2,(e,N)))
  (ic:∀q,k<=q->(F6 q).1 (e,N) (rtI c (o+a.size+b.size):Int)=some ((mG N c).1,(mG N c).2,(e,N))):
  (F6 (k+3)).1 (e,N) (rtI (.l3 n a b c) o:Int)=some ((ifX (mG N a) (mG N b) (mG N c)).1,(ifX (mG N a) (mG N b) (mG N c)).2,(e,N)):=by
 have hr:=yf h;have ho:=DW hT h hw;have hx:P5 e ((rtI (.l3 n a b c) o:Nat):Int)=some n:=by rw[V8];exact hr.1
 rw[show a6j (.l3 n a b c) o=[((rtI a o:Nat):Int),((rtI b (o+a.size):Nat):Int),((rtI c (o+a.size+b.size):Nat):Int)]from rfl]at ho;generalize ((rtI (.l3 n a b c) o:Nat):Int)=i at hx ho;obtain⟨op,m⟩:=n;have ha:op=26:=ar3 hw.1;subst ha;have u1:(F6 (k+2)).2.2 (e,N) ((rtI a o:Nat):Int) 0=some ((mG N a).1,(e,N)):=by rw[vT 0 (ia (k+1) o5) hla,wi0 (RF N a)]
 have u2:(F6 (k+2)).2.2 (e,N) ((rtI b (o+a.size):Nat):Int) 0=some ((mG N b).1,(e,N)):=by rw[vT 0 (ib (k+1) o5) hlb,wi0 (RF N b)]
 have u3:(F6 (k+2)).2.2 (e,N) ((rtI c (o+a.size+b.size):Nat):Int) 0=some ((mG N c).1,(e,N)):=by rw[vT 0 (ic (k+1) o5) hlc,wi0 (RF N c)]
 rw[Ny];unfold aQ ifX;simp (disch:=decide) only[hx,ho,o9,show fM (26,m)=some ((0,0,0),false)from rfl,show ik 26=some ([],0)from rfl,o6,show seq ([]:c6F) []=true from rfl,H7,U6,J7,o7,lx0,lg0,lx1,lg1,lx2,lg2,u1,u2,u3];rw[G6 E5,o9,G6 E5,o9,G6 E5,o9,G6 E5,o9,G6 E5,o9]
theorem a8Q:∀(t:XT) (o k:Nat),At e (T.sts 0) t o->t.wf->3*t.size<=k->(F6 k).1 (e,N) (rtI t o:Int)=some ((mG N t).1,(mG N t).2,(e,N)):=by
 have h48:=(qK hT).2;have hlen:∀(t:XT) (o:Nat),At e (T.sts 0) t o->(mG N t).1.length<=1000000:=by
  intro t o h;obtain⟨p,s,S1,S2,h1,-,-,-⟩:=h;have hl:=Bv hN t (λn hn=>hI n (by rw[h1];simp[hn]));have:t.size<=e.length:=by rw[←t.post_len,h1];simp;omega
  omega
 intro t;induction t with
 |l0 n=>intro o k h hw hk;simp only[XT.size]at hk;obtain⟨k,rfl⟩:∃m,k=m+2:=⟨k -2,o5⟩;exact a8P hN hT hI hz n o k h hw
 |l1 n a iha=>intro o k h hw hk;simp only[XT.size]at hk;obtain⟨k,rfl⟩:∃m,k=m+3:=⟨k -3,o5⟩;exact b2p hN hT hI hz n a o k h hw (hlen a o (a3W h)) (λq hq=>iha o q (a3W h) hw.2 o5)
 |l2 n a b iha ihb=>intro o k h hw hk;simp only[XT.size]at hk;obtain⟨k,rfl⟩:∃m,k=m+3:=⟨k -3,o5⟩;exact b2q hN hT hI hz n a b o k h hw (hlen a o (Xr h).1) (hlen b _ (Xr h).2) (λq hq=>iha o q (Xr h).1 hw.2.1 o5) (λq hq=>ihb _ q (Xr h).2 hw.2.2 o5)
 |l3 n a b c iha ihb ihc=>intro o k h hw hk;simp only[XT.size]at hk;obtain⟨k,rfl⟩:∃m,k=m+3:=⟨k -3,o5⟩;exact b4E hN hT hI hz n a b c o k h hw (hlen a o (OQ h).1) (hlen b _ (OQ h).2.1) (hlen c _ (OQ h).2.2) (λq hq=>iha o q (OQ h).1 hw.2.1 o5) (λq hq=>ihb _ q (OQ h).2.1 hw.2.2.1 o5) (λq hq=>ihc _ q (OQ h).2.2 hw.2.2.2 o5)
end
end Go.GP
namespace Go.GP
open Gt
set_option maxRecDepth 100000
variable {N:E9}
theorem b4k{n:Int×Int}(hN:NmOk N)(hI:eH n.2)(ha:0<=arF n.1):X3 n N=some (flS n N):=by
 obtain⟨k,m⟩:=n;have fin:∀{args:List H8} {x:Tx},yL (k,m) args N x->X3 (k,m) N=some (flS (k,m) N):=by rintro args x ⟨c,h1,-⟩;rw[YP h1];exact h1
 by_cases h0:m=0\/bI k=some true
 .have h3:arF k=0\/arF k=1\/arF k=2\/arF k=3:=by have:=(Hu k).2.2;simp only at ha;omega
  rcases h3 with h|h|h|h
  .exact fin (a4T hN hI h h0)
  .exact fin (a4U hN hI h h0 ([],0,false) D5)
  .exact fin (Zz h h0 ([],0,false) ([],0,false) D5 D5)
  .have:=ar3 h;subst this;exact fin (ZA h0 ([],0,false) ([],0,false) ([],0,false) D5 D5 D5)
 .have h1:m≠0:=λh=>h0 (.inl h);have h2:bI k=some false:=(a5k ha).resolve_left λh=>h0 (.inr h);have:=b3r (N:=N) ha h1 h2;rw[YP this];exact this
theorem Ju:∀(t:XT),t.wf->∀n∈t.post,0<=arF n.1
 | .l0 n,h,m,hm=>by simp[XT.post]at hm;rw[hm];rw[show arF n.1=0 from h];decide| .l1 n a,h,m,hm=>by
  simp[XT.post]at hm;rcases hm with hm|hm
  .exact Ju a h.2 m hm
  .rw[hm,h.1];decide
 | .l2 n a b,h,m,hm=>by
  simp[XT.post]at hm;rcases hm with hm|hm|hm
  .exact Ju a h.2.1 m hm
  .exact Ju b h.2.2 m hm
  .rw[hm,h.1];decide
 | .l3 n a b c,h,m,hm=>by
  simp[XT.post]at hm;rcases hm with hm|hm|hm|hm
  .exact Ju a h.2.1 m hm
  .exact Ju b h.2.2.1 m hm
  .exact Ju c h.2.2.2 m hm
  .rw[hm,h.1];decide
theorem a4h{N:E9} :∀{l:List (Int×Int)},ffS N l=0->∀n∈l,flS n N=0
 |[],_,n,h=>by cases h|a::l,h,n,hn=>by
  unfold ffS at h;cases hf:C9 (flS a N) 0
  .rw[hf]at h;rw[o6]at h;exact absurd h (zI.1 hf)
  .rw[hf]at h;rw[o7]at h;rcases D8.1 hn with rfl|hn
   .exact gp.1 hf
   .exact a4h h n hn
theorem a0L(e:List (Int×Int))(he:e.length<=1000)(hf:∀n∈e,X3 n N=some (flS n N)):
  V4 (λ(x:Int)=>
     l7 (I5 x (A7 e))
      (l9 (P5 e x) λ(x_1:H6)=>
       l9 (X3 x_1 N) λ(x_2:Int)=>
        l7 (H5 (C9 x_2 0)) (some (Out.rt (([]:c6F),x_2))) (some (Out.nx (G5 IntKind.i64 x 1))))
      (some (Out.ex PUnit.unit))) 0=some (l7 (C9 (ffS N e) 0) (.inl PUnit.unit) (.inr ([],ffS N e))):=by
 have key:∀(l pre:List (Int×Int)) (k:Nat),e=pre++l->l.length<k->
   iZ (λ(x:Int)=>
     l7 (I5 x (A7 e))
      (l9 (P5 e x) λ(x_1:H6)=>
       l9 (X3 x_1 N) λ(x_2:Int)=>
        l7 (H5 (C9 x_2 0)) (some (Out.rt (([]:c6F),x_2))) (some (Out.nx (G5 IntKind.i64 x 1))))
      (some (Out.ex PUnit.unit))) k (pre.length:Int)=some (l7 (C9 (ffS N l) 0) (.inl PUnit.unit) (.inr ([],ffS N l))):=by
  intro l;induction l with
  |nil=>intro pre k h hk;obtain⟨k,rfl⟩:∃k',k=k' +1:=⟨k -1,by simp at hk;omega⟩;rw[jG];rw[G7]at h;rw[←h,aS];rfl
  |cons n l ih=>
   intro pre k h hk;obtain⟨k,rfl⟩:∃k',k=k' +1:=⟨k -1,by simp at hk;omega⟩;have hn:e[pre.length]? =some n:=by rw[h,H9 (D7 _),dR];rfl
   have hlt:=(bg.1 hn).1;rw[jG];simp only[aF hn,o7,V8,hn,o9,hf n (yu hn)];unfold ffS;cases hg:C9 (flS n N) 0
   .simp only[P9,o7,o6,hg]
   .simp only[H7,o7,o6];have:=ih (pre++[n]) k (by rw[h];simp) (by simp at hk;omega);rw[show(((pre++[n]).length:Nat):Int)=G5 .i64 (pre.length:Int) 1 by rw[dH o5];simp]at this;exact this
 have:=key e [] dZ rfl (by unfold dZ;omega);exact this
variable {e:List (Int×Int)}
theorem a4V(hN:NmOk N)(hI:∀n∈e,eH n.2):Bc e N=some (BC e N):=by
 unfold Bc PV BC;rw[Nz];unfold uu;cases h:kM e with
 |inl x=>simp only[o9,J7 (xW h)];rfl|inr t=>
  obtain⟨h1,h2,h3,h4⟩:=OT h;obtain⟨hp,-⟩:=qK h;simp only[o9,U6 (rfl:(0:Int)=0),H7,o6];have hw:=ML h;refine Y5 (a0L e o5 (λn hn=>b4k hN (hI n hn) (Ju t hw n (by rw[←hp];exact hn)))) ?_;rw[o9];cases hf:C9 (ffS N e) 0
  .rfl
  .simp only[o7,V6];rw[h4,show Fg (e,N) ((rtI t 0:Nat):Int)=some ((mG N t).1,(mG N t).2,(e,N))from a8Q hN h hI (a4h (gp.1 hf)) t 0 dZ h1 hw (by unfold dZ;omega)]<;>rfl
theorem TT(hN:NmOk N)(hI:∀n∈e,eH n.2):(BC e N).1.length<=150000:=by
 unfold BC;cases h:kM e with
 |inl x=>simp|inr t=>
  obtain⟨hp,h48⟩:=qK h;have:=Bv hN t (by rw[←hp];exact hI);rw[←t.post_len,←hp]at this;simp only;cases C9 (ffS N e) 0
  .simp[l7]
  .simp only[o7];omega
theorem a6T{a:List bK}(h:a.length<=1000000)(h2:∀e∈a,e.2.length<=1000000):uG a=some a:=by
 unfold uG;refine Y5 (a2i a (λe=>e) h (F:=λx=>x) (λi e acc he hi=>?_) (λacc=>?_)) ?_
 rotate_left 2
 .rw[o9,List.map_id']
 .have hlt:=(bg.1 he).1;simp only[aF he,o7,V8,he,o9,a1P (h2 e (yu he))];rw[ru _ o5];rfl
 .simp only[aS a,o6]
theorem a2h{l:List mW}(h:l.length<=1000000):nT l=some (l.map (·.1)):=by
 unfold nT;refine Y5 (a2i l (λ(f:mW)=>f.1) h (F:=λx=>x) (λi e acc he hi=>?_) (λacc=>?_)) ?_
 rotate_left 2
 .rfl
 .have hlt:=(bg.1 he).1;simp only[aF he,o7,V8,he,o9];rw[ru _ o5];rfl
 .simp only[aS l,o6]
def nmS(l:Z9)(s:au):E9:=(l.1,l.2.1.map (·.1),s.2.2.1.map (·.1),s.2.2.2.1.map (·.1),l7 (U7 0 s.2.1) (match P5 l.2.2 s.2.1 with|some q=>q.2.2.2.1.map (·.1)|none=>[]) [])
structure NmL (l:Z9):Prop where
 ne:l.1.length<=9
 nt:l.2.1.length<=9
 e:∀e∈l.1,e.2.length<=20/\e.1.length<=80/\∀m∈e.2,m.length<=80
 t:∀t∈l.2.1,t.1.length<=80
 s:∀s∈l.2.2,s.2.2.1.length<=14/\s.2.2.2.1.length<=14/\s.2.2.2.2.length<=96/\(∀f∈s.2.2.1,f.1.length<=80)/\(∀f∈s.2.2.2.1,f.1.length<=80)/\∀r∈s.2.2.2.2,r.1.length<=80
variable {l:Z9}
theorem b4v(h:smL l=true)(hW:WfL l):NmL l:=by
 unfold smL at h;obtain⟨h1,h⟩:=Hw h;obtain⟨h2,h⟩:=Hw h;obtain⟨h3,h⟩:=Hw h;obtain⟨h4,h⟩:=Hw h;cases ht:qV tG l.2.1 0 with
 |inr r=>rw[ht]at h;cases h|inl b=>
  rw[ht]at h;simp only at h;cases hs:qV sG l.2.2 0 with
  |inr r=>rw[hs]at h;cases h|inl b' =>
   have T:=a3A l.2.1 0 b o5 o5 hW.rl ht;have S:=a3b l.2.2 0 b' o5 o5 hW.sl hs;refine⟨gq (n:=9) h1,gq (n:=9) h2,λe he=>?_,λt ht=>(T t ht).1,λs hs=>?_⟩
   .have hl:=MV h4 e he;unfold XQ at hl;cases g1:I5 80 (A7 e.1)<;>rw[g1]at hl
    case true=>cases hl
    cases g2:I5 20 (A7 e.2)<;>rw[g2]at hl
    case true=>cases hl
    refine⟨gq (n:=20) g2,gq (n:=80) g1,λm hm=>?_⟩;have:=MV (p:=λm=>I5 80 (A7 m)) hl m hm;exact gq (n:=80) this
   .have h:=S s hs;unfold smS at h;obtain⟨a1,h⟩:=Hw h;obtain⟨a2,h⟩:=Hw h;obtain⟨a3,h⟩:=Hw h;obtain⟨a4,h⟩:=Hw h;obtain⟨a5,h⟩:=Hw h;obtain⟨a6,h⟩:=Hw h;have a7:s.2.2.2.2.any Np=false:=by revert h;cases s.2.2.2.2.any Np<;>intro h<;>first|rfl|cases h
    refine⟨gq (n:=14) a2,gq (n:=14) a3,V5 (gq (n:=60) a4) o5,λf hf=>gq (n:=80) (MV a5 f hf),λf hf=>gq (n:=80) (MV a6 f hf),λr hr=>?_⟩;have hl:=MV a7 r hr;unfold Np at hl;cases g1:I5 80 (A7 r.1)<;>rw[g1]at hl
    case true=>cases hl
    exact gq (n:=80) g1
theorem b4w(h:NmL l){s:au}(hs:s∈l.2.2):NmOk (nmS l s):=by
 obtain⟨s1,s2,s3,s4,s5,s6⟩:=h.s s hs;refine⟨λe he=>?_,λx hx=>?_,λx hx=>?_,λx hx=>?_,λx hx=>?_⟩
 .have:=h.e e he;exact⟨o5,λm hm=>by have:=this.2.2 m hm;omega⟩
 .obtain⟨t,ht,rfl⟩:=ji.1 hx;have:=h.t t ht;omega
 .obtain⟨f,hf,rfl⟩:=ji.1 hx;have:=s4 f hf;omega
 .obtain⟨f,hf,rfl⟩:=ji.1 hx;have:=s5 f hf;omega
 .unfold nmS at hx;simp only at hx;cases g:U7 0 s.2.1<;>rw[g]at hx
  .cases hx
  .simp only[o7]at hx;split at hx
   .rename_i q hq;obtain⟨f,hf,rfl⟩:=ji.1 hx;have:=(h.s q (wE hq).2.2.1).2.2.2.2.1 f hf;omega
   .cases hx
variable {k:Int}
theorem Yd(h:NmL l){s:au}(hs:P5 l.2.2 k=some s):tN l k=some (nmS l s):=by
 obtain⟨k0,k1,hm,-⟩:=wE hs;obtain⟨s1,s2,-⟩:=h.s s hm;have nt:=h.nt;unfold tN;rw[U1 k0,dE k1,o6,o6,o9,V6,hs,o9,a2h o5,o9,a2h o5,o9];refine ET l.2.1 (λ(b:E9) (t:eP)=>((b.1,b.2.1++[t.1],b.2.2):E9)) (λb i=>(b,i)) (λb=>b) (λi b=>b.2.1.length=i) (l.1,[],s.2.2.1.map (·.1),s.2.2.2.1.map (·.1),[]) o5 rfl (λi t b hx hi hI=>?_) (λb _=>?_) (λ_=>?_)
 .have hlt:=(bg.1 hx).1;simp only[aF hx,o7,V8,hx,o9];rw[ru _ o5,o9,dH o5];exact⟨rfl,by simp;omega⟩
 .simp only[aS l.2.1,o6]
 .have e:∀(L:List eP) (b:E9),L.foldl (λ(b:E9) (t:eP)=>((b.1,b.2.1++[t.1],b.2.2):E9)) b=(b.1,b.2.1++L.map (·.1),b.2.2):=by
   intro L;induction L with
   |nil=>intro b;simp|cons t L ih=>intro b;rw[dK,ih];simp
  rw[e];unfold nmS;cases g:U7 0 s.2.1
  .simp[l7]
  .by_cases g2:s.2.1<A7 l.2.2
   .obtain⟨q,hq,hmq⟩:=vH (pg.1 g) g2;have:=(h.s q hmq).2.1;rw[aP g2,hq];simp only[o7,o9];rw[a2h o5,o9];simp
   .rw[U1 (vZ.1 g2)];have:P5 l.2.2 s.2.1=none:=by
     cases hq:P5 l.2.2 s.2.1 with
     |none=>rfl|some q=>exact absurd (wE hq).2.1 g2
    rw[this];simp[l7]
theorem a0l(h:NmL l){s:au}(hs:P5 l.2.2 k=some s):sF l k=some (nmS l s):=by rw[WB (a6T (by have:=h.ne;omega) (λe he=>by have:=(h.e e he).1;omega)) k];exact Yd h hs
theorem c6A(h:(rW l).1=0):rW l=(0,0,0,0):=by
 unfold rW at h ⊢;cases h1:C9 (Kv l).1 0<;>rw[h1]at h
 .simp only[o6]at h;rw[U6 h]at h1;cases h1
 cases h2:C9 (MM l).1 0<;>rw[h2]at h
 .simp only[o7,o6]at h;rw[U6 h]at h2;cases h2
 simp only[o7]at h ⊢;unfold Uf at h ⊢;cases h3:I5 4 (A7 l.2.2)<;>rw[h3]at h
 case true=>exact absurd (show(4:Int)=0 from h) J8
 simp only[o6]at h ⊢;cases hf:ja l.2.2.length (Rh l)with
 |none=>rfl|some r=>
  rw[hf]at h;simp only at h;obtain⟨j,hj,hp⟩:=DU hf;unfold Rh at hp;cases hq:l.2.2[j]? with
  |none=>rw[hq]at hp;cases hp|some q=>
   rw[hq]at hp;simp only at hp;unfold UU at hp;exact absurd h (by cases he:C9 (Wl l j q).1 0<;>rw[he]at hp<;>cases hp;simp only;intro h4;rw[U6 h4]at he;cases he)
variable {s:c6F}
theorem Vw(P:UInt8->Bool){f:Int->Option (Int⊕Int)}(hl:s.length<=1000000)
  (h1:∀(i:Nat) (c:UInt8),s[i]? =some c->f (i:Int)=some (l7 (P c) (.inl ((i+1:Nat):Int)) (.inr (i:Int)))) (h2:∀i:Nat,s.length<=i->f (i:Int)=some (.inr (i:Int))) (a:Nat):
  fA f (a:Int)=some (((a+((s.drop a).takeWhile P).length:Nat)):Int):=by
 have key:∀(n a k:Nat),s.length -a<=n->n<k->zJ f k (a:Int)=some (((a+((s.drop a).takeWhile P).length:Nat)):Int):=by
  intro n;induction n with
  |zero=>intro a k h hk;obtain⟨k,rfl⟩:∃m,k=m+1:=⟨k -1,o5⟩;rw[Cc (h2 a o5),bG o5];rfl
  |succ n ih=>
   intro a k h hk;obtain⟨k,rfl⟩:∃m,k=m+1:=⟨k -1,o5⟩;by_cases hlt:a<s.length
   .have hc:=lF hlt;have:=h1 a _ hc;rw[bC hlt];cases hp:P s[a]
    .rw[hp,o6]at this;rw[Cc this,List.takeWhile_cons_of_neg (by rw[hp];simp)];rfl
    .rw[hp,o7]at this;rw[Cb this,ih (a+1) k o5 o5,ng hp];congr 2;simp only[F5];omega
   .rw[Cc (h2 a o5),bG o5];rfl
 exact key (s.length -a) a dZ o5 (by unfold dZ;omega)
theorem a2s(h:s.length<=1000000):nS s=some ((s.takeWhile uV).length:Int):=by
 unfold nS;have:=Vw uV h (f:=λ(x:Int)=>l7 (I5 x (A7 s)) (l9 (sat s x) λx_1=>l9 (kS x_1) λx_2=>l7 x_2 (some (Sum.inl (G5 IntKind.i64 x 1)))
   (l9 (sat s x) λx_3=>l9 (fJ x_3) λx_4=>l7 x_4 (some (Sum.inl (G5 IntKind.i64 x 1))) (l9 (sat s x) λx_5=>l7 (C9 x_5 95) (some (Sum.inl (G5 IntKind.i64 x 1))) (some (Sum.inr x))))) (some (Sum.inr x)))
  (λi c hc=>by have hlt:=(bg.1 hc).1;simp only[aF hc,o7,wZ,hc,eX,o9,Ip,EE,a7u];rw[dH o5];have hw:uV c=(KJ c || zG c || decide (c.toNat=95)):=rfl;rw[hw];cases KJ c<;>cases zG c<;>cases decide (c.toNat=95)<;>rfl)
  (λi hi=>by rw[U1 (by unfold A7;omega)];rfl) 0
 rw[bZ];rw[show((0:Nat):Int)=0 from rfl]at this;rw[this];simp
theorem Df(h:s.length<=1000000)(a:Nat)(ha:a<=1000000):iY s (a:Int)=some (((s.drop a).takeWhile zG).length:Int):=by
 unfold iY;have:=Vw zG h (f:=λ(x:Int)=>
   l7 (I5 x (A7 s))
    (l9 (sat s x) λ(x_1:Int)=>
     l9 (fJ x_1) λ(x_2:Bool)=>
      l7 x_2 (some (Sum.inl (G5 IntKind.i64 x 1))) (some (Sum.inr x)))
    (some (Sum.inr x)))
  (λi c hc=>by have hlt:=(bg.1 hc).1;simp only[aF hc,o7,wZ,hc,eX,o9,EE];rw[dH o5];cases zG c<;>rfl)
  (λi hi=>by rw[U1 (by unfold A7;omega)];rfl) a
 refine Y5 this ?_;have hl:((s.drop a).takeWhile zG).length<=1000000:=by have:=(jl zG (l:=s.drop a)).length_le;simp at this;omega
 rw[o9,dO di];congr 1;omega
theorem b7r(c:UInt8)(k:Nat)(hk:k<256):C9 (c.toNat:Int) (k:Int)=decide (c=UInt8.ofNat k):=by
 unfold C9;rw[decide_eq_decide];constructor
 .intro h;apply UInt8.toNat_inj.1;rw[UInt8.toNat_ofNat'];omega
 .intro h;have:=congrArg UInt8.toNat h;rw[UInt8.toNat_ofNat']at this;omega
abbrev b7w:Type:=Int×c6F×Int
variable {c:UInt8}
theorem YL(h:zG c=true):48<=c.toNat/\c.toNat<=57:=by unfold zG at h;simp at h;omega
def ww(v:Nat)(l:c6F):Nat:=l.foldl (λa c=>10*a+(c.toNat -48)) v
theorem a5m:∀(l:c6F) (v:Nat),v<=ww v l
 |[],v=>D7 _|c::l,v=>by have:=a5m l (10*v+(c.toNat -48));unfold ww at this ⊢;rw[dK];omega
theorem b1h(a b:c6F)(v:Nat):ww v (a++b)=ww (ww v a) b:=by unfold ww;rw[List.foldl_append]
def Dg(l:c6F):Prop:=∀c∈l,zG c=true
theorem QZ{i:Nat}(h:s[i]? =some c)(hc:c.toNat<128):nG s (i:Int)=(c.toNat:Int)/\xU s (i:Int)=((i+1:Nat):Int):=by
 have hlt:=(bg.1 h).1;have hg:(ByteArray.mk s.toArray).get! i=c:=by
  unfold ByteArray.get!;have:(s.toArray)[i]! =c:=by simp[h]
  exact this
 have hd:Utf8.decode ⟨s.toArray⟩ i=(c.toNat,1):=by unfold Utf8.decode;simp only[aH,hg];rw[if_pos o5]
 unfold nG xU;rw[F7,hd];refine⟨rfl,D5⟩
def npF(p:Int)(x:Int×Bool×c6F×Int):Option (Out (Int×Bool×c6F×Int) (Int×Bool) (Int×Int)):=
        l7 (I5 x.2.2.2 (A7 x.2.2.1))
         (l7 (C9 x.2.2.2 p)
          (l7 (H5 (C9 (nG x.2.2.1 x.2.2.2) 46)) (some (Out.rt (0,2)))
           (some (Out.nx (x.1,x.2.1,x.2.2.1,xU x.2.2.1 x.2.2.2))))
          (l9 (mV (nG x.2.2.1 x.2.2.2)) λ(x_3:Bool)=>
           l7 (H5 x_3) (some (Out.rt (0,2)))
            (l7 x.2.1 (some (Out.nx (x.1,true,x.2.2.1,xU x.2.2.1 x.2.2.2)))
             (l7 (I5 461168601842738790 x.1)
              (some (Out.nx (x.1,true,x.2.2.1,xU x.2.2.1 x.2.2.2)))
              (some
               (Out.nx
                (G5 IntKind.i64 (mY IntKind.i64 x.1 10)
                  (wrap IntKind.i64 (N9 IntKind.i32 (nG x.2.2.1 x.2.2.2) 48)),
                 I5 4611686018427387904
                  (G5 IntKind.i64 (mY IntKind.i64 x.1 10)
                   (wrap IntKind.i64 (N9 IntKind.i32 (nG x.2.2.1 x.2.2.2) 48))),
                 x.2.2.1,xU x.2.2.1 x.2.2.2)))))))
         (some (Out.ex (x.1,x.2.1)))
def NoZ(d:c6F):Prop:=1<d.length->∀c t,d=c::t->c≠48
theorem b3p(y:Int):∀(n:Nat) (d:Int),n<=12->0<=d->d<rem y n->
  yY y (12 -n)+d=yY y ((mo y n d).2 -1).toNat+(mo y n d).1
 |0,d,_,h0,h=>by simp[rem]at h;omega|n+1,d,hn,h0,h=>by
  have e:dim y (12 -(n:Int))=dim y (((12 -(n+1):Nat):Int)+1):=by congr 1;omega
  have hs:yY y (12 -n)=yY y (12 -(n+1))+dim y (12 -(n:Int)):=by rw[e,show 12 -n=(12 -(n+1))+1 by omega];rfl
  rw[Zc];by_cases hd:d<dim y (12 -(n:Int))
  .rw[if_pos hd];show yY y (12 -(n+1))+d=yY y (12 -(n:Int) -1).toNat+d;congr 2;omega
  .rw[if_neg hd];have h2:d -dim y (12 -(n:Int))<rem y n:=by
    have e2:rem y (n+1)=dim y (12 -(n:Int))+rem y n:=rfl;omega
   have:=b3p y n (d -dim y (12 -(n:Int))) o5 o5 h2;omega
theorem b1J{n:Int}(h:0<=n):Lib.itoa n=Lib.decDigits n.toNat:=by unfold Lib.itoa;rw[if_neg o5]
def ddF(x:Int×c6F×Int):Option (Out (Int×c6F×Int) Int (Int×Bool)):=
   l7 (I5 x.2.2 (A7 x.2.1))
    (l7 (I5 (nG x.2.1 x.2.2) 48) (some (Out.rt (0,false)))
     (l7 (I5 57 (nG x.2.1 x.2.2)) (some (Out.rt (0,false)))
      (some
       (Out.nx
        (G5 IntKind.i64 (mY IntKind.i64 x.1 10)
          (wrap IntKind.i64 (N9 IntKind.i32 (nG x.2.1 x.2.2) 48)),
         x.2.1,xU x.2.1 x.2.2)))))
    (some (Out.ex x.1))
def prB(c:UInt8):Bool:=decide (32<=c.toNat)&&decide (c.toNat<=126)
def tkF(a0:c6F)(x:List dF×Int):Option (Out (List dF×Int) (List dF) (List dF×Int×Int)):=
     l7 (I5 x.2 (A7 a0))
      (l9 (gy a0 x.2 (A7 a0)) λ(x_1:c6F)=>
       l9 (ES x_1) λ(x_2:dF×H6)=>
        l7 (H5 (C9 x_2.2.2 0)) (some (Out.rt ([],x.2,x_2.2.2)))
         (l9 (eG x.1 [(x_2.1.1,x_2.1.2.1,x_2.1.2.2.1,x.2)]) λ(x_3:List dF)=>
          l9 (BX a0 (G5 IntKind.i64 x.2 x_2.2.1)) λ(x:Int)=>some (Out.nx (x_3,x))))
      (some (Out.ex x.1))
def b3O(x:dF):b7w:=(x.1,x.2.1,x.2.2.1)
def pk(T:List dF)(i:Nat):dF:=(T[i]?).getD (0,[],0,0)
def b1N(k:Int):Int:=l7 (C9 k 2) 2 (l7 (C9 k 3) 3 (l7 (C9 k 4) 4 0))
theorem a4C(t:dF):kW t=some (b1N t.1):=by unfold kW b1N;cases C9 t.1 2<;>cases C9 t.1 3<;>cases C9 t.1 4<;>rfl
def c5u(t:b7w):Prop:=t=(0,[],0)\/t=(7,[41],0)\/t=(7,[44],0)\/t=(1,[116,104,101,110],0)\/t=(1,[101,108,115,101],0)
theorem b2g{t:dF}(h:c5u (b3O t)):ku t=some (0,0):=by
 obtain⟨a,b,c,d⟩:=t;unfold b3O at h;have key:∀(a:Int) (b:c6F),(a,b)∈([(0,[]),(7,[41]),(7,[44]),(1,[116,104,101,110]),(1,[101,108,115,101])]:List (Int×c6F))->ku (a,b,c,d)=some (0,0):=by intro a b h;simp only[D8,gK,List.mem_nil_iff,or_false]at h;rcases h with⟨rfl,rfl⟩|⟨rfl,rfl⟩|⟨rfl,rfl⟩|⟨rfl,rfl⟩|⟨rfl,rfl⟩<;>rfl
 apply key;rcases h with h|h|h|h|h<;>cases h<;>decide
def cwF(w:c6F)(x:Int):Option (Out Int PUnit Int):=
   l7 (U7 x 39)
    (l7 (H5 (seq w []))
     (l9 (iH x) λ(x_1:c6F)=>
      l7 (seq x_1 w) (some (Out.rt x)) (some (Out.nx (G5 IntKind.i64 x 1))))
     (some (Out.nx (G5 IntKind.i64 x 1))))
    (some (Out.ex PUnit.unit))
def b3e(l:List c6F)(j:Nat)(w:c6F):Prop:=l[j]? =some w/\∀x∈l.take j,x≠w
theorem a7t{α:Type}(l:List α)(p:α->Bool)(hl:l.length<=1000000){f:Int->Option (Out Int PUnit Int)}
  (h1:∀(i:Nat) (a:α),l[i]? =some a->f (i:Int)=some (l7 (p a) (.rt (i:Int)) (.nx ((i+1:Nat):Int)))) (h2:f (l.length:Int)=some (.ex PUnit.unit)):
  (∀j a,l[j]? =some a->p a=true->(∀x∈l.take j,p x=false)->V4 f 0=some (.inr (j:Int)))/\((∀x∈l,p x=false)->V4 f 0=some (.inl PUnit.unit)):=by
 have step:∀(j i k:Nat),i<=j->j<=l.length->(∀x∈l.take j,p x=false)->iZ f (k+(j -i)) (i:Int)=iZ f k (j:Int):=by
  intro j i k hij hj hp;induction h:j -i generalizing i k with
  |zero=>rw[show i=j by omega];rfl|succ n ih=>
   have hi:i<l.length:=o5;have hg:=lF hi;have:=h1 i _ hg;rw[hp l[i] (by rw[List.mem_take_iff_getElem];exact⟨i,o5,rfl⟩),o6]at this
   rw[show k+(n+1)=(k+n)+1 by omega,jG,this];exact ih (i+1) k o5 o5
 constructor
 .intro j a ha hpa hp;have hj:=(bg.1 ha).1;have:=step j 0 (dZ -j) o5 o5 hp;rw[show dZ -j+(j -0)=dZ by unfold dZ;omega]at this;unfold V4;rw[show(0:Int)=((0:Nat):Int)from rfl,this,show dZ -j=(dZ -j -1)+1 by unfold dZ;omega,jG,h1 j a ha,hpa];rfl
 .intro hp;have:=step l.length 0 (dZ -l.length) o5 o5 (λx hx=>hp x (yJ hx));rw[show dZ -l.length+(l.length -0)=dZ by unfold dZ;omega]at this;unfold V4;rw[show(0:Int)=((0:Nat):Int)from rfl,this,show dZ -l.length=(dZ -l.length -1)+1 by unfold dZ;omega,jG,h2]
theorem a4s{l:List c6F}(hl:l.length<=1000000)(w:c6F):(∀j,b3e l j w->cu l w=some (j:Int))/\((∀x∈l,x≠w)->cu l w=some (-1)):=by
 unfold cu;obtain⟨k1,k2⟩:=a7t l (λx=>seq w x) hl (f:=λ(x:Int)=>l7 (I5 x (A7 l)) (l9 (P5 l x) λ(x_1:c6F)=>l7 (seq w x_1) (some (Out.rt x)) (some (Out.nx (G5 IntKind.i64 x 1)))) (some (Out.ex PUnit.unit)))
  (λi a ha=>by have:=(bg.1 ha).1;simp only[aF ha,o7,V8,ha,o9];rw[dH o5];cases seq w a<;>rfl) (by rw[aS];rfl)
 constructor
 .intro j hj;refine Y5 (k1 j w hj.1 (jW.2 rfl) (λx hx=>Rj.2 (λe=>hj.2 x hx e.symm))) ?_;rfl
 .intro h;refine Y5 (k2 (λx hx=>Rj.2 (λe=>h x hx e.symm))) ?_;rfl
theorem c6f(m:Nat)(p:A8):(o8 (m+1)).1 p=mX (o8 m).1 (o8 m).2.1 (o8 m).2.2.1 (o8 m).2.2.2.1 (o8 m).2.2.2.2 p:=rfl
theorem c6g(m:Nat)(p:A8):(o8 (m+1)).2.2.1 p=qU (o8 m).1 (o8 m).2.1 (o8 m).2.2.1 (o8 m).2.2.2.1 (o8 m).2.2.2.2 p:=rfl
theorem c6d(m:Nat)(p:A8):(o8 (m+1)).2.2.2.1 p=rO (o8 m).1 (o8 m).2.1 (o8 m).2.2.1 (o8 m).2.2.2.1 (o8 m).2.2.2.2 p:=rfl
theorem c6e(m:Nat)(p:A8)(op:Int):(o8 (m+1)).2.2.2.2 p op=rP (o8 m).1 (o8 m).2.1 (o8 m).2.2.1 (o8 m).2.2.2.1 (o8 m).2.2.2.2 p op:=rfl
def biF(r207:A8->Int->Option (Bool×A8))(a1:Int)(x:A8×Int):Option (Out (A8×Int) PUnit (Bool×A8)):=
     l9 (az x.1 0) λ(x_1:dF×A8)=>
      l9 (ku x_1.1) λ(x_2:H6)=>
       l9
        (l7 (C9 x_2.1 0) (some (Sum.inr (true,x_1.2)))
         (l7 (I5 x_2.2 a1) (some (Sum.inr (true,x_1.2)))
          (l7 (I5 x.2 x_2.2) (some (Sum.inr (true,x_1.2))) (some (Sum.inl PUnit.unit)))))
        λ(o:PUnit⊕Bool×A8)=>
        Z8 o
         (λ(x:PUnit)=>
          l9 (r207 (x_1.2.1,G5 IntKind.i64 x_1.2.2.1 1,x_1.2.2.2) (G5 IntKind.i64 x_2.2 1))
           λ(x:Bool×A8)=>
           l7 (H5 x.1) (some (Out.rt (false,x.2)))
            (l9 (I4 x.2 x_2.1 0) λ(x:Bool×A8)=>
             l7 (C9 x_2.2 3) (some (Out.nx (x.2,N9 IntKind.i64 x_2.2 1)))
              (some (Out.nx (x.2,x_2.2)))))
         λ(r:Bool×A8)=>some (Out.rt r)
theorem b8j(m:Nat)(p:A8)(c:Int):(o8 (m+1)).2.1 p c=l9 ((o8 m).2.2.1 p) λ(x:Bool×A8)=>l7 (H5 x.1) (some (false,x.2)) (l9 (V4 (biF (o8 m).2.1 c) (x.2,5)) λ(o:PUnit⊕Bool×A8)=>Z8 o (λ(y:PUnit)=>none) λ(r:Bool×A8)=>some r):=rfl
theorem VI(h:∃k,qQ s N=some (e,k,0)):iq e N=some (s,0):=by
 obtain⟨k,h⟩:=h;unfold qQ at h;cases h1:xH s with
 |none=>rw[h1]at h;cases h|some x=>
  rw[h1,o9]at h;cases h2:H5 (C9 x.2.2 0)<;>rw[h2]at h
  case true=>rw[o7]at h;have:=congrArg (λo:Option (List H6×H6)=>(o.getD ([],(0,1))).2.2) h;simp only[Y3]at this;rw[U6 this]at h2;cases h2
  rw[o6]at h;obtain⟨p,_,h⟩:=Ce h
  try dsimp only at h
  cases h3:H5 (C9 p.2.2.2.2.2.2 0)<;>rw[h3]at h
  case true=>rw[o7]at h;have:=congrArg (λo:Option (List H6×H6)=>(o.getD ([],(0,1))).2.2) h;simp only[Y3]at this;rw[U6 this]at h3;cases h3
  rw[o6]at h;cases h4:sW p.2.2.2.2.1 with
  |none=>rw[h4]at h;cases h|some y=>
   rw[h4,o9]at h;cases h5:H5 (C9 y.2 0)<;>rw[h5]at h
   case true=>rw[o7]at h;have:=congrArg (λo:Option (List H6×H6)=>(o.getD ([],(0,1))).2.2) h;simp only[Y3]at this;rw[U6 this]at h5;cases h5
   rw[o6]at h;cases h6:iq p.2.2.2.2.1 N with
   |none=>rw[h6]at h;cases h|some z=>
    rw[h6,o9]at h;cases h7:H5 (C9 z.2 0)<;>rw[h7]at h
    case true=>exact absurd (show(2:Int)=0 from congrArg (λo:Option (List H6×H6)=>(o.getD ([],(0,1))).2.2) h) J8
    rw[o6]at h;cases h8:H5 (seq z.1 s)<;>rw[h8]at h
    case true=>exact absurd (show(2:Int)=0 from congrArg (λo:Option (List H6×H6)=>(o.getD ([],(0,1))).2.2) h) J8
    rw[o6]at h;have he:p.2.2.2.2.1=e:=congrArg (λo:Option (List H6×H6)=>(o.getD ([],(0,1))).1) h;rw[he]at h6;rw[h6];have hz1:z.1=s:=by
     cases hq:seq z.1 s<;>rw[hq]at h8
     .exact absurd h8 J8
     .exact jW.1 hq
    have hz2:z.2=0:=by
     cases hq:C9 z.2 0<;>rw[hq]at h7
     .exact absurd h7 J8
     .exact gp.1 hq
    rw[←hz1,←hz2]
theorem b7W{ρ:Type}{n:Nat}{p:Nat->Option ρ}(h:∀r,ja n p≠some r):∀i,i<n->p i=none:=by
 cases hf:ja n p with
 |some r=>exact absurd hf (h r)|none=>exact Pj hf
theorem b1B{k i:Int}{r:Int×Int}(h:UU k i r=none):r.1=0:=by
 unfold UU at h;cases he:C9 r.1 0<;>rw[he]at h
 .cases h
 .exact gp.1 he
theorem a5l(h:(rW l).1=0){j:Nat}{e:bK}(he:l.1[j]? =some e):mJ e.1=true/\(∀x∈l.1.take j,x.1≠e.1)/\e.2.length<=16/\∀(i:Nat) m,e.2[i]? =some m->mJ m=true/\∀x∈e.2.take i,x≠m:=by
 unfold rW at h;cases h1:C9 (Kv l).1 0<;>rw[h1]at h
 .simp only[o6]at h;rw[U6 h]at h1;cases h1
 have h1:=gp.1 h1;unfold Kv at h1;cases h2:I5 8 (A7 l.1)<;>rw[h2]at h1
 case true=>exact absurd (show(4:Int)=0 from h1) J8
 simp only[o6]at h1;have hn:=b7W (n:=l.1.length) (p:=UT l) (λr hf=>by
  rw[hf]at h1;obtain⟨j,_,hj⟩:=DU hf;unfold UT at hj;split at hj
  .exact a5I hj h1
  .cases hj) j (bg.1 he).1
 unfold UT at hn;rw[he]at hn;have hz:=b1B hn;unfold J_ at hz;cases g1:mJ e.1<;>rw[g1]at hz
 .exact absurd (show(2:Int)=0 from hz) J8
 cases g2:Tm l 1 j e.1<;>rw[g2]at hz
 case true=>exact absurd (show(7:Int)=0 from hz) J8
 cases g3:C9 (A7 e.2) 0<;>rw[g3]at hz
 case true=>exact absurd (show(5:Int)=0 from hz) J8
 cases g4:I5 16 (A7 e.2)<;>rw[g4]at hz
 case true=>exact absurd (show(4:Int)=0 from hz) J8
 simp only[o7,o6]at hz;have hmem:∀i<e.2.length,a0h e.2 i=none:=by
  intro i hi;cases hf:(List.range e.2.length).findSome? (a0h e.2)with
  |none=>exact ul.1 hf i (fH.2 hi)|some r=>
   exfalso;rw[hf]at hz;obtain⟨q,_,hq⟩:=List.exists_of_findSome?_eq_some hf;unfold a0h at hq;cases hv:e.2[q]? with
   |none=>rw[hv]at hq;cases hq|some x=>
    rw[hv]at hq;simp only at hq;cases k1:mJ x<;>rw[k1]at hq
    .cases hq;exact absurd (show(2:Int)=0 from hz) J8
    .cases k2:(e.2.take q).any λy=>seq x y<;>rw[k2]at hq
     .cases hq
     .cases hq;exact absurd (show(7:Int)=0 from hz) J8
 refine⟨rfl,λx hx e2=>?_,gq (n:=16) g4,λi m hm=>?_⟩
 .unfold Tm at g2;simp only[jS]at g2;exact g2 x hx (jW.2 e2)
 have hi:=(bg.1 hm).1;have hp:=hmem i hi;unfold a0h at hp;rw[hm]at hp;simp only at hp;cases k1:mJ m<;>rw[k1]at hp
 .cases hp
 cases k2:(e.2.take i).any λy=>seq m y<;>rw[k2]at hp
 .refine⟨rfl,λx hx e=>?_⟩;have:=jS.1 k2 x hx;exact this (jW.2 e.symm)
 .cases hp
theorem Za{α:Type}{l:List α}{a:α}(h:a∈l):∃j:Nat,l[j]? =some a:=by obtain⟨j,hj,e⟩:=gJ h;exact⟨j,by rw[lF hj,e]⟩
def xC:List c6F->c6F
 |[]=>[]|w::L=>w++10::xC L
theorem XO:∀A B:List c6F,xC (A++B)=xC A++xC B
 |[],B=>rfl|w::A,B=>by rw[U3];simp only[xC];rw[XO A B];simp
def spF(a0:c6F)(x:List c6F×Int×c6F×Int):Option (Out (List c6F×Int×c6F×Int) (List c6F×Int) (List c6F×Int)):=
     l7 (I5 x.2.2.2 (A7 x.2.2.1))
      (l7 (C9 (nG x.2.2.1 x.2.2.2) 10)
       (l9 (gy a0 x.2.1 x.2.2.2) λ(x_1:c6F)=>
        l9 (eG x.1 [x_1]) λ(x_2:List c6F)=>
         some (Out.nx (x_2,G5 IntKind.i64 x.2.2.2 1,x.2.2.1,xU x.2.2.1 x.2.2.2)))
       (l7 (C9 (nG x.2.2.1 x.2.2.2) 9) (some (Out.nx (x.1,x.2.1,x.2.2.1,xU x.2.2.1 x.2.2.2)))
        (l7 (U7 32 (nG x.2.2.1 x.2.2.2))
         (l7 (U7 (nG x.2.2.1 x.2.2.2) 126) (some (Out.nx (x.1,x.2.1,x.2.2.1,xU x.2.2.1 x.2.2.2)))
          (some (Out.rt ([],2))))
         (some (Out.rt ([],2))))))
      (some (Out.ex (x.1,x.2.1)))
theorem b8k(h:prB c=true):32<=c.toNat/\c.toNat<=126:=by unfold prB at h;simpa using h
theorem a5n(n:Int):eH (IntKind.wrap .i64 n):=by unfold eH IntKind.wrap;simp[IntKind.signed,IntKind.bits];omega
theorem YU(a b:Int):eH (G5 .i64 a b):=a5n _
theorem a4w(a b:Int):eH (N9 .i64 a b):=a5n _
theorem oI:eH 0:=by unfold eH;omega
def Asc(s:c6F):Prop:=∀c∈s,c.toNat<128
theorem z_(h:Asc s)(i:Nat):Asc (s.drop i):=λc hc=>h c (List.mem_of_mem_drop hc)
theorem a0V(hl:s.length<=1000000){i:Nat}(hi:i<=s.length):∃j:Nat,BX s (i:Int)=some (j:Int)/\i<=j/\j<=s.length:=by
 unfold BX;have:=jH (f:=λ(x:Int×Bool)=>
   l7 (I5 x.1 (A7 s))
    (l9 (sat s x.1) λ(x_1:Int)=>
     l7 x.2 (l7 (C9 x_1 10) (some (Out.rt x.1)) (some (Out.nx (G5 IntKind.i64 x.1 1,x.2))))
      (l7 (C9 x_1 35) (some (Out.nx (G5 IntKind.i64 x.1 1,true)))
       (l7 (H5 (C9 x_1 32))
        (l7 (H5 (C9 x_1 9)) (some (Out.rt x.1)) (some (Out.nx (G5 IntKind.i64 x.1 1,x.2))))
        (some (Out.nx (G5 IntKind.i64 x.1 1,x.2))))))
    (some (Out.ex x.1))) (s:=((i:Int),false)) (λx=>∃j:Nat,x.1=(j:Int)/\i<=j/\j<=s.length) (λe=>∃j:Nat,e=(j:Int)/\i<=j/\j<=s.length) (λe=>∃j:Nat,e=(j:Int)/\i<=j/\j<=s.length) (λx=>s.length -x.1.toNat) ⟨i,rfl,o5,hi⟩ E5 (by
  rintro⟨x,b⟩ ⟨j,hj,h1,h2⟩;simp only at hj;subst hj;by_cases hlt:j<s.length
  .have hc:=lF hlt;have nx:∀b' :Bool,∃s',(some (Out.nx (G5 IntKind.i64 (j:Int) 1,b')):Option (Out (Int×Bool) Int Int))=some (.nx s')/\(∃j' :Nat,s'.1=(j' :Int)/\i<=j' /\j' <=s.length)/\s.length -s'.1.toNat<s.length -((j:Int)).toNat:=
    λb' =>⟨_,rfl,⟨j+1,by simp only;rw[dH o5],o5,hlt⟩,by simp only;rw[dH o5,F7,F7];omega⟩
   simp only[aF hc,o7,wZ,hc,eX,o9];cases b
   .simp only[o6];cases C9 ((s[j].toNat:Nat):Int) 35
    .simp only[o6];cases C9 ((s[j].toNat:Nat):Int) 32
     .simp only[P9,o7];cases C9 ((s[j].toNat:Nat):Int) 9
      .exact .inr (.inr ⟨_,rfl,j,rfl,h1,h2⟩)
      .exact .inl (nx _)
     .exact .inl (nx _)
    .exact .inl (nx _)
   .simp only[o7];cases C9 ((s[j].toNat:Nat):Int) 10
    .exact .inl (nx _)
    .exact .inr (.inr ⟨_,rfl,j,rfl,h1,h2⟩)
  .rw[U1 (by unfold A7;simp only;omega)];exact .inr (.inl ⟨_,rfl,j,rfl,h1,h2⟩))
 rcases this with⟨e,h,j,rfl,h1,h2⟩|⟨e,h,j,rfl,h1,h2⟩
 .exact⟨j,by refine Y5 h ?_;rfl,h1,h2⟩
 .exact⟨j,by refine Y5 h ?_;rfl,h1,h2⟩
theorem a0n(s:c6F)(p:Nat):∃q:Nat,xU s (p:Int)=(q:Int)/\p<q:=by
 refine⟨p+(Utf8.decode ⟨s.toArray⟩ p).2,?_,?_⟩
 .unfold xU;rw[F7];omega
 .have:1<=(Utf8.decode ⟨s.toArray⟩ p).2:=by
   unfold Utf8.decode;simp only
   repeat' split
   all_goals simp
  omega
theorem NY(s p:c6F):jm s p=some (p.isPrefixOf s):=rfl
theorem F_(s p:c6F)(hl:s.length<=1000000):∃t b,xe s p=some (t,b)/\t.length<=s.length/\(b=true->s=p++t)/\(b=false->t=s):=by
 unfold xe uC yP Lib.hasPrefix;cases h:p.isPrefixOf s
 .exact⟨s,false,rfl,D7 _,(λh=>by cases h),λ_=>rfl⟩
 .obtain⟨t,ht⟩:=eF.1 h;refine⟨t,true,?_,by rw[←ht];simp,λ_=>ht.symm,λh=>by cases h⟩;rw[o9,H7,o6,pG (by unfold A7;omega) (by unfold A7;rw[←ht];simp;omega),o9,o9];congr 2;unfold A7;rw[F7,←ht,fG]
theorem a1U(s:c6F)(hl:s.length<=1000000):∃v b,uU s=some (v,b):=by
 unfold uU;have:=jH (f:=ddF) (s:=(0,s,0)) (λx=>∃p:Nat,x.2.1=s/\x.2.2=(p:Int)) (λ_=>True) (λ_=>True) (λx=>s.length -x.2.2.toNat) ⟨0,rfl,rfl⟩ E5 (by
  rintro⟨v,s',q⟩ ⟨p,h1,h2⟩;simp only at h1 h2;subst h1 h2;unfold ddF;by_cases hlt:p<s'.length
  .obtain⟨q,hq,hpq⟩:=a0n s' p;rw[aP (by unfold A7;simp only;omega),o7];simp only[hq];cases I5 (nG s' (p:Int)) 48
   .cases I5 57 (nG s' (p:Int))
    .exact .inl ⟨_,rfl,⟨q,rfl,rfl⟩,by simp only;rw[F7,F7];omega⟩
    .exact .inr (.inr ⟨_,rfl,trivial⟩)
   .exact .inr (.inr ⟨_,rfl,trivial⟩)
  .rw[U1 (by unfold A7;simp only;omega)];exact .inr (.inl ⟨_,rfl,trivial⟩))
 rcases this with⟨e,h,-⟩|⟨e,h,-⟩
 .exact⟨e,true,by refine Y5 h ?_;rfl⟩
 .exact⟨e.1,e.2,by refine Y5 h ?_;rfl⟩
theorem Q_(y m d:Int):∃v c,iL y m d=some (v,c)/\eH v:=by
 by_cases hy:1900<=y/\y<=2199
 .by_cases hm:1<=m/\m<=12
  .by_cases h1:1<=d
   .by_cases h2:d<=dim y m
    .refine⟨_,_,Ve hy hm h1 h2,?_⟩;have a:=b3S hy.1 o5;have b:=PD y (m -1).toNat o5;have c:=IM y m;show eH (ys y+yY y (m -1).toNat+d -1);unfold eH;omega
    .refine⟨0,3,?_,oI⟩;unfold iL;rw[U1 hy.1,o6,U1 hy.2,o6,U1 hm.1,o6,U1 hm.2,o6,U1 h1,o6,qm o5 hm,o9,aP o5];rfl
   .refine⟨0,3,?_,oI⟩;unfold iL;rw[U1 hy.1,o6,U1 hy.2,o6,U1 hm.1,o6,U1 hm.2,o6,aP o5];rfl
  .refine⟨0,3,?_,oI⟩;unfold iL;rw[U1 hy.1,o6,U1 hy.2,o6];by_cases h3:m<1
   .rw[aP h3];rfl
   .rw[U1 o5,o6,aP o5];rfl
 .refine⟨0,3,?_,oI⟩;unfold iL;by_cases h3:y<1900
  .rw[aP h3];rfl
  .rw[U1 o5,o6,aP o5];rfl
theorem GI(s:c6F)(hl:s.length<=1000000):∃v c,xn s=some (v,c)/\eH v:=by
 unfold xn;by_cases h10:A7 s=10
 .have hlen:s.length=10:=by unfold A7 at h10;omega
  have e4:sat s 4=some (s[4].toNat:Int):=by rw[show(4:Int)=((4:Nat):Int)from rfl,wZ,lF o5];rfl
  have e7:sat s 7=some (s[7].toNat:Int):=by rw[show(7:Int)=((7:Nat):Int)from rfl,wZ,lF o5];rfl
  rw[U6 h10,H7,o6,e4,o9];cases C9 ((s[4].toNat:Nat):Int) 45
  .exact⟨0,2,rfl,oI⟩
  rw[H7,o6,e7,o9];cases C9 ((s[7].toNat:Nat):Int) 45
  .exact⟨0,2,rfl,oI⟩
  rw[H7,o6,o9,V6,yA o5 o5,o9,Py o5 o5 o5,pG o5 o5];obtain⟨v1,b1,h1⟩:=a1U (s.take (4:Int).toNat) E5;obtain⟨v2,b2,h2⟩:=a1U ((s.take (7:Int).toNat).drop (5:Int).toNat) E5;obtain⟨v3,b3,h3⟩:=a1U (s.drop (8:Int).toNat) E5;rw[h1,o9,o9,h2,o9,o9,h3,o9];cases b1
  .exact⟨0,2,rfl,oI⟩
  cases b2
  .exact⟨0,2,rfl,oI⟩
  cases b3
  .exact⟨0,2,rfl,oI⟩
  obtain⟨v,c,h,hi⟩:=Q_ v1 v2 v3;exact⟨v,c,by simp only[H7,o6];rw[h];rfl,hi⟩
 .rw[J7 h10];exact⟨0,2,rfl,oI⟩
theorem a7N(t:c6F)(p:Int)(hl:t.length<=1000000):(∃v b,V4 (npF p) (0,false,t,0)=some (.inl (v,b))/\eH v)\/∃r,V4 (npF p) (0,false,t,0)=some (.inr r)/\r=(0,2):=by
 have:=jH (f:=npF p) (s:=(0,false,t,0)) (λx=>∃q:Nat,x.2.2.1=t/\x.2.2.2=(q:Int)/\eH x.1) (λe=>eH e.1) (λr=>r=(0,2)) (λx=>t.length -x.2.2.2.toNat) ⟨0,rfl,rfl,oI⟩ E5 (by
  rintro⟨v,b,s',q⟩ ⟨q',h1,h2,h3⟩;simp only at h1 h2 h3;subst h1 h2;unfold npF;by_cases hlt:q' <s'.length
  .obtain⟨nq,hq,hpq⟩:=a0n s' q';have nx:∀(v' :Int) (b' :Bool),eH v' ->∃s'',(some (Out.nx (v',b',s',(nq:Int))):Option (Out (Int×Bool×c6F×Int) (Int×Bool) (Int×Int)))=some (.nx s'')/\(∃q:Nat,s''.2.2.1=s' /\s''.2.2.2=(q:Int)/\eH s''.1)/\s'.length -s''.2.2.2.toNat<s'.length -((q' :Int)).toNat:=
    λv' b' hv=>⟨_,rfl,⟨nq,rfl,rfl,hv⟩,by simp only;rw[F7,F7];omega⟩
   rw[aP (by unfold A7;simp only;omega),o7];simp only[hq];cases C9 (q' :Int) p
   .simp only[o6];have hd:∃b,mV (nG s' (q' :Int))=some b:=by
     unfold mV;cases U7 48 (nG s' (q' :Int))<;>exact⟨_,rfl⟩
    obtain⟨b2,hd⟩:=hd;rw[hd,o9];cases b2
    .exact .inr (.inr ⟨_,rfl,rfl⟩)
    simp only[H7,o6];cases b
    .simp only[o6];cases I5 461168601842738790 v
     .exact .inl (nx _ _ (YU _ _))
     .exact .inl (nx _ _ h3)
    .exact .inl (nx _ _ h3)
   .simp only[o7];cases C9 (nG s' (q' :Int)) 46
    .exact .inr (.inr ⟨_,rfl,rfl⟩)
    .exact .inl (nx _ _ h3)
  .rw[U1 (by unfold A7;simp only;omega)];exact .inr (.inl ⟨_,rfl,h3⟩))
 rcases this with⟨e,h,hi⟩|⟨r,h,hi⟩
 .exact .inl ⟨e.1,e.2,h,hi⟩
 .exact .inr ⟨r,h,hi⟩
theorem EY(s:c6F)(k:Int)(hk:0<=k/\k<=10)(hl:s.length<=100000):∃v c,ou s k=some (v,c)/\eH v:=by
 obtain⟨t,b,h1,h2,-,-⟩:=F_ s [45] o5;unfold ou;rw[h1,o9];simp only;obtain⟨w,hw,hwb⟩:∃w:Int,(l7 (I5 0 k) (some (N9 IntKind.i64 (A7 t) (G5 IntKind.i64 k 1))) (some (A7 t)))=some w/\(w<=A7 t):=by
  cases hh:I5 0 k
  .exact⟨_,rfl,uF _⟩
  .have:=zo.1 hh;refine⟨_,rfl,?_⟩;rw[dN di,dO (by unfold eH A7;omega)];omega
 refine(show ∃v c,l9 (l7 (I5 0 k) (some (N9 IntKind.i64 (A7 t) (G5 IntKind.i64 k 1))) (some (A7 t))) _=some (v,c)/\eH v from ?_);rw[hw,o9];by_cases h3:w<1
 .rw[aP h3];exact⟨0,2,rfl,oI⟩
 rw[U1 o5,o6];have hin:(∃q,(l7 (I5 1 w) (l9 (sat t 0) λ(x:Int)=>l7 (C9 x 48) (some (Sum.inr (0,2))) (some (Sum.inl PUnit.unit))) (some (Sum.inl PUnit.unit)):Option (PUnit⊕(Int×Int)))=some q/\(q= .inl PUnit.unit\/q= .inr (0,2))):=by
  cases I5 1 w
  .exact⟨_,rfl,.inl rfl⟩
  .have htl:0<t.length:=by unfold A7 at hwb;omega
   have e0:sat t 0=some (t[0].toNat:Int):=by rw[show(0:Int)=((0:Nat):Int)from rfl,wZ,lF htl];rfl
   rw[o7,e0,o9];cases C9 ((t[0].toNat:Nat):Int) 48
   .exact⟨_,rfl,.inl rfl⟩
   .exact⟨_,rfl,.inr rfl⟩
 obtain⟨q,hq,hq2⟩:=hin;refine(show ∃v c,l9 (l7 (I5 1 w) (l9 (sat t 0) λ(x:Int)=>l7 (C9 x 48) (some (Sum.inr (0,2))) (some (Sum.inl PUnit.unit))) (some (Sum.inl PUnit.unit)):Option (PUnit⊕(Int×Int))) _=some (v,c)/\eH v from ?_);rw[hq,o9];rcases hq2 with rfl|rfl
 .rw[V6];have fin:∀v:Int,∀o:Bool,eH v->∃r c,(l7 o (some ((0:Int),(3:Int))) (l7 b (some (N9 IntKind.i64 0 v,0)) (some (v,0))))=some (r,c)/\eH r:=by
   intro v o hv;cases o
   .cases b
    .exact⟨_,_,rfl,hv⟩
    .exact⟨_,_,rfl,a4w _ _⟩
   .exact⟨_,_,rfl,oI⟩
  rcases a7N t w o5 with⟨v,o,hlp,hv⟩|⟨r,hlp,rfl⟩
  .refine(show ∃v c,l9 (V4 (npF w) (0,false,t,0)) _=some (v,c)/\eH v from ?_);rw[hlp,o9,V6];cases hb:b
   .rw[hb]at fin;exact fin v o hv
   .rw[hb]at fin;simp only[o7];cases C9 v 0
    .exact fin v o hv
    .cases o
     .exact⟨0,2,rfl,oI⟩
     .exact fin v true hv
  .refine(show ∃v c,l9 (V4 (npF w) (0,false,t,0)) _=some (v,c)/\eH v from ?_);rw[hlp];exact⟨0,2,rfl,oI⟩
 .exact⟨0,2,rfl,oI⟩
end Go.GP
