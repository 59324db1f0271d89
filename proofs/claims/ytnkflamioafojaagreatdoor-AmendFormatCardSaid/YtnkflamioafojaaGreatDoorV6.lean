import Derived.Test.YtnkflamioafojaaGreatDoorV5
import Derived.Test.YtnkflamioafojaaGreatDoorV2
import Derived.Test.YtnkflamioafojaaGreatDoorV3
import Derived.Lib.ItoaLen
set_option linter.all false
namespace Go.GP
variable {a:Int}{b:Int}{n:Int}
section
variable {α β σ ε ρ:Type}
@[simp] theorem o8 (x:α) (f:α->Option β):l9 (some x) f=f x:=rfl
@[simp] theorem b2k (f:α->Option β):l9 none f=none:=rfl
theorem UO{o:Option α}{x:α}(h:o=some x)(f:α->Option β):l9 o f=f x:=by rw[h];rfl
theorem U8{o o' :Option α}(h:o=o'){K:α->Option β}{r:Option β}(h2:l9 o' K=r):l9 o K=r:=by rw[h];exact h2
theorem bb(a b:Bool):l7 a (some b) (some false)=some (a&&b):=by cases a<;>rfl
theorem wE(o:Option α):l9 o (λx=>some x)=o:=by cases o<;>rfl
@[simp] theorem o7 (x y:α):l7 true x y=x:=rfl
@[simp] theorem o6 (x y:α):l7 false x y=y:=rfl
theorem pU(b:Bool)(x y:α):l7 b x y=if b=true then x else y:=by cases b<;>rfl
theorem kV{b:Bool}(h:b=true)(x y:α):l7 b x y=x:=by rw[h];rfl
theorem lN{b:Bool}(h:b=false)(x y:α):l7 b x y=y:=by rw[h];rfl
@[simp] theorem X0 (s:σ) (f:σ->α) (g:ε->α):U3 (.inl s) f g=f s:=rfl
@[simp] theorem mX (s:ε) (f:σ->α) (g:ε->α):U3 (.inr s) f g=g s:=rfl
@[simp] theorem J7:D9 true=false:=rfl
@[simp] theorem af:D9 false=true:=rfl
theorem dP(h:a<b):G5 a b=true:=by simp[G5,h]
theorem bU(h:b<=a):G5 a b=false:=by simp[G5];omega
theorem bP(h:a<=b):O7 a b=true:=by simp[O7,h]
theorem dE(h:b<a):O7 a b=false:=by simp[O7];omega
theorem bF(h:a=b):x8 a b=true:=by simp[x8,h]
theorem O9(h:a≠b):x8 a b=false:=by simp[x8,h]
theorem Bo :G5 a b=true↔a<b:=by simp[G5]
theorem yu :O7 a b=true↔a<=b:=by simp[O7]
theorem kX :x8 a b=true↔a=b:=by simp[x8]
theorem ql :G5 a b=false↔b<=a:=by simp[G5]
theorem MX :O7 a b=false↔b<a:=by simp[O7]
theorem CQ :x8 a b=false↔a≠b:=by simp[x8]
theorem OY{a b:List UInt8} :seq a b=true↔a=b:=by simp[seq]
theorem mY(h:0<=a):a.tdiv b=a / b:=Int.tdiv_eq_ediv_of_nonneg h
theorem CU(h:0<=a):fU a b=a % b:=Int.tmod_eq_emod_of_nonneg h
def I64(n:Int):Prop:=-9223372036854775808<=n/\n<=9223372036854775807
theorem jb{p:Int}(h:I64 p:=by unfold I64;omega):I64 p:=h
def U64(n:Int):Prop:=0<=n/\n<=18446744073709551615
theorem DJ(h:I64 n):IntKind.wrap .i64 n=n:=by unfold I64 at h;unfold IntKind.wrap;simp[IntKind.signed,IntKind.bits];omega
theorem Pn(h:U64 n):IntKind.wrap .u64 n=n:=by unfold U64 at h;unfold IntKind.wrap;simp[IntKind.signed,IntKind.bits];omega
theorem kC(h:I64 (a+b)):D8 .i64 a b=a+b:=DJ h
theorem iU(h:I64 (a -b)):L6 .i64 a b=a -b:=DJ h
theorem a5D(h:I64 (a*b)):lK .i64 a b=a*b:=DJ h
theorem Oa(h:I64 (a.tdiv b)):aY .i64 a b=a.tdiv b:=DJ h
theorem ZG(h:U64 (a+b)):D8 .u64 a b=a+b:=Pn h
theorem a5F(h:U64 (a.tdiv b)):aY .u64 a b=a.tdiv b:=Pn h
theorem AP(h:(Lit.int .i64 n).wf=true):I64 n:=by simp[Lit.wf,IntKind.min,IntKind.max,IntKind.signed,IntKind.bits]at h;unfold I64;omega
theorem Ri(l:List α):0<=o9 l:=by simp[o9]
theorem L9(l:List α)(i:Nat):J4 l (i:Int)=l[i]?:=by simp[J4]
theorem xK{l:List α}{i:Int}{x:α}(h:J4 l i=some x):0<=i/\i<o9 l/\x∈l/\l[i.toNat]? =some x:=by
 unfold J4 at h;split at h
 .rename_i h0;obtain⟨h1,h2⟩:=aK.1 h;refine⟨h0,by simp[o9];omega,?_,h⟩;rw[←h2];exact O0 h1
 .cases h
theorem tC{l:List α}{i:Int}(h0:0<=i)(h:i<o9 l):∃x,J4 l i=some x/\x∈l:=by
 unfold o9 at h;refine⟨l[i.toNat]'o5,?_,O0 _⟩;unfold J4
 rw[if_pos h0,kN]
theorem Le(l:List UInt8)(i:Nat):sat l (i:Int)=(l[i]?).map λc=>(c.toNat:Int):=by simp[sat]
theorem F8{a b:List UInt8}(h:a.length+b.length<=4611686018427387904):J8 a b=some (a++b):=by simp[J8,h]
theorem KR{a b:List α}(h:a.length+b.length<=1073741824):aT a b=some (a++b):=by simp[aT,h]
theorem a3c{l:List α}{lo hi:Int}(h0:0<=lo)(h1:lo<=hi)(h2:hi<=l.length):iQ l lo hi=some ((l.take hi.toNat).drop lo.toNat):=by simp[iQ,h0,h1,h2]
theorem a3d{l:List α}{hi:Int}(h1:0<=hi)(h2:hi<=l.length):iQ l 0 hi=some (l.take hi.toNat):=by rw[a3c o5 h1 h2];simp
theorem PZ{l:List α}{lo:Int}(h1:0<=lo)(h2:lo<=l.length):iQ l lo (o9 l)=some (l.drop lo.toNat):=by rw[a3c h1 (by simp[o9];omega) (by simp[o9])];simp[o9]
end
section
variable {σ ε ρ:Type}
theorem Rj{f:σ->Option (σ⊕ε)}(Inv:σ->Prop)(Q:ε->Prop)(meas:σ->Nat)
  (h:∀s,Inv s->(∃s',f s=some (.inl s')/\Inv s' /\meas s' <meas s)\/(∃e,f s=some (.inr e)/\Q e)):
  ∀n s,Inv s->meas s<n->∃e,yG f n s=some e/\Q e
 |0,_,_,h=>by omega|n+1,s,hi,hm=>by
  unfold yG;rcases h s hi with⟨s',e,hi',hm'⟩|⟨x,e,hx⟩
  .rw[e];exact Rj Inv Q meas h n s' hi' o5
  .rw[e];exact⟨x,rfl,hx⟩
theorem rM{f:σ->Option (σ⊕ε)}{s:σ}(Inv:σ->Prop)(Q:ε->Prop)(meas:σ->Nat)(hi:Inv s)(hm:meas s<18446744073709551616)
  (h:∀s,Inv s->(∃s',f s=some (.inl s')/\Inv s' /\meas s' <meas s)\/(∃e,f s=some (.inr e)/\Q e)):∃e,aO f s=some e/\Q e:=
 Rj Inv Q meas h _ s hi hm
theorem UC{f:σ->Option (Out σ ε ρ)}(Inv:σ->Prop)(Q:ε->Prop)(Qr:ρ->Prop)(meas:σ->Nat)
  (h:∀s,Inv s->(∃s',f s=some (.nx s')/\Inv s' /\meas s' <meas s)\/(∃e,f s=some (.ex e)/\Q e)\/(∃r,f s=some (.rt r)/\Qr r)):
  ∀n s,Inv s->meas s<n->(∃e,jO f n s=some (.inl e)/\Q e)\/(∃r,jO f n s=some (.inr r)/\Qr r)
 |0,_,_,h=>by omega|n+1,s,hi,hm=>by
  unfold jO;rcases h s hi with⟨s',e,hi',hm'⟩|⟨x,e,hx⟩|⟨x,e,hx⟩
  .rw[e];exact UC Inv Q Qr meas h n s' hi' o5
  .rw[e];exact .inl ⟨x,rfl,hx⟩
  .rw[e];exact .inr ⟨x,rfl,hx⟩
theorem xn{f:σ->Option (Out σ ε ρ)}{s:σ}(Inv:σ->Prop)(Q:ε->Prop)(Qr:ρ->Prop)(meas:σ->Nat)(hi:Inv s)(hm:meas s<18446744073709551616)
  (h:∀s,Inv s->(∃s',f s=some (.nx s')/\Inv s' /\meas s' <meas s)\/(∃e,f s=some (.ex e)/\Q e)\/(∃r,f s=some (.rt r)/\Qr r)):
  (∃e,O6 f s=some (.inl e)/\Q e)\/(∃r,O6 f s=some (.inr r)/\Qr r):=
 UC Inv Q Qr meas h _ s hi hm
end
section
variable {α β ε ρ:Type}
open Classical in
theorem xN(l:List α)(p:Nat->α->Bool)(r:ρ)(e:ε)(f:Int->Option (Out Int ε ρ))(hl:l.length<18446744073709551616)
  (hin:∀(i:Nat) (a:α),l[i]? =some a->f (i:Int)=if p i a=true then some (.nx ((i+1:Nat):Int))else some (.rt r))
  (hend:f (l.length:Int)=some (.ex e)):
  O6 f 0=if(∀i a,l[i]? =some a->p i a=true)then some (.inl e)else some (.inr r):=by
 have key:∀(n i:Nat),i<=l.length->l.length -i<n->(∀j a,j<i->l[j]? =some a->p j a=true)->jO f n (i:Int)=if(∀i a,l[i]? =some a->p i a=true)then some (.inl e)else some (.inr r):=by
  intro n;induction n with
  |zero=>intro i _ h;omega|succ n ih=>
   intro i hi hn hp;unfold jO;by_cases h:i<l.length
   .have e' :=kN h;rw[hin i _ e'];by_cases hpi:p i l[i]=true
    .rw[if_pos hpi];exact ih (i+1) o5 o5 λj a hj ha=>by
      by_cases hji:j=i
      .subst hji;rw[e']at ha;cases ha;exact hpi
      .exact hp j a o5 ha
    .rw[if_neg hpi,if_neg];intro hall;exact hpi (hall i _ e')
   .have:i=l.length:=o5;subst this;rw[hend,if_pos];intro j a ha;exact hp j a (aK.1 ha).1 ha
 exact key _ 0 (dC _) hl λj a hj=>by omega
end
end Go.GP
namespace Go.GP
section
variable {α β α' β' σ τ ε ε' ρ ρ' :Type}
theorem Es{p:Nat->Option ρ}(n:Nat)(hn:n<18446744073709551616)(e:ε){f:Int->Option (Out Int ε ρ)}
  (h1:∀i,i<n->f (i:Int)=some (match p i with|some r=> .rt r|none=> .nx ((i+1:Nat):Int))) (h2:f (n:Int)=some (.ex e)):
  O6 f 0=some (match(List.range n).findSome? p with|some r=> .inr r|none=> .inl e):=by
 have key:∀m i,i+m=n->∀k,m<k->jO f k (i:Int)=some (match(List.range' i m).findSome? p with|some r=> .inr r|none=> .inl e):=by
  intro m;induction m with
  |zero=>intro i hi k hk;obtain⟨k,rfl⟩:∃k',k=k' +1:=⟨k -1,o5⟩;have:i=n:=o5;subst this;unfold jO;rw[h2];rfl
  |succ m ih=>
   intro i hi k hk;obtain⟨k,rfl⟩:∃k',k=k' +1:=⟨k -1,o5⟩;unfold jO;rw[h1 i o5,kF,List.findSome?_cons];cases hp:p i with
   |some r=>rfl|none=>exact ih (i+1) o5 k o5
 have:=key n 0 o5 jg hn;rw[List.range_eq_range'];exact this
end
end Go.GP
namespace Go.GP
open Gt
set_option maxRecDepth 100000
variable {i:Nat}
theorem eY(h:i<=9000000000000000000):D8 .i64 (i:Int) 1=((i+1:Nat):Int):=by rw[kC jb];omega
def PY(c:UInt8):Bool:=decide (97<=c.toNat)&&decide (c.toNat<=122)
def zg(c:UInt8):Bool:=PY c || (decide (48<=c.toNat)&&decide (c.toNat<=57)) || decide (c.toNat=95)
def IX:List (List UInt8):=qQ.getD []
theorem b0v:qQ=some IX:=by kernel_rfl
def oV(s:List UInt8):Bool:=match s with|[]=>false|c::r=>decide (s.length<=16)&&PY c&&s.all zg&&!(IX.any λw=>seq s w)
theorem PV(c:UInt8)(r:List UInt8):oV (c::r)=(decide ((c::r).length<=16)&&PY c&&(c::r).all zg&&!(IX.any λw=>seq (c::r) w)):=rfl
theorem UD(c:UInt8):nT (c.toNat:Int)=some (PY c):=by
 unfold nT PY;cases h:decide (97<=c.toNat)<;>simp only[decide_eq_true_eq,decide_eq_false_iff_not]at h
 .rw[dE o5];rfl
 .rw[bP o5];simp only[o7,iw,O7];congr 1;by_cases h2:c.toNat<=122<;>simp[h2]<;>omega
theorem Xx(c:UInt8):Ew (c.toNat:Int)=some (PY c):=UD c
def Zu(c:UInt8):Bool:=decide (48<=c.toNat)&&decide (c.toNat<=57)
theorem Zv(c:UInt8):lh (c.toNat:Int)=some (Zu c):=by
 unfold lh Zu;cases h:decide (48<=c.toNat)<;>simp only[decide_eq_true_eq,decide_eq_false_iff_not]at h
 .rw[dE o5];rfl
 .rw[bP o5];simp only[o7,iw,O7];congr 1;by_cases h2:c.toNat<=57<;>simp[h2]<;>omega
theorem a4J(c:UInt8):JK (c.toNat:Int)=some (Zu c):=Zv c
theorem b1u(c:UInt8):x8 (c.toNat:Int) 95=decide (c.toNat=95):=by unfold x8;by_cases h:c.toNat=95<;>simp[h]<;>omega
theorem b1j(c:UInt8):Hw (c.toNat:Int)=some (zg c):=by unfold Hw;rw[Xx,o8,a4J,b1u];unfold zg;change _=some (PY c || Zu c || decide (c.toNat=95));cases PY c<;>cases Zu c<;>rfl
variable {s:List UInt8}
theorem Wj(h:s.length<=4611686018427387904):∃k,qN s=some k/\(k=o9 s↔s.all zg=true):=by
 unfold qN;have:=rM (f:=λ(x:Int)=>l7 (G5 x (o9 s)) (l9 (sat s x) λx_1=>l9 (nT x_1) λx_2=>l7 x_2 (some (Sum.inl (D8 IntKind.i64 x 1)))
   (l9 (sat s x) λx_3=>l9 (lh x_3) λx_4=>l7 x_4 (some (Sum.inl (D8 IntKind.i64 x 1))) (l9 (sat s x) λx_5=>l7 (x8 x_5 95) (some (Sum.inl (D8 IntKind.i64 x 1))) (some (Sum.inr x))))) (some (Sum.inr x)))
  (s:=0) (λx=>∃i:Nat,x=i/\i<=s.length/\(s.take i).all zg=true) (λk=>k=o9 s↔s.all zg=true) (λx=>s.length -x.toNat) ⟨0,rfl,o5,rfl⟩ F5 ?_
 .obtain⟨k,h1,h2⟩:=this;refine⟨k,?_,h2⟩;rw[wE];exact h1
 .rintro x ⟨i,rfl,hi,hall⟩;by_cases hl:i<s.length
  .have e:=kN hl;simp only[dP (show(i:Int)<o9 s by simp[o9];omega),o7,Le,e,aV,o8,UD,Zv,b1u];have hst:(s.take (i+1)).all zg=((s.take i).all zg&&zg s[i]):=by rw[X5 hl,List.all_append];simp
   have hw:zg s[i]=(PY s[i] || Zu s[i] || decide (s[i].toNat=95)):=rfl;cases hwb:zg s[i]with
   |true=>left;refine⟨((i+1:Nat):Int),?_,⟨i+1,rfl,hl,by rw[hst,hall,hwb];rfl⟩,by simp;omega⟩;rw[eY o5];rw[hw]at hwb;cases h1:PY s[i]<;>cases h2:Zu s[i]<;>cases h3:decide (s[i].toNat=95)<;>rw[h1,h2,h3]at hwb<;>first|rfl|cases hwb
   |false=>
    right;refine⟨(i:Int),?_,?_⟩
    .rw[hw]at hwb;cases h1:PY s[i]<;>cases h2:Zu s[i]<;>cases h3:decide (s[i].toNat=95)<;>rw[h1,h2,h3]at hwb<;>first|rfl|cases hwb
    .constructor
     .intro h;simp[o9]at h;omega
     .intro h;have:=jh.1 h s[i] (O0 hl);rw[hwb]at this;cases this
  .right;have:i=s.length:=o5;subst this;rw[bu]at hall;exact⟨_,by rw[bU (by simp[o9])];rfl,by simp[o9,hall]⟩
theorem a4N{a:List UInt8}{w:List UInt8}{r:Option Bool}{x:Bool}(h:r=some x):l7 (seq a w) (some (seq a w)) r=some (seq a w || x):=by rw[h];cases seq a w<;>rfl
theorem z_(s:List UInt8):yD s=some (IX.any λw=>seq s w):=by
 unfold yD;refine U8 (o' :=some (IX.any λw=>seq s w)) ?_ (by cases IX.any λw=>seq s w<;>rfl);have hr:IX=(qQ).getD []:=rfl;rw[show(IX.any λw=>seq s w)=List.foldr (λw b=>seq s w || b) false IX from by induction IX with|nil=>rfl|cons w l ih=>simp[rJ,ih]];unfold IX qQ;simp only[dM,List.foldr]
 repeat (refine a4N ?_)
 simp
theorem kH(h:s.length<=4611686018427387904):W9 s=some (oV s):=by
 unfold W9;cases s with
 |nil=>rfl|cons c r=>
  have h1:seq (c::r) []=false:=by simp[seq]
  obtain⟨k,h2,h3⟩:=Wj h;rw[h1];simp only[af,o7];rw[show sat (c::r) 0=some (c.toNat:Int)from rfl,o8,UD,o8,h2,o8,z_,o8];have h4:x8 k (o9 (c::r))=(c::r).all zg:=by rw[jA,kX];exact h3
  have h5:O7 (o9 (c::r)) 16=decide ((c::r).length<=16):=by simp only[O7,o9];congr 1;simp;omega
  rw[h4,h5,PV];cases PY c<;>cases (c::r).all zg<;>cases decide ((c::r).length<=16)<;>rfl
theorem su(h:s.length<=1000000):W9 s=some (oV s):=kH o5
theorem jS(h:s.length<=4611686018427387904):Y8 s=some (oV s):=by
 unfold Y8;cases s with
 |nil=>rfl|cons c r=>
  have h0:x8 (o9 (c::r)) 0=false:=O9 (by simp[o9];omega);have h5:G5 16 (o9 (c::r))= !decide ((c::r).length<=16):=by simp only[G5,o9];rw[←decide_not];congr 1;simp;omega
  rw[h0,h5,show sat (c::r) 0=some (c.toNat:Int)from rfl,o8,Xx,o8,PV];generalize hs:c::r=s at*;cases hl:decide (s.length<=16)
  .rfl
  cases hc:PY c
  .rfl
  simp only[jo,o6,J7,o8,X0,iw];refine U8 (xN s (λi a=>zg a) false PUnit.unit _ o5 (λi x hx=>?_) ?_) ?_
  rotate_left 2
  .have ha:(∀(i:Nat) (a:UInt8),s[i]? =some a->zg a=true)↔s.all zg=true:=by
    rw[jh];constructor
    .intro h x hx;obtain⟨i,hi,rfl⟩:=bJ hx;exact h i _ (kN hi)
    .intro h i a hi;exact h a (rH hi)
   by_cases hw:s.all zg=true
   .rw[if_pos (ha.2 hw),o8,X0,b0v,o8,hw];refine U8 (xN IX (λi a=> !seq a s) false PUnit.unit _ (by decide+kernel) (λi x hx=>?_) ?_) ?_
    rotate_left 2
    .have hb:(∀(i:Nat) (a:List UInt8),IX[i]? =some a->(!seq a s)=true)↔(IX.any λw=>seq s w)=false:=by
      rw[iP];constructor
      .intro h x hx;obtain⟨i,hi,rfl⟩:=bJ hx;have:=h i _ (kN hi);intro hq;rw[OY.1 hq]at this;simp[seq]at this
      .intro h i a hi;have:=h a (rH hi);cases hq:seq a s
       .rfl
       .exact absurd (by rw[OY.1 hq];simp[seq]) this
     by_cases hv:(IX.any λw=>seq s w)=false
     .rw[if_pos (hb.2 hv),hv];rfl
     .rw[if_neg (λh=>hv (hb.1 h))];simp only[nH]at hv;rw[hv];rfl
    .have hi:=(aK.1 hx).1;simp only[dP (show(i:Int)<o9 IX by simp[o9];omega),o7,L9,hx,o8];rw[show Y5 IX (X4 (i:Int))=some x from by simp[Y5,X4,hx],o8,eY (by
       have:IX.length<=100:=by decide+kernel
       omega)]
     cases seq x s<;>rfl
    .rw[bU (by simp[o9])];rfl
   .rw[if_neg (λh=>hw (ha.1 h))];simp only[oQ]at hw;rw[hw];rfl
  .have hi:=(aK.1 hx).1;simp only[dP (show(i:Int)<o9 s by simp[o9];omega),o7,Le,hx,aV,o8,b1j];rw[eY o5];cases zg x<;>rfl
  .rw[bU (by simp[o9])];rfl
theorem nX(h:s.length<=1000000):Y8 s=some (oV s):=jS o5
theorem rY(t:Int×Int)(en:List dh):aX t en=Y3 t en:=by
 unfold aX Y3;by_cases h1:t.1=1
 .simp[x8,h1,O7]
 by_cases h2:t.1=2
 .simp[x8,h2,O7]
 by_cases h3:t.1=3
 .simp[x8,h3,O7]
 by_cases h4:t.1=4
 .simp[x8,h4,O7]
 by_cases h5:t.1=5
 .simp[x8,h5,O7]
 by_cases h6:t.1=6
 .simp[x8,h6,O7]
 .simp only[x8,h1,h2,h3,h4,h5,h6,decide_false,o6,o8];by_cases h7:1<=t.1
  .rw[kV (bP h7),lN (dE o5)]
  .rw[lN (dE o5)]
theorem KN(t:Int×Int)(en:List dh):gU t en=dO t en:=by unfold gU dO;rw[rY]
def vty(t:Int×Int)(en:List dh):Bool:=l7 (x8 t.1 6) (l7 (O7 0 t.2) (G5 t.2 (o9 en)) false) (l7 (O7 1 t.1) (l7 (O7 t.1 5) (x8 t.2 0) false) false)
theorem iL(t:Int×Int)(en:List dh):Y3 t en=some (vty t en):=by unfold Y3 vty;cases x8 t.1 6<;>cases O7 0 t.2<;>cases O7 1 t.1<;>cases O7 t.1 5<;>rfl
theorem vS(t:Int×Int)(en:List dh):aX t en=some (vty t en):=(rY t en).trans (iL t en)
theorem Yv(t:Int×Int)(en:List dh):∃b:Int×Int,dO t en=some b:=by
 unfold dO;rw[iL,o8];cases hv:vty t en
 .exact⟨_,rfl⟩
 simp only[J7,o6];cases h1:x8 t.1 1<;>simp only[o7,o6]
 .cases h2:x8 t.1 2<;>simp only[o7,o6]
  .cases h3:x8 t.1 3<;>simp only[o7,o6]
   .cases h4:x8 t.1 4<;>simp only[o7,o6]
    .cases h5:x8 t.1 5<;>simp only[o7,o6]
     .have h6:x8 t.1 6=true/\O7 0 t.2=true/\G5 t.2 (o9 en)=true:=by
       unfold vty at hv;rw[CQ]at h1 h2 h3 h4 h5;cases h6:x8 t.1 6<;>rw[h6]at hv
       .rw[CQ]at h6;cases h7:O7 1 t.1<;>rw[h7]at hv
        .cases hv
        cases h8:O7 t.1 5<;>rw[h8]at hv
        .cases hv
        rw[yu]at h7 h8;omega
       .cases h7:O7 0 t.2<;>rw[h7]at hv
        .cases hv
        .exact⟨rfl,rfl,hv⟩
      obtain⟨x,hx,_⟩:=tC (yu.1 h6.2.1) (Bo.1 h6.2.2);rw[hx];exact⟨_,rfl⟩
     .exact⟨_,rfl⟩
    .exact⟨_,rfl⟩
   .exact⟨_,rfl⟩
  .exact⟨_,rfl⟩
 .exact⟨_,rfl⟩
def bnd(t:Int×Int)(en:List dh):Int×Int:=(dO t en).getD (0,0)
theorem Hr(t:Int×Int)(en:List dh):dO t en=some (bnd t en):=by obtain⟨b,h⟩:=Yv t en;unfold bnd;rw[h];rfl
theorem Pz(t:Int×Int)(en:List dh):gU t en=some (bnd t en):=(KN t en).trans (Hr t en)
def inB(n:Int)(b:Int×Int):Bool:=l7 (O7 b.1 n) (O7 n b.2) false
theorem a1m(n:Int)(t:Int×Int)(en:List dh):yL n t en=some (inB n (bnd t en)):=by unfold yL inB;rw[Hr,o8];cases O7 (bnd t en).1 n<;>rfl
def GG(r:Int×Int):Bool:=l7 (O7 0 r.1) (l7 (O7 r.1 r.2) (O7 r.2 109573) false) false
theorem KP(r:Int×Int):pF r=some (GG r):=by unfold pF GG;cases O7 0 r.1<;>cases O7 r.1 r.2<;>rfl
theorem Ht(r:Int×Int):xU r=some (GG r):=KP r
def Uf(a b:Int×Int):(Int×Int)×Bool:=l7 (GG a) (l7 (GG b) (l7 (O7 (xk a.2 b.2) (rF a.1 b.1)) ((0,0),false) ((rF a.1 b.1,xk a.2 b.2),true)) ((0,0),false)) ((0,0),false)
theorem a7j(a b:Int×Int):wQ a b=some (Uf a b):=by unfold wQ Uf;rw[Ht,o8,Ht,o8];cases GG a<;>cases GG b<;>cases O7 (xk a.2 b.2) (rF a.1 b.1)<;>rfl
theorem b0V(a b:Int×Int):qA a b=some (Uf a b):=by
 unfold qA tN Uf;rw[KP,o8,KP,o8];cases GG a
 .rfl
 simp only[o7];cases h1:G5 a.1 a.2
 .rw[ql]at h1;rw[bP (show xk a.2 b.2<=rF a.1 b.1 by unfold xk rF;omega)];cases GG b<;>rfl
 simp only[o8,J7,o6];cases GG b
 .rfl
 simp only[o7];cases h2:G5 b.1 b.2
 .rw[ql]at h2;rw[bP (show xk a.2 b.2<=rF a.1 b.1 by unfold xk rF;omega)];rfl
 .cases O7 (xk a.2 b.2) (rF a.1 b.1)<;>rfl
def wu(a b:BZ):Bool:=l7 (Uf a.1 b.1).2 (G5 (rF a.2.1 b.2.1) (xk a.2.2.1 b.2.2.1)) false
theorem Zq(a b:BZ):yX a b=some (wu a b):=by unfold yX wu;rw[b0V,o8];cases (Uf a.1 b.1).2<;>rfl
theorem Yw(a b:BZ):yN a b=some (wu a b):=by unfold yN wu;rw[a7j,o8];cases (Uf a.1 b.1).2<;>rfl
theorem a5A{l:List BZ}(r:BZ)(h:l.length<=1000000):∃k:Int,qC l r=some (k,l.any λy=>wu y r):=by
 unfold qC;have key:=xn (f:=λ(x:Int)=>l7 (G5 x (o9 l)) (l9 (J4 l x) λx_1=>l9 (qZ x_1 r) λx_2=>l7 x_2 (some (Out.rt (x,true))) (some (Out.nx (D8 IntKind.i64 x 1)))) (some (Out.ex PUnit.unit)))
   (s:=0) (λx=>∃i:Nat,x=i/\i<=l.length/\(l.take i).any (λy=>wu y r)=false) (λ_=>(l.any λy=>wu y r)=false) (λk=>k.2=true/\(l.any λy=>wu y r)=true) (λx=>l.length -x.toNat) ⟨0,rfl,o5,rfl⟩ F5 ?_
 .rcases key with⟨e,h1,h2⟩|⟨k,h1,h2,h3⟩
  .exact⟨0,by rw[h1,h2];rfl⟩
  .refine⟨k.1,?_⟩;rw[h1,h3,←h2];rfl
 .rintro x ⟨i,rfl,hi,hall⟩;by_cases hl:i<l.length
  .have e:=kN hl;have hst:(l.take (i+1)).any (λy=>wu y r)=((l.take i).any (λy=>wu y r) || wu l[i] r):=by rw[X5 hl,uz];simp
   have hv:qZ l[i] r=some (wu l[i] r):=by unfold qZ;rw[Zq];rfl
   simp only[dP (show(i:Int)<o9 l by simp[o9];omega),o7,L9,e,o8,hv];cases hc:wu l[i] r with
   |true=>exact .inr (.inr ⟨_,rfl,rfl,oU.2 ⟨l[i],O0 hl,hc⟩⟩)|false=>exact .inl ⟨((i+1:Nat):Int),by rw[eY o5];rfl,⟨i+1,rfl,hl,by rw[hst,hall,hc];rfl⟩,by simp;omega⟩
  .have:i=l.length:=o5;subst this;rw[bu]at hall;exact .inr (.inl ⟨_,by rw[bU (by simp[o9])];rfl,hall⟩)
def QL(x:BZ)(bl br:Int×Int):Bool:=
 l7 (GG x.1) (l7 (x8 x.1.1 x.1.2) true (l7 (O7 x.2.2.1 x.2.1) true (l7 (inB x.2.1 bl) (l7 (inB (L6 .i64 x.2.2.1 1) bl) (D9 (inB x.2.2.2 br)) true) true))) true
theorem a4P(x:BZ)(t:dw)(en:List dh):Ez x t en=some (QL x (bnd t.2.1 en) (bnd t.2.2.1 en)):=by
 unfold Ez QL;rw[Ht,o8,a1m,a1m,a1m];cases GG x.1
 .rfl
 cases x8 x.1.1 x.1.2
 case true=>rfl
 cases O7 x.2.2.1 x.2.1
 case true=>rfl
 simp only[J7,o6,o8,X0,o7];cases inB x.2.1 (bnd t.2.1 en)
 .rfl
 cases inB (L6 .i64 x.2.2.1 1) (bnd t.2.1 en)
 .rfl
 rfl
def Wv(t:dw)(en:List dh)(i:Nat):Option (Int×Int):=match t.2.2.2[i]? with
 |some x=>l7 (QL x (bnd t.2.1 en) (bnd t.2.2.1 en)) (some ((i:Int),3)) (l7 ((t.2.2.2.take i).any λy=>wu y x) (some ((i:Int),11)) none)|none=>none
def LC(t:dw)(en:List dh):Int×Int:=
 l7 (G5 64 (o9 t.2.2.2)) (64,4) (l7 (vty t.2.1 en) (l7 (vty t.2.2.1 en) (match(List.range t.2.2.2.length).findSome? (Wv t en)with|some r=>r|none=>(0,0)) (-1,8)) (-1,8))
theorem Bq(a b:Int):G5 a b= !O7 b a:=by simp only[G5,O7];rw[←decide_not];congr 1;simp
theorem a4O(t:dw)(en:List dh):yM t en=some (LC t en):=by
 unfold yM LC;rw[iL,o8,iL,o8];cases h64:G5 64 (o9 t.2.2.2)
 case true=>rfl
 simp only[o6];cases vty t.2.1 en
 .rfl
 cases vty t.2.2.1 en
 .rfl
 simp only[J7,o6,o8,X0,o7];have hlen:t.2.2.2.length<=64:=by rw[ql]at h64;simp only[o9]at h64;omega
 refine U8 (Es (p:=Wv t en) t.2.2.2.length o5 PUnit.unit (λi hi=>?_) ?_) ?_
 rotate_left 2
 .cases (List.range t.2.2.2.length).findSome? (Wv t en)<;>rfl
 .have e:=kN hi;simp only[dP (show(i:Int)<o9 t.2.2.2 by simp only[o9];omega),o7,L9,e,o8,a4P,Wv];cases QL t.2.2.2[i] (bnd t.2.1 en) (bnd t.2.2.1 en)
  case true=>rfl
  simp only[o6];refine U8 (xN (t.2.2.2.take i) (λj a=> !wu a t.2.2.2[i]) ((i:Int),(11:Int)) PUnit.unit _ F5 (λj x hx=>?_) ?_) ?_
  rotate_left 2
  .have hb:(∀(j:Nat) (a:BZ),(t.2.2.2.take i)[j]? =some a->(!wu a t.2.2.2[i])=true)↔((t.2.2.2.take i).any λy=>wu y t.2.2.2[i])=false:=by
    rw[iP];constructor
    .intro h x hx;obtain⟨j,hj,rfl⟩:=bJ hx;have:=h j _ (kN hj);simpa using this
    .intro h j a hj;have:=h a (rH hj);simpa using this
   by_cases hv:((t.2.2.2.take i).any λy=>wu y t.2.2.2[i])=false
   .rw[if_pos (hb.2 hv),hv,eY o5];rfl
   .rw[if_neg (λh=>hv (hb.1 h))];simp only[nH]at hv;rw[hv];rfl
  .have hj:=(aK.1 hx).1;simp only[bn]at hj;have hx' :t.2.2.2[j]? =some x:=by rw[U7]at hx;split at hx<;>first|exact hx|cases hx
   simp only[dP (show(j:Int)<(i:Int) by omega),o7,L9,hx',o8,e,Yw];rw[eY o5];cases wu x t.2.2.2[i]<;>rfl
  .have hl:(t.2.2.2.take i).length=i:=by simp;omega
   rw[hl,bU o5];rfl
 .rw[bU (by simp[o9])];rfl
variable {α:Type}
theorem xO{l:List α}(h:i<=l.length):iQ l 0 (i:Int)=some (l.take i):=by rw[a3d o5 o5];simp
theorem a9t(t:dw)(en:List dh):yV t en=some (LC t en):=by
 unfold yV LC;rw[vS,o8,vS,o8];cases h64:G5 64 (o9 t.2.2.2)
 case true=>rfl
 simp only[o6];cases vty t.2.1 en
 .rfl
 cases vty t.2.2.1 en
 .rfl
 simp only[J7,o6,o8,X0,o7,Pz];have hlen:t.2.2.2.length<=64:=by rw[ql]at h64;simp only[o9]at h64;omega
 refine U8 (Es (p:=Wv t en) t.2.2.2.length o5 PUnit.unit (λi hi=>?_) ?_) ?_
 rotate_left 2
 .cases (List.range t.2.2.2.length).findSome? (Wv t en)<;>rfl
 .have e:=kN hi;simp only[dP (show(i:Int)<o9 t.2.2.2 by simp only[o9];omega),o7,L9,e,o8,Wv,KP,xO (show i<=t.2.2.2.length by omega)];obtain⟨k,hk⟩:=a5A (l:=t.2.2.2.take i) t.2.2.2[i] F5;rw[hk,eY o5];unfold QL inB;simp only[Bq];generalize bnd t.2.1 en=bl;generalize bnd t.2.2.1 en=br;cases GG t.2.2.2[i].1
  .rfl
  cases x8 t.2.2.2[i].1.1 t.2.2.2[i].1.2
  case true=>rfl
  cases O7 t.2.2.2[i].2.2.1 t.2.2.2[i].2.1
  case true=>rfl
  cases O7 bl.1 t.2.2.2[i].2.1
  .rfl
  cases O7 t.2.2.2[i].2.1 bl.2
  .rfl
  cases O7 bl.1 (L6 IntKind.i64 t.2.2.2[i].2.2.1 1)
  .rfl
  cases O7 (L6 IntKind.i64 t.2.2.2[i].2.2.1 1) bl.2
  .rfl
  cases O7 br.1 t.2.2.2[i].2.2.2
  .rfl
  cases O7 t.2.2.2[i].2.2.2 br.2
  .rfl
  cases (t.2.2.2.take i).any λy=>wu y t.2.2.2[i]<;>rfl
 .rw[bU (by simp[o9])];rfl
section
variable {α ε ρ:Type}
theorem DU(l:List α)(p:α->Bool)(r:ρ)(e:ε){f:Int->Option (Out Int ε ρ)}(hl:l.length<=1000000)
  (hin:∀(i:Nat) (a:α),l[i]? =some a->f (i:Int)=some (bif p a then .rt r else .nx (D8 .i64 (i:Int) 1))) (hend:f (l.length:Int)=some (.ex e)):
  O6 f 0=some (bif l.any p then .inr r else .inl e):=by
 rw[xN l (λi a=> !p a) r e f o5 (λi a ha=>?_) hend]
 .have hb:(∀(j:Nat) (a:α),l[j]? =some a->(!p a)=true)↔l.any p=false:=by
   rw[iP];constructor
   .intro h x hx;obtain⟨j,hj,rfl⟩:=bJ hx;have:=h j _ (kN hj);simpa using this
   .intro h j a hj;have:=h a (rH hj);simpa using this
  by_cases hv:l.any p=false
  .rw[if_pos (hb.2 hv),hv];rfl
  .rw[if_neg (λh=>hv (hb.1 h))];simp only[nH]at hv;rw[hv];rfl
 .have hi:=(aK.1 ha).1;rw[hin i a ha,eY o5];cases p a<;>rfl
theorem zB(l:List α)(p:α->Bool){f:Int->Option (Out Int PUnit Int)}(hl:l.length<=1000000)
  (hin:∀(i:Nat) (a:α),l[i]? =some a->f (i:Int)=some (bif p a then .rt (i:Int)else .nx (D8 .i64 (i:Int) 1))) (hend:f (l.length:Int)=some (.ex PUnit.unit)):
  l9 (l9 (O6 f 0) λo=>U3 o (λ_=>some (-1)) λr=>some r) (λx=>some (O7 0 x))=some (l.any p):=by
 have key:=xn (f:=f) (s:=0) (λx=>∃i:Nat,x=i/\i<=l.length/\(l.take i).any p=false) (λ_=>l.any p=false) (λk=>0<=k/\l.any p=true) (λx=>l.length -x.toNat) ⟨0,rfl,o5,rfl⟩ F5 ?_
 .rcases key with⟨e,h1,h2⟩|⟨k,h1,h2,h3⟩
  .rw[h1,h2];rfl
  .rw[h1,h3,o8,mX,o8,bP h2]
 .rintro x ⟨i,rfl,hi,hall⟩;by_cases h:i<l.length
  .have e:=kN h;have hst:(l.take (i+1)).any p=((l.take i).any p || p l[i]):=by rw[X5 h,uz];simp
   rw[hin i _ e];cases hc:p l[i]with
   |true=>exact .inr (.inr ⟨_,rfl,o5,oU.2 ⟨l[i],O0 h,hc⟩⟩)|false=>exact .inl ⟨((i+1:Nat):Int),by rw[eY o5];rfl,⟨i+1,rfl,h,by rw[hst,hall,hc];rfl⟩,by simp;omega⟩
  .have:i=l.length:=o5;subst this;rw[bu]at hall;exact .inr (.inl ⟨_,hend,hall⟩)
theorem P6{l:List α}{a:α}(h:l[i]? =some a):G5 (i:Int) (o9 l)=true:=dP (by have:=(aK.1 h).1;simp only[o9];omega)
theorem P5(l:List α):G5 (l.length:Int) (o9 l)=false:=bU (by simp[o9])
end
theorem MV{l:List dh}(n:List UInt8)(h:l.length<=1000000):xM l n=some (l.any λx=>seq x.1 n):=by unfold xM iT jr;rw[wE];refine zB l (λx=>seq x.1 n) h (λi a ha=>?_) (by rw[P5];rfl);rw[P6 ha,o7,L9,ha,o8];unfold Fa;rw[o8];cases seq a.1 n<;>rfl
theorem QY{l:List dw}(n:List UInt8)(h:l.length<=1000000):yB l n=some (l.any λx=>seq x.1 n):=by unfold yB gV ja;rw[wE];refine zB l (λx=>seq x.1 n) h (λi a ha=>?_) (by rw[P5];rfl);rw[P6 ha,o7,L9,ha,o8];unfold CX;rw[o8];cases seq a.1 n<;>rfl
theorem ZE{l:List V6}(s:V6)(h:l.length<=1000000):dX l s=some (l.any λx=>seq x.1 s.1):=by unfold dX iZ;refine zB l (λx=>seq x.1 s.1) h (λi a ha=>?_) (by rw[P5];rfl);rw[P6 ha,o7,L9,ha,o8];unfold zF;rw[o8];cases seq a.1 s.1<;>rfl
theorem a0U{l:List eF}(s:eF)(h:l.length<=1000000):fB l s=some (l.any λx=>seq x.1 s.1):=by unfold fB jv;refine zB l (λx=>seq x.1 s.1) h (λi a ha=>?_) (by rw[P5];rfl);rw[P6 ha,o7,L9,ha,o8];unfold AC;rw[o8];cases seq a.1 s.1<;>rfl
theorem QX{l:List iV}(s:iV)(h:l.length<=1000000):bG l s=some (l.any λx=>seq x.1 s.1):=by unfold bG iY;refine zB l (λx=>seq x.1 s.1) h (λi a ha=>?_) (by rw[P5];rfl);rw[P6 ha,o7,L9,ha,o8];unfold zD;rw[o8];cases seq a.1 s.1<;>rfl
theorem a4h{l:List (List UInt8)}(s:List UInt8)(h:l.length<=1000000):jf l s=some (l.any λx=>seq s x):=by unfold jf iG;refine zB l (λx=>seq s x) h (λi a ha=>?_) (by rw[P5];rfl);rw[P6 ha,o7,L9,ha,o8];cases seq s a<;>rfl
theorem a4g{l:List Int}(s:Int)(h:l.length<=1000000):lV l s=some (l.any λx=>x8 s x):=by unfold lV uN;refine zB l (λx=>x8 s x) h (λi a ha=>?_) (by rw[P5];rfl);rw[P6 ha,o7,L9,ha,o8];cases x8 s a<;>rfl
section
variable {α ε ρ:Type}
theorem FB(l:List α)(k:Nat)(p:α->Bool)(r:ρ)(e:ε){f:Int->Option (Out Int ε ρ)}(hl:l.length<=1000000)
  (hin:∀(i:Nat) (a:α),l[i]? =some a->f (i:Int)=some (bif (decide (i<k)&&p a)then .rt r else .nx (D8 .i64 (i:Int) 1))) (hend:f (l.length:Int)=some (.ex e)):
  O6 f 0=some (bif (l.take k).any p then .inr r else .inl e):=by
 rw[xN l (λi a=> !(decide (i<k)&&p a)) r e f o5 (λi a ha=>?_) hend]
 .have hb:(∀(j:Nat) (a:α),l[j]? =some a->(!(decide (j<k)&&p a))=true)↔(l.take k).any p=false:=by
   rw[iP];constructor
   .intro h x hx;obtain⟨j,hj,rfl⟩:=bJ hx;simp only[bn]at hj;have:=h j _ (kN o5);rw[List.getElem_take];simp only[show j<k by omega,decide_true,iw]at this;simpa using this
   .intro h j a hj;by_cases hk:j<k
    .have hm:a∈l.take k:=rH (i:=j) (by rw[aN hk];exact hj);have:=h a hm;simpa[hk]using this
    .simp[hk]
  by_cases hv:(l.take k).any p=false
  .rw[if_pos (hb.2 hv),hv];rfl
  .rw[if_neg (λh=>hv (hb.1 h))];simp only[nH]at hv;rw[hv];rfl
 .have hi:=(aK.1 ha).1;rw[hin i a ha,eY o5];cases decide (i<k)&&p a<;>rfl
end
theorem NZ(i k:Nat):G5 (i:Int) (k:Int)=decide (i<k):=by unfold G5;by_cases h:i<k<;>simp[h]<;>omega
def DF(l:X6)(kind:Nat)(k:Nat)(n:List UInt8):Bool:=
 match kind with
 |1=>(l.1.take k).any λx=>seq x.1 n|2=>(l.1.any λx=>seq x.1 n) || ((l.2.1.take k).any λx=>seq x.1 n)|_=>(l.1.any λx=>seq x.1 n) || (l.2.1.any λx=>seq x.1 n) || ((l.2.2.take k).any λx=>seq x.1 n)
def Few(l:X6):Prop:=l.1.length<=100000/\l.2.1.length<=100000/\l.2.2.length<=100000
variable {l:X6}
theorem a4T(h:Few l)(k:Nat)(n:List UInt8):iK l 1 (k:Int) n=some (DF l 1 k n):=by
 unfold iK DF;refine U8 (FB l.1 k (λx=>seq x.1 n) true PUnit.unit (by have:=h.1;omega) (λi a ha=>?_) ?_) ?_
 rotate_left 2
 .cases (l.1.take k).any λx=>seq x.1 n
  case true=>rfl
  simp only[cond_false,X0];refine U8 (FB l.2.1 0 (λx=>seq x.1 n) true PUnit.unit (by have:=h.2.1;omega) (λi a ha=>?_) ?_) ?_
  rotate_left 2
  .simp only[List.take_zero,List.any_nil,cond_false,X0];refine U8 (FB l.2.2 0 (λx=>seq x.1 n) true PUnit.unit (by have:=h.2.2;omega) (λi a ha=>?_) ?_) ?_
   rotate_left 2
   .rfl
   .rw[P6 ha];simp;rfl
   .rw[P5];rfl
  .rw[P6 ha];simp;rfl
  .rw[P5];rfl
 .rw[P6 ha,L9,ha,o8,NZ,o7];cases decide (i<k)<;>cases seq a.1 n<;>rfl
 .rw[P5];rfl
theorem a4U(h:Few l)(k:Nat)(n:List UInt8):iK l 2 (k:Int) n=some (DF l 2 k n):=by
 unfold iK DF;refine U8 (DU l.1 (λx=>seq x.1 n) true PUnit.unit (by have:=h.1;omega) (λi a ha=>?_) ?_) ?_
 rotate_left 2
 .cases l.1.any λx=>seq x.1 n
  case true=>rfl
  simp only[cond_false,X0,kP];refine U8 (FB l.2.1 k (λx=>seq x.1 n) true PUnit.unit (by have:=h.2.1;omega) (λi a ha=>?_) ?_) ?_
  rotate_left 2
  .cases (l.2.1.take k).any λx=>seq x.1 n
   case true=>rfl
   simp only[cond_false,X0];refine U8 (FB l.2.2 0 (λx=>seq x.1 n) true PUnit.unit (by have:=h.2.2;omega) (λi a ha=>?_) ?_) ?_
   rotate_left 2
   .rfl
   .rw[P6 ha];simp;rfl
   .rw[P5];rfl
  .rw[P6 ha,L9,ha,o8,NZ,o7];cases decide (i<k)<;>cases seq a.1 n<;>rfl
  .rw[P5];rfl
 .rw[P6 ha,L9,ha,o8,o7];cases seq a.1 n<;>rfl
 .rw[P5];rfl
theorem a4V(h:Few l)(k:Nat)(n:List UInt8):iK l 3 (k:Int) n=some (DF l 3 k n):=by
 unfold iK DF;refine U8 (DU l.1 (λx=>seq x.1 n) true PUnit.unit (by have:=h.1;omega) (λi a ha=>?_) ?_) ?_
 rotate_left 2
 .cases l.1.any λx=>seq x.1 n
  case true=>rfl
  simp only[cond_false,X0,kP];refine U8 (DU l.2.1 (λx=>seq x.1 n) true PUnit.unit (by have:=h.2.1;omega) (λi a ha=>?_) ?_) ?_
  rotate_left 2
  .cases l.2.1.any λx=>seq x.1 n
   case true=>rfl
   simp only[cond_false,X0,kP];refine U8 (FB l.2.2 k (λx=>seq x.1 n) true PUnit.unit (by have:=h.2.2;omega) (λi a ha=>?_) ?_) ?_
   rotate_left 2
   .cases (l.2.2.take k).any λx=>seq x.1 n<;>rfl
   .rw[P6 ha,L9,ha,o8,NZ,o7];cases decide (i<k)<;>cases seq a.1 n<;>rfl
   .rw[P5];rfl
  .rw[P6 ha,L9,ha,o8,o7];cases seq a.1 n<;>rfl
  .rw[P5];rfl
 .rw[P6 ha,L9,ha,o8,o7];cases seq a.1 n<;>rfl
 .rw[P5];rfl
def Wi(ms:List (List UInt8))(i:Nat):Option (Int×Int):=match ms[i]? with
 |some m=>l7 (oV m) (l7 ((ms.take i).any λx=>seq m x) (some (7,((100+i:Nat):Int))) none) (some (2,((100+i:Nat):Int)))|none=>none
def Ug(l:X6)(i:Nat)(e:dh):Int×Int:=
 l7 (oV e.1) (l7 (DF l 1 i e.1) (7,0) (l7 (x8 (o9 e.2) 0) (5,0) (l7 (G5 16 (o9 e.2)) (4,116) (match(List.range e.2.length).findSome? (Wi e.2)with|some r=>r|none=>(0,0))))) (2,0)
theorem a2Q(h:i<=1000000):D8 .i64 100 (i:Int)=((100+i:Nat):Int):=by rw[kC jb];omega
theorem XO(h:Few l)(hi:i<=l.1.length)(e:dh)(h1:e.1.length<=1000000)(h2:∀m∈e.2,m.length<=1000000):
  zW l (i:Int) e=some (Ug l i e):=by
 unfold zW Ug DF;rw[su h1,o8,xO hi,o8,MV _ (by have:=h.1;simp;omega),o8];cases oV e.1
 .rfl
 simp only[J7,o6,o7];cases (l.1.take i).any λx=>seq x.1 e.1
 case true=>rfl
 cases x8 (o9 e.2) 0
 case true=>rfl
 cases h16:G5 16 (o9 e.2)
 case true=>rfl
 simp only[o6];have hlen:e.2.length<=16:=by rw[ql]at h16;simp only[o9]at h16;omega
 refine U8 (Es (p:=Wi e.2) e.2.length o5 PUnit.unit (λj hj=>?_) ?_) ?_
 rotate_left 2
 .cases (List.range e.2.length).findSome? (Wi e.2)<;>rfl
 .have e' :=kN hj;rw[P6 e',o7,L9,e',o8,su (h2 _ (O0 hj)),o8,xO o5,o8,a4h _ F5,o8,a2Q o5,eY o5];simp only[Wi,e'];cases oV e.2[j]
  .rfl
  cases (e.2.take j).any λx=>seq e.2[j] x<;>rfl
 .rw[P5];rfl
theorem a7Q(a b:List UInt8):seq a b=seq b a:=by unfold seq;by_cases h:a=b<;>simp[h,eq_comm]
variable {ρ:Type}{ε:Type}{σ:Type}
theorem a3S(l:List α)(p:α->Bool)(n:Nat)(hn:n<=l.length)(hl:l.length<=1000000)(a b:σ)(r:ρ)(e:ε){f:σ×σ×Int->Option (Out (σ×σ×Int) ε ρ)}
  (hin:∀(i:Nat) (x:α),i<n->l[i]? =some x->f (a,b,(i:Int))=some (bif p x then .rt r else .nx (a,b,D8 .i64 (i:Int) 1))) (hend:f (a,b,(n:Int))=some (.ex e)):
  O6 f (a,b,0)=some (bif (l.take n).any p then .inr r else .inl e):=by
 have key:=xn (f:=f) (s:=(a,b,0)) (λx=>∃i:Nat,x=(a,b,(i:Int))/\i<=n/\(l.take i).any p=false) (λx=>x=e/\(l.take n).any p=false) (λk=>k=r/\(l.take n).any p=true) (λx=>n -x.2.2.toNat) ⟨0,rfl,o5,rfl⟩ F5 ?_
 .rcases key with⟨x,h1,rfl,h2⟩|⟨k,h1,rfl,h2⟩
  .rw[h1,h2];rfl
  .rw[h1,h2];rfl
 .rintro x ⟨i,rfl,hi,hall⟩;by_cases h:i<n
  .have e' :=kN (show i<l.length by omega);have hst:(l.take (i+1)).any p=((l.take i).any p || p l[i]):=by rw[X5 o5,uz];simp
   rw[hin i _ h e'];cases hc:p l[i]with
   |true=>refine .inr (.inr ⟨_,rfl,rfl,oU.2 ⟨l[i],?_,hc⟩⟩);exact rH (i:=i) (by rw[aN h];exact e')|false=>exact .inl ⟨(a,b,((i+1:Nat):Int)),by rw[eY o5];rfl,⟨i+1,rfl,h,by rw[hst,hall,hc];rfl⟩,by simp;omega⟩
  .have:i=n:=o5;subst this;exact .inr (.inl ⟨_,hend,rfl,hall⟩)
variable {β:Type}
theorem Ut{p:Nat->Option β}{n j:Nat}{c:β}(h0:(List.range j).findSome? p=none)(h1:p j=some c)(hj:j<n):(List.range n).findSome? p=some c:=by
 induction n with
 |zero=>omega|succ n ih=>
  rw[fP,jL];by_cases h:j<n
  .rw[ih h];rfl
  .have:j=n:=o5;subst this;rw[h0];simp[h1]
theorem a2O{p:Nat->Option β}{j:Nat}(h0:(List.range j).findSome? p=none)(h1:p j=none):(List.range (j+1)).findSome? p=none:=by rw[fP,jL,h0];simp[h1]
def Ll(kind i:Int)(r:Int×Int):Int×Int×Int×Int:=l7 (x8 r.1 0) (0,0,0,0) (r.1,kind,i,r.2)
theorem Wq(h:Few l){e:dh}(he:l.1[i]? =some e)(h1:e.1.length<=1000000)(h2:∀m∈e.2,m.length<=1000000):
  wS l (i:Int)=some (Ll 1 i (Ug l i e)):=by
 unfold wS Ug;rw[L9,he,o8,nX h1,o8,a4T h,o8];cases oV e.1
 .rfl
 simp only[J7,o6,o7];cases DF l 1 i e.1
 case true=>rfl
 cases x8 (o9 e.2) 0
 case true=>rfl
 cases h16:G5 16 (o9 e.2)
 case true=>rfl
 simp only[o6];have hlen:e.2.length<=16:=by rw[ql]at h16;simp only[o9]at h16;omega
 have key:=xn (f:=λ(x_3:J9×J9×Int)=>
   l7 (G5 x_3.2.2 (o9 e.2)) (l9 (J4 e.2 x_3.2.2) λ(x_4:List UInt8)=>l9 (Y8 x_4) λ(x_5:Bool)=>
    l7 (D9 x_5) (some (Out.rt (2,x_3.2.1.2.1,x_3.2.1.2.2.1,D8 IntKind.i64 100 x_3.2.2)))
     (l9 (O6 (λ(x_6:J9×J9×Int)=>l7 (G5 x_6.2.2 x_3.2.2) (l9 (J4 e.2 x_6.2.2) λ(x_7:List UInt8)=>l9 (J4 e.2 x_3.2.2) λ(x:List UInt8)=>
       l7 (seq x_7 x) (some (Out.rt (7,x_6.2.1.2))) (some (Out.nx (x_6.1,x_6.2.1,D8 IntKind.i64 x_6.2.2 1)))) (some (Out.ex (x_6.1,x_6.2.1))))
      (x_3.1,(x_3.2.1.1,x_3.2.1.2.1,x_3.2.1.2.2.1,D8 IntKind.i64 100 x_3.2.2),0)) λ(o:J9×J9⊕J9)=>
       U3 o (λ(y:J9×J9)=>some (Out.nx (y.1,y.2,D8 IntKind.i64 x_3.2.2 1))) λ(r:J9)=>some (Out.rt r))) (some (Out.ex x_3.1)))
  (s:=((0,0,0,0),(0,1,(i:Int),0),0))
  (λx=>∃(B:Int×Int×Int×Int) (j:Nat),x=((0,0,0,0),B,(j:Int))/\B.2.1=1/\B.2.2.1=i/\j<=e.2.length/\(List.range j).findSome? (Wi e.2)=none)
  (λ_=>(List.range e.2.length).findSome? (Wi e.2)=none) (λr=>∃c,(List.range e.2.length).findSome? (Wi e.2)=some c/\r=(c.1,1,(i:Int),c.2)/\c.1≠0)
  (λx=>e.2.length -x.2.2.toNat) ⟨_,0,rfl,rfl,rfl,o5,rfl⟩ F5 ?_
 .rcases key with⟨x,k1,k2⟩|⟨r,k1,c,k2,k3,k4⟩
  .refine(UO k1 _).trans ?_;rw[k2];rfl
  .refine(UO k1 _).trans ?_;rw[k2,k3];simp only[mX,Ll];rw[O9 k4];rfl
 .rintro x ⟨B,j,rfl,b1,b2,hj,hn⟩;by_cases hl:j<e.2.length
  .have e' :=kN hl;simp only[P6 e',o7,L9,e',o8,nX (h2 _ (O0 hl)),a2Q (show j<=1000000 by omega)];cases hid:oV e.2[j]
   .refine .inr (.inr ⟨_,rfl,(2,((100+j:Nat):Int)),Ut hn (by simp only[Wi,e',hid];rfl) hl,?_,(by show(2:Int)≠0;decide)⟩);rw[b1,b2]
   .simp only[J7,o6];rw[a3S e.2 (λx=>seq e.2[j] x) j o5 o5 (0,0,0,0) (B.1,B.2.1,B.2.2.1,((100+j:Nat):Int)) (7,B.2.1,B.2.2.1,((100+j:Nat):Int)) ((0,0,0,0),(B.1,B.2.1,B.2.2.1,((100+j:Nat):Int)))
     (λk x hk hx=>by simp only[dP (show(k:Int)<(j:Int) by omega),o7,L9,hx,o8,e'];rw[a7Q];cases seq e.2[j] x<;>rfl)
     (by simp only[bU (show(j:Int)<=(j:Int) by omega)];rfl)]
    cases hd:(e.2.take j).any λx=>seq e.2[j] x
    .refine .inl ⟨((0,0,0,0),(B.1,B.2.1,B.2.2.1,((100+j:Nat):Int)),((j+1:Nat):Int)),by rw[eY o5];rfl,⟨_,j+1,rfl,b1,b2,hl,a2O hn (by simp only[Wi,e',hid,hd];rfl)⟩,by simp;omega⟩
    .refine .inr (.inr ⟨_,rfl,(7,((100+j:Nat):Int)),Ut hn (by simp only[Wi,e',hid,hd];rfl) hl,?_,(by show(7:Int)≠0;decide)⟩);rw[b1,b2]
  .have:j=e.2.length:=o5;subst this;exact .inr (.inl ⟨_,by simp only[P5];rfl,hn⟩)
def dD(n:Nat)(p:Nat->Option ρ):Option ρ:=(List.range n).findSome? p
variable {p:Nat->Option ρ}
theorem nS(n:Nat)(hn:n<=1000000)(a:σ)(e:ε){f:σ×Int->Option (Out (σ×Int) ε ρ)}
  (h1:∀i,i<n->f (a,(i:Int))=some (match p i with|some r=> .rt r|none=> .nx (a,D8 .i64 (i:Int) 1))) (h2:f (a,(n:Int))=some (.ex e)):
  O6 f (a,0)=some (match dD n p with|some r=> .inr r|none=> .inl e):=by
 have key:=xn (f:=f) (s:=(a,0)) (λx=>∃i:Nat,x=(a,(i:Int))/\i<=n/\dD i p=none) (λx=>x=e/\dD n p=none) (λr=>dD n p=some r) (λx=>n -x.2.toNat) ⟨0,rfl,o5,rfl⟩ F5 ?_
 .rcases key with⟨x,k1,rfl,k2⟩|⟨r,k1,k2⟩
  .rw[k1,k2]
  .rw[k1,k2]
 .rintro x ⟨i,rfl,hi,hnone⟩;by_cases h:i<n
  .rw[h1 i h];cases hp:p i with
   |some r=>exact .inr (.inr ⟨_,rfl,Ut hnone hp h⟩)|none=>exact .inl ⟨(a,((i+1:Nat):Int)),by rw[eY o5],⟨i+1,rfl,h,a2O hnone hp⟩,by simp;omega⟩
  .have:i=n:=o5;subst this;exact .inr (.inl ⟨_,h2,rfl,hnone⟩)
def SB(kind i:Int)(r:Int×Int):Option (Int×Int×Int×Int):=l7 (x8 r.1 0) none (some (r.1,kind,i,r.2))
def QR(l:X6)(i:Nat):Option (Int×Int×Int×Int):=match l.1[i]? with|some e=>SB 1 i (Ug l i e)|none=>none
def MQ(l:X6):Int×Int×Int×Int:=l7 (G5 8 (o9 l.1)) (4,1,8,0) (match dD l.1.length (QR l)with|some r=>r|none=>(0,0,0,0))
def XH(l:X6):Prop:=∀e∈l.1,e.1.length<=1000000/\∀m∈e.2,m.length<=1000000
theorem VS(h:Few l)(hE:XH l):yz l=some (MQ l):=by
 unfold yz MQ;cases G5 8 (o9 l.1)
 case true=>rfl
 simp only[o6];refine U8 (nS (p:=QR l) l.1.length (by have:=h.1;omega) _ (0,0,0,0) (λi hi=>?_) ?_) ?_
 rotate_left 2
 .cases dD l.1.length (QR l)<;>rfl
 .have e:=kN hi;have hm:=hE _ (O0 hi);simp only[P6 e,o7,L9,e,o8,XO h (show i<=l.1.length by omega) _ hm.1 hm.2,QR,SB];cases x8 (Ug l i l.1[i]).1 0<;>rfl
 .rw[P5];rfl
variable {n:Nat}
theorem nC{r:ρ}(h:dD n p=some r):∃i,i<n/\p i=some r:=by unfold dD at h;obtain⟨i,hi,hp⟩:=List.exists_of_findSome?_eq_some h;exact⟨i,fD.1 hi,hp⟩
theorem XZ(h:dD n p=none):∀i,i<n->p i=none:=by unfold dD at h;intro i hi;exact List.findSome?_eq_none_iff.1 h i (fD.2 hi)
theorem a9s(t:dw)(en:List dh):(LC t en).1=-1\/0<=(LC t en).1:=by
 unfold LC;cases G5 64 (o9 t.2.2.2)
 case true=>right;simp only[o7];decide
 cases vty t.2.1 en
 .left;rfl
 cases vty t.2.2.1 en
 .left;rfl
 right;simp only[o7,o6];cases hf:(List.range t.2.2.2.length).findSome? (Wv t en)with
 |none=>exact zC _|some r=>
  obtain⟨i,hi,hp⟩:=nC (p:=Wv t en) hf;unfold Wv at hp;split at hp
  .rename_i x hx;cases hw:QL x (bnd t.2.1 en) (bnd t.2.2.1 en)<;>rw[hw]at hp
   .cases ha:(t.2.2.2.take i).any λy=>wu y x<;>rw[ha]at hp
    .cases hp
    .cases hp;show(0:Int)<=(i:Int);omega
   .cases hp;show(0:Int)<=(i:Int);omega
  .cases hp
def VE(l:X6)(i:Nat)(t:dw):Int×Int:=
 l7 (oV t.1) (l7 (DF l 2 i t.1) (7,0) (l7 (x8 (LC t l.1).2 0) (0,0) ((LC t l.1).2,l7 (O7 0 (LC t l.1).1) (D8 .i64 100 (LC t l.1).1) 0))) (2,0)
def Ku(l:X6)(i:Nat):Option (Int×Int×Int×Int):=match l.2.1[i]? with|some t=>SB 2 i (VE l i t)|none=>none
def Ik(l:X6):Int×Int×Int×Int:=l7 (G5 8 (o9 l.2.1)) (4,2,8,0) (match dD l.2.1.length (Ku l)with|some r=>r|none=>(0,0,0,0))
def TC(l:X6):Prop:=∀t∈l.2.1,t.1.length<=1000000
theorem UZ(h:Few l){t:dw}(he:l.2.1[i]? =some t)(h1:t.1.length<=1000000):vJ l (i:Int)=some (Ll 2 i (VE l i t)):=by
 unfold vJ VE;rw[L9,he,o8,nX h1,o8,a4U h,o8,a4O,o8];cases oV t.1
 .rfl
 cases DF l 2 i t.1
 case true=>rfl
 simp only[J7,o6,o7];cases hz:x8 (LC t l.1).2 0
 case true=>rfl
 simp only[o6,Ll,hz];cases O7 0 (LC t l.1).1<;>rfl
theorem TV(h:Few l)(hT:TC l):wL l=some (Ik l):=by
 unfold wL Ik;cases G5 8 (o9 l.2.1)
 case true=>rfl
 simp only[o6];refine U8 (nS (p:=Ku l) l.2.1.length (by have:=h.2.1;omega) _ (0,0,0,0) (λi hi=>?_) ?_) ?_
 rotate_left 2
 .cases dD l.2.1.length (Ku l)<;>rfl
 .have e:=kN hi;have hm:=hT _ (O0 hi);simp only[P6 e,o7,L9,e,o8,a9t,su hm,MV _ (show l.1.length<=1000000 by have:=h.1;omega),xO (show i<=l.2.1.length by omega),
   QY _ (show(l.2.1.take i).length<=1000000 by have:=h.2.1;simp;omega),Ku,VE,DF]
  cases oV l.2.1[i].1
  .rfl
  cases l.1.any λx=>seq x.1 l.2.1[i].1
  case true=>rfl
  cases (l.2.1.take i).any λx=>seq x.1 l.2.1[i].1
  case true=>rfl
  simp only[J7,o6,o7,o8,Bool.or_false];cases hz:x8 (LC l.2.1[i] l.1).2 0
  case true=>rfl
  simp only[af,o7,o6,SB,hz];rcases a9s l.2.1[i] l.1 with hr|hr
  .rw[bF hr,dE (show(LC l.2.1[i] l.1).1<0 by omega)];simp only[J7,o6,o8,hz,af,o7]
  .rw[O9 (show(LC l.2.1[i] l.1).1≠-1 by omega),bP hr];simp only[af,o7,o8,hz]
 .rw[P5];rfl
theorem a0S(l:List α)(g:α->β)(hl:l.length<=1000000){f:List β×Int->Option ((List β×Int)⊕ε)}{F:List β->ε}
  (hin:∀(i:Nat) (a:α) (acc:List β),l[i]? =some a->acc.length=i->f (acc,(i:Int))=some (.inl (acc++[g a],D8 .i64 (i:Int) 1))) (hend:∀acc,f (acc,(l.length:Int))=some (.inr (F acc))):
  aO f ([],0)=some (F (l.map g)):=by
 obtain⟨e,h1,h2⟩:=rM (f:=f) (s:=([],0)) (λx=>∃i:Nat,x=((l.take i).map g,(i:Int))/\i<=l.length) (λe=>e=F (l.map g)) (λx=>l.length -x.2.toNat) ⟨0,rfl,o5⟩ F5 (by
  rintro x ⟨i,rfl,hi⟩;by_cases h:i<l.length
  .have e:=kN h;refine .inl ⟨((l.take (i+1)).map g,((i+1:Nat):Int)),?_,⟨i+1,rfl,h⟩,by simp;omega⟩;rw[hin i _ _ e F5,eY o5,X5 h,eQ];rfl
  .have:i=l.length:=o5;subst this;refine .inr ⟨_,hend _,?_⟩;rw[bu])
 rw[h1,h2]
theorem EW{l:List iV}(h:l.length<=1000000):qL l=some (l.map (·.2)):=by
 unfold qL;rw[wE];refine a0S (F:=id) l (λx=>x.2) h (λi a acc ha hacc=>?_) (λacc=>?_)
 .have hi:=(aK.1 ha).1;simp only[P6 ha,o7,L9,ha,o8];rw[KR (by simp[hacc];omega)];rfl
 .simp only[P5];rfl
def Ja(l:X6):Prop:=∀s∈l.2.2,s.1.length<=1000000/\s.2.2.1.length<=100000/\s.2.2.2.1.length<=100000/\s.2.2.2.2.length<=100000
def SL(l:X6)(s:V6):List dh×List dw×List (Int×Int)×List (Int×Int)×List (Int×Int)×Bool:=
 match(if 0<=s.2.1 then l.2.2[s.2.1.toNat]? else none)with
 |some k=>(l.1,l.2.1,s.2.2.1.map (·.2),s.2.2.2.1.map (·.2),k.2.2.2.1.map (·.2),true)|none=>(l.1,l.2.1,s.2.2.1.map (·.2),s.2.2.2.1.map (·.2),[],false)
theorem DC(h:Ja l){s:V6}(hs:l.2.2[i]? =some s):mQ l (i:Int)=some (SL l s):=by
 have hm:=h s (rH hs);unfold mQ SL;rw[L9,hs,o8,EW o5,o8,EW o5,o8];by_cases h0:0<=s.2.1
 .rw[bP h0,if_pos h0,o7];by_cases h1:s.2.1<o9 l.2.2
  .obtain⟨k,hk,hkm⟩:=tC h0 h1;have hk' :l.2.2[s.2.1.toNat]? =some k:=(xK hk).2.2.2;rw[dP h1,o7,hk,o8,EW (by have:=h k hkm;omega),o8,hk']
  .have h1' :o9 l.2.2<=s.2.1:=sK.1 h1;rw[bU h1',o6,iy (by simp only[o9]at h1';exact Int.le_toNat h0 |>.2 h1')]
 .have h0' :s.2.1<(0:Int):=sJ.1 h0;rw[dE h0',if_neg h0];rfl
theorem Wu(h:Ja l){s:V6}(hs:l.2.2[i]? =some s):wR l (i:Int)=some (SL l s):=by have hi:=(aK.1 hs).1;rw[←DC h hs];unfold wR mQ;rw[bU o5,dE (by simp only[o9];omega)];rfl
abbrev SI(l:List Int):Prop:=l.Pairwise (·< ·)
theorem a1N:∀{a b:List Int},SI a->SI b->(∀x,x∈a↔x∈b)->a=b
 |[],[],_,_,_=>rfl|[],y::b,_,_,h=>absurd ((h y).2 A8) A8|x::a,[],_,_,h=>absurd ((h x).1 A8) A8|x::a,y::b,ha,hb,h=>by
  have ha' :=V8.1 ha;have hb' :=V8.1 hb;have hxy:x=y:=by
   rcases D6.1 ((h x).1 A8)with h1|h1
   .exact h1
   .rcases D6.1 ((h y).2 A8)with h2|h2
    .exact h2.symm
    .have:=hb'.1 _ h1;have:=ha'.1 _ h2;omega
  subst hxy;congr 1;refine a1N ha'.2 hb'.2 λz=>⟨λhz=>?_,λhz=>?_⟩
  .rcases D6.1 ((h z).1 (by simp[hz]))with h1|h1
   .have:=ha'.1 _ hz;omega
   .exact h1
  .rcases D6.1 ((h z).2 (by simp[hz]))with h1|h1
   .have:=hb'.1 _ hz;omega
   .exact h1
def ins(n:Int):List Int->List Int
 |[]=>[n]|a::l=>if n<=a then(if n<a then n::a::l else a::l)else a::ins n l
theorem Yj(n x:Int):∀l,x∈ins n l↔x=n\/x∈l
 |[]=>by simp[ins]|a::l=>by
  unfold ins;by_cases h:n<=a
  .rw[if_pos h];by_cases h2:n<a
   .rw[if_pos h2];simp
   .rw[if_neg h2];have:n=a:=o5;subst this;simp
  .rw[if_neg h,D6,Yj n x l,D6];constructor
   .rintro(h|h|h)<;>simp[h]
   .rintro(h|h|h)<;>simp[h]
theorem a7U(n:Int):∀{l},SI l->SI (ins n l)
 |[],_=>List.pairwise_singleton _ _|a::l,h=>by
  have h' :=V8.1 h;unfold ins;by_cases h1:n<=a
  .rw[if_pos h1];by_cases h2:n<a
   .rw[if_pos h2];refine V8.2 ⟨λx hx=>?_,h⟩;rcases D6.1 hx with rfl|hx
    .exact h2
    .have:=h'.1 x hx;omega
   .rw[if_neg h2];exact h
  .rw[if_neg h1];refine V8.2 ⟨λx hx=>?_,a7U n h'.2⟩;rcases(Yj n x l).1 hx with rfl|hx
   .omega
   .exact h'.1 x hx
def EZ(ns:List Int)(l:List Int):List Int:=ns.foldl (λacc n=>ins n acc) l
theorem Oj(x:Int):∀ns l,x∈EZ ns l↔x∈ns\/x∈l
 |[],l=>by simp[EZ]|n::ns,l=>by
  show x∈EZ ns (ins n l)↔_;rw[Oj x ns,Yj,D6];constructor
  .rintro(h|h|h)<;>simp[h]
  .rintro((h|h)|h)<;>simp[h]
theorem Tn:∀ns {l},SI l->SI (EZ ns l)
 |[],_,h=>h|n::ns,_,h=>Tn ns (a7U n h)
theorem Rh(a b l:List Int):EZ (a++b) l=EZ b (EZ a l):=List.foldl_append ..
def NG(l:List Int):List Int:=EZ l []
theorem ZU(x:Int)(l:List Int):x∈NG l↔x∈l:=by unfold NG;rw[Oj];simp
theorem a3D(l:List Int):SI (NG l):=Tn l List.Pairwise.nil
theorem xm(n:Int):∀l,(ins n l).length<=l.length+1
 |[]=>by simp[ins]|a::l=>by
  unfold ins;by_cases h1:n<=a
  .rw[if_pos h1];by_cases h2:n<a
   .rw[if_pos h2];simp
   .rw[if_neg h2];simp
  .rw[if_neg h1];have:=xm n l;simp only[H5];omega
theorem Ep:∀ns l,(EZ ns l).length<=l.length+ns.length
 |[],l=>by simp[EZ]|n::ns,l=>by have h1:=Ep ns (ins n l);have h2:=xm n l;show(EZ ns (ins n l)).length<=_;simp only[H5];omega
theorem ZO(l:List Int):(NG l).length<=l.length:=by have:=Ep l [];unfold NG;simpa using this
theorem YG{l:List Int}(n:Nat)(h:SI l)(h2:∀x∈l,0<=x/\x<n):l.length<=n:=by
 have key:∀(l:List Int) (lo:Int),SI l->(∀x∈l,lo<=x/\x<n)->lo<=n->(l.length:Int)<=n -lo:=by
  intro l;induction l with
  |nil=>intro lo _ _ hlo;simp;omega|cons a l ih=>intro lo hs hb hlo;have h' :=V8.1 hs;have ha:=hb a A8;have:=ih (a+1) h'.2 (λx hx=>⟨by have:=h'.1 x hx;omega,(hb x (by simp[hx])).2⟩) o5;simp only[H5];omega
 have:=key l 0 h (λx hx=>h2 x hx) o5;omega
theorem TZ(x:Int):∀(l:List Int) (p:Int),(p::l).Pairwise (·<=·)->SI (p::ddp p l)/\(x∈p::ddp p l↔x∈p::l)
 |[],p,_=>⟨List.pairwise_singleton _ _,Iff.rfl⟩|a::l,p,h=>by
  have h1:=V8.1 h;obtain⟨i1,i2⟩:=TZ x l a h1.2;have h2:=V8.1 h1.2;have hpa:=h1.1 a A8;unfold ddp;cases hq:x8 a p
  .rw[CQ]at hq;simp only[cond_false];refine⟨V8.2 ⟨λy hy=>?_,i1⟩,?_⟩
   .rcases D6.1 hy with rfl|hy
    .omega
    .have:=(V8.1 i1).1 y hy;omega
   .rw[D6,i2,D6 (a:=x) (b:=p)]
  .rw[kX]at hq;subst hq;simp only[cond_true];refine⟨i1,?_⟩;rw[i2];simp
theorem a5s(l:List Int):dd (Jt l)=NG l:=by
 have hs:=Ha l;have hp:=GZ l;refine a1N ?_ (a3D l) λx=>?_
 .cases he:Jt l with
  |nil=>exact List.Pairwise.nil|cons a r=>rw[he]at hs;exact(TZ a r a hs).1
 .rw[ZU,←hp.mem_iff];cases he:Jt l with
  |nil=>exact Iff.rfl|cons a r=>rw[he]at hs;exact(TZ x r a hs).2
theorem a4m(l:List Int):(Jt l).length=l.length:=(GZ l).length_eq
theorem b1c{l:List Int}(h:l.length<=1000000):l9 (BV l) (λx=>pR x)=some (NG l):=by unfold BV pR;rw[show Nat.blt l.length 4611686018427387904=true from by simp[Nat.blt];omega];simp only[cond_true,o8];rw[show Nat.blt (Jt l).length 4611686018427387904=true from by rw[a4m];simp[Nat.blt];omega];rw[cond_true,a5s]
def hg(l:List Int)(i:Nat):Int:=l.getD i 0
theorem a9M{l:List Int}(h:i<l.length):l[i]? =some (hg l i):=by unfold hg;rw[Ob,kN h];rfl
theorem Pj{l:List α}{a:α}(h:(l.take n)[i]? =some a):i<n/\l[i]? =some a:=by
 rw[U7]at h;split at h
 .exact⟨by assumption,h⟩
 .cases h
theorem Hq{l:List iV}(hl:l.length<=1000000)(n:Nat)(nm:List UInt8):qU l (n:Int) nm=some ((l.take n).any λx=>seq x.1 nm):=by
 unfold qU;refine U8 (DU (l.take n) (λx=>seq x.1 nm) true PUnit.unit F5 (λi a ha=>?_) ?_) ?_
 rotate_left 2
 .cases (l.take n).any λx=>seq x.1 nm<;>rfl
 .obtain⟨h1,h2⟩:=Pj ha;rw[dP (show(i:Int)<n by omega),P6 h2,L9,h2];simp only[o7,o8];cases seq a.1 nm<;>rfl
 .by_cases h:n<l.length
  .have e:(l.take n).length=n:=by simp;omega
   rw[e,bU o5];rfl
  .have e:(l.take n).length=l.length:=by simp;omega
   rw[e,P5];cases G5 (l.length:Int) (n:Int)<;>rfl
def Jq(en:List dh)(f:iV)(a b:List iV):Int:=
 l7 (oV f.1) (l7 (a.any λx=>seq x.1 f.1) 7 (l7 (b.any λx=>seq x.1 f.1) 7 (l7 (vty f.2 en) 0 8))) 2
theorem LM{f:iV}{a b:List iV}(h:f.1.length<=1000000)(ha:a.length<=1000000)(hb:b.length<=1000000):uA l f a b=some (Jq l.1 f a b):=by
 unfold uA Jq;rw[su h,o8,QX _ ha,o8,QX _ hb,o8,vS,o8];cases oV f.1
 .rfl
 cases a.any λx=>seq x.1 f.1
 case true=>rfl
 cases b.any λx=>seq x.1 f.1
 case true=>rfl
 cases vty f.2 l.1<;>rfl
def SA(c e:Int):Option (Int×Int):=l7 (x8 c 0) none (some (c,e))
def inP(l:X6)(s:V6)(i:Nat):Option (Int×Int):=match s.2.2.1[i]? with|some f=>SA (Jq l.1 f (s.2.2.1.take i) []) (100+i:Nat)|none=>none
def Zt(l:X6)(s:V6)(i:Nat):Option (Int×Int):=match s.2.2.2.1[i]? with|some f=>SA (Jq l.1 f s.2.2.1 (s.2.2.2.1.take i)) (200+i:Nat)|none=>none
def Tv(s:V6):Prop:=(∀f∈s.2.2.1,f.1.length<=1000000)/\(∀f∈s.2.2.2.1,f.1.length<=1000000)
theorem QZ{c i:Nat}(hc:c<=1000)(h:i<=1000000):D8 .i64 (c:Int) (i:Int)=((c+i:Nat):Int):=by rw[kC jb];omega
def Sl(i:Int)(r:Int×Int):Int×Int×Int×Int:=(r.1,3,i,r.2)
theorem Eo{ρ ρ' :Type}(g:ρ->ρ')(n:Nat)(p:Nat->Option ρ):dD n (λi=>(p i).map g)=(dD n p).map g:=by
 unfold dD;induction n with
 |zero=>rfl|succ n ih=>rw[fP,jL,jL,ih];cases (List.range n).findSome? p<;>simp
def GU(l:X6)(s:V6):Option (Int×Int):=match dD s.2.2.1.length (inP l s)with|some r=>some r|none=>dD s.2.2.2.1.length (Zt l s)
theorem UX{s:V6}(hs:l.2.2[i]? =some s)(h1:s.2.2.1.length<=1000)(h2:s.2.2.2.1.length<=1000)(hf:Tv s):
  vG l (i:Int)=some (match GU l s with|some r=>Sl i r|none=>(0,0,0,0)):=by
 unfold vG GU;rw[L9,hs,o8];refine U8 (nS (p:=λk=>(inP l s k).map (Sl i)) s.2.2.1.length o5 _ (0,0,0,0) (λk hk=>?_) ?_) ?_
 rotate_left 2
 .rw[Eo];cases dD s.2.2.1.length (inP l s)
  case some r=>rfl
  simp only[Option.map_none,X0];refine U8 (nS (p:=λk=>(Zt l s k).map (Sl i)) s.2.2.2.1.length o5 _ (0,0,0,0) (λk hk=>?_) ?_) ?_
  rotate_left 2
  .rw[Eo];cases dD s.2.2.2.1.length (Zt l s)<;>rfl
  .have e:=kN hk;have hm:=hf.2 _ (O0 hk);simp only[P6 e,o7,L9,e,o8,nX hm,show o9 s.2.2.1=((s.2.2.1.length:Nat):Int)from rfl,Hq (show s.2.2.1.length<=1000000 by omega),Hq (show s.2.2.2.1.length<=1000000 by omega),iL,Zt,Jq,SA,bu];rw[show(200:Int)=((200:Nat):Int)from rfl,QZ o5 o5];cases oV s.2.2.2.1[k].1
   .rfl
   cases s.2.2.1.any λx=>seq x.1 s.2.2.2.1[k].1
   case true=>rfl
   cases (s.2.2.2.1.take k).any λx=>seq x.1 s.2.2.2.1[k].1
   case true=>rfl
   cases vty s.2.2.2.1[k].2 l.1<;>rfl
  .simp only[P5];rfl
 .have e:=kN hk;have hm:=hf.1 _ (O0 hk);simp only[P6 e,o7,L9,e,o8,nX hm,Hq (show s.2.2.1.length<=1000000 by omega),iL,inP,Jq,SA];rw[show(100:Int)=((100:Nat):Int)from rfl,QZ o5 o5];cases oV s.2.2.1[k].1
  .rfl
  cases (s.2.2.1.take k).any λx=>seq x.1 s.2.2.1[k].1
  case true=>rfl
  cases vty s.2.2.1[k].2 l.1<;>rfl
 .simp only[P5];rfl
def arF(op:Int):Int:=(iE op).getD 0
variable {op:Int}
theorem UR(h:1<=op/\op<=39):∃k:Fin 40,op=(k.val:Int):=⟨⟨op.toNat,o5⟩,by simp;omega⟩
theorem b6W:∀k:Fin 40,1<=k.val->(iq (k.val:Int)=iE (k.val:Int))/\(iE (k.val:Int)=some 0\/iE (k.val:Int)=some 1\/iE (k.val:Int)=some 2\/iE (k.val:Int)=some 3):=by decide+kernel
theorem Ye(h:¬(1<=op/\op<=39))(k:Int)(h1:1<=k)(h2:k<=39):x8 op k=false:=O9 o5
theorem Yu(h:¬(1<=op/\op<=39)):iE op=some (-1):=by
 unfold iE;by_cases h1:1<=op
 .rw[bP h1,o7,dE (show(9:Int)<op by omega),o6,dE (show(39:Int)<op by omega),dE (show(30:Int)<op by omega)];simp[Ye h];cases O7 35 op<;>cases O7 11 op<;>rfl
 .rw[dE (show op<1 by omega),o6,dE (show op<35 by omega),dE (show op<11 by omega)];simp[Ye h]
theorem b1S(h:¬(1<=op/\op<=39)):iq op=some (-1):=by unfold iq;simp[Ye h]
theorem FC(op:Int):iq op=some (arF op)/\iE op=some (arF op)/\(arF op=-1\/arF op=0\/arF op=1\/arF op=2\/arF op=3):=by
 unfold arF;by_cases h:1<=op/\op<=39
 .obtain⟨k,rfl⟩:=UR h;obtain⟨h1,h2⟩:=b6W k o5;rcases h2 with h2|h2|h2|h2<;>rw[h1,h2]<;>simp
 .rw[b1S h,Yu h];simp
theorem a5k(op:Int):iq op=some (arF op):=(FC op).1
theorem a1o(op:Int):iE op=some (arF op):=(FC op).2.1
inductive XT where
 |l0 (n:Int×Int)|l1 (n:Int×Int) (a:XT)|l2 (n:Int×Int) (a b:XT)|l3 (n:Int×Int) (a b c:XT)
def XT.size:XT->Nat
 | .l0 _=>1| .l1 _ a=>a.size+1| .l2 _ a b=>a.size+b.size+1| .l3 _ a b c=>a.size+b.size+c.size+1
def XT.post:XT->List (Int×Int)
 | .l0 n=>[n]| .l1 n a=>a.post++[n]| .l2 n a b=>a.post++b.post++[n]| .l3 n a b c=>a.post++b.post++c.post++[n]
def XT.sts(o:Nat):XT->List Int
 | .l0 _=>[(o:Int)]| .l1 _ a=>a.sts o++[(o:Int)]| .l2 _ a b=>a.sts o++b.sts (o+a.size)++[(o:Int)]| .l3 _ a b c=>a.sts o++b.sts (o+a.size)++c.sts (o+a.size+b.size)++[(o:Int)]
theorem XT.size_pos(t:XT):0<t.size:=by cases t<;>simp[XT.size]
theorem XT.post_len(t:XT):t.post.length=t.size:=by
 induction t with
 |l0 n=>rfl|l1 n a ha=>simp[XT.post,XT.size,ha]|l2 n a b ha hb=>simp[XT.post,XT.size,ha,hb];try omega
 |l3 n a b c ha hb hc=>simp[XT.post,XT.size,ha,hb,hc];try omega
theorem XT.sts_len(t:XT):∀o,(t.sts o).length=t.size:=by
 induction t with
 |l0 n=>intro o;rfl|l1 n a ha=>intro o;simp[XT.sts,XT.size,ha]|l2 n a b ha hb=>intro o;simp[XT.sts,XT.size,ha,hb];try omega
 |l3 n a b c ha hb hc=>intro o;simp[XT.sts,XT.size,ha,hb,hc];try omega
def gY:List XT->Nat
 |[]=>0|t::r=>gY r+t.size
def IK:List XT->List (Int×Int)
 |[]=>[]|t::r=>IK r++t.post
def stR:List XT->List Int
 |[]=>[]|t::r=>stR r++t.sts (gY r)
def lL:List XT->List Int
 |[]=>[]|t::r=>lL r++[(gY r:Int)]
theorem lH:∀ts,(lL ts).length=ts.length
 |[]=>rfl|t::r=>by simp[lL,lH r]
theorem BI:∀ts,(stR ts).length=gY ts
 |[]=>rfl|t::r=>by simp[stR,gY,BI r,XT.sts_len]
theorem KY:∀ts,(IK ts).length=gY ts
 |[]=>rfl|t::r=>by simp[IK,gY,KY r,XT.post_len]
def push(n:Int×Int)(ts:List XT):Int⊕List XT:=
 if arF n.1=0 then .inr (.l0 n::ts)
 else if arF n.1=1 then(match ts with|a::r=> .inr (.l1 n a::r)|_=> .inl 5)
 else if arF n.1=2 then(match ts with|b::a::r=> .inr (.l2 n a b::r)|_=> .inl 5)
 else if arF n.1=3 then(match ts with|c::b::a::r=> .inr (.l3 n a b c::r)|_=> .inl 5)
 else .inl 2
def tJ:Nat->List (Int×Int)->List XT->(Int×Int)⊕List XT
 |_,[],ts=> .inr ts
 |i,n::es,ts=>match push n ts with
  | .inl c=> .inl ((i:Int),c)| .inr ts' =>if 12<ts'.length then .inl ((i:Int),16)else tJ (i+1) es ts'
def jV(e:List (Int×Int)):(Int×Int)⊕XT:=
 if 48<e.length then .inl (0,4)else if e.length=0 then .inl (0,5)else
  match tJ 0 e []with
  | .inl x=> .inl x| .inr [t]=> .inr t| .inr _=> .inl ((e.length:Int),4)
theorem Xq{n:Int×Int}{ts ts' :List XT}(h:push n ts= .inr ts'):IK ts' =IK ts++[n]/\ts' ≠[]:=by
 unfold push at h;split at h
 .cases h;exact⟨rfl,A8⟩
 split at h
 .split at h
  .cases h;exact⟨by simp[IK,XT.post],A8⟩
  .cases h
 split at h
 .split at h
  .cases h;exact⟨by simp[IK,XT.post],A8⟩
  .cases h
 split at h
 .split at h
  .cases h;exact⟨by simp[IK,XT.post],A8⟩
  .cases h
 .cases h
theorem La{n:Int×Int}{ts ts' :List XT}(h:push n ts= .inr ts'):gY ts' =gY ts+1:=by rw[←KY,←KY,(Xq h).1];simp
theorem Ho:∀(es:List (Int×Int)) (i:Nat) (ts ts' :List XT),tJ i es ts= .inr ts' ->IK ts' =IK ts++es/\(ts≠[]\/es≠[]->ts' ≠[])
 |[],i,ts,ts',h=>by cases h;exact⟨A8,A8⟩|n::es,i,ts,ts',h=>by
  unfold tJ at h;cases hp:push n ts with
  |inl c=>rw[hp]at h;cases h|inr t2=>
   rw[hp]at h;simp only at h;split at h
   .cases h
   .obtain⟨h1,h2⟩:=Ho es (i+1) t2 ts' h;obtain⟨h3,h4⟩:=Xq hp;exact⟨by rw[h1,h3];simp,λ_=>h2 (.inl h4)⟩
theorem rq{e:List (Int×Int)}{t:XT}(h:jV e= .inr t):e=t.post/\e.length<=48:=by
 unfold jV at h;split at h
 .cases h
 split at h
 .cases h
 split at h
 .cases h
 .rename_i t' hp;cases h;have:=(Ho e 0 [] [t] hp).1;exact⟨by simpa[IK]using this.symm,o5⟩
 .cases h
theorem RZ(e:List (Int×Int))(he:e.length<=48)(g:List XT->σ)(fin:List XT->ε)(rt:Int×Int->ρ){f:σ->Option (Out σ ε ρ)}
  (hs:∀(i:Nat) (n:Int×Int) (ts:List XT),e[i]? =some n->i=gY ts->ts.length<=12->f (g ts)=some (match push n ts with
   | .inl c=> .rt (rt ((i:Int),c))
   | .inr ts' =>if 12<ts'.length then .rt (rt ((i:Int),16))else .nx (g ts')))
  (hend:∀ts,gY ts=e.length->f (g ts)=some (.ex (fin ts))):
  O6 f (g [])=some (match tJ 0 e []with| .inl x=> .inr (rt x)| .inr ts=> .inl (fin ts)):=by
 have key:∀(es:List (Int×Int)) (i:Nat) (ts:List XT) (k:Nat),e.drop i=es->i=gY ts->ts.length<=12->i<=e.length->es.length<k->
   jO f k (g ts)=some (match tJ i es ts with| .inl x=> .inr (rt x)| .inr ts=> .inl (fin ts)):=by
  intro es;induction es with
  |nil=>
   intro i ts k hd hi hl hle hk;obtain⟨k,rfl⟩:∃k',k=k' +1:=⟨k -1,o5⟩;have:i=e.length:=by have:=congrArg List.length hd;simp at this;omega
   unfold jO;rw[hend ts o5];rfl
  |cons n es ih=>
   intro i ts k hd hi hl hle hk;obtain⟨k,rfl⟩:∃k',k=k' +1:=⟨k -1,o5⟩;have hn:e[i]? =some n:=by
    have:(e.drop i)[0]? =some n:=by rw[hd];rfl
    simpa using this
   have hlt:=(aK.1 hn).1;unfold jO;rw[hs i n ts hn hi hl];unfold tJ;cases hp:push n ts with
   |inl c=>rfl|inr ts' =>
    simp only;by_cases h12:12<ts'.length
    .rw[if_pos h12,if_pos h12]
    .rw[if_neg h12,if_neg h12];exact ih (i+1) ts' k (by rw[←X8,hd];rfl) (by rw[La hp,hi]) o5 o5 (by simp at hk;omega)
 exact key e 0 [] jg rfl rfl A8 o5 (by unfold jg;omega)
theorem b_:∀(p r:List XT),∃X,lL (p++r)=lL r++X/\X.length=p.length/\(p≠[]->X.head?=some (gY r:Int))
 |[],r=>⟨[],A8,rfl,λh=>absurd rfl h⟩|a::p,r=>by
  obtain⟨X,h1,h2,h3⟩:=b_ p r;refine⟨X++[(gY (p++r):Int)],?_,by simp[h2],λ_=>?_⟩
  .show lL (p++r)++[(gY (p++r):Int)]=_;rw[h1,E5]
  .cases p with
   |nil=>simp at h2;subst h2;rfl|cons b p=>rw[List.head?_append,h3 A8];rfl
theorem Qi(p r:List XT)(k:Int)(hk:k=(p.length:Int))(h:p.length+r.length<=100)(hp:p≠[]):
  L6 .i64 (o9 (lL (p++r))) k=(r.length:Int)/\J4 (lL (p++r)) (r.length:Int)=some (gY r:Int)/\Y5 (lL (p++r)) (X4 (r.length:Int))=some (gY r:Int)
  /\jE 0 (r.length:Int) (o9 (lL (p++r)))=true/\iM (lL (p++r)) (X4 0) (X4 (r.length:Int))=lL r:=by
 obtain⟨X,h1,h2,h3⟩:=b_ p r;have hl:(lL (p++r)).length=r.length+p.length:=by rw[lH];simp;omega
 have hg:(lL (p++r))[r.length]? =some (gY r:Int):=by rw[h1,I8 (by rw[lH];omega),lH,gQ,←List.head?_eq_getElem?];exact h3 hp
 refine⟨?_,?_,?_,?_,?_⟩
 .simp only[o9,hl];rw[iU jb];omega
 .rw[L9];exact hg
 .exact hg
 .simp only[jE,o9,hl,decide_eq_true_eq];omega
 .show((lL (p++r)).take r.length).drop 0=_;rw[h1,jY,Y7 (by rw[lH];omega),U1 (by rw[lH];omega)]
theorem Rf(ts:List XT):G5 12 (o9 (lL ts))=decide (12<ts.length):=by rw[show o9 (lL ts)=((ts.length:Nat):Int) by simp[o9,lH]];exact NZ 12 ts.length
theorem mP{l:List α}(x:α)(h:l.length<=1000000):aT l [x]=some (l++[x]):=KR F5
theorem FW(ts:List XT)(k:Nat):G5 (o9 (lL ts)) (k:Int)=decide (ts.length<k):=by rw[show o9 (lL ts)=((ts.length:Nat):Int) by simp[o9,lH]];exact NZ _ _
def tX(e:List (Int×Int)):List Int×Int×Int:=match jV e with| .inl x=>([],x)| .inr t=>(t.sts 0,0,0)
theorem Xm{e:List (Int×Int)}(h0:e.length≠0){K:List Int×Int×Int->List Int×Int×Int}(h48:¬48<e.length)
  {r:List Int×Int×Int} (h:∀ts,tJ 0 e []= .inr ts->r=l7 (G5 1 (o9 (lL ts))) ([],o9 e,4) (stR ts,0,0)) (hi:∀x,tJ 0 e []= .inl x->r=([],x)):r=tX e:=by
 unfold tX jV;rw[if_neg h48,if_neg h0];cases hp:tJ 0 e []with
 |inl x=>exact hi x hp|inr ts=>
  rw[h ts hp];have:=(Ho e 0 [] ts hp).2 (.inr (by intro he;subst he;exact h0 rfl));match ts,this with
  |[t],_=>simp[lL,o9,G5,stR,gY]|a::b::ts,_=>rw[dP (by simp[o9,lH];omega)];rfl
theorem Ff(e:List (Int×Int)):pM e=some (tX e):=by
 unfold pM;by_cases h48:48<e.length
 .rw[dP (by simp[o9];omega),o7];unfold tX jV;rw[if_pos h48]
 by_cases h0:e.length=0
 .rw[bU (by simp[o9];omega),o6,bF (by simp[o9,h0]),o7];unfold tX jV;rw[if_neg h48,if_pos h0]
 rw[bU (by simp[o9];omega),o6,O9 (by simp[o9];intro h;exact h0 (by simp[h])),o6];refine U8 (RZ e o5 (λts=>(stR ts,lL ts,(gY ts:Int))) (λts=>(stR ts,lL ts)) (λx=>(([]:List Int),x)) (λi n ts hn hi hl=>?_) (λts hsz=>?_)) ?_
 rotate_left 2
 .rw[←Xm h0 h48 (K:=id) (r:=match tJ 0 e []with| .inl x=>([],x)| .inr ts=>l7 (G5 1 (o9 (lL ts))) ([],o9 e,4) (stR ts,0,0)) (λts h=>by rw[h]) (λx h=>by rw[h])];cases tJ 0 e []with
  |inl x=>rfl|inr ts=>simp only[o8,X0];cases G5 1 (o9 (lL ts))<;>rfl
 .subst hi;have hlt:=(aK.1 hn).1;have hst:=BI ts;have hof:=lH ts;simp only[P6 hn,o7,L9,hn,o8,a1o];rcases(FC n.1).2.2 with h|h|h|h|h
  .rw[show push n ts= .inl 2 by simp[push,h],h];rfl
  .rw[show push n ts= .inr (.l0 n::ts) by simp[push,h],h,bU o5,o6,bU (Ri _),o6,o6,mP _ o5,o8,mP _ o5,o8,eY o5];rw[show lL ts++[(gY ts:Int)]=lL (.l0 n::ts)from rfl,Rf];by_cases hc:12<(XT.l0 n::ts).length
   .simp only[hc,decide_true,if_true,o7]
   .simp only[hc,decide_false,if_false,o6];rfl
  .match ts with
   |[]=>rw[show push n []= .inl 5 by simp[push,h],h];rfl|a::r=>
    obtain⟨p1,p2,p3,p4,p5⟩:=Qi [a] r 1 rfl (by simp at hl ⊢;omega) A8;simp only[Z4,J3]at p1 p2 p3 p4 p5;have:=BI (a::r);have:=lH r;simp only[H5]at hl;rw[show push n (a::r)= .inr (.l1 n a::r) by simp[push,h],h,bU o5,o6,show(1:Int)=((1:Nat):Int)from rfl,FW,show decide ((a::r).length<1)=false by simp];simp only[Int.natCast_one]at p1 ⊢;rw[o6,dP o5,o7,p1,p2,o8,p3,o8,p4,o7,p5,mP _ o5,o8,mP _ o5,o8,eY o5];rw[show lL r++[(gY r:Int)]=lL (.l1 n a::r)from rfl,Rf];by_cases hc:12<(XT.l1 n a::r).length
    .simp only[hc,decide_true,if_true,o7]
    .simp only[hc,decide_false,if_false,o6,stR,XT.sts,E5,gY,XT.size,dH]
  .match ts with
   |[]=>rw[show push n []= .inl 5 by simp[push,h],h];rfl|[a]=>rw[show push n [a]= .inl 5 by simp[push,h],h];rfl|b::a::r=>
    obtain⟨p1,p2,p3,p4,p5⟩:=Qi [b,a] r 2 rfl (by simp at hl ⊢;omega) A8;simp only[Z4,J3]at p1 p2 p3 p4 p5;have:=BI (b::a::r);have:=lH r;simp only[H5]at hl;rw[show push n (b::a::r)= .inr (.l2 n a b::r) by simp[push,h],h,bU o5,o6,show(2:Int)=((2:Nat):Int)from rfl,FW,show decide ((b::a::r).length<2)=false by simp];rw[o6,dP o5,o7,show((2:Nat):Int)=2 from rfl,p1,p2,o8,p3,o8,p4,o7,p5,mP _ o5,o8,mP _ o5,o8,eY o5];rw[show lL r++[(gY r:Int)]=lL (.l2 n a b::r)from rfl,Rf];by_cases hc:12<(XT.l2 n a b::r).length
    .simp only[hc,decide_true,if_true,o7]
    .simp only[hc,decide_false,if_false,o6,stR,XT.sts,E5,gY,XT.size,dH]
  .match ts with
   |[]=>rw[show push n []= .inl 5 by simp[push,h],h];rfl|[a]=>rw[show push n [a]= .inl 5 by simp[push,h],h];rfl|[b,a]=>rw[show push n [b,a]= .inl 5 by simp[push,h],h];rfl|c::b::a::r=>
    obtain⟨p1,p2,p3,p4,p5⟩:=Qi [c,b,a] r 3 rfl (by simp at hl ⊢;omega) A8;simp only[Z4,J3]at p1 p2 p3 p4 p5;have:=BI (c::b::a::r);have:=lH r;simp only[H5]at hl;rw[show push n (c::b::a::r)= .inr (.l3 n a b c::r) by simp[push,h],h,bU o5,o6,show(3:Int)=((3:Nat):Int)from rfl,FW,show decide ((c::b::a::r).length<3)=false by simp];rw[o6,dP o5,o7,show((3:Nat):Int)=3 from rfl,p1,p2,o8,p3,o8,p4,o7,p5,mP _ o5,o8,mP _ o5,o8,eY o5];rw[show lL r++[(gY r:Int)]=lL (.l3 n a b c::r)from rfl,Rf];by_cases hc:12<(XT.l3 n a b c::r).length
    .simp only[hc,decide_true,if_true,o7]
    .simp only[hc,decide_false,if_false,o6,stR,XT.sts,E5,gY,XT.size,dH]
 .simp only[hsz,P5];rfl
def pd(l:List Int)(k:Nat):List Int:=l++List.replicate k 0
theorem a6k(l:List Int)(m:Nat):J4 (pd l (m+1)) (l.length:Int)=some 0:=by rw[L9];unfold pd;rw[I8 o5,gQ];rfl
theorem b0l(l:List Int)(m:Nat):Y5 (pd l (m+1)) (X4 (l.length:Int))=some 0:=by have:=a6k l m;rw[L9]at this;exact this
theorem b2p(l:List Int)(m:Nat)(v:Int):dW (pd l (m+1)) (X4 (l.length:Int)) v=pd (l++[v]) m:=by show(l++List.replicate (m+1) 0).set l.length v=_;rw[oJ _ _ o5,gQ,List.replicate_succ];simp[pd]
theorem Td(l:List Int)(m:Nat)(v w:Int):dW (pd (l++[v]) m) (X4 (l.length:Int)) w=pd (l++[w]) m:=by show(l++[v]++List.replicate m 0).set l.length w=_;rw[E5,oJ _ _ o5,gQ];simp[pd]
theorem OB(l:List Int)(m:Nat)(v:Int):J4 (pd (l++[v]) m) (l.length:Int)=some v:=by rw[L9];unfold pd;rw[E5,I8 o5,gQ];rfl
theorem OC(l:List Int)(m:Nat)(v:Int):Y5 (pd (l++[v]) m) (X4 (l.length:Int))=some v:=by have:=OB l m v;rw[L9]at this;exact this
theorem Ph(e:List (Int×Int)):ut e=some (tX e):=by
 unfold ut;by_cases h48:48<e.length
 .rw[dP (by simp[o9];omega),o7];unfold tX jV;rw[if_pos h48]
 by_cases h0:e.length=0
 .rw[bU (by simp[o9];omega),o6,bF (by simp[o9,h0]),o7];unfold tX jV;rw[if_neg h48,if_pos h0]
 rw[bU (by simp[o9];omega),o6,O9 (by simp[o9];intro h;exact h0 (by simp[h])),o6];rw[show yH (o9 e) (0:Int)=some (pd (stR []) (e.length -gY [])) by simp[yH,o9,pd,stR,gY];omega,o8];refine U8 (RZ e o5 (λts=>(pd (stR ts) (e.length -gY ts),lL ts,(gY ts:Int))) (λts=>(pd (stR ts) (e.length -gY ts),lL ts)) (λx=>(([]:List Int),x)) (λi n ts hn hi hl=>?_) (λts hsz=>?_)) ?_
 rotate_left 2
 .rw[←Xm h0 h48 (K:=id) (r:=match tJ 0 e []with| .inl x=>([],x)| .inr ts=>l7 (G5 1 (o9 (lL ts))) ([],o9 e,4) (stR ts,0,0)) (λts h=>by rw[h]) (λx h=>by rw[h])];cases hp:tJ 0 e []with
  |inl x=>rfl|inr ts=>
   have:=(Ho e 0 [] ts hp).1;have hz:e.length -gY ts=0:=by have:=congrArg List.length this;rw[KY]at this;simp[IK]at this;omega
   simp only[o8,X0,hz,pd,List.replicate_zero,H6];cases G5 1 (o9 (lL ts))<;>rfl
 .subst hi;have hlt:=(aK.1 hn).1;have hst:=BI ts;have hof:=lH ts;obtain⟨m,hm⟩:∃m,e.length -gY ts=m+1:=⟨e.length -gY ts -1,o5⟩;simp only[P6 hn,o7,L9 e,hn,o8,a5k,hm];rw[←hst];simp only[a6k,b0l,o8,b2p,OB,OC,Td];rw[hst];rcases(FC n.1).2.2 with h|h|h|h|h
  .rw[show push n ts= .inl 2 by simp[push,h],h];rfl
  .have e0:L6 .i64 (o9 (lL ts)) 0=((lL ts).length:Int):=by rw[iU (by unfold I64 o9;omega)];simp[o9]
   rw[show push n ts= .inr (.l0 n::ts) by simp[push,h],h,bU o5,o6,bU (Ri _),o6,o6,e0,show jE 0 ((lL ts).length:Int) (o9 (lL ts))=true by simp[jE,o9],o7,
    show iM (lL ts) (X4 0) (X4 ((lL ts).length:Int))=lL ts by simp[iM,X4],mP _ o5,o8,eY o5]
   rw[show lL ts++[(gY ts:Int)]=lL (.l0 n::ts)from rfl,Rf];by_cases hc:12<(XT.l0 n::ts).length
   .simp only[hc,decide_true,if_true,o7]
   .simp only[hc,decide_false,if_false,o6,gY,XT.size,stR,XT.sts,show e.length -(gY ts+1)=m by omega]
  .match ts with
   |[]=>rw[show push n []= .inl 5 by simp[push,h],h];rfl|a::r=>
    obtain⟨p1,p2,p3,p4,p5⟩:=Qi [a] r 1 rfl (by simp at hl ⊢;omega) A8;simp only[Z4,J3]at p1 p2 p3 p4 p5;have:=BI (a::r);have:=lH r;simp only[H5]at hl;rw[show push n (a::r)= .inr (.l1 n a::r) by simp[push,h],h,bU o5,o6,show(1:Int)=((1:Nat):Int)from rfl,FW,show decide ((a::r).length<1)=false by simp];simp only[Int.natCast_one]at p1 ⊢;rw[o6,dP o5,o7,p1,p2,o8,p3,o8,p4,o7,p5];rw[←hst]
    try simp only[Td,OB,OC,o8]
    rw[hst,mP _ o5,o8,eY o5];rw[show lL r++[(gY r:Int)]=lL (.l1 n a::r)from rfl,Rf];have hz:=La (show push n (a::r)= .inr (.l1 n a::r) by simp[push,h]);by_cases hc:12<(XT.l1 n a::r).length
    .simp only[hc,decide_true,if_true,o7]
    .simp only[hc,decide_false,if_false,o6,hz,show e.length -(gY (a::r)+1)=m by omega,stR,XT.sts,E5]
  .match ts with
   |[]=>rw[show push n []= .inl 5 by simp[push,h],h];rfl|[a]=>rw[show push n [a]= .inl 5 by simp[push,h],h];rfl|b::a::r=>
    obtain⟨p1,p2,p3,p4,p5⟩:=Qi [b,a] r 2 rfl (by simp at hl ⊢;omega) A8;simp only[Z4,J3]at p1 p2 p3 p4 p5;have:=BI (b::a::r);have:=lH r;simp only[H5]at hl;rw[show push n (b::a::r)= .inr (.l2 n a b::r) by simp[push,h],h,bU o5,o6,show(2:Int)=((2:Nat):Int)from rfl,FW,show decide ((b::a::r).length<2)=false by simp];rw[o6,dP o5,o7,show((2:Nat):Int)=2 from rfl,p1,p2,o8,p3,o8,p4,o7,p5];rw[←hst]
    try simp only[Td,OB,OC,o8]
    rw[hst,mP _ o5,o8,eY o5];rw[show lL r++[(gY r:Int)]=lL (.l2 n a b::r)from rfl,Rf];have hz:=La (show push n (b::a::r)= .inr (.l2 n a b::r) by simp[push,h]);by_cases hc:12<(XT.l2 n a b::r).length
    .simp only[hc,decide_true,if_true,o7]
    .rw[hz,show e.length -(gY (b::a::r)+1)=m by omega,show stR (.l2 n a b::r)=stR (b::a::r)++[(gY r:Int)] by simp only[stR,XT.sts,E5,gY]];simp only[hc,decide_false,if_false,o6]
  .match ts with
   |[]=>rw[show push n []= .inl 5 by simp[push,h],h];rfl|[a]=>rw[show push n [a]= .inl 5 by simp[push,h],h];rfl|[b,a]=>rw[show push n [b,a]= .inl 5 by simp[push,h],h];rfl|c::b::a::r=>
    obtain⟨p1,p2,p3,p4,p5⟩:=Qi [c,b,a] r 3 rfl (by simp at hl ⊢;omega) A8;simp only[Z4,J3]at p1 p2 p3 p4 p5;have:=BI (c::b::a::r);have:=lH r;simp only[H5]at hl;rw[show push n (c::b::a::r)= .inr (.l3 n a b c::r) by simp[push,h],h,bU o5,o6,show(3:Int)=((3:Nat):Int)from rfl,FW,show decide ((c::b::a::r).length<3)=false by simp];rw[o6,dP o5,o7,show((3:Nat):Int)=3 from rfl,p1,p2,o8,p3,o8,p4,o7,p5];rw[←hst]
    try simp only[Td,OB,OC,o8]
    rw[hst,mP _ o5,o8,eY o5];rw[show lL r++[(gY r:Int)]=lL (.l3 n a b c::r)from rfl,Rf];have hz:=La (show push n (c::b::a::r)= .inr (.l3 n a b c::r) by simp[push,h]);by_cases hc:12<(XT.l3 n a b c::r).length
    .simp only[hc,decide_true,if_true,o7]
    .rw[hz,show e.length -(gY (c::b::a::r)+1)=m by omega,show stR (.l3 n a b c::r)=stR (c::b::a::r)++[(gY r:Int)] by simp only[stR,XT.sts,E5,gY]];simp only[hc,decide_false,if_false,o6]
 .simp only[hsz,P5];rfl
end Go.GP
namespace Go.GP
open Gt
set_option maxRecDepth 100000
def VT(t:Int×Int):Prop:=t=(1,0)\/t=(2,0)\/t=(3,0)\/t=(4,0)\/t=(5,0)\/∃e,t=(6,e)
theorem KA{t:Int×Int}{en:List dh}(h:vty t en=true):VT t:=by
 obtain⟨k,e⟩:=t;unfold vty at h;simp only at h;cases h6:x8 k 6
 .rw[h6,o6]at h;cases h1:O7 1 k<;>rw[h1]at h
  .cases h
  cases h5:O7 k 5<;>rw[h5]at h
  .cases h
  simp only[o7,kX]at h;rw[yu]at h1 h5;subst h;have:k=1\/k=2\/k=3\/k=4\/k=5:=o5;rcases this with rfl|rfl|rfl|rfl|rfl<;>simp[VT]
 .rw[kX]at h6;subst h6;exact .inr (.inr (.inr (.inr (.inr ⟨e,rfl⟩))))
def EN(n:Int×Int)(ops:List (Int×Int))(sg:U0):Option ((Int×Int)×Int):=
 l7 (D9 (x8 n.2 0)) (l9 (bD n.1) λu=>l7 (D9 u) (some ((0,0),2)) (aZ n ops sg)) (aZ n ops sg)
def rC(n:Int×Int)(ops:List (Int×Int))(sg:U0):Prop:=∃r:(Int×Int)×Int,vg n ops sg=some r/\EN n ops sg=some r/\(r.2=0->VT r.1)
variable {k:Int}
theorem VT.lit(h:1<=k/\k<=5):VT (k,0):=by have:k=1\/k=2\/k=3\/k=4\/k=5:=o5;rcases this with rfl|rfl|rfl|rfl|rfl<;>simp[VT]
theorem NY(a b:Int):O7 a b= !G5 b a:=by simp only[G5,O7];rw[←decide_not];congr 1;simp
theorem ED{α β:Type}(o:Option β)(f:α->Option β):l9 (l9 o λx=>some (Sum.inr x)) (λq=>U3 q f λr=>some r)=o:=by cases o<;>rfl
theorem VT.enum(e:Int):VT (6,e):=.inr (.inr (.inr (.inr (.inr ⟨e,rfl⟩))))
theorem pY{R E:Option ((Int×Int)×Int)}{c:Int}(hc:c≠0)(h1:R=some ((0,0),c))(h2:E=some ((0,0),c)):∃r:(Int×Int)×Int,R=some r/\E=some r/\(r.2=0->VT r.1):=⟨_,h1,h2,λh=>absurd h hc⟩
theorem nok{R E:Option ((Int×Int)×Int)}{t:Int×Int}(hv:VT t)(h1:R=some (t,0))(h2:E=some (t,0)):∃r:(Int×Int)×Int,R=some r/\E=some r/\(r.2=0->VT r.1):=⟨_,h1,h2,λ_=>hv⟩
def RR(a0:Int×Int)(a1:List (Int×Int))(a2:U0):Option ((Int×Int)×Int):=
 l9 (rQ a0 a2) λ(x:Bool)=>l7 (D9 x) (some ((0,0),3)) (l9 (uF a0 a2) λ(x:Bool)=>l7 (D9 x) (some ((0,0),6))
  (l7 (x8 (o9 a1) 0) (l9 (kS a0 a2) λ(x:xB×Bool)=>l7 (D9 x.2) (some ((0,0),8)) (some (x.1,0)))
  (l7 (x8 (o9 a1) 1) (l9 (J4 a1 0) λ(x:xB)=>l9 (rU a0 x a2) λ(x:xB×Bool)=>l7 (D9 x.2) (some ((0,0),8)) (some (x.1,0)))
  (l7 (x8 (o9 a1) 2) (l9 (J4 a1 0) λ(x:xB)=>l9 (J4 a1 1) λ(x_1:xB)=>l9 (vk a0.1 x x_1) λ(x:xB×Bool)=>l7 (D9 x.2) (some ((0,0),8)) (some (x.1,0)))
  (l9 (J4 a1 1) λ(x:xB)=>l9 (J4 a1 0) λ(x_1:xB)=>l7 (x8 x_1.1 1) (l9 (J4 a1 1) λ(x_2:xB)=>l9 (J4 a1 2) λ(x_3:xB)=>
   l7 (D9 (dA (x8 x_2.1 x_3.1) (x8 x_2.2 x_3.2))) (some ((0,0),8)) (some (x,0))) (l7 (D9 false) (some ((0,0),8)) (some (x,0))))))))
theorem b6H(n:Int×Int)(ops:List (Int×Int))(sg:U0):vg n ops sg=l7 (D9 (x8 n.2 0)) (l9 (iJ n.1) λx=>l7 x (RR n ops sg) (some ((0,0),2))) (RR n ops sg):=by
 unfold vg;cases x8 n.2 0
 .simp only[af,o7];cases iJ n.1 with
  |none=>rfl|some b=>cases b<;>rfl
 .rfl
theorem JE{op N:Int}{ops:List (Int×Int)}{sg:U0}(h1:bD op=some true)(h2:iJ op=some true)
  (h:∃r:(Int×Int)×Int,RR (op,N) ops sg=some r/\aZ (op,N) ops sg=some r/\(r.2=0->VT r.1)):rC (op,N) ops sg:=by
 unfold rC;rw[b6H];unfold EN;dsimp only;rw[h1,h2];cases x8 N 0<;>exact h
theorem Qc{op N:Int}{ops:List (Int×Int)}{sg:U0}(h1:bD op=some false)(h2:iJ op=some false)
  (h:∃r:(Int×Int)×Int,RR (op,0) ops sg=some r/\aZ (op,0) ops sg=some r/\(r.2=0->VT r.1)):rC (op,N) ops sg:=by
 unfold rC;rw[b6H];unfold EN;dsimp only;rw[h1,h2];cases hz:x8 N 0
 .exact pY (c:=2) U9 rfl rfl
 .rw[kX]at hz;subst hz;exact h
section
variable (N:Int) (sg:U0)
theorem a5V(hk:k=1\/k=2\/k=3\/k=4\/k=5):rC (k,N) [] sg:=by
 have hv:vty (k,0) sg.1=true:=by rcases hk with rfl|rfl|rfl|rfl|rfl<;>rfl
 have hm:bD k=some true/\iJ k=some true:=by rcases hk with rfl|rfl|rfl|rfl|rfl<;>exact⟨rfl,rfl⟩
 refine JE hm.1 hm.2 ?_;have key:aZ (k,N) [] sg=jy N k sg:=by rcases hk with rfl|rfl|rfl|rfl|rfl<;>exact ED _ _
 have key2:RR (k,N) [] sg=l9 (l9 (dO (k,0) sg.1) λ(x:xB)=>l7 (O7 x.1 N) (some (O7 N x.2)) (some false)) λ(x:Bool)=>l7 (D9 x) (some ((0,0),3)) (some ((k,0),0)):=by rcases hk with rfl|rfl|rfl|rfl|rfl<;>rfl
 rw[key,key2];unfold jy;rw[Pz,Hr,o8,o8,Bq,Bq];cases O7 (bnd (k,0) sg.1).1 N
 .exact pY (c:=3) U9 rfl rfl
 cases O7 N (bnd (k,0) sg.1).2
 .exact pY (c:=3) U9 rfl rfl
 .exact nok (KA hv) rfl rfl
theorem a4u(hN:I64 N):rC (6,N) [] sg:=by
 have hq:0<=N->aY .i64 N 16=N / 16:=λh=>by rw[Oa (by rw[mY h];unfold I64 at*;omega),mY h]
 refine JE rfl rfl ?_;have hf:uF (6,N) sg=l7 (G5 (aY .i64 N 16) (o9 sg.1)) (l9 (J4 sg.1 (aY .i64 N 16)) λ(x:dh)=>some (G5 (fU N 16) (o9 x.2))) (some false):=rfl;have hl:kS (6,N) sg=some ((6,aY .i64 N 16),vty (6,aY .i64 N 16) sg.1):=by unfold kS;simp only[iL];rfl
 rw[show aZ (6,N) [] sg=zU N sg from ED _ _];unfold RR zU;rw[hf,show rQ (6,N) sg=some (O7 0 N)from rfl,hl];by_cases h0:0<=N
 .rw[bU h0,bP h0,hq h0];by_cases h1:N / 16<o9 sg.1
  .obtain⟨x,hx,_⟩:=tC (show 0<=N / 16 by omega) h1;rw[dP h1,dE h1,hx,show vty (6,N / 16) sg.1=true by unfold vty;simp only[bP (show 0<=N / 16 by omega),dP h1];rfl];simp only[o8,Bq];cases O7 (o9 x.2) (fU N 16)
   .exact nok (VT.enum (N / 16)) rfl rfl
   .exact pY (c:=6) U9 rfl rfl
  .have h1' :o9 sg.1<=N / 16:=o5;rw[bU h1',bP h1'];exact pY (c:=6) U9 rfl rfl
 .rw[dP (show N<0 by omega),dE (show N<0 by omega)];exact pY (c:=3) U9 rfl rfl
theorem yF(ts:List (Int×Int))(en:U0):(∃x,J4 ts N=some x/\O7 0 N=true/\G5 N (o9 ts)=true/\jl N ts en=some (l7 (vty x en.1) (x,0) ((0,0),8)))\/((O7 0 N=false\/O7 0 N=true/\G5 N (o9 ts)=false)/\jl N ts en=some ((0,0),6)):=by
 unfold jl;rw[Bq N 0,NY (o9 ts) N];cases h0:O7 0 N
 .exact .inr ⟨.inl A8,rfl⟩
 cases h1:G5 N (o9 ts)
 .exact .inr ⟨.inr A8,rfl⟩
 rw[yu]at h0;rw[Bo]at h1;obtain⟨x,hx,_⟩:=tC h0 h1;rw[hx];simp only[jo,Bool.not_false,o6,o7,o8,vS];exact .inl ⟨x,rfl,A8,A8,by cases vty x en.1<;>rfl⟩
theorem a9X:rC (7,N) [] sg:=by
 refine JE rfl rfl ?_;rw[show aZ (7,N) [] sg=jl N sg.2.2.1 sg from ED _ _];have hf:uF (7,N) sg=l7 (O7 0 N) (some (G5 N (o9 sg.2.2.1))) (some false):=rfl;unfold RR;rw[hf,show rQ (7,N) sg=some true from rfl];rcases yF N sg.2.2.1 sg with⟨x,h1,h2,h3,h4⟩|⟨h1|⟨h1,h2⟩,h4⟩
 .have hl:kS (7,N) sg=some (x,vty x sg.1):=by
   unfold kS;dsimp only;rw[h1];simp only[iL];rfl
  rw[h2,h3,h4,hl];cases hv:vty x sg.1
  .exact pY (c:=8) U9 rfl rfl
  .exact nok (KA hv) rfl rfl
 .rw[h1,h4];exact pY (c:=6) U9 rfl rfl
 .rw[h1,h2,h4];exact pY (c:=6) U9 rfl rfl
theorem a5U:rC (8,N) [] sg:=by
 refine JE rfl rfl ?_;rw[show aZ (8,N) [] sg=jl N sg.2.2.2.1 sg from ED _ _];have hf:uF (8,N) sg=l7 (O7 0 N) (some (G5 N (o9 sg.2.2.2.1))) (some false):=rfl;unfold RR;rw[hf,show rQ (8,N) sg=some true from rfl];rcases yF N sg.2.2.2.1 sg with⟨x,h1,h2,h3,h4⟩|⟨h1|⟨h1,h2⟩,h4⟩
 .have hl:kS (8,N) sg=some (x,vty x sg.1):=by
   unfold kS;dsimp only;rw[h1];simp only[iL];rfl
  rw[h2,h3,h4,hl];cases hv:vty x sg.1
  .exact pY (c:=8) U9 rfl rfl
  .exact nok (KA hv) rfl rfl
 .rw[h1,h4];exact pY (c:=6) U9 rfl rfl
 .rw[h1,h2,h4];exact pY (c:=6) U9 rfl rfl
theorem a4t:rC (9,N) [] sg:=Qc rfl rfl (nok (VT.lit (k:=5) o5) rfl rfl)
theorem a1b:rC (35,N) [] sg:=by
 refine Qc rfl rfl ?_;rw[show aZ (35,0) [] sg=pG (35,0) sg from ED _ _];unfold RR pG;simp only[rQ,uF,kS,iL,o8];cases sg.2.2.2.2.2
 .exact pY (c:=6) U9 rfl rfl
 .exact nok (VT.lit (k:=2) o5) rfl rfl
theorem a5W(hk:k=36\/k=37\/k=38\/k=39):rC (k,N) [] sg:=by
 have hm:bD k=some true/\iJ k=some true/\x8 k 35=false:=by rcases hk with rfl|rfl|rfl|rfl<;>exact⟨rfl,rfl,rfl⟩
 refine JE hm.1 hm.2.1 ?_;rw[show aZ (k,N) [] sg=pG (k,N) sg by rcases hk with rfl|rfl|rfl|rfl<;>exact ED _ _];have hr:RR (k,N) [] sg=l9 (l7 sg.2.2.2.2.2 (l7 (O7 0 N) (some (G5 N (o9 sg.2.2.2.2.1))) (some false)) (some false)) λ(x:Bool)=>l7 (D9 x) (some ((0,0),6))
   (l9 (kS (k,N) sg) λ(x:xB×Bool)=>l7 (D9 x.2) (some ((0,0),8)) (some (x.1,0))):=by rcases hk with rfl|rfl|rfl|rfl<;>rfl
 rw[hr];unfold pG;rw[hm.2.2,o6];cases sg.2.2.2.2.2
 .exact pY (c:=6) U9 rfl rfl
 simp only[o7,J7,o6];rcases yF N sg.2.2.2.2.1 sg with⟨x,h1,h2,h3,h4⟩|⟨h1|⟨h1,h2⟩,h4⟩
 .rw[h2,h3,h4];have hl:kS (k,N) sg=l9 (some (l7 (x8 k 36) (l7 (vty x sg.1) (l7 (x8 x.1 2) true (x8 x.1 3)) false) (l7 (x8 k 39) (l7 (vty x sg.1) (l7 (x8 x.1 2) true (l7 (x8 x.1 3) true (l7 (x8 x.1 4) true (x8 x.1 5)))) false) (l7 (vty x sg.1) (x8 x.1 1) false)))) λb=>some (x,b):=by
   unfold kS;simp only[iL,qp,vz];rcases hk with rfl|rfl|rfl|rfl<;>(rw[h1];simp only[x8,Int.reduceEq,decide_true,decide_false,o7,o6,o8];cases vty x sg.1<;>cases decide (x.1=2)<;>cases decide (x.1=3)<;>cases decide (x.1=4)<;>rfl)
  rw[hl];simp only[o8,kW];cases hv:vty x sg.1
  .rcases hk with rfl|rfl|rfl|rfl<;>exact pY (c:=8) U9 rfl rfl
  .have hx:=KA hv;rcases hk with rfl|rfl|rfl|rfl<;>rcases hx with rfl|rfl|rfl|rfl|rfl|⟨e,rfl⟩ <;>
    first
    |exact nok (KA hv) rfl rfl
    |exact pY (c:=8) U9 rfl rfl
 .rw[h1,h4];exact pY (c:=6) U9 rfl rfl
 .rw[h1,h2,h4];exact pY (c:=6) U9 rfl rfl
end
end Go.GP
namespace Go.GP
open Gt
set_option maxRecDepth 100000
variable {a:Int×Int}{k:Int}{b:Int×Int}
section
variable (N:Int) (sg:U0)
theorem a9Y(hk:k=10\/k=25\/k=31\/k=32)(ha:VT a):rC (k,N) [a] sg:=by
 have hm:bD k=some false/\iJ k=some false:=by rcases hk with rfl|rfl|rfl|rfl<;>exact⟨rfl,rfl⟩
 refine Qc hm.1 hm.2 ?_;rcases hk with rfl|rfl|rfl|rfl<;>rcases ha with rfl|rfl|rfl|rfl|rfl|⟨e,rfl⟩ <;>
  first
  |exact nok (VT.lit (k:=1) o5) rfl rfl
  |exact nok (VT.lit (k:=2) o5) rfl rfl
  |exact nok (VT.lit (k:=3) o5) rfl rfl
  |exact nok (VT.lit (k:=4) o5) rfl rfl
  |exact pY (c:=8) U9 rfl rfl
theorem a5T(hk:k=13\/k=23\/k=24\/k=27\/k=28\/k=29\/k=30)(ha:VT a)(hb:VT b):rC (k,N) [a,b] sg:=by
 have hm:bD k=some false/\iJ k=some false:=by rcases hk with rfl|rfl|rfl|rfl|rfl|rfl|rfl<;>exact⟨rfl,rfl⟩
 refine Qc hm.1 hm.2 ?_;rcases hk with rfl|rfl|rfl|rfl|rfl|rfl|rfl<;>rcases ha with rfl|rfl|rfl|rfl|rfl|⟨e,rfl⟩<;>rcases hb with rfl|rfl|rfl|rfl|rfl|⟨f,rfl⟩ <;>
  first
  |exact pY (c:=8) U9 rfl rfl
  |exact nok (VT.lit (k:=1) o5) rfl rfl
  |exact nok (VT.lit (k:=2) o5) rfl rfl
  |exact nok (VT.lit (k:=3) o5) rfl rfl
  |exact nok (VT.lit (k:=4) o5) rfl rfl
  |exact nok (VT.lit (k:=5) o5) rfl rfl
theorem a4v(hk:k=14\/k=15\/k=16)(ha:VT a)(hb:VT b):rC (k,N) [a,b] sg:=by
 have hm:bD k=some true/\iJ k=some true:=by rcases hk with rfl|rfl|rfl<;>exact⟨rfl,rfl⟩
 refine JE hm.1 hm.2 ?_;have hr:RR (k,N) [a,b] sg=l9 (l7 (O7 0 N) (some (O7 N 5)) (some false)) λx=>l7 (D9 x) (some ((0,0),3)) (l9 (vk k a b) λx=>l7 (D9 x.2) (some ((0,0),8)) (some (x.1,0))):=by rcases hk with rfl|rfl|rfl<;>rfl
 have he:aZ (k,N) [a,b] sg=l9 (l7 (O7 0 N) (some (O7 N 5)) (some false)) λx=>l7 (D9 x) (some ((0,0),3)) (l9 (mg k [a,b]) λx=>l7 (D9 x.2) (some ((0,0),8)) (some (x.1,0))):=by
  rcases hk with rfl|rfl|rfl <;>
   (show l9 (l9 (lq N) λx=>l7 (D9 x) (some (Sum.inr (((0:Int),(0:Int)),(3:Int)))) (some (.inl ((0:Int),(0:Int))))) _=_
    unfold lq;cases O7 0 N<;>cases O7 N 5<;>rfl)
 rw[hr,he];cases O7 0 N
 .exact pY (c:=3) U9 rfl rfl
 cases O7 N 5
 .exact pY (c:=3) U9 rfl rfl
 rcases hk with rfl|rfl|rfl<;>rcases ha with rfl|rfl|rfl|rfl|rfl|⟨e,rfl⟩<;>rcases hb with rfl|rfl|rfl|rfl|rfl|⟨f,rfl⟩ <;>
  first
  |exact pY (c:=8) U9 rfl rfl
  |exact nok (VT.lit (k:=2) o5) rfl rfl
  |exact nok (VT.lit (k:=3) o5) rfl rfl
  |exact nok (VT.lit (k:=4) o5) rfl rfl
theorem a4w(hk:k=11\/k=12\/k=17\/k=18\/k=19\/k=20\/k=21\/k=22)(ha:VT a):rC (k,N) [a,b] sg:=by
 have hm:bD k=some false/\iJ k=some false:=by rcases hk with rfl|rfl|rfl|rfl|rfl|rfl|rfl|rfl<;>exact⟨rfl,rfl⟩
 refine Qc hm.1 hm.2 ?_;have hr:RR (k,0) [a,b] sg=l9 (vk k a b) λx=>l7 (D9 x.2) (some ((0,0),8)) (some (x.1,0)):=by rcases hk with rfl|rfl|rfl|rfl|rfl|rfl|rfl|rfl<;>rfl
 have he:aZ (k,0) [a,b] sg=l9 (mg k [a,b]) λx=>l7 (D9 x.2) (some ((0,0),8)) (some (x.1,0)):=by rcases hk with rfl|rfl|rfl|rfl|rfl|rfl|rfl|rfl<;>rfl
 rw[hr,he];unfold vk mg;simp only[show J4 [a,b] 0=some a from rfl,show J4 [a,b] 1=some b from rfl,o8,vz,qp,iF,kW];cases h1:x8 a.1 b.1
 .rcases hk with rfl|rfl|rfl|rfl|rfl|rfl|rfl|rfl<;>exact pY (c:=8) U9 rfl rfl
 cases h2:x8 a.2 b.2
 .rcases hk with rfl|rfl|rfl|rfl|rfl|rfl|rfl|rfl<;>exact pY (c:=8) U9 rfl rfl
 have ha' :=ha;rcases hk with rfl|rfl|rfl|rfl|rfl|rfl|rfl|rfl<;>rcases ha with rfl|rfl|rfl|rfl|rfl|⟨e,rfl⟩ <;>
  first
  |exact nok ha' rfl rfl
  |exact nok (VT.lit (k:=1) o5) rfl rfl
  |exact pY (c:=8) U9 rfl rfl
theorem a9W{a b c:Int×Int}(ha:VT a)(hb:VT b):rC (26,N) [a,b,c] sg:=by
 refine Qc rfl rfl ?_;have hr:RR (26,0) [a,b,c] sg=l7 (x8 a.1 1) (l7 (D9 (dA (x8 b.1 c.1) (x8 b.2 c.2))) (some ((0,0),8)) (some (b,0))) (some ((0,0),8)):=rfl;have he:aZ (26,0) [a,b,c] sg=l9 (mg 26 [a,b,c]) λx=>l7 (D9 x.2) (some ((0,0),8)) (some (x.1,0)):=rfl;have he2:mg 26 [a,b,c]=l9 (l7 (x8 a.1 1) (some (Sum.inr (b,dA (x8 b.1 c.1) (x8 b.2 c.2)))) (some (Sum.inr (b,false)))) λ(o:xB⊕xB×Bool)=>U3 o (λ(x:xB)=>some ((0,0),false)) λ(r:xB×Bool)=>some r:=rfl;rw[hr,he,he2];cases x8 a.1 1
 .exact pY (c:=8) U9 rfl rfl
 cases x8 b.1 c.1
 .exact pY (c:=8) U9 rfl rfl
 cases x8 b.2 c.2
 .exact pY (c:=8) U9 rfl rfl
 .exact nok hb rfl rfl
theorem ZZ(ha:VT a):rC (33,N) [a] sg:=by
 refine JE rfl rfl ?_;have he:aZ (33,N) [a] sg=qH (33,N) a sg:=ED _ _;have hr:RR (33,N) [a] sg=l9 (l7 (O7 0 N) (some (G5 N (o9 sg.2.1))) (some false)) λx=>l7 (D9 x) (some ((0,0),6)) (l9 (rU (33,N) a sg) λx=>l7 (D9 x.2) (some ((0,0),8)) (some (x.1,0))):=rfl;have hs:rU (33,N) a sg=l9 (J4 sg.2.1 N) λ(x:dw)=>l9 (Y3 x.2.1 sg.1) λ(x_1:Bool)=>l7 x_1 (l9 (Y3 x.2.2.1 sg.1) λ(x_2:Bool)=>l7 x_2 (some (x.2.2.1,dA (x8 a.1 x.2.1.1) (x8 a.2 x.2.1.2))) (some (x.2.2.1,false))) (some (x.2.2.1,false)):=rfl;rw[he,hr,hs];unfold qH;simp only[x8,Int.reduceEq,decide_false,o6,o8,X0,Bq N 0,NY (o9 sg.2.1) N];cases h0:O7 0 N
 .exact pY (c:=6) U9 rfl rfl
 cases h1:G5 N (o9 sg.2.1)
 .exact pY (c:=6) U9 rfl rfl
 rw[yu]at h0;rw[Bo]at h1;obtain⟨x,hx,_⟩:=tC h0 h1;simp only[o8,X0,jo,o6,hx,vS,iL,af,o7];cases vty x.2.1 sg.1
 .exact pY (c:=8) U9 rfl rfl
 cases hv:vty x.2.2.1 sg.1
 .exact pY (c:=8) U9 rfl rfl
 simp only[J7,o6,o7,o8];cases dA (decide (a.1=x.2.1.1)) (decide (a.2=x.2.1.2))
 .exact pY (c:=8) U9 rfl rfl
 .exact nok (KA hv) rfl rfl
theorem Wl(hN:I64 N)(ha:VT a):rC (34,N) [a] sg:=by
 refine JE rfl rfl ?_;have he:aZ (34,N) [a] sg=qH (34,N) a sg:=ED _ _;have hr:RR (34,N) [a] sg=l9 (l7 (O7 0 N) (some (O7 (fU N 8) 5)) (some false)) λx=>l7 (D9 x) (some ((0,0),3)) (l7 (D9 (G5 (aY .i64 N 8) (o9 sg.2.1))) (some ((0,0),6)) (l9 (rU (34,N) a sg) λx=>l7 (D9 x.2) (some ((0,0),8)) (some (x.1,0)))):=rfl;have hs:rU (34,N) a sg=l9 (J4 sg.2.1 (aY .i64 N 8)) λ(x:dw)=>l7 (x8 a.1 3) (l7 (dA (x8 x.2.1.1 3) (x8 x.2.1.2 0)) (some (a,dA (x8 x.2.2.1.1 4) (x8 x.2.2.1.2 0))) (some (a,false))) (some (a,false)):=rfl;rw[he,hr,hs];unfold qH lq;by_cases h0:0<=N
 case neg=>rw[dE (show N<0 by omega),dP (show N<0 by omega)];exact pY (c:=3) U9 rfl rfl
 have hq:aY .i64 N 8=N / 8:=by rw[Oa (by rw[mY h0];unfold I64 at*;omega),mY h0]
 rw[bP h0,bU h0,hq,CU h0];simp only[x8,Int.reduceEq,decide_true,o7,o6,bP (show 0<=N % 8 by omega),o8];cases O7 (N % 8) 5
 .exact pY (c:=3) U9 rfl rfl
 simp only[J7,o6,o8,X0,bU (show 0<=N / 8 by omega),NY];cases h1:G5 (N / 8) (o9 sg.2.1)
 .exact pY (c:=6) U9 rfl rfl
 rw[Bo]at h1;obtain⟨x,hx,_⟩:=tC (show 0<=N / 8 by omega) h1;simp only[hx,jo,o6,o8,X0,vS,J7];obtain⟨nm,⟨k1,k2⟩,⟨v1,v2⟩,rows⟩:=x;dsimp only;by_cases hK:k1=3/\k2=0
 .obtain⟨rfl,rfl⟩:=hK;by_cases hV:v1=4/\v2=0
  .obtain⟨rfl,rfl⟩:=hV;rcases ha with rfl|rfl|rfl|rfl|rfl|⟨e,rfl⟩ <;>
    first
    |exact nok (VT.lit (k:=3) o5) rfl rfl
    |exact pY (c:=8) U9 rfl rfl
  .have hE:vty (v1,v2) sg.1=true->v1≠4:=λhv h=>by
    subst h;rcases KA hv with h|h|h|h|h|⟨e,h⟩<;>cases h;exact hV ⟨rfl,rfl⟩
   have hR:dA (decide (v1=4)) (decide (v2=0))=false:=by
    by_cases h1:v1=4
    .have:v2≠0:=λh2=>hV ⟨h1,h2⟩;simp[dA,h1,this]
    .simp[dA,h1]
   rw[hR];cases hv:vty (v1,v2) sg.1
   .rcases ha with rfl|rfl|rfl|rfl|rfl|⟨e,rfl⟩<;>exact pY (c:=8) U9 rfl rfl
   .have h4:=hE hv;rw[show decide (v1=4)=false by simp[h4]];rcases ha with rfl|rfl|rfl|rfl|rfl|⟨e,rfl⟩<;>exact pY (c:=8) U9 rfl rfl
 .have hR:dA (decide (k1=3)) (decide (k2=0))=false:=by
   by_cases h1:k1=3
   .have:k2≠0:=λh2=>hK ⟨h1,h2⟩;simp[dA,h1,this]
   .simp[dA,h1]
  rw[hR];cases hv:vty (k1,k2) sg.1
  .rcases ha with rfl|rfl|rfl|rfl|rfl|⟨e,rfl⟩<;>exact pY (c:=8) U9 rfl rfl
  cases hw:vty (v1,v2) sg.1
  .rcases ha with rfl|rfl|rfl|rfl|rfl|⟨e,rfl⟩<;>exact pY (c:=8) U9 rfl rfl
  have h3:k1≠3:=λh=>by subst h;rcases KA hv with h|h|h|h|h|⟨e,h⟩<;>cases h;exact hK ⟨rfl,rfl⟩
  simp only[show decide (k1=3)=false by simp[h3],J7,o6,o7,o8];cases dA (decide (a.1=k1)) (decide (a.2=k2))
  .cases decide (a.1=3)<;>exact pY (c:=8) U9 rfl rfl
  .cases decide (a.1=3)<;>exact pY (c:=8) U9 rfl rfl
theorem Yk(n:Int×Int)(hN:I64 n.2)(ops:List (Int×Int))(hv:∀t∈ops,VT t)(hl:o9 ops=arF n.1):rC n ops sg:=by
 obtain⟨op,N⟩:=n;dsimp only at hN hl;have hr:1<=op/\op<=39:=by
  by_cases h:1<=op/\op<=39
  .exact h
  .have:arF op=-1:=by unfold arF;rw[Yu h];rfl
   rw[this]at hl;simp[o9]at hl
 have hc:op=1\/op=2\/op=3\/op=4\/op=5\/op=6\/op=7\/op=8\/op=9\/op=10\/op=11\/op=12\/op=13\/op=14\/op=15\/op=16\/op=17\/op=18\/op=19\/op=20\/op=21\/op=22\/op=23\/op=24\/op=25\/op=26\/op=27\/op=28\/op=29\/op=30\/op=31\/op=32\/op=33\/op=34\/op=35\/op=36\/op=37\/op=38\/op=39:=o5;have L0:arF op=0->ops=[]:=λh=>by rw[h]at hl;simp only[o9]at hl;exact aA.1 o5
 have L1:arF op=1->∃a,ops=[a]/\VT a:=λh=>by
  rw[h]at hl;simp only[o9]at hl;match ops,hl,hv with
  |[a],_,hv=>exact⟨a,rfl,hv a A8⟩|[],hl,_=>simp at hl|a::b::r,hl,_=>simp at hl;omega
 have L2:arF op=2->∃a b,ops=[a,b]/\VT a/\VT b:=λh=>by
  rw[h]at hl;simp only[o9]at hl;match ops,hl,hv with
  |[a,b],_,hv=>exact⟨a,b,rfl,hv a A8,hv b A8⟩|[],hl,_=>simp at hl|[a],hl,_=>simp at hl|a::b::c::r,hl,_=>simp at hl;omega
 have L3:arF op=3->∃a b c,ops=[a,b,c]/\VT a/\VT b:=λh=>by
  rw[h]at hl;simp only[o9]at hl;match ops,hl,hv with
  |[a,b,c],_,hv=>exact⟨a,b,c,rfl,hv a A8,hv b A8⟩|[],hl,_=>simp at hl|[a],hl,_=>simp at hl|[a,b],hl,_=>simp at hl|a::b::c::d::r,hl,_=>simp at hl;omega
 rcases hc with rfl|rfl|rfl|rfl|rfl|rfl|rfl|rfl|rfl|rfl|rfl|rfl|rfl|rfl|rfl|rfl|rfl|rfl|rfl|rfl|rfl|rfl|rfl|rfl|rfl|rfl|rfl|rfl|rfl|rfl|rfl|rfl|rfl|rfl|rfl|rfl|rfl|rfl|rfl <;>
  first
  |(rw[L0 rfl];first|exact a5V N sg o5|exact a4u N sg hN|exact a9X N sg|exact a5U N sg|exact a4t N sg|exact a1b N sg|exact a5W N sg o5)
  |(obtain⟨a,rfl,ha⟩:=L1 rfl;first|exact a9Y N sg o5 ha|exact ZZ N sg ha|exact Wl N sg hN ha)
  |(obtain⟨a,b,rfl,ha,hb⟩:=L2 rfl;first|exact a5T N sg o5 ha hb|exact a4v N sg o5 ha hb|exact a4w N sg o5 ha)
  |(obtain⟨a,b,c,rfl,ha,hb⟩:=L3 rfl;exact a9W N sg ha hb)
end
end Go.GP
namespace Go.GP
open Gt
set_option maxRecDepth 100000
def XT.wf:XT->Prop
 | .l0 n=>arF n.1=0| .l1 n a=>arF n.1=1/\a.wf| .l2 n a b=>arF n.1=2/\a.wf/\b.wf| .l3 n a b c=>arF n.1=3/\a.wf/\b.wf/\c.wf
theorem b0n{n:Int×Int}{ts ts' :List XT}(h:push n ts= .inr ts')(hw:∀t∈ts,t.wf):∀t∈ts',t.wf:=by
 unfold push at h;split at h
 .cases h;intro t ht;rcases D6.1 ht with rfl|ht
  .assumption
  .exact hw t ht
 split at h
 .split at h
  .cases h;intro t ht;rcases D6.1 ht with rfl|ht
   .exact⟨by assumption,hw _ A8⟩
   .exact hw t (by simp[ht])
  .cases h
 split at h
 .split at h
  .cases h;intro t ht;rcases D6.1 ht with rfl|ht
   .exact⟨by assumption,hw _ A8,hw _ A8⟩
   .exact hw t (by simp[ht])
  .cases h
 split at h
 .split at h
  .cases h;intro t ht;rcases D6.1 ht with rfl|ht
   .exact⟨by assumption,hw _ A8,hw _ A8,hw _ A8⟩
   .exact hw t (by simp[ht])
  .cases h
 .cases h
theorem j_:∀(es:List (Int×Int)) (i:Nat) (ts ts' :List XT),tJ i es ts= .inr ts' ->(∀t∈ts,t.wf)->∀t∈ts',t.wf
 |[],i,ts,ts',h,hw=>by cases h;exact hw|n::es,i,ts,ts',h,hw=>by
  unfold tJ at h;cases hp:push n ts with
  |inl c=>rw[hp]at h;cases h|inr t2=>
   rw[hp]at h;simp only at h;split at h
   .cases h
   .exact j_ es (i+1) t2 ts' h (b0n hp hw)
variable {e:List (Int×Int)}
theorem QF{t:XT}(h:jV e= .inr t):t.wf:=by
 unfold jV at h;split at h
 .cases h
 split at h
 .cases h
 split at h
 .cases h
 .rename_i t' hp;cases h;exact j_ e 0 [] [t] hp A8 t A8
 .cases h
def YE(n:Int×Int)(ops:List (Int×Int))(sg:U0):(Int×Int)×Int:=(vg n ops sg).getD ((0,0),0)
def JD(sg:U0)(n:Int×Int)(ops:List (Int×Int))(i:Nat):(Int×Int)⊕(Int×Int):=if(YE n ops sg).2=0 then .inr (YE n ops sg).1 else .inl ((i:Int),(YE n ops sg).2)
def zf(sg:U0):XT->Nat->(Int×Int)⊕(Int×Int)
 | .l0 n,o=>JD sg n [] o
 | .l1 n a,o=>match zf sg a o with
  | .inl x=> .inl x| .inr ta=>JD sg n [ta] (o+a.size)
 | .l2 n a b,o=>match zf sg a o with
  | .inl x=> .inl x
  | .inr ta=>match zf sg b (o+a.size)with
   | .inl x=> .inl x| .inr tb=>JD sg n [ta,tb] (o+a.size+b.size)
 | .l3 n a b c,o=>match zf sg a o with
  | .inl x=> .inl x
  | .inr ta=>match zf sg b (o+a.size)with
   | .inl x=> .inl x
   | .inr tb=>match zf sg c (o+a.size+b.size)with
    | .inl x=> .inl x| .inr tc=>JD sg n [ta,tb,tc] (o+a.size+b.size+c.size)
variable {sg:U0}{i:Nat}{t:Int×Int}
theorem Om{n:Int×Int}{ops:List (Int×Int)}(hN:I64 n.2)(hv:∀t∈ops,VT t)(hl:o9 ops=arF n.1)(h:JD sg n ops i= .inr t):VT t:=by
 obtain⟨r,h1,h2,h3⟩:=Yk sg n hN ops hv hl;unfold JD at h;split at h
 .rename_i h0;cases h;have e:YE n ops sg=r:=by unfold YE;rw[h1];rfl
  rw[e]at h0 ⊢;exact h3 h0
 .cases h
section
variable (e:List (Int×Int)) (sg:U0) (z:Int×Int)
def b1o(f:(Int×Int)×List (Int×Int)×Int->Option (Out ((Int×Int)×List (Int×Int)×Int) ((Int×Int)×List (Int×Int)) ((Int×Int)×Int×Int))):Prop:=
 ∀(i:Nat) (n:Int×Int) (s ops:List (Int×Int)),e[i]? =some n->i<=100->o9 ops=arF n.1->(∀t∈ops,VT t)->s.length+ops.length<=100->
  f (z,s++ops,(i:Int))=some (match JD sg n ops i with| .inl x=> .rt ((0,0),x)| .inr t=> .nx (z,s++[t],((i+1:Nat):Int)))
theorem a4Y{f:(Int×Int)×List (Int×Int)×Int->Option (Out ((Int×Int)×List (Int×Int)×Int) ((Int×Int)×List (Int×Int)) ((Int×Int)×Int×Int))}
  (he:e.length<=48) (hI:∀n∈e,I64 n.2) (hs:b1o e sg z f):∀(t:XT),t.wf->∀(pre suf s:List (Int×Int)) (k:Nat),e=pre++t.post++suf->s.length<=pre.length->
  jO f (k+t.size) (z,s,(pre.length:Int))=(match zf sg t pre.length with| .inl x=>some (.inr ((0,0),x))| .inr r=>jO f k (z,s++[r],((pre.length+t.size:Nat):Int)))/\∀r,zf sg t pre.length= .inr r->VT r:=by
 intro t;have step:∀(i k:Nat) (n:Int×Int) (s ops:List (Int×Int)),e[i]? =some n->o9 ops=arF n.1->(∀t∈ops,VT t)->s.length+ops.length<=100->
   jO f (k+1) (z,s++ops,(i:Int))=(match JD sg n ops i with| .inl x=>some (.inr ((0,0),x))| .inr r=>jO f k (z,s++[r],((i+1:Nat):Int))):=by
  intro i k n s ops h1 h2 h3 h4;rw[jO,hs i n s ops h1 (by have:=(aK.1 h1).1;omega) h2 h3 h4];cases JD sg n ops i<;>rfl
 have getn:∀(pre suf:List (Int×Int)) (n:Int×Int),e=pre++[n]++suf->e[pre.length]? =some n:=by intro pre suf n h;rw[h,E5,I8 o5,gQ];rfl
 have mem:∀(i:Nat) (n:Int×Int),e[i]? =some n->I64 n.2:=λi n h=>hI n (rH h);induction t with
 |l0 n=>
  intro hw pre suf s k hd hl;have hn:=getn pre suf n hd;have hlen:pre.length<e.length:=(aK.1 hn).1;have hz:o9 ([]:List (Int×Int))=arF n.1:=by rw[show arF n.1=0 from hw];rfl
  have h:=step pre.length k n s [] hn hz A8 F5;rw[H6]at h;exact⟨h,λr hr=>Om (mem _ n hn) A8 hz hr⟩
 |l1 n a iha=>
  intro hw pre suf s k hd hl;simp only[XT.post,E5]at hd;have hpa:(pre++a.post).length=pre.length+a.size:=by simp[XT.post_len]
  have hn:=getn (pre++a.post) suf n (by simpa using hd);rw[hpa]at hn;have hlen:=(aK.1 hn).1;obtain⟨i1,i2⟩:=iha hw.2 pre ([n]++suf) s (k+1) (by simpa using hd) hl;simp only[XT.size,zf];rw[show k+(a.size+1)=(k+1)+a.size by omega,i1];cases ht:zf sg a pre.length with
  |inl x=>exact⟨rfl,λr hr=>by cases hr⟩|inr ta=>
   have hz:o9 [ta]=arF n.1:=by rw[show arF n.1=1 from hw.1];rfl
   have hv:∀t∈[ta],VT t:=by simpa using i2 ta ht
   exact⟨step _ k n s [ta] hn hz hv F5,λr hr=>Om (mem _ n hn) hv hz hr⟩
 |l2 n a b iha ihb=>
  intro hw pre suf s k hd hl;simp only[XT.post,E5]at hd;have hpa:(pre++a.post).length=pre.length+a.size:=by simp[XT.post_len]
  have hpb:(pre++a.post++b.post).length=pre.length+a.size+b.size:=by simp[XT.post_len];omega
  have hn:=getn (pre++a.post++b.post) suf n (by simpa using hd);rw[hpb]at hn;have hlen:=(aK.1 hn).1;obtain⟨i1,i2⟩:=iha hw.2.1 pre (b.post++[n]++suf) s (k+1+b.size) (by simpa using hd) hl;simp only[XT.size,zf];rw[show k+(a.size+b.size+1)=(k+1+b.size)+a.size by omega,i1];cases ht:zf sg a pre.length with
  |inl x=>exact⟨rfl,λr hr=>by cases hr⟩|inr ta=>
   have hsa:=a.size_pos;obtain⟨j1,j2⟩:=ihb hw.2.2 (pre++a.post) ([n]++suf) (s++[ta]) (k+1) (by simpa using hd) (by simp[XT.post_len];omega);rw[hpa]at j1 j2;simp only;rw[j1];cases hu:zf sg b (pre.length+a.size)with
   |inl x=>exact⟨rfl,λr hr=>by cases hr⟩|inr tb=>
    have hz:o9 [ta,tb]=arF n.1:=by rw[show arF n.1=2 from hw.1];rfl
    have hv:∀t∈[ta,tb],VT t:=by simpa using ⟨i2 ta ht,j2 tb hu⟩
    have:=step _ k n s [ta,tb] hn hz hv F5;simp only[E5,Z4,J3];rw[show pre.length+(a.size+b.size+1)=pre.length+a.size+b.size+1 by omega];exact⟨this,λr hr=>Om (mem _ n hn) hv hz hr⟩
 |l3 n a b c iha ihb ihc=>
  intro hw pre suf s k hd hl;simp only[XT.post,E5]at hd;have hpa:(pre++a.post).length=pre.length+a.size:=by simp[XT.post_len]
  have hpb:(pre++a.post++b.post).length=pre.length+a.size+b.size:=by simp[XT.post_len];omega
  have hpc:(pre++a.post++b.post++c.post).length=pre.length+a.size+b.size+c.size:=by simp[XT.post_len];omega
  have hn:=getn (pre++a.post++b.post++c.post) suf n (by simpa using hd);rw[hpc]at hn;have hlen:=(aK.1 hn).1;obtain⟨i1,i2⟩:=iha hw.2.1 pre (b.post++(c.post++([n]++suf))) s (k+1+c.size+b.size) (by simpa using hd) hl;simp only[XT.size,zf];rw[show k+(a.size+b.size+c.size+1)=(k+1+c.size+b.size)+a.size by omega,i1];have hsa:=a.size_pos;have hsb:=b.size_pos;cases ht:zf sg a pre.length with
  |inl x=>exact⟨rfl,λr hr=>by cases hr⟩|inr ta=>
   obtain⟨j1,j2⟩:=ihb hw.2.2.1 (pre++a.post) (c.post++([n]++suf)) (s++[ta]) (k+1+c.size) (by simpa using hd) (by simp[XT.post_len];omega);rw[hpa]at j1 j2;simp only;rw[j1];cases hu:zf sg b (pre.length+a.size)with
   |inl x=>exact⟨rfl,λr hr=>by cases hr⟩|inr tb=>
    obtain⟨q1,q2⟩:=ihc hw.2.2.2 (pre++a.post++b.post) ([n]++suf) (s++[ta]++[tb]) (k+1) (by simpa using hd) (by simp[XT.post_len];omega);rw[hpb]at q1 q2;simp only;rw[q1];cases hc:zf sg c (pre.length+a.size+b.size)with
    |inl x=>exact⟨rfl,λr hr=>by cases hr⟩|inr tc=>
     have hz:o9 [ta,tb,tc]=arF n.1:=by rw[show arF n.1=3 from hw.1];rfl
     have hv:∀t∈[ta,tb,tc],VT t:=by simpa using ⟨i2 ta ht,j2 tb hu,q2 tc hc⟩
     have:=step _ k n s [ta,tb,tc] hn hz hv F5;simp only[E5,Z4,J3];rw[show pre.length+(a.size+b.size+c.size+1)=pre.length+a.size+b.size+c.size+1 by omega];exact⟨this,λr hr=>Om (mem _ n hn) hv hz hr⟩
end
def rX(e:List (Int×Int))(sg:U0):(Int×Int)×Int×Int:=match jV e with
 | .inl x=>((0,0),x)
 | .inr t=>match zf sg t 0 with
  | .inl x=>((0,0),x)| .inr r=>(r,0,0)
variable {α:Type}
theorem VJ(s ops:List α)(k:Int)(hk:o9 ops=k)(h:s.length+ops.length<=100):
  L6 .i64 (o9 (s++ops)) k=(s.length:Int)/\jE (s.length:Int) (o9 (s++ops)) (o9 (s++ops))=true/\iM (s++ops) (X4 (s.length:Int)) (X4 (o9 (s++ops)))=ops
  /\jE 0 (s.length:Int) (o9 (s++ops))=true/\iM (s++ops) (X4 0) (X4 (s.length:Int))=s:=by
 subst hk;refine⟨?_,?_,?_,?_,?_⟩
 .rw[iU (by unfold I64;simp[o9];omega)];simp[o9]
 .simp[jE,o9];omega
 .show((s++ops).take (((s++ops).length:Nat):Int).toNat).drop s.length=ops;rw[az,bu,List.drop_left]
 .simp[jE,o9];omega
 .simp[iM,X4]
theorem VI{f:(Int×Int)×List (Int×Int)×Int->Option (Out ((Int×Int)×List (Int×Int)×Int) ((Int×Int)×List (Int×Int)) ((Int×Int)×Int×Int))}
  (hI:∀n∈e,I64 n.2) (hs:b1o e sg (0,0) f) (hend:∀s,f ((0,0),s,(e.length:Int))=some (.ex ((0,0),s))) (hcode:∀x,jV e= .inl x->x.2≠0):
  l7 (D9 (x8 (tX e).2.2 0)) (some ((((0:Int),(0:Int)),(tX e).2):(Int×Int)×Int×Int)) (l9 (O6 f (((0:Int),(0:Int)),([]:List (Int×Int)),(0:Int))) λ(o:(Int×Int)×List (Int×Int)⊕(Int×Int)×Int×Int)=>
   U3 o (λ(y:(Int×Int)×List (Int×Int))=>l9 (J4 y.2 0) λ(x:Int×Int)=>l9 (Y5 y.2 (X4 0)) λ(x:Int×Int)=>some (x,0,0)) λ(r:(Int×Int)×Int×Int)=>some r)=some (rX e sg):=by
 unfold tX rX;cases h:jV e with
 |inl x=>simp only[O9 (hcode x h),af,o7]|inr t=>
  obtain⟨hp,h48⟩:=rq h;have hw:=QF h;obtain⟨l1,_⟩:=a4Y e sg (0,0) h48 hI hs t hw [] [] [] (jg -t.size) (by simpa using hp) A8;have hsz:e.length=t.size:=by rw[hp,XT.post_len]
  have hlo:O6 f (((0:Int),(0:Int)),([]:List (Int×Int)),(0:Int))=jO f (jg -t.size+t.size) ((0,0),[],(([]:List (Int×Int)).length:Int)):=by unfold O6;rw[Nat.sub_add_cancel (by unfold jg;omega)];rfl
  simp only[bF (rfl:(0:Int)=0),J7,o6];rw[hlo,l1];simp only[ai,bV];cases zf sg t 0 with
  |inl x=>rfl|inr r=>obtain⟨k,hk⟩:∃k,jg -t.size=k+1:=⟨jg -t.size -1,by unfold jg;omega⟩;simp only[J3];rw[hk,jO,←hsz,hend];rfl
theorem Ap{x:Int×Int}(h:jV e= .inl x):x.2≠0:=by
 have key:∀(es:List (Int×Int)) (i:Nat) (ts:List XT) (x:Int×Int),tJ i es ts= .inl x->x.2≠0:=by
  intro es;induction es with
  |nil=>intro i ts x h;cases h|cons n es ih=>
   intro i ts x h;unfold tJ at h;cases hp:push n ts with
   |inl c=>
    rw[hp]at h;cases h;show c≠0;unfold push at hp
    (repeat' split at hp)<;>first|(cases hp;done)|(cases hp;decide)
   |inr t2=>
    rw[hp]at h;simp only at h;split at h
    .cases h;show(16:Int)≠0;decide
    .exact ih _ _ _ h
 unfold jV at h;split at h
 .cases h;show(4:Int)≠0;decide
 split at h
 .cases h;show(5:Int)≠0;decide
 split at h
 .rename_i y hp;cases h;exact key _ _ _ _ hp
 .cases h
 .cases h;show(4:Int)≠0;decide
theorem a1n(sg:U0)(hI:∀n∈e,I64 n.2):BB e sg=some (rX e sg):=by
 unfold BB;rw[Ff,o8];refine VI hI (λi n s ops hn hi2 hl hv hlen=>?_) (λs=>?_) (λx h=>Ap h)
 .obtain⟨r,h1,h2,h3⟩:=Yk sg n (hI n (rH hn)) ops hv hl;obtain⟨v1,v2,v3,v4,v5⟩:=VJ s ops _ hl hlen;have e' :YE n ops sg=r:=by unfold YE;rw[h1];rfl
  have hi:=(aK.1 hn).1;simp only[P6 hn,o7,L9,hn,o8,a1o,v1,v2,v3,v4,v5,h1];unfold JD;rw[e'];by_cases h0:r.2=0
  .rw[if_pos h0,bF h0];simp only[J7,o6];rw[mP _ o5,o8,eY o5]
  .rw[if_neg h0,O9 h0];rfl
 .rw[P5];rfl
theorem a4X(sg:U0)(hI:∀n∈e,I64 n.2):En e sg=some (rX e sg):=by
 unfold En;rw[Ph,o8];refine VI hI (λi n s ops hn hi2 hl hv hlen=>?_) (λs=>?_) (λx h=>Ap h)
 .obtain⟨r,h1,h2,h3⟩:=Yk sg n (hI n (rH hn)) ops hv hl;obtain⟨v1,v2,v3,v4,v5⟩:=VJ s ops _ hl hlen;have e' :YE n ops sg=r:=by unfold YE;rw[h1];rfl
  have hi:=(aK.1 hn).1;simp only[P6 hn,o7,L9,hn,o8,a5k,v1,v2,v3,v4,v5];unfold JD;rw[e'];unfold EN at h2;have fin:aZ n ops sg=some r->(l9 (aZ n ops sg) λ(x_3:xB×Int)=>l7 (D9 (x8 x_3.2 0)) (some (Out.rt ((((0:Int),(0:Int)),((i:Int),x_3.2)):(Int×Int)×Int×Int)))
    (l9 (aT s [x_3.1]) λ(x_4:List xB)=>some (Out.nx (((0:Int),(0:Int)),x_4,D8 .i64 (i:Int) 1))))=
    some (match if r.2=0 then(.inr r.1:(Int×Int)⊕(Int×Int))else .inl ((i:Int),r.2)with| .inl x=>Out.rt ((0,0),x)| .inr t=>(Out.nx ((0,0),s++[t],((i+1:Nat):Int)):Out ((Int×Int)×List (Int×Int)×Int) ((Int×Int)×List (Int×Int)) ((Int×Int)×Int×Int))):=by
   intro hr;rw[hr,o8];by_cases h0:r.2=0
   .rw[if_pos h0,bF h0];simp only[J7,o6];rw[mP _ o5,o8,eY o5]
   .rw[if_neg h0,O9 h0];rfl
  cases hz:x8 n.2 0
  .rw[hz]at h2;simp only[af,o7]at h2 ⊢;cases hu:bD n.1 with
   |none=>rw[hu]at h2;cases h2|some u=>
    rw[hu]at h2;simp only[o8]at h2 ⊢;cases u
    .simp only[af,o7]at h2 ⊢;cases h2;rfl
    .exact fin h2
  .rw[hz]at h2;exact fin h2
 .rw[P5];rfl
section
variable {α β σ ε ρ:Type}
theorem zG(l:List α)(G:β->α->β)(mk:β->Int->σ)(fin:β->ε)(Inv:Nat->β->Prop){f:σ->Option (σ⊕ε)}{b:β}(hl:l.length<=1000000)(h0:Inv 0 b)
  (hin:∀(i:Nat) (a:α) (b:β),l[i]? =some a->i<=1000000->Inv i b->f (mk b (i:Int))=some (.inl (mk (G b a) ((i+1:Nat):Int)))/\Inv (i+1) (G b a))
  (hend:∀b,Inv l.length b->f (mk b (l.length:Int))=some (.inr (fin b))):
  aO f (mk b 0)=some (fin (l.foldl G b))/\Inv l.length (l.foldl G b):=by
 have key:∀(n i:Nat) (b:β),i<=l.length->l.length -i<n->Inv i b->yG f n (mk b (i:Int))=some (fin ((l.drop i).foldl G b))/\Inv l.length ((l.drop i).foldl G b):=by
  intro n;induction n with
  |zero=>intro i b _ h _;omega|succ n ih=>
   intro i b hi hn hI;unfold yG;by_cases h:i<l.length
   .have e:=kN h;obtain⟨h1,h2⟩:=hin i _ b e o5 hI;rw[h1,dB h];exact ih (i+1) _ o5 o5 h2
   .have:i=l.length:=o5;subst this;rw[hend b hI,zo];exact⟨rfl,hI⟩
 have:=key jg 0 b o5 (by unfold jg;omega) h0;exact this
theorem oL{γ:Type}(l:List α)(G:β->α->β)(mk:β->Int->σ)(fin:β->ε)(Inv:Nat->β->Prop)(b:β){f:σ->Option (σ⊕ε)}{K:ε->Option γ}{r:Option γ}(hl:l.length<=1000000)(h0:Inv 0 b)
  (hin:∀(i:Nat) (a:α) (b:β),l[i]? =some a->i<=1000000->Inv i b->f (mk b (i:Int))=some (.inl (mk (G b a) ((i+1:Nat):Int)))/\Inv (i+1) (G b a))
  (hend:∀b,Inv l.length b->f (mk b (l.length:Int))=some (.inr (fin b))) (hk:Inv l.length (l.foldl G b)->K (fin (l.foldl G b))=r):l9 (aO f (mk b 0)) K=r:=by
 obtain⟨h1,h2⟩:=zG l G mk fin Inv hl h0 hin hend;rw[h1];exact hk h2
def mJ(G:β->α->β⊕ρ):List α->β->β⊕ρ
 |[],b=> .inl b
 |a::l,b=>match G b a with| .inl b' =>mJ G l b'| .inr r=> .inr r
theorem Nc(l:List α)(G:β->α->β⊕ρ)(mk:β->Int->σ)(fin:β->ε)(Inv:Nat->β->Prop){f:σ->Option (Out σ ε ρ)}{b:β}(hl:l.length<=1000000)(h0:Inv 0 b)
  (hin:∀(i:Nat) (a:α) (b:β),l[i]? =some a->i<=1000000->Inv i b->f (mk b (i:Int))=some (match G b a with| .inl b' => .nx (mk b' ((i+1:Nat):Int))| .inr r=> .rt r)/\∀b',G b a= .inl b' ->Inv (i+1) b')
  (hend:∀b,Inv l.length b->f (mk b (l.length:Int))=some (.ex (fin b))):
  O6 f (mk b 0)=some (match mJ G l b with| .inl b' => .inl (fin b')| .inr r=> .inr r)/\∀b',mJ G l b= .inl b' ->Inv l.length b' :=by
 have key:∀(n i:Nat) (b:β),i<=l.length->l.length -i<n->Inv i b->jO f n (mk b (i:Int))=some (match mJ G (l.drop i) b with| .inl b' => .inl (fin b')| .inr r=> .inr r)/\∀b',mJ G (l.drop i) b= .inl b' ->Inv l.length b' :=by
  intro n;induction n with
  |zero=>intro i b _ h _;omega|succ n ih=>
   intro i b hi hn hI;unfold jO;by_cases h:i<l.length
   .have e:=kN h;obtain⟨h1,h2⟩:=hin i _ b e o5 hI;rw[h1,dB h];unfold mJ;cases hg:G b l[i]with
    |inr r=>exact⟨rfl,λb' hb=>by cases hb⟩|inl b' =>exact ih (i+1) _ o5 o5 (h2 b' hg)
   .have:i=l.length:=o5;subst this;rw[hend b hI,zo];exact⟨rfl,λb' hb=>by cases hb;exact hI⟩
 have:=key jg 0 b o5 (by unfold jg;omega) h0;exact this
theorem Hg{γ:Type}(l:List α)(G:β->α->β⊕ρ)(mk:β->Int->σ)(fin:β->ε)(Inv:Nat->β->Prop)(b:β){f:σ->Option (Out σ ε ρ)}{K:ε⊕ρ->Option γ}{r:Option γ}(hl:l.length<=1000000)(h0:Inv 0 b)
  (hin:∀(i:Nat) (a:α) (b:β),l[i]? =some a->i<=1000000->Inv i b->f (mk b (i:Int))=some (match G b a with| .inl b' => .nx (mk b' ((i+1:Nat):Int))| .inr r=> .rt r)/\∀b',G b a= .inl b' ->Inv (i+1) b')
  (hend:∀b,Inv l.length b->f (mk b (l.length:Int))=some (.ex (fin b)))
  (hk:(∀b',mJ G l b= .inl b' ->Inv l.length b')->K (match mJ G l b with| .inl b' => .inl (fin b')| .inr r=> .inr r)=r):l9 (O6 f (mk b 0)) K=r:=by
 obtain⟨h1,h2⟩:=Nc l G mk fin Inv hl h0 hin hend;rw[h1];exact hk h2
end
def Gm(c:UInt8):Bool:=decide (32<=c.toNat)&&decide (c.toNat<=126)&&decide (c.toNat≠34)
def QE(s:List UInt8):Bool:=decide (s.length<=64)&&s.all Gm
theorem a2S(c:UInt8):∀s:List UInt8,decide (0<=Lib.indexByte s c)=s.any λx=>decide (x.toNat=c.toNat)
 |[]=>by simp[Lib.indexByte]|b::l=>by
  have ih:=a2S c l;have hge:=Lib.indexByte_ge l c;rw[rJ,←ih];have e:Lib.indexByte (b::l) c=if b=c then 0 else if Lib.indexByte l c=-1 then -1 else Lib.indexByte l c+1:=by rw[Lib.indexByte];simp
  rw[e];by_cases h:b=c
  .subst h;simp
  .have h2:b.toNat≠c.toNat:=λhh=>h (UInt8.toNat_inj.1 hh);rw[if_neg h,show decide (b.toNat=c.toNat)=false by simp[h2],kP];by_cases h3:Lib.indexByte l c=-1
   .rw[h3];rfl
   .rw[if_neg h3];simp;omega
theorem Pg(c:UInt8):Gm c=(!G5 (c.toNat:Int) 32&&!G5 126 (c.toNat:Int)&&!x8 (c.toNat:Int) 34):=by unfold Gm G5 x8;rw[jA];simp;omega
theorem KJ(s:List UInt8)(p:UInt8->Bool):(∀(i:Nat) (a:UInt8),s[i]? =some a->p a=true)↔s.all p=true:=by rw[jh];exact⟨λh x hx=>by obtain⟨i,hi,rfl⟩:=bJ hx;exact h i _ (kN hi),λh i a hi=>h a (rH hi)⟩
theorem Yp{s:List UInt8}(h:s.length<=1000000):wU s=some (QE s):=by
 unfold wU;refine U8 (xN s (λi a=>Gm a) false PUnit.unit _ o5 (λi x hx=>?_) ?_) ?_
 rotate_left 2
 .have h5:O7 (o9 s) 64=decide (s.length<=64):=by simp only[O7,o9];congr 1;simp;omega
  unfold QE;by_cases hw:s.all Gm=true
  .rw[if_pos ((KJ s Gm).2 hw),hw,o8,X0,h5,Bool.and_true]
  .rw[if_neg (λh=>hw ((KJ s Gm).1 h))];simp only[oQ]at hw;rw[hw,Bool.and_false];rfl
 .have hi:=(aK.1 hx).1;simp only[P6 hx,o7,Le,hx,aV,o8];rw[eY o5,Pg];cases G5 (x.toNat:Int) 32<;>cases G5 126 (x.toNat:Int)<;>cases x8 (x.toNat:Int) 34<;>rfl
 .rw[P5];rfl
theorem VK{s:List UInt8}(h:s.length<=1000000):wM s=some (QE s):=by
 unfold wM;have h5:G5 64 (o9 s)= !decide (s.length<=64):=by simp only[G5,o9];rw[←decide_not];congr 1;simp;omega
 rw[h5,show vZ s [34]=some (s.any λx=>decide (x.toNat=(34:UInt8).toNat))from congrArg some (a2S 34 s)];unfold QE;cases decide (s.length<=64)
 .rfl
 simp only[jo,o6,o8,iw];cases h34:s.any λx=>decide (x.toNat=(34:UInt8).toNat)
 case true=>
  obtain⟨x,hx,hx2⟩:=oU.1 h34;simp only[decide_eq_true_eq]at hx2;have:s.all Gm=false:=by rw[List.all_eq_false];refine⟨x,hx,?_⟩;unfold Gm;rw[hx2];decide
  rw[this];rfl
 simp only[o6];refine U8 (xN s (λi a=>Gm a) false PUnit.unit _ o5 (λi x hx=>?_) ?_) ?_
 rotate_left 2
 .by_cases hw:s.all Gm=true
  .rw[if_pos ((KJ s Gm).2 hw),hw];rfl
  .rw[if_neg (λh=>hw ((KJ s Gm).1 h))];simp only[oQ]at hw;rw[hw];rfl
 .have hi:=(aK.1 hx).1;have hne:x8 (x.toNat:Int) 34=false:=by
   have:=(iP.1 h34) x (rH hx);simp only[decide_eq_true_eq]at this;exact O9 (by have h:(34:UInt8).toNat=34:=rfl;omega)
  simp only[P6 hx,o7,Le,hx,aV,o8];rw[eY o5,Pg,hne];cases G5 (x.toNat:Int) 32<;>cases G5 126 (x.toNat:Int)<;>rfl
 .rw[P5];rfl
def Gq(e:List (Int×Int))(sg:U0)(t:Int×Int):Int:=l7 (x8 (rX e sg).2.2 0) (l7 (dA (x8 (rX e sg).1.1 t.1) (x8 (rX e sg).1.2 t.2)) 0 8) (rX e sg).2.2
theorem NM(sg:U0)(t:Int×Int)(hI:∀n∈e,I64 n.2):sV e sg t=some (Gq e sg t):=by
 unfold sV Gq;rw[a4X sg hI,o8];cases x8 (rX e sg).2.2 0
 .rfl
 simp only[J7,o6,o7];cases dA (x8 (rX e sg).1.1 t.1) (x8 (rX e sg).1.2 t.2)<;>rfl
theorem NV(sg:U0)(t:Int×Int)(hI:∀n∈e,I64 n.2):pO e sg t=some (Gq e sg t):=by
 unfold pO Gq;rw[a1n sg hI,o8];cases x8 (rX e sg).2.2 0
 .rfl
 simp only[J7,o6,o7];cases dA (x8 (rX e sg).1.1 t.1) (x8 (rX e sg).1.2 t.2)<;>rfl
def XI(r:eF):Prop:=r.1.length<=4611686018427387904/\r.2.2.2.2.2.2.2.length<=1000000/\(∀n∈r.2.2.2.2.2.1,I64 n.2)/\(∀n∈r.2.2.2.2.2.2.1,I64 n.2)
def NP(rs:List eF)(d:Int):Nat:=rs.countP λo=>x8 o.2.1 d
def PO(r:eF)(sg:U0)(t:Int×Int):Int:=
 l7 (G5 0 (o9 r.2.2.2.2.2.1)) (l7 (x8 (Gq r.2.2.2.2.2.1 sg (1,0)) 0) (Gq r.2.2.2.2.2.2.1 sg t) (Gq r.2.2.2.2.2.1 sg (1,0))) (Gq r.2.2.2.2.2.2.1 sg t)
def JQ(s:V6)(sg:U0)(k:Nat)(r:eF):Int:=
 l7 (oV r.1) (l7 ((s.2.2.2.2.take k).any λx=>seq x.1 r.1) 7 (match J4 s.2.2.2.1 r.2.1 with
  |none=>6|some d=>l7 (l7 (x8 r.2.2.1 (-1)) false (l7 (G5 r.2.2.1 0) true (l7 (O7 k r.2.2.1) true (match J4 s.2.2.2.2 r.2.2.1 with|some q=>D9 (x8 q.2.1 r.2.1)|none=>true)))) 9
   (l7 (G5 r.2.2.2.1 0) 3 (l7 (G5 9 r.2.2.2.1) 3 (l7 (GG r.2.2.2.2.1) (l7 (x8 r.2.2.2.2.1.1 r.2.2.2.2.1.2) 3
    (l7 (O7 8 (NP (s.2.2.2.2.take k) r.2.1)) 4 (l7 (QE r.2.2.2.2.2.2.2) (PO r sg d.2) 2))) 3))))) 2
theorem CW{l:List α}{i:Int}(h:O7 0 i=false\/G5 i (o9 l)=false):J4 l i=none:=by
 unfold J4
 split
 .rename_i h0;rcases h with h|h
  .rw[MX]at h;omega
  .rw[ql]at h;simp only[o9]at h;exact iy o5
 .rfl
variable {s:V6}{r:eF}{k:Nat}
theorem XP(sg:U0)(hr:s.2.2.2.2[k]? =some r)(hl:s.2.2.2.2.length<=100000)(h:XI r):zX s (k:Int) sg=some (JQ s sg k r):=by
 have hk:=(aK.1 hr).1;have hcnt:NP (s.2.2.2.2.take k) r.2.1<=100000:=by have:=oI (l:=s.2.2.2.2.take k) (p:=λ(o:eF)=>x8 o.2.1 r.2.1);unfold NP;simp at this;omega
 unfold zX;rw[L9,hr,o8,xO o5,o8];refine U8 (zG (s.2.2.2.2.take k) (λ(c:Nat) (o:eF)=>l7 (x8 o.2.1 r.2.1) (c+1) c) (λc i=>((c:Int),i)) (λc=>(c:Int)) (λi c=>c<=i) (b:=0) F5 o5 (λi a c ha hi hc=>?_) (λc hc=>?_)).1 ?_
 rotate_left 2
 .have hf:∀(l:List eF) (c:Nat),l.foldl (λ(c:Nat) (o:eF)=>l7 (x8 o.2.1 r.2.1) (c+1) c) c=c+NP l r.2.1:=by
   intro l;induction l with
   |nil=>intro c;rfl|cons a l ih=>intro c;rw[ah,ih];unfold NP;rw[List.countP_cons];cases x8 a.2.1 r.2.1<;>simp<;>omega
  rw[hf,bV,o8,kH h.1,o8,o8,a0U _ F5,o8];unfold JQ;cases oV r.1
  .rfl
  simp only[J7,o6,o7,o8];cases (s.2.2.2.2.take k).any λx=>seq x.1 r.1
  case true=>rfl
  simp only[o6];rw[Bq r.2.1 0,NY (o9 s.2.2.2.1) r.2.1];cases h0:O7 0 r.2.1
  .rw[CW (.inl h0)];rfl
  cases h1:G5 r.2.1 (o9 s.2.2.2.1)
  .rw[CW (.inr h1)];rfl
  obtain⟨d,hd,_⟩:=tC (yu.1 h0) (Bo.1 h1);rw[hd];simp only[jo,o6,o8,VK h.2.1];have hpar:(l7 (D9 (x8 r.2.2.1 (-1))) (l7 (G5 r.2.2.1 0) (some true) (l7 (O7 (k:Int) r.2.2.1) (some true) (l9 (J4 s.2.2.2.2 r.2.2.1) λ(x_6:eF)=>some (D9 (x8 x_6.2.1 r.2.1))))) (some false))=
    some (l7 (x8 r.2.2.1 (-1)) false (l7 (G5 r.2.2.1 0) true (l7 (O7 k r.2.2.1) true (match J4 s.2.2.2.2 r.2.2.1 with|some q=>D9 (x8 q.2.1 r.2.1)|none=>true)))):=by
   cases x8 r.2.2.1 (-1)
   case true=>rfl
   simp only[af,o7,o6];cases hp0:G5 r.2.2.1 0
   case true=>rfl
   cases hp1:O7 (k:Int) r.2.2.1
   case true=>rfl
   rw[ql]at hp0;rw[MX]at hp1;obtain⟨q,hq,_⟩:=tC (l:=s.2.2.2.2) hp0 (by simp only[o9];omega);rw[hq];rfl
  rw[hpar,o8];cases (l7 (x8 r.2.2.1 (-1)) false (l7 (G5 r.2.2.1 0) true (l7 (O7 k r.2.2.1) true (match J4 s.2.2.2.2 r.2.2.1 with|some q=>D9 (x8 q.2.1 r.2.1)|none=>true))))
  case true=>rfl
  simp only[o6];cases G5 r.2.2.2.1 0
  case true=>rfl
  simp only[o6,o8];cases G5 9 r.2.2.2.1
  case true=>rfl
  simp only[o6];have hval:∀(A B:Option (eF⊕Int)),l7 (G5 r.2.2.2.2.1.1 0) A (l7 (O7 r.2.2.2.2.1.2 r.2.2.2.2.1.1) A (l7 (G5 109573 r.2.2.2.2.1.2) A B))=l7 (GG r.2.2.2.2.1) (l7 (x8 r.2.2.2.2.1.1 r.2.2.2.2.1.2) A B) A:=by
   intro A B;unfold GG;by_cases v0:r.2.2.2.2.1.1<(0:Int)
   .rw[dP v0,dE (show r.2.2.2.2.1.1<(0:Int)from v0)];rfl
   rw[bU (sK.1 v0),bP (sK.1 v0)];by_cases v1:(r.2.2.2.2.1.2:Int)<=r.2.2.2.2.1.1
   .rw[bP v1];by_cases v2:(r.2.2.2.2.1.1:Int)<=r.2.2.2.2.1.2
    .rw[bP v2,bF (Int.le_antisymm v2 v1)];cases O7 r.2.2.2.2.1.2 109573<;>rfl
    .rw[dE (sJ.1 v2)];rfl
   .have v1' :=sJ.1 v1;rw[dE v1',bP (Int.le_of_lt v1'),O9 (λhh=>by rw[hh]at v1';exact Int.lt_irrefl _ v1'),Bq];cases O7 r.2.2.2.2.1.2 109573<;>rfl
  rw[hval];cases GG r.2.2.2.2.1
  .rfl
  cases x8 r.2.2.2.2.1.1 r.2.2.2.2.1.2
  case true=>rfl
  simp only[o7,o6];cases O7 8 ((NP (s.2.2.2.2.take k) r.2.1:Nat):Int)
  case true=>rfl
  cases QE r.2.2.2.2.2.2.2
  .rfl
  simp only[J7,o6,o7,o8,X0,PO,hd,NM sg _ h.2.2.1,NM sg _ h.2.2.2];cases G5 0 (o9 r.2.2.2.2.2.1)
  .rfl
  simp only[o7];cases x8 (Gq r.2.2.2.2.2.1 sg (1,0)) 0<;>rfl
 .have hc' :c<=1000000:=o5;obtain⟨ha1,ha2⟩:=Pj ha;simp only[P6 ha,o7,L9,ha,o8];rw[eY (show i<=9000000000000000000 by omega),eY (show c<=9000000000000000000 by omega)];cases x8 a.2.1 r.2.1
  .exact⟨rfl,by show c<=i+1;omega⟩
  .exact⟨rfl,by show c+1<=i+1;omega⟩
 .simp only[P5];rfl
theorem a6V(s:V6)(d:Int):Dq s d=some (l7 (O7 0 d) (G5 d (o9 s.2.2.2.1)) false):=by unfold Dq;cases O7 0 d<;>rfl
theorem WS(r:eF):∀(l:List eF) (c:Nat),mJ (λ(c:Nat) (o:eF)=>l7 (seq o.1 r.1) (.inr (7:Int)) (.inl (l7 (x8 o.2.1 r.2.1) (c+1) c))) l c=l7 (l.any λx=>seq x.1 r.1) (.inr 7) (.inl (c+NP l r.2.1))
 |[],c=>rfl|a::l,c=>by
  unfold mJ;rw[rJ];cases seq a.1 r.1
  case true=>rfl
  simp only[o6,kP];rw[WS r l];unfold NP;rw[List.countP_cons];cases x8 a.2.1 r.2.1
  .simp only[o6,dR,if_false,aQ]
  .simp only[o7,if_true];rw[show c+1+List.countP (λo=>x8 o.2.1 r.2.1) l=c+(List.countP (λo=>x8 o.2.1 r.2.1) l+1) by omega]
variable {l:X6}
theorem Ws(hL:Ja l)(hs:l.2.2[i]? =some s)(hr:s.2.2.2.2[k]? =some r)(h:XI r):wV l (i:Int) (k:Int)=some (JQ s (SL l s) k r):=by
 have hk:=(aK.1 hr).1;have hl:=(hL s (rH hs)).2.2.2;have hcnt:NP (s.2.2.2.2.take k) r.2.1<=100000:=by have:=oI (l:=s.2.2.2.2.take k) (p:=λ(o:eF)=>x8 o.2.1 r.2.1);unfold NP;simp at this;omega
 unfold wV JQ;rw[L9,hs,o8,L9,hr,o8,jS h.1,o8];cases oV r.1
 .rfl
 simp only[J7,o6,o7];refine U8 (Nc (s.2.2.2.2.take k) (λ(c:Nat) (o:eF)=>l7 (seq o.1 r.1) (.inr (7:Int)) (.inl (l7 (x8 o.2.1 r.2.1) (c+1) c))) (λc i=>((c:Int),i)) (λc=>(c:Int)) (λi c=>c<=i) (b:=0) F5 o5 (λj a c ha hi hc=>?_) (λc hc=>?_)).1 ?_
 rotate_left 2
 .rw[WS];cases (s.2.2.2.2.take k).any λx=>seq x.1 r.1
  case true=>rfl
  simp only[o6,bV,o8,X0];rw[Bq r.2.1 0,NY (o9 s.2.2.2.1) r.2.1];cases h0:O7 0 r.2.1
  .rw[CW (.inl h0)];rfl
  cases h1:G5 r.2.1 (o9 s.2.2.2.1)
  .rw[CW (.inr h1)];rfl
  obtain⟨d,hd,_⟩:=tC (yu.1 h0) (Bo.1 h1);rw[hd];simp only[jo,o6,o8,X0];have hpar:(l7 (D9 (x8 r.2.2.1 (-1))) (l7 (G5 r.2.2.1 0) (some (Sum.inr (9:Int))) (l7 (O7 (k:Int) r.2.2.1) (some (.inr 9)) (l9 (J4 s.2.2.2.2 r.2.2.1) λ(x:eF)=>l7 (D9 (x8 x.2.1 r.2.1)) (some (.inr 9)) (some (.inl PUnit.unit))))) (some (.inl PUnit.unit)))=
    some (l7 (l7 (x8 r.2.2.1 (-1)) false (l7 (G5 r.2.2.1 0) true (l7 (O7 k r.2.2.1) true (match J4 s.2.2.2.2 r.2.2.1 with|some q=>D9 (x8 q.2.1 r.2.1)|none=>true)))) (.inr 9) (.inl PUnit.unit)):=by
   cases x8 r.2.2.1 (-1)
   case true=>rfl
   simp only[af,o7,o6];cases hp0:G5 r.2.2.1 0
   case true=>rfl
   cases hp1:O7 (k:Int) r.2.2.1
   case true=>rfl
   rw[ql]at hp0;rw[MX]at hp1;obtain⟨q,hq,_⟩:=tC (l:=s.2.2.2.2) hp0 (by simp only[o9];omega);rw[hq];simp only[o8,o6];cases x8 q.2.1 r.2.1<;>rfl
  rw[hpar,o8];cases (l7 (x8 r.2.2.1 (-1)) false (l7 (G5 r.2.2.1 0) true (l7 (O7 k r.2.2.1) true (match J4 s.2.2.2.2 r.2.2.1 with|some q=>D9 (x8 q.2.1 r.2.1)|none=>true))))
  case true=>rfl
  simp only[o6,X0];cases G5 r.2.2.2.1 0
  case true=>rfl
  cases G5 9 r.2.2.2.1
  case true=>rfl
  simp only[o6,Ht,o8];cases GG r.2.2.2.2.1
  .rfl
  cases x8 r.2.2.2.2.1.1 r.2.2.2.2.1.2
  case true=>rfl
  simp only[J7,o7,o6,o8,X0];cases O7 8 ((NP (s.2.2.2.2.take k) r.2.1:Nat):Int)
  case true=>rfl
  simp only[o6,Yp h.2.1,o8];cases QE r.2.2.2.2.2.2.2
  .rfl
  simp only[J7,o6,o7,o8,Wu hL hs,PO,hd,NV (SL l s) _ h.2.2.1,NV (SL l s) _ h.2.2.2];cases G5 0 (o9 r.2.2.2.2.2.1)
  .rfl
  simp only[o7];cases x8 (Gq r.2.2.2.2.2.1 (SL l s) (1,0)) 0<;>rfl
 .obtain⟨ha1,ha2⟩:=Pj ha;simp only[dP (show(j:Int)<(k:Int) by omega),o7,L9,ha2,o8];rw[eY (show j<=9000000000000000000 by omega),eY (show c<=9000000000000000000 by omega)];cases seq a.1 r.1
  .cases x8 a.2.1 r.2.1
   .exact⟨rfl,λb' hb=>by cases hb;show c<=j+1;omega⟩
   .exact⟨rfl,λb' hb=>by cases hb;show c+1<=j+1;omega⟩
  .exact⟨rfl,λb' hb=>by cases hb⟩
 .have e:(s.2.2.2.2.take k).length=k:=by simp;omega
  simp only[e,bU (show(k:Int)<=(k:Int) by omega)];rfl
structure SmS (s:V6):Prop where
 nm:s.1.length<=1000000
 ni:s.2.2.1.length<=14
 nd:s.2.2.2.1.length<=14
 nr:s.2.2.2.2.length<=96
 fo:Tv s
 ro:∀r∈s.2.2.2.2,XI r/\r.2.2.2.2.2.1.length<=50/\r.2.2.2.2.2.2.1.length<=50
theorem Yr:nO=qf:=rfl
def MZ(n:Int)(b:List Int×Bool)(a:Int):List Int×Bool:=l7 b.2 (b.1++[a],true) (l7 (O7 n a) (l7 (G5 n a) (b.1++[n]++[a],true) (b.1++[a],true)) (b.1++[a],false))
theorem a0W(n:Int):∀(l p:List Int),l.foldl (MZ n) (p,true)=(p++l,true)
 |[],p=>by simp|a::l,p=>by rw[ah,show MZ n (p,true) a=(p++[a],true)from rfl,a0W n l];simp
theorem a5E(n:Int):∀(l p:List Int),(l7 (l.foldl (MZ n) (p,false)).2 (l.foldl (MZ n) (p,false)).1 ((l.foldl (MZ n) (p,false)).1++[n]))=p++ins n l
 |[],p=>rfl|a::l,p=>by
  rw[ah];unfold ins;by_cases h1:n<=a
  .rw[if_pos h1];by_cases h2:n<a
   .rw[if_pos h2,show MZ n (p,false) a=(p++[n]++[a],true) by simp[MZ,bP h1,dP h2],a0W];simp
   .rw[if_neg h2,show MZ n (p,false) a=(p++[a],true) by simp[MZ,bP h1,bU (show a<=n by omega)],a0W];simp
  .rw[if_neg h1,show MZ n (p,false) a=(p++[a],false) by simp[MZ,dE (show a<n by omega)],a5E n l];simp
theorem Dl{l:List Int}(n:Int)(hl:l.length<=1000000):qf l n=some (ins n l):=by
 unfold qf;refine oL l (MZ n) (λb i=>(b.1,b.2,i)) (λb=>b) (λi b=>b.1.length<=i+1/\(b.2=false->b.1.length<=i)) (([],false):List Int×Bool) hl A8 (λi a b ha hi hI=>?_) (λb hI=>?_) (λh2=>?_)
 .obtain⟨o,d⟩:=b;simp only at hI;simp only[P6 ha,o7,L9,ha,o8];rw[eY o5];cases d
  .simp only[af,o7,MZ,o6];have:=hI.2 rfl;cases O7 n a
   .rw[o6,mP a (show o.length<=1000000 by omega)];exact⟨rfl,by simp<;>omega,by simp<;>omega⟩
   .rw[o7];cases G5 n a
    .rw[o6,mP a (show o.length<=1000000 by omega)];exact⟨rfl,by simp<;>omega,A8⟩
    .rw[o7,mP n (show o.length<=1000000 by omega),o8,KR F5];exact⟨rfl,by simp<;>omega,A8⟩
  .simp only[J7,o6,MZ,o7];rw[KR F5];exact⟨rfl,by simp<;>omega,A8⟩
 .simp only[P5];rfl
 .have hf:=a5E n l [];generalize l.foldl (MZ n) ([],false)=b at*;obtain⟨o,d⟩:=b;cases d
  .simp only[o6,J3]at hf;simp only[af,o7];rw[mP _ (by simp at h2;omega),hf];rfl
  .simp only[o7,J3]at hf;simp only[J7,o6,hf]
def isM(op:Int):Bool:=l7 (O7 36 op) (O7 op 39) false
theorem b2e(op:Int):isM op=l7 (x8 op 36) true (l7 (x8 op 37) true (l7 (x8 op 38) true (x8 op 39))):=by
 unfold isM;by_cases h1:36<=op
 .rw[bP h1,o7];by_cases h2:op<=39
  .rw[bP h2];have:op=36\/op=37\/op=38\/op=39:=o5;rcases this with rfl|rfl|rfl|rfl<;>rfl
  .rw[dE o5,O9 o5,O9 o5,O9 o5,O9 o5];rfl
 .rw[dE o5,O9 o5,O9 o5,O9 o5,O9 o5];rfl
def SH(p:Int->Bool)(e:List (Int×Int)):List Int:=(e.filter λn=>p n.1).map (·.2)
def zq(e:List (Int×Int)):List Int×List Int×List Int:=(NG (SH (λo=>x8 o 7) e),NG (SH (λo=>x8 o 8) e),NG (SH isM e))
def a4K(g:List Int->Int->List Int)(b:List Int×List Int×List Int)(n:Int×Int):List Int×List Int×List Int:=
 (l7 (x8 n.1 7) (g b.1 n.2) b.1,l7 (x8 n.1 8) (g b.2.1 n.2) b.2.1,l7 (isM n.1) (g b.2.2 n.2) b.2.2)
theorem Qk(g:List Int->Int->List Int):∀(e:List (Int×Int)) (b:List Int×List Int×List Int),e.foldl (a4K g) b=((SH (λo=>x8 o 7) e).foldl g b.1,(SH (λo=>x8 o 8) e).foldl g b.2.1,(SH isM e).foldl g b.2.2)
 |[],b=>rfl|n::e,b=>by
  have hn:∀p:Int->Bool,SH p (n::e)=l7 (p n.1) (n.2::SH p e) (SH p e):=λp=>by unfold SH;rw[gy];cases p n.1<;>rfl
  rw[ah,Qk g e,hn,hn,hn];unfold a4K;simp only;cases x8 n.1 7<;>cases x8 n.1 8<;>cases isM n.1<;>rfl
theorem WT:∀(l b:List Int),l.foldl (λacc n=>acc++[n]) b=b++l
 |[],b=>by simp|a::l,b=>by rw[ah,WT l];simp
theorem EY{a k:Int}(h:a=k)(m:Int)(hm:k≠m):x8 a m=false:=O9 o5
theorem Eg{l:List Int}(hl:l.length<=1000000):sU l=some (NG l):=by unfold sU;have:=b1c (l:=l) hl;rw[show(λx=>l9 (pR x) λ(x:List Int)=>some x)=λx=>pR x from funext λx=>wE _];exact this
theorem MB(h:e.length<=1000000):sH e=some (zq e):=by
 unfold sH;refine oL e (a4K (λacc n=>acc++[n])) (λb i=>(b.1,b.2.1,b.2.2,i)) (λb=>b) (λi b=>b.1.length<=i/\b.2.1.length<=i/\b.2.2.length<=i) (([],[],[]):List Int×List Int×List Int) h A8 (λi a b ha hi hI=>?_) (λb hI=>?_) (λh2=>?_)
 .obtain⟨b1,b2,b3⟩:=b;simp only at hI;simp only[P6 ha,o7,L9,ha,o8,mP a.2 (show b1.length<=1000000 by omega),mP a.2 (show b2.length<=1000000 by omega),mP a.2 (show b3.length<=1000000 by omega),a4K,b2e];rw[eY o5];by_cases h7:a.1=7
  .rw[bF h7,EY h7 8 U9,EY h7 36 U9,EY h7 37 U9,EY h7 38 U9,EY h7 39 U9];exact⟨rfl,by simp<;>omega,by simp<;>omega,by simp<;>omega⟩
  rw[O9 h7];by_cases h8:a.1=8
  .rw[bF h8,EY h8 36 U9,EY h8 37 U9,EY h8 38 U9,EY h8 39 U9];exact⟨rfl,by simp<;>omega,by simp<;>omega,by simp<;>omega⟩
  rw[O9 h8];cases x8 a.1 36<;>cases x8 a.1 37<;>cases x8 a.1 38<;>cases x8 a.1 39<;>exact⟨rfl,by simp<;>omega,by simp<;>omega,by simp<;>omega⟩
 .simp only[P5];rfl
 .rw[Qk]at h2 ⊢;simp only[WT,J3]at h2 ⊢;rw[Eg o5,o8,Eg o5,o8,Eg o5];rfl
theorem JG(h:e.length<=500000):qR e=some (zq e):=by
 unfold qR;refine oL e (a4K (λacc n=>ins n acc)) (λb i=>(b.1,b.2.1,b.2.2,i)) (λb=>b) (λi b=>b.1.length<=i/\b.2.1.length<=i/\b.2.2.length<=i) (([],[],[]):List Int×List Int×List Int) o5 A8 (λi a b ha hi hI=>?_) (λb hI=>?_) (λh2=>?_)
 .obtain⟨b1,b2,b3⟩:=b;simp only at hI;have l1:=xm a.2 b1;have l2:=xm a.2 b2;have l3:=xm a.2 b3;rw[Yr];simp only[P6 ha,o7,L9,ha,o8,Dl a.2 (show b1.length<=1000000 by omega),Dl a.2 (show b2.length<=1000000 by omega),Dl a.2 (show b3.length<=1000000 by omega),a4K,isM];rw[eY o5];by_cases h7:a.1=7
  .rw[bF h7,EY h7 8 U9,dE (show a.1<36 by omega)];exact⟨rfl,by simp<;>omega,by simp<;>omega,by simp<;>omega⟩
  rw[O9 h7];cases x8 a.1 8<;>cases O7 36 a.1<;>cases O7 a.1 39<;>exact⟨rfl,by simp<;>omega,by simp<;>omega,by simp<;>omega⟩
 .simp only[P5];rfl
 .rw[Qk];rfl
theorem a5X(p:Int->Bool)(e:List (Int×Int)):(SH p e).length<=e.length:=by unfold SH;rw[V7];exact dG _ _
theorem BQ(e:List (Int×Int)):(zq e).2.1.length<=e.length:=ak (ZO _) (a5X _ e)
def inD(n d:Int):Bool:=l7 (O7 0 d) (G5 d n) false
def Bd(n:Int)(r:eF):List Int:=(zq r.2.2.2.2.2.1).2.1.filter (inD n)++(zq r.2.2.2.2.2.2.1).2.1.filter (inD n)
theorem Ur(p:Int->Bool):∀(l b:List Int),l.foldl (λacc x=>l7 (p x) (acc++[x]) acc) b=b++l.filter p
 |[],b=>by simp|a::l,b=>by rw[ah,Ur p l,gy];cases p a<;>simp
variable {f:List Int×Int->Option ((List Int×Int)⊕List Int)}
theorem WQ(l b:List Int)(n:Int)(hl:l.length<=1000)(hb:b.length<=1000)
  (hin:∀(i:Nat) (a:Int) (acc:List Int),l[i]? =some a->i<=1000000->f (acc,(i:Int))=l7 (O7 0 a) (l7 (G5 a n) (l9 (aT acc [a]) λx=>some (.inl (x,D8 .i64 (i:Int) 1))) (some (.inl (acc,D8 .i64 (i:Int) 1)))) (some (.inl (acc,D8 .i64 (i:Int) 1))))
  (hend:∀acc,f (acc,(l.length:Int))=some (.inr acc)):aO f (b,0)=some (b++l.filter (inD n)):=by
 have key:=zG l (λ(acc:List Int) x=>l7 (inD n x) (acc++[x]) acc) (λb i=>(b,i)) (λb=>b) (λi acc=>acc.length<=1000+i) (f:=f) (b:=b) o5 o5 ?_ ?_
 .rw[key.1,Ur]
 .intro i a acc ha hi hI;have:=(aK.1 ha).1;rw[hin i a acc ha hi,eY o5,mP _ o5];unfold inD;cases O7 0 a
  .exact⟨rfl,by show acc.length<=_;omega⟩
  cases G5 a n
  .exact⟨rfl,by show acc.length<=_;omega⟩
  .exact⟨rfl,by simp;omega⟩
 .intro acc hI;rw[hend]
theorem PK(n:Int)(h1:r.2.2.2.2.2.1.length<=50)(h2:r.2.2.2.2.2.2.1.length<=50):rE r n=some (Bd n r):=by
 have g1:=BQ r.2.2.2.2.2.1;have g2:=BQ r.2.2.2.2.2.2.1;unfold rE Bd;rw[MB o5,o8,MB o5,o8];refine U8 (WQ (zq r.2.2.2.2.2.1).2.1 [] n o5 A8 (λi a acc ha hi=>?_) (λacc=>?_)) ?_
 rotate_left 2
 .rw[o8,wE,J3];have:=dG (inD n) (zq r.2.2.2.2.2.1).2.1;refine WQ (zq r.2.2.2.2.2.2.1).2.1 _ n o5 o5 (λi a acc ha hi=>?_) (λacc=>?_)
  .simp only[P6 ha,o7,L9,ha,o8];rw[show Y5 (zq r.2.2.2.2.2.2.1).2.1 (X4 (i:Int))=some a from ha,o8]
  .simp only[P5];rfl
 .simp only[P6 ha,o7,L9,ha,o8];rw[show Y5 (zq r.2.2.2.2.2.1).2.1 (X4 (i:Int))=some a from ha,o8]
 .simp only[P5];rfl
def nD(s:V6):Int:=o9 s.2.2.2.1
def dl(n:Int)(rs:List eF)(d:Int):List Int:=rs.flatMap λr=>l7 (x8 r.2.1 d) (Bd n r) []
def ng(s:V6)(d:Int):List Int:=l7 (inD (nD s) d) (NG (dl (nD s) s.2.2.2.2 d)) []
theorem Qj(h:SmS s)(hr:r∈s.2.2.2.2)(n:Int):(Bd n r).length<=100:=by obtain⟨_,h1,h2⟩:=h.ro r hr;have a1:=BQ r.2.2.2.2.2.1;have a2:=BQ r.2.2.2.2.2.2.1;have b1:=dG (inD n) (zq r.2.2.2.2.2.1).2.1;have b2:=dG (inD n) (zq r.2.2.2.2.2.2.1).2.1;unfold Bd;rw[H9];omega
theorem a2L(n:Int)(rs:List eF)(r:eF)(d:Int):dl n (rs++[r]) d=dl n rs d++l7 (x8 r.2.1 d) (Bd n r) []:=by unfold dl;rw[List.flatMap_append];simp
theorem a2K(n:Int)(rs:List eF)(r:eF)(d:Int):dl n (r::rs) d=l7 (x8 r.2.1 d) (Bd n r) []++dl n rs d:=rfl
theorem a0I{s:V6}(h:SmS s)(n d:Int):∀(rs:List eF),(∀r∈rs,r∈s.2.2.2.2)->(dl n rs d).length<=100*rs.length
 |[],_=>by simp[dl]|r::rs,hm=>by
  have ih:=a0I h n d rs λr hr=>hm r (by simp[hr]);have h1:=Qj h (hm r A8) n;rw[a2K,H9,H5];cases x8 r.2.1 d
  .simp only[o6,ai];omega
  .simp only[o7];omega
variable {d:Int}{x:Int}
theorem b2h{n:Int}{rs:List eF} :x∈dl n rs d↔∃r∈rs,r.2.1=d/\x∈Bd n r:=by
 unfold dl;rw[List.mem_flatMap];constructor
 .rintro⟨r,hr,hx⟩;cases hq:x8 r.2.1 d<;>rw[hq]at hx
  .simp at hx
  .exact⟨r,hr,kX.1 hq,hx⟩
 .rintro⟨r,hr,hq,hx⟩;exact⟨r,hr,by rw[bF hq];exact hx⟩
theorem a6W{n:Int}(h:x∈Bd n r):0<=x/\x<n:=by
 have key:inD n x=true:=by unfold Bd at h;rcases N8.1 h with h|h<;>exact(lC.1 h).2
 unfold inD at key;cases h0:O7 0 x<;>rw[h0]at key
 .cases key
 .exact⟨yu.1 h0,Bo.1 key⟩
theorem FK(s:V6)(d:Int):SI (ng s d):=by
 unfold ng;cases inD (nD s) d
 .exact List.Pairwise.nil
 .exact a3D _
theorem BK(h:x∈ng s d):0<=x/\x<nD s:=by
 unfold ng at h;cases hq:inD (nD s) d<;>rw[hq]at h
 .simp at h
 .obtain⟨r,_,_,hx⟩:=b2h.1 ((ZU _ _).1 h);exact a6W hx
theorem ZI(s:V6)(l b:List Int)(hl:l.length<=1000)(hb:b.length<=100000)
  (hin:∀(i:Nat) (a:Int) (acc:List Int),l[i]? =some a->i<=1000000->f (acc,(i:Int))=l9 (Dq s a) λx=>l7 x (l9 (qf acc a) λx=>some (.inl (x,D8 .i64 (i:Int) 1))) (some (.inl (acc,D8 .i64 (i:Int) 1))))
  (hend:∀acc,f (acc,(l.length:Int))=some (.inr acc)):aO f (b,0)=some (EZ (l.filter (inD (nD s))) b):=by
 have key:=zG l (λ(acc:List Int) x=>l7 (inD (nD s) x) (ins x acc) acc) (λb i=>(b,i)) (λb=>b) (λi acc=>acc.length<=100000+i) (f:=f) (b:=b) o5 o5 ?_ ?_
 .have hf:∀(l b:List Int),l.foldl (λ(acc:List Int) x=>l7 (inD (nD s) x) (ins x acc) acc) b=EZ (l.filter (inD (nD s))) b:=by
   intro l;induction l with
   |nil=>intro b;rfl|cons a l ih=>intro b;rw[ah,ih,gy];cases inD (nD s) a<;>rfl
  rw[key.1,hf]
 .intro i a acc ha hi hI;have hlt:=(aK.1 ha).1;have h2:=xm a acc;rw[hin i a acc ha hi,a6V,o8,eY o5,Dl _ o5];change l7 (inD (nD s) a) _ _=_/\_;cases inD (nD s) a
  .exact⟨rfl,by show acc.length<=_;omega⟩
  .exact⟨rfl,by show(ins a acc).length<=_;omega⟩
 .intro acc hI;rw[hend]
theorem UW(h:SmS s)(d:Int):yO s d=some (ng s d):=by
 have hnr:=h.nr;unfold yO ng;rw[a6V,o8];change l7 (D9 (inD (nD s) d)) _ _=_;cases inD (nD s) d
 .rfl
 simp only[J7,o6,o7];refine oL s.2.2.2.2 (λ(acc:List Int) r=>l7 (x8 r.2.1 d) (EZ (Bd (nD s) r) acc) acc) (λb i=>(b,i)) (λb=>b) (λi acc=>acc.length<=100*i) [] o5 A8 (λi r acc ha hi hI=>?_) (λacc hI=>?_) (λh2=>?_)
 .have hlt:=(aK.1 ha).1;obtain⟨_,h1,h2⟩:=h.ro r (rH ha);have a1:=BQ r.2.2.2.2.2.1;have a2:=BQ r.2.2.2.2.2.2.1;have hlen:=Ep (Bd (nD s) r) acc;have hrl:=Qj h (rH ha) (nD s);simp only[P6 ha,o7,L9,ha,o8];rw[eY o5];cases x8 r.2.1 d
  .exact⟨rfl,by show acc.length<=_;omega⟩
  simp only[J7,o6,o7,JG (show r.2.2.2.2.2.1.length<=500000 by omega),JG (show r.2.2.2.2.2.2.1.length<=500000 by omega),o8];refine⟨?_,by show(EZ (Bd (nD s) r) acc).length<=_;omega⟩;refine U8 (ZI s (zq r.2.2.2.2.2.1).2.1 acc o5 o5 (λi a acc ha hi=>?_) (λacc=>?_)) ?_
  rotate_left 2
  .rw[o8];have hl2:=Ep ((zq r.2.2.2.2.2.1).2.1.filter (inD (nD s))) acc;have hl3:=dG (inD (nD s)) (zq r.2.2.2.2.2.1).2.1;refine U8 (ZI s (zq r.2.2.2.2.2.2.1).2.1 _ o5 o5 (λi a acc ha hi=>?_) (λacc=>?_)) ?_
   rotate_left 2
   .rw[o8];unfold Bd;rw[Rh]
   .simp only[P6 ha,o7,L9,ha,o8];rw[show Y5 (zq r.2.2.2.2.2.2.1).2.1 (X4 (i:Int))=some a from ha];rfl
   .simp only[P5];rfl
  .simp only[P6 ha,o7,L9,ha,o8];rw[show Y5 (zq r.2.2.2.2.2.1).2.1 (X4 (i:Int))=some a from ha];rfl
  .simp only[P5];rfl
 .simp only[P5];rfl
 .have hf:∀(l:List eF) (b:List Int),l.foldl (λ(acc:List Int) r=>l7 (x8 r.2.1 d) (EZ (Bd (nD s) r) acc) acc) b=EZ (dl (nD s) l d) b:=by
   intro l;induction l with
   |nil=>intro b;rfl|cons a l ih=>intro b;rw[ah,ih,a2K,Rh];cases x8 a.2.1 d<;>rfl
  rw[hf];rfl
theorem a3e(m k:Nat)(f:Nat->α)(v:α):((List.range m).map f).set k v=(List.range m).map λd=>if d=k then v else f d:=by
 apply bI;intro i;rw[P8,eP,eP,V7,fZ];by_cases hi:i<m
 .rw[List.getElem?_range hi];by_cases h:k=i
  .subst h;simp[hi]
  .simp[h,Ne.symm h]
 .have:(List.range m)[i]? =none:=by simp;omega
  rw[this];by_cases h:k=i
  .subst h;simp[hi]
  .simp[h]
def TK(m:Nat)(rs:List eF):List (List Int):=(List.range m).map λ(d:Nat)=>dl (m:Int) rs (d:Int)
theorem YT{l:List Int}(hl:l.length<=1000000):Cj l=some (NG l):=Eg hl
theorem Yi(m:Nat)(f:Nat->α)(h:k<m):((List.range m).map f)[k]? =some (f k):=by rw[eP,List.getElem?_range h];rfl
theorem XL(h:SmS s):uo s=some ((List.range s.2.2.2.1.length).map λ(d:Nat)=>ng s (d:Int)):=by
 have hnr:=h.nr;have hnd:=h.nd;unfold uo;generalize hm:s.2.2.2.1.length=m at*;have hn:nD s=(m:Int):=by unfold nD o9;rw[hm]
 rw[show o9 s.2.2.2.1=(m:Int)from hn,show yH (m:Int) ([]:List Int)=some (TK m []) by unfold yH TK dl;rw[if_pos o5];simp[List.map_const'],o8];refine oL s.2.2.2.2 (λ(b:List (List Int)) r=>l7 (inD m r.2.1) (b.set r.2.1.toNat ((b.getD r.2.1.toNat [])++Bd m r)) b) (λb i=>(b,i)) (λb=>b) (λi b=>b=TK m (s.2.2.2.2.take i)) (TK m []) o5 A8 (λi r b ha hi hI=>?_) (λb hI=>?_) (λh2=>?_)
 .have hlt:=(aK.1 ha).1;obtain⟨_,h1,h2⟩:=h.ro r (rH ha);have hst:s.2.2.2.2.take (i+1)=s.2.2.2.2.take i++[r]:=by
   rw[X5 hlt,(aK.1 ha).2]
  have hlb:o9 b=(m:Int):=by rw[hI];simp[o9,TK]
  obtain⟨rd,hrd⟩:∃rd:Int,r.2.1=rd:=⟨r.2.1,rfl⟩;simp only[P6 ha,o7,L9,ha,o8,hlb,hrd];rw[eY o5,hst];by_cases hd:0<=rd/\rd<(m:Int)
  .obtain⟨d0,d1⟩:=hd;have hk:rd.toNat<m:=o5;have hkk:((rd.toNat:Nat):Int)=rd:=o5;have hg:b[rd.toNat]? =some (dl m (s.2.2.2.2.take i) rd):=by rw[hI];unfold TK;rw[Yi m _ hk,hkk]
   have hll:=a0I h m rd (s.2.2.2.2.take i) λr hr=>List.mem_of_mem_take hr;have hrl:=Qj h (rH ha) m;have htl:(s.2.2.2.2.take i).length<=96:=by simp;omega
   rw[bP d0,dP d1,show inb rd (m:Int)=true by unfold inb;simp;omega,show Y5 b (X4 rd)=some (dl m (s.2.2.2.2.take i) rd)from hg,PK _ h1 h2];simp only[o7,o8];rw[KR o5,show Ls (X4 rd) (X4 rd)=true by simp[Ls]];simp only[o7,o8];have hin:inD m rd=true:=by unfold inD;rw[bP d0,dP d1];rfl
   rw[hin,show b.getD rd.toNat []=dl m (s.2.2.2.2.take i) rd by rw[Ob,hg];rfl];refine⟨rfl,?_⟩;show b.set rd.toNat _=_;rw[hI];unfold TK;rw[a3e];apply gm;intro d hdm;rw[a2L,hrd];by_cases hq:d=rd.toNat
   .subst hq;rw[if_pos rfl,hkk,bF rfl];rfl
   .rw[if_neg hq,O9 o5];simp
  .have hin:inD m rd=false:=by
    unfold inD;by_cases d0:0<=rd
    .rw[bP d0,bU o5];rfl
    .rw[dE o5];rfl
   rw[hin];refine⟨?_,?_⟩
   .unfold inD at hin;cases q0:O7 0 rd
    .rfl
    .rw[q0]at hin;simp only[o7]at hin ⊢;rw[hin];rfl
   .show b=_;rw[hI];unfold TK;apply gm;intro d hdm;have:=fD.1 hdm;rw[a2L,hrd,O9 o5];simp
 .simp only[P5];rfl
 .rw[bu]at h2;rw[h2];generalize hA:TK m s.2.2.2.2=A;have hAl:o9 A=(m:Int):=by rw[←hA];simp[o9,TK]
  refine oL (List.range m) (λ(b:List (List Int)) d=>b.set d (NG (b.getD d []))) (λb i=>(b,i)) (λb=>b) (λi b=>b=(List.range m).map λ(d:Nat)=>if d<i then NG (dl m s.2.2.2.2 (d:Int))else dl m s.2.2.2.2 (d:Int)) A F5 (by rw[←hA];unfold TK;simp) (λi d b ha hi hI=>?_) (λb hI=>?_) (λh3=>?_)
  .have hlt:=(aK.1 ha).1;simp only[fZ]at hlt;have hdi:d=i:=by rw[List.getElem?_range hlt]at ha;exact(lG ha).symm
   subst hdi;have hlb:o9 b=(m:Int):=by rw[hI];simp[o9]
   have hg:b[d]? =some (dl m s.2.2.2.2 (d:Int)):=by rw[hI,Yi m _ hlt,if_neg o5]
   have hll:=a0I h m d s.2.2.2.2 λr hr=>hr;simp only[hAl,hlb];rw[dP (show(d:Int)<(m:Int) by omega),show inb (d:Int) (m:Int)=true by unfold inb;simp;omega,show Y5 b (X4 (d:Int))=some (dl m s.2.2.2.2 (d:Int))from hg];simp only[o7,o8];rw[YT o5,show Ls (X4 (d:Int)) (X4 (d:Int))=true by simp[Ls],eY o5];simp only[o7,o8];rw[show b.getD d []=dl m s.2.2.2.2 (d:Int) by rw[Ob,hg];rfl];refine⟨rfl,?_⟩;rw[hI,a3e];apply gm;intro e he;by_cases hq:e=d
   .subst hq;rw[if_pos rfl,if_pos o5]
   .rw[if_neg hq];by_cases hq2:e<d
    .rw[if_pos hq2,if_pos o5]
    .rw[if_neg hq2,if_neg o5]
  .simp only[fZ,hAl,bU (show(m:Int)<=(m:Int) by omega)];rfl
  .rw[h3];apply congrArg some;apply gm;intro d hd;have:=fD.1 hd;simp only[fZ];rw[if_pos this];unfold ng;rw[hn,show inD (m:Int) (d:Int)=true by unfold inD;rw[bP o5,dP o5];rfl];rfl
def Rch(D:Int->List Int)(d:Int)(L:List Int):Prop:=SI L/\(∀x∈D d,x∈L)/\(∀x∈L,∀y∈D x,y∈L)/\∀C:Int->Prop,(∀x∈D d,C x)->(∀x,C x->∀y∈D x,C y)->∀x∈L,C x
theorem Rch.unique{D:Int->List Int}{L M:List Int}(h:Rch D d L)(k:Rch D d M):L=M:=
 a1N h.1 k.1 λx=>⟨λhx=>h.2.2.2 (λy=>y∈M) k.2.1 k.2.2.1 x hx,λhx=>k.2.2.2 (λy=>y∈L) h.2.1 h.2.2.1 x hx⟩
theorem YW:∀{B A:List Int},SI A->SI B->(∀x∈A,x∈B)->A=B\/A.length<B.length
 |[],A,_,_,h=>by
  cases A with
  |nil=>exact .inl rfl|cons a A=>exact absurd (h a A8) A8
 |b::B,[],_,_,_=> .inr A8|b::B,a::A,hA,hB,h=>by
  have hA' :=V8.1 hA;have hB' :=V8.1 hB;rcases D6.1 (h a A8)with hab|hab
  .subst hab;rcases YW (B:=B) (A:=A) hA'.2 hB'.2 (λx hx=>by
    rcases D6.1 (h x (by simp[hx]))with h1|h1
    .have:=hA'.1 x hx;omega
    .exact h1)with h1|h1
   .exact .inl (by rw[h1])
   .exact .inr (by simp only[H5];omega)
  .have hab2:=hB'.1 a hab;rcases YW (B:=B) (A:=a::A) hA hB'.2 (λx hx=>by
    rcases D6.1 (h x hx)with h1|h1
    .rcases D6.1 hx with h2|h2
     .omega
     .have:=hA'.1 x h2;omega
    .exact h1)with h1|h1
   .exact .inr (by rw[h1];simp)
   .exact .inr (by simp only[H5]at*;omega)
def Gh(D:Int->List Int)(L:List Int):List Int:=L.foldl (λacc x=>EZ (D x) acc) L
theorem Gi(D:Int->List Int)(x:Int):∀(l acc:List Int),x∈l.foldl (λacc x=>EZ (D x) acc) acc↔x∈acc\/∃y∈l,x∈D y
 |[],acc=>by simp|a::l,acc=>by
  rw[ah,Gi D x l,Oj];constructor
  .rintro((h|h)|⟨y,hy,h⟩)
   .exact .inr ⟨a,A8,h⟩
   .exact .inl h
   .exact .inr ⟨y,by simp[hy],h⟩
  .rintro(h|⟨y,hy,h⟩)
   .exact .inl (.inr h)
   .rcases D6.1 hy with rfl|hy
    .exact .inl (.inl h)
    .exact .inr ⟨y,hy,h⟩
theorem a3l(D:Int->List Int):∀(l:List Int) {acc:List Int},SI acc->SI (l.foldl (λacc x=>EZ (D x) acc) acc)
 |[],_,h=>h|a::l,_,h=>by rw[ah];exact a3l D l (Tn _ h)
theorem UM(D:Int->List Int){L:List Int}(h:SI L):SI (Gh D L):=a3l D L h
def itS(D:Int->List Int)(d:Int):Nat->List Int
 |0=>D d|k+1=>Gh D (itS D d k)
section
variable {D:Int->List Int} {n:Nat} (hsi:∀x,SI (D x)) (hin:∀x,∀y∈D x,0<=y/\y<(n:Int))
include hsi hin
theorem Xa(d:Int):∀k,SI (itS D d k)
 |0=>hsi d|k+1=>UM D (Xa d k)
theorem a2W(d:Int):∀k,∀x∈itS D d k,0<=x/\x<(n:Int)
 |0,x,hx=>hin d x hx|k+1,x,hx=>by
  rcases(Gi D x _ _).1 hx with h|⟨y,_,h⟩
  .exact a2W d k x h
  .exact hin y x h
theorem a2V(d:Int)(k:Nat):Gh D (itS D d k)=itS D d k\/(itS D d k).length<(Gh D (itS D d k)).length:=by
 rcases YW (Xa hsi hin d k) (UM D (Xa hsi hin d k)) (λx hx=>(Gi D x _ _).2 (.inl hx))with h|h
 .exact .inl h.symm
 .exact .inr h
theorem Xb(d:Int):∀k,Gh D (itS D d k)=itS D d k\/k<(Gh D (itS D d k)).length
 |0=>by
  rcases a2V hsi hin d 0 with h|h
  .exact .inl h
  .exact .inr o5
 |k+1=>by
  rcases Xb d k with h|h
  .exact .inl (by show Gh D (Gh D (itS D d k))=Gh D (itS D d k);rw[h,h])
  .rcases a2V hsi hin d (k+1)with h2|h2
   .exact .inl h2
   .exact .inr (by have:(itS D d (k+1)).length=(Gh D (itS D d k)).length:=rfl;omega)
theorem b2f(d:Int):Rch D d (itS D d n):=by
 have hst:Gh D (itS D d n)=itS D d n:=by
  rcases Xb hsi hin d n with h|h
  .exact h
  .have:=YG n (UM D (Xa hsi hin d n)) (a2W hsi hin d (n+1));omega
 refine⟨Xa hsi hin d n,?_,?_,?_⟩
 .intro x hx;have:∀k,x∈itS D d k:=by
   intro k;induction k with
   |zero=>exact hx|succ k ih=>exact(Gi D x _ _).2 (.inl ih)
  exact this n
 .intro x hx y hy;rw[←hst];exact(Gi D y _ _).2 (.inr ⟨x,hx,hy⟩)
 .intro C h1 h2;have:∀k,∀x∈itS D d k,C x:=by
   intro k;induction k with
   |zero=>exact h1|succ k ih=>
    intro x hx;rcases(Gi D x _ _).1 hx with h|⟨y,hy,h⟩
    .exact ih x h
    .exact h2 y (ih y hy) x h
  exact this n
end
def xy(s:V6)(d:Int):List Int:=itS (ng s) d s.2.2.2.1.length
theorem QH(s:V6)(d:Int):Rch (ng s) d (xy s d):=
 b2f (n:=s.2.2.2.1.length) (FK s) (λx y hy=>BK hy) d
theorem a0f(h:x∈xy s d):0<=x/\x<nD s:=a2W (n:=s.2.2.2.1.length) (FK s) (λx y hy=>BK hy) d _ x h
theorem a0H(h:SmS s)(d:Int):(ng s d).length<=14:=
 ak (YG s.2.2.2.1.length (FK s d) (λx hx=>BK hx)) h.nd
theorem GY(h:SmS s){l:List Int}(hs:SI l)(hi:∀x∈l,0<=x/\x<nD s):l.length<=14:=ak (YG s.2.2.2.1.length hs hi) h.nd
theorem Va(h:SmS s)(d:Int):vF s d=some (xy s d):=by
 have hnd:=h.nd;unfold vF;rw[UW h,o8];have hsi:=FK s;have hin:∀x,∀y∈ng s x,0<=y/\y<((s.2.2.2.1.length:Nat):Int):=λx y hy=>BK hy;refine oL s.2.2.2.1 (λ(b:List Int) (_:iV)=>Gh (ng s) b) (λb i=>(b,i)) (λb=>b) (λi b=>b=itS (ng s) d i) (ng s d) o5 rfl (λi f b ha hi hI=>?_) (λb hI=>?_) (λh2=>?_)
 .simp only[P6 ha,o7];refine⟨?_,by show Gh _ b=_;rw[hI];rfl⟩;have hb1:SI b:=by rw[hI];exact Xa hsi hin d i
  have hb2:∀x∈b,0<=x/\x<nD s:=by rw[hI];exact a2W hsi hin d i
  have hbl:=GY h hb1 hb2;rw[eY o5];refine oL b (λ(acc:List Int) x=>EZ (ng s x) acc) (λb i=>(b,i)) (λb=>b) (λi acc=>SI acc/\∀x∈acc,0<=x/\x<nD s) b o5 ⟨hb1,hb2⟩ (λj x acc hx hj hJ=>?_) (λacc hJ=>?_) (λh3=>?_)
  .have hal:=GY h hJ.1 hJ.2;have hdl:=a0H h x;simp only[P6 hx,o7,L9,hx,o8,UW h x];rw[eY o5];refine⟨?_,Tn _ hJ.1,λy hy=>?_⟩
   .refine oL (ng s x) (λ(acc:List Int) y=>ins y acc) (λb i=>(b,i)) (λb=>b) (λi a=>a.length<=acc.length+i) acc o5 o5 (λk y a hy hk hK=>?_) (λa hK=>?_) (λh4=>?_)
    .have hlt:=(aK.1 hy).1;have hli:=xm y a;simp only[P6 hy,o7,L9,hy,o8];rw[show Y5 (ng s x) (X4 (k:Int))=some y from hy,o8,Dl _ o5,o8,eY o5];exact⟨rfl,by show(ins y a).length<=_;omega⟩
    .simp only[P5];rfl
    .rfl
   .rcases(Oj y _ _).1 hy with h4|h4
    .exact BK h4
    .exact hJ.2 y h4
  .simp only[P5];rfl
  .rfl
 .simp only[P5];rfl
 .rw[h2];rfl
def mk(S:List Bool)(x:Int):Bool:=if 0<=x then S.getD x.toNat false else false
def unm(S:List Bool):Nat:=S.count false
def rG(b:List Bool×List Int)(e:Int):List Bool×List Int:=l7 (mk b.1 e) b (b.1.set e.toNat true,b.2++[e])
variable {S:List Bool}
theorem a5M(h0:0<=x)(h1:x<o9 S):S[x.toNat]? =some (mk S x):=by
 unfold mk;rw[if_pos h0,Ob];have:x.toNat<S.length:=by simp only[o9]at h1;omega
 rw[kN this];rfl
theorem a5N{e:Int}(h0:0<=e)(h1:e<o9 S)(x:Int):mk (S.set e.toNat true) x=l7 (x8 x e) true (mk S x):=by
 unfold mk;have hl:e.toNat<S.length:=by simp only[o9]at h1;omega
 by_cases hx:0<=x
 .rw[if_pos hx,if_pos hx,Ob,Ob,P8];by_cases hq:x=e
  .subst hq;rw[if_pos rfl,if_pos hl,bF rfl];rfl
  .rw[if_neg o5,O9 hq];rfl
 .rw[if_neg hx,if_neg hx,O9 o5];rfl
theorem b1h{e:Int}(h0:0<=e)(h1:e<o9 S)(hm:mk S e=false):unm (S.set e.toNat true)+1=unm S:=by
 have hl:e.toNat<S.length:=by simp only[o9]at h1;omega
 have hg:=a5M h0 h1;rw[hm,kN hl]at hg;have hg' :S[e.toNat]=false:=lG hg;unfold unm;rw[List.count_set hl,hg'];have:0<S.count false:=List.count_pos_iff.2 (by rw[←hg'];exact O0 hl);simp;omega
structure RInv (n:Nat) (S:List Bool) (Q:List Int) (l:List Int) (S' :List Bool) (Q' :List Int):Prop where
 len:S'.length=n
 seen:∀x:Int,0<=x->x<(n:Int)->(mk S' x=true↔mk S x=true\/x∈l)
 sum:Q'.length+unm S' =Q.length+unm S
 le:unm S' <=unm S
 old:∀x∈Q,x∈Q'
 new:∀x∈Q',x∈Q\/x∈l
 got:∀x,mk S' x=true->mk S x=true\/x∈Q'
theorem a7e{n:Nat} :∀(l:List Int) (S:List Bool) (Q:List Int),S.length=n->(∀x∈l,0<=x/\x<(n:Int))->RInv n S Q l (l.foldl rG (S,Q)).1 (l.foldl rG (S,Q)).2
 |[],S,Q,hl,_=>⟨hl,λx _ _=>by simp,rfl,E9 _,λx hx=>hx,λx hx=> .inl hx,λx hx=> .inl hx⟩|e::l,S,Q,hl,hi=>by
  have he:=hi e A8;have hel:e<o9 S:=by simp only[o9];omega
  rw[ah];cases hm:mk S e with
  |true=>
   rw[show rG (S,Q) e=(S,Q) by unfold rG;rw[hm];rfl];have ih:=a7e l S Q hl λx hx=>hi x (by simp[hx]);refine⟨ih.len,λx h0 h1=>?_,ih.sum,ih.le,ih.old,λx hx=>?_,ih.got⟩
   .rw[ih.seen x h0 h1,D6];constructor
    .rintro(h|h)
     .exact .inl h
     .exact .inr (.inr h)
    .rintro(h|h|h)
     .exact .inl h
     .subst h;exact .inl hm
     .exact .inr h
   .rcases ih.new x hx with h|h
    .exact .inl h
    .exact .inr (by simp[h])
  |false=>
   rw[show rG (S,Q) e=(S.set e.toNat true,Q++[e]) by unfold rG;rw[hm];rfl];have ih:=a7e l (S.set e.toNat true) (Q++[e]) (by simp[hl]) λx hx=>hi x (by simp[hx]);have hu:=b1h he.1 hel hm;refine⟨ih.len,λx h0 h1=>?_,?_,?_,λx hx=>ih.old x (by simp[hx]),λx hx=>?_,λx hx=>?_⟩
   .rw[ih.seen x h0 h1,a5N he.1 hel,D6];cases hq:x8 x e
    .rw[CQ]at hq;simp[hq]
    .rw[kX]at hq;simp[hq]
   .have:=ih.sum;simp only[H9,H5,ai]at this;omega
   .have:=ih.le;omega
   .rcases ih.new x hx with h|h
    .rcases N8.1 h with h|h
     .exact .inl h
     .exact .inr (by simp at h;simp[h])
    .exact .inr (by simp[h])
   .rcases ih.got x hx with h|h
    .rw[a5N he.1 hel]at h;cases hq:x8 x e
     .rw[hq]at h;exact .inl h
     .rw[kX]at hq;subst hq;exact .inr (ih.old _ A8)
    .exact .inr h
def Rk(S:List Bool):List Int:=((List.range S.length).filter λi=>S.getD i false).map λ(i:Nat)=>(i:Int)
theorem KW(x:Int):x∈Rk S↔mk S x=true:=by
 unfold Rk mk;rw[gK];constructor
 .rintro⟨i,hi,rfl⟩;rw[if_pos o5];exact(lC.1 hi).2
 .intro h;split at h
  .refine⟨x.toNat,lC.2 ⟨fD.2 ?_,h⟩,o5⟩;rw[Ob]at h;cases hg:S[x.toNat]? with
   |none=>rw[hg]at h;cases h|some b=>exact(aK.1 hg).1
  .cases h
theorem a5K(S:List Bool):SI (Rk S):=by unfold Rk;refine List.Pairwise.map _ (R:=(·< ·)) (λa b h=>by omega) (List.Pairwise.filter _ List.pairwise_lt_range)
theorem a0Z(S:List Bool)(hS:S.length<=100)
  (hin:∀(i:Nat) (a:Bool) (acc:List Int),S[i]? =some a->i<=1000000->acc.length<=i->f (acc,(i:Int))=l7 a (l9 (aT acc [(i:Int)]) λx=>some (.inl (x,D8 .i64 (i:Int) 1))) (some (.inl (acc,D8 .i64 (i:Int) 1))))
  (hend:∀acc,f (acc,(S.length:Int))=some (.inr acc)):aO f ([],0)=some (Rk S):=by
 have mk2:∀i,i<=S.length->((List.range i).filter λi=>S.getD i false).length<=i:=λi _=>by have:=dG (λi=>S.getD i false) (List.range i);simpa using this
 obtain⟨e,h1,h2⟩:=rM (f:=f) (s:=([],0)) (λx=>∃i:Nat,x=(((List.range i).filter λi=>S.getD i false).map λ(i:Nat)=>(i:Int),(i:Int))/\i<=S.length) (λe=>e=Rk S) (λx=>S.length -x.2.toNat) ⟨0,rfl,o5⟩ F5 (by
  rintro x ⟨i,rfl,hi⟩;by_cases h:i<S.length
  .have e:=kN h;have hst:(List.range (i+1)).filter (λi=>S.getD i false)=(List.range i).filter (λi=>S.getD i false)++l7 S[i] [i] []:=by
    rw[fP,List.filter_append];congr 1;rw[gy,Ob,e];cases S[i]<;>rfl
   have hl:=mk2 i hi;refine .inl ⟨(((List.range (i+1)).filter λi=>S.getD i false).map λ(i:Nat)=>(i:Int),((i+1:Nat):Int)),?_,⟨i+1,rfl,h⟩,by simp;omega⟩;rw[hin i _ _ e o5 (by simpa using hl),eY o5,hst,eQ,mP _ (by rw[V7];omega)];cases S[i]
   .simp
   .rfl
  .have:i=S.length:=o5;subst this;exact .inr ⟨_,hend _,rfl⟩)
 rw[h1,h2]
theorem a1p{D:Int->List Int}{n:Nat}(hn:n<=14)(hsi:∀x,SI (D x))(hin:∀x,∀y∈D x,0<=y/\y<(n:Int))(h0:0<=d)(h1:d<(n:Int)):
  ∃L,Bi ((List.range n).map λ(x:Nat)=>D (x:Int)) d=some L/\Rch D d L:=by
 have hA:o9 ((List.range n).map λ(x:Nat)=>D (x:Int))=(n:Int):=by simp[o9]
 have hget:∀x:Int,0<=x->x<n->J4 ((List.range n).map λ(x:Nat)=>D (x:Int)) x=some (D x):=λx a b=>by
  have:x.toNat<n:=o5;unfold J4
  rw[if_pos a,Yi n _ this,qm a]
 unfold Bi;generalize (List.range n).map (λ(x:Nat)=>D (x:Int))=A at*;rw[hA,show yH (n:Int) false=some (List.replicate n false) by unfold yH;rw[if_pos o5];simp,o8];have hD14:∀x,(D x).length<=14:=λx=>ak (YG n (hsi x) (hin x)) hn;have key:=rM (f:=λ(x:List Bool×List Int)=>l7 (G5 0 (o9 x.2)) (l9 (J4 x.2 0) λ(x_1:Int)=>l9 (Y5 x.2 (X4 0)) λ(x_2:Int)=>l7 (jE 1 (o9 x.2) (o9 x.2)) (l9 (J4 A x_2) λ(x_3:List Int)=>
   l9 (aO (λ(x:List Bool×List Int×Int)=>l7 (G5 x.2.2 (o9 x_3)) (l9 (J4 x_3 x.2.2) λ(x_4:Int)=>l9 (J4 x.1 x_4) λ(x_5:Bool)=>l9 (Y5 x.1 (X4 x_4)) λ(x_6:Bool)=>
     l7 (D9 x_6) (l9 (J4 x.1 x_4) λ(x_7:Bool)=>l9 (Y5 x.1 (X4 x_4)) λ(x_8:Bool)=>l9 (aT x.2.1 [x_4]) λ(x_9:List Int)=>some (.inl (dW x.1 (X4 x_4) true,x_9,D8 .i64 x.2.2 1)))
      (some (.inl (x.1,x.2.1,D8 .i64 x.2.2 1)))) (some (.inr (x.1,x.2.1)))) (x.1,iM x.2 (X4 1) (X4 (o9 x.2)),0)) λ(y:List Bool×List Int)=>some (.inl y)) none) (some (.inr x.1)))
  (s:=(List.replicate n false,[d]))
  (λx=>x.1.length=n/\(∀q∈x.2,0<=q/\q<(n:Int))/\x.2.length+unm x.1<=n+1/\(∀q∈x.2,q=d\/mk x.1 q=true)/\(∀v,v=d\/mk x.1 v=true->v∈x.2\/∀y∈D v,mk x.1 y=true)/\
   (∀C:Int->Prop,(∀x∈D d,C x)->(∀x,C x->∀y∈D x,C y)->∀v,mk x.1 v=true->C v)/\(∀v,mk x.1 v=true->0<=v/\v<(n:Int)))
  (λS=>S.length=n/\Rch D d (Rk S)) (λx=>2*unm x.1+x.2.length) ?_ ?_ ?_
 .obtain⟨S,k1,k2,k3⟩:=key;refine⟨Rk S,?_,k3⟩;refine(UO k1 _).trans ?_;rw[wE];refine a0Z S o5 (λi a acc ha hi hacc=>?_) (λacc=>?_)
  .simp only[P6 ha,o7,L9,ha,o8];rw[show Y5 S (X4 (i:Int))=some a from ha,o8]
  .simp only[P5];rfl
 .have hnone:∀v,mk (List.replicate n false) v=false:=λv=>by
   unfold mk;split
   .rw[Ob,List.getElem?_replicate];split<;>rfl
   .rfl
  refine⟨A8,λq hq=>by simp at hq;omega,?_,λq hq=> .inl (by simpa using hq),λv hv=>?_,λC _ _ v hv=>(by rw[hnone]at hv;cases hv),λv hv=>(by rw[hnone]at hv;cases hv)⟩
  .simp[unm,List.count_replicate];omega
  .rcases hv with rfl|hv
   .exact .inl A8
   .rw[hnone]at hv;cases hv
 .simp[unm,List.count_replicate];omega
 .rintro⟨S,Q⟩ ⟨i1,i2,i3,i4,i5,i6,i7⟩;simp only at i1 i2 i3 i4 i5 i6 i7;cases Q with
  |nil=>
   right;refine⟨S,rfl,i1,a5K S,λx hx=>?_,λx hx y hy=>?_,λC c1 c2 x hx=>i6 C c1 c2 x ((KW x).1 hx)⟩
   .rcases i5 d (.inl rfl)with h|h
    .cases h
    .exact(KW x).2 (h x hx)
   .rcases i5 x (.inr ((KW x).1 hx))with h|h
    .cases h
    .exact(KW y).2 (h y hy)
  |cons q Q=>
   left;have hq:=i2 q A8;have hfold:=a7e (n:=n) (D q) S Q i1 (λx hx=>hin q x hx);refine⟨(D q).foldl rG (S,Q),?_,?_,?_⟩
   .simp only[dP (show(0:Int)<o9 (q::Q) by simp[o9]<;>omega),o7,show J4 (q::Q) 0=some q from rfl,show Y5 (q::Q) (X4 0)=some q from rfl,o8,hget q hq.1 hq.2,
     show jE 1 (o9 (q::Q)) (o9 (q::Q))=true by simp[jE,o9]<;>omega,show iM (q::Q) (X4 1) (X4 (o9 (q::Q)))=Q by simp[iM,X4,o9]]
    refine oL (D q) rG (λb i=>(b.1,b.2,i)) (λb=>b) (λi b=>b.1.length=n/\b.2.length<=100+i) (S,Q) (by have:=hD14 q;omega) ⟨i1,by simp at i3;show Q.length<=100+0;omega⟩ (λi e b he hi hI=>?_) (λb hI=>?_) (λh2=>rfl)
    .obtain⟨S1,Q1⟩:=b;simp only at hI;have hee:=hin q e (rH he);have hlt:=(aK.1 he).1;have hdl:=hD14 q;have hg:=a5M (S:=S1) hee.1 (by simp only[o9];omega);have hla:J4 S1 e=some (mk S1 e):=by unfold J4;rw[if_pos hee.1];exact hg
     have hlg:Y5 S1 (X4 e)=some (mk S1 e):=hg;simp only[P6 he,o7,L9 (D q),he,o8,hla,hlg];rw[eY o5,mP _ o5];unfold rG;simp only;cases mk S1 e
     .exact⟨rfl,by simp[hI.1],by simp<;>omega⟩
     .exact⟨rfl,hI.1,by show Q1.length<=_;omega⟩
    .simp only[P5];rfl
   .obtain⟨j1,j2,j3,j4,j5,j6,j7⟩:=hfold;generalize (D q).foldl rG (S,Q)=b at*;obtain⟨S',Q'⟩:=b;simp only at j1 j2 j3 j4 j5 j6 j7 ⊢;have hrange:∀v,mk S' v=true->0<=v/\v<(n:Int):=λv hv=>by
     rcases j7 v hv with h|h
     .exact i7 v h
     .rcases j6 v h with h|h
      .exact i2 v (by simp[h])
      .exact hin q v h
    refine⟨j1,λx hx=>?_,?_,λx hx=>?_,λv hv=>?_,λC c1 c2 v hv=>?_,hrange⟩
    .rcases j6 x hx with h|h
     .exact i2 x (by simp[h])
     .exact hin q x h
    .simp only[H5]at i3;omega
    .rcases j6 x hx with h|h
     .rcases i4 x (by simp[h])with h2|h2
      .exact .inl h2
      .have hr:=i7 x h2;exact .inr ((j2 x hr.1 hr.2).2 (.inl h2))
     .have hr:=hin q x h;exact .inr ((j2 x hr.1 hr.2).2 (.inr h))
    .have up:∀y,mk S y=true->mk S' y=true:=λy hy=>by
      have hr:=i7 y hy;exact(j2 y hr.1 hr.2).2 (.inl hy)
     by_cases hvq:v=q
     .subst hvq;right;intro y hy;have hr:=hin v y hy;exact(j2 y hr.1 hr.2).2 (.inr hy)
     .by_cases hold:v=d\/mk S v=true
      .rcases i5 v hold with h|h
       .rcases D6.1 h with h|h
        .exact absurd h hvq
        .exact .inl (j5 v h)
       .exact .inr λy hy=>up y (h y hy)
      .rcases hv with h|h
       .exact absurd (.inl h) hold
       .rcases j7 v h with h2|h2
        .exact absurd (.inr h2) hold
        .exact .inl h2
    .by_cases hS:mk S v=true
     .exact i6 C c1 c2 v hS
     .have hr:=hrange v hv;rcases(j2 v hr.1 hr.2).1 hv with h|h
      .exact absurd h hS
      .rcases i4 q A8 with h2|h2
       .subst h2;exact c1 v h
       .exact c2 q (i6 C c1 c2 q h2) v h
   .have:=hfold.sum;have:=hfold.le;simp only[H5];omega
theorem WC(h:SmS s)(h0:0<=d)(h1:d<nD s):wI s d=some (xy s d):=by have hn:nD s=((s.2.2.2.1.length:Nat):Int):=rfl;unfold wI;change l7 (G5 d 0) _ (l7 (O7 (nD s) d) _ _)=_;rw[bU h0,o6,dE h1,o6,XL h,o8,wE];obtain⟨L,k1,k2⟩:=a1p (D:=ng s) h.nd (FK s) (λx y hy=>BK hy) h0 (show d<((s.2.2.2.1.length:Nat):Int) by omega);rw[k1,Rch.unique k2 (QH s d)]
structure SmL (l:X6):Prop where
 few:Few l
 en:XH l
 tb:TC l
 sc:∀s∈l.2.2,SmS s
structure SwS (s:V6):Prop where
 nm:s.1.length<=1000000
 ni:s.2.2.1.length<=100000
 nd:s.2.2.2.1.length<=100000
 nr:s.2.2.2.2.length<=100000
 fo:Tv s
 ro:∀r∈s.2.2.2.2,XI r
structure SwL (l:X6):Prop where
 few:Few l
 en:XH l
 tb:TC l
 sc:∀s∈l.2.2,SwS s
theorem SwL.scopes(h:SwL l):Ja l:=λs hs=>by have hm:=h.sc s hs;exact⟨hm.nm,hm.ni,hm.nd,hm.nr⟩
theorem SmL.w(h:SmL l):SwL l:=⟨h.few,h.en,h.tb,λs hs=>by have hm:=h.sc s hs;exact⟨hm.nm,by have:=hm.ni;omega,by have:=hm.nd;omega,by have:=hm.nr;omega,hm.fo,λr hr=>(hm.ro r hr).1⟩⟩
theorem SmL.scopes(h:SmL l):Ja l:=λs hs=>by have hm:=h.sc s hs;exact⟨hm.nm,by have:=hm.ni;omega,by have:=hm.nd;omega,by have:=hm.nr;omega⟩
theorem FT{ε ρ:Type}{p:Nat->Option ρ}(n:Nat)(hn:n<=1000000)(e:ε){f:Int->Option (Out Int ε ρ)}
  (h1:∀i,i<n->f (i:Int)=some (match p i with|some r=> .rt r|none=> .nx (D8 .i64 (i:Int) 1))) (h2:f (n:Int)=some (.ex e)):
  O6 f 0=some (match dD n p with|some r=> .inr r|none=> .inl e):=
 Es n o5 e (λi hi=>by rw[h1 i hi,eY o5]<;>cases p i<;>rfl) h2
def MF(l:X6)(s:V6)(k:Nat):Option (Int×Int):=match s.2.2.2.2[k]? with|some r=>SA (JQ s (SL l s) k r) (300+k:Nat)|none=>none
def Zr(s:V6)(d:Nat):Option (Int×Int):=l7 ((xy s d).any λx=>x8 (d:Int) x) (some (9,((200+d:Nat):Int))) none
def Nj(l:X6)(i:Nat)(m:Int):Bool:=l7 (x8 m (-1)) false (l7 (G5 m 0) true (l7 (O7 (i:Int) m) true (match J4 l.2.2 m with|some q=>D9 (x8 q.2.1 (-1))|none=>true)))
def a1j(l:X6)(s:V6):Int×Int:=match GU l s with
 |some r=>r
 |none=>match dD s.2.2.2.2.length (MF l s)with
  |some r=>r
  |none=>match dD s.2.2.2.1.length (Zr s)with
   |some r=>r|none=>(0,0)
def Ig(l:X6)(i:Nat)(s:V6):Int×Int:=
 l7 (oV s.1) (l7 (DF l 3 i s.1) (7,0) (l7 (Nj l i s.2.1) (6,0) (l7 (G5 12 (o9 s.2.2.1)) (4,112) (l7 (G5 12 (o9 s.2.2.2.1)) (4,212) (a1j l s))))) (2,0)
theorem VM(h:Gq e sg t=0):e.length<=50:=by
 unfold Gq rX at h;cases hs:jV e with
 |inl x=>
  rw[hs]at h;simp only at h;cases hc:x8 x.2 0<;>rw[hc]at h
  .exact absurd h (CQ.1 hc)
  .exact absurd (kX.1 hc) (Ap hs)
 |inr x=>have:=(rq hs).2;omega
theorem a9H{m:Nat} :∀(D:List Int),(∀x∈D,0<=x/\x<(m:Int))->(∀d:Int,D.countP (λo=>x8 o d)<=8)->D.length<=m*8:=by
 induction m with
 |zero=>
  intro D h _;cases D with
  |nil=>simp|cons a D=>have:=h a A8;omega
 |succ m ih=>
  intro D h h8;have h1:=ih (D.filter λo=>D9 (x8 o (m:Int))) (λx hx=>by
   obtain⟨hx,hn⟩:=lC.1 hx;have:=h x hx;have hn:x≠(m:Int):=λe=>by rw[bF e]at hn;cases hn
   omega) (λd=>by rw[List.countP_filter];refine ak (List.countP_mono_left λx _ hx=>?_) (h8 d);simp only[A7]at hx;exact hx.1)
  have h2:=h8 (m:Int);have h3:∀D:List Int,D.length=D.countP (λo=>x8 o (m:Int))+(D.filter λo=>D9 (x8 o (m:Int))).length:=by
   intro D;induction D with
   |nil=>rfl|cons a D ih=>rw[List.countP_cons,gy,H5,ih];cases x8 a (m:Int)<;>simp<;>omega
  have:=h3 D;omega
theorem Vr(h:JQ s sg k r=0):(∃d,J4 s.2.2.2.1 r.2.1=some d/\PO r sg d.2=0)/\NP (s.2.2.2.2.take k) r.2.1<8:=by
 unfold JQ at h;cases g1:oV r.1<;>rw[g1]at h
 .exact absurd (show(2:Int)=0 from h) U9
 cases g2:(s.2.2.2.2.take k).any λx=>seq x.1 r.1<;>rw[g2]at h
 case true=>exact absurd (show(7:Int)=0 from h) U9
 simp only[o7,o6]at h;cases g3:J4 s.2.2.2.1 r.2.1 with
 |none=>rw[g3]at h;exact absurd (show(6:Int)=0 from h) U9|some d=>
  rw[g3]at h;simp only at h;generalize (l7 (x8 r.2.2.1 (-1)) false (l7 (G5 r.2.2.1 0) true (l7 (O7 (k:Int) r.2.2.1) true (match J4 s.2.2.2.2 r.2.2.1 with|some q=>D9 (x8 q.2.1 r.2.1)|none=>true))))=g4 at h;cases g4
  case true=>exact absurd (show(9:Int)=0 from h) U9
  cases g5:G5 r.2.2.2.1 0<;>rw[g5]at h
  case true=>exact absurd (show(3:Int)=0 from h) U9
  cases g6:G5 9 r.2.2.2.1<;>rw[g6]at h
  case true=>exact absurd (show(3:Int)=0 from h) U9
  cases g7:GG r.2.2.2.2.1<;>rw[g7]at h
  .exact absurd (show(3:Int)=0 from h) U9
  cases g8:x8 r.2.2.2.2.1.1 r.2.2.2.2.1.2<;>rw[g8]at h
  case true=>exact absurd (show(3:Int)=0 from h) U9
  cases g9:O7 8 (NP (s.2.2.2.2.take k) r.2.1:Int)<;>rw[g9]at h
  case true=>exact absurd (show(4:Int)=0 from h) U9
  cases g10:QE r.2.2.2.2.2.2.2<;>rw[g10]at h
  .exact absurd (show(2:Int)=0 from h) U9
  simp only[o7,o6]at h;have:=MX.1 g9;exact⟨⟨d,rfl,h⟩,o5⟩
theorem a4e(h:PO r sg t=0):r.2.2.2.2.2.1.length<=50/\r.2.2.2.2.2.2.1.length<=50:=by
 unfold PO at h;cases g:G5 0 (o9 r.2.2.2.2.2.1)<;>rw[g]at h
 .have:=ql.1 g;unfold o9 at this;exact⟨o5,VM h⟩
 .rw[o7]at h;cases g2:x8 (Gq r.2.2.2.2.2.1 sg (1,0)) 0<;>rw[g2]at h
  .exact absurd h (CQ.1 g2)
  .exact⟨VM (kX.1 g2),VM h⟩
theorem a7V(hw:SwS s)(h1:s.2.2.1.length<=12)(h2:s.2.2.2.1.length<=12)(h:dD s.2.2.2.2.length (MF l s)=none):SmS s:=by
 have hz:∀(k:Nat) (r:eF),s.2.2.2.2[k]? =some r->JQ s (SL l s) k r=0:=λk r hr=>by
  have:=XZ h k (aK.1 hr).1;unfold MF at this;rw[hr]at this;unfold SA at this;simp only at this;cases g:x8 (JQ s (SL l s) k r) 0<;>rw[g]at this
  .cases this
  .exact kX.1 g
 have hk:∀k,k<=s.2.2.2.2.length->∀d:Int,((s.2.2.2.2.take k).map λ(o:eF)=>o.2.1).countP (λo=>x8 o d)<=8:=by
  intro k;induction k with
  |zero=>intro _ d;simp|succ k ih=>
   intro hk d;have e:=kN (show k<s.2.2.2.2.length by omega);have h3:=(Vr (hz k _ e)).2;unfold NP at h3;have h4:=ih o5 d;rw[X5 o5,eQ,List.countP_append];rw[List.countP_map]at h4 ⊢;by_cases hd:(s.2.2.2.2[k]).2.1=d
   .have e5:List.countP ((λ(o:Int)=>x8 o d)∘λ(o:eF)=>o.2.1) (s.2.2.2.2.take k)=(s.2.2.2.2.take k).countP λ(o:eF)=>x8 o.2.1 (s.2.2.2.2[k]).2.1:=by rw[hd];rfl
    have e6:List.countP (λo=>x8 o d) [(s.2.2.2.2[k]).2.1]<=1:=oI;simp only[fA,jM];omega
   .have e6:List.countP (λo=>x8 o d) [(s.2.2.2.2[k]).2.1]=0:=by simp[O9 hd]
    simp only[fA,jM];omega
 have h8:=hk s.2.2.2.2.length (E9 _);rw[bu]at h8;have hc:=a9H (m:=12) (s.2.2.2.2.map λ(o:eF)=>o.2.1) (λx hx=>by obtain⟨r,hr,rfl⟩:=gK.1 hx;obtain⟨k,hk,e⟩:=bJ hr;obtain⟨⟨d,hd,-⟩,-⟩:=Vr (hz k r (by rw[kN hk,e]));obtain⟨a,b,-⟩:=xK hd;unfold o9 at b;omega) h8
 rw[V7]at hc;refine⟨hw.nm,o5,o5,o5,hw.fo,λr hr=>⟨hw.ro r hr,?_⟩⟩;obtain⟨k,hk,e⟩:=bJ hr;obtain⟨⟨d,-,hd⟩,-⟩:=Vr (hz k r (by rw[kN hk,e]));exact a4e hd
theorem VU(hL:SwL l)(hs:l.2.2[i]? =some s):yA l (i:Int)=some (Ig l i s):=by
 have hi:=(aK.1 hs).1;have hS:=hL.sc s (rH hs);have hf:=hL.few;have hf1:=hf.1;have hf2:=hf.2.1;have hf3:=hf.2.2;have n1:=hS.ni;have n2:=hS.nd;have n3:=hS.nr;unfold yA Ig DF;rw[L9,hs,o8,xO o5,o8,MV _ o5,o8,QY _ o5,o8,ZE _ F5,o8];have hb:(l7 (l.1.any λx=>seq x.1 s.1) (some (s,true)) (l7 (l.2.1.any λx=>seq x.1 s.1) (some (s,true)) (some (s,(l.2.2.take i).any λx=>seq x.1 s.1))))=
   some (s,(l.1.any λx=>seq x.1 s.1) || (l.2.1.any λx=>seq x.1 s.1) || (l.2.2.take i).any λx=>seq x.1 s.1):=by
  cases l.1.any λx=>seq x.1 s.1
  .cases l.2.1.any λx=>seq x.1 s.1<;>rfl
  .rfl
 rw[hb,o8];simp only;rw[su hS.nm,o8];cases oV s.1
 .rfl
 simp only[J7,o6,o7];cases (l.1.any λx=>seq x.1 s.1) || (l.2.1.any λx=>seq x.1 s.1) || (l.2.2.take i).any λx=>seq x.1 s.1
 case true=>rfl
 simp only[o6];have hm:(l7 (D9 (x8 s.2.1 (-1))) (l7 (G5 s.2.1 0) (some true) (l7 (O7 (i:Int) s.2.1) (some true) (l9 (J4 (l.2.2.take i) s.2.1) λ(x:V6)=>some (D9 (x8 x.2.1 (-1)))))) (some false))=some (Nj l i s.2.1):=by
  unfold Nj;cases x8 s.2.1 (-1)
  case true=>rfl
  simp only[af,o7,o6];cases h0:G5 s.2.1 0
  case true=>rfl
  cases h1:O7 (i:Int) s.2.1
  case true=>rfl
  rw[ql]at h0;rw[MX]at h1;obtain⟨q,hq,_⟩:=tC (l:=l.2.2.take i) h0 (by simp only[o9,bn];omega);have hq2:J4 l.2.2 s.2.1=some q:=by have:=(xK hq).2.2.2;unfold J4;rw[if_pos h0];exact(Pj this).2
  rw[hq,hq2];rfl
 rw[hm,o8];cases Nj l i s.2.1
 case true=>rfl
 simp only[o6];cases g12:G5 12 (o9 s.2.2.1)
 case true=>rfl
 cases g13:G5 12 (o9 s.2.2.2.1)
 case true=>rfl
 have m1:s.2.2.1.length<=12:=by have:=ql.1 g12;unfold o9 at this;omega
 have m2:s.2.2.2.1.length<=12:=by have:=ql.1 g13;unfold o9 at this;omega
 simp only[o6,o8,X0];unfold a1j GU;refine U8 (FT (p:=inP l s) s.2.2.1.length o5 PUnit.unit (λk hk=>?_) ?_) ?_
 rotate_left 2
 .cases dD s.2.2.1.length (inP l s)
  case some r=>rfl
  simp only[o8,X0];refine U8 (FT (p:=Zt l s) s.2.2.2.1.length o5 PUnit.unit (λk hk=>?_) ?_) ?_
  rotate_left 2
  .cases dD s.2.2.2.1.length (Zt l s)
   case some r=>rfl
   simp only[o8,X0];rw[DC hL.scopes hs,o8];refine U8 (FT (p:=MF l s) s.2.2.2.2.length o5 PUnit.unit (λk hk=>?_) ?_) ?_
   rotate_left 2
   .cases hfr:dD s.2.2.2.2.length (MF l s)
    case some r=>rfl
    have hS:=a7V hS m1 m2 hfr;simp only[o8,X0];refine U8 (FT (p:=Zr s) s.2.2.2.1.length o5 PUnit.unit (λk hk=>?_) ?_) ?_
    rotate_left 2
    .cases dD s.2.2.2.1.length (Zr s)<;>rfl
    .have e:=kN hk;simp only[P6 e,o7];rw[WC hS o5 (by show(k:Int)<o9 s.2.2.2.1;simp only[o9];omega),o8,a4g _ (by
      have:=GY hS (QH s (k:Int)).1 (λx hx=>a0f hx);omega),o8,show(200:Int)=((200:Nat):Int)from rfl,QZ o5 o5]
     unfold Zr;cases (xy s (k:Int)).any λx=>x8 (k:Int) x<;>rfl
    .rw[P5];rfl
   .have e:=kN hk;have hr:=hS.ro _ (O0 hk);simp only[P6 e,o7];rw[XP _ e o5 hr,o8,show(300:Int)=((300:Nat):Int)from rfl,QZ o5 o5];simp only[MF,e,SA];cases x8 (JQ s (SL l s) k s.2.2.2.2[k]) 0<;>rfl
   .rw[P5];rfl
  .have e:=kN hk;have hm:=hS.fo.2 _ (O0 hk);simp only[P6 e,o7,L9,e,o8];rw[xO o5,o8,LM hm o5 F5,o8,show(200:Int)=((200:Nat):Int)from rfl,QZ o5 o5];simp only[Zt,e,SA];cases x8 (Jq l.1 s.2.2.2.1[k] s.2.2.1 (s.2.2.2.1.take k)) 0<;>rfl
  .rw[P5];rfl
 .have e:=kN hk;have hm:=hS.fo.1 _ (O0 hk);simp only[P6 e,o7,L9,e,o8];rw[xO o5,o8,LM hm F5 A8,o8,show(100:Int)=((100:Nat):Int)from rfl,QZ o5 o5];simp only[inP,e,SA];cases x8 (Jq l.1 s.2.2.1[k] (s.2.2.1.take k) []) 0<;>rfl
 .rw[P5];rfl
theorem PM{c e:Int}{r:Int×Int}(h:SA c e=some r):r.1≠0:=by
 unfold SA at h;cases hc:x8 c 0<;>rw[hc]at h
 .cases h;exact CQ.1 hc
 .cases h
theorem ZB{r:Int×Int}(h:GU l s=some r):r.1≠0:=by
 unfold GU at h;split at h
 .rename_i q hq;cases h;obtain⟨k,_,hk⟩:=nC hq;unfold inP at hk;split at hk
  .exact PM hk
  .cases hk
 .obtain⟨k,_,hk⟩:=nC h;unfold Zt at hk;split at hk
  .exact PM hk
  .cases hk
theorem UY(hL:SmL l)(hs:l.2.2[i]? =some s):vI l (i:Int)=some (l7 (x8 (Ig l i s).1 0) (0,0,0,0) (Sl i (Ig l i s))):=by
 have hi:=(aK.1 hs).1;have hS:=hL.sc s (rH hs);have hf:=hL.few;have hf1:=hf.1;have hf2:=hf.2.1;have hf3:=hf.2.2;have n1:=hS.ni;have n2:=hS.nd;have n3:=hS.nr;unfold vI Ig;rw[L9,hs,o8,nX hS.nm,o8];cases oV s.1
 .rfl
 simp only[J7,o6,o7];rw[a4V hf,o8];cases DF l 3 i s.1
 case true=>rfl
 simp only[o6];have hm:(l7 (D9 (x8 s.2.1 (-1))) (l7 (G5 s.2.1 0) (some (Sum.inr ((6:Int),(3:Int),(i:Int),(0:Int)))) (l7 (O7 (i:Int) s.2.1) (some (.inr (6,3,(i:Int),0))) (l9 (J4 l.2.2 s.2.1) λ(x:V6)=>l7 (D9 (x8 x.2.1 (-1))) (some (.inr (6,3,(i:Int),0))) (some (.inl (((0:Int),(0:Int),(0:Int),(0:Int)),(0:Int),(3:Int),(i:Int),(0:Int))))))) (some (.inl ((0,0,0,0),0,3,(i:Int),0))))=
   some (l7 (Nj l i s.2.1) (.inr (6,3,(i:Int),0)) (.inl ((0,0,0,0),0,3,(i:Int),0))):=by
  unfold Nj;cases x8 s.2.1 (-1)
  case true=>rfl
  simp only[af,o7,o6];cases h0:G5 s.2.1 0
  case true=>rfl
  cases h1:O7 (i:Int) s.2.1
  case true=>rfl
  rw[ql]at h0;rw[MX]at h1;obtain⟨q,hq,_⟩:=tC (l:=l.2.2) h0 (by simp only[o9];omega);rw[hq];simp only[o6,o8];cases x8 q.2.1 (-1)<;>rfl
 rw[hm,o8];cases Nj l i s.2.1
 case true=>rfl
 simp only[o6,X0];cases G5 12 (o9 s.2.2.1)
 case true=>rfl
 cases G5 12 (o9 s.2.2.2.1)
 case true=>rfl
 simp only[o6];rw[UX hs o5 o5 hS.fo,o8];unfold a1j;cases hfs:GU l s with
 |some r=>have hc:=ZB hfs;simp only[Sl];rw[O9 hc];rfl|none=>
  simp only[bF (rfl:(0:Int)=0),J7,o6];refine U8 (nS (p:=λk=>(MF l s k).map (Sl i)) s.2.2.2.2.length o5 _ (0,0,0,0) (λk hk=>?_) ?_) ?_
  rotate_left 2
  .rw[Eo];cases hfr:dD s.2.2.2.2.length (MF l s)with
   |some r=>
    obtain⟨k,_,hk⟩:=nC hfr;have hc:r.1≠0:=by
     unfold MF at hk;split at hk
     .exact PM hk
     .cases hk
    simp only[aV,o8,mX];rw[O9 hc];rfl
   |none=>
    simp only[Option.map_none,o8,X0];refine U8 (nS (p:=λk=>(Zr s k).map (Sl i)) s.2.2.2.1.length o5 _ (0,0,0,0) (λk hk=>?_) ?_) ?_
    rotate_left 2
    .rw[Eo];cases hfc:dD s.2.2.2.1.length (Zr s)with
     |some r=>
      obtain⟨k,_,hk⟩:=nC hfc;have hc:r.1≠0:=by
       unfold Zr at hk;cases hq:(xy s (k:Int)).any λx=>x8 (k:Int) x<;>rw[hq]at hk
       .cases hk
       .cases hk;show(9:Int)≠0;decide
      simp only[aV,o8,mX];rw[O9 hc];rfl
     |none=>rfl
    .have e:=kN hk;have htl:=GY hS (QH s (k:Int)).1 (λx hx=>a0f hx);simp only[P6 e,o7];rw[Va hS,o8,show(200:Int)=((200:Nat):Int)from rfl,QZ o5 o5];have hcy:O6 (λ(x_6:J9×Int)=>l7 (G5 x_6.2 (o9 (xy s (k:Int)))) (l9 (J4 (xy s (k:Int)) x_6.2) λ(x:Int)=>l7 (x8 x (k:Int)) (some (Out.rt ((9:Int),(3:Int),(i:Int),((200+k:Nat):Int)))) (some (.nx (x_6.1,D8 .i64 x_6.2 1)))) (some (.ex x_6.1))) (((0:Int),(0:Int),(0:Int),(0:Int)),(0:Int))=
       some (l7 ((xy s (k:Int)).any λx=>x8 (k:Int) x) (.inr (9,3,(i:Int),((200+k:Nat):Int))) (.inl (0,0,0,0))):=by
      have h1:=Nc (xy s (k:Int)) (λ(b:Int×Int×Int×Int) x=>l7 (x8 x (k:Int)) (.inr ((9:Int),(3:Int),(i:Int),((200+k:Nat):Int))) (.inl b)) (λb i=>(b,i)) (λb=>b) (λ_ _=>True) (b:=((0,0,0,0):Int×Int×Int×Int)) (f:=λ(x_6:J9×Int)=>l7 (G5 x_6.2 (o9 (xy s (k:Int)))) (l9 (J4 (xy s (k:Int)) x_6.2) λ(x:Int)=>l7 (x8 x (k:Int)) (some (Out.rt ((9:Int),(3:Int),(i:Int),((200+k:Nat):Int)))) (some (.nx (x_6.1,D8 .i64 x_6.2 1)))) (some (.ex x_6.1))) o5 trivial (λj x b hx hj _=>by refine⟨?_,λ_ _=>trivial⟩;simp only[P6 hx,o7,L9,hx,o8];rw[eY o5];cases x8 x (k:Int)<;>rfl) (λb _=>by simp only[P5];rfl)
      refine h1.1.trans ?_;have hfo:∀(l:List Int) (b:Int×Int×Int×Int),mJ (λ(b:Int×Int×Int×Int) x=>l7 (x8 x (k:Int)) (.inr ((9:Int),(3:Int),(i:Int),((200+k:Nat):Int))) (.inl b)) l b=l7 (l.any λx=>x8 (k:Int) x) (.inr (9,3,(i:Int),((200+k:Nat):Int))) (.inl b):=by
       intro l;induction l with
       |nil=>intro b;rfl|cons a l ih=>
        intro b;unfold mJ;rw[rJ,show x8 (k:Int) a=x8 a (k:Int) by unfold x8;by_cases h:a=(k:Int)<;>simp[h,eq_comm]];cases x8 a (k:Int)
        .simp only[o6,kP];exact ih b
        .rfl
      rw[hfo];cases (xy s (k:Int)).any λx=>x8 (k:Int) x<;>rfl
     refine U8 hcy ?_;unfold Zr;cases (xy s (k:Int)).any λx=>x8 (k:Int) x<;>rfl
    .simp only[P5];rfl
  .have e:=kN hk;have hr:=(hS.ro _ (O0 hk)).1;simp only[P6 e,o7];rw[Ws hL.scopes hs e hr,o8,show(300:Int)=((300:Nat):Int)from rfl,QZ o5 o5];simp only[MF,e,SA];cases x8 (JQ s (SL l s) k s.2.2.2.2[k]) 0<;>rfl
  .simp only[P5];rfl
def Ie(l:X6)(i:Nat):Option (Int×Int×Int×Int):=match l.2.2[i]? with|some s=>SB 3 i (Ig l i s)|none=>none
def OX(l:X6):Int×Int×Int×Int:=l7 (G5 4 (o9 l.2.2)) (4,3,4,0) (match dD l.2.2.length (Ie l)with|some r=>r|none=>(0,0,0,0))
def vY(l:X6):Int×Int×Int×Int:=l7 (x8 (MQ l).1 0) (l7 (x8 (Ik l).1 0) (OX l) (Ik l)) (MQ l)
theorem TU(hL:SwL l):wK l=some (OX l):=by
 have hf:=hL.few.2.2;unfold wK OX;cases G5 4 (o9 l.2.2)
 case true=>rfl
 simp only[o6];refine U8 (nS (p:=Ie l) l.2.2.length o5 _ (0,0,0,0) (λi hi=>?_) ?_) ?_
 rotate_left 2
 .cases dD l.2.2.length (Ie l)<;>rfl
 .have e:=kN hi;simp only[P6 e,o7,VU hL e,o8,Ie,e,SB];cases x8 (Ig l i l.2.2[i]).1 0<;>rfl
 .rw[P5];rfl
theorem Zb(hL:SwL l):nM l=some (vY l):=by
 unfold nM vY;rw[VS hL.few hL.en,o8];cases x8 (MQ l).1 0
 .rfl
 simp only[J7,o6,o7];rw[TV hL.few hL.tb,o8];cases x8 (Ik l).1 0
 .rfl
 simp only[J7,o6,o7];rw[TU hL];rfl
theorem a0j(hL:SmL l):nM l=some (vY l):=Zb hL.w
theorem WO{k i:Int}{c:Int×Int}{r:Int×Int×Int×Int}(h:SB k i c=some r):r.1≠0:=by
 unfold SB at h;cases hc:x8 c.1 0<;>rw[hc]at h
 .cases h;exact CQ.1 hc
 .cases h
theorem Yt(hL:SmL l):yP l=some (vY l):=by
 have hf1:=hL.few.1;have hf2:=hL.few.2.1;have hf3:=hL.few.2.2;unfold yP vY MQ;cases G5 8 (o9 l.1)
 case true=>rfl
 simp only[o6];refine U8 (nS (p:=QR l) l.1.length o5 _ (0,0,0,0) (λi hi=>?_) ?_) ?_
 rotate_left 2
 .cases hfe:dD l.1.length (QR l)with
  |some r=>
   obtain⟨k,_,hk⟩:=nC hfe;have hc:r.1≠0:=by
    unfold QR at hk;split at hk
    .exact WO hk
    .cases hk
   simp only[o8,mX,O9 hc,o6]
  |none=>
   simp only[o8,X0,bF (rfl:(0:Int)=0),o7];unfold Ik;cases G5 8 (o9 l.2.1)
   case true=>rfl
   simp only[o6];refine U8 (nS (p:=Ku l) l.2.1.length o5 _ (0,0,0,0) (λi hi=>?_) ?_) ?_
   rotate_left 2
   .cases hft:dD l.2.1.length (Ku l)with
    |some r=>
     obtain⟨k,_,hk⟩:=nC hft;have hc:r.1≠0:=by
      unfold Ku at hk;split at hk
      .exact WO hk
      .cases hk
     simp only[o8,mX,O9 hc,o6]
    |none=>
     simp only[o8,X0,bF (rfl:(0:Int)=0),o7];unfold OX;cases G5 4 (o9 l.2.2)
     case true=>rfl
     simp only[o6];refine U8 (nS (p:=Ie l) l.2.2.length o5 _ (0,0,0,0) (λi hi=>?_) ?_) ?_
     rotate_left 2
     .cases dD l.2.2.length (Ie l)<;>rfl
     .have e:=kN hi;simp only[P6 e,o7,UY hL e,o8,Ie,e,SB];cases hc:x8 (Ig l i l.2.2[i]).1 0
      .simp only[o6,Sl,hc];rfl
      .simp only[o7,bF (rfl:(0:Int)=0)];rfl
     .simp only[P5];rfl
   .have e:=kN hi;simp only[P6 e,o7,UZ hL.few e (hL.tb _ (O0 hi)),o8,Ku,e,SB,Ll];cases hc:x8 (VE l i l.2.1[i]).1 0
    .simp only[o6,hc];rfl
    .simp only[o7,bF (rfl:(0:Int)=0)];rfl
   .simp only[P5];rfl
 .have e:=kN hi;have hm:=hL.en _ (O0 hi);simp only[P6 e,o7,Wq hL.few e hm.1 hm.2,o8,QR,e,SB,Ll];cases hc:x8 (Ug l i l.1[i]).1 0
  .simp only[o6,hc];rfl
  .simp only[o7,bF (rfl:(0:Int)=0)];rfl
 .simp only[P5];rfl
theorem ZF{l:List Int}(h:i<l.length):J4 l (i:Int)=some (hg l i):=by rw[L9];exact a9M h
def hw(W:List Int)(d:Int):Int:=W.getD d.toNat 0
end Go.GP
namespace Gt
open Go Go.GP
def il(y:Int):Bool:=if y % 4=0 then(if y % 100≠0 then true else decide (y % 400=0))else false
def ys(y:Int):Int:=(y -1900)*365+((y -1) / 4 -(y -1) / 100+(y -1) / 400) -460
def diy(y:Int):Int:=if il y then 366 else 365
theorem Lm(y:Int):ys (y+1)=ys y+diy y:=by unfold ys diy il;by_cases h4:y % 4=0<;>by_cases h100:y % 100=0<;>by_cases h400:y % 400=0<;>simp[h4,h100,h400]<;>omega
theorem a9S(a b:Int):a<b\/b<=a:=o5
theorem Uc(y:Int):365<=diy y/\diy y<=366:=by unfold diy;split<;>omega
theorem BJ{y y' :Int}(h:y<=y'):ys y<=ys y' :=by
 obtain⟨n,rfl⟩:∃n:Nat,y' =y+n:=⟨(y' -y).toNat,o5⟩;clear h;induction n with
 |zero=>simp|succ n ih=>have:=Lm (y+n);have:=Uc (y+n);have e:y+((n+1:Nat):Int)=y+n+1:=o5;rw[e];omega
variable {y:Int}
theorem QM(h:1900<=y):0<=ys y:=by
 have:=BJ h;have e:ys 1900=0:=by decide+kernel
 omega
theorem a5b{y y' d:Int}(h1:ys y<=d)(h2:d<ys (y+1))(h3:ys y' <=d)(h4:d<ys (y' +1)):y=y' :=by
 rcases Int.lt_trichotomy y y' with h|h|h
 .have:=BJ (y:=y+1) (y' :=y') o5;omega
 .exact h
 .have:=BJ (y:=y' +1) (y' :=y) o5;omega
def dim(y m:Int):Int:=
 if m=2 then(if il y then 29 else 28)else if m=4\/m=6\/m=9\/m=11 then 30 else 31
theorem XV(y m:Int):28<=dim y m/\dim y m<=31:=by
 unfold dim;repeat' split
 all_goals omega
theorem Jk(h:0<=y):Ea y=some (il y):=by
 unfold Ea il;simp only[CU h];by_cases h4:y % 4=0
 .rw[kV (bF h4),if_pos h4];by_cases h100:y % 100=0
  .simp[x8,h100]
  .simp[x8,h100]
 .rw[lN (O9 h4),if_neg h4]
theorem IM(h:0<=y):BA y=some (il y):=Jk h
theorem Lt(h:0<=y):kR y=some (diy y):=by unfold kR diy;rw[IM h,o8];cases il y<;>rfl
variable {m:Int}
theorem m12(h:1<=m/\m<=12):m=1\/m=2\/m=3\/m=4\/m=5\/m=6\/m=7\/m=8\/m=9\/m=10\/m=11\/m=12:=o5
theorem Lp(h:0<=y)(hm:1<=m/\m<=12):jw y m=some (dim y m):=by
 unfold jw;rcases m12 hm with rfl|rfl|rfl|rfl|rfl|rfl|rfl|rfl|rfl|rfl|rfl|rfl
 all_goals first|rfl|(rw[Jk h];unfold dim;cases il y<;>rfl)
theorem JJ(h:0<=y)(hm:1<=m/\m<=12):jU y m=some (dim y m):=by
 unfold jU;rcases m12 hm with rfl|rfl|rfl|rfl|rfl|rfl|rfl|rfl|rfl|rfl|rfl|rfl
 all_goals first|rfl|(rw[IM h];unfold dim;cases il y<;>rfl)
theorem Ed(h:0<=y)(h2:y<=1000000):ul y=some (y / 4 -y / 100+y / 400):=by unfold ul;simp only[aY,mY h];rw[DJ jb,DJ jb,DJ jb,iU jb,kC jb]
theorem Ee(h:1<=y)(h2:y<=1000000):oD y=some (ys y):=by unfold oD;have e1:L6 .i64 y 1900=y -1900:=iU jb;have e2:lK .i64 (y -1900) 365=(y -1900)*365:=a5D jb;rw[iU (a:=y) (b:=1) jb,Ed o5 o5,o8,Ed o5 o5,o8,e1,e2,kC jb,iU jb];unfold ys;congr 1
def mo(y:Int):Nat->Int->Int×Int
 |0,d=>(d,13)|n+1,d=>if d<dim y (12 -n)then(d,12 -n)else mo y n (d -dim y (12 -n))
theorem a3j(y:Int)(n:Nat)(d:Int):mo y (n+1) d=if d<dim y (12 -(n:Int))then(d,12 -(n:Int))else mo y n (d -dim y (12 -(n:Int))):=rfl
def rem(y:Int):Nat->Int
 |0=>0|n+1=>dim y (12 -n)+rem y n
theorem a7b(y:Int):rem y 12=diy y:=by unfold diy;cases h:il y<;>simp[rem,dim,h]
theorem a5O(y:Int):∀(n:Nat) (d:Int),n<=12->0<=d->d<rem y n->1<=(mo y n d).2/\(mo y n d).2<=12/\0<=(mo y n d).1/\(mo y n d).1<dim y (mo y n d).2
 |0,d,_,h0,h=>by simp[rem]at h;omega|n+1,d,hn,h0,h=>by
  unfold mo;by_cases hd:d<dim y (12 -n)
  .rw[if_pos hd];refine⟨?_,?_,h0,hd⟩<;>simp<;>omega
  .rw[if_neg hd];refine a5O y n _ o5 o5 ?_;simp only[rem]at h;omega
def yOf(d:Int):Int:=((((List.range 300).find? (λ(k:Nat)=>decide (d<ys (1900+(k:Int)+1)))).getD 0:Nat):Int)+1900
variable {d:Int}
theorem VN(h0:0<=d)(h:d<=109572):1900<=yOf d/\yOf d<=2199/\ys (yOf d)<=d/\d<ys (yOf d+1):=by
 unfold yOf;cases hf:(List.range 300).find? (λ(k:Nat)=>decide (d<ys (1900+(k:Int)+1)))with
 |none=>
  have:=List.find?_eq_none.1 hf 299 A8;simp only[decide_eq_true_eq]at this;have e:ys (1900+(299:Nat)+1)=109573:=by decide+kernel
  omega
 |some k=>
  have h1:=List.find?_some hf;simp only[decide_eq_true_eq]at h1;have h2:=List.mem_of_find?_eq_some hf;simp only[fD]at h2;simp only[dM];refine⟨o5,o5,?_,?_⟩
  .cases k with
   |zero=>
    have e:ys 1900=0:=by decide+kernel
    simp[e,h0]
   |succ j=>have h3:=List.find?_range_eq_some.1 hf;have h4:=h3.2.2 j o5;simp only[bH,decide_eq_false_iff_not,sK]at h4;have e:(((j+1:Nat):Int)+1900)=1900+(j:Int)+1:=o5;rw[e];exact h4
  .have e:(k:Int)+1900+1=1900+k+1:=o5;rw[e];exact h1
def ymd(d:Int):Int×Int×Int:=let y:=yOf d;let r:=mo y 12 (d -ys y);(y,r.2,r.1+1)
theorem VW(h0:0<=d)(h:d<=109572):uk d=some (ymd d):=by
 obtain⟨y1,y2,y3,y4⟩:=VN h0 h;have y0:=QM y1;unfold uk um;rw[kV (bP h0),o8,bP h,J7,o6];have e0:D8 .i64 1900 (aY .i64 d 366)=1900+d / 366:=by
  have e:aY .i64 d 366=d / 366:=by rw[Oa (by rw[mY h0];unfold I64;omega),mY h0]
  rw[e,kC jb]
 rw[e0];obtain⟨y,hy,hq⟩:=rM (f:=λ(x:Int)=>l9 (oD (D8 IntKind.i64 x 1)) λ(x_1:Int)=>l7 (O7 x_1 d) (some (Sum.inl (D8 IntKind.i64 x 1))) (some (Sum.inr x))) (s:=1900+d / 366)
  (λy=>1900<=y/\y<=yOf d) (λy=>y=yOf d) (λy=>(2200 -y).toNat) (by
   refine⟨o5,?_⟩;have e:∀n:Nat,ys (1900+n)<=366*n:=by
    intro n;induction n with
    |zero=>decide+kernel|succ n ih=>have:=Lm (1900+n);have:=Uc (1900+n);have e:(1900:Int)+((n+1:Nat):Int)=1900+n+1:=o5;rw[e];omega
   have e1:=e (d / 366).toNat
   have e2:((d / 366).toNat:Int)=d / 366:=o5;rw[e2]at e1;rcases a9S (yOf d) (1900+d / 366)with hlt|hge
   .have:=BJ (y:=yOf d+1) (y' :=1900+d / 366) o5;omega
   .exact hge) o5 (by
   intro y ⟨hy1,hy2⟩
   try simp only
   rw[kC jb,Ee o5 o5,o8];by_cases hle:ys (y+1)<=d
   .refine .inl ⟨y+1,by rw[kV (bP hle)],⟨o5,?_⟩,o5⟩;rcases a9S (yOf d) (y+1)with hlt|hge
    .have:=BJ (y:=yOf d+1) (y' :=y+1) o5;omega
    .exact hge
   .refine .inr ⟨y,by rw[lN (dE o5)],?_⟩;rcases a9S y (yOf d)with hlt|hge
    .have:=BJ (y:=y+1) (y' :=yOf d) o5;omega
    .omega)
 rw[hy,o8,hq,Ee o5 o5,o8,iU jb];have hs:=Lm (yOf d);have hr:=a7b (yOf d);rcases xn (f:=λ(x:Int×Int)=>l7 (G5 x.2 12) (l9 (jw (yOf d) (D8 IntKind.i64 x.2 1)) λ(x_1:Int)=>l7 (G5 x.1 x_1) (some (Out.rt (yOf d,D8 IntKind.i64 x.2 1,D8 IntKind.i64 x.1 1))) (some (Out.nx (L6 IntKind.i64 x.1 x_1,D8 IntKind.i64 x.2 1)))) (some (Out.ex PUnit.unit))) (s:=(d -ys (yOf d),0))
  (λs=>∃n:Nat,n<=12/\s.2=12 -n/\mo (yOf d) n s.1=mo (yOf d) 12 (d -ys (yOf d))/\0<=s.1/\s.1<rem (yOf d) n/\s.1<=400) (λ_=>False) (λr=>r=ymd d) (λs=>(12 -s.2).toNat)
  ⟨12,o5,A8,rfl,o5,by rw[hr];show d -ys (yOf d)<_;omega,by have:=Uc (yOf d);show d -ys (yOf d)<=400;omega⟩ A8 (by
   rintro⟨r,i⟩ ⟨n,hn,hi,hm,hr0,hrn,hr4⟩;simp only at hi hm hr0 hrn hr4 ⊢;cases n with
   |zero=>simp[rem]at hrn;omega|succ n=>
    have ei:i+1=12 -n:=o5;rw[kV (dP o5),kC jb,ei,Lp o5 o5,o8];have hb:=XV (yOf d) (12 -n);rw[a3j (yOf d) n r]at hm;by_cases hlt:r<dim (yOf d) (12 -n)
    .rw[if_pos hlt]at hm;refine .inr (.inr ⟨_,by rw[kV (dP hlt)],?_⟩);rw[kC jb];unfold ymd
     try simp only
     rw[←hm]
    .rw[if_neg hlt]at hm;refine .inl ⟨_,by rw[lN (bU o5),iU jb],⟨n,o5,A8,hm,?_,?_,?_⟩,?_⟩
     .simp;omega
     .simp only[rem]at hrn ⊢;omega
     .simp;omega
     .simp;omega)with⟨_,_,hf⟩|⟨r,he,hr⟩
 .exact hf.elim
 .rw[he,o8,mX,hr]
theorem Vg(h0:0<=d)(h:d<=109572):Eu d=some (ymd d):=by
 obtain⟨y1,y2,y3,y4⟩:=VN h0 h;have y0:=QM y1;unfold Eu Aj;rw[kV (bP h0),o8,bP h,J7,o6];obtain⟨⟨r,y⟩,hy,hq⟩:=rM (f:=λ(x:Int×Int)=>l9 (kR x.2) λ(x_1:Int)=>l7 (O7 x_1 x.1) (l9 (kR x.2) λ(x_2:Int)=>some (Sum.inl (L6 IntKind.i64 x.1 x_2,D8 IntKind.i64 x.2 1))) (some (Sum.inr x))) (s:=(d,1900))
  (λs=>1900<=s.2/\s.2<=yOf d/\s.1=d -ys s.2) (λs=>s=(d -ys (yOf d),yOf d)) (λs=>(2200 -s.2).toNat)
  ⟨A8,by simpa using y1,by(have e:ys 1900=0:=by decide+kernel);simp[e]⟩ A8 (by
   rintro⟨r,y⟩ ⟨h1,h2,h3⟩;simp only at h1 h2 h3 ⊢;have hb:=Uc y;have hs:=Lm y;have hm:=BJ h2;have hpos:0<=ys y:=by
     have:=BJ (y:=1900) (y' :=y) h1;have e:ys 1900=0:=by decide+kernel
     omega
   rw[Lt o5,o8];by_cases hle:diy y<=r
   .refine .inl ⟨(r -diy y,y+1),?_,⟨by simp;omega,?_,?_⟩,?_⟩
    .rw[kV (bP hle),o8,iU jb,kC jb]
    .simp only;rcases a9S (yOf d) (y+1)with hlt|hge
     .have:=BJ (y:=yOf d+1) (y' :=y+1) o5;omega
     .exact hge
    .simp only;omega
    .simp;omega
   .refine .inr ⟨_,by rw[lN (dE o5)],?_⟩;have e:y=yOf d:=a5b (d:=d) o5 o5 y3 y4;subst e;rw[h3])
 rw[hy,o8,hq]
 try simp only
 have hs:=Lm (yOf d);have hr:=a7b (yOf d);obtain⟨⟨r,m⟩,he,hq2⟩:=rM (f:=λ(x:Int×Int)=>l9 (jU (yOf d) x.2) λ(x_1:Int)=>l7 (O7 x_1 x.1) (l9 (jU (yOf d) x.2) λ(x_2:Int)=>some (Sum.inl (L6 IntKind.i64 x.1 x_2,D8 IntKind.i64 x.2 1))) (some (Sum.inr x))) (s:=(d -ys (yOf d),1))
  (λs=>∃n:Nat,n<=12/\s.2=13 -n/\mo (yOf d) n s.1=mo (yOf d) 12 (d -ys (yOf d))/\0<=s.1/\s.1<rem (yOf d) n/\s.1<=400) (λs=>s=mo (yOf d) 12 (d -ys (yOf d))) (λs=>(13 -s.2).toNat)
  ⟨12,o5,A8,rfl,o5,by rw[hr];show d -ys (yOf d)<_;omega,by have:=Uc (yOf d);show d -ys (yOf d)<=400;omega⟩ A8 (by
   rintro⟨r,i⟩ ⟨n,hn,hi,hm,hr0,hrn,hr4⟩;simp only at hi hm hr0 hrn hr4 ⊢;cases n with
   |zero=>simp[rem]at hrn;omega|succ n=>
    have ei:i=12 -n:=o5;subst ei;rw[JJ o5 o5,o8];have hb:=XV (yOf d) (12 -n);rw[a3j (yOf d) n r]at hm;by_cases hlt:r<dim (yOf d) (12 -n)
    .rw[if_pos hlt]at hm;exact .inr ⟨_,by rw[lN (dE o5)],hm⟩
    .rw[if_neg hlt]at hm;refine .inl ⟨(r -dim (yOf d) (12 -n),12 -n+1),by rw[kV (bP o5),o8,iU jb,kC jb],⟨n,o5,by simp;omega,hm,?_,?_,?_⟩,?_⟩
     .simp;omega
     .simp only[rem]at hrn ⊢;omega
     .simp;omega
     .simp;omega)
 rw[he,o8,hq2];have hb:=a5O (yOf d) 12 (d -ys (yOf d)) o5 o5 (by rw[hr];omega);have hb2:=XV (yOf d) (mo (yOf d) 12 (d -ys (yOf d))).2;rw[kC jb];rfl
theorem a2v(h0:0<=d)(h:d<=109572):1900<=(ymd d).1/\(ymd d).1<=2199/\1<=(ymd d).2.1/\(ymd d).2.1<=12/\1<=(ymd d).2.2/\(ymd d).2.2<=31:=by
 obtain⟨y1,y2,y3,y4⟩:=VN h0 h;have y0:=QM y1;have hs:=Lm (yOf d);have hb:=a5O (yOf d) 12 (d -ys (yOf d)) o5 o5 (by rw[a7b];omega);have hb2:=XV (yOf d) (mo (yOf d) 12 (d -ys (yOf d))).2;unfold ymd
 try simp only
 omega
end Gt
namespace Go.GP
open Gt
set_option maxRecDepth 100000
def q1(q:Int)(u:Bool):Int:=l7 u (q+1) q
def sg(q:Int)(neg:Bool):Int:=l7 neg (-q) q
def b1n(r:BZ):Prop:=I64 r.2.1/\I64 r.2.2.1/\I64 r.2.2.2
def b1O(t:dw):Prop:=t.2.2.2.length<=200/\∀r∈t.2.2.2,b1n r
abbrev V3:Type:=Int×Int×Int
theorem PS{α β ρ:Type}(G:β->α->β⊕ρ)(P:ρ->Prop)(hG:∀b a r,G b a= .inr r->P r):∀(l:List α) (b:β) (r:ρ),mJ G l b= .inr r->P r
 |[],b,r,h=>by cases h|a::l,b,r,h=>by
  unfold mJ at h;cases hg:G b a with
  |inr r' =>rw[hg]at h;simp only at h;cases h;exact hG _ _ _ hg|inl b' =>rw[hg]at h;exact PS G P hG l b' r h
theorem b1Q:∀i:Fin 40,(arF ((i.1:Nat):Int)=0->i.1∈[1,2,3,4,5,6,7,8,9,35,36,37,38,39])/\(arF ((i.1:Nat):Int)=1->i.1∈[10,25,31,32,33,34])/\(arF ((i.1:Nat):Int)=2->i.1∈[11,12,13,14,15,16,17,18,19,20,21,22,23,24,27,28,29,30])/\(arF ((i.1:Nat):Int)=3->i.1=26):=by decide+kernel
variable {k:Int}
theorem b6V(h:k<1\/39<k):arF k=-1:=by
 unfold arF iE;rw[O9 (show k≠10 by omega),O9 (show k≠25 by omega),O9 (show k≠31 by omega),O9 (show k≠32 by omega),O9 (show k≠33 by omega),O9 (show k≠34 by omega),O9 (show k≠26 by omega)];rcases h with h|h
 .rw[dE (show k<1 by omega),dE (show k<35 by omega),dE (show k<11 by omega)];rfl
 .rw[bP (show 1<=k by omega),dE (show 9<k by omega),bP (show 35<=k by omega),dE (show 39<k by omega),bP (show 11<=k by omega),dE (show 30<k by omega)];rfl
theorem c7l(h:arF k≠-1):∃i:Fin 40,k=((i.1:Nat):Int):=by
 by_cases g:1<=k/\k<=39
 .exact⟨⟨k.toNat,o5⟩,by simp;omega⟩
 .exact absurd (b6V o5) h
def XT.node:XT->Int×Int
 | .l0 n=>n| .l1 n _=>n| .l2 n _ _=>n| .l3 n _ _ _=>n
def rtI(t:XT)(o:Nat):Nat:=o+t.size -1
def At(e:List (Int×Int))(S:List Int)(t:XT)(o:Nat):Prop:=∃pre suf S1 S2,e=pre++t.post++suf/\S=S1++t.sts o++S2/\pre.length=o/\S1.length=o
variable {e:List (Int×Int)}{o:Nat}{S:List Int}{n:Int×Int}{a:XT}
theorem a2F(h:At e S (.l1 n a) o):At e S a o:=by obtain⟨p,s,S1,S2,h1,h2,h3,h4⟩:=h;exact⟨p,[n]++s,S1,[(o:Int)]++S2,by rw[h1];simp[XT.post],by rw[h2];simp[XT.sts],h3,h4⟩
theorem WJ{a b:XT}(h:At e S (.l2 n a b) o):At e S a o/\At e S b (o+a.size):=by
 obtain⟨p,s,S1,S2,h1,h2,h3,h4⟩:=h;exact⟨⟨p,b.post++[n]++s,S1,b.sts (o+a.size)++[(o:Int)]++S2,by rw[h1];simp[XT.post],by rw[h2];simp[XT.sts],h3,h4⟩,
  ⟨p++a.post,[n]++s,S1++a.sts o,[(o:Int)]++S2,by rw[h1];simp[XT.post],by rw[h2];simp[XT.sts],by simp[XT.post_len,h3],by simp[XT.sts_len,h4]⟩⟩
theorem NK{a b c:XT}(h:At e S (.l3 n a b c) o):At e S a o/\At e S b (o+a.size)/\At e S c (o+a.size+b.size):=by
 obtain⟨p,s,S1,S2,h1,h2,h3,h4⟩:=h;exact⟨⟨p,b.post++c.post++[n]++s,S1,b.sts (o+a.size)++c.sts (o+a.size+b.size)++[(o:Int)]++S2,by rw[h1];simp[XT.post],by rw[h2];simp[XT.sts],h3,h4⟩,
  ⟨p++a.post,c.post++[n]++s,S1++a.sts o,c.sts (o+a.size+b.size)++[(o:Int)]++S2,by rw[h1];simp[XT.post],by rw[h2];simp[XT.sts],by simp[XT.post_len,h3],by simp[XT.sts_len,h4]⟩,
  ⟨p++a.post++b.post,[n]++s,S1++a.sts o++b.sts (o+a.size),[(o:Int)]++S2,by rw[h1];simp[XT.post],by rw[h2];simp[XT.sts],by simp[XT.post_len,h3];try omega,by simp[XT.sts_len,h4];try omega⟩⟩
theorem a4G(t:XT):∃p,t.post=p++[t.node]/\p.length+1=t.size:=by
 have hl:=t.post_len;cases t with
 |l0 n=>exact⟨[],rfl,rfl⟩|l1 n a=>refine⟨a.post,rfl,?_⟩;simp only[XT.post,H9,fF]at hl;exact hl|l2 n a b=>refine⟨a.post++b.post,rfl,?_⟩;simp only[XT.post,H9,fF]at hl ⊢;exact hl|l3 n a b c=>refine⟨a.post++b.post++c.post,rfl,?_⟩;simp only[XT.post,H9,fF]at hl ⊢;exact hl
theorem a9p(t:XT)(o:Nat):∃p,t.sts o=p++[(o:Int)]/\p.length+1=t.size:=by
 have hl:=t.sts_len o;cases t with
 |l0 n=>exact⟨[],rfl,rfl⟩|l1 n a=>refine⟨a.sts o,rfl,?_⟩;simp only[XT.sts,H9,fF]at hl;exact hl|l2 n a b=>refine⟨a.sts o++b.sts (o+a.size),rfl,?_⟩;simp only[XT.sts,H9,fF]at hl ⊢;exact hl|l3 n a b c=>refine⟨a.sts o++b.sts (o+a.size)++c.sts (o+a.size+b.size),rfl,?_⟩;simp only[XT.sts,H9,fF]at hl ⊢;exact hl
variable {t:XT}
theorem uT(h:At e S t o):e[rtI t o]? =some t.node/\S[rtI t o]? =some (o:Int)/\rtI t o<e.length:=by
 obtain⟨p,s,S1,S2,h1,h2,h3,h4⟩:=h;obtain⟨q,e1,e2⟩:=a4G t;obtain⟨q',e1',e2'⟩:=a9p t o;have hp:=t.size_pos;have a1:e[rtI t o]? =some t.node:=by rw[h1,e1,E5,E5,←E5 p,I8 (by simp[rtI];omega)];rw[show rtI t o -(p++q).length=0 by simp[rtI];omega];rfl
 refine⟨a1,?_,(aK.1 a1).1⟩;rw[h2,e1',E5,E5,←E5 S1,I8 (by simp[rtI];omega)];rw[show rtI t o -(S1++q').length=0 by simp[rtI];omega];rfl
def a4E:XT->Nat->List Int
 | .l0 _,_=>[]| .l1 _ a,o=>[(rtI a o:Int)]| .l2 _ a b,o=>[(rtI a o:Int),(rtI b (o+a.size):Int)]| .l3 _ a b c,o=>[(rtI a o:Int),(rtI b (o+a.size):Int),(rtI c (o+a.size+b.size):Int)]
structure OStep (S:List Int) (f:List Int×Int×Int->Option ((List Int×Int×Int)⊕List Int)):Prop where
 step:∀(l:List Int) (c:Nat) (j:Nat) (x:Nat),j<l.length->l.length<=3->S[c]? =some ((x:Nat):Int)->x<=100->f (l,(c:Int),(j:Int))=some (.inl (l.set j (c:Int),(x:Int) -1,(j:Int) -1))
 stop:∀(l:List Int) (c:Int),f (l,c,-1)=some (.inr l)
theorem BP{σ ε:Type}{f:σ->Option (σ⊕ε)}{s s' :σ}{n:Nat}(h:f s=some (.inl s')):yG f (n+1) s=yG f n s' :=by rw[yG,h]
theorem KU{σ ε:Type}{f:σ->Option (σ⊕ε)}{s:σ}{e:ε}{n:Nat}(h:f s=some (.inr e)):yG f (n+1) s=some e:=by rw[yG,h]
theorem a6i{f:List Int×Int×Int->Option ((List Int×Int×Int)⊕List Int)}(hs:OStep S f)(h:At e S t o)(he:e.length<=48)(hw:t.wf):
  aO f (List.replicate (arF t.node.1).toNat 0,(rtI t o:Int) -1,arF t.node.1 -1)=some (a4E t o):=by
 obtain⟨k,hk⟩:∃k,jg=k+1+1+1+1:=⟨jg -4,by unfold jg;omega⟩;unfold aO;rw[hk];have hr:=uT h;cases t with
 |l0 n=>rw[show arF (XT.l0 n).node.1=0 from hw];exact KU (hs.stop _ _)|l1 n a=>rw[show arF (XT.l1 n a).node.1=1 from hw.1];have ha:=uT (a2F h);have p1:=a.size_pos;rw[show((rtI (.l1 n a) o:Nat):Int) -1=((rtI a o:Nat):Int) by simp only[rtI,XT.size];omega];rw[show((1:Int) -1)=((0:Nat):Int)from rfl,BP (hs.step _ _ 0 o A8 A8 ha.2.1 (by unfold rtI at hr;omega))];rw[show(((0:Nat):Int) -1)=-1 from rfl,KU (hs.stop _ _)];rfl|l2 n a b=>rw[show arF (XT.l2 n a b).node.1=2 from hw.1];have ha:=uT (WJ h).1;have hb:=uT (WJ h).2;have p1:=a.size_pos;have p2:=b.size_pos;rw[show((rtI (.l2 n a b) o:Nat):Int) -1=((rtI b (o+a.size):Nat):Int) by simp only[rtI,XT.size];omega];rw[show((2:Int) -1)=((1:Nat):Int)from rfl,BP (hs.step _ _ 1 (o+a.size) A8 A8 hb.2.1 (by unfold rtI at hb;omega))];rw[show((o+a.size:Nat):Int) -1=((rtI a o:Nat):Int) by unfold rtI;omega,show(((1:Nat):Int) -1)=((0:Nat):Int)from rfl];rw[BP (hs.step _ _ 0 o A8 A8 ha.2.1 (by unfold rtI at hr;omega))];rw[show(((0:Nat):Int) -1)=-1 from rfl,KU (hs.stop _ _)];rfl|l3 n a b c=>rw[show arF (XT.l3 n a b c).node.1=3 from hw.1];have ha:=uT (NK h).1;have hb:=uT (NK h).2.1;have hc:=uT (NK h).2.2;have p1:=a.size_pos;have p2:=b.size_pos;have p3:=c.size_pos;rw[show((rtI (.l3 n a b c) o:Nat):Int) -1=((rtI c (o+a.size+b.size):Nat):Int) by simp only[rtI,XT.size];omega];rw[show((3:Int) -1)=((2:Nat):Int)from rfl,BP (hs.step _ _ 2 (o+a.size+b.size) A8 A8 hc.2.1 (by unfold rtI at hc;omega))];rw[show((o+a.size+b.size:Nat):Int) -1=((rtI b (o+a.size):Nat):Int) by unfold rtI;omega,show(((2:Nat):Int) -1)=((1:Nat):Int)from rfl];rw[BP (hs.step _ _ 1 (o+a.size) A8 A8 hb.2.1 (by unfold rtI at hb;omega))];rw[show((o+a.size:Nat):Int) -1=((rtI a o:Nat):Int) by unfold rtI;omega,show(((1:Nat):Int) -1)=((0:Nat):Int)from rfl];rw[BP (hs.step _ _ 0 o A8 A8 ha.2.1 (by unfold rtI at hr;omega))];rw[show(((0:Nat):Int) -1)=-1 from rfl,KU (hs.stop _ _)];rfl
theorem c7j(h:t.wf):0<=arF t.node.1/\arF t.node.1<=3:=by
 cases t with
 |l0 n=>rw[show arF (XT.l0 n).node.1=0 from h];decide|l1 n a=>rw[show arF (XT.l1 n a).node.1=1 from h.1];decide|l2 n a b=>rw[show arF (XT.l2 n a b).node.1=2 from h.1];decide|l3 n a b c=>rw[show arF (XT.l3 n a b c).node.1=3 from h.1];decide
variable {α:Type}
theorem a4n(h:0<=k)(h2:k<=1000000)(x:α):yH k x=some (List.replicate k.toNat x):=if_pos ⟨h,o5⟩
theorem Bv{T t:XT}(hT:jV e= .inr T)(h:At e (T.sts 0) t o)(hw:t.wf):uC e (rtI t o:Int)=some (a4E t o):=by
 obtain⟨hp,he⟩:=rq hT;have hr:=uT h;have ha:=c7j hw;unfold uC;rw[Ff,o8];unfold tX;rw[hT];simp only[L9,hr.1,o8,a1o,bF (rfl:(0:Int)=0),J7,o6];rw[bU (show(0:Int)<=((rtI t o:Nat):Int) by omega),dE (show((rtI t o:Nat):Int)<o9 e by unfold o9;omega)];simp only[o6,o8,X0];rw[a4n ha.1 o5,o8,wE];rw[show L6 .i64 ((rtI t o:Nat):Int) 1=(rtI t o:Int) -1 from iU jb];rw[show L6 .i64 (arF t.node.1) 1=arF t.node.1 -1 from iU jb];refine a6i ⟨λl c j x hj hl hx hx2=>?_,λl c=>?_⟩ h he hw
 .have hjl:l[j]? =some l[j]:=kN hj;simp only[bP (show(0:Int)<=(j:Int) by omega),o7,L9,hjl,o8,hx,Y5,X4,az,dW];rw[iU jb,iU jb]
 .rfl
abbrev VSt:Type:=V3×List V3×Int
structure VStep (ops:List Int) (ev:Int->Option (V3×Int)) (pad:List V3->List V3) (f:VSt->Option (Out VSt (V3×List V3) (V3×Int))):Prop where
 step:∀(l:List V3) (c:Int) (r:V3×Int),ops[l.length]? =some c->ev c=some r->f ((0,0,0),pad l,(l.length:Int))=some (l7 (x8 r.2 0) (.nx ((0,0,0),pad (l++[r.1]),((l.length+1:Nat):Int))) (.rt ((0,0,0),r.2)))
 stop:∀(l:List V3),l.length=ops.length->f ((0,0,0),pad l,(l.length:Int))=some (.ex ((0,0,0),l))
section
variable {ev:Int->Option (V3×Int)} {pad:List V3->List V3} {f:VSt->Option (Out VSt (V3×List V3) (V3×Int))}
theorem v0(h:VStep [] ev pad f):O6 f ((0,0,0),pad [],0)=some (.inl ((0,0,0),[])):=by obtain⟨k,hk⟩:∃k,jg=k+1:=⟨jg -1,by unfold jg;omega⟩;unfold O6;rw[hk,jO,show f ((0,0,0),pad [],0)=some (.ex ((0,0,0),[]))from h.stop [] rfl]
theorem v1{c:Int}{r:V3×Int}(h:VStep [c] ev pad f)(h1:ev c=some r):O6 f ((0,0,0),pad [],0)=some (l7 (x8 r.2 0) (.inl ((0,0,0),[r.1])) (.inr ((0,0,0),r.2))):=by
 obtain⟨k,hk⟩:∃k,jg=k+1+1:=⟨jg -2,by unfold jg;omega⟩;unfold O6;rw[hk,jO,show f ((0,0,0),pad [],0)=_ from h.step [] c r rfl h1];cases x8 r.2 0
 .rfl
 .simp only[o7];rw[jO,show f ((0,0,0),pad ([]++[r.1]),(([].length+1:Nat):Int))=_ from h.stop [r.1] rfl]
theorem v2{c d:Int}{r q:V3×Int}(h:VStep [c,d] ev pad f)(h1:ev c=some r)(h2:ev d=some q):O6 f ((0,0,0),pad [],0)=some (l7 (x8 r.2 0) (l7 (x8 q.2 0) (.inl ((0,0,0),[r.1,q.1])) (.inr ((0,0,0),q.2))) (.inr ((0,0,0),r.2))):=by
 obtain⟨k,hk⟩:∃k,jg=k+1+1+1:=⟨jg -3,by unfold jg;omega⟩;unfold O6;rw[hk,jO,show f ((0,0,0),pad [],0)=_ from h.step [] c r rfl h1];cases x8 r.2 0
 .rfl
 .simp only[o7];rw[jO,show f ((0,0,0),pad ([]++[r.1]),(([].length+1:Nat):Int))=_ from h.step [r.1] d q rfl h2];cases x8 q.2 0
  .rfl
  .simp only[o7];rw[jO,show f ((0,0,0),pad ([r.1]++[q.1]),(([r.1].length+1:Nat):Int))=_ from h.stop [r.1,q.1] rfl]
end
theorem b1R(h:arF k=3):k=26:=by obtain⟨i,rfl⟩:=c7l (by rw[h];decide);rw[(b1Q i).2.2.2 h];rfl
theorem Zm(h:jV e= .inr t):At e (t.sts 0) t 0/\e.length<=48/\e.length=t.size/\L6 .i64 (o9 e) 1=(rtI t 0:Int):=by
 obtain⟨hp,h48⟩:=rq h;have hsz:e.length=t.size:=by rw[hp,XT.post_len]
 have hpos:=t.size_pos;refine⟨⟨[],[],[],[],by simp[←hp],A8,rfl,rfl⟩,h48,hsz,?_⟩;rw[iU (by unfold I64 o9;omega)];unfold o9 rtI;omega
theorem dL{n:Nat}{l:List α}(h:G5 (n:Int) (o9 l)=false):l.length<=n:=by rw[ql]at h;unfold o9 at h;omega
def LX(r:eF):Bool:=l7 (G5 80 (o9 r.1)) true (l7 (G5 80 (o9 r.2.2.2.2.2.2.2)) true (l7 (G5 50 (o9 r.2.2.2.2.2.1)) true (G5 50 (o9 r.2.2.2.2.2.2.1))))
def smS(s:V6):Bool:=l7 (G5 80 (o9 s.1)) false (l7 (G5 14 (o9 s.2.2.1)) false (l7 (G5 14 (o9 s.2.2.2.1)) false (l7 (G5 60 (o9 s.2.2.2.2)) false
 (l7 (s.2.2.1.any λf=>G5 80 (o9 f.1)) false (l7 (s.2.2.2.1.any λf=>G5 80 (o9 f.1)) false (D9 (s.2.2.2.2.any LX)))))))
theorem Ul{fs:List iV}(h:fs.length<=1000000):O6 (λ(x:Int)=>l7 (G5 x (o9 fs)) (l9 (J4 fs x) λ(x_1:iV)=>l7 (G5 80 (o9 x_1.1)) (some (Out.rt false)) (some (Out.nx (D8 IntKind.i64 x 1)))) (some (Out.ex PUnit.unit))) 0=some (bif fs.any (λf=>G5 80 (o9 f.1))then .inr false else .inl PUnit.unit):=by
 refine DU fs (λf=>G5 80 (o9 f.1)) false PUnit.unit h (λi a ha=>?_) ?_
 .simp only[P6 ha,o7,L9,ha,o8];cases G5 80 (o9 a.1)<;>rfl
 .rw[P5];rfl
theorem WA(s:V6):wX s=some (smS s):=by
 unfold wX smS;cases h1:G5 80 (o9 s.1)
 case true=>rfl
 cases h2:G5 14 (o9 s.2.2.1)
 case true=>rfl
 cases h3:G5 14 (o9 s.2.2.2.1)
 case true=>rfl
 cases h4:G5 60 (o9 s.2.2.2.2)
 case true=>rfl
 have l2:=dL (n:=14) h2;have l3:=dL (n:=14) h3;have l4:=dL (n:=60) h4;simp only[o6,o8,X0];rw[Ul o5,Ul o5,o8];cases s.2.2.1.any λf=>G5 80 (o9 f.1)
 case true=>rfl
 simp only[cond_false,X0,o6,o8];cases s.2.2.2.1.any λf=>G5 80 (o9 f.1)
 case true=>rfl
 simp only[cond_false,X0,o6];refine U8 (DU s.2.2.2.2 LX false PUnit.unit o5 (λi a ha=>?_) ?_) ?_
 rotate_left 2
 .cases s.2.2.2.2.any LX<;>rfl
 .simp only[P6 ha,o7,L9,ha,o8];unfold LX;cases G5 80 (o9 a.1)<;>cases G5 80 (o9 a.2.2.2.2.2.2.2)<;>cases G5 50 (o9 a.2.2.2.2.2.1)<;>cases G5 50 (o9 a.2.2.2.2.2.2.1)<;>rfl
 .rw[P5];rfl
def ScI(s:V6):Prop:=∀r∈s.2.2.2.2,(∀n∈r.2.2.2.2.2.1,I64 n.2)/\∀n∈r.2.2.2.2.2.2.1,I64 n.2
theorem Bg{a b:Bool}(h:l7 a false b=true):a=false/\b=true:=by cases a<;>cases b<;>first|exact⟨rfl,rfl⟩|cases h
theorem LD{l:List α}{p:α->Bool}(h:l.any p=false):∀a∈l,p a=false:=by
 intro a ha;rw[iP]at h;have:=h a ha;cases hp:p a
 .rfl
 .exact absurd hp this
theorem b3q{s:V6}(h:smS s=true)(hI:ScI s):SmS s:=by
 unfold smS at h;obtain⟨h1,h⟩:=Bg h;obtain⟨h2,h⟩:=Bg h;obtain⟨h3,h⟩:=Bg h;obtain⟨h4,h⟩:=Bg h;obtain⟨h5,h⟩:=Bg h;obtain⟨h6,h⟩:=Bg h;have h7:s.2.2.2.2.any LX=false:=by cases hq:s.2.2.2.2.any LX<;>rw[hq]at h<;>first|rfl|cases h
 refine⟨by have:=dL (n:=80) h1;omega,dL (n:=14) h2,dL (n:=14) h3,ak (dL (n:=60) h4) o5,⟨λf hf=>?_,λf hf=>?_⟩,λr hr=>?_⟩
 .have:=dL (n:=80) (LD h5 f hf);omega
 .have:=dL (n:=80) (LD h6 f hf);omega
 .have hl:=LD h7 r hr;unfold LX at hl;cases g1:G5 80 (o9 r.1)<;>rw[g1]at hl
  case true=>cases hl
  cases g2:G5 80 (o9 r.2.2.2.2.2.2.2)<;>rw[g2]at hl
  case true=>cases hl
  cases g3:G5 50 (o9 r.2.2.2.2.2.1)<;>rw[g3]at hl
  case true=>cases hl
  have k1:=dL (n:=80) g1;have k2:=dL (n:=80) g2;exact⟨⟨o5,o5,(hI r hr).1,(hI r hr).2⟩,dL (n:=50) g3,dL (n:=50) hl⟩
def Xf(e:dh):Bool:=l7 (G5 80 (o9 e.1)) true (l7 (G5 20 (o9 e.2)) true (e.2.any λm=>G5 80 (o9 m)))
def tG(b:Int)(t:dw):Int⊕Bool:=l7 (G5 80 (o9 t.1)) (.inr false) (l7 (G5 150 (D8 .i64 b (o9 t.2.2.2))) (.inr false) (.inl (D8 .i64 b (o9 t.2.2.2))))
def sG(b:Int)(s:V6):Int⊕Bool:=l7 (G5 60 (D8 .i64 b (o9 s.2.2.2.2))) (.inr false) (l7 (smS s) (.inl (D8 .i64 b (o9 s.2.2.2.2))) (.inr false))
def smL(l:X6):Bool:=l7 (G5 9 (o9 l.1)) false (l7 (G5 9 (o9 l.2.1)) false (l7 (G5 5 (o9 l.2.2)) false (l7 (l.1.any Xf) false
 (match mJ tG l.2.1 0 with| .inr _=>false| .inl _=>match mJ sG l.2.2 0 with| .inr _=>false| .inl _=>true))))
theorem b6E:∀(b:Int) (t:dw) (r:Bool),tG b t= .inr r->r=false:=by intro b t r h;unfold tG at h;cases g0:G5 80 (o9 t.1)<;>cases g:G5 150 (D8 .i64 b (o9 t.2.2.2))<;>simp only[g0,g,o7,o6]at h<;>cases h<;>rfl
theorem b3o:∀(b:Int) (s:V6) (r:Bool),sG b s= .inr r->r=false:=by intro b s r h;unfold sG at h;cases g:G5 60 (D8 .i64 b (o9 s.2.2.2.2))<;>cases g2:smS s<;>simp only[g,g2,o7,o6]at h<;>cases h<;>rfl
theorem L_(l:X6):sZ l=some (smL l):=by
 unfold sZ smL;cases h1:G5 9 (o9 l.1)
 case true=>rfl
 cases h2:G5 9 (o9 l.2.1)
 case true=>rfl
 cases h3:G5 5 (o9 l.2.2)
 case true=>rfl
 have l1:=dL (n:=9) h1;have l2:=dL (n:=9) h2;have l3:=dL (n:=5) h3;simp only[o6,o8,X0];refine U8 (DU l.1 Xf false PUnit.unit o5 (λi a ha=>?_) ?_) ?_
 .simp only[P6 ha,o7,L9,ha,o8];unfold Xf;cases G5 80 (o9 a.1)
  case true=>rfl
  cases h5:G5 20 (o9 a.2)
  case true=>rfl
  have l5:=dL (n:=20) h5;simp only[o6];refine U8 (DU a.2 (λm=>G5 80 (o9 m)) false PUnit.unit o5 (λj m hm=>?_) ?_) ?_
  .simp only[P6 hm,o7,L9,hm,o8];cases G5 80 (o9 m)<;>rfl
  .rw[P5];rfl
  .cases a.2.any λm=>G5 80 (o9 m)<;>rfl
 .rw[P5];rfl
 cases l.1.any Xf
 case true=>rfl
 simp only[cond_false,X0,o6];apply Hg l.2.1 tG (λb i=>((b,i):Int×Int)) (λ_=>PUnit.unit) (λ_ _=>True) 0 o5 trivial
 .intro i t b hi hi' _;refine⟨?_,λ_ _=>trivial⟩;simp only[P6 hi,o7,L9,hi,o8];unfold tG;rw[eY o5];cases G5 80 (o9 t.1)<;>cases G5 150 (D8 .i64 b (o9 t.2.2.2))<;>rfl
 .intro b _;rw[P5];rfl
 .intro _;cases ht:mJ tG l.2.1 0 with
  |inr r=>rw[PS tG (λr=>r=false) b6E _ _ _ ht];rfl|inl b=>
   simp only[X0];apply Hg l.2.2 sG (λb i=>((b,i):Int×Int)) (λ_=>PUnit.unit) (λ_ _=>True) 0 o5 trivial
   .intro i s b hi hi' _;refine⟨?_,λ_ _=>trivial⟩;simp only[P6 hi,o7,L9,hi,o8,WA];unfold sG;rw[eY o5];cases G5 60 (D8 .i64 b (o9 s.2.2.2.2))<;>cases smS s<;>rfl
   .intro b _;rw[P5];rfl
   .intro _;cases hs:mJ sG l.2.2 0 with
    |inr r=>rw[PS sG (λr=>r=false) b3o _ _ _ hs];rfl|inl b=>rfl
structure WfL (l:X6):Prop where
 rl:∀t∈l.2.1,t.2.2.2.length<=4611686018427387904
 ri:∀t∈l.2.1,∀r∈t.2.2.2,b1n r
 sl:∀s∈l.2.2,s.2.2.2.2.length<=4611686018427387904
 si:∀s∈l.2.2,ScI s
theorem a2q:∀(L:List dw) (b b' :Int),0<=b->b<=150->(∀t∈L,t.2.2.2.length<=4611686018427387904)->mJ tG L b= .inl b' ->∀t∈L,t.1.length<=80/\t.2.2.2.length<=150
 |[],_,_,_,_,_,_=>by simp|t::L,b,b',h0,h1,hw,h=>by
  have hwt:=hw t A8;have ha:D8 .i64 b (o9 t.2.2.2)=b+o9 t.2.2.2:=kC (by unfold I64 o9;omega);unfold mJ tG at h;rw[ha]at h;cases g0:G5 80 (o9 t.1)<;>rw[g0]at h
  case true=>cases h
  cases g1:G5 150 (b+o9 t.2.2.2)<;>rw[g1]at h
  case true=>cases h
  rw[ql]at g1;intro x hx;rcases D6.1 hx with rfl|hx
  .exact⟨dL (n:=80) g0,by unfold o9 at g1;omega⟩
  .exact a2q L (b+o9 t.2.2.2) b' (by unfold o9;omega) g1 (λq hq=>hw q (by simp[hq])) h x hx
theorem a1M:∀(L:List V6) (b b' :Int),0<=b->b<=60->(∀s∈L,s.2.2.2.2.length<=4611686018427387904)->mJ sG L b= .inl b' ->∀s∈L,smS s=true
 |[],_,_,_,_,_,_=>by simp|s::L,b,b',h0,h1,hw,h=>by
  have hwt:=hw s A8;have ha:D8 .i64 b (o9 s.2.2.2.2)=b+o9 s.2.2.2.2:=kC (by unfold I64 o9;omega);unfold mJ sG at h;rw[ha]at h;cases g1:G5 60 (b+o9 s.2.2.2.2)<;>rw[g1]at h
  case true=>cases h
  cases g2:smS s<;>rw[g2]at h
  case false=>cases h
  rw[ql]at g1;intro x hx;rcases D6.1 hx with rfl|hx
  .exact g2
  .exact a1M L (b+o9 s.2.2.2.2) b' (by unfold o9;omega) g1 (λq hq=>hw q (by simp[hq])) h x hx
theorem b3p{l:X6}(h:smL l=true)(hW:WfL l):SmL l/\∀t∈l.2.1,b1O t:=by
 unfold smL at h;obtain⟨h1,h⟩:=Bg h;obtain⟨h2,h⟩:=Bg h;obtain⟨h3,h⟩:=Bg h;obtain⟨h4,h⟩:=Bg h;have l1:=dL (n:=9) h1;have l2:=dL (n:=9) h2;have l3:=dL (n:=5) h3;cases ht:mJ tG l.2.1 0 with
 |inr r=>rw[ht]at h;cases h|inl b=>
  rw[ht]at h;simp only at h;cases hs:mJ sG l.2.2 0 with
  |inr r=>rw[hs]at h;cases h|inl b' =>
   have T:=a2q l.2.1 0 b o5 o5 hW.rl ht;have S:=a1M l.2.2 0 b' o5 o5 hW.sl hs;refine⟨⟨⟨o5,o5,o5⟩,λe he=>?_,λt ht=>by have:=(T t ht).1;omega,λs hs=>b3q (S s hs) (hW.si s hs)⟩,λt ht=>⟨by have:=(T t ht).2;omega,hW.ri t ht⟩⟩;have hl:=LD h4 e he;unfold Xf at hl;cases g1:G5 80 (o9 e.1)<;>rw[g1]at hl
   case true=>cases hl
   cases g2:G5 20 (o9 e.2)<;>rw[g2]at hl
   case true=>cases hl
   have k1:=dL (n:=80) g1;exact⟨o5,λm hm=>by have:=dL (n:=80) (LD hl m hm);omega⟩
theorem Dp:reachBytes<=4611686018427387904:=by decide
theorem c7i{l:X6}(h:wf c8a l):WfL l:=by
 refine⟨λt ht=>?_,λt ht r hr=>?_,λs hs=>?_,λs hs r hr=>⟨λn hn=>?_,λn hn=>?_⟩⟩
 .have:=(h.2.1.2 t ht).2.2.2.1;exact ak this Dp
 .have:=(h.2.1.2 t ht).2.2.2.2 r hr;exact⟨AP this.2.1,AP this.2.2.1,AP this.2.2.2⟩
 .have:=(h.2.2.2 s hs).2.2.2.2.1;exact ak this Dp
 .have:=(h.2.2.2 s hs).2.2.2.2.2 r hr;exact AP (this.2.2.2.2.2.1.2 n hn).2
 .have:=(h.2.2.2 s hs).2.2.2.2.2 r hr;exact AP (this.2.2.2.2.2.2.1.2 n hn).2
end Go.GP
namespace Gt
open Go Go.GP
variable {n:Int}
theorem a9O(h:I64 n):Fj n=some (Lib.itoa n):=by unfold Fj;rw[if_pos (show -9223372036854775808<=n/\n<=9223372036854775807 from h)]
theorem Xw{s:List UInt8}{c:Nat}(h:c<=1000000)(hs:s.length<=1000000):ru s (c:Int)=some (Lib.repeatL s c):=by
 unfold ru
 have:s.length*c<=1000000*1000000:=Nat.mul_le_mul hs h;rw[if_pos ⟨o5,o5,by rw[az];omega⟩,az]
theorem c2u(x:UInt8)(c:Nat):Lib.repeatL [x] c=List.replicate c x:=by have:=Lib.repeatL_replicate x 1 c;simpa using this
theorem a0i{d:Int}(h0:0<=d)(h:d<10):b1g (wrap .u8 (D8 .u64 48 d))=UInt8.ofNat (48+d.toNat):=by
 rw[ZG (by unfold U64;omega)];have e:wrap .u8 (48+d)=((48+d.toNat:Nat):Int):=by unfold wrap IntKind.wrap;simp[IntKind.signed,IntKind.bits];omega
 rw[e];unfold b1g;rw[az]
theorem b1r(n:Int):Zp [n]=[b1g n]:=rfl
theorem Zw:∀(k u:Nat),u<k->u<18446744073709551616->nY k (u:Int)=some (Lib.decDigits u)
 |0,u,h,_=>by omega|k+1,u,h,hu=>by
  show yK (nY k) (u:Int)=_;unfold yK;by_cases h10:u<10
  .try simp only[b1r]
   rw[kV (dP o5),a0i o5 o5,Lib.decDigits,dif_pos h10,az]
  .have e1:(u:Int).tdiv 10=((u / 10:Nat):Int):=by rw[mY o5];omega
   have e2:fU (u:Int) 10=((u % 10:Nat):Int):=by rw[CU o5];omega
   try simp only[b1r]
   rw[lN (bU o5),a5F (by rw[e1];unfold U64;omega)];rw[e1,Zw k (u / 10) o5 o5,o8,e2,a0i o5 o5,F8,o8,az]
   .congr 1
    conv=>rhs;rw[Lib.decDigits,dif_neg h10]
   .have:=Lib.nDigits_le20 (u / 10) o5;rw[Lib.decDigits_length];simp;omega
theorem IL(h:U64 n):Bz n=some (Lib.decDigits n.toNat):=by unfold U64 at h;have:=Zw jg n.toNat (by unfold jg;omega) o5;rw[qm h.1]at this;exact this
theorem CV(h:I64 n):(Lib.itoa n).length<=21:=Lib.itoa_length_le n h.1 h.2
variable {u:Nat}
theorem zT(h:u<18446744073709551616):1<=(Lib.decDigits u).length/\(Lib.decDigits u).length<=20:=by rw[Lib.decDigits_length];exact⟨Lib.nDigits_pos u,Lib.nDigits_le20 u h⟩
theorem rO(h:I64 n):ku n=some (Lib.itoa n):=by
 unfold I64 at h;unfold ku Lib.itoa;by_cases hn:n<0
 .rw[kV (dP hn),if_pos hn,kC jb,iU jb];rw[show wrap .u64 (0 -(n+1))=0 -(n+1)from Pn (by unfold U64;omega),ZG (by unfold U64;omega),IL (by unfold U64;omega),o8];have e:(0 -(n+1)+1).toNat=n.natAbs:=o5;rw[e,F8,o8]
  .rfl
  .have:=(zT (u:=n.natAbs) o5).2;simp;omega
 .rw[lN (bU o5),if_neg hn,show wrap .u64 n=n from Pn (by unfold U64;omega),IL (by unfold U64;omega),o8]
theorem jC(h:I64 n):jP n=some (Lib.itoa n):=by unfold jP;rw[a9O h];rfl
def PQ(u k:Nat):List UInt8:=
 let d:=List.replicate (k+1 -(Lib.decDigits u).length) 48++Lib.decDigits u
 d.take (d.length -k)++46::d.drop (d.length -k)
def Uo(n:Int)(k:Nat):List UInt8:=if n<0 then 45::PQ n.natAbs k else PQ n.natAbs k
variable {k:Nat}
theorem a0Q(hu:u<18446744073709551616)(hk:k<=9):(PQ u k).length<=31:=by have:=zT hu;unfold PQ;simp;omega
theorem PR(h:I64 n)(hk:k<=9):(Uo n k).length<=32:=by unfold I64 at h;have:=a0Q (u:=n.natAbs) (k:=k) o5 hk;unfold Uo;split<;>simp<;>omega
variable {d:List UInt8}
theorem a5q(h1:k<d.length)(h2:d.length<=100):
  iQ d 0 (L6 .i64 (o9 d) (k:Int))=some (d.take (d.length -k))/\iQ d (L6 .i64 (o9 d) (k:Int)) (o9 d)=some (d.drop (d.length -k)):=by
 have e:L6 .i64 (o9 d) (k:Int)=((d.length -k:Nat):Int):=by rw[iU (by unfold I64 o9;omega)];unfold o9;omega
 rw[e];exact⟨by rw[a3d o5 o5];simp,by rw[PZ o5 o5];simp⟩
theorem a3I{d p:List UInt8}(h1:k<d.length)(h2:d.length<=100)(hp:p.length<=100):
  (l9 (iQ d 0 (L6 .i64 (o9 d) (k:Int))) λx=>l9 (J8 p x) λy=>l9 (J8 y [46]) λz=>l9 (iQ d (L6 .i64 (o9 d) (k:Int)) (o9 d)) λt=>l9 (J8 z t) λx=>some x)
   =some (p++(d.take (d.length -k)++46::d.drop (d.length -k))):=by
 obtain⟨c1,c2⟩:=a5q h1 h2;rw[c1,o8,F8 F5,o8,F8 F5,o8,c2,o8,F8 F5,o8];simp
theorem iR(h:I64 n)(hk:1<=k/\k<=9):df n (k:Int)=some (Uo n k):=by
 have hI:=h;unfold I64 at h;have ek:rF 0 (xk (k:Int) 9)=(k:Int):=by unfold rF xk;split<;>split<;>omega
 unfold df qB;rw[o8,ek,jC hI,o8,lN (O9 o5)];have hd:=zT (u:=n.natAbs) o5;have rest:∀(d p:List UInt8),1<=d.length->d.length<=20->p.length<=1->
   l7 (O7 (o9 d) (k:Int))
    (l9 (ru [48] (L6 .i64 (D8 .i64 (k:Int) 1) (o9 d))) λx3=>l9 (J8 x3 d) λx4=>l9 (iQ x4 0 (L6 .i64 (o9 x4) (k:Int))) λx5=>l9 (J8 p x5) λx6=>l9 (J8 x6 [46]) λx7=>
     l9 (iQ x4 (L6 .i64 (o9 x4) (k:Int)) (o9 x4)) λx=>l9 (J8 x7 x) λx=>some x)
    (l9 (iQ d 0 (L6 .i64 (o9 d) (k:Int))) λx=>l9 (J8 p x) λy=>l9 (J8 y [46]) λz=>l9 (iQ d (L6 .i64 (o9 d) (k:Int)) (o9 d)) λt=>l9 (J8 z t) λx=>some x)
   =some (p++(let e:=List.replicate (k+1 -d.length) 48++d;e.take (e.length -k)++46::e.drop (e.length -k))):=by
  intro d p h1 h2 h3;by_cases hle:d.length<=k
  .rw[kV (bP (by unfold o9;omega))];have e:L6 .i64 (D8 .i64 (k:Int) 1) (o9 d)=((k+1 -d.length:Nat):Int):=by
    rw[kC jb,iU (by unfold I64 o9;omega)];unfold o9;omega
   rw[e,Xw o5 A8,c2u,o8,F8 F5,o8];exact a3I F5 F5 o5
  .rw[lN (dE (by unfold o9;omega)),a3I o5 o5 o5];have:k+1 -d.length=0:=o5;rw[this];simp
 unfold Lib.itoa Uo PQ;by_cases hn:n<0
 .rw[if_pos hn,if_pos hn,kV (dP hn)];have e:iQ (45::Lib.decDigits n.natAbs) 1 (o9 (45::Lib.decDigits n.natAbs))=some (Lib.decDigits n.natAbs):=by
   rw[PZ o5 F5];simp
  rw[e,o8];exact rest (Lib.decDigits n.natAbs) [45] hd.1 hd.2 A8
 .rw[if_neg hn,if_neg hn,lN (bU o5)];have e:n.toNat=n.natAbs:=o5;rw[e];exact rest (Lib.decDigits n.natAbs) [] hd.1 hd.2 A8
theorem a9F :∀(h:d=Lib.decDigits u),∀c∈d,48<=c.toNat/\c.toNat<=57:=by intro h c hc;subst h;rw[Lib.decDigits_eq]at hc;obtain⟨t,_,rfl⟩:=gK.1 hc;unfold Lib.dg;have:u / 10^(Lib.nDigits u -1 -t) % 10<10:=Nat.mod_lt _ o5;generalize u / 10^(Lib.nDigits u -1 -t) % 10=r at this;simp;omega
theorem Ua{c:UInt8}(hc:c∈Lib.decDigits u):48<=c.toNat/\c.toNat<=57:=a9F rfl c hc
theorem Ve(h:∀c∈d,48<=c.toNat/\c.toNat<=57)(h1:1<=d.length):zK d=some (d,false):=by
 unfold zK;rw[kV (dP (by unfold o9;omega))];match d,h1 with
 |c::r,_=>have e:sat (c::r) 0=some (c.toNat:Int):=rfl;have:=h c A8;rw[e,o8,lN (O9 o5)]
theorem Vf :zK (45::d)=some (d,true):=by unfold zK;rw[kV (dP (by unfold o9;simp))];have e:sat (45::d) 0=some (45:Int):=rfl;rw[e,o8,kV (bF rfl),PZ o5 F5,o8];simp
theorem b0j(hk:k<=100)(hd:d.length<=100):
  aO (λ(x_3:List UInt8)=>l7 (O7 (o9 x_3) (k:Int)) (l9 (J8 [48] x_3) λ(x:List UInt8)=>some (Sum.inl x)) (some (Sum.inr x_3))) d=some (List.replicate (k+1 -d.length) 48++d):=by
 obtain⟨e,h1,h2⟩:=rM (f:=λ(x_3:List UInt8)=>l7 (O7 (o9 x_3) (k:Int)) (l9 (J8 [48] x_3) λ(x:List UInt8)=>some (Sum.inl x)) (some (Sum.inr x_3))) (s:=d)
  (λs=>s.length<=102/\List.replicate (k+1 -s.length) 48++s=List.replicate (k+1 -d.length) 48++d) (λe=>e=List.replicate (k+1 -d.length) 48++d) (λs=>k+1 -s.length) ⟨o5,rfl⟩ o5 (by
   intro s ⟨hs,he⟩;by_cases hle:s.length<=k
   .refine .inl ⟨48::s,?_,⟨by simp;omega,?_⟩,by simp;omega⟩
    .rw[kV (bP (by unfold o9;omega)),F8 F5];rfl
    .rw[←he];have e1:k+1 -s.length=(k+1 -(48::s).length)+1:=by simp;omega
     rw[e1,oZ];simp
   .refine .inr ⟨s,?_,?_⟩
    .rw[lN (dE (by unfold o9;omega))]
    .rw[←he,show k+1 -s.length=0 by omega];simp)
 rw[h1,h2]
theorem Ai(h:I64 n)(hk:1<=k/\k<=9):jT n (k:Int)=some (Uo n k):=by
 have hI:=h;unfold I64 at h;have ek:xk (rF (k:Int) 0) 9=(k:Int):=by unfold rF xk;split<;>split<;>omega
 unfold jT JI;have hd:=zT (u:=n.natAbs) o5;rw[o8,ek,lN (O9 o5),rO hI,o8];have rest:∀(d:List UInt8) (b:Bool),1<=d.length->d.length<=20->
   (l9 (aO (λ(x_3:List UInt8)=>l7 (O7 (o9 x_3) (k:Int)) (l9 (J8 [48] x_3) λ(x:List UInt8)=>some (Sum.inl x)) (some (Sum.inr x_3))) (d,b).1) λ(y:List UInt8)=>
    l9 (iQ y 0 (L6 .i64 (o9 y) (k:Int))) λ(x_3:List UInt8)=>l9 (J8 x_3 [46]) λ(x_4:List UInt8)=>l9 (iQ y (L6 .i64 (o9 y) (k:Int)) (o9 y)) λ(x:List UInt8)=>
     l9 (J8 x_4 x) λ(x:List UInt8)=>l7 (d,b).2 (l9 (J8 [45] x) λ(x:List UInt8)=>some x) (some x))
   =some ((if b then[45]else[])++(let e:=List.replicate (k+1 -d.length) 48++d;e.take (e.length -k)++46::e.drop (e.length -k))):=by
  intro d b h1 h2;rw[b0j (d:=d) o5 o5,o8];generalize he:List.replicate (k+1 -d.length) 48++d=e;have hl:k<e.length/\e.length<=40:=by subst he;simp;omega
  obtain⟨c1,c2⟩:=a5q hl.1 o5;rw[c1,o8,F8 F5,o8,c2,o8,F8 F5,o8];cases b
  .simp
  .show l9 (J8 [45] _) _=_;rw[F8 F5,o8];simp
 unfold Lib.itoa Uo PQ;by_cases hn:n<0
 .rw[if_pos hn,if_pos hn,Vf,o8];exact rest (Lib.decDigits n.natAbs) true hd.1 hd.2
 .rw[if_neg hn,if_neg hn];have e:n.toNat=n.natAbs:=o5;rw[e,Ve (λc hc=>Ua hc) hd.1,o8];exact rest (Lib.decDigits n.natAbs) false hd.1 hd.2
def a1i(n:Int)(w:Nat):List UInt8:=List.replicate (w -(Lib.itoa n).length) 48++Lib.itoa n
variable {w:Nat}
theorem yJ(h:I64 n)(hw:w<=4):(a1i n w).length<=25:=by have:=CV h;unfold a1i;simp;omega
theorem Jl(h:I64 n)(hw:w<=4):Ci n (w:Int)=some (a1i n w):=by
 have hl:=CV h;unfold Ci;rw[jC h,o8];have e:rF 0 (L6 .i64 (w:Int) (o9 (Lib.itoa n)))=((w -(Lib.itoa n).length:Nat):Int):=by rw[iU (by unfold I64 o9;omega)];unfold rF o9;split<;>omega
 rw[e,Xw o5 A8,c2u,o8,F8 F5,o8];rfl
theorem Hu(h:I64 n)(hw:w<=4):zM n (w:Int)=some (a1i n w):=by
 have hl:=CV h;unfold zM;rw[rO h,o8];show _=some (List.replicate (w -(Lib.itoa n).length) 48++Lib.itoa n);generalize Lib.itoa n=d at hl ⊢;obtain⟨e,h1,h2⟩:=rM (f:=λ(x:List UInt8)=>l7 (G5 (o9 x) (w:Int)) (l9 (J8 [48] x) λ(x:List UInt8)=>some (Sum.inl x)) (some (Sum.inr x))) (s:=d)
  (λs=>s.length<=30/\List.replicate (w -s.length) 48++s=List.replicate (w -d.length) 48++d) (λe=>e=List.replicate (w -d.length) 48++d) (λs=>w -s.length) ⟨o5,rfl⟩ o5 (by
   intro s ⟨hs,he⟩;by_cases hle:s.length<w
   .refine .inl ⟨48::s,?_,⟨by simp;omega,?_⟩,by simp;omega⟩
    .rw[kV (dP (by unfold o9;omega)),F8 F5];rfl
    .rw[←he];have e1:w -s.length=(w -(48::s).length)+1:=by simp;omega
     rw[e1,oZ];simp
   .refine .inr ⟨s,?_,?_⟩
    .rw[lN (bU (by unfold o9;omega))]
    .rw[←he,show w -s.length=0 by omega];simp)
 rw[h1,o8,h2]
def sF(d:Int):List UInt8:=if 0<=d/\d<=109572 then a1i (ymd d).1 4++45::a1i (ymd d).2.1 2++45::a1i (ymd d).2.2 2 else[]
theorem b1w{a b c:List UInt8}(ha:a.length<=100)(hb:b.length<=100)(hc:c.length<=100){A C B:Option (List UInt8)}(eb:B=some b)(ec:C=some c):
  (l9 (J8 a [45]) λx2=>l9 B λx3=>l9 (J8 x2 x3) λx4=>l9 (J8 x4 [45]) λx5=>l9 C λx=>l9 (J8 x5 x) λx=>some x)=some (a++45::b++45::c):=by
 rw[F8 F5,o8,eb,o8,F8 F5,o8,F8 F5,o8,ec,o8,F8 F5,o8];simp
theorem uY(h1:-1000000<=n)(h2:n<=1000000):I64 n:=by unfold I64;omega
theorem oC(d:Int):pV d=some (sF d):=by
 unfold pV um sF;by_cases h0:0<=d
 .rw[kV (bP h0),o8];by_cases h:d<=109572
  .rw[bP h,J7,o6,VW h0 h,o8,if_pos ⟨h0,h⟩];have hb:=a2v h0 h;have p1:=uY (n:=(ymd d).1) o5 o5;have p2:=uY (n:=(ymd d).2.1) o5 o5;have p3:=uY (n:=(ymd d).2.2) o5 o5;rw[show Ci (ymd d).1 4=_ from Jl (w:=4) p1 o5,o8];have l1:=yJ (w:=4) p1 o5;have l2:=yJ (w:=2) p2 o5;have l3:=yJ (w:=2) p3 o5;exact b1w (A:=none) o5 o5 o5 (Jl (w:=2) p2 o5) (Jl (w:=2) p3 o5)
  .rw[dE o5,af,o7,if_neg o5]
 .rw[lN (dE o5),o8,af,o7,if_neg o5]
theorem wP(d:Int):qc d=some (sF d):=by
 unfold qc Aj sF;by_cases h0:0<=d
 .rw[kV (bP h0),o8];by_cases h:d<=109572
  .rw[bP h,J7,o6,Vg h0 h,o8,if_pos ⟨h0,h⟩];have hb:=a2v h0 h;have p1:=uY (n:=(ymd d).1) o5 o5;have p2:=uY (n:=(ymd d).2.1) o5 o5;have p3:=uY (n:=(ymd d).2.2) o5 o5;rw[show zM (ymd d).1 4=_ from Hu (w:=4) p1 o5,o8];have l1:=yJ (w:=4) p1 o5;have l2:=yJ (w:=2) p2 o5;have l3:=yJ (w:=2) p3 o5;exact b1w (A:=none) o5 o5 o5 (Hu (w:=2) p2 o5) (Hu (w:=2) p3 o5)
  .rw[dE o5,af,o7,if_neg o5]
 .rw[lN (dE o5),o8,af,o7,if_neg o5]
theorem uU(d:Int):(sF d).length<=100:=by
 unfold sF;split
 .rename_i h;have hb:=a2v h.1 h.2;have l1:=yJ (w:=4) (uY (n:=(ymd d).1) o5 o5) o5;have l2:=yJ (w:=2) (uY (n:=(ymd d).2.1) o5 o5) o5;have l3:=yJ (w:=2) (uY (n:=(ymd d).2.2) o5 o5) o5;simp;omega
 .simp
theorem rY(t:Int×Int)(en:List dh):aX t en=Y3 t en:=by
 unfold aX Y3;by_cases h1:t.1=1
 .simp[x8,h1,O7]
 by_cases h2:t.1=2
 .simp[x8,h2,O7]
 by_cases h3:t.1=3
 .simp[x8,h3,O7]
 by_cases h4:t.1=4
 .simp[x8,h4,O7]
 by_cases h5:t.1=5
 .simp[x8,h5,O7]
 by_cases h6:t.1=6
 .simp[x8,h6,O7]
 .simp only[x8,h1,h2,h3,h4,h5,h6,decide_false,o6,o8];by_cases h7:1<=t.1
  .rw[kV (bP h7),lN (dE o5)]
  .rw[lN (dE o5)]
theorem KN(t:Int×Int)(en:List dh):gU t en=dO t en:=by unfold gU dO;rw[rY]
theorem a5a(n:Int)(t:Int×Int)(en:List dh):nR n t en=yL n t en:=by unfold nR yL;rw[KN]
theorem wY{v:Z9}(en:List dh)(h:I64 v.2.2):jW v en=rP v en:=by
 unfold jW rP zN;rw[o8,rY];cases hv:Y3 (v.1,v.2.1) en with
 |none=>rfl|some b=>
  rw[o8,o8];cases b with
  |false=>rfl|true=>
   rw[J7,o6,o6];have e:Ey v en=nR v.2.2 (v.1,v.2.1) en:=by unfold Ey zN;rw[o8,hv,o8,o7,o8,wE,a5a]
   rw[e,jC h,rO h,show df v.2.2 2=_ from iR (k:=2) h o5,show jT v.2.2 2=_ from Ai (k:=2) h o5,
    show df v.2.2 4=_ from iR (k:=4) h o5,show jT v.2.2 4=_ from Ai (k:=4) h o5,oC,wP]
theorem wZ{B:Nat}(hB:100<=B)(hB2:B<=200000000000000){v:Int×Int×Int}{en:List dh}(h:I64 v.2.2)(hm:∀e∈en,e.2.length<=B/\∀m∈e.2,m.length<=B):∃t,jW v en=some t/\t.1.length<=B:=by
 unfold jW
 cases hv:aX (v.1,v.2.1) en with
 |none=>
  exfalso;rw[rY]at hv;unfold Y3 at hv;simp only[pU]at hv
  repeat' split at hv
  all_goals cases hv
 |some b=>
  rw[o8];cases b with
  |false=>exact⟨_,rfl,A8⟩|true=>
   rw[J7,o6];unfold nR gU;rw[hv];simp only[o8,J7,o6];have f1:=CV h;have f2:=PR (k:=2) h o5;have f4:=PR (k:=4) h o5;have f5:=uU v.2.2;rw[jC h,show df v.2.2 2=_ from iR (k:=2) h o5,show df v.2.2 4=_ from iR (k:=4) h o5,oC];simp only[o8];rw[F8 (a:=Uo v.2.2 4) F5];simp only[o8];by_cases h1:v.1=1
   .simp only[bF h1,o7,o8];simp only[bb,o8];simp only[pU];repeat' split
    all_goals exact⟨_,rfl,by first|omega|(simp<;>omega)⟩
   by_cases h2:v.1=2
   .simp only[O9 h1,bF h2,o7,o6,o8];simp only[bb,o8];simp only[pU];repeat' split
    all_goals exact⟨_,rfl,by first|omega|(simp<;>omega)⟩
   by_cases h3:v.1=3
   .simp only[O9 h1,O9 h2,bF h3,o7,o6,o8];simp only[bb,o8];simp only[pU];repeat' split
    all_goals exact⟨_,rfl,by first|omega|(simp<;>omega)⟩
   by_cases h4:v.1=4
   .simp only[O9 h1,O9 h2,O9 h3,bF h4,o7,o6,o8];simp only[bb,o8];simp only[pU];repeat' split
    all_goals exact⟨_,rfl,by first|omega|(simp<;>omega)⟩
   by_cases h5:v.1=5
   .simp only[O9 h1,O9 h2,O9 h3,O9 h4,bF h5,o7,o6,o8];simp only[bb,o8];simp only[pU];repeat' split
    all_goals exact⟨_,rfl,by first|omega|(simp<;>omega)⟩
   .simp only[O9 h1,O9 h2,O9 h3,O9 h4,O9 h5,o6];have hk:v.1=6/\0<=v.2.1/\v.2.1<o9 en:=by
     unfold aX at hv;simp only[O9 h1,O9 h2,O9 h3,O9 h4,O9 h5,o6,o8]at hv;simp only[pU,kX,yu]at hv;split at hv
     .split at hv
      .simp only[F6,Bo]at hv;exact⟨by assumption,by assumption,hv⟩
      .cases hv
     .cases hv
    obtain⟨e,he,hmem⟩:=tC hk.2.1 hk.2.2;rw[he];simp only[o8];have hle:=(hm e hmem).1;have hll:o9 e.2=(e.2.length:Int):=rfl;rw[iU jb];by_cases hw0:0<=v.2.2
    .by_cases hw1:v.2.2<=o9 e.2 -1
     .rw[bP hw0,o7,bP hw1,o8,J7,o6];obtain⟨m,hm1,hm2⟩:=tC (l:=e.2) hw0 o5;rw[hm1];exact⟨_,rfl,(hm e hmem).2 m hm2⟩
     .rw[bP hw0,o7,dE (sJ.1 hw1),o8,af,o7];exact⟨_,rfl,A8⟩
    .rw[dE (sJ.1 hw0),o6];exact⟨_,rfl,A8⟩
end Gt
namespace Go.GP
open Gt
theorem VX(l:List iV):qK l=jD l:=by unfold qK jD;rfl
theorem a0B{α:Type}{l:List α}(h:l.length<=1000000):iO l=some l:=by unfold iO;rw[KR F5,J3]
theorem VD{l:X6}(hc:qJ l.1=some l.1)(k:Int):pI l k=lU l k:=by unfold pI lU;simp only[hc,VX];rfl
end Go.GP
namespace Go.GP
open Gt
set_option maxRecDepth 100000
def gtN(l:List (List UInt8))(i:Int):List UInt8:=(J4 l i).getD []
def tY(k:Int):List UInt8:=(xw k).getD []
def vT(k:Int):List UInt8:=(eG k).getD []
def zi(k:Int):List UInt8×Int:=(eU k).getD ([],0)
def IW(k:Int):Bool:=l7 (x8 k 2) true (l7 (x8 k 3) true (x8 k 4))
variable {b:Bool}
theorem b1U{x y:Option (List UInt8)}(hx:∃s,x=some s/\s.length<=10)(hy:∃s,y=some s/\s.length<=10):∃s,l7 b x y=some s/\s.length<=10:=by cases b<;>assumption
theorem a3K(k:Int):∃s,xw k=some s/\s.length<=10:=by
 unfold xw
 repeat (refine b1U ⟨_,rfl,U9⟩ ?_)
 exact⟨_,rfl,U9⟩
theorem a9z(k:Int):xw k=some (tY k):=by obtain⟨s,h,-⟩:=a3K k;unfold tY;rw[h];rfl
theorem uh(k:Int):gJ k=some (tY k):=(show gJ k=xw k from rfl).trans (a9z k)
theorem Rn(k:Int):eG k=some (vT k):=by
 unfold vT;have:∃s,eG k=some s:=by
  unfold eG;simp only[pU];repeat' split
  all_goals exact⟨_,rfl⟩
 obtain⟨s,h⟩:=this;rw[h];rfl
theorem a9r(k:Int):eU k=some (zi k):=by
 unfold zi;have:∃s,eU k=some s:=by
  unfold eU;simp only[pU];repeat' split
  all_goals exact⟨_,rfl⟩
 obtain⟨s,h⟩:=this;rw[h];rfl
theorem b0W(k:Int):gu k=some (zi k):=(show gu k=eU k from rfl).trans (a9r k)
theorem sS(k:Int):(tY k).length<=10:=by obtain⟨s,h,h2⟩:=a3K k;unfold tY;rw[h];exact h2
theorem Ah(k:Int):(vT k).length<=10:=by
 unfold vT eG;simp only[pU];repeat' split
 all_goals simp
theorem YX(k:Int):(zi k).1.length<=10:=by
 unfold zi eU;simp only[pU];repeat' split
 all_goals simp
structure NmOk (N:F9):Prop where
 e:∀e∈N.1,e.1.length<=1000/\∀m∈e.2,m.length<=1000
 t:∀s∈N.2.1,s.length<=1000
 i:∀s∈N.2.2.1,s.length<=1000
 d:∀s∈N.2.2.2.1,s.length<=1000
 m:∀s∈N.2.2.2.2,s.length<=1000
abbrev Tx:Type:=List UInt8×Int
def wiS(p:Tx)(c:Int):List UInt8:=l7 (G5 p.2 c) ([40]++p.1++[41]) p.1
def mV(n:Int×Int)(N:F9):Tx:=
 l7 (O7 n.1 5) (((rP (n.1,0,n.2) []).getD ([],0)).1,l7 (G5 n.2 0) 6 7)
 (l7 (x8 n.1 6) (((J4 N.1 (aY .i64 n.2 16)).getD ([],[])).1++[58]++gtN ((J4 N.1 (aY .i64 n.2 16)).getD ([],[])).2 (fU n.2 16),7)
 (l7 (x8 n.1 7) (gtN N.2.2.1 n.2,7)
 (l7 (x8 n.1 8) (gtN N.2.2.2.1 n.2,7)
 (l7 (x8 n.1 9) ([116,111,100,97,121],7)
 (l7 (x8 n.1 35) ([99,111,117,110,116,40,41],7) (tY n.1++[40]++gtN N.2.2.2.2 n.2++[41],7))))))
def Fe(n:Int×Int)(N:F9)(num:Bool)(a:Tx):Tx:=
 l7 (x8 n.1 33) (tY n.1++[40]++gtN N.2.1 n.2++[44,32]++a.1++[41],7)
 (l7 (x8 n.1 34) (tY n.1++[40]++gtN N.2.1 (aY .i64 n.2 8)++[44,32]++a.1++[44,32]++vT (fU n.2 8)++[41],7)
 (l7 (x8 n.1 25) ([110,111,116,32]++wiS a 6,6)
 (l7 (x8 n.1 10) ([45]++l7 num ([40]++a.1++[41]) (wiS a 6),6) (tY n.1++[40]++a.1++[41],7))))
def a0z(k:Int):Bool:=l7 (x8 k 17) true (l7 (x8 k 18) true (l7 (x8 k 27) true (l7 (x8 k 28) true (l7 (x8 k 29) true (x8 k 30)))))
def Lu(k:Int):Bool:=l7 (x8 k 14) true (l7 (x8 k 15) true (x8 k 16))
def Kz(n:Int×Int)(a b:Tx):Tx:=
 l7 (a0z n.1) (tY n.1++[40]++a.1++[44,32]++b.1++[41],7)
 (l7 (Lu n.1) (tY n.1++[40]++a.1++[44,32]++b.1++[44,32]++vT n.2++[41],7)
 (wiS a (l7 (x8 (zi n.1).2 3) 4 (zi n.1).2)++[32]++(zi n.1).1++[32]++wiS b ((zi n.1).2+1),(zi n.1).2))
def ifX(a b c:Tx):Tx:=([105,102,32]++a.1++[32,116,104,101,110,32]++b.1++[32,101,108,115,101,32]++c.1,0)
def lM(N:F9):XT->Tx
 | .l0 n=>mV n N| .l1 n a=>Fe n N (IW a.node.1) (lM N a)| .l2 n a b=>Kz n (lM N a) (lM N b)| .l3 n a b c=>ifX (lM N a) (lM N b) (lM N c)
def pcT(N:F9)(t:XT):I4:=((lM N t).1,(lM N t).2,IW t.node.1)
def DK(n:Int×Int)(args:List I4)(N:F9)(p:Tx):Prop:=
 ∃c,X9 n N=some c/\X7 n args N=some (l7 (x8 c 0) ((p.1,p.2,IW n.1),0) (([],0,false),c))
variable {α:Type}
theorem lx0(a:α)(l:List α):J4 (a::l) 0=some a:=rfl
theorem lx1(a b:α)(l:List α):J4 (a::b::l) 1=some b:=rfl
theorem lx2(a b c:α)(l:List α):J4 (a::b::c::l) 2=some c:=rfl
theorem Gs(p:I4)(c:Int)(h:p.1.length<=1000000000):ed p c=some (wiS (p.1,p.2.1) c):=by unfold ed wiS;rw[F8 F5,o8,F8 F5,o8];cases G5 p.2.1 c<;>rfl
theorem DI(p:Tx)(c:Int):(wiS p c).length<=p.1.length+2:=by unfold wiS;cases G5 p.2 c<;>simp
theorem arN(k:Int):1<=k/\k<=39\/arF k=-1:=by
 by_cases h:1<=k/\k<=39
 .exact .inl h
 .refine .inr ?_;unfold arF;rw[Yu h];rfl
variable {k:Int}
theorem ar0(h:arF k=0):k=1\/k=2\/k=3\/k=4\/k=5\/k=6\/k=7\/k=8\/k=9\/k=35\/k=36\/k=37\/k=38\/k=39:=by
 rcases arN k with h1|h1
 .obtain⟨j,rfl⟩:=UR h1;revert h;revert j;decide
 .omega
theorem ar1(h:arF k=1):k=10\/k=25\/k=31\/k=32\/k=33\/k=34:=by
 rcases arN k with h1|h1
 .obtain⟨j,rfl⟩:=UR h1;revert h;revert j;decide
 .omega
theorem ar2(h:arF k=2):k=11\/k=12\/k=13\/k=14\/k=15\/k=16\/k=17\/k=18\/k=19\/k=20\/k=21\/k=22\/k=23\/k=24\/k=27\/k=28\/k=29\/k=30:=by
 rcases arN k with h1|h1
 .obtain⟨j,rfl⟩:=UR h1;revert h;revert j;decide
 .omega
theorem ar3(h:arF k=3):k=26:=b1R h
variable {N:F9}{n:Int×Int}
theorem a3B{args:List I4}{p:Tx}(c:Int)(h1:X9 n N=some c)(h2:X7 n args N=some (l7 (x8 c 0) ((p.1,p.2,IW n.1),0) (([],0,false),c))):DK n args N p:=⟨c,h1,h2⟩
variable {m:Int}
theorem a9R(hk:k=1\/k=2\/k=3\/k=4\/k=5)(hm:I64 m)(N:F9):∃c s,X9 (k,m) N=some c/\jW (k,0,m) []=some (s,c):=by
 have b1:∀lo hi:Int,dO (k,0) []=some (lo,hi)->Y3 (k,0) []=some true->∃c s,X9 (k,m) N=some c/\jW (k,0,m) []=some (s,c):=by
  intro lo hi hb hv;have hf:X9 (k,m) N=some (l7 (G5 m lo) 3 (l7 (G5 hi m) 3 0)):=by
   unfold X9 dn;simp only[bP (show 1<=k by omega),bP (show k<=5 by omega),o7,o8,hb];cases G5 m lo
   .cases G5 hi m<;>rfl
   .rfl
  have hw:nR m (k,0) []=some (l7 (O7 lo m) (O7 m hi) false):=by unfold nR;rw[KN,hb,o8];cases O7 lo m<;>rfl
  rw[hf];obtain⟨t,ht,-⟩:=wZ (B:=100) o5 o5 (v:=(k,0,m)) (en:=[]) hm (λe h=>by cases h);unfold jW at ht ⊢;simp only[rY,hv,hw,o8,J7,o6]at ht ⊢;by_cases h1:lo<=m
  .by_cases h2:m<=hi
   .rw[bP h1,bP h2,o7,J7,o6]at ht ⊢;rw[bU h1,bU h2,o6,o6];refine⟨0,t.1,rfl,?_⟩;rw[ht];have e:t.2=0:=by
     rcases hk with rfl|rfl|rfl|rfl|rfl
     .simp (disch:=decide) only[bF,o7]at ht;revert ht;cases x8 m 1<;>cases x8 m 0<;>intro ht<;>cases ht<;>rfl
     .simp (disch:=decide) only[bF,O9,o7,o6,jC hm,o8,F6]at ht;rw[←ht]
     .simp (disch:=decide) only[bF,O9,o7,o6]at ht;rw[show df m 2=_ from iR (k:=2) hm o5]at ht;simp only[o8,F6]at ht;rw[←ht]
     .simp (disch:=decide) only[bF,O9,o7,o6]at ht;have f4:=PR (k:=4) hm o5;rw[show df m 4=_ from iR (k:=4) hm o5,o8,F8 F5]at ht;simp only[o8,F6]at ht;rw[←ht]
     .simp (disch:=decide) only[bF,O9,o7,o6,oC,o8,F6]at ht;rw[←ht]
    rw[←e]
   .rw[bP h1,dE o5,o7,af,o7,bU h1,dP o5,o6,o7];exact⟨3,[],rfl,rfl⟩
  .rw[dE o5,o6,af,o7,dP o5,o7];exact⟨3,[],rfl,rfl⟩
 rcases hk with rfl|rfl|rfl|rfl|rfl
 .exact b1 0 1 rfl rfl
 .exact b1 _ _ rfl rfl
 .exact b1 _ _ rfl rfl
 .exact b1 _ _ rfl rfl
 .exact b1 _ _ rfl rfl
theorem Du(hk:k=1\/k=2\/k=3\/k=4\/k=5)(hm:I64 m)(N:F9):DK (k,m) [] N (mV (k,m) N):=by
 obtain⟨c,s,h1,h2⟩:=a9R hk hm N;refine a3B c h1 ?_;have e:mV (k,m) N=(s,l7 (G5 m 0) 6 7):=by unfold mV;rw[bP (show k<=5 by omega),o7,←wY [] hm,h2];rfl
 have hc:c=0\/c=3:=by
  unfold X9 dn at h1;have h:=h1;simp only[bP (show 1<=k by omega),bP (show k<=5 by omega),o7,o8]at h;cases hb:dO (k,0) []with
  |none=>rw[hb]at h;cases h|some b=>rw[hb,o8]at h;cases hx:G5 m b.1<;>cases hy:G5 b.2 m<;>simp only[hx,hy,o7,o6,F6]at h<;>omega
 have hr:nz (k,m)=some (l7 (x8 c 0) ((s,l7 (l7 (IW k) (G5 m 0) false) 6 7,IW k),0) (([],0,false),c)):=by
  unfold nz IW;simp only[h2,o8];rcases hc with rfl|rfl
  .simp only[bF (rfl:(0:Int)=0),J7,o6,o7,aG,o8];cases G5 m 0<;>cases x8 k 2<;>cases x8 k 3<;>cases x8 k 4<;>rfl
  .rfl
 rw[e];unfold X7;rw[hr];have hneg:c=0->l7 (l7 (IW k) (G5 m 0) false) (6:Int) 7=l7 (G5 m 0) 6 7:=by
  intro h0;subst h0;cases hg:G5 m 0
  .cases IW k<;>rfl
  rcases hk with rfl|rfl|rfl|rfl|rfl
  .exfalso;unfold X9 dn at h1;simp only[show dO (1,0) []=some (0,1)from rfl,bP (show(1:Int)<=1 by omega),bP (show(1:Int)<=5 by omega),o7,o8,hg,F6]at h1;omega
  .rfl
  .rfl
  .rfl
  .exfalso;unfold X9 dn at h1;simp only[show dO (5,0) []=some (0,109572)from rfl,bP (show(1:Int)<=5 by omega),bP (show(5:Int)<=5 by omega),o7,o8,hg,F6]at h1;omega
 rcases hc with rfl|rfl
 .rw[hneg rfl];rcases hk with rfl|rfl|rfl|rfl|rfl<;>rfl
 .rcases hk with rfl|rfl|rfl|rfl|rfl<;>rfl
variable {l:List (List UInt8)}{i:Int}
theorem Na(h0:0<=i)(h:i<o9 l):J4 l i=some (gtN l i)/\gtN l i∈l:=by obtain⟨x,h1,h2⟩:=tC h0 h;unfold gtN;rw[h1];exact⟨rfl,h2⟩
theorem zA{B:Nat}(h:∀s∈l,s.length<=B)(i:Int):(gtN l i).length<=B:=by
 unfold gtN;cases hl:J4 l i with
 |none=>simp|some x=>exact h x (xK hl).2.2.1
theorem RN(k m:Int)(args:List I4)(N:F9)(hk:k=6\/k=7\/k=8\/k=36\/k=37\/k=38\/k=39):X7 (k,m) args N=dV (k,m) N:=by unfold X7;generalize hq:dV (k,m) N=q;rcases hk with rfl|rfl|rfl|rfl|rfl|rfl|rfl<;>simp (disch:=decide) only[bF,O9,o7,o6,o8,hq]<;>cases q<;>rfl
theorem xX(hk:k=7\/k=8\/k=36\/k=37\/k=38\/k=39)(hN:NmOk N):DK (k,m) [] N (mV (k,m) N):=by
 have key:∀(l:List (List UInt8)) (before after:List UInt8),(∀s∈l,s.length<=1000)->before.length<=100->after.length<=100->
   X9 (k,m) N=l7 (G5 m 0) (some 6) (l7 (O7 (o9 l) m) (some 6) (some 0))->
   dV (k,m) N=l7 (G5 m 0) (some (([],0,false),6))
    (l7 (O7 (o9 l) m) (some (([],0,false),6))
     (l9 (J4 l m) λ(x_1:List UInt8)=>
      l9 (J8 before x_1) λ(x_2:List UInt8)=>
       l9 (J8 x_2 after) λ(x:List UInt8)=>some ((x,7,false),0)))->
   mV (k,m) N=(before++gtN l m++after,7)->DK (k,m) [] N (mV (k,m) N):=by
  intro l before after hl hb ha hf0 hr he;have hf:X9 (k,m) N=some (l7 (G5 m 0) 6 (l7 (O7 (o9 l) m) 6 0)):=by rw[hf0];cases G5 m 0<;>cases O7 (o9 l) m<;>rfl
  refine a3B _ hf ?_;have hnum:IW k=false:=by rcases hk with rfl|rfl|rfl|rfl|rfl|rfl<;>rfl
  rw[RN _ _ _ _ o5,hr,he,hnum];by_cases h0:m<0
  .rw[dP h0];rfl
  by_cases h1:o9 l<=m
  .simp only[bU (show 0<=m by omega),bP h1];rfl
  .have:=Na (l:=l) (i:=m) o5 o5;have h2:=hl _ this.2;simp only[bU (show 0<=m by omega),dE (show m<o9 l by omega),o6,this.1,o8];rw[F8 o5,o8,F8 F5,o8];rfl
 have mem:∀k:Int,(k=36\/k=37\/k=38\/k=39)->dV (k,m) N=l7 (G5 m 0) (some (([],0,false),6))
    (l7 (O7 (o9 N.2.2.2.2) m) (some (([],0,false),6))
     (l9 (J4 N.2.2.2.2 m) λ(x_1:List UInt8)=>
      l9 (J8 (tY k++[40]) x_1) λ(x_2:List UInt8)=>
       l9 (J8 x_2 [41]) λ(x:List UInt8)=>some ((x,7,false),0))):=by
  intro k hk;have hw:=sS k;unfold dV aG;simp only[O9 (show k≠6 by omega),O9 (show k≠7 by omega),O9 (show k≠8 by omega),o6,uh,o8,F8 (a:=tY k) (b:=[40]) F5,X0]
 have lf:∀k:Int,(k=36\/k=37\/k=38\/k=39)->mV (k,m) N=(tY k++[40]++gtN N.2.2.2.2 m++[41],7):=by intro k hk;unfold mV;simp only[dE (show 5<k by omega),O9 (show k≠6 by omega),O9 (show k≠7 by omega),O9 (show k≠8 by omega),O9 (show k≠9 by omega),O9 (show k≠35 by omega),o6]
 have wl:=λk=>sS k;rcases hk with rfl|rfl|rfl|rfl|rfl|rfl
 .refine key N.2.2.1 [] [] hN.i A8 A8 rfl ?_ ?_
  .unfold dV aG;simp (disch:=decide) only[bF,O9,o7,o6,o8,X0]
  .unfold mV;simp (disch:=decide) only[bF,O9,dE,o7,o6];simp
 .refine key N.2.2.2.1 [] [] hN.d A8 A8 rfl ?_ ?_
  .unfold dV aG;simp (disch:=decide) only[bF,O9,o7,o6,o8,X0]
  .unfold mV;simp (disch:=decide) only[bF,O9,dE,o7,o6];simp
 .exact key N.2.2.2.2 (tY 36++[40]) [41] hN.m U9 U9 rfl (mem _ o5) (lf _ o5)
 .exact key N.2.2.2.2 (tY 37++[40]) [41] hN.m U9 U9 rfl (mem _ o5) (lf _ o5)
 .exact key N.2.2.2.2 (tY 38++[40]) [41] hN.m U9 U9 rfl (mem _ o5) (lf _ o5)
 .exact key N.2.2.2.2 (tY 39++[40]) [41] hN.m U9 U9 rfl (mem _ o5) (lf _ o5)
theorem Tf(h:I64 m)(d:Int)(hd:d=8\/d=16):aY .i64 m d=m.tdiv d:=by
 refine Oa ?_;unfold I64 at h ⊢;rcases hd with rfl|rfl
 all_goals
  rcases Int.lt_or_le m 0 with h0|h0
  .have e:=Int.neg_tdiv (a:=-m) (b:=8);have e' :=Int.neg_tdiv (a:=-m) (b:=16);rw[Int.neg_neg]at e e';have q1:=mY (a:=-m) (b:=8) o5;have q2:=mY (a:=-m) (b:=16) o5;omega
  .have q1:=mY (a:=m) (b:=8) o5;have q2:=mY (a:=m) (b:=16) o5;omega
theorem y_(hm:I64 m)(hN:NmOk N):DK (6,m) [] N (mV (6,m) N):=by
 have hf:X9 (6,m) N=(l7 (G5 m 0) (some 6)
    (l7 (O7 (o9 N.1) (aY .i64 m 16)) (some 6)
     (l9 (J4 N.1 (aY .i64 m 16)) λ(x:dh)=>
      l7 (O7 (o9 x.2) (fU m 16)) (some 6) (some 0)))):=rfl
 have hr:dV (6,m) N=l9 (l7 (G5 m 0) (some (Sum.inr (([],0,false),6)))
   (l7 (O7 (o9 N.1) (aY IntKind.i64 m 16)) (some (Sum.inr (([],0,false),6)))
    (l9 (J4 N.1 (aY IntKind.i64 m 16)) λ(x:dh)=>
     l9 (J8 x.1 [58]) λ(x_1:List UInt8)=>some (Sum.inl (([],0,false),x.2,fU m 16,x_1,[]))))) λ(o:I4×List (List UInt8)×Int×List UInt8×List UInt8⊕I4×Int)=>
 U3 o
  (λ(x:I4×List (List UInt8)×Int×List UInt8×List UInt8)=>
   l7 (G5 x.2.2.1 0) (some (([],0,false),6))
    (l7 (O7 (o9 x.2.1) x.2.2.1) (some (([],0,false),6))
     (l9 (J4 x.2.1 x.2.2.1) λ(x_1:List UInt8)=>
      l9 (J8 x.2.2.2.1 x_1) λ(x_2:List UInt8)=>
       l9 (J8 x_2 x.2.2.2.2) λ(x:List UInt8)=>
        l9 (aG x) λ(x:I4)=>some (x,0))))
  λ(r:I4×Int)=>some r:=rfl
 have hl:mV (6,m) N=(((J4 N.1 (aY .i64 m 16)).getD ([],[])).1++[58]++gtN ((J4 N.1 (aY .i64 m 16)).getD ([],[])).2 (fU m 16),7):=rfl;unfold DK;rw[hf,RN _ _ _ _ o5,hr,hl];by_cases h0:m<0
 .rw[dP h0];exact⟨6,rfl,rfl⟩
 rw[bU o5,o6,o6];by_cases h1:o9 N.1<=aY .i64 m 16
 .rw[bP h1];exact⟨6,rfl,rfl⟩
 rw[dE o5,o6,o6];have hq:0<=aY .i64 m 16:=by rw[Tf hm 16 (.inr rfl),mY o5];omega
 obtain⟨e,he,hmem⟩:=tC (l:=N.1) hq o5;have hb:=hN.e e hmem;have hr0:fU m 16=m % 16:=CU o5;simp only[he,o8,dM,F8 (a:=e.1) (b:=[58]) F5,X0];rw[bU (show 0<=fU m 16 by omega),o6];by_cases h2:o9 e.2<=fU m 16
 .rw[bP h2];exact⟨6,rfl,rfl⟩
 rw[dE o5,o6,o6];have hg:=Na (l:=e.2) (i:=fU m 16) o5 o5;have h3:=hb.2 _ hg.2;refine⟨0,rfl,?_⟩;rw[hg.1,o8,F8 F5,o8,F8 F5,o8];simp only[aG,o8,H6];rfl
theorem a7c :DK (9,0) [] N (mV (9,0) N):=⟨0,rfl,rfl⟩
theorem a4M :DK (35,0) [] N (mV (35,0) N):=⟨0,rfl,rfl⟩
theorem a3w(hN:NmOk N)(hm:I64 m)(ha:arF k=0)(hu:m=0\/bD k=some true):DK (k,m) [] N (mV (k,m) N):=by
 have hz:(k=9\/k=35)->m=0:=by
  intro h;rcases hu with h1|h1
  .exact h1
  .exfalso;rcases h with rfl|rfl<;>exact absurd h1 U9
 rcases ar0 ha with rfl|rfl|rfl|rfl|rfl|rfl|rfl|rfl|rfl|rfl|rfl|rfl|rfl|rfl
 .exact Du o5 hm N
 .exact Du o5 hm N
 .exact Du o5 hm N
 .exact Du o5 hm N
 .exact Du o5 hm N
 .exact y_ hm hN
 .exact xX o5 hN
 .exact xX o5 hN
 .rw[hz o5];exact a7c
 .rw[hz o5];exact a4M
 .exact xX o5 hN
 .exact xX o5 hN
 .exact xX o5 hN
 .exact xX o5 hN
theorem a1t(hm:I64 m)(hN:NmOk N)(a:I4)(h1:a.1.length<=1000000000):DK (33,m) [a] N (Fe (33,m) N b (a.1,a.2.1)):=by
 have hf:X9 (33,m) N=l7 (G5 m 0) (some 6) (l7 (O7 (o9 N.2.1) m) (some 6) (some 0)):=rfl;have hr:X7 (33,m) [a] N=fO (33,m) a N:=by unfold X7;generalize hq:fO (33,m) a N=q;simp (disch:=decide) only[bF,O9,o7,o6,o8,lx0,hq];cases q<;>rfl
 have hx:Fe (33,m) N b (a.1,a.2.1)=(tY 33++[40]++gtN N.2.1 m++[44,32]++a.1++[41],7):=rfl;unfold DK;rw[hf,hr,hx];unfold fO aG;simp (disch:=decide) only[bF,O9,o7,o6,o8,uh];by_cases h0:m<0
 .rw[dP h0];exact⟨6,rfl,rfl⟩
 rw[bU o5,o6,o6];by_cases h2:o9 N.2.1<=m
 .rw[bP h2];exact⟨6,rfl,rfl⟩
 rw[dE o5,o6,o6];have hg:=Na (l:=N.2.1) (i:=m) o5 o5;have h3:=hN.t _ hg.2;have hw:=sS 33;refine⟨0,rfl,?_⟩;rw[o8,X0,F8 F5,o8,hg.1,o8,F8 F5,o8,F8 F5,o8,F8 F5,o8,F8 F5,o8];rfl
theorem ZW(h:0<=m):seq (vT m) []=G5 5 m:=by
 by_cases h5:m<=5
 .rw[bU h5];obtain⟨k,rfl⟩:∃k:Fin 6,m=(k.val:Int):=⟨⟨m.toNat,o5⟩,by simp;omega⟩;revert k;decide
 .rw[dP o5];unfold vT eG;simp only[O9 (show m≠0 by omega),O9 (show m≠1 by omega),O9 (show m≠2 by omega),O9 (show m≠3 by omega),O9 (show m≠4 by omega),O9 (show m≠5 by omega),o6];rfl
theorem a5P(h:m<0):seq (vT m) []=true:=by unfold vT eG;simp only[O9 (show m≠0 by omega),O9 (show m≠1 by omega),O9 (show m≠2 by omega),O9 (show m≠3 by omega),O9 (show m≠4 by omega),O9 (show m≠5 by omega),o6];rfl
theorem x_(hm:I64 m)(hN:NmOk N)(a:I4)(h1:a.1.length<=1000000000):DK (34,m) [a] N (Fe (34,m) N b (a.1,a.2.1)):=by
 have hf:X9 (34,m) N=l7 (G5 m 0) (some 6) (l7 (O7 (o9 N.2.1) (aY .i64 m 8)) (some 6) (l7 (G5 5 (fU m 8)) (some 3) (some 0))):=rfl;have hr:X7 (34,m) [a] N=fO (34,m) a N:=by unfold X7;generalize hq:fO (34,m) a N=q;simp (disch:=decide) only[bF,O9,o7,o6,o8,lx0,hq];cases q<;>rfl
 have hx:Fe (34,m) N b (a.1,a.2.1)=(tY 34++[40]++gtN N.2.1 (aY .i64 m 8)++[44,32]++a.1++[44,32]++vT (fU m 8)++[41],7):=rfl;unfold DK;rw[hf,hr,hx];unfold fO aG;simp (disch:=decide) only[bF,O9,o7,o6,o8,uh,Rn];by_cases h0:m<0
 .rw[dP h0,bU (show m<=0 by omega)];simp only[o7,o6,o8,dP h0,mX];exact⟨6,rfl,rfl⟩
 have hq:aY .i64 m 8=m / 8:=by rw[Tf hm 8 (.inl rfl),mY o5]
 have hi:(l7 (G5 0 m) (some (aY .i64 m 8)) (some m):Option Int)=some (aY .i64 m 8):=by
  by_cases h:0<m
  .rw[dP h];rfl
  .rw[bU o5,o6,show aY .i64 m 8=m by omega]
 rw[hi,o8,bU (show 0<=m by omega),o6,bU (show 0<=aY .i64 m 8 by omega),o6];by_cases h2:o9 N.2.1<=aY .i64 m 8
 .rw[bP h2];exact⟨6,rfl,rfl⟩
 rw[dE o5,o6,o6];have hg:=Na (l:=N.2.1) (i:=aY .i64 m 8) o5 o5;have h3:=hN.t _ hg.2;have hw:=sS 34;have hm:=Ah (fU m 8);have hr0:fU m 8=m % 8:=CU o5;rw[o8,X0,F8 F5,o8,hg.1,o8,F8 F5,o8,F8 F5,o8,F8 F5,o8,ZW (show 0<=fU m 8 by omega)];cases G5 5 (fU m 8)
 .refine⟨0,rfl,?_⟩;rw[o6,F8 F5,o8,F8 F5,o8,F8 F5,o8];simp[l7];rfl
 .exact⟨3,rfl,rfl⟩
theorem a3x(hN:NmOk N)(hm:I64 m)(ha:arF k=1)(hu:m=0\/bD k=some true)(a:I4)(h1:a.1.length<=1000000000):DK (k,m) [a] N (Fe (k,m) N a.2.2 (a.1,a.2.1)):=by
 have hz:(k=10\/k=25\/k=31\/k=32)->m=0:=by
  intro h;rcases hu with h1|h1
  .exact h1
  .exfalso;rcases h with rfl|rfl|rfl|rfl<;>exact absurd h1 U9
 have hw:=DI (a.1,a.2.1) 6;simp only at hw;rcases ar1 ha with rfl|rfl|rfl|rfl|rfl|rfl
 .rw[hz o5];refine⟨0,rfl,?_⟩;unfold X7 Fe;simp (disch:=decide) only[bF,O9,o7,o6,o8,lx0,Gs a 6 h1];cases h:a.2.2
  .simp only[o6,o7];rw[F8 F5,o8,o8,mX];rfl
  .simp only[o7];rw[F8 F5,o8,F8 F5,o8,F8 F5,o8,o8,mX];rfl
 .rw[hz o5];refine⟨0,rfl,?_⟩;unfold X7 Fe;simp (disch:=decide) only[bF,O9,o7,o6,o8,lx0,Gs a 6 h1];rw[F8 F5,o8,o8,mX];rfl
 .rw[hz o5];refine⟨0,rfl,?_⟩;have hl:=sS 31;unfold X7 Fe aG;simp (disch:=decide) only[bF,O9,o7,o6,o8,lx0,uh];rw[F8 F5,o8,F8 F5,o8,F8 F5,o8,o8,mX];rfl
 .rw[hz o5];refine⟨0,rfl,?_⟩;have hl:=sS 32;unfold X7 Fe aG;simp (disch:=decide) only[bF,O9,o7,o6,o8,lx0,uh];rw[F8 F5,o8,F8 F5,o8,F8 F5,o8,o8,mX];rfl
 .exact a1t hm hN a h1
 .exact x_ hm hN a h1
theorem a1r(hk:k=17\/k=18\/k=27\/k=28\/k=29\/k=30)(a b:I4)(h1:a.1.length<=1000000000)(h2:b.1.length<=1000000000):DK (k,0) [a,b] N (Kz (k,0) (a.1,a.2.1) (b.1,b.2.1)):=by
 have hl:=sS k;rcases hk with rfl|rfl|rfl|rfl|rfl|rfl
 all_goals
  refine⟨0,rfl,?_⟩;unfold X7 Kz aG a0z;simp (disch:=decide) only[bF,O9,o7,o6,o8,lx0,lx1,uh];rw[F8 F5,o8,F8 F5,o8,F8 F5,o8,F8 F5,o8,F8 F5,o8,o8,mX];rfl
theorem a1s(hk:k=14\/k=15\/k=16)(a b:I4)(h1:a.1.length<=1000000000)(h2:b.1.length<=1000000000):DK (k,m) [a,b] N (Kz (k,m) (a.1,a.2.1) (b.1,b.2.1)):=by
 have hl:=sS k;have hm:=Ah m;have hf:X9 (k,m) N=some (l7 (seq (vT m) []) 3 0):=by
  have:X9 (k,m) N=l7 (G5 m 0) (some 3) (l7 (G5 5 m) (some 3) (some 0)):=by rcases hk with rfl|rfl|rfl<;>rfl
  rw[this];by_cases h0:m<0
  .rw[dP h0,a5P h0];rfl
  .rw[bU o5,ZW o5];cases G5 5 m<;>rfl
 refine a3B _ hf ?_;rcases hk with rfl|rfl|rfl
 all_goals
  unfold X7 Kz aG a0z Lu;simp (disch:=decide) only[bF,O9,o7,o6,o8,lx0,lx1,uh,Rn];cases seq (vT m) []
  .rw[o6,F8 F5,o8,F8 F5,o8,F8 F5,o8,F8 F5,o8,F8 F5,o8,F8 F5,o8,F8 F5,o8,o8,mX];rfl
  .rfl
theorem a1q(hk:k=11\/k=12\/k=13\/k=19\/k=20\/k=21\/k=22\/k=23\/k=24)(a b:I4)(h1:a.1.length<=100000000)(h2:b.1.length<=100000000):DK (k,0) [a,b] N (Kz (k,0) (a.1,a.2.1) (b.1,b.2.1)):=by
 have hl:=YX k;have hc:1<=(zi k).2/\(zi k).2<=5:=by rcases hk with rfl|rfl|rfl|rfl|rfl|rfl|rfl|rfl|rfl<;>decide
 have w1:=DI (a.1,a.2.1) 4;have w2:=DI (a.1,a.2.1) (zi k).2;have w3:=DI (b.1,b.2.1) ((zi k).2+1);simp only at w1 w2 w3;have hx:X7 (k,0) [a,b] N=l9 (gu k) λ(x:List UInt8×Int)=>
    l7 (x8 x.2 3)
     (l9 (ed a 4) λ(x_2:List UInt8)=>
       l9 (J8 x_2 [32]) λ(x_3:List UInt8)=>
        l9 (J8 x_3 x.1) λ(x_4:List UInt8)=>
         l9 (J8 x_4 [32]) λ(x_5:List UInt8)=>
           l9 (ed b (D8 IntKind.i64 x.2 1)) λ(x_7:List UInt8)=>
            l9 (J8 x_5 x_7) λ(x_8:List UInt8)=>some ((x_8,x.2,false),0))
     (l9 (ed a x.2) λ(x_2:List UInt8)=>
       l9 (J8 x_2 [32]) λ(x_3:List UInt8)=>
        l9 (J8 x_3 x.1) λ(x_4:List UInt8)=>
         l9 (J8 x_4 [32]) λ(x_5:List UInt8)=>
           l9 (ed b (D8 IntKind.i64 x.2 1)) λ(x_7:List UInt8)=>
            l9 (J8 x_5 x_7) λ(x_8:List UInt8)=>some ((x_8,x.2,false),0)):=by
  rcases hk with rfl|rfl|rfl|rfl|rfl|rfl|rfl|rfl|rfl<;>rfl
 have hf:X9 (k,0) N=some 0:=by rcases hk with rfl|rfl|rfl|rfl|rfl|rfl|rfl|rfl|rfl<;>rfl
 have hn:IW k=false:=by rcases hk with rfl|rfl|rfl|rfl|rfl|rfl|rfl|rfl|rfl<;>rfl
 have hb:a0z k=false/\Lu k=false:=by rcases hk with rfl|rfl|rfl|rfl|rfl|rfl|rfl|rfl|rfl<;>exact⟨rfl,rfl⟩
 refine a3B _ hf ?_;rw[hx,b0W,o8];unfold Kz;simp only[hb.1,hb.2,hn,o6,kC (show I64 ((zi k).2+1) by unfold I64;omega)];rw[Gs a 4 o5,Gs a _ o5,Gs b _ o5];simp only[o8];cases x8 (zi k).2 3
 .simp only[o6];rw[F8 F5,o8,F8 F5,o8,F8 F5,o8,F8 F5,o8];rfl
 .simp only[o7];rw[F8 F5,o8,F8 F5,o8,F8 F5,o8,F8 F5,o8];rfl
theorem a3y(ha:arF k=2)(hu:m=0\/bD k=some true)(a b:I4)(h1:a.1.length<=100000000)(h2:b.1.length<=100000000):DK (k,m) [a,b] N (Kz (k,m) (a.1,a.2.1) (b.1,b.2.1)):=by
 have hz:¬(k=14\/k=15\/k=16)->m=0:=by
  intro h;rcases hu with h1|h1
  .exact h1
  .exfalso;rcases ar2 ha with rfl|rfl|rfl|rfl|rfl|rfl|rfl|rfl|rfl|rfl|rfl|rfl|rfl|rfl|rfl|rfl|rfl|rfl<;>first|omega|exact absurd h1 U9
 by_cases h:k=14\/k=15\/k=16
 .exact a1s h a b o5 o5
 rw[hz h];by_cases h' :k=17\/k=18\/k=27\/k=28\/k=29\/k=30
 .exact a1r h' a b o5 o5
 .exact a1q (by have:=ar2 ha;omega) a b h1 h2
theorem a3z(hu:m=0\/bD 26=some true)(a b c:I4)(h1:a.1.length<=100000000)(h2:b.1.length<=100000000)(h3:c.1.length<=100000000):DK (26,m) [a,b,c] N (ifX (a.1,a.2.1) (b.1,b.2.1) (c.1,c.2.1)):=by
 have hz:m=0:=by
  rcases hu with h1|h1
  .exact h1
  .exact absurd h1 U9
 rw[hz];refine⟨0,rfl,?_⟩;unfold X7 ifX;simp (disch:=decide) only[bF,O9,o7,o6,o8,lx0,lx1,lx2];rw[F8 F5,o8,F8 F5,o8,F8 F5,o8,F8 F5,o8,F8 F5,o8,o8,mX];rfl
def flS(n:Int×Int)(N:F9):Int:=(X9 n N).getD 0
theorem Ya{c:Int}(h:X9 n N=some c):flS n N=c:=by unfold flS;rw[h];rfl
theorem a3J(h:0<=arF k):bD k=some true\/bD k=some false:=by
 rcases arN k with h1|h1
 .obtain⟨j,rfl⟩:=UR h1;revert h;revert j;decide
 .omega
theorem b1y(ha:0<=arF k)(hm:m≠0)(hu:bD k=some false):X9 (k,m) N=some 2:=by
 have h3:arF k=0\/arF k=1\/arF k=2\/arF k=3:=by have:=(FC k).2.2;omega
 have key:X9 (k,m) N=l7 (D9 (x8 m 0)) (some 2) (some 0)->X9 (k,m) N=some 2:=by intro h;rw[h,O9 hm];rfl
 rcases h3 with h|h|h|h
 .rcases ar0 h with rfl|rfl|rfl|rfl|rfl|rfl|rfl|rfl|rfl|rfl|rfl|rfl|rfl|rfl<;>first|exact absurd hu U9|exact key rfl
 .rcases ar1 h with rfl|rfl|rfl|rfl|rfl|rfl<;>first|exact absurd hu U9|exact key rfl
 .rcases ar2 h with rfl|rfl|rfl|rfl|rfl|rfl|rfl|rfl|rfl|rfl|rfl|rfl|rfl|rfl|rfl|rfl|rfl|rfl<;>first|exact absurd hu U9|exact key rfl
 .have:=ar3 h;subst this;exact key rfl
def fmF(a0:List (Int×Int))(a1:F9)(x:List I4×Int):Option (Out (List I4×Int) (List I4) (List UInt8×Int)):=
     l7 (G5 x.2 (o9 a0))
      (l9 (J4 a0 x.2) λ(x_1:Int×Int)=>
       l7 (D9 (x8 x_1.2 0))
        (l9 (bD x_1.1) λ(x_2:Bool)=>
         l7 (D9 x_2) (some (Out.rt ([],2)))
          (l9 (iq x_1.1) λ(x_3:Int)=>
           l7 (jE (L6 IntKind.i64 (o9 x.1) x_3) (o9 x.1) (o9 x.1))
            (l9
             (X7 x_1 (iM x.1 (X4 (L6 IntKind.i64 (o9 x.1) x_3)) (X4 (o9 x.1))) a1)
             λ(x_4:I4×Int)=>
             l7 (D9 (x8 x_4.2 0)) (some (Out.rt ([],x_4.2)))
              (l7 (jE 0 (L6 IntKind.i64 (o9 x.1) x_3) (o9 x.1))
               (l9 (aT (iM x.1 (X4 0) (X4 (L6 IntKind.i64 (o9 x.1) x_3))) [x_4.1])
                λ(x_5:List I4)=>some (Out.nx (x_5,D8 IntKind.i64 x.2 1)))
               none))
            none))
        (l9 (iq x_1.1) λ(x_2:Int)=>
         l7 (jE (L6 IntKind.i64 (o9 x.1) x_2) (o9 x.1) (o9 x.1))
          (l9 (X7 x_1 (iM x.1 (X4 (L6 IntKind.i64 (o9 x.1) x_2)) (X4 (o9 x.1))) a1)
           λ(x_3:I4×Int)=>
           l7 (D9 (x8 x_3.2 0)) (some (Out.rt ([],x_3.2)))
            (l7 (jE 0 (L6 IntKind.i64 (o9 x.1) x_2) (o9 x.1))
             (l9 (aT (iM x.1 (X4 0) (X4 (L6 IntKind.i64 (o9 x.1) x_2))) [x_3.1])
              λ(x_4:List I4)=>some (Out.nx (x_4,D8 IntKind.i64 x.2 1)))
             none))
          none))
      (some (Out.ex x.1))
def fmG(N:F9)(n:Int×Int)(p:List I4)(x:Tx)(i:Nat):Option (Out (List I4×Int) (List I4) (List UInt8×Int)):=
 some (l7 (x8 (flS n N) 0) (.nx (p++[(x.1,x.2,IW n.1)],((i+1:Nat):Int))) (.rt ([],flS n N)))
variable {e:List (Int×Int)}{x:Tx}
theorem a9K{i:Nat}{p args:List I4}(hn:e[i]? =some n)(hi:i<=1000)(hp:p.length<=1000)(hl:args.length<=3)(ha:arF n.1=(args.length:Int))
  (hr:(n.2=0\/bD n.1=some true)->DK n args N x):fmF e N (p++args,(i:Int))=fmG N n p x i:=by
 have hx:L6 .i64 (o9 (p++args)) (arF n.1)=(p.length:Int):=by rw[iU (by unfold I64 o9;simp;omega),ha];unfold o9;simp
 have r1:jE (p.length:Int) (o9 (p++args)) (o9 (p++args))=true:=by unfold jE o9;simp<;>omega
 have r2:jE 0 (p.length:Int) (o9 (p++args))=true:=by unfold jE o9;simp<;>omega
 have v1:iM (p++args) (X4 (p.length:Int)) (X4 (o9 (p++args)))=args:=by unfold iM X4 o9;rw[az,az,U1 (E9 _),List.drop_left]
 have v2:iM (p++args) (X4 0) (X4 (p.length:Int))=p:=by unfold iM X4;rw[az,mO];rfl
 have main:(n.2=0\/bD n.1=some true)->(l9 (iq n.1) λ(x_2:Int)=>
         l7 (jE (L6 IntKind.i64 (o9 (p++args)) x_2) (o9 (p++args)) (o9 (p++args)))
          (l9 (X7 n (iM (p++args) (X4 (L6 IntKind.i64 (o9 (p++args)) x_2)) (X4 (o9 (p++args)))) N)
           λ(x_3:I4×Int)=>
           l7 (D9 (x8 x_3.2 0)) (some (Out.rt ([],x_3.2)))
            (l7 (jE 0 (L6 IntKind.i64 (o9 (p++args)) x_2) (o9 (p++args)))
             (l9 (aT (iM (p++args) (X4 0) (X4 (L6 IntKind.i64 (o9 (p++args)) x_2))) [x_3.1])
              λ(x_4:List I4)=>some (Out.nx (x_4,D8 IntKind.i64 (i:Int) 1)))
             none))
          none)=fmG N n p x i:=by
  intro hu;obtain⟨c,h1,h2⟩:=hr hu;rw[a5k,o8,hx,r1,o7,v1,h2,o8,r2,v2];unfold fmG;rw[Ya h1];cases hc:x8 c 0
  .rw[o6];simp only[hc,af,o7];rfl
  .rw[o7];simp only[bF (rfl:(0:Int)=0),J7,o6,o7];rw[mP _ o5,o8,eY o5]
 unfold fmF;simp only[P6 hn,o7,L9,hn,o8];by_cases h0:n.2=0
 .rw[bF h0,J7,o6];exact main (.inl h0)
 .rw[O9 h0,af,o7];rcases a3J (k:=n.1) o5 with hu|hu
  .rw[hu,o8,J7,o6];exact main (.inr hu)
  .rw[hu,o8,af,o7];unfold fmG;rw[Ya (b1y (k:=n.1) (m:=n.2) o5 h0 hu)];rfl
def ffS(N:F9):List (Int×Int)->Int
 |[]=>0|n::l=>l7 (x8 (flS n N) 0) (ffS N l) (flS n N)
theorem MR(N:F9):∀a b,ffS N (a++b)=l7 (x8 (ffS N a) 0) (ffS N b) (ffS N a)
 |[],b=>by rw[show ffS N []=0 from rfl,bF rfl];rfl|n::a,b=>by
  show l7 (x8 (flS n N) 0) (ffS N (a++b)) (flS n N)=l7 (x8 (l7 (x8 (flS n N) 0) (ffS N a) (flS n N)) 0) (ffS N b) (l7 (x8 (flS n N) 0) (ffS N a) (flS n N));rw[MR N a b];cases h:x8 (flS n N) 0
  .simp only[o6,h]
  .simp only[o7]
theorem a5I(hN:NmOk N)(hI:I64 n.2):(mV n N).1.length<=3000:=by
 unfold mV;have hw:=sS n.1;have g1:=zA hN.i n.2;have g2:=zA hN.d n.2;have g3:=zA hN.m n.2;have hv:((rP (n.1,0,n.2) []).getD ([],0)).1.length<=100:=by obtain⟨t,ht,hl⟩:=wZ (B:=100) o5 o5 (v:=(n.1,0,n.2)) (en:=[]) hI (λe h=>by cases h);rw[←wY [] hI,ht];exact hl
 have he:((J4 N.1 (aY .i64 n.2 16)).getD ([],[])).1.length<=1000/\(gtN ((J4 N.1 (aY .i64 n.2 16)).getD ([],[])).2 (fU n.2 16)).length<=1000:=by
  cases hx:J4 N.1 (aY .i64 n.2 16)with
  |none=>exact⟨A8,zA (B:=1000) (λs h=>by cases h) _⟩|some e=>have:=hN.e e (xK hx).2.2.1;exact⟨this.1,zA this.2 _⟩
 cases O7 n.1 5
 case true=>simp only[o7];omega
 cases x8 n.1 6
 case true=>simp only[o7,o6];simp;omega
 cases x8 n.1 7
 case true=>simp only[o7,o6];omega
 cases x8 n.1 8
 case true=>simp only[o7,o6];omega
 cases x8 n.1 9
 case true=>simp[l7]
 cases x8 n.1 35
 case true=>simp[l7]
 .simp only[o6];simp;omega
theorem b0b(hN:NmOk N)(b:Bool)(a:Tx):(Fe n N b a).1.length<=a.1.length+3000:=by
 unfold Fe;have hw:=sS n.1;have hm:=Ah (fU n.2 8);have g1:=zA hN.t n.2;have g2:=zA hN.t (aY .i64 n.2 8);have w:=DI a 6;cases x8 n.1 33
 case true=>simp only[o7];simp;omega
 cases x8 n.1 34
 case true=>simp only[o7,o6];simp;omega
 cases x8 n.1 25
 case true=>simp only[o7,o6];simp;omega
 cases x8 n.1 10
 case true=>simp only[o7,o6];cases b<;>simp<;>omega
 .simp only[o6];simp;omega
theorem b1f(a b:Tx):(Kz n a b).1.length<=a.1.length+b.1.length+3000:=by
 unfold Kz;have hw:=sS n.1;have hm:=Ah n.2;have hs:=YX n.1;have w1:=DI a (l7 (x8 (zi n.1).2 3) 4 (zi n.1).2);have w2:=DI b ((zi n.1).2+1);cases a0z n.1
 case true=>simp only[o7];simp;omega
 cases Lu n.1
 case true=>simp only[o7,o6];simp;omega
 .simp only[o6];simp;omega
theorem yZ{N:F9}(hN:NmOk N):∀(t:XT),(∀n∈t.post,I64 n.2)->(lM N t).1.length<=3000*t.size
 | .l0 n,h=>a5I hN (h n (by simp[XT.post]))| .l1 n a,h=>by have h1:=yZ hN a (λm hm=>h m (by simp[XT.post,hm]));have h2:=b0b (n:=n) hN (IW a.node.1) (lM N a);simp only[lM,XT.size];omega| .l2 n a b,h=>by have h1:=yZ hN a (λm hm=>h m (by simp[XT.post,hm]));have h2:=yZ hN b (λm hm=>h m (by simp[XT.post,hm]));have h3:=b1f (n:=n) (lM N a) (lM N b);simp only[lM,XT.size];omega| .l3 n a b c,h=>by have h1:=yZ hN a (λm hm=>h m (by simp[XT.post,hm]));have h2:=yZ hN b (λm hm=>h m (by simp[XT.post,hm]));have h3:=yZ hN c (λm hm=>h m (by simp[XT.post,hm]));simp only[lM,XT.size,ifX];simp;omega
theorem Hf{σ ε ρ:Type}(f:σ->Option (Out σ ε ρ))(n:Nat)(s:σ):jO f (n+1) s=match f s with|some (.nx s')=>jO f n s'|some (.ex e)=>some (.inl e)|some (.rt r)=>some (.inr r)|none=>none:=by rw[jO]<;>rfl
theorem a9L(he:e.length<=48)(hN:NmOk N)(hI:∀n∈e,I64 n.2):∀(t:XT) (pre suf:List (Int×Int)) (p:List I4) (m:Nat),e=pre++t.post++suf->t.wf->p.length+t.size<=60->
  jO (fmF e N) (m+t.size) (p,(pre.length:Int))=l7 (x8 (ffS N t.post) 0) (jO (fmF e N) m (p++[pcT N t],((pre.length+t.size:Nat):Int))) (some (.inr ([],ffS N t.post))):=by
 have stepN:∀(n:Int×Int) (pre suf:List (Int×Int)) (p args:List I4) (x:Tx) (m:Nat),e=pre++[n]++suf->p.length<=60->args.length<=3->arF n.1=(args.length:Int)->((n.2=0\/bD n.1=some true)->DK n args N x)->
   jO (fmF e N) (m+1) (p++args,(pre.length:Int))=l7 (x8 (flS n N) 0) (jO (fmF e N) m (p++[(x.1,x.2,IW n.1)],((pre.length+1:Nat):Int))) (some (.inr ([],flS n N))):=by
  intro n pre suf p args x m h1 h2 h3 h4 h5;have hn:e[pre.length]? =some n:=by rw[h1,E5,I8 (E9 _),gQ];rfl
  have hlt:=(aK.1 hn).1;rw[Hf,a9K hn o5 o5 h3 h4 h5];unfold fmG;cases x8 (flS n N) 0<;>rfl
 intro t;induction t with
 |l0 n=>
  intro pre suf p m h hw hs;have hI1:=hI n (by rw[h];simp[XT.post]);have:=stepN n pre suf p [] (mV n N) m h o5 A8 hw (λhu=>a3w hN hI1 hw hu);rw[H6]at this;rw[show(XT.l0 n).size=1 from rfl,this];unfold XT.post ffS ffS;cases hf:x8 (flS n N) 0
  .simp only[o6,hf]
  .simp only[o7,bF (rfl:(0:Int)=0)];rfl
 |l1 n a iha=>
  intro pre suf p m h hw hs;simp only[XT.post,XT.size]at h hs ⊢;have hI1:=hI n (by rw[h];simp);have hIa:∀n∈a.post,I64 n.2:=λq hq=>hI q (by rw[h];simp[hq]);have hl:=yZ hN a hIa;rw[show m+(a.size+1)=(m+1)+a.size by omega,iha pre ([n]++suf) p (m+1) (by rw[h];simp) hw.2 o5,MR];cases hf:x8 (ffS N a.post) 0
  .simp only[o6,hf]
  have:=stepN n (pre++a.post) suf p [pcT N a] (Fe n N (IW a.node.1) (lM N a)) m (by rw[h];simp) o5 A8 hw.1 (λhu=>a3x hN hI1 hw.1 hu (pcT N a) (by simp only[pcT];omega));rw[show(pre++a.post).length=pre.length+a.size by simp[XT.post_len]]at this;simp only[o7];rw[this];unfold ffS ffS;cases hg:x8 (flS n N) 0
  .simp only[o6,hg]
  .simp only[o7,bF (rfl:(0:Int)=0)];rfl
 |l2 n a b iha ihb=>
  intro pre suf p m h hw hs;simp only[XT.post,XT.size]at h hs ⊢;have hI1:=hI n (by rw[h];simp);have hIa:∀n∈a.post,I64 n.2:=λq hq=>hI q (by rw[h];simp[hq]);have hIb:∀n∈b.post,I64 n.2:=λq hq=>hI q (by rw[h];simp[hq]);have hla:=yZ hN a hIa;have hlb:=yZ hN b hIb;have s1:=a.size_pos;have s2:=b.size_pos;rw[show m+(a.size+b.size+1)=(m+1+b.size)+a.size by omega,iha pre (b.post++[n]++suf) p (m+1+b.size) (by rw[h];simp) hw.2.1 o5,MR,MR];cases hf:x8 (ffS N a.post) 0
  .simp only[o6,hf]
  have i2:=ihb (pre++a.post) ([n]++suf) (p++[pcT N a]) (m+1) (by rw[h];simp) hw.2.2 F5;rw[show(pre++a.post).length=pre.length+a.size by simp[XT.post_len]]at i2;simp only[o7];rw[i2];cases hf2:x8 (ffS N b.post) 0
  .simp only[o6,hf2]
  have:=stepN n (pre++a.post++b.post) suf p [pcT N a,pcT N b] (Kz n (lM N a) (lM N b)) m (by rw[h];simp) o5 A8 hw.1 (λhu=>a3y hw.1 hu (pcT N a) (pcT N b) (by simp only[pcT];omega) (by simp only[pcT];omega));rw[show(pre++a.post++b.post).length=pre.length+a.size+b.size by simp[XT.post_len];omega,show pre.length+a.size+b.size+1=pre.length+(a.size+b.size+1) by omega]at this;simp only[o7];rw[show p++[pcT N a]++[pcT N b]=p++[pcT N a,pcT N b] by simp,this];unfold ffS ffS;cases hg:x8 (flS n N) 0
  .simp only[o6,hg]
  .simp only[o7,bF (rfl:(0:Int)=0)];rfl
 |l3 n a b c iha ihb ihc=>
  intro pre suf p m h hw hs;simp only[XT.post,XT.size]at h hs ⊢;have hI1:=hI n (by rw[h];simp);have hIa:∀n∈a.post,I64 n.2:=λq hq=>hI q (by rw[h];simp[hq]);have hIb:∀n∈b.post,I64 n.2:=λq hq=>hI q (by rw[h];simp[hq]);have hIc:∀n∈c.post,I64 n.2:=λq hq=>hI q (by rw[h];simp[hq]);have hla:=yZ hN a hIa;have hlb:=yZ hN b hIb;have hlc:=yZ hN c hIc;have s1:=a.size_pos;have s2:=b.size_pos;have s3:=c.size_pos;have h26:=ar3 hw.1;rw[show m+(a.size+b.size+c.size+1)=(m+1+c.size+b.size)+a.size by omega,iha pre (b.post++c.post++[n]++suf) p (m+1+c.size+b.size) (by rw[h];simp) hw.2.1 o5,MR,MR,MR];cases hf:x8 (ffS N a.post) 0
  .simp only[o6,hf]
  have i2:=ihb (pre++a.post) (c.post++[n]++suf) (p++[pcT N a]) (m+1+c.size) (by rw[h];simp) hw.2.2.1 F5;rw[show(pre++a.post).length=pre.length+a.size by simp[XT.post_len]]at i2;simp only[o7];rw[i2];cases hf2:x8 (ffS N b.post) 0
  .simp only[o6,hf2]
  have i3:=ihc (pre++a.post++b.post) ([n]++suf) (p++[pcT N a]++[pcT N b]) (m+1) (by rw[h];simp) hw.2.2.2 F5;rw[show(pre++a.post++b.post).length=pre.length+a.size+b.size by simp[XT.post_len];omega]at i3;simp only[o7];rw[i3];cases hf3:x8 (ffS N c.post) 0
  .simp only[o6,hf3]
  have:=stepN n (pre++a.post++b.post++c.post) suf p [pcT N a,pcT N b,pcT N c] (ifX (lM N a) (lM N b) (lM N c)) m (by rw[h];simp) o5 A8 hw.1 (λhu=>by obtain⟨k,v⟩:=n;simp only at h26 hu;subst h26;exact a3z hu (pcT N a) (pcT N b) (pcT N c) (by simp only[pcT];omega) (by simp only[pcT];omega) (by simp only[pcT];omega))
  rw[show(pre++a.post++b.post++c.post).length=pre.length+a.size+b.size+c.size by simp[XT.post_len];omega,show pre.length+a.size+b.size+c.size+1=pre.length+(a.size+b.size+c.size+1) by omega]at this;simp only[o7];rw[show p++[pcT N a]++[pcT N b]++[pcT N c]=p++[pcT N a,pcT N b,pcT N c] by simp,this];unfold ffS ffS;cases hg:x8 (flS n N) 0
  .simp only[o6,hg]
  .simp only[o7,bF (rfl:(0:Int)=0)];rfl
def Lr(e:List (Int×Int))(N:F9):List UInt8×Int:=match jV e with
 | .inl x=>([],x.2)| .inr t=>l7 (x8 (ffS N e) 0) ((lM N t).1,0) ([],ffS N e)
theorem a5B(hN:NmOk N)(hI:∀n∈e,I64 n.2):mi e N=some (Lr e N):=by
 unfold mi Af Lr;rw[Ph];unfold tX;cases h:jV e with
 |inl x=>simp only[o8,O9 (Ap h)];rfl|inr t=>
  obtain⟨h1,h2,h3,h4⟩:=Zm h;obtain⟨hp,-⟩:=rq h;simp only[o8,bF (rfl:(0:Int)=0),J7,o6];have hl:O6 (fmF e N) ([],0)=some (l7 (x8 (ffS N e) 0) (.inl [pcT N t]) (.inr ([],ffS N e))):=by
   unfold O6;rw[show jg=(jg -t.size)+t.size by unfold jg;omega];have:=a9L h2 hN hI t [] [] [] (jg -t.size) (by simp[←hp]) (QF h) F5;rw[show(([]:List (Int×Int)).length:Int)=0 from rfl]at this;rw[this,←hp];cases x8 (ffS N e) 0
   .rfl
   .simp only[o7];rw[show jg -t.size=(jg -t.size -1)+1 by unfold jg;omega];rw[Hf];unfold fmF;simp only[ai,bV];rw[←h3,show G5 ((e.length:Nat):Int) (o9 e)=false from P5 e];rfl
  refine U8 hl ?_;rw[o8];cases x8 (ffS N e) 0<;>rfl
abbrev a9A:Type:=List (Int×Int)×F9
theorem Md(n:Nat)(p:a9A)(i:Int):(D5 (n+1)).1 p i=ae (D5 n).1 (D5 n).2.1 (D5 n).2.2 p i:=rfl
theorem c2s(n:Nat)(p:a9A)(x:Int×Int)(l:List Int):(D5 (n+1)).2.1 p x l=mF (D5 n).1 (D5 n).2.1 (D5 n).2.2 p x l:=rfl
theorem c2t(n:Nat)(p:a9A)(i c:Int):(D5 (n+1)).2.2 p i c=pq (D5 n).1 (D5 n).2.1 (D5 n).2.2 p i c:=rfl
theorem rW{n:Nat}{p:a9A}(c:Int)(h:(D5 n).1 p i=some (x.1,x.2,p))(hl:x.1.length<=1000000):(D5 (n+1)).2.2 p i c=some (wiS x c,p):=by rw[c2t];unfold pq wiS;rw[h,o8,F8 F5,o8,F8 F5,o8];cases G5 x.2 c<;>rfl
theorem b1e(k:Int):0<=(zi k).2:=by
 unfold zi eU;simp only[pU];repeat' split
 all_goals simp
theorem a5H(n:Int×Int)(N:F9):0<=(mV n N).2:=by
 unfold mV;simp only[pU];repeat' split
 all_goals simp
theorem b0a(n:Int×Int)(N:F9)(b:Bool)(a:Tx):0<=(Fe n N b a).2:=by
 unfold Fe;simp only[pU];repeat' split
 all_goals simp
theorem QI(N:F9)(t:XT):0<=(lM N t).2:=by
 cases t with
 |l0 n=>exact a5H n N|l1 n a=>exact b0a _ _ _ _|l2 n a b=>have:=b1e n.1;unfold lM Kz;cases a0z n.1<;>cases Lu n.1<;>simp[l7]<;>exact this|l3 n a b c=>simp[lM,ifX]
theorem wi0(h:0<=x.2):wiS x 0=x.1:=by unfold wiS;rw[bU h];rfl
theorem B_(h:0<=m/\m<=5):rV m=some (vT m):=by obtain⟨k,rfl⟩:∃k:Fin 6,m=(k.val:Int):=⟨⟨m.toNat,o5⟩,by simp;omega⟩;revert k;decide
def Xd(b:List UInt8×Nat)(a:List UInt8):List UInt8×Nat:=(l7 (G5 0 (b.2:Int)) (b.1++[44,32]++a) (b.1++a),b.2+1)
def Ju(l:List (List UInt8)):List UInt8:=(l.foldl Xd ([],0)).1
theorem a9Q(hl:l.length<=10)(hb:∀s∈l,s.length<=1000000){f:List UInt8×Int->Option ((List UInt8×Int)⊕List UInt8)}
  (hf:∀(t:List UInt8) (i:Nat) (a:List UInt8),l[i]? =some a->f (t,(i:Int))=l7 (G5 0 (i:Int)) (l9 (J8 t [44,32]) λx=>l9 (J8 x a) λx=>some (.inl (x,((i+1:Nat):Int)))) (l9 (J8 t a) λx=>some (.inl (x,((i+1:Nat):Int)))))
  (he:∀t,f (t,(l.length:Int))=some (.inr t)):aO f ([],0)=some (Ju l):=by
 have:=(zG l Xd (λb i=>(b.1,i)) (λb=>b.1) (λi b=>b.2=i/\b.1.length<=i*1000010) (f:=f) (b:=([],0)) o5 ⟨rfl,A8⟩ (λi a b hx hi hI=>?_) (λb hI=>he b.1)).1
 .exact this
 .have ha:=hb a (rH hx);have hlt:=(aK.1 hx).1;obtain⟨h1,h2⟩:=hI;rw[hf b.1 i a hx];unfold Xd;rw[h1];cases G5 0 (i:Int)
  .rw[o6,o6,F8 o5,o8];exact⟨rfl,rfl,by simp;omega⟩
  .rw[o7,o7,F8 F5,o8,F8 F5,o8];exact⟨rfl,rfl,by simp;omega⟩
def Su(n:Int×Int)(N:F9)(l:List (List UInt8)):List (List UInt8):=
 let a:=l7 (x8 n.1 34) [gtN N.2.1 (aY .i64 n.2 8)] [];let b:=l7 (x8 n.1 33) (a++[gtN N.2.1 n.2]) (l7 (O7 36 n.1) (a++[gtN N.2.2.2.2 n.2]) a);let c:=b++l;let d:=l7 (Lu n.1) (c++[vT n.2]) c
 l7 (x8 n.1 34) (d++[vT (fU n.2 8)]) d
structure Ref11 (n:Int×Int) (N:F9):Prop where
 b:n.1=34->J4 N.2.1 (aY .i64 n.2 8)=some (gtN N.2.1 (aY .i64 n.2 8))/\0<=fU n.2 8/\fU n.2 8<=5
 t:n.1=33->J4 N.2.1 n.2=some (gtN N.2.1 n.2)
 m:36<=n.1->J4 N.2.2.2.2 n.2=some (gtN N.2.2.2.2 n.2)
 r:Lu n.1=true->0<=n.2/\n.2<=5
theorem a3U{k:Nat}{ops:List Int}{ts:List (List UInt8)}(hr:Ref11 n N)(hN:NmOk N)(hlen:ops.length=ts.length)(h3:ts.length<=3)(hts:∀s∈ts,s.length<=1000000)
  (hc:∀(i:Nat) (o:Int) (s:List UInt8),ops[i]? =some o->ts[i]? =some s->(D5 k).2.2 (e,N) o 0=some (s,(e,N))):(D5 (k+1)).2.1 (e,N) n ops=some (Ju (Su n N ts),(e,N)):=by
 rw[c2s];unfold mF Su;have s1:(l7 (x8 n.1 34) (l9 (J4 N.2.1 (aY IntKind.i64 n.2 8)) λ(x:List UInt8)=>l9 (aT [] [x]) λ(x:List (List UInt8))=>some x) (some []))=some (l7 (x8 n.1 34) [gtN N.2.1 (aY .i64 n.2 8)] []):=by
  cases h:x8 n.1 34
  .rfl
  .rw[(hr.b (kX.1 h)).1];rfl
 refine U8 s1 ?_;rw[o8];generalize hA:l7 (x8 n.1 34) [gtN N.2.1 (aY .i64 n.2 8)] []=A;have lA:A.length<=1:=by rw[←hA];cases x8 n.1 34<;>simp
 have mA:∀s∈A,s.length<=1000:=by
  rw[←hA];cases x8 n.1 34
  .intro s hs;cases hs
  .intro s hs;simp at hs;rw[hs];exact zA hN.t _
 have s2:(l7 (x8 n.1 33)
    (l9 (nU n N) λ(x_1:List (List UInt8))=>
     l9 (J4 x_1 n.2) λ(x_2:List UInt8)=>l9 (aT A [x_2]) λ(x:List (List UInt8))=>some x)
    (l7 (O7 36 n.1)
     (l9 (nU n N) λ(x_1:List (List UInt8))=>
      l9 (J4 x_1 n.2) λ(x_2:List UInt8)=>l9 (aT A [x_2]) λ(x:List (List UInt8))=>some x)
     (some A)))=some (l7 (x8 n.1 33) (A++[gtN N.2.1 n.2]) (l7 (O7 36 n.1) (A++[gtN N.2.2.2.2 n.2]) A)):=by
  unfold nU;by_cases h:n.1=33
  .rw[bF h,o7,o7];simp only[O9 (show n.1≠7 by omega),O9 (show n.1≠8 by omega),bF h,o7,o6,o8,hr.t h];rw[mP _ o5];rfl
  .rw[O9 h,o6,o6];by_cases h2:36<=n.1
   .rw[bP h2,o7,o7];simp only[O9 (show n.1≠7 by omega),O9 (show n.1≠8 by omega),O9 h,o6,o8,hr.m h2];rw[mP _ o5];rfl
   .rw[dE o5];rfl
 refine U8 s2 ?_;rw[o8];generalize hB:l7 (x8 n.1 33) (A++[gtN N.2.1 n.2]) (l7 (O7 36 n.1) (A++[gtN N.2.2.2.2 n.2]) A)=B;have lB:B.length<=2:=by rw[←hB];cases x8 n.1 33<;>cases O7 36 n.1<;>simp[l7]<;>omega
 have mB:∀s∈B,s.length<=1000:=by
  rw[←hB];intro s hs;cases h:x8 n.1 33
  .rw[h]at hs;cases h2:O7 36 n.1
   .rw[h2]at hs;exact mA s hs
   .rw[h2]at hs;simp[l7]at hs;rcases hs with hs|hs
    .exact mA s hs
    .rw[hs];exact zA hN.m _
  .rw[h]at hs;simp[l7]at hs;rcases hs with hs|hs
   .exact mA s hs
   .rw[hs];exact zA hN.t _
 have s3:aO (λ(x:H8×List (List UInt8)×Int)=>
     l7 (G5 x.2.2 (o9 ops))
      (l9 (J4 ops x.2.2) λ(x_1:Int)=>
       l9 ((D5 k).2.2 x.1 x_1 0) λ(x_2:List UInt8×H8)=>
        l9 (aT x.2.1 [x_2.1]) λ(x_3:List (List UInt8))=>
         some (Sum.inl (x_2.2,x_3,D8 IntKind.i64 x.2.2 1)))
      (some (Sum.inr (x.1,x.2.1))))
    ((e,N),B,0)=some ((e,N),B++ts):=by
  have:=(zG ts (λ(b:List (List UInt8)) a=>b++[a]) (λb i=>((((e,N):H8),b,i):H8×List (List UInt8)×Int)) (λb=>(((e,N):H8),b)) (λi b=>b.length<=2+i) (b:=B) (f:=λ(x:H8×List (List UInt8)×Int)=>
     l7 (G5 x.2.2 (o9 ops))
      (l9 (J4 ops x.2.2) λ(x_1:Int)=>
       l9 ((D5 k).2.2 x.1 x_1 0) λ(x_2:List UInt8×H8)=>
        l9 (aT x.2.1 [x_2.1]) λ(x_3:List (List UInt8))=>
         some (Sum.inl (x_2.2,x_3,D8 IntKind.i64 x.2.2 1)))
      (some (Sum.inr (x.1,x.2.1)))) o5 o5 (λi a b hx hi hI=>?_) (λb hI=>?_)).1
  .rw[this];congr 2;have:∀(l B:List (List UInt8)),l.foldl (λ(b:List (List UInt8)) a=>b++[a]) B=B++l:=by
    intro l;induction l with
    |nil=>intro B;simp|cons a l ih=>intro B;rw[ah,ih];simp
   rw[this]
  .have hlt:=(aK.1 hx).1;have ho:ops[i]? =some ops[i]:=kN o5;simp only[P6 ho,o7,L9,ho,o8,hc i _ _ ho hx];rw[mP _ o5,o8,eY o5];exact⟨rfl,by simp;omega⟩
  .simp only;rw[show G5 ((ts.length:Nat):Int) (o9 ops)=false by rw[←hlen];exact P5 ops];rfl
 refine U8 s3 ?_;rw[o8];have s4:∀(y:H8×List (List UInt8)),y.2.length<=10->(l7 (x8 n.1 14)
     (l9 (rV n.2) λ(x:List UInt8)=>l9 (aT y.2 [x]) λ(x:List (List UInt8))=>some x)
     (l7 (x8 n.1 15)
      (l9 (rV n.2) λ(x:List UInt8)=>l9 (aT y.2 [x]) λ(x:List (List UInt8))=>some x)
      (l7 (x8 n.1 16)
       (l9 (rV n.2) λ(x:List UInt8)=>
        l9 (aT y.2 [x]) λ(x:List (List UInt8))=>some x)
       (some y.2))))=some (l7 (Lu n.1) (y.2++[vT n.2]) y.2):=by
  intro y hy;cases h:Lu n.1
  .unfold Lu at h;cases h1:x8 n.1 14<;>cases h2:x8 n.1 15<;>cases h3:x8 n.1 16<;>simp only[h1,h2,h3,o7,o6]at h<;>first|exact absurd h U9|rfl
  .rw[B_ (hr.r h)];simp only[o8];rw[mP _ o5,o8];unfold Lu at h;cases h1:x8 n.1 14<;>cases h2:x8 n.1 15<;>cases h3:x8 n.1 16<;>simp only[h1,h2,h3,o7,o6]at h<;>first|exact absurd h U9|rfl
 refine U8 (s4 ((e,N),B++ts) F5) ?_;rw[o8];simp only;generalize hD:l7 (Lu n.1) (B++ts++[vT n.2]) (B++ts)=D;have lD:D.length<=6:=by rw[←hD];cases Lu n.1<;>simp[l7]<;>omega
 have mD:∀s∈D,s.length<=1000000:=by
  rw[←hD];intro s hs;have hm:=Ah n.2;cases h:Lu n.1
  .rw[h]at hs;simp[l7]at hs;rcases hs with hs|hs
   .have:=mB s hs;omega
   .exact hts s hs
  .rw[h]at hs;simp[l7]at hs;rcases hs with hs|hs|hs
   .have:=mB s hs;omega
   .exact hts s hs
   .rw[hs];omega
 have jn:∀(l:List (List UInt8)),l.length<=10->(∀s∈l,s.length<=1000000)->aO (λ(x_2:List UInt8×Int)=>
          l7 (G5 x_2.2 (o9 l))
           (l7 (G5 0 x_2.2)
            (l9 (J8 x_2.1 [44,32]) λ(x_3:List UInt8)=>
             l9 (J4 l x_2.2) λ(x_4:List UInt8)=>
              l9 (Y5 l (X4 x_2.2)) λ(x:List UInt8)=>
               l9 (J8 x_3 x) λ(x:List UInt8)=>some (Sum.inl (x,D8 IntKind.i64 x_2.2 1)))
            (l9 (J4 l x_2.2) λ(x_3:List UInt8)=>
             l9 (Y5 l (X4 x_2.2)) λ(x:List UInt8)=>
              l9 (J8 x_2.1 x) λ(x:List UInt8)=>some (Sum.inl (x,D8 IntKind.i64 x_2.2 1))))
           (some (Sum.inr x_2.1)))
         ([],0)=some (Ju l):=by
  intro l hl hb;refine a9Q hl hb (λt i a hx=>?_) (λt=>?_)
  .have hlt:=(aK.1 hx).1;simp only[P6 hx,o7,L9,Y5,X4,az,hx,o8];rw[eY o5]
  .simp only[P5 l,o6]
 cases h34:x8 n.1 34
 .simp only[o6];refine U8 (jn D o5 mD) ?_;rw[o8,hB,hD]
 .simp only[o7];rw[B_ (hr.b (kX.1 h34)).2,o8,mP _ o5,o8];have hm:=Ah (fU n.2 8);refine U8 (jn (D++[vT (fU n.2 8)]) F5 (λs hs=>?_)) ?_
  .simp at hs;rcases hs with hs|hs
   .exact mD s hs
   .rw[hs];omega
  .rw[o8,hB,hD]
theorem SS(hf:X9 n N=l7 (G5 n.2 0) (some 6) (l7 (O7 (o9 l) n.2) (some 6) (some 0)))(h:flS n N=0):J4 l n.2=some (gtN l n.2):=by
 unfold flS at h;rw[hf]at h;by_cases h0:n.2<0
 .rw[dP h0]at h;cases h
 by_cases h1:o9 l<=n.2
 .rw[bU o5,bP h1]at h;cases h
 exact(Na o5 o5).1
theorem a9J(hm:I64 m)(h:flS (34,m) N=0):J4 N.2.1 (aY .i64 m 8)=some (gtN N.2.1 (aY .i64 m 8))/\0<=fU m 8/\fU m 8<=5:=by
 have hf:X9 (34,m) N=l7 (G5 m 0) (some 6) (l7 (O7 (o9 N.2.1) (aY .i64 m 8)) (some 6) (l7 (G5 5 (fU m 8)) (some 3) (some 0))):=rfl;unfold flS at h;rw[hf]at h;by_cases h0:m<0
 .rw[dP h0]at h;cases h
 by_cases h1:o9 N.2.1<=aY .i64 m 8
 .rw[bU o5,bP h1]at h;cases h
 by_cases h2:5<fU m 8
 .rw[bU o5,dE o5,dP h2]at h;cases h
 have hq:aY .i64 m 8=m / 8:=by rw[Tf hm 8 (.inl rfl),mY o5]
 have hr0:fU m 8=m % 8:=CU o5;exact⟨(Na o5 o5).1,o5,o5⟩
theorem b2a(hk:k=14\/k=15\/k=16)(h:flS (k,m) N=0):0<=m/\m<=5:=by
 have hf:X9 (k,m) N=l7 (G5 m 0) (some 3) (l7 (G5 5 m) (some 3) (some 0)):=by rcases hk with rfl|rfl|rfl<;>rfl
 unfold flS at h;rw[hf]at h;by_cases h0:m<0
 .rw[dP h0]at h;cases h
 by_cases h2:5<m
 .rw[bU o5,dP h2]at h;cases h
 omega
theorem a6X(hm:I64 n.2)(h:flS n N=0)(ha:0<=arF n.1):Ref11 n N:=by
 obtain⟨k,m⟩:=n;refine⟨λh1=>?_,λh1=>?_,λh1=>?_,λh1=>?_⟩
 .simp only at h1;subst h1;exact a9J hm h
 .simp only at h1;subst h1;exact SS rfl h
 .rcases arN k with h2|h2
  .have:k=36\/k=37\/k=38\/k=39:=by simp only at h1;omega
   rcases this with rfl|rfl|rfl|rfl<;>exact SS rfl h
  .simp only at ha;omega
 .refine b2a (k:=k) ?_ h;unfold Lu at h1;by_cases g1:k=14
  .exact .inl g1
  by_cases g2:k=15
  .exact .inr (.inl g2)
  rw[O9 g1,O9 g2,o6,o6]at h1;exact .inr (.inr (kX.1 h1))
theorem xP{j:Nat}{ops:List Int}{ts:List (List UInt8)}(hx:J4 e i=some (k,m))(ho:uC e i=some ops)(hm:I64 m)(hfl:flS (k,m) N=0)(ha:0<=arF k)(hN:NmOk N)
  (hk:dn (k,m)=some ((0,0,0),false)/\eU k=some ([],0)/\k≠6/\k≠7/\k≠8/\k≠9/\k≠10/\k≠25/\k≠26)
  (hlen:ops.length=ts.length) (h3:ts.length<=3) (hts:∀s∈ts,s.length<=1000000) (hj:(Ju (Su (k,m) N ts)).length<=100000000)
  (hc:∀(a:Nat) (o:Int) (s:List UInt8),ops[a]? =some o->ts[a]? =some s->(D5 j).2.2 (e,N) o 0=some (s,(e,N))):
  (D5 (j+2)).1 (e,N) i=some (tY k++[40]++Ju (Su (k,m) N ts)++[41],7,(e,N)):=by
 obtain⟨h1,h2,g6,g7,g8,g9,g10,g25,g26⟩:=hk;have hw:=sS k;rw[Md];unfold ae;simp only[hx,ho,h1,h2,o8,o6,show seq ([]:List UInt8) []=true from rfl,J7,O9 g6,O9 g7,O9 g8,O9 g9,O9 g10,O9 g25,O9 g26,a9z];rw[F8 F5,o8,a3U (a6X hm hfl ha) hN hlen h3 hts hc,o8,F8 F5,o8,F8 F5,o8]
theorem Xc(a:List UInt8):Ju [a]=a:=by simp[Ju,Xd,G5,l7]
theorem a2X(a b:List UInt8):Ju [a,b]=a++[44,32]++b:=by simp[Ju,Xd,G5,l7]
theorem a2Y(a b c:List UInt8):Ju [a,b,c]=a++[44,32]++b++[44,32]++c:=by simp[Ju,Xd,G5,l7]
end Go.GP
namespace Go.GP
open Gt
set_option maxRecDepth 100000
variable {α:Type}
theorem lg0(a:α)(l:List α):Y5 (a::l) (X4 0)=some a:=rfl
theorem lg1(a b:α)(l:List α):Y5 (a::b::l) (X4 1)=some b:=rfl
theorem lg2(a b c:α)(l:List α):Y5 (a::b::c::l) (X4 2)=some c:=rfl
theorem hc0{P:Nat->Int->List UInt8->Prop} :∀(a:Nat) (o:Int) (s:List UInt8),([]:List Int)[a]? =some o->([]:List (List UInt8))[a]? =some s->P a o s:=by intro a o s h;cases a<;>cases h
theorem hc1{x:Int}{y:List UInt8}{P:Int->List UInt8->Prop}(h0:P x y):∀(a:Nat) (o:Int) (s:List UInt8),[x][a]? =some o->[y][a]? =some s->P o s:=by
 intro a o s h1 h2;match a with
 |0=>cases h1;cases h2;exact h0|a+1=>simp at h1
theorem hc2{x x' :Int}{y y' :List UInt8}{P:Int->List UInt8->Prop}(h0:P x y)(h1:P x' y'):∀(a:Nat) (o:Int) (s:List UInt8),[x,x'][a]? =some o->[y,y'][a]? =some s->P o s:=by
 intro a o s g1 g2;match a with
 |0=>cases g1;cases g2;exact h0|1=>cases g1;cases g2;exact h1|a+2=>simp at g1
section
variable {e:List (Int×Int)} {N:F9} {T:XT} (hN:NmOk N) (hT:jV e= .inr T) (hI:∀n∈e,I64 n.2) (hz:∀n∈e,flS n N=0)
include hN hT hI hz
theorem a6T(n:Int×Int)(o k:Nat)(h:At e (T.sts 0) (.l0 n) o)(hw:(XT.l0 n).wf):(D5 (k+2)).1 (e,N) (rtI (.l0 n) o:Int)=some ((mV n N).1,(mV n N).2,(e,N)):=by
 have hr:=uT h;have ho:=Bv hT h hw;have hx:J4 e ((rtI (.l0 n) o:Nat):Int)=some n:=by rw[L9];exact hr.1
 have hmem:=rH hr.1;have hi:=hI n hmem;have hf:=hz n hmem;rw[show a4E (.l0 n) o=[]from rfl]at ho;generalize ((rtI (.l0 n) o:Nat):Int)=i at hx ho;obtain⟨op,m⟩:=n;have ha:arF op=0:=hw;have lit:∀k:Nat,(op=1\/op=2\/op=3\/op=4\/op=5)->(D5 (k+2)).1 (e,N) i=some ((mV (op,m) N).1,(mV (op,m) N).2,(e,N)):=by intro k hk;obtain⟨t,ht,-⟩:=wZ (B:=100) o5 o5 (v:=(op,0,m)) (en:=[]) hi (λe h=>by cases h);rw[wY [] hi]at ht;rw[Md];unfold ae dn mV;simp only[hx,ho,o8,bP (show(1:Int)<=op by omega),bP (show op<=(5:Int) by omega),o7,ht,dM];cases G5 m 0<;>rfl
 have lst:∀k:Nat,(op=36\/op=37\/op=38\/op=39)->(D5 (k+2)).1 (e,N) i=some ((mV (op,m) N).1,(mV (op,m) N).2,(e,N)):=by
  intro k hk;have e1:Su (op,m) N []=[gtN N.2.2.2.2 m]:=by rcases hk with rfl|rfl|rfl|rfl<;>rfl
  have e2:mV (op,m) N=(tY op++[40]++gtN N.2.2.2.2 m++[41],7):=by rcases hk with rfl|rfl|rfl|rfl<;>rfl
  have:=xP (j:=k) hx ho hi hf o5 hN (ops:=[]) (ts:=[]) (by rcases hk with rfl|rfl|rfl|rfl<;>exact⟨rfl,rfl,o5,o5,o5,o5,o5,o5,o5⟩) rfl A8 A8 (by rw[e1,Xc];have:=zA hN.m m;omega) hc0
  rw[this,e1,Xc,e2]
 rcases ar0 ha with rfl|rfl|rfl|rfl|rfl|rfl|rfl|rfl|rfl|rfl|rfl|rfl|rfl|rfl
 .exact lit k o5
 .exact lit k o5
 .exact lit k o5
 .exact lit k o5
 .exact lit k o5
 ·
  have hff:X9 (6,m) N=(l7 (G5 m 0) (some 6)
    (l7 (O7 (o9 N.1) (aY .i64 m 16)) (some 6)
     (l9 (J4 N.1 (aY .i64 m 16)) λ(x:dh)=>
      l7 (O7 (o9 x.2) (fU m 16)) (some 6) (some 0)))):=rfl
  unfold flS at hf;rw[hff]at hf;by_cases h0:m<0
  .rw[dP h0]at hf;cases hf
  by_cases h1:o9 N.1<=aY .i64 m 16
  .rw[bU o5,bP h1]at hf;cases hf
  have hq:0<=aY .i64 m 16:=by rw[Tf hi 16 (.inr rfl),mY o5];omega
  have hr0:fU m 16=m % 16:=CU o5;obtain⟨en,he,hmem⟩:=tC (l:=N.1) hq o5;have hb:=hN.e en hmem;rw[bU o5,dE o5,o6,o6,he,o8]at hf;by_cases h2:o9 en.2<=fU m 16
  .rw[bP h2]at hf;cases hf
  have hg:=Na (l:=en.2) (i:=fU m 16) o5 o5;have h3:=hb.2 _ hg.2;rw[Md];unfold ae mV;simp (disch:=decide) only[hx,ho,o8,show dn (6,m)=some ((0,0,0),false)from rfl,show eU 6=some ([],0)from rfl,o6,show seq ([]:List UInt8) []=true from rfl,J7,bF,dE,o7,he,hg.1,dM];rw[F8 F5,o8,F8 F5,o8]
 .rw[Md];unfold ae mV nU;simp (disch:=decide) only[hx,ho,o8,show dn (7,m)=some ((0,0,0),false)from rfl,show eU 7=some ([],0)from rfl,o6,show seq ([]:List UInt8) []=true from rfl,J7,bF,O9,dE,o7,SS (n:=(7,m)) (l:=N.2.2.1) rfl hf]
 .rw[Md];unfold ae mV nU;simp (disch:=decide) only[hx,ho,o8,show dn (8,m)=some ((0,0,0),false)from rfl,show eU 8=some ([],0)from rfl,o6,show seq ([]:List UInt8) []=true from rfl,J7,bF,O9,dE,o7,SS (n:=(8,m)) (l:=N.2.2.2.1) rfl hf]
 .rw[Md];unfold ae mV;simp (disch:=decide) only[hx,ho,o8,show dn (9,m)=some ((0,0,0),false)from rfl,show eU 9=some ([],0)from rfl,o6,show seq ([]:List UInt8) []=true from rfl,J7,bF,O9,dE,o7]
 .have:=xP (j:=k) hx ho hi hf o5 hN (ops:=[]) (ts:=[]) ⟨rfl,rfl,o5,o5,o5,o5,o5,o5,o5⟩ rfl A8 A8 (by rw[show Su (35,m) N []=[]from rfl];decide) hc0;rw[this];rfl
 .exact lst k o5
 .exact lst k o5
 .exact lst k o5
 .exact lst k o5
theorem b0o(n:Int×Int)(a:XT)(o k:Nat)(h:At e (T.sts 0) (.l1 n a) o)(hw:(XT.l1 n a).wf)(hla:(lM N a).1.length<=1000000)
  (ia:∀q,k<=q->(D5 q).1 (e,N) (rtI a o:Int)=some ((lM N a).1,(lM N a).2,(e,N))):(D5 (k+3)).1 (e,N) (rtI (.l1 n a) o:Int)=some ((Fe n N (IW a.node.1) (lM N a)).1,(Fe n N (IW a.node.1) (lM N a)).2,(e,N)):=by
 have hr:=uT h;have hra:=uT (a2F h);have ho:=Bv hT h hw;have hx:J4 e ((rtI (.l1 n a) o:Nat):Int)=some n:=by rw[L9];exact hr.1
 have hxa:J4 e ((rtI a o:Nat):Int)=some a.node:=by rw[L9];exact hra.1
 have hmem:=rH hr.1;have hi:=hI n hmem;have hf:=hz n hmem;rw[show a4E (.l1 n a) o=[((rtI a o:Nat):Int)]from rfl]at ho;generalize ((rtI (.l1 n a) o:Nat):Int)=i at hx ho;obtain⟨op,m⟩:=n;have ha:arF op=1:=hw.1;have w0:(D5 (k+1)).2.2 (e,N) ((rtI a o:Nat):Int) 0=some ((lM N a).1,(e,N)):=by rw[rW 0 (ia k o5) hla,wi0 (QI N a)]
 have w6:(D5 (k+2)).2.2 (e,N) ((rtI a o:Nat):Int) 6=some (wiS (lM N a) 6,(e,N)):=rW 6 (ia (k+1) o5) hla;have n6:=ia (k+2) o5;generalize ((rtI a o:Nat):Int)=j at hxa ho w0 w6 n6;have hwl:=DI (lM N a) 6;have hml:=Ah (fU m 8);have gl1:=zA hN.t m;have gl2:=zA hN.t (aY .i64 m 8);rcases ar1 ha with rfl|rfl|rfl|rfl|rfl|rfl
 .rw[Md];unfold ae Fe IW;simp (disch:=decide) only[hx,ho,o8,show dn (10,m)=some ((0,0,0),false)from rfl,show eU 10=some ([],0)from rfl,o6,show seq ([]:List UInt8) []=true from rfl,J7,bF,O9,o7,lx0,lg0,hxa,n6,w6];rw[F8 F5,o8,F8 F5,o8,F8 F5,o8];cases x8 a.node.1 2
  .cases x8 a.node.1 3
   .cases x8 a.node.1 4<;>simp[l7]
   .simp[l7]
  .simp[l7]
 .rw[Md];unfold ae Fe;simp (disch:=decide) only[hx,ho,o8,show dn (25,m)=some ((0,0,0),false)from rfl,show eU 25=some ([],0)from rfl,o6,show seq ([]:List UInt8) []=true from rfl,J7,bF,O9,o7,lx0,lg0,w6];rw[F8 F5,o8]
 .have e1:Su (31,m) N [(lM N a).1]=[(lM N a).1]:=rfl;rw[xP (j:=k+1) hx ho hi hf o5 hN (ts:=[(lM N a).1]) ⟨rfl,rfl,o5,o5,o5,o5,o5,o5,o5⟩ rfl A8 (by simpa using hla) (by rw[e1,Xc];omega) (hc1 w0),e1,Xc];rfl
 .have e1:Su (32,m) N [(lM N a).1]=[(lM N a).1]:=rfl;rw[xP (j:=k+1) hx ho hi hf o5 hN (ts:=[(lM N a).1]) ⟨rfl,rfl,o5,o5,o5,o5,o5,o5,o5⟩ rfl A8 (by simpa using hla) (by rw[e1,Xc];omega) (hc1 w0),e1,Xc];rfl
 .have e1:Su (33,m) N [(lM N a).1]=[gtN N.2.1 m,(lM N a).1]:=rfl;rw[xP (j:=k+1) hx ho hi hf o5 hN (ts:=[(lM N a).1]) ⟨rfl,rfl,o5,o5,o5,o5,o5,o5,o5⟩ rfl A8 (by simpa using hla) (by rw[e1,a2X];simp;omega) (hc1 w0),e1,a2X];simp[Fe,x8,l7]
 .have e1:Su (34,m) N [(lM N a).1]=[gtN N.2.1 (aY .i64 m 8),(lM N a).1,vT (fU m 8)]:=rfl;rw[xP (j:=k+1) hx ho hi hf o5 hN (ts:=[(lM N a).1]) ⟨rfl,rfl,o5,o5,o5,o5,o5,o5,o5⟩ rfl A8 (by simpa using hla) (by rw[e1,a2Y];simp;omega) (hc1 w0),e1,a2Y];simp[Fe,x8,l7]
theorem b0p(n:Int×Int)(a b:XT)(o k:Nat)(h:At e (T.sts 0) (.l2 n a b) o)(hw:(XT.l2 n a b).wf)(hla:(lM N a).1.length<=1000000)(hlb:(lM N b).1.length<=1000000)
  (ia:∀q,k<=q->(D5 q).1 (e,N) (rtI a o:Int)=some ((lM N a).1,(lM N a).2,(e,N))) (ib:∀q,k<=q->(D5 q).1 (e,N) (rtI b (o+a.size):Int)=some ((lM N b).1,(lM N b).2,(e,N))):
  (D5 (k+3)).1 (e,N) (rtI (.l2 n a b) o:Int)=some ((Kz n (lM N a) (lM N b)).1,(Kz n (lM N a) (lM N b)).2,(e,N)):=by
 have hr:=uT h;have ho:=Bv hT h hw;have hx:J4 e ((rtI (.l2 n a b) o:Nat):Int)=some n:=by rw[L9];exact hr.1
 have hmem:=rH hr.1;have hi:=hI n hmem;have hf:=hz n hmem;rw[show a4E (.l2 n a b) o=[((rtI a o:Nat):Int),((rtI b (o+a.size):Nat):Int)]from rfl]at ho;generalize ((rtI (.l2 n a b) o:Nat):Int)=i at hx ho;obtain⟨op,m⟩:=n;have ha:arF op=2:=hw.1;have w0:(D5 (k+1)).2.2 (e,N) ((rtI a o:Nat):Int) 0=some ((lM N a).1,(e,N)):=by rw[rW 0 (ia k o5) hla,wi0 (QI N a)]
 have w1:(D5 (k+1)).2.2 (e,N) ((rtI b (o+a.size):Nat):Int) 0=some ((lM N b).1,(e,N)):=by rw[rW 0 (ib k o5) hlb,wi0 (QI N b)]
 have u1:∀c,(D5 (k+2)).2.2 (e,N) ((rtI a o:Nat):Int) c=some (wiS (lM N a) c,(e,N)):=λc=>rW c (ia (k+1) o5) hla;have u2:∀c,(D5 (k+2)).2.2 (e,N) ((rtI b (o+a.size):Nat):Int) c=some (wiS (lM N b) c,(e,N)):=λc=>rW c (ib (k+1) o5) hlb;generalize ((rtI a o:Nat):Int)=j at ho w0 u1;generalize ((rtI b (o+a.size):Nat):Int)=j' at ho w1 u2;have hml:=Ah m;by_cases h1:op=17\/op=18\/op=27\/op=28\/op=29\/op=30
 .have e1:Su (op,m) N [(lM N a).1,(lM N b).1]=[(lM N a).1,(lM N b).1]:=by rcases h1 with rfl|rfl|rfl|rfl|rfl|rfl<;>rfl
  have e2:Kz (op,m) (lM N a) (lM N b)=(tY op++[40]++(lM N a).1++[44,32]++(lM N b).1++[41],7):=by rcases h1 with rfl|rfl|rfl|rfl|rfl|rfl<;>rfl
  rw[xP (j:=k+1) hx ho hi hf o5 hN (ts:=[(lM N a).1,(lM N b).1]) (by rcases h1 with rfl|rfl|rfl|rfl|rfl|rfl<;>exact⟨rfl,rfl,o5,o5,o5,o5,o5,o5,o5⟩) rfl A8 (by simp;exact⟨hla,hlb⟩) (by rw[e1,a2X];simp;omega) (hc2 w0 w1),e1,a2X,e2];simp
 by_cases h2:op=14\/op=15\/op=16
 .have e1:Su (op,m) N [(lM N a).1,(lM N b).1]=[(lM N a).1,(lM N b).1,vT m]:=by rcases h2 with rfl|rfl|rfl<;>rfl
  have e2:Kz (op,m) (lM N a) (lM N b)=(tY op++[40]++(lM N a).1++[44,32]++(lM N b).1++[44,32]++vT m++[41],7):=by rcases h2 with rfl|rfl|rfl<;>rfl
  rw[xP (j:=k+1) hx ho hi hf o5 hN (ts:=[(lM N a).1,(lM N b).1]) (by rcases h2 with rfl|rfl|rfl<;>exact⟨rfl,rfl,o5,o5,o5,o5,o5,o5,o5⟩) rfl A8 (by simp;exact⟨hla,hlb⟩) (by rw[e1,a2Y];simp;omega) (hc2 w0 w1),e1,a2Y,e2];simp
 have hk:op=11\/op=12\/op=13\/op=19\/op=20\/op=21\/op=22\/op=23\/op=24:=by have:=ar2 ha;omega
 have hl:=YX op;have hc:1<=(zi op).2/\(zi op).2<=5:=by rcases hk with rfl|rfl|rfl|rfl|rfl|rfl|rfl|rfl|rfl<;>decide
 have hs:seq (zi op).1 []=false:=by rcases hk with rfl|rfl|rfl|rfl|rfl|rfl|rfl|rfl|rfl<;>rfl
 have hlit:dn (op,m)=some ((0,0,0),false):=by rcases hk with rfl|rfl|rfl|rfl|rfl|rfl|rfl|rfl|rfl<;>rfl
 have hb:a0z op=false/\Lu op=false:=by rcases hk with rfl|rfl|rfl|rfl|rfl|rfl|rfl|rfl|rfl<;>exact⟨rfl,rfl⟩
 have v1:=DI (lM N a) 4;have v2:=DI (lM N a) (zi op).2;have v3:=DI (lM N b) ((zi op).2+1);rw[Md];unfold ae Kz;simp only[hx,ho,o8,hlit,a9r,hs,o6,o7,af,lx0,lg0,lx1,lg1,u1,u2,kC (show I64 ((zi op).2+1) by unfold I64;omega),hb.1,hb.2];cases x8 (zi op).2 3
 .simp only[o6];rw[F8 F5,o8,F8 F5,o8,F8 F5,o8,F8 F5,o8]
 .simp only[o7];rw[F8 F5,o8,F8 F5,o8,F8 F5,o8,F8 F5,o8]
theorem b2q(n:Int×Int)(a b c:XT)(o k:Nat)(h:At e (T.sts 0) (.l3 n a b c) o)(hw:(XT.l3 n a b c).wf)(hla:(lM N a).1.length<=1000000)(hlb:(lM N b).1.length<=1000000)(hlc:(lM N c).1.length<=1000000)
  (ia:∀q,k<=q->(D5 q).1 (e,N) (rtI a o:Int)=some ((lM N a).1,(lM N a).2,(e,N))) (ib:∀q,k<=q->(D5 q).1 (e,N) (rtI b (o+a.size):Int)=some ((lM N b).1,(lM N b).2,(e,N)))
  (ic:∀q,k<=q->(D5 q).1 (e,N) (rtI c (o+a.size+b.size):Int)=some ((lM N c).1,(lM N c).2,(e,N))):
  (D5 (k+3)).1 (e,N) (rtI (.l3 n a b c) o:Int)=some ((ifX (lM N a) (lM N b) (lM N c)).1,(ifX (lM N a) (lM N b) (lM N c)).2,(e,N)):=by
 have hr:=uT h;have ho:=Bv hT h hw;have hx:J4 e ((rtI (.l3 n a b c) o:Nat):Int)=some n:=by rw[L9];exact hr.1
 rw[show a4E (.l3 n a b c) o=[((rtI a o:Nat):Int),((rtI b (o+a.size):Nat):Int),((rtI c (o+a.size+b.size):Nat):Int)]from rfl]at ho;generalize ((rtI (.l3 n a b c) o:Nat):Int)=i at hx ho;obtain⟨op,m⟩:=n;have ha:op=26:=ar3 hw.1;subst ha;have u1:(D5 (k+2)).2.2 (e,N) ((rtI a o:Nat):Int) 0=some ((lM N a).1,(e,N)):=by rw[rW 0 (ia (k+1) o5) hla,wi0 (QI N a)]
 have u2:(D5 (k+2)).2.2 (e,N) ((rtI b (o+a.size):Nat):Int) 0=some ((lM N b).1,(e,N)):=by rw[rW 0 (ib (k+1) o5) hlb,wi0 (QI N b)]
 have u3:(D5 (k+2)).2.2 (e,N) ((rtI c (o+a.size+b.size):Nat):Int) 0=some ((lM N c).1,(e,N)):=by rw[rW 0 (ic (k+1) o5) hlc,wi0 (QI N c)]
 rw[Md];unfold ae ifX;simp (disch:=decide) only[hx,ho,o8,show dn (26,m)=some ((0,0,0),false)from rfl,show eU 26=some ([],0)from rfl,o6,show seq ([]:List UInt8) []=true from rfl,J7,bF,O9,o7,lx0,lg0,lx1,lg1,lx2,lg2,u1,u2,u3];rw[F8 F5,o8,F8 F5,o8,F8 F5,o8,F8 F5,o8,F8 F5,o8]
theorem a6U:∀(t:XT) (o k:Nat),At e (T.sts 0) t o->t.wf->3*t.size<=k->(D5 k).1 (e,N) (rtI t o:Int)=some ((lM N t).1,(lM N t).2,(e,N)):=by
 have h48:=(rq hT).2;have hlen:∀(t:XT) (o:Nat),At e (T.sts 0) t o->(lM N t).1.length<=1000000:=by
  intro t o h;obtain⟨p,s,S1,S2,h1,-,-,-⟩:=h;have hl:=yZ hN t (λn hn=>hI n (by rw[h1];simp[hn]));have:t.size<=e.length:=by rw[←t.post_len,h1];simp;omega
  omega
 intro t;induction t with
 |l0 n=>intro o k h hw hk;simp only[XT.size]at hk;obtain⟨k,rfl⟩:∃m,k=m+2:=⟨k -2,o5⟩;exact a6T hN hT hI hz n o k h hw
 |l1 n a iha=>intro o k h hw hk;simp only[XT.size]at hk;obtain⟨k,rfl⟩:∃m,k=m+3:=⟨k -3,o5⟩;exact b0o hN hT hI hz n a o k h hw (hlen a o (a2F h)) (λq hq=>iha o q (a2F h) hw.2 o5)
 |l2 n a b iha ihb=>intro o k h hw hk;simp only[XT.size]at hk;obtain⟨k,rfl⟩:∃m,k=m+3:=⟨k -3,o5⟩;exact b0p hN hT hI hz n a b o k h hw (hlen a o (WJ h).1) (hlen b _ (WJ h).2) (λq hq=>iha o q (WJ h).1 hw.2.1 o5) (λq hq=>ihb _ q (WJ h).2 hw.2.2 o5)
 |l3 n a b c iha ihb ihc=>intro o k h hw hk;simp only[XT.size]at hk;obtain⟨k,rfl⟩:∃m,k=m+3:=⟨k -3,o5⟩;exact b2q hN hT hI hz n a b c o k h hw (hlen a o (NK h).1) (hlen b _ (NK h).2.1) (hlen c _ (NK h).2.2) (λq hq=>iha o q (NK h).1 hw.2.1 o5) (λq hq=>ihb _ q (NK h).2.1 hw.2.2.1 o5) (λq hq=>ihc _ q (NK h).2.2 hw.2.2.2 o5)
end
end Go.GP
namespace Go.GP
open Gt
set_option maxRecDepth 100000
variable {N:F9}
theorem b2b{n:Int×Int}(hN:NmOk N)(hI:I64 n.2)(ha:0<=arF n.1):X9 n N=some (flS n N):=by
 obtain⟨k,m⟩:=n;have fin:∀{args:List I4} {x:Tx},DK (k,m) args N x->X9 (k,m) N=some (flS (k,m) N):=by rintro args x ⟨c,h1,-⟩;rw[Ya h1];exact h1
 by_cases h0:m=0\/bD k=some true
 .have h3:arF k=0\/arF k=1\/arF k=2\/arF k=3:=by have:=(FC k).2.2;simp only at ha;omega
  rcases h3 with h|h|h|h
  .exact fin (a3w hN hI h h0)
  .exact fin (a3x hN hI h h0 ([],0,false) A8)
  .exact fin (a3y h h0 ([],0,false) ([],0,false) A8 A8)
  .have:=ar3 h;subst this;exact fin (a3z h0 ([],0,false) ([],0,false) ([],0,false) A8 A8 A8)
 .have h1:m≠0:=λh=>h0 (.inl h);have h2:bD k=some false:=(a3J ha).resolve_left λh=>h0 (.inr h);have:=b1y (N:=N) ha h1 h2;rw[Ya this];exact this
theorem Io:∀(t:XT),t.wf->∀n∈t.post,0<=arF n.1
 | .l0 n,h,m,hm=>by simp[XT.post]at hm;rw[hm];rw[show arF n.1=0 from h];decide| .l1 n a,h,m,hm=>by
  simp[XT.post]at hm;rcases hm with hm|hm
  .exact Io a h.2 m hm
  .rw[hm,h.1];decide
 | .l2 n a b,h,m,hm=>by
  simp[XT.post]at hm;rcases hm with hm|hm|hm
  .exact Io a h.2.1 m hm
  .exact Io b h.2.2 m hm
  .rw[hm,h.1];decide
 | .l3 n a b c,h,m,hm=>by
  simp[XT.post]at hm;rcases hm with hm|hm|hm|hm
  .exact Io a h.2.1 m hm
  .exact Io b h.2.2.1 m hm
  .exact Io c h.2.2.2 m hm
  .rw[hm,h.1];decide
theorem a2N{N:F9} :∀{l:List (Int×Int)},ffS N l=0->∀n∈l,flS n N=0
 |[],_,n,h=>by cases h|a::l,h,n,hn=>by
  unfold ffS at h;cases hf:x8 (flS a N) 0
  .rw[hf]at h;rw[o6]at h;exact absurd h (CQ.1 hf)
  .rw[hf]at h;rw[o7]at h;rcases D6.1 hn with rfl|hn
   .exact kX.1 hf
   .exact a2N h n hn
theorem A_(e:List (Int×Int))(he:e.length<=1000)(hf:∀n∈e,X9 n N=some (flS n N)):
  O6 (λ(x:Int)=>
     l7 (G5 x (o9 e))
      (l9 (J4 e x) λ(x_1:xB)=>
       l9 (X9 x_1 N) λ(x_2:Int)=>
        l7 (D9 (x8 x_2 0)) (some (Out.rt (([]:List UInt8),x_2))) (some (Out.nx (D8 IntKind.i64 x 1))))
      (some (Out.ex PUnit.unit))) 0=some (l7 (x8 (ffS N e) 0) (.inl PUnit.unit) (.inr ([],ffS N e))):=by
 have key:∀(l pre:List (Int×Int)) (k:Nat),e=pre++l->l.length<k->
   jO (λ(x:Int)=>
     l7 (G5 x (o9 e))
      (l9 (J4 e x) λ(x_1:xB)=>
       l9 (X9 x_1 N) λ(x_2:Int)=>
        l7 (D9 (x8 x_2 0)) (some (Out.rt (([]:List UInt8),x_2))) (some (Out.nx (D8 IntKind.i64 x 1))))
      (some (Out.ex PUnit.unit))) k (pre.length:Int)=some (l7 (x8 (ffS N l) 0) (.inl PUnit.unit) (.inr ([],ffS N l))):=by
  intro l;induction l with
  |nil=>intro pre k h hk;obtain⟨k,rfl⟩:∃k',k=k' +1:=⟨k -1,by simp at hk;omega⟩;rw[Hf];rw[H6]at h;rw[←h,P5];rfl
  |cons n l ih=>
   intro pre k h hk;obtain⟨k,rfl⟩:∃k',k=k' +1:=⟨k -1,by simp at hk;omega⟩;have hn:e[pre.length]? =some n:=by rw[h,I8 (E9 _),gQ];rfl
   have hlt:=(aK.1 hn).1;rw[Hf];simp only[P6 hn,o7,L9,hn,o8,hf n (rH hn)];unfold ffS;cases hg:x8 (flS n N) 0
   .simp only[af,o7,o6,hg]
   .simp only[J7,o7,o6];have:=ih (pre++[n]) k (by rw[h];simp) (by simp at hk;omega);rw[show(((pre++[n]).length:Nat):Int)=D8 .i64 (pre.length:Int) 1 by rw[eY o5];simp]at this;exact this
 have:=key e [] jg rfl (by unfold jg;omega);exact this
theorem a3A{e:List (Int×Int)}(hN:NmOk N)(hI:∀n∈e,I64 n.2):vC e N=some (Lr e N):=by
 unfold vC Hy Lr;rw[Ff];unfold tX;cases h:jV e with
 |inl x=>simp only[o8,O9 (Ap h)];rfl|inr t=>
  obtain⟨h1,h2,h3,h4⟩:=Zm h;obtain⟨hp,-⟩:=rq h;simp only[o8,bF (rfl:(0:Int)=0),J7,o6];have hw:=QF h;refine U8 (A_ e o5 (λn hn=>b2b hN (hI n hn) (Io t hw n (by rw[←hp];exact hn)))) ?_;rw[o8];cases hf:x8 (ffS N e) 0
  .rfl
  .simp only[o7,X0];rw[h4,show xu (e,N) ((rtI t 0:Nat):Int)=some ((lM N t).1,(lM N t).2,(e,N))from a6U hN h hI (a2N (kX.1 hf)) t 0 jg h1 hw (by unfold jg;omega)]<;>rfl
theorem SV{e:List (Int×Int)}(hN:NmOk N)(hI:∀n∈e,I64 n.2):(Lr e N).1.length<=150000:=by
 unfold Lr;cases h:jV e with
 |inl x=>simp|inr t=>
  obtain⟨hp,h48⟩:=rq h;have:=yZ hN t (by rw[←hp];exact hI);rw[←t.post_len,←hp]at this;simp only;cases x8 (ffS N e) 0
  .simp[l7]
  .simp only[o7];omega
end Go.GP
