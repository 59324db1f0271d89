import Derived.Test.YtaohichhnkhobaaGreatDoorU5
import Derived.Test.YtaohichhnkhobaaGreatDoorU2
import Derived.Test.YtaohichhnkhobaaGreatDoorU3
set_option linter.all false
namespace Go.GP
variable {a:Int}{b:Int}{n:Int}
section
variable {α β σ ε ρ:Type}
@[simp] theorem o8 (x:α) (f:α->Option β):o5 (some x) f=f x:=rfl
@[simp] theorem c0M (f:α->Option β):o5 none f=none:=rfl
theorem lq{o:Option α}{x:α}(h:o=some x)(f:α->Option β):o5 o f=f x:=by rw[h];rfl
theorem V8{o o' :Option α}(h:o=o'){K:α->Option β}{r:Option β}(h2:o5 o' K=r):o5 o K=r:=by rw[h];exact h2
theorem gy(o:Option α):o5 o (λx=>some x)=o:=by cases o<;>rfl
@[simp] theorem o7 (x y:α):l7 true x y=x:=rfl
@[simp] theorem o6 (x y:α):l7 false x y=y:=rfl
theorem Ha{b:Bool}(h:b=true)(x y:α):l7 b x y=x:=by rw[h];rfl
theorem MI{b:Bool}(h:b=false)(x y:α):l7 b x y=y:=by rw[h];rfl
@[simp] theorem J7 (s:σ) (f:σ->α) (g:ε->α):V5 (.inl s) f g=f s:=rfl
@[simp] theorem wP (s:ε) (f:σ->α) (g:ε->α):V5 (.inr s) f g=g s:=rfl
@[simp] theorem D9:D6 true=false:=rfl
@[simp] theorem aJ:D6 false=true:=rfl
theorem U7(h:a<b):D8 a b=true:=by simp[D8,h]
theorem L8(h:b<=a):D8 a b=false:=by simp[D8];omega
theorem Y6(h:a<=b):J6 a b=true:=by simp[J6,h]
theorem Z5(h:b<a):J6 a b=false:=by simp[J6];omega
theorem O0(h:a=b):x8 a b=true:=by simp[x8,h]
theorem J8(h:a≠b):x8 a b=false:=by simp[x8,h]
theorem jX :D8 a b=true↔a<b:=by simp[D8]
theorem pO :J6 a b=true↔a<=b:=by simp[J6]
theorem Y5 :x8 a b=true↔a=b:=by simp[x8]
theorem iE :D8 a b=false↔b<=a:=by simp[D8]
theorem Gw :J6 a b=false↔b<a:=by simp[J6]
theorem AA :x8 a b=false↔a≠b:=by simp[x8]
theorem gz{a b:d5X} :seq a b=true↔a=b:=by simp[seq]
theorem NJ{a b:d5X} :seq a b=false↔a≠b:=by simp[seq]
theorem kF(h:0<=a):a.tdiv b=a / b:=Int.tdiv_eq_ediv_of_nonneg h
theorem AV(h:0<=a):eU a b=a % b:=fK h
def jw(n:Int):Prop:=-9223372036854775808<=n/\n<=9223372036854775807
theorem O5{p:Int}(h:jw p:=by unfold jw;omega):jw p:=h
def U64(n:Int):Prop:=0<=n/\n<=18446744073709551615
theorem ny(h:jw n):IntKind.wrap .i64 n=n:=by unfold jw at h;unfold IntKind.wrap;simp[IntKind.signed,IntKind.bits];omega
theorem b7r(h:U64 n):IntKind.wrap .u64 n=n:=by unfold U64 at h;unfold IntKind.wrap;simp[IntKind.signed,IntKind.bits];omega
theorem U9(h:jw (a+b)):x9 .i64 a b=a+b:=ny h
theorem U1(h:jw (a -b)):H9 .i64 a b=a -b:=ny h
theorem mM(h:jw (a*b)):Z4 .i64 a b=a*b:=ny h
theorem Dz(h:jw (a.tdiv b)):eH .i64 a b=a.tdiv b:=ny h
theorem Y_(h:(Lit.int .i64 n).wf=true):jw n:=by simp[Lit.wf,IntKind.min,IntKind.max,IntKind.signed,IntKind.bits]at h;unfold jw;omega
theorem Xe(l:List α):0<=o9 l:=by simp[o9]
theorem E8(l:List α)(i:Nat):G8 l (i:Int)=l[i]?:=by simp[G8]
theorem pV{l:List α}{i:Int}{x:α}(h:G8 l i=some x):0<=i/\i<o9 l/\x∈l/\l[i.toNat]? =some x:=by
 unfold G8 at h;split at h
 .rename_i h0;obtain⟨h1,h2⟩:=X0.1 h;refine⟨h0,by simp[o9];omega,?_,h⟩;rw[←h2];exact N7 h1
 .cases h
theorem nN{l:List α}{i:Int}(h0:0<=i)(h:i<o9 l):∃x,G8 l i=some x/\x∈l:=by
 unfold o9 at h;refine⟨l[i.toNat]'l9,?_,N7 _⟩;unfold G8
 rw[if_pos h0,fH]
theorem Ym(l:d5X)(i:Nat):sat l (i:Int)=(l[i]?).map λc=>(c.toNat:Int):=by simp[sat]
theorem MX{a b:List α}(h:a.length+b.length<=1073741824):bz a b=some (a++b):=by simp[bz,h]
theorem b7P{l:List α}{lo hi:Int}(h0:0<=lo)(h1:lo<=hi)(h2:hi<=l.length):FX l lo hi=some ((l.take hi.toNat).drop lo.toNat):=by simp[FX,h0,h1,h2]
theorem b7Q{l:List α}{hi:Int}(h1:0<=hi)(h2:hi<=l.length):FX l 0 hi=some (l.take hi.toNat):=by rw[b7P l9 h1 h2];simp
end
section
variable {σ ε ρ:Type}
theorem Xg{f:σ->Option (σ⊕ε)}(Inv:σ->Prop)(Q:ε->Prop)(meas:σ->Nat)
  (h:∀s,Inv s->(∃s',f s=some (.inl s')/\Inv s' /\meas s' <meas s)\/(∃e,f s=some (.inr e)/\Q e)):
  ∀n s,Inv s->meas s<n->∃e,uS f n s=some e/\Q e
 |0,_,_,h=>by omega|n+1,s,hi,hm=>by
  unfold uS;rcases h s hi with⟨s',e,hi',hm'⟩|⟨x,e,hx⟩
  .rw[e];exact Xg Inv Q meas h n s' hi' l9
  .rw[e];exact⟨x,rfl,hx⟩
theorem iy{f:σ->Option (σ⊕ε)}{s:σ}(Inv:σ->Prop)(Q:ε->Prop)(meas:σ->Nat)(hi:Inv s)(hm:meas s<18446744073709551616)
  (h:∀s,Inv s->(∃s',f s=some (.inl s')/\Inv s' /\meas s' <meas s)\/(∃e,f s=some (.inr e)/\Q e)):∃e,Y8 f s=some e/\Q e:=
 Xg Inv Q meas h _ s hi hm
theorem Zz{f:σ->Option (Out σ ε ρ)}(Inv:σ->Prop)(Q:ε->Prop)(Qr:ρ->Prop)(meas:σ->Nat)
  (h:∀s,Inv s->(∃s',f s=some (.nx s')/\Inv s' /\meas s' <meas s)\/(∃e,f s=some (.ex e)/\Q e)\/(∃r,f s=some (.rt r)/\Qr r)):
  ∀n s,Inv s->meas s<n->(∃e,qH f n s=some (.inl e)/\Q e)\/(∃r,qH f n s=some (.inr r)/\Qr r)
 |0,_,_,h=>by omega|n+1,s,hi,hm=>by
  unfold qH;rcases h s hi with⟨s',e,hi',hm'⟩|⟨x,e,hx⟩|⟨x,e,hx⟩
  .rw[e];exact Zz Inv Q Qr meas h n s' hi' l9
  .rw[e];exact .inl ⟨x,rfl,hx⟩
  .rw[e];exact .inr ⟨x,rfl,hx⟩
theorem xq{f:σ->Option (Out σ ε ρ)}{s:σ}(Inv:σ->Prop)(Q:ε->Prop)(Qr:ρ->Prop)(meas:σ->Nat)(hi:Inv s)(hm:meas s<18446744073709551616)
  (h:∀s,Inv s->(∃s',f s=some (.nx s')/\Inv s' /\meas s' <meas s)\/(∃e,f s=some (.ex e)/\Q e)\/(∃r,f s=some (.rt r)/\Qr r)):
  (∃e,U0 f s=some (.inl e)/\Q e)\/(∃r,U0 f s=some (.inr r)/\Qr r):=
 Zz Inv Q Qr meas h _ s hi hm
end
section
variable {α β ε ρ:Type}
open Classical in
theorem EW(l:List α)(p:Nat->α->Bool)(r:ρ)(e:ε)(f:Int->Option (Out Int ε ρ))(hl:l.length<18446744073709551616)
  (hin:∀(i:Nat) (a:α),l[i]? =some a->f (i:Int)=if p i a=true then some (.nx ((i+1:Nat):Int))else some (.rt r))
  (hend:f (l.length:Int)=some (.ex e)):
  U0 f 0=if(∀i a,l[i]? =some a->p i a=true)then some (.inl e)else some (.inr r):=by
 have key:∀(n i:Nat),i<=l.length->l.length -i<n->(∀j a,j<i->l[j]? =some a->p j a=true)->qH f n (i:Int)=if(∀i a,l[i]? =some a->p i a=true)then some (.inl e)else some (.inr r):=by
  intro n;induction n with
  |zero=>intro i _ h;omega|succ n ih=>
   intro i hi hn hp;unfold qH;by_cases h:i<l.length
   .have e' :=fH h;rw[hin i _ e'];by_cases hpi:p i l[i]=true
    .rw[if_pos hpi];exact ih (i+1) l9 l9 λj a hj ha=>by
      by_cases hji:j=i
      .subst hji;rw[e']at ha;cases ha;exact hpi
      .exact hp j a l9 ha
    .rw[if_neg hpi,if_neg];intro hall;exact hpi (hall i _ e')
   .have:i=l.length:=l9;subst this;rw[hend,if_pos];intro j a ha;exact hp j a (X0.1 ha).1 ha
 exact key _ 0 (bU _) hl λj a hj=>by omega
end
end Go.GP
namespace Go.GP
section
variable {α β α' β' σ τ ε ε' ρ ρ' :Type}
theorem JP{p:Nat->Option ρ}(n:Nat)(hn:n<18446744073709551616)(e:ε){f:Int->Option (Out Int ε ρ)}
  (h1:∀i,i<n->f (i:Int)=some (match p i with|some r=> .rt r|none=> .nx ((i+1:Nat):Int))) (h2:f (n:Int)=some (.ex e)):
  U0 f 0=some (match(List.range n).findSome? p with|some r=> .inr r|none=> .inl e):=by
 have key:∀m i,i+m=n->∀k,m<k->qH f k (i:Int)=some (match(List.range' i m).findSome? p with|some r=> .inr r|none=> .inl e):=by
  intro m;induction m with
  |zero=>intro i hi k hk;obtain⟨k,rfl⟩:∃k',k=k' +1:=⟨k -1,l9⟩;have:i=n:=l9;subst this;unfold qH;rw[h2];rfl
  |succ m ih=>
   intro i hi k hk;obtain⟨k,rfl⟩:∃k',k=k' +1:=⟨k -1,l9⟩;unfold qH;rw[h1 i l9,nY,List.findSome?_cons];cases hp:p i with
   |some r=>rfl|none=>exact ih (i+1) l9 k l9
 have:=key n 0 l9 kH hn;rw[List.range_eq_range'];exact this
end
end Go.GP
namespace Go.GP
open Gt
set_option maxRecDepth 100000
section
variable {i:Nat}
theorem Y1(h:i<=9000000000000000000):x9 .i64 (i:Int) 1=((i+1:Nat):Int):=by rw[U9 O5];omega
def VJ(c:UInt8):Bool:=decide (97<=c.toNat)&&decide (c.toNat<=122)
def Ey(c:UInt8):Bool:=VJ c || (decide (48<=c.toNat)&&decide (c.toNat<=57)) || decide (c.toNat=95)
def Om:List d5X:=wF.getD []
theorem b8r:wF=some Om:=by kernel_rfl
def Ez(s:d5X):Bool:=match s with|[]=>false|c::r=>decide (s.length<=16)&&VJ c&&s.all Ey&&!(Om.any λw=>seq s w)
theorem a1c(c:UInt8)(r:d5X):Ez (c::r)=(decide ((c::r).length<=16)&&VJ c&&(c::r).all Ey&&!(Om.any λw=>seq (c::r) w)):=rfl
theorem ZA(c:UInt8):xW (c.toNat:Int)=some (VJ c):=by
 unfold xW VJ;cases h:decide (97<=c.toNat)<;>simp only[decide_eq_true_eq,decide_eq_false_iff_not]at h
 .rw[Z5 l9];rfl
 .rw[Y6 l9];simp only[o7,ik,J6];congr 1;by_cases h2:c.toNat<=122<;>simp[h2]<;>omega
theorem a1A(c:UInt8):JW (c.toNat:Int)=some (VJ c):=ZA c
def a3W(c:UInt8):Bool:=decide (48<=c.toNat)&&decide (c.toNat<=57)
theorem a3X(c:UInt8):AX (c.toNat:Int)=some (a3W c):=by
 unfold AX a3W;cases h:decide (48<=c.toNat)<;>simp only[decide_eq_true_eq,decide_eq_false_iff_not]at h
 .rw[Z5 l9];rfl
 .rw[Y6 l9];simp only[o7,ik,J6];congr 1;by_cases h2:c.toNat<=57<;>simp[h2]<;>omega
theorem b1z(c:UInt8):PM (c.toNat:Int)=some (a3W c):=a3X c
theorem b9t(c:UInt8):x8 (c.toNat:Int) 95=decide (c.toNat=95):=by unfold x8;by_cases h:c.toNat=95<;>simp[h]<;>omega
theorem b9i(c:UInt8):Nr (c.toNat:Int)=some (Ey c):=by unfold Nr;rw[a1A,o8,b1z,b9t];unfold Ey;change _=some (VJ c || a3W c || decide (c.toNat=95));cases VJ c<;>cases a3W c<;>rfl
variable {s:d5X}
theorem a0m(h:s.length<=4611686018427387904):∃k,zX s=some k/\(k=o9 s↔s.all Ey=true):=by
 unfold zX;have:=iy (f:=λ(x:Int)=>l7 (D8 x (o9 s)) (o5 (sat s x) λx_1=>o5 (xW x_1) λx_2=>l7 x_2 (some (Sum.inl (x9 IntKind.i64 x 1)))
   (o5 (sat s x) λx_3=>o5 (AX x_3) λx_4=>l7 x_4 (some (Sum.inl (x9 IntKind.i64 x 1))) (o5 (sat s x) λx_5=>l7 (x8 x_5 95) (some (Sum.inl (x9 IntKind.i64 x 1))) (some (Sum.inr x))))) (some (Sum.inr x)))
  (s:=0) (λx=>∃i:Nat,x=i/\i<=s.length/\(s.take i).all Ey=true) (λk=>k=o9 s↔s.all Ey=true) (λx=>s.length -x.toNat) ⟨0,rfl,l9,rfl⟩ X5 ?_
 .obtain⟨k,h1,h2⟩:=this;refine⟨k,?_,h2⟩;rw[gy];exact h1
 .rintro x ⟨i,rfl,hi,hall⟩;by_cases hl:i<s.length
  .have e:=fH hl;simp only[U7 (show(i:Int)<o9 s by simp[o9];omega),o7,Ym,e,aN,o8,ZA,a3X,b9t];have hst:(s.take (i+1)).all Ey=((s.take i).all Ey&&Ey s[i]):=by rw[V6 hl,List.all_append];simp
   have hw:Ey s[i]=(VJ s[i] || a3W s[i] || decide (s[i].toNat=95)):=rfl;cases hwb:Ey s[i]with
   |true=>left;refine⟨((i+1:Nat):Int),?_,⟨i+1,rfl,hl,by rw[hst,hall,hwb];rfl⟩,by simp;omega⟩;rw[Y1 l9];rw[hw]at hwb;cases h1:VJ s[i]<;>cases h2:a3W s[i]<;>cases h3:decide (s[i].toNat=95)<;>rw[h1,h2,h3]at hwb<;>first|rfl|cases hwb
   |false=>
    right;refine⟨(i:Int),?_,?_⟩
    .rw[hw]at hwb;cases h1:VJ s[i]<;>cases h2:a3W s[i]<;>cases h3:decide (s[i].toNat=95)<;>rw[h1,h2,h3]at hwb<;>first|rfl|cases hwb
    .constructor
     .intro h;simp[o9]at h;omega
     .intro h;have:=kV.1 h s[i] (N7 hl);rw[hwb]at this;cases this
  .right;have:i=s.length:=l9;subst this;rw[aA]at hall;exact⟨_,by rw[L8 (by simp[o9])];rfl,by simp[o9,hall]⟩
theorem b1D{a:d5X}{w:d5X}{r:d6b}{x:Bool}(h:r=some x):l7 (seq a w) (some (seq a w)) r=some (seq a w || x):=by rw[h];cases seq a w<;>rfl
theorem a5t(s:d5X):DJ s=some (Om.any λw=>seq s w):=by
 unfold DJ;refine V8 (o' :=some (Om.any λw=>seq s w)) ?_ (by cases Om.any λw=>seq s w<;>rfl);have hr:Om=(wF).getD []:=rfl;rw[show(Om.any λw=>seq s w)=List.foldr (λw b=>seq s w || b) false Om from by induction Om with|nil=>rfl|cons w l ih=>simp[lM,ih]];unfold Om wF;simp only[dG,List.foldr]
 repeat (refine b1D ?_)
 simp
theorem KX(h:s.length<=4611686018427387904):iw s=some (Ez s):=by
 unfold iw;cases s with
 |nil=>rfl|cons c r=>
  have h1:seq (c::r) []=false:=by simp[seq]
  obtain⟨k,h2,h3⟩:=a0m h;rw[h1];simp only[aJ,o7];rw[show sat (c::r) 0=some (c.toNat:Int)from rfl,o8,ZA,o8,h2,o8,a5t,o8];have h4:x8 k (o9 (c::r))=(c::r).all Ey:=by rw[gK,Y5];exact h3
  have h5:J6 (o9 (c::r)) 16=decide ((c::r).length<=16):=by simp only[J6,o9];congr 1;simp;omega
  rw[h4,h5,a1c];cases VJ c<;>cases (c::r).all Ey<;>cases decide ((c::r).length<=16)<;>rfl
theorem xG(h:s.length<=1000000):iw s=some (Ez s):=KX l9
theorem JV(h:s.length<=4611686018427387904):eY s=some (Ez s):=by
 unfold eY;cases s with
 |nil=>rfl|cons c r=>
  have h0:x8 (o9 (c::r)) 0=false:=J8 (by simp[o9];omega);have h5:D8 16 (o9 (c::r))= !decide ((c::r).length<=16):=by simp only[D8,o9];rw[←decide_not];congr 1;simp;omega
  rw[h0,h5,show sat (c::r) 0=some (c.toNat:Int)from rfl,o8,a1A,o8,a1c];generalize hs:c::r=s at*;cases hl:decide (s.length<=16)
  .rfl
  cases hc:VJ c
  .rfl
  simp only[jM,o6,D9,o8,J7,ik];refine V8 (EW s (λi a=>Ey a) false PUnit.unit _ l9 (λi x hx=>?_) ?_) ?_
  rotate_left 2
  .have ha:(∀(i:Nat) (a:UInt8),s[i]? =some a->Ey a=true)↔s.all Ey=true:=by
    rw[kV];constructor
    .intro h x hx;obtain⟨i,hi,rfl⟩:=X9 hx;exact h i _ (fH hi)
    .intro h i a hi;exact h a (iZ hi)
   by_cases hw:s.all Ey=true
   .rw[if_pos (ha.2 hw),o8,J7,b8r,o8,hw];refine V8 (EW Om (λi a=> !seq a s) false PUnit.unit _ (by decide+kernel) (λi x hx=>?_) ?_) ?_
    rotate_left 2
    .have hb:(∀(i:Nat) (a:d5X),Om[i]? =some a->(!seq a s)=true)↔(Om.any λw=>seq s w)=false:=by
      rw[jd];constructor
      .intro h x hx;obtain⟨i,hi,rfl⟩:=X9 hx;have:=h i _ (fH hi);intro hq;rw[gz.1 hq]at this;simp[seq]at this
      .intro h i a hi;have:=h a (iZ hi);cases hq:seq a s
       .rfl
       .exact absurd (by rw[gz.1 hq];simp[seq]) this
     by_cases hv:(Om.any λw=>seq s w)=false
     .rw[if_pos (hb.2 hv),hv];rfl
     .rw[if_neg (λh=>hv (hb.1 h))];simp only[qM]at hv;rw[hv];rfl
    .have hi:=(X0.1 hx).1;simp only[U7 (show(i:Int)<o9 Om by simp[o9];omega),o7,E8,hx,o8];rw[show P7 Om (U8 (i:Int))=some x from by simp[P7,U8,hx],o8,Y1 (by
       have:Om.length<=100:=by decide+kernel
       omega)]
     cases seq x s<;>rfl
    .rw[L8 (by simp[o9])];rfl
   .rw[if_neg (λh=>hw (ha.1 h))];simp only[kU]at hw;rw[hw];rfl
  .have hi:=(X0.1 hx).1;simp only[U7 (show(i:Int)<o9 s by simp[o9];omega),o7,Ym,hx,aN,o8,b9i];rw[Y1 l9];cases Ey x<;>rfl
  .rw[L8 (by simp[o9])];rfl
theorem rC(h:s.length<=1000000):eY s=some (Ez s):=JV l9
theorem Vf(t:Int×Int)(en:List gI):iJ t en=fC t en:=by
 unfold iJ fC;by_cases h1:t.1=1
 .simp[x8,h1,J6]
 by_cases h2:t.1=2
 .simp[x8,h2,J6]
 by_cases h3:t.1=3
 .simp[x8,h3,J6]
 by_cases h4:t.1=4
 .simp[x8,h4,J6]
 by_cases h5:t.1=5
 .simp[x8,h5,J6]
 by_cases h6:t.1=6
 .simp[x8,h6,J6]
 .simp only[x8,h1,h2,h3,h4,h5,h6,decide_false,o6,o8];by_cases h7:1<=t.1
  .rw[Ha (Y6 h7),MI (Z5 l9)]
  .rw[MI (Z5 l9)]
theorem b0o(t:Int×Int)(en:List gI):qX t en=oJ t en:=by unfold qX oJ;rw[Vf]
def vty(t:Int×Int)(en:List gI):Bool:=l7 (x8 t.1 6) (l7 (J6 0 t.2) (D8 t.2 (o9 en)) false) (l7 (J6 1 t.1) (l7 (J6 t.1 5) (x8 t.2 0) false) false)
theorem jV(t:Int×Int)(en:List gI):fC t en=some (vty t en):=by unfold fC vty;cases x8 t.1 6<;>cases J6 0 t.2<;>cases J6 1 t.1<;>cases J6 t.1 5<;>rfl
theorem Ar(t:Int×Int)(en:List gI):iJ t en=some (vty t en):=(Vf t en).trans (jV t en)
theorem a2P(t:Int×Int)(en:List gI):∃b:Int×Int,oJ t en=some b:=by
 unfold oJ;rw[jV,o8];cases hv:vty t en
 .exact⟨_,rfl⟩
 simp only[D9,o6];cases h1:x8 t.1 1<;>simp only[o7,o6]
 .cases h2:x8 t.1 2<;>simp only[o7,o6]
  .cases h3:x8 t.1 3<;>simp only[o7,o6]
   .cases h4:x8 t.1 4<;>simp only[o7,o6]
    .cases h5:x8 t.1 5<;>simp only[o7,o6]
     .have h6:x8 t.1 6=true/\J6 0 t.2=true/\D8 t.2 (o9 en)=true:=by
       unfold vty at hv;rw[AA]at h1 h2 h3 h4 h5;cases h6:x8 t.1 6<;>rw[h6]at hv
       .rw[AA]at h6;cases h7:J6 1 t.1<;>rw[h7]at hv
        .cases hv
        cases h8:J6 t.1 5<;>rw[h8]at hv
        .cases hv
        rw[pO]at h7 h8;omega
       .cases h7:J6 0 t.2<;>rw[h7]at hv
        .cases hv
        .exact⟨rfl,rfl,hv⟩
      obtain⟨x,hx,_⟩:=nN (pO.1 h6.2.1) (jX.1 h6.2.2);rw[hx];exact⟨_,rfl⟩
     .exact⟨_,rfl⟩
    .exact⟨_,rfl⟩
   .exact⟨_,rfl⟩
  .exact⟨_,rfl⟩
 .exact⟨_,rfl⟩
def bnd(t:Int×Int)(en:List gI):Int×Int:=(oJ t en).getD (0,0)
theorem Tn(t:Int×Int)(en:List gI):oJ t en=some (bnd t en):=by obtain⟨b,h⟩:=a2P t en;unfold bnd;rw[h];rfl
theorem Vt(t:Int×Int)(en:List gI):qX t en=some (bnd t en):=(b0o t en).trans (Tn t en)
def inB(n:Int)(b:Int×Int):Bool:=l7 (J6 b.1 n) (J6 n b.2) false
theorem a2M(n:Int)(t:Int×Int)(en:List gI):Jg n t en=some (inB n (bnd t en)):=by unfold Jg inB;rw[Tn,o8];cases J6 (bnd t en).1 n<;>rfl
def Ju(r:Int×Int):Bool:=l7 (J6 0 r.1) (l7 (J6 r.1 r.2) (J6 r.2 109573) false) false
theorem Lh(r:Int×Int):tC r=some (Ju r):=by unfold tC Ju;cases J6 0 r.1<;>cases J6 r.1 r.2<;>rfl
theorem Nq(r:Int×Int):zk r=some (Ju r):=Lh r
def Zb(a b:Int×Int):(Int×Int)×Bool:=l7 (Ju a) (l7 (Ju b) (l7 (J6 (qj a.2 b.2) (nT a.1 b.1)) ((0,0),false) ((nT a.1 b.1,qj a.2 b.2),true)) ((0,0),false)) ((0,0),false)
theorem b4V(a b:Int×Int):BJ a b=some (Zb a b):=by unfold BJ Zb;rw[Nq,o8,Nq,o8];cases Ju a<;>cases Ju b<;>cases J6 (qj a.2 b.2) (nT a.1 b.1)<;>rfl
theorem b8S(a b:Int×Int):vz a b=some (Zb a b):=by
 unfold vz yz Zb;rw[Lh,o8,Lh,o8];cases Ju a
 .rfl
 simp only[o7];cases h1:D8 a.1 a.2
 .rw[iE]at h1;rw[Y6 (show qj a.2 b.2<=nT a.1 b.1 by unfold qj nT;omega)];cases Ju b<;>rfl
 simp only[o8,D9,o6];cases Ju b
 .rfl
 simp only[o7];cases h2:D8 b.1 b.2
 .rw[iE]at h2;rw[Y6 (show qj a.2 b.2<=nT a.1 b.1 by unfold qj nT;omega)];rfl
 .cases J6 (qj a.2 b.2) (nT a.1 b.1)<;>rfl
def AQ(a b:xH):Bool:=l7 (Zb a.1 b.1).2 (D8 (nT a.2.1 b.2.1) (qj a.2.2.1 b.2.2.1)) false
theorem a3S(a b:xH):Es a b=some (AQ a b):=by unfold Es AQ;rw[b8S,o8];cases (Zb a.1 b.1).2<;>rfl
theorem a2Q(a b:xH):Ea a b=some (AQ a b):=by unfold Ea AQ;rw[b4V,o8];cases (Zb a.1 b.1).2<;>rfl
theorem b2Y{l:List xH}(r:xH)(h:l.length<=1000000):∃k:Int,vH l r=some (k,l.any λy=>AQ y r):=by
 unfold vH;have key:=xq (f:=λ(x:Int)=>l7 (D8 x (o9 l)) (o5 (G8 l x) λx_1=>o5 (wQ x_1 r) λx_2=>l7 x_2 (some (Out.rt (x,true))) (some (Out.nx (x9 IntKind.i64 x 1)))) (some (Out.ex PUnit.unit)))
   (s:=0) (λx=>∃i:Nat,x=i/\i<=l.length/\(l.take i).any (λy=>AQ y r)=false) (λ_=>(l.any λy=>AQ y r)=false) (λk=>k.2=true/\(l.any λy=>AQ y r)=true) (λx=>l.length -x.toNat) ⟨0,rfl,l9,rfl⟩ X5 ?_
 .rcases key with⟨e,h1,h2⟩|⟨k,h1,h2,h3⟩
  .exact⟨0,by rw[h1,h2];rfl⟩
  .refine⟨k.1,?_⟩;rw[h1,h3,←h2];rfl
 .rintro x ⟨i,rfl,hi,hall⟩;by_cases hl:i<l.length
  .have e:=fH hl;have hst:(l.take (i+1)).any (λy=>AQ y r)=((l.take i).any (λy=>AQ y r) || AQ l[i] r):=by rw[V6 hl,ul];simp
   have hv:wQ l[i] r=some (AQ l[i] r):=by unfold wQ;rw[a3S];rfl
   simp only[U7 (show(i:Int)<o9 l by simp[o9];omega),o7,E8,e,o8,hv];cases hc:AQ l[i] r with
   |true=>exact .inr (.inr ⟨_,rfl,rfl,nV.2 ⟨l[i],N7 hl,hc⟩⟩)|false=>exact .inl ⟨((i+1:Nat):Int),by rw[Y1 l9];rfl,⟨i+1,rfl,hl,by rw[hst,hall,hc];rfl⟩,by simp;omega⟩
  .have:i=l.length:=l9;subst this;rw[aA]at hall;exact .inr (.inl ⟨_,by rw[L8 (by simp[o9])];rfl,hall⟩)
def WM(x:xH)(bl br:Int×Int):Bool:=
 l7 (Ju x.1) (l7 (x8 x.1.1 x.1.2) true (l7 (J6 x.2.2.1 x.2.1) true (l7 (inB x.2.1 bl) (l7 (inB (H9 .i64 x.2.2.1 1) bl) (D6 (inB x.2.2.2 br)) true) true))) true
theorem b1I(x:xH)(t:dC)(en:List gI):JX x t en=some (WM x (bnd t.2.1 en) (bnd t.2.2.1 en)):=by
 unfold JX WM;rw[Nq,o8,a2M,a2M,a2M];cases Ju x.1
 .rfl
 cases x8 x.1.1 x.1.2
 case true=>rfl
 cases J6 x.2.2.1 x.2.1
 case true=>rfl
 simp only[D9,o6,o8,J7,o7];cases inB x.2.1 (bnd t.2.1 en)
 .rfl
 cases inB (H9 .i64 x.2.2.1 1) (bnd t.2.1 en)
 .rfl
 rfl
def a0x(t:dC)(en:List gI)(i:Nat):Option (Int×Int):=match t.2.2.2[i]? with
 |some x=>l7 (WM x (bnd t.2.1 en) (bnd t.2.2.1 en)) (some ((i:Int),3)) (l7 ((t.2.2.2.take i).any λy=>AQ y x) (some ((i:Int),11)) none)|none=>none
def Rn(t:dC)(en:List gI):Int×Int:=
 l7 (D8 64 (o9 t.2.2.2)) (64,4) (l7 (vty t.2.1 en) (l7 (vty t.2.2.1 en) (match(List.range t.2.2.2.length).findSome? (a0x t en)with|some r=>r|none=>(0,0)) (-1,8)) (-1,8))
theorem oG(a b:Int):D8 a b= !J6 b a:=by simp only[D8,J6];rw[←decide_not];congr 1;simp
theorem b1H(t:dC)(en:List gI):DZ t en=some (Rn t en):=by
 unfold DZ Rn;rw[jV,o8,jV,o8];cases h64:D8 64 (o9 t.2.2.2)
 case true=>rfl
 simp only[o6];cases vty t.2.1 en
 .rfl
 cases vty t.2.2.1 en
 .rfl
 simp only[D9,o6,o8,J7,o7];have hlen:t.2.2.2.length<=64:=by rw[iE]at h64;simp only[o9]at h64;omega
 refine V8 (JP (p:=a0x t en) t.2.2.2.length l9 PUnit.unit (λi hi=>?_) ?_) ?_
 rotate_left 2
 .cases (List.range t.2.2.2.length).findSome? (a0x t en)<;>rfl
 .have e:=fH hi;simp only[U7 (show(i:Int)<o9 t.2.2.2 by simp only[o9];omega),o7,E8,e,o8,b1I,a0x];cases WM t.2.2.2[i] (bnd t.2.1 en) (bnd t.2.2.1 en)
  case true=>rfl
  simp only[o6];refine V8 (EW (t.2.2.2.take i) (λj a=> !AQ a t.2.2.2[i]) ((i:Int),(11:Int)) PUnit.unit _ X5 (λj x hx=>?_) ?_) ?_
  rotate_left 2
  .have hb:(∀(j:Nat) (a:xH),(t.2.2.2.take i)[j]? =some a->(!AQ a t.2.2.2[i])=true)↔((t.2.2.2.take i).any λy=>AQ y t.2.2.2[i])=false:=by
    rw[jd];constructor
    .intro h x hx;obtain⟨j,hj,rfl⟩:=X9 hx;have:=h j _ (fH hj);simpa using this
    .intro h j a hj;have:=h a (iZ hj);simpa using this
   by_cases hv:((t.2.2.2.take i).any λy=>AQ y t.2.2.2[i])=false
   .rw[if_pos (hb.2 hv),hv,Y1 l9];rfl
   .rw[if_neg (λh=>hv (hb.1 h))];simp only[qM]at hv;rw[hv];rfl
  .have hj:=(X0.1 hx).1;simp only[Y9]at hj;have hx' :t.2.2.2[j]? =some x:=by rw[X6]at hx;split at hx<;>first|exact hx|cases hx
   simp only[U7 (show(j:Int)<(i:Int) by omega),o7,E8,hx',o8,e,a2Q];rw[Y1 l9];cases AQ x t.2.2.2[i]<;>rfl
  .have hl:(t.2.2.2.take i).length=i:=by simp;omega
   rw[hl,L8 l9];rfl
 .rw[L8 (by simp[o9])];rfl
variable {α:Type}
theorem CW{l:List α}(h:i<=l.length):FX l 0 (i:Int)=some (l.take i):=by rw[b7Q l9 l9];simp
theorem b7f(t:dC)(en:List gI):Ep t en=some (Rn t en):=by
 unfold Ep Rn;rw[Ar,o8,Ar,o8];cases h64:D8 64 (o9 t.2.2.2)
 case true=>rfl
 simp only[o6];cases vty t.2.1 en
 .rfl
 cases vty t.2.2.1 en
 .rfl
 simp only[D9,o6,o8,J7,o7,Vt];have hlen:t.2.2.2.length<=64:=by rw[iE]at h64;simp only[o9]at h64;omega
 refine V8 (JP (p:=a0x t en) t.2.2.2.length l9 PUnit.unit (λi hi=>?_) ?_) ?_
 rotate_left 2
 .cases (List.range t.2.2.2.length).findSome? (a0x t en)<;>rfl
 .have e:=fH hi;simp only[U7 (show(i:Int)<o9 t.2.2.2 by simp only[o9];omega),o7,E8,e,o8,a0x,Lh,CW (show i<=t.2.2.2.length by omega)];obtain⟨k,hk⟩:=b2Y (l:=t.2.2.2.take i) t.2.2.2[i] X5;rw[hk,Y1 l9];unfold WM inB;simp only[oG];generalize bnd t.2.1 en=bl;generalize bnd t.2.2.1 en=br;cases Ju t.2.2.2[i].1
  .rfl
  cases x8 t.2.2.2[i].1.1 t.2.2.2[i].1.2
  case true=>rfl
  cases J6 t.2.2.2[i].2.2.1 t.2.2.2[i].2.1
  case true=>rfl
  cases J6 bl.1 t.2.2.2[i].2.1
  .rfl
  cases J6 t.2.2.2[i].2.1 bl.2
  .rfl
  cases J6 bl.1 (H9 IntKind.i64 t.2.2.2[i].2.2.1 1)
  .rfl
  cases J6 (H9 IntKind.i64 t.2.2.2[i].2.2.1 1) bl.2
  .rfl
  cases J6 br.1 t.2.2.2[i].2.2.2
  .rfl
  cases J6 t.2.2.2[i].2.2.2 br.2
  .rfl
  cases (t.2.2.2.take i).any λy=>AQ y t.2.2.2[i]<;>rfl
 .rw[L8 (by simp[o9])];rfl
section
variable {α ε ρ:Type}
theorem wX(l:List α)(p:α->Bool)(r:ρ)(e:ε){f:Int->Option (Out Int ε ρ)}(hl:l.length<=1000000)
  (hin:∀(i:Nat) (a:α),l[i]? =some a->f (i:Int)=some (bif p a then .rt r else .nx (x9 .i64 (i:Int) 1))) (hend:f (l.length:Int)=some (.ex e)):
  U0 f 0=some (bif l.any p then .inr r else .inl e):=by
 rw[EW l (λi a=> !p a) r e f l9 (λi a ha=>?_) hend]
 .have hb:(∀(j:Nat) (a:α),l[j]? =some a->(!p a)=true)↔l.any p=false:=by
   rw[jd];constructor
   .intro h x hx;obtain⟨j,hj,rfl⟩:=X9 hx;have:=h j _ (fH hj);simpa using this
   .intro h j a hj;have:=h a (iZ hj);simpa using this
  by_cases hv:l.any p=false
  .rw[if_pos (hb.2 hv),hv];rfl
  .rw[if_neg (λh=>hv (hb.1 h))];simp only[qM]at hv;rw[hv];rfl
 .have hi:=(X0.1 ha).1;rw[hin i a ha,Y1 l9];cases p a<;>rfl
theorem EQ(l:List α)(p:α->Bool){f:Int->Option (Out Int PUnit Int)}(hl:l.length<=1000000)
  (hin:∀(i:Nat) (a:α),l[i]? =some a->f (i:Int)=some (bif p a then .rt (i:Int)else .nx (x9 .i64 (i:Int) 1))) (hend:f (l.length:Int)=some (.ex PUnit.unit)):
  o5 (o5 (U0 f 0) λo=>V5 o (λ_=>some (-1)) λr=>some r) (λx=>some (J6 0 x))=some (l.any p):=by
 have key:=xq (f:=f) (s:=0) (λx=>∃i:Nat,x=i/\i<=l.length/\(l.take i).any p=false) (λ_=>l.any p=false) (λk=>0<=k/\l.any p=true) (λx=>l.length -x.toNat) ⟨0,rfl,l9,rfl⟩ X5 ?_
 .rcases key with⟨e,h1,h2⟩|⟨k,h1,h2,h3⟩
  .rw[h1,h2];rfl
  .rw[h1,h3,o8,wP,o8,Y6 h2]
 .rintro x ⟨i,rfl,hi,hall⟩;by_cases h:i<l.length
  .have e:=fH h;have hst:(l.take (i+1)).any p=((l.take i).any p || p l[i]):=by rw[V6 h,ul];simp
   rw[hin i _ e];cases hc:p l[i]with
   |true=>exact .inr (.inr ⟨_,rfl,l9,nV.2 ⟨l[i],N7 h,hc⟩⟩)|false=>exact .inl ⟨((i+1:Nat):Int),by rw[Y1 l9];rfl,⟨i+1,rfl,h,by rw[hst,hall,hc];rfl⟩,by simp;omega⟩
  .have:i=l.length:=l9;subst this;rw[aA]at hall;exact .inr (.inl ⟨_,hend,hall⟩)
theorem G9{l:List α}{a:α}(h:l[i]? =some a):D8 (i:Int) (o9 l)=true:=U7 (by have:=(X0.1 h).1;simp only[o9];omega)
theorem G6(l:List α):D8 (l.length:Int) (o9 l)=false:=L8 (by simp[o9])
end
theorem SE{l:List gI}(n:d5X)(h:l.length<=1000000):CU l n=some (l.any λx=>seq x.1 n):=by unfold CU kC lN;rw[gy];refine EQ l (λx=>seq x.1 n) h (λi a ha=>?_) (by rw[G6];rfl);rw[G9 ha,o7,E8,ha,o8];unfold KO;rw[o8];cases seq a.1 n<;>rfl
theorem Xa{l:List dC}(n:d5X)(h:l.length<=1000000):DI l n=some (l.any λx=>seq x.1 n):=by unfold DI jA kM;rw[gy];refine EQ l (λx=>seq x.1 n) h (λi a ha=>?_) (by rw[G6];rfl);rw[G9 ha,o7,E8,ha,o8];unfold IV;rw[o8];cases seq a.1 n<;>rfl
theorem a4l{l:List D7}(s:D7)(h:l.length<=1000000):gB l s=some (l.any λx=>seq x.1 s.1):=by unfold gB kL;refine EQ l (λx=>seq x.1 s.1) h (λi a ha=>?_) (by rw[G6];rfl);rw[G9 ha,o7,E8,ha,o8];unfold ET;rw[o8];cases seq a.1 s.1<;>rfl
theorem a6O{l:List aC}(s:aC)(h:l.length<=1000000):iC l s=some (l.any λx=>seq x.1 s.1):=by unfold iC lQ;refine EQ l (λx=>seq x.1 s.1) h (λi a ha=>?_) (by rw[G6];rfl);rw[G9 ha,o7,E8,ha,o8];unfold Gx;rw[o8];cases seq a.1 s.1<;>rfl
theorem WZ{l:List gu}(s:gu)(h:l.length<=1000000):dN l s=some (l.any λx=>seq x.1 s.1):=by unfold dN kK;refine EQ l (λx=>seq x.1 s.1) h (λi a ha=>?_) (by rw[G6];rfl);rw[G9 ha,o7,E8,ha,o8];unfold ES;rw[o8];cases seq a.1 s.1<;>rfl
theorem b0I{l:List d5X}(s:d5X)(h:l.length<=1000000):kT l s=some (l.any λx=>seq s x):=by unfold kT sH;refine EQ l (λx=>seq s x) h (λi a ha=>?_) (by rw[G6];rfl);rw[G9 ha,o7,E8,ha,o8];cases seq s a<;>rfl
variable {l:d5Y}
theorem b0H(s:Int)(h:l.length<=1000000):pW l s=some (l.any λx=>x8 s x):=by unfold pW zD;refine EQ l (λx=>x8 s x) h (λi a ha=>?_) (by rw[G6];rfl);rw[G9 ha,o7,E8,ha,o8];cases x8 s a<;>rfl
section
variable {α ε ρ:Type}
theorem KZ(l:List α)(k:Nat)(p:α->Bool)(r:ρ)(e:ε){f:Int->Option (Out Int ε ρ)}(hl:l.length<=1000000)
  (hin:∀(i:Nat) (a:α),l[i]? =some a->f (i:Int)=some (bif (decide (i<k)&&p a)then .rt r else .nx (x9 .i64 (i:Int) 1))) (hend:f (l.length:Int)=some (.ex e)):
  U0 f 0=some (bif (l.take k).any p then .inr r else .inl e):=by
 rw[EW l (λi a=> !(decide (i<k)&&p a)) r e f l9 (λi a ha=>?_) hend]
 .have hb:(∀(j:Nat) (a:α),l[j]? =some a->(!(decide (j<k)&&p a))=true)↔(l.take k).any p=false:=by
   rw[jd];constructor
   .intro h x hx;obtain⟨j,hj,rfl⟩:=X9 hx;simp only[Y9]at hj;have:=h j _ (fH l9);rw[qQ];simp only[show j<k by omega,decide_true,ik]at this;simpa using this
   .intro h j a hj;by_cases hk:j<k
    .have hm:a∈l.take k:=iZ (i:=j) (by rw[bD hk];exact hj);have:=h a hm;simpa[hk]using this
    .simp[hk]
  by_cases hv:(l.take k).any p=false
  .rw[if_pos (hb.2 hv),hv];rfl
  .rw[if_neg (λh=>hv (hb.1 h))];simp only[qM]at hv;rw[hv];rfl
 .have hi:=(X0.1 ha).1;rw[hin i a ha,Y1 l9];cases decide (i<k)&&p a<;>rfl
end
theorem Uf(i k:Nat):D8 (i:Int) (k:Int)=decide (i<k):=by unfold D8;by_cases h:i<k<;>simp[h]<;>omega
def Gn(l:U4)(kind:Nat)(k:Nat)(n:d5X):Bool:=
 match kind with
 |1=>(l.1.take k).any λx=>seq x.1 n|2=>(l.1.any λx=>seq x.1 n) || ((l.2.1.take k).any λx=>seq x.1 n)|_=>(l.1.any λx=>seq x.1 n) || (l.2.1.any λx=>seq x.1 n) || ((l.2.2.take k).any λx=>seq x.1 n)
def Few(l:U4):Prop:=l.1.length<=100000/\l.2.1.length<=100000/\l.2.2.length<=100000
theorem b1T{l:U4}(h:Few l)(k:Nat)(n:d5X):jU l 1 (k:Int) n=some (Gn l 1 k n):=by
 unfold jU Gn;refine V8 (KZ l.1 k (λx=>seq x.1 n) true PUnit.unit (by have:=h.1;omega) (λi a ha=>?_) ?_) ?_
 rotate_left 2
 .cases (l.1.take k).any λx=>seq x.1 n
  case true=>rfl
  simp only[cond_false,J7];refine V8 (KZ l.2.1 0 (λx=>seq x.1 n) true PUnit.unit (by have:=h.2.1;omega) (λi a ha=>?_) ?_) ?_
  rotate_left 2
  .simp only[List.take_zero,List.any_nil,cond_false,J7];refine V8 (KZ l.2.2 0 (λx=>seq x.1 n) true PUnit.unit (by have:=h.2.2;omega) (λi a ha=>?_) ?_) ?_
   rotate_left 2
   .rfl
   .rw[G9 ha];simp;rfl
   .rw[G6];rfl
  .rw[G9 ha];simp;rfl
  .rw[G6];rfl
 .rw[G9 ha,E8,ha,o8,Uf,o7];cases decide (i<k)<;>cases seq a.1 n<;>rfl
 .rw[G6];rfl
theorem b1U{l:U4}(h:Few l)(k:Nat)(n:d5X):jU l 2 (k:Int) n=some (Gn l 2 k n):=by
 unfold jU Gn;refine V8 (wX l.1 (λx=>seq x.1 n) true PUnit.unit (by have:=h.1;omega) (λi a ha=>?_) ?_) ?_
 rotate_left 2
 .cases l.1.any λx=>seq x.1 n
  case true=>rfl
  simp only[cond_false,J7,lL];refine V8 (KZ l.2.1 k (λx=>seq x.1 n) true PUnit.unit (by have:=h.2.1;omega) (λi a ha=>?_) ?_) ?_
  rotate_left 2
  .cases (l.2.1.take k).any λx=>seq x.1 n
   case true=>rfl
   simp only[cond_false,J7];refine V8 (KZ l.2.2 0 (λx=>seq x.1 n) true PUnit.unit (by have:=h.2.2;omega) (λi a ha=>?_) ?_) ?_
   rotate_left 2
   .rfl
   .rw[G9 ha];simp;rfl
   .rw[G6];rfl
  .rw[G9 ha,E8,ha,o8,Uf,o7];cases decide (i<k)<;>cases seq a.1 n<;>rfl
  .rw[G6];rfl
 .rw[G9 ha,E8,ha,o8,o7];cases seq a.1 n<;>rfl
 .rw[G6];rfl
theorem b1V{l:U4}(h:Few l)(k:Nat)(n:d5X):jU l 3 (k:Int) n=some (Gn l 3 k n):=by
 unfold jU Gn;refine V8 (wX l.1 (λx=>seq x.1 n) true PUnit.unit (by have:=h.1;omega) (λi a ha=>?_) ?_) ?_
 rotate_left 2
 .cases l.1.any λx=>seq x.1 n
  case true=>rfl
  simp only[cond_false,J7,lL];refine V8 (wX l.2.1 (λx=>seq x.1 n) true PUnit.unit (by have:=h.2.1;omega) (λi a ha=>?_) ?_) ?_
  rotate_left 2
  .cases l.2.1.any λx=>seq x.1 n
   case true=>rfl
   simp only[cond_false,J7,lL];refine V8 (KZ l.2.2 k (λx=>seq x.1 n) true PUnit.unit (by have:=h.2.2;omega) (λi a ha=>?_) ?_) ?_
   rotate_left 2
   .cases (l.2.2.take k).any λx=>seq x.1 n<;>rfl
   .rw[G9 ha,E8,ha,o8,Uf,o7];cases decide (i<k)<;>cases seq a.1 n<;>rfl
   .rw[G6];rfl
  .rw[G9 ha,E8,ha,o8,o7];cases seq a.1 n<;>rfl
  .rw[G6];rfl
 .rw[G9 ha,E8,ha,o8,o7];cases seq a.1 n<;>rfl
 .rw[G6];rfl
def a0l(ms:List d5X)(i:Nat):Option (Int×Int):=match ms[i]? with
 |some m=>l7 (Ez m) (l7 ((ms.take i).any λx=>seq m x) (some (7,((100+i:Nat):Int))) none) (some (2,((100+i:Nat):Int)))|none=>none
def WT(l:U4)(i:Nat)(e:gI):Int×Int:=
 l7 (Ez e.1) (l7 (Gn l 1 i e.1) (7,0) (l7 (x8 (o9 e.2) 0) (5,0) (l7 (D8 16 (o9 e.2)) (4,116) (match(List.range e.2.length).findSome? (a0l e.2)with|some r=>r|none=>(0,0))))) (2,0)
theorem a9e(h:i<=1000000):x9 .i64 100 (i:Int)=((100+i:Nat):Int):=by rw[U9 O5];omega
theorem a1V{l:U4}(h:Few l)(hi:i<=l.1.length)(e:gI)(h1:e.1.length<=1000000)(h2:∀m∈e.2,m.length<=1000000):
  Fv l (i:Int) e=some (WT l i e):=by
 unfold Fv WT Gn;rw[xG h1,o8,CW hi,o8,SE _ (by have:=h.1;simp;omega),o8];cases Ez e.1
 .rfl
 simp only[D9,o6,o7];cases (l.1.take i).any λx=>seq x.1 e.1
 case true=>rfl
 cases x8 (o9 e.2) 0
 case true=>rfl
 cases h16:D8 16 (o9 e.2)
 case true=>rfl
 simp only[o6];have hlen:e.2.length<=16:=by rw[iE]at h16;simp only[o9]at h16;omega
 refine V8 (JP (p:=a0l e.2) e.2.length l9 PUnit.unit (λj hj=>?_) ?_) ?_
 rotate_left 2
 .cases (List.range e.2.length).findSome? (a0l e.2)<;>rfl
 .have e' :=fH hj;rw[G9 e',o7,E8,e',o8,xG (h2 _ (N7 hj)),o8,CW l9,o8,b0I _ X5,o8,a9e l9,Y1 l9];simp only[a0l,e'];cases Ez e.2[j]
  .rfl
  cases (e.2.take j).any λx=>seq e.2[j] x<;>rfl
 .rw[G6];rfl
theorem Qc(a b:d5X):seq a b=seq b a:=by unfold seq;by_cases h:a=b<;>simp[h,eq_comm]
variable {ρ:Type}{ε:Type}{σ:Type}
theorem b0l(l:List α)(p:α->Bool)(n:Nat)(hn:n<=l.length)(hl:l.length<=1000000)(a b:σ)(r:ρ)(e:ε){f:σ×σ×Int->Option (Out (σ×σ×Int) ε ρ)}
  (hin:∀(i:Nat) (x:α),i<n->l[i]? =some x->f (a,b,(i:Int))=some (bif p x then .rt r else .nx (a,b,x9 .i64 (i:Int) 1))) (hend:f (a,b,(n:Int))=some (.ex e)):
  U0 f (a,b,0)=some (bif (l.take n).any p then .inr r else .inl e):=by
 have key:=xq (f:=f) (s:=(a,b,0)) (λx=>∃i:Nat,x=(a,b,(i:Int))/\i<=n/\(l.take i).any p=false) (λx=>x=e/\(l.take n).any p=false) (λk=>k=r/\(l.take n).any p=true) (λx=>n -x.2.2.toNat) ⟨0,rfl,l9,rfl⟩ X5 ?_
 .rcases key with⟨x,h1,rfl,h2⟩|⟨k,h1,rfl,h2⟩
  .rw[h1,h2];rfl
  .rw[h1,h2];rfl
 .rintro x ⟨i,rfl,hi,hall⟩;by_cases h:i<n
  .have e' :=fH (show i<l.length by omega);have hst:(l.take (i+1)).any p=((l.take i).any p || p l[i]):=by rw[V6 l9,ul];simp
   rw[hin i _ h e'];cases hc:p l[i]with
   |true=>refine .inr (.inr ⟨_,rfl,rfl,nV.2 ⟨l[i],?_,hc⟩⟩);exact iZ (i:=i) (by rw[bD h];exact e')|false=>exact .inl ⟨(a,b,((i+1:Nat):Int)),by rw[Y1 l9];rfl,⟨i+1,rfl,h,by rw[hst,hall,hc];rfl⟩,by simp;omega⟩
  .have:i=n:=l9;subst this;exact .inr (.inl ⟨_,hend,rfl,hall⟩)
variable {n:Nat}{j:Nat}{β:Type}
theorem Ud{p:Nat->Option β}{c:β}(h0:(List.range j).findSome? p=none)(h1:p j=some c)(hj:j<n):(List.range n).findSome? p=some c:=by
 induction n with
 |zero=>omega|succ n ih=>
  rw[dZ,mP];by_cases h:j<n
  .rw[ih h];rfl
  .have:j=n:=l9;subst this;rw[h0];simp[h1]
theorem a9c{p:Nat->Option β}(h0:(List.range j).findSome? p=none)(h1:p j=none):(List.range (j+1)).findSome? p=none:=by rw[dZ,mP,h0];simp[h1]
def QZ(kind i:Int)(r:Int×Int):Int×Int×Int×Int:=l7 (x8 r.1 0) (0,0,0,0) (r.1,kind,i,r.2)
theorem a0r{l:U4}(h:Few l){e:gI}(he:l.1[i]? =some e)(h1:e.1.length<=1000000)(h2:∀m∈e.2,m.length<=1000000):
  BM l (i:Int)=some (QZ 1 i (WT l i e)):=by
 unfold BM WT;rw[E8,he,o8,rC h1,o8,b1T h,o8];cases Ez e.1
 .rfl
 simp only[D9,o6,o7];cases Gn l 1 i e.1
 case true=>rfl
 cases x8 (o9 e.2) 0
 case true=>rfl
 cases h16:D8 16 (o9 e.2)
 case true=>rfl
 simp only[o6];have hlen:e.2.length<=16:=by rw[iE]at h16;simp only[o9]at h16;omega
 have key:=xq (f:=λ(x_3:qc×qc×Int)=>
   l7 (D8 x_3.2.2 (o9 e.2)) (o5 (G8 e.2 x_3.2.2) λ(x_4:d5X)=>o5 (eY x_4) λ(x_5:Bool)=>
    l7 (D6 x_5) (some (Out.rt (2,x_3.2.1.2.1,x_3.2.1.2.2.1,x9 IntKind.i64 100 x_3.2.2)))
     (o5 (U0 (λ(x_6:qc×qc×Int)=>l7 (D8 x_6.2.2 x_3.2.2) (o5 (G8 e.2 x_6.2.2) λ(x_7:d5X)=>o5 (G8 e.2 x_3.2.2) λ(x:d5X)=>
       l7 (seq x_7 x) (some (Out.rt (7,x_6.2.1.2))) (some (Out.nx (x_6.1,x_6.2.1,x9 IntKind.i64 x_6.2.2 1)))) (some (Out.ex (x_6.1,x_6.2.1))))
      (x_3.1,(x_3.2.1.1,x_3.2.1.2.1,x_3.2.1.2.2.1,x9 IntKind.i64 100 x_3.2.2),0)) λ(o:qc×qc⊕qc)=>
       V5 o (λ(y:qc×qc)=>some (Out.nx (y.1,y.2,x9 IntKind.i64 x_3.2.2 1))) λ(r:qc)=>some (Out.rt r))) (some (Out.ex x_3.1)))
  (s:=((0,0,0,0),(0,1,(i:Int),0),0))
  (λx=>∃(B:Int×Int×Int×Int) (j:Nat),x=((0,0,0,0),B,(j:Int))/\B.2.1=1/\B.2.2.1=i/\j<=e.2.length/\(List.range j).findSome? (a0l e.2)=none)
  (λ_=>(List.range e.2.length).findSome? (a0l e.2)=none) (λr=>∃c,(List.range e.2.length).findSome? (a0l e.2)=some c/\r=(c.1,1,(i:Int),c.2)/\c.1≠0)
  (λx=>e.2.length -x.2.2.toNat) ⟨_,0,rfl,rfl,rfl,l9,rfl⟩ X5 ?_
 .rcases key with⟨x,k1,k2⟩|⟨r,k1,c,k2,k3,k4⟩
  .refine(lq k1 _).trans ?_;rw[k2];rfl
  .refine(lq k1 _).trans ?_;rw[k2,k3];simp only[wP,QZ];rw[J8 k4];rfl
 .rintro x ⟨B,j,rfl,b1,b2,hj,hn⟩;by_cases hl:j<e.2.length
  .have e' :=fH hl;simp only[G9 e',o7,E8,e',o8,rC (h2 _ (N7 hl)),a9e (show j<=1000000 by omega)];cases hid:Ez e.2[j]
   .refine .inr (.inr ⟨_,rfl,(2,((100+j:Nat):Int)),Ud hn (by simp only[a0l,e',hid];rfl) hl,?_,(by show(2:Int)≠0;decide)⟩);rw[b1,b2]
   .simp only[D9,o6];rw[b0l e.2 (λx=>seq e.2[j] x) j l9 l9 (0,0,0,0) (B.1,B.2.1,B.2.2.1,((100+j:Nat):Int)) (7,B.2.1,B.2.2.1,((100+j:Nat):Int)) ((0,0,0,0),(B.1,B.2.1,B.2.2.1,((100+j:Nat):Int)))
     (λk x hk hx=>by simp only[U7 (show(k:Int)<(j:Int) by omega),o7,E8,hx,o8,e'];rw[Qc];cases seq e.2[j] x<;>rfl)
     (by simp only[L8 (show(j:Int)<=(j:Int) by omega)];rfl)]
    cases hd:(e.2.take j).any λx=>seq e.2[j] x
    .refine .inl ⟨((0,0,0,0),(B.1,B.2.1,B.2.2.1,((100+j:Nat):Int)),((j+1:Nat):Int)),by rw[Y1 l9];rfl,⟨_,j+1,rfl,b1,b2,hl,a9c hn (by simp only[a0l,e',hid,hd];rfl)⟩,by simp;omega⟩
    .refine .inr (.inr ⟨_,rfl,(7,((100+j:Nat):Int)),Ud hn (by simp only[a0l,e',hid,hd];rfl) hl,?_,(by show(7:Int)≠0;decide)⟩);rw[b1,b2]
  .have:j=e.2.length:=l9;subst this;exact .inr (.inl ⟨_,by simp only[G6];rfl,hn⟩)
def Z7(n:Nat)(p:Nat->Option ρ):Option ρ:=(List.range n).findSome? p
variable {p:Nat->Option ρ}
theorem qY(n:Nat)(hn:n<=1000000)(a:σ)(e:ε){f:σ×Int->Option (Out (σ×Int) ε ρ)}
  (h1:∀i,i<n->f (a,(i:Int))=some (match p i with|some r=> .rt r|none=> .nx (a,x9 .i64 (i:Int) 1))) (h2:f (a,(n:Int))=some (.ex e)):
  U0 f (a,0)=some (match Z7 n p with|some r=> .inr r|none=> .inl e):=by
 have key:=xq (f:=f) (s:=(a,0)) (λx=>∃i:Nat,x=(a,(i:Int))/\i<=n/\Z7 i p=none) (λx=>x=e/\Z7 n p=none) (λr=>Z7 n p=some r) (λx=>n -x.2.toNat) ⟨0,rfl,l9,rfl⟩ X5 ?_
 .rcases key with⟨x,k1,rfl,k2⟩|⟨r,k1,k2⟩
  .rw[k1,k2]
  .rw[k1,k2]
 .rintro x ⟨i,rfl,hi,hnone⟩;by_cases h:i<n
  .rw[h1 i h];cases hp:p i with
   |some r=>exact .inr (.inr ⟨_,rfl,Ud hnone hp h⟩)|none=>exact .inl ⟨(a,((i+1:Nat):Int)),by rw[Y1 l9],⟨i+1,rfl,h,a9c hnone hp⟩,by simp;omega⟩
  .have:i=n:=l9;subst this;exact .inr (.inl ⟨_,h2,rfl,hnone⟩)
def SB(kind i:Int)(r:Int×Int):Option (Int×Int×Int×Int):=l7 (x8 r.1 0) none (some (r.1,kind,i,r.2))
def OT(l:U4)(i:Nat):Option (Int×Int×Int×Int):=match l.1[i]? with|some e=>SB 1 i (WT l i e)|none=>none
def KG(l:U4):Int×Int×Int×Int:=l7 (D8 8 (o9 l.1)) (4,1,8,0) (match Z7 l.1.length (OT l)with|some r=>r|none=>(0,0,0,0))
def a1N(l:U4):Prop:=∀e∈l.1,e.1.length<=1000000/\∀m∈e.2,m.length<=1000000
theorem a0d{l:U4}(h:Few l)(hE:a1N l):DD l=some (KG l):=by
 unfold DD KG;cases D8 8 (o9 l.1)
 case true=>rfl
 simp only[o6];refine V8 (qY (p:=OT l) l.1.length (by have:=h.1;omega) _ (0,0,0,0) (λi hi=>?_) ?_) ?_
 rotate_left 2
 .cases Z7 l.1.length (OT l)<;>rfl
 .have e:=fH hi;have hm:=hE _ (N7 hi);simp only[G9 e,o7,E8,e,o8,a1V h (show i<=l.1.length by omega) _ hm.1 hm.2,OT,SB];cases x8 (WT l i l.1[i]).1 0<;>rfl
 .rw[G6];rfl
theorem jv{r:ρ}(h:Z7 n p=some r):∃i,i<n/\p i=some r:=by unfold Z7 at h;obtain⟨i,hi,hp⟩:=List.exists_of_findSome?_eq_some h;exact⟨i,bT.1 hi,hp⟩
theorem Dw(h:Z7 n p=none):∀i,i<n->p i=none:=by unfold Z7 at h;intro i hi;exact jI.1 h i (bT.2 hi)
theorem b7e(t:dC)(en:List gI):(Rn t en).1=-1\/0<=(Rn t en).1:=by
 unfold Rn;cases D8 64 (o9 t.2.2.2)
 case true=>right;simp only[o7];decide
 cases vty t.2.1 en
 .left;rfl
 cases vty t.2.2.1 en
 .left;rfl
 right;simp only[o7,o6];cases hf:(List.range t.2.2.2.length).findSome? (a0x t en)with
 |none=>exact iM _|some r=>
  obtain⟨i,hi,hp⟩:=jv (p:=a0x t en) hf;unfold a0x at hp;split at hp
  .rename_i x hx;cases hw:WM x (bnd t.2.1 en) (bnd t.2.2.1 en)<;>rw[hw]at hp
   .cases ha:(t.2.2.2.take i).any λy=>AQ y x<;>rw[ha]at hp
    .cases hp
    .cases hp;show(0:Int)<=(i:Int);omega
   .cases hp;show(0:Int)<=(i:Int);omega
  .cases hp
def N_(l:U4)(i:Nat)(t:dC):Int×Int:=
 l7 (Ez t.1) (l7 (Gn l 2 i t.1) (7,0) (l7 (x8 (Rn t l.1).2 0) (0,0) ((Rn t l.1).2,l7 (J6 0 (Rn t l.1).1) (x9 .i64 100 (Rn t l.1).1) 0))) (2,0)
def Qg(l:U4)(i:Nat):Option (Int×Int×Int×Int):=match l.2.1[i]? with|some t=>SB 2 i (N_ l i t)|none=>none
def Ky(l:U4):Int×Int×Int×Int:=l7 (D8 8 (o9 l.2.1)) (4,2,8,0) (match Z7 l.2.1.length (Qg l)with|some r=>r|none=>(0,0,0,0))
def Yx(l:U4):Prop:=∀t∈l.2.1,t.1.length<=1000000
theorem j_{l:U4}(h:Few l){t:dC}(he:l.2.1[i]? =some t)(h1:t.1.length<=1000000):Ak l (i:Int)=some (QZ 2 i (N_ l i t)):=by
 unfold Ak N_;rw[E8,he,o8,rC h1,o8,b1U h,o8,b1H,o8];cases Ez t.1
 .rfl
 cases Gn l 2 i t.1
 case true=>rfl
 simp only[D9,o6,o7];cases hz:x8 (Rn t l.1).2 0
 case true=>rfl
 simp only[o6,QZ,hz];cases J6 0 (Rn t l.1).1<;>rfl
theorem YQ{l:U4}(h:Few l)(hT:Yx l):BG l=some (Ky l):=by
 unfold BG Ky;cases D8 8 (o9 l.2.1)
 case true=>rfl
 simp only[o6];refine V8 (qY (p:=Qg l) l.2.1.length (by have:=h.2.1;omega) _ (0,0,0,0) (λi hi=>?_) ?_) ?_
 rotate_left 2
 .cases Z7 l.2.1.length (Qg l)<;>rfl
 .have e:=fH hi;have hm:=hT _ (N7 hi);simp only[G9 e,o7,E8,e,o8,b7f,xG hm,SE _ (show l.1.length<=1000000 by have:=h.1;omega),CW (show i<=l.2.1.length by omega),
   Xa _ (show(l.2.1.take i).length<=1000000 by have:=h.2.1;simp;omega),Qg,N_,Gn]
  cases Ez l.2.1[i].1
  .rfl
  cases l.1.any λx=>seq x.1 l.2.1[i].1
  case true=>rfl
  cases (l.2.1.take i).any λx=>seq x.1 l.2.1[i].1
  case true=>rfl
  simp only[D9,o6,o7,o8,Bool.or_false];cases hz:x8 (Rn l.2.1[i] l.1).2 0
  case true=>rfl
  simp only[aJ,o7,o6,SB,hz];rcases b7e l.2.1[i] l.1 with hr|hr
  .rw[O0 hr,Z5 (show(Rn l.2.1[i] l.1).1<0 by omega)];simp only[D9,o6,o8,hz,aJ,o7]
  .rw[J8 (show(Rn l.2.1[i] l.1).1≠-1 by omega),Y6 hr];simp only[aJ,o7,o8,hz]
 .rw[G6];rfl
theorem b2Z(l:List α)(g:α->β)(hl:l.length<=1000000){f:List β×Int->Option ((List β×Int)⊕ε)}{F:List β->ε}
  (hin:∀(i:Nat) (a:α) (acc:List β),l[i]? =some a->acc.length=i->f (acc,(i:Int))=some (.inl (acc++[g a],x9 .i64 (i:Int) 1))) (hend:∀acc,f (acc,(l.length:Int))=some (.inr (F acc))):
  Y8 f ([],0)=some (F (l.map g)):=by
 obtain⟨e,h1,h2⟩:=iy (f:=f) (s:=([],0)) (λx=>∃i:Nat,x=((l.take i).map g,(i:Int))/\i<=l.length) (λe=>e=F (l.map g)) (λx=>l.length -x.2.toNat) ⟨0,rfl,l9⟩ X5 (by
  rintro x ⟨i,rfl,hi⟩;by_cases h:i<l.length
  .have e:=fH h;refine .inl ⟨((l.take (i+1)).map g,((i+1:Nat):Int)),?_,⟨i+1,rfl,h⟩,by simp;omega⟩;rw[hin i _ _ e X5,Y1 l9,V6 h,gU];rfl
  .have:i=l.length:=l9;subst this;refine .inr ⟨_,hend _,?_⟩;rw[aA])
 rw[h1,h2]
theorem KI{l:List gu}(h:l.length<=1000000):wu l=some (l.map (·.2)):=by
 unfold wu;rw[gy];refine b2Z (F:=id) l (λx=>x.2) h (λi a acc ha hacc=>?_) (λacc=>?_)
 .have hi:=(X0.1 ha).1;simp only[G9 ha,o7,E8,ha,o8];rw[MX (by simp[hacc];omega)];rfl
 .simp only[G6];rfl
def Ou(l:U4):Prop:=∀s∈l.2.2,s.1.length<=1000000/\s.2.2.1.length<=100000/\s.2.2.2.1.length<=100000/\s.2.2.2.2.length<=100000
def Js(l:U4)(s:D7):List gI×List dC×List (Int×Int)×List (Int×Int)×List (Int×Int)×Bool:=
 match(if 0<=s.2.1 then l.2.2[s.2.1.toNat]? else none)with
 |some k=>(l.1,l.2.1,s.2.2.1.map (·.2),s.2.2.2.1.map (·.2),k.2.2.2.1.map (·.2),true)|none=>(l.1,l.2.1,s.2.2.1.map (·.2),s.2.2.2.1.map (·.2),[],false)
theorem Jr{l:U4}(h:Ou l){s:D7}(hs:l.2.2[i]? =some s):qG l (i:Int)=some (Js l s):=by
 have hm:=h s (iZ hs);unfold qG Js;rw[E8,hs,o8,KI l9,o8,KI l9,o8];by_cases h0:0<=s.2.1
 .rw[Y6 h0,if_pos h0,o7];by_cases h1:s.2.1<o9 l.2.2
  .obtain⟨k,hk,hkm⟩:=nN h0 h1;have hk' :l.2.2[s.2.1.toNat]? =some k:=(pV hk).2.2.2;rw[U7 h1,o7,hk,o8,KI (by have:=h k hkm;omega),o8,hk']
  .have h1' :o9 l.2.2<=s.2.1:=jg.1 h1;rw[L8 h1',o6,iO (by simp only[o9]at h1';exact Int.le_toNat h0 |>.2 h1')]
 .have h0' :s.2.1<(0:Int):=lD.1 h0;rw[Z5 h0',if_neg h0];rfl
theorem a0w{l:U4}(h:Ou l){s:D7}(hs:l.2.2[i]? =some s):BL l (i:Int)=some (Js l s):=by have hi:=(X0.1 hs).1;rw[←Jr h hs];unfold BL qG;rw[L8 l9,Z5 (by simp only[o9];omega)];rfl
abbrev SI(l:d5Y):Prop:=l.Pairwise (·< ·)
theorem a7P:∀{a b:d5Y},SI a->SI b->(∀x,x∈a↔x∈b)->a=b
 |[],[],_,_,_=>rfl|[],y::b,_,_,h=>absurd ((h y).2 A7) A7|x::a,[],_,_,h=>absurd ((h x).1 A7) A7|x::a,y::b,ha,hb,h=>by
  have ha' :=X7.1 ha;have hb' :=X7.1 hb;have hxy:x=y:=by
   rcases D5.1 ((h x).1 A7)with h1|h1
   .exact h1
   .rcases D5.1 ((h y).2 A7)with h2|h2
    .exact h2.symm
    .have:=hb'.1 _ h1;have:=ha'.1 _ h2;omega
  subst hxy;congr 1;refine a7P ha'.2 hb'.2 λz=>⟨λhz=>?_,λhz=>?_⟩
  .rcases D5.1 ((h z).1 (by simp[hz]))with h1|h1
   .have:=ha'.1 _ hz;omega
   .exact h1
  .rcases D5.1 ((h z).2 (by simp[hz]))with h1|h1
   .have:=hb'.1 _ hz;omega
   .exact h1
def ins(n:Int):d5Y->d5Y
 |[]=>[n]|a::l=>if n<=a then(if n<a then n::a::l else a::l)else a::ins n l
theorem Uo(n x:Int):∀l,x∈ins n l↔x=n\/x∈l
 |[]=>by simp[ins]|a::l=>by
  unfold ins;by_cases h:n<=a
  .rw[if_pos h];by_cases h2:n<a
   .rw[if_pos h2];simp
   .rw[if_neg h2];have:n=a:=l9;subst this;simp
  .rw[if_neg h,D5,Uo n x l,D5];constructor
   .rintro(h|h|h)<;>simp[h]
   .rintro(h|h|h)<;>simp[h]
theorem b5J(n:Int):∀{l},SI l->SI (ins n l)
 |[],_=>List.pairwise_singleton _ _|a::l,h=>by
  have h' :=X7.1 h;unfold ins;by_cases h1:n<=a
  .rw[if_pos h1];by_cases h2:n<a
   .rw[if_pos h2];refine X7.2 ⟨λx hx=>?_,h⟩;rcases D5.1 hx with rfl|hx
    .exact h2
    .have:=h'.1 x hx;omega
   .rw[if_neg h2];exact h
  .rw[if_neg h1];refine X7.2 ⟨λx hx=>?_,b5J n h'.2⟩;rcases(Uo n x l).1 hx with rfl|hx
   .omega
   .exact h'.1 x hx
def FV(ns:d5Y)(l:d5Y):d5Y:=ns.foldl (λacc n=>ins n acc) l
theorem Ur(x:Int):∀ns l,x∈FV ns l↔x∈ns\/x∈l
 |[],l=>by simp[FV]|n::ns,l=>by
  show x∈FV ns (ins n l)↔_;rw[Ur x ns,Uo,D5];constructor
  .rintro(h|h|h)<;>simp[h]
  .rintro((h|h)|h)<;>simp[h]
theorem Yn:∀ns {l},SI l->SI (FV ns l)
 |[],_,h=>h|n::ns,_,h=>Yn ns (b5J n h)
theorem JL(a b l:d5Y):FV (a++b) l=FV b (FV a l):=xh ..
def Oo(l:d5Y):d5Y:=FV l []
theorem Pq(x:Int)(l:d5Y):x∈Oo l↔x∈l:=by unfold Oo;rw[Ur];simp
theorem a9U(l:d5Y):SI (Oo l):=Yn l List.Pairwise.nil
theorem xn(n:Int):∀l,(ins n l).length<=l.length+1
 |[]=>by simp[ins]|a::l=>by
  unfold ins;by_cases h1:n<=a
  .rw[if_pos h1];by_cases h2:n<a
   .rw[if_pos h2];simp
   .rw[if_neg h2];simp
  .rw[if_neg h1];have:=xn n l;simp only[H5];omega
theorem CV:∀ns l,(FV ns l).length<=l.length+ns.length
 |[],l=>by simp[FV]|n::ns,l=>by have h1:=CV ns (ins n l);have h2:=xn n l;show(FV ns (ins n l)).length<=_;simp only[H5];omega
theorem Pm(l:d5Y):(Oo l).length<=l.length:=by have:=CV l [];unfold Oo;simpa using this
theorem E_(n:Nat)(h:SI l)(h2:∀x∈l,0<=x/\x<n):l.length<=n:=by
 have key:∀(l:d5Y) (lo:Int),SI l->(∀x∈l,lo<=x/\x<n)->lo<=n->(l.length:Int)<=n -lo:=by
  intro l;induction l with
  |nil=>intro lo _ _ hlo;simp;omega|cons a l ih=>intro lo hs hb hlo;have h' :=X7.1 hs;have ha:=hb a A7;have:=ih (a+1) h'.2 (λx hx=>⟨by have:=h'.1 x hx;omega,(hb x (by simp[hx])).2⟩) l9;simp only[H5];omega
 have:=key l 0 h (λx hx=>h2 x hx) l9;omega
theorem YV(x:Int):∀(l:d5Y) (p:Int),(p::l).Pairwise (·<=·)->SI (p::ddp p l)/\(x∈p::ddp p l↔x∈p::l)
 |[],p,_=>⟨List.pairwise_singleton _ _,Iff.rfl⟩|a::l,p,h=>by
  have h1:=X7.1 h;obtain⟨i1,i2⟩:=YV x l a h1.2;have h2:=X7.1 h1.2;have hpa:=h1.1 a A7;unfold ddp;cases hq:x8 a p
  .rw[AA]at hq;simp only[cond_false];refine⟨X7.2 ⟨λy hy=>?_,i1⟩,?_⟩
   .rcases D5.1 hy with rfl|hy
    .omega
    .have:=(X7.1 i1).1 y hy;omega
   .rw[D5,i2,D5 (a:=x) (b:=p)]
  .rw[Y5]at hq;subst hq;simp only[cond_true];refine⟨i1,?_⟩;rw[i2];simp
theorem b2H(l:d5Y):dd (LG l)=Oo l:=by
 have hs:=Hl l;have hp:=IR l;refine a7P ?_ (a9U l) λx=>?_
 .cases he:LG l with
  |nil=>exact List.Pairwise.nil|cons a r=>rw[he]at hs;exact(YV a r a hs).1
 .rw[Pq,←hp.mem_iff];cases he:LG l with
  |nil=>exact Iff.rfl|cons a r=>rw[he]at hs;exact(YV x r a hs).2
theorem b0M(l:d5Y):(LG l).length=l.length:=(IR l).length_eq
theorem b9e(h:l.length<=1000000):o5 (IE l) (λx=>tZ x)=some (Oo l):=by unfold IE tZ;rw[show Nat.blt l.length 4611686018427387904=true from by simp[Nat.blt];omega];simp only[cond_true,o8];rw[show Nat.blt (LG l).length 4611686018427387904=true from by rw[b0M];simp[Nat.blt];omega];rw[cond_true,b2H]
def hg(l:d5Y)(i:Nat):Int:=l.getD i 0
def swp(l:d5Y)(i j:Nat):d5Y:=(l.set i (hg l j)).set j (hg l i)
theorem zQ(h:i<l.length):l[i]? =some (hg l i):=by unfold hg;rw[AB,fH h];rfl
theorem NP(l:d5Y)(i j:Nat):(swp l i j).length=l.length:=by simp[swp]
theorem a2j(hi:i<l.length)(hj:j<l.length)(k:Nat):hg (swp l i j) k=if k=j then hg l i else if k=i then hg l j else hg l k:=by
 unfold hg swp;simp only[AB,P6,um];by_cases h1:k=j
 .subst h1;simp[hj,hg,AB]
 .rw[if_neg (λh=>h1 h.symm),if_neg h1];by_cases h2:k=i
  .subst h2;simp[hi,hg,AB]
  .rw[if_neg (λh=>h2 h.symm),if_neg h2]
theorem Qe(hi:i<l.length)(hj:j<l.length):(swp l i j).Perm l:=by
 have e1:hg l i=l[i]:=by have:=zQ hi;rw[fH hi]at this;exact(ay this).symm
 have e2:hg l j=l[j]:=by have:=zQ hj;rw[fH hj]at this;exact(ay this).symm
 unfold swp;rw[e1,e2];exact List.set_set_perm hi hj
def Oq(l:d5Y)(n:Nat):Prop:=∀k,0<k->k<n->hg l ((k -1) / 2)<=hg l k
def Vl(l:d5Y)(j:Nat):Prop:=(∀k,0<k->k<l.length->k≠j->hg l ((k -1) / 2)<=hg l k)/\(0<j->∀k,0<k->k<l.length->(k -1) / 2=j->hg l ((j -1) / 2)<=hg l k)
def KW(l:d5Y)(n i:Nat):Prop:=(∀k,0<k->k<n->(k -1) / 2≠i->hg l ((k -1) / 2)<=hg l k)/\(0<i->∀k,0<k->k<n->(k -1) / 2=i->hg l ((i -1) / 2)<=hg l k)
theorem a4m(h:Vl l j)(h0:0<j)(hj:j<l.length)(hlt:hg l j<hg l ((j -1) / 2)):Vl (swp l ((j -1) / 2) j) ((j -1) / 2):=by
 have hi:(j -1) / 2<l.length:=l9;have hij:(j -1) / 2<j:=l9;generalize hp:(j -1) / 2=i at*;have G:=a2j hi hj;refine⟨λk k0 k1 k2=>?_,λi0 k k0 k1 k2=>?_⟩
 .rw[NP]at k1;rw[G k,G];by_cases a:k=j
  .subst a;rw[if_pos rfl,hp,if_neg l9,if_pos rfl];omega
  rw[if_neg a,if_neg k2];by_cases b:(k -1) / 2=j
  .rw[if_pos b];have:=h.2 h0 k k0 k1 b;rw[hp]at this;exact this
  rw[if_neg b];by_cases c:(k -1) / 2=i
  .rw[if_pos c];have:=h.1 k k0 k1 a;rw[c]at this;omega
  rw[if_neg c];exact h.1 k k0 k1 a
 .rw[NP]at k1;rw[G,G,if_neg l9,if_neg l9];have e1:=h.1 i i0 hi l9;by_cases a:k=j
  .rw[if_pos a];exact e1
  .rw[if_neg a,if_neg l9];have:=h.1 k k0 k1 a;rw[k2]at this;omega
theorem Zm(h:Vl l j)(he:j=0\/hg l ((j -1) / 2)<=hg l j):Oq l l.length:=λk k0 k1=>by
 by_cases a:k=j
 .subst a;rcases he with he|he
  .omega
  .exact he
 .exact h.1 k k0 k1 a
theorem KL(h:KW l n i)(hn:n<=l.length)(hj:(j -1) / 2=i)(hj0:0<j)(hjn:j<n)(hmin:∀k,0<k->k<n->(k -1) / 2=i->hg l j<=hg l k)(hlt:hg l j<hg l i):KW (swp l i j) n j:=by
 have G:=a2j (l:=l) (i:=i) (j:=j) l9 l9;refine⟨λk k0 k1 k2=>?_,λj0 k k0 k1 k2=>?_⟩
 .rw[G k,G,if_neg k2];by_cases a:k=j
  .rw[if_pos a,if_pos l9];omega
  rw[if_neg a];by_cases b:k=i
  .rw[if_pos b,if_neg l9];rw[b];exact h.2 l9 j hj0 hjn hj
  rw[if_neg b];by_cases c:(k -1) / 2=i
  .rw[if_pos c];exact hmin k k0 k1 c
  .rw[if_neg c];exact h.1 k k0 k1 c
 .rw[G,G,if_neg l9,if_pos hj,if_neg l9,if_neg l9];have:=h.1 k k0 k1 l9;rw[k2]at this;exact this
theorem Hg(h:KW l n i)(he:∀k,0<k->k<n->(k -1) / 2=i->hg l i<=hg l k):Oq l n:=λk k0 k1=>by
 by_cases a:(k -1) / 2=i
 .rw[a];exact he k k0 k1 a
 .exact h.1 k k0 k1 a
theorem b3b(h:Oq l n):∀k,k<n->hg l 0<=hg l k:=by
 intro k;induction k using Nat.strongRecOn with
 |ind k ih=>
  intro hk;by_cases h0:k=0
  .subst h0;exact iM _
  .have h1:=h k l9 hk;have h2:=ih ((k -1) / 2) l9 l9;omega
theorem a6Q(h:Oq l l.length)(hn:n+1=l.length):KW (swp l 0 n) n 0:=by have G:=a2j (l:=l) (i:=0) (j:=n) l9 l9;refine⟨λk k0 k1 k2=>?_,λh0=>by omega⟩;rw[G k,G,if_neg l9,if_neg k2,if_neg l9,if_neg l9];exact h k k0 l9
theorem Vb{l:List α}{a:α}(h:(l.take n)[i]? =some a):i<n/\l[i]? =some a:=by
 rw[X6]at h;split at h
 .exact⟨by assumption,h⟩
 .cases h
theorem Nl{l:List gu}(hl:l.length<=1000000)(n:Nat)(nm:d5X):wI l (n:Int) nm=some ((l.take n).any λx=>seq x.1 nm):=by
 unfold wI;refine V8 (wX (l.take n) (λx=>seq x.1 nm) true PUnit.unit X5 (λi a ha=>?_) ?_) ?_
 rotate_left 2
 .cases (l.take n).any λx=>seq x.1 nm<;>rfl
 .obtain⟨h1,h2⟩:=Vb ha;rw[U7 (show(i:Int)<n by omega),G9 h2,E8,h2];simp only[o7,o8];cases seq a.1 nm<;>rfl
 .by_cases h:n<l.length
  .have e:(l.take n).length=n:=by simp;omega
   rw[e,L8 l9];rfl
  .have e:(l.take n).length=l.length:=by simp;omega
   rw[e,G6];cases D8 (l.length:Int) (n:Int)<;>rfl
def OX(en:List gI)(f:gu)(a b:List gu):Int:=
 l7 (Ez f.1) (l7 (a.any λx=>seq x.1 f.1) 7 (l7 (b.any λx=>seq x.1 f.1) 7 (l7 (vty f.2 en) 0 8))) 2
theorem Ry{l:U4}{f:gu}{a b:List gu}(h:f.1.length<=1000000)(ha:a.length<=1000000)(hb:b.length<=1000000):yX l f a b=some (OX l.1 f a b):=by
 unfold yX OX;rw[xG h,o8,WZ _ ha,o8,WZ _ hb,o8,Ar,o8];cases Ez f.1
 .rfl
 cases a.any λx=>seq x.1 f.1
 case true=>rfl
 cases b.any λx=>seq x.1 f.1
 case true=>rfl
 cases vty f.2 l.1<;>rfl
def VD(c e:Int):Option (Int×Int):=l7 (x8 c 0) none (some (c,e))
def inP(l:U4)(s:D7)(i:Nat):Option (Int×Int):=match s.2.2.1[i]? with|some f=>VD (OX l.1 f (s.2.2.1.take i) []) (100+i:Nat)|none=>none
def a3U(l:U4)(s:D7)(i:Nat):Option (Int×Int):=match s.2.2.2.1[i]? with|some f=>VD (OX l.1 f s.2.2.1 (s.2.2.2.1.take i)) (200+i:Nat)|none=>none
def Yr(s:D7):Prop:=(∀f∈s.2.2.1,f.1.length<=1000000)/\(∀f∈s.2.2.2.1,f.1.length<=1000000)
theorem Xb{c i:Nat}(hc:c<=1000)(h:i<=1000000):x9 .i64 (c:Int) (i:Int)=((c+i:Nat):Int):=by rw[U9 O5];omega
def XM(i:Int)(r:Int×Int):Int×Int×Int×Int:=(r.1,3,i,r.2)
theorem JK{ρ ρ' :Type}(g:ρ->ρ')(n:Nat)(p:Nat->Option ρ):Z7 n (λi=>(p i).map g)=(Z7 n p).map g:=by
 unfold Z7;induction n with
 |zero=>rfl|succ n ih=>rw[dZ,mP,mP,ih];cases (List.range n).findSome? p<;>simp
def JJ(l:U4)(s:D7):Option (Int×Int):=match Z7 s.2.2.1.length (inP l s)with|some r=>some r|none=>Z7 s.2.2.2.1.length (a3U l s)
theorem f_{l:U4}{s:D7}(hs:l.2.2[i]? =some s)(h1:s.2.2.1.length<=1000)(h2:s.2.2.2.1.length<=1000)(hf:Yr s):
  Ah l (i:Int)=some (match JJ l s with|some r=>XM i r|none=>(0,0,0,0)):=by
 unfold Ah JJ;rw[E8,hs,o8];refine V8 (qY (p:=λk=>(inP l s k).map (XM i)) s.2.2.1.length l9 _ (0,0,0,0) (λk hk=>?_) ?_) ?_
 rotate_left 2
 .rw[JK];cases Z7 s.2.2.1.length (inP l s)
  case some r=>rfl
  simp only[yV,J7];refine V8 (qY (p:=λk=>(a3U l s k).map (XM i)) s.2.2.2.1.length l9 _ (0,0,0,0) (λk hk=>?_) ?_) ?_
  rotate_left 2
  .rw[JK];cases Z7 s.2.2.2.1.length (a3U l s)<;>rfl
  .have e:=fH hk;have hm:=hf.2 _ (N7 hk);simp only[G9 e,o7,E8,e,o8,rC hm,show o9 s.2.2.1=((s.2.2.1.length:Nat):Int)from rfl,Nl (show s.2.2.1.length<=1000000 by omega),Nl (show s.2.2.2.1.length<=1000000 by omega),jV,a3U,OX,VD,aA];rw[show(200:Int)=((200:Nat):Int)from rfl,Xb l9 l9];cases Ez s.2.2.2.1[k].1
   .rfl
   cases s.2.2.1.any λx=>seq x.1 s.2.2.2.1[k].1
   case true=>rfl
   cases (s.2.2.2.1.take k).any λx=>seq x.1 s.2.2.2.1[k].1
   case true=>rfl
   cases vty s.2.2.2.1[k].2 l.1<;>rfl
  .simp only[G6];rfl
 .have e:=fH hk;have hm:=hf.1 _ (N7 hk);simp only[G9 e,o7,E8,e,o8,rC hm,Nl (show s.2.2.1.length<=1000000 by omega),jV,inP,OX,VD];rw[show(100:Int)=((100:Nat):Int)from rfl,Xb l9 l9];cases Ez s.2.2.1[k].1
  .rfl
  cases (s.2.2.1.take k).any λx=>seq x.1 s.2.2.1[k].1
  case true=>rfl
  cases vty s.2.2.1[k].2 l.1<;>rfl
 .simp only[G6];rfl
def arF(op:Int):Int:=(jo op).getD 0
variable {op:Int}
theorem c0T(h:1<=op/\op<=39):∃k:Fin 40,op=(k.val:Int):=⟨⟨op.toNat,l9⟩,by simp;omega⟩
theorem c5S:∀k:Fin 40,1<=k.val->(qg (k.val:Int)=jo (k.val:Int))/\(jo (k.val:Int)=some 0\/jo (k.val:Int)=some 1\/jo (k.val:Int)=some 2\/jo (k.val:Int)=some 3):=by decide+kernel
theorem a2l(h:¬(1<=op/\op<=39))(k:Int)(h1:1<=k)(h2:k<=39):x8 op k=false:=J8 l9
theorem a9L(h:¬(1<=op/\op<=39)):jo op=some (-1):=by
 unfold jo;by_cases h1:1<=op
 .rw[Y6 h1,o7,Z5 (show(9:Int)<op by omega),o6,Z5 (show(39:Int)<op by omega),Z5 (show(30:Int)<op by omega)];simp[a2l h];cases J6 35 op<;>cases J6 11 op<;>rfl
 .rw[Z5 (show op<1 by omega),o6,Z5 (show op<35 by omega),Z5 (show op<11 by omega)];simp[a2l h]
theorem c0D(h:¬(1<=op/\op<=39)):qg op=some (-1):=by unfold qg;simp[a2l h]
theorem La(op:Int):qg op=some (arF op)/\jo op=some (arF op)/\(arF op=-1\/arF op=0\/arF op=1\/arF op=2\/arF op=3):=by
 unfold arF;by_cases h:1<=op/\op<=39
 .obtain⟨k,rfl⟩:=c0T h;obtain⟨h1,h2⟩:=c5S k l9;rcases h2 with h2|h2|h2|h2<;>rw[h1,h2]<;>simp
 .rw[c0D h,a9L h];simp
theorem YE(op:Int):qg op=some (arF op):=(La op).1
theorem l_(op:Int):jo op=some (arF op):=(La op).2.1
inductive XT where
 |l0 (n:Int×Int)|l1 (n:Int×Int) (a:XT)|l2 (n:Int×Int) (a b:XT)|l3 (n:Int×Int) (a b c:XT)
def XT.size:XT->Nat
 | .l0 _=>1| .l1 _ a=>a.size+1| .l2 _ a b=>a.size+b.size+1| .l3 _ a b c=>a.size+b.size+c.size+1
def XT.post:XT->List (Int×Int)
 | .l0 n=>[n]| .l1 n a=>a.post++[n]| .l2 n a b=>a.post++b.post++[n]| .l3 n a b c=>a.post++b.post++c.post++[n]
def XT.sts(o:Nat):XT->d5Y
 | .l0 _=>[(o:Int)]| .l1 _ a=>a.sts o++[(o:Int)]| .l2 _ a b=>a.sts o++b.sts (o+a.size)++[(o:Int)]| .l3 _ a b c=>a.sts o++b.sts (o+a.size)++c.sts (o+a.size+b.size)++[(o:Int)]
theorem XT.size_pos(t:XT):0<t.size:=by cases t<;>simp[XT.size]
theorem XT.post_len(t:XT):t.post.length=t.size:=by
 induction t with
 |l0 n=>rfl|l1 n a ha=>simp[XT.post,XT.size,ha]|l2 n a b ha hb=>simp[XT.post,XT.size,ha,hb];try omega
 |l3 n a b c ha hb hc=>simp[XT.post,XT.size,ha,hb,hc];try omega
theorem XT.sts_len(t:XT):∀o,(t.sts o).length=t.size:=by
 induction t with
 |l0 n=>intro o;rfl|l1 n a ha=>intro o;simp[XT.sts,XT.size,ha]|l2 n a b ha hb=>intro o;simp[XT.sts,XT.size,ha,hb];try omega
 |l3 n a b c ha hb hc=>intro o;simp[XT.sts,XT.size,ha,hb,hc];try omega
def jF:List XT->Nat
 |[]=>0|t::r=>jF r+t.size
def Oa:List XT->List (Int×Int)
 |[]=>[]|t::r=>Oa r++t.post
def stR:List XT->d5Y
 |[]=>[]|t::r=>stR r++t.sts (jF r)
def pJ:List XT->d5Y
 |[]=>[]|t::r=>pJ r++[(jF r:Int)]
theorem pg:∀ts,(pJ ts).length=ts.length
 |[]=>rfl|t::r=>by simp[pJ,pg r]
theorem Ip:∀ts,(stR ts).length=jF ts
 |[]=>rfl|t::r=>by simp[stR,jF,Ip r,XT.sts_len]
theorem QI:∀ts,(Oa ts).length=jF ts
 |[]=>rfl|t::r=>by simp[Oa,jF,QI r,XT.post_len]
def push(n:Int×Int)(ts:List XT):Int⊕List XT:=
 if arF n.1=0 then .inr (.l0 n::ts)
 else if arF n.1=1 then(match ts with|a::r=> .inr (.l1 n a::r)|_=> .inl 5)
 else if arF n.1=2 then(match ts with|b::a::r=> .inr (.l2 n a b::r)|_=> .inl 5)
 else if arF n.1=3 then(match ts with|c::b::a::r=> .inr (.l3 n a b c::r)|_=> .inl 5)
 else .inl 2
def yl:Nat->List (Int×Int)->List XT->(Int×Int)⊕List XT
 |_,[],ts=> .inr ts
 |i,n::es,ts=>match push n ts with
  | .inl c=> .inl ((i:Int),c)| .inr ts' =>if 12<ts'.length then .inl ((i:Int),16)else yl (i+1) es ts'
def ng(e:List (Int×Int)):(Int×Int)⊕XT:=
 if 48<e.length then .inl (0,4)else if e.length=0 then .inl (0,5)else
  match yl 0 e []with
  | .inl x=> .inl x| .inr [t]=> .inr t| .inr _=> .inl ((e.length:Int),4)
theorem a1w{n:Int×Int}{ts ts' :List XT}(h:push n ts= .inr ts'):Oa ts' =Oa ts++[n]/\ts' ≠[]:=by
 unfold push at h;split at h
 .cases h;exact⟨rfl,A7⟩
 split at h
 .split at h
  .cases h;exact⟨by simp[Oa,XT.post],A7⟩
  .cases h
 split at h
 .split at h
  .cases h;exact⟨by simp[Oa,XT.post],A7⟩
  .cases h
 split at h
 .split at h
  .cases h;exact⟨by simp[Oa,XT.post],A7⟩
  .cases h
 .cases h
theorem QK{n:Int×Int}{ts ts' :List XT}(h:push n ts= .inr ts'):jF ts' =jF ts+1:=by rw[←QI,←QI,(a1w h).1];simp
theorem Nh:∀(es:List (Int×Int)) (i:Nat) (ts ts' :List XT),yl i es ts= .inr ts' ->Oa ts' =Oa ts++es/\(ts≠[]\/es≠[]->ts' ≠[])
 |[],i,ts,ts',h=>by cases h;exact⟨A7,A7⟩|n::es,i,ts,ts',h=>by
  unfold yl at h;cases hp:push n ts with
  |inl c=>rw[hp]at h;cases h|inr t2=>
   rw[hp]at h;simp only at h;split at h
   .cases h
   .obtain⟨h1,h2⟩:=Nh es (i+1) t2 ts' h;obtain⟨h3,h4⟩:=a1w hp;exact⟨by rw[h1,h3];simp,λ_=>h2 (.inl h4)⟩
theorem Gl{e:List (Int×Int)}{t:XT}(h:ng e= .inr t):e=t.post/\e.length<=48:=by
 unfold ng at h;split at h
 .cases h
 split at h
 .cases h
 split at h
 .cases h
 .rename_i t' hp;cases h;have:=(Nh e 0 [] [t] hp).1;exact⟨by simpa[Oa]using this.symm,l9⟩
 .cases h
theorem XJ(e:List (Int×Int))(he:e.length<=48)(g:List XT->σ)(fin:List XT->ε)(rt:Int×Int->ρ){f:σ->Option (Out σ ε ρ)}
  (hs:∀(i:Nat) (n:Int×Int) (ts:List XT),e[i]? =some n->i=jF ts->ts.length<=12->f (g ts)=some (match push n ts with
   | .inl c=> .rt (rt ((i:Int),c))
   | .inr ts' =>if 12<ts'.length then .rt (rt ((i:Int),16))else .nx (g ts')))
  (hend:∀ts,jF ts=e.length->f (g ts)=some (.ex (fin ts))):
  U0 f (g [])=some (match yl 0 e []with| .inl x=> .inr (rt x)| .inr ts=> .inl (fin ts)):=by
 have key:∀(es:List (Int×Int)) (i:Nat) (ts:List XT) (k:Nat),e.drop i=es->i=jF ts->ts.length<=12->i<=e.length->es.length<k->
   qH f k (g ts)=some (match yl i es ts with| .inl x=> .inr (rt x)| .inr ts=> .inl (fin ts)):=by
  intro es;induction es with
  |nil=>
   intro i ts k hd hi hl hle hk;obtain⟨k,rfl⟩:∃k',k=k' +1:=⟨k -1,l9⟩;have:i=e.length:=by have:=congrArg List.length hd;simp at this;omega
   unfold qH;rw[hend ts l9];rfl
  |cons n es ih=>
   intro i ts k hd hi hl hle hk;obtain⟨k,rfl⟩:∃k',k=k' +1:=⟨k -1,l9⟩;have hn:e[i]? =some n:=by
    have:(e.drop i)[0]? =some n:=by rw[hd];rfl
    simpa using this
   have hlt:=(X0.1 hn).1;unfold qH;rw[hs i n ts hn hi hl];unfold yl;cases hp:push n ts with
   |inl c=>rfl|inr ts' =>
    simp only;by_cases h12:12<ts'.length
    .rw[if_pos h12,if_pos h12]
    .rw[if_neg h12,if_neg h12];exact ih (i+1) ts' k (by rw[←Z9,hd];rfl) (by rw[QK hp,hi]) l9 l9 (by simp at hk;omega)
 exact key e 0 [] kH rfl rfl A7 l9 (by unfold kH;omega)
theorem a4Q:∀(p r:List XT),∃X,pJ (p++r)=pJ r++X/\X.length=p.length/\(p≠[]->X.head?=some (jF r:Int))
 |[],r=>⟨[],A7,rfl,λh=>absurd rfl h⟩|a::p,r=>by
  obtain⟨X,h1,h2,h3⟩:=a4Q p r;refine⟨X++[(jF (p++r):Int)],?_,by simp[h2],λ_=>?_⟩
  .show pJ (p++r)++[(jF (p++r):Int)]=_;rw[h1,F8]
  .cases p with
   |nil=>simp at h2;subst h2;rfl|cons b p=>rw[List.head?_append,h3 A7];rfl
theorem VU(p r:List XT)(k:Int)(hk:k=(p.length:Int))(h:p.length+r.length<=100)(hp:p≠[]):
  H9 .i64 (o9 (pJ (p++r))) k=(r.length:Int)/\G8 (pJ (p++r)) (r.length:Int)=some (jF r:Int)/\P7 (pJ (p++r)) (U8 (r.length:Int))=some (jF r:Int)
  /\pq 0 (r.length:Int) (o9 (pJ (p++r)))=true/\oU (pJ (p++r)) (U8 0) (U8 (r.length:Int))=pJ r:=by
 obtain⟨X,h1,h2,h3⟩:=a4Q p r;have hl:(pJ (p++r)).length=r.length+p.length:=by rw[pg];simp;omega
 have hg:(pJ (p++r))[r.length]? =some (jF r:Int):=by rw[h1,I7 (by rw[pg];omega),pg,dI,←List.head?_eq_getElem?];exact h3 hp
 refine⟨?_,?_,?_,?_,?_⟩
 .simp only[o9,hl];rw[U1 O5];omega
 .rw[E8];exact hg
 .exact hg
 .simp only[pq,o9,hl,decide_eq_true_eq];omega
 .show((pJ (p++r)).take r.length).drop 0=_;rw[h1,qF,ax (by rw[pg];omega),S9 (by rw[pg];omega)]
theorem Xc(ts:List XT):D8 12 (o9 (pJ ts))=decide (12<ts.length):=by rw[show o9 (pJ ts)=((ts.length:Nat):Int) by simp[o9,pg]];exact Uf 12 ts.length
theorem jh{l:List α}(x:α)(h:l.length<=1000000):bz l [x]=some (l++[x]):=MX X5
theorem LC(ts:List XT)(k:Nat):D8 (o9 (pJ ts)) (k:Int)=decide (ts.length<k):=by rw[show o9 (pJ ts)=((ts.length:Nat):Int) by simp[o9,pg]];exact Uf _ _
def yM(e:List (Int×Int)):d5Y×Int×Int:=match ng e with| .inl x=>([],x)| .inr t=>(t.sts 0,0,0)
theorem a1t{e:List (Int×Int)}(h0:e.length≠0){K:d5Y×Int×Int->d5Y×Int×Int}(h48:¬48<e.length)
  {r:d5Y×Int×Int} (h:∀ts,yl 0 e []= .inr ts->r=l7 (D8 1 (o9 (pJ ts))) ([],o9 e,4) (stR ts,0,0)) (hi:∀x,yl 0 e []= .inl x->r=([],x)):r=yM e:=by
 unfold yM ng;rw[if_neg h48,if_neg h0];cases hp:yl 0 e []with
 |inl x=>exact hi x hp|inr ts=>
  rw[h ts hp];have:=(Nh e 0 [] ts hp).2 (.inr (by intro he;subst he;exact h0 rfl));match ts,this with
  |[t],_=>simp[pJ,o9,D8,stR,jF]|a::b::ts,_=>rw[U7 (by simp[o9,pg];omega)];rfl
theorem KR(e:List (Int×Int)):tX e=some (yM e):=by
 unfold tX;by_cases h48:48<e.length
 .rw[U7 (by simp[o9];omega),o7];unfold yM ng;rw[if_pos h48]
 by_cases h0:e.length=0
 .rw[L8 (by simp[o9];omega),o6,O0 (by simp[o9,h0]),o7];unfold yM ng;rw[if_neg h48,if_pos h0]
 rw[L8 (by simp[o9];omega),o6,J8 (by simp[o9];intro h;exact h0 (by simp[h])),o6];refine V8 (XJ e l9 (λts=>(stR ts,pJ ts,(jF ts:Int))) (λts=>(stR ts,pJ ts)) (λx=>(([]:d5Y),x)) (λi n ts hn hi hl=>?_) (λts hsz=>?_)) ?_
 rotate_left 2
 .rw[←a1t h0 h48 (K:=id) (r:=match yl 0 e []with| .inl x=>([],x)| .inr ts=>l7 (D8 1 (o9 (pJ ts))) ([],o9 e,4) (stR ts,0,0)) (λts h=>by rw[h]) (λx h=>by rw[h])];cases yl 0 e []with
  |inl x=>rfl|inr ts=>simp only[o8,J7];cases D8 1 (o9 (pJ ts))<;>rfl
 .subst hi;have hlt:=(X0.1 hn).1;have hst:=Ip ts;have hof:=pg ts;simp only[G9 hn,o7,E8,hn,o8,l_];rcases(La n.1).2.2 with h|h|h|h|h
  .rw[show push n ts= .inl 2 by simp[push,h],h];rfl
  .rw[show push n ts= .inr (.l0 n::ts) by simp[push,h],h,L8 l9,o6,L8 (Xe _),o6,o6,jh _ l9,o8,jh _ l9,o8,Y1 l9];rw[show pJ ts++[(jF ts:Int)]=pJ (.l0 n::ts)from rfl,Xc];by_cases hc:12<(XT.l0 n::ts).length
   .simp only[hc,decide_true,if_true,o7]
   .simp only[hc,decide_false,if_false,o6];rfl
  .match ts with
   |[]=>rw[show push n []= .inl 5 by simp[push,h],h];rfl|a::r=>
    obtain⟨p1,p2,p3,p4,p5⟩:=VU [a] r 1 rfl (by simp at hl ⊢;omega) A7;simp only[ae,H8]at p1 p2 p3 p4 p5;have:=Ip (a::r);have:=pg r;simp only[H5]at hl;rw[show push n (a::r)= .inr (.l1 n a::r) by simp[push,h],h,L8 l9,o6,show(1:Int)=((1:Nat):Int)from rfl,LC,show decide ((a::r).length<1)=false by simp];simp only[Int.natCast_one]at p1 ⊢;rw[o6,U7 l9,o7,p1,p2,o8,p3,o8,p4,o7,p5,jh _ l9,o8,jh _ l9,o8,Y1 l9];rw[show pJ r++[(jF r:Int)]=pJ (.l1 n a::r)from rfl,Xc];by_cases hc:12<(XT.l1 n a::r).length
    .simp only[hc,decide_true,if_true,o7]
    .simp only[hc,decide_false,if_false,o6,stR,XT.sts,F8,jF,XT.size,iq]
  .match ts with
   |[]=>rw[show push n []= .inl 5 by simp[push,h],h];rfl|[a]=>rw[show push n [a]= .inl 5 by simp[push,h],h];rfl|b::a::r=>
    obtain⟨p1,p2,p3,p4,p5⟩:=VU [b,a] r 2 rfl (by simp at hl ⊢;omega) A7;simp only[ae,H8]at p1 p2 p3 p4 p5;have:=Ip (b::a::r);have:=pg r;simp only[H5]at hl;rw[show push n (b::a::r)= .inr (.l2 n a b::r) by simp[push,h],h,L8 l9,o6,show(2:Int)=((2:Nat):Int)from rfl,LC,show decide ((b::a::r).length<2)=false by simp];rw[o6,U7 l9,o7,show((2:Nat):Int)=2 from rfl,p1,p2,o8,p3,o8,p4,o7,p5,jh _ l9,o8,jh _ l9,o8,Y1 l9];rw[show pJ r++[(jF r:Int)]=pJ (.l2 n a b::r)from rfl,Xc];by_cases hc:12<(XT.l2 n a b::r).length
    .simp only[hc,decide_true,if_true,o7]
    .simp only[hc,decide_false,if_false,o6,stR,XT.sts,F8,jF,XT.size,iq]
  .match ts with
   |[]=>rw[show push n []= .inl 5 by simp[push,h],h];rfl|[a]=>rw[show push n [a]= .inl 5 by simp[push,h],h];rfl|[b,a]=>rw[show push n [b,a]= .inl 5 by simp[push,h],h];rfl|c::b::a::r=>
    obtain⟨p1,p2,p3,p4,p5⟩:=VU [c,b,a] r 3 rfl (by simp at hl ⊢;omega) A7;simp only[ae,H8]at p1 p2 p3 p4 p5;have:=Ip (c::b::a::r);have:=pg r;simp only[H5]at hl;rw[show push n (c::b::a::r)= .inr (.l3 n a b c::r) by simp[push,h],h,L8 l9,o6,show(3:Int)=((3:Nat):Int)from rfl,LC,show decide ((c::b::a::r).length<3)=false by simp];rw[o6,U7 l9,o7,show((3:Nat):Int)=3 from rfl,p1,p2,o8,p3,o8,p4,o7,p5,jh _ l9,o8,jh _ l9,o8,Y1 l9];rw[show pJ r++[(jF r:Int)]=pJ (.l3 n a b c::r)from rfl,Xc];by_cases hc:12<(XT.l3 n a b c::r).length
    .simp only[hc,decide_true,if_true,o7]
    .simp only[hc,decide_false,if_false,o6,stR,XT.sts,F8,jF,XT.size,iq]
 .simp only[hsz,G6];rfl
def pd(l:d5Y)(k:Nat):d5Y:=l++List.replicate k 0
theorem a2C(l:d5Y)(m:Nat):G8 (pd l (m+1)) (l.length:Int)=some 0:=by rw[E8];unfold pd;rw[I7 l9,dI];rfl
theorem a2D(l:d5Y)(m:Nat):P7 (pd l (m+1)) (U8 (l.length:Int))=some 0:=by have:=a2C l m;rw[E8]at this;exact this
theorem a7l(l:d5Y)(m:Nat)(v:Int):aW (pd l (m+1)) (U8 (l.length:Int)) v=pd (l++[v]) m:=by show(l++List.replicate (m+1) 0).set l.length v=_;rw[jP _ _ l9,dI,lm];simp[pd]
theorem UF(l:d5Y)(m:Nat)(v w:Int):aW (pd (l++[v]) m) (U8 (l.length:Int)) w=pd (l++[w]) m:=by show(l++[v]++List.replicate m 0).set l.length w=_;rw[F8,jP _ _ l9,dI];simp[pd]
theorem QG(l:d5Y)(m:Nat)(v:Int):G8 (pd (l++[v]) m) (l.length:Int)=some v:=by rw[E8];unfold pd;rw[F8,I7 l9,dI];rfl
theorem PH(l:d5Y)(m:Nat)(v:Int):P7 (pd (l++[v]) m) (U8 (l.length:Int))=some v:=by have:=QG l m v;rw[E8]at this;exact this
theorem Va(e:List (Int×Int)):yS e=some (yM e):=by
 unfold yS;by_cases h48:48<e.length
 .rw[U7 (by simp[o9];omega),o7];unfold yM ng;rw[if_pos h48]
 by_cases h0:e.length=0
 .rw[L8 (by simp[o9];omega),o6,O0 (by simp[o9,h0]),o7];unfold yM ng;rw[if_neg h48,if_pos h0]
 rw[L8 (by simp[o9];omega),o6,J8 (by simp[o9];intro h;exact h0 (by simp[h])),o6];rw[show qo (o9 e) (0:Int)=some (pd (stR []) (e.length -jF [])) by simp[qo,o9,pd,stR,jF];omega,o8];refine V8 (XJ e l9 (λts=>(pd (stR ts) (e.length -jF ts),pJ ts,(jF ts:Int))) (λts=>(pd (stR ts) (e.length -jF ts),pJ ts)) (λx=>(([]:d5Y),x)) (λi n ts hn hi hl=>?_) (λts hsz=>?_)) ?_
 rotate_left 2
 .rw[←a1t h0 h48 (K:=id) (r:=match yl 0 e []with| .inl x=>([],x)| .inr ts=>l7 (D8 1 (o9 (pJ ts))) ([],o9 e,4) (stR ts,0,0)) (λts h=>by rw[h]) (λx h=>by rw[h])];cases hp:yl 0 e []with
  |inl x=>rfl|inr ts=>
   have:=(Nh e 0 [] ts hp).1;have hz:e.length -jF ts=0:=by have:=congrArg List.length this;rw[QI]at this;simp[Oa]at this;omega
   simp only[o8,J7,hz,pd,List.replicate_zero,G5];cases D8 1 (o9 (pJ ts))<;>rfl
 .subst hi;have hlt:=(X0.1 hn).1;have hst:=Ip ts;have hof:=pg ts;obtain⟨m,hm⟩:∃m,e.length -jF ts=m+1:=⟨e.length -jF ts -1,l9⟩;simp only[G9 hn,o7,E8 e,hn,o8,YE,hm];rw[←hst];simp only[a2C,a2D,o8,a7l,QG,PH,UF];rw[hst];rcases(La n.1).2.2 with h|h|h|h|h
  .rw[show push n ts= .inl 2 by simp[push,h],h];rfl
  .have e0:H9 .i64 (o9 (pJ ts)) 0=((pJ ts).length:Int):=by rw[U1 (by unfold jw o9;omega)];simp[o9]
   rw[show push n ts= .inr (.l0 n::ts) by simp[push,h],h,L8 l9,o6,L8 (Xe _),o6,o6,e0,show pq 0 ((pJ ts).length:Int) (o9 (pJ ts))=true by simp[pq,o9],o7,
    show oU (pJ ts) (U8 0) (U8 ((pJ ts).length:Int))=pJ ts by simp[oU,U8],jh _ l9,o8,Y1 l9]
   rw[show pJ ts++[(jF ts:Int)]=pJ (.l0 n::ts)from rfl,Xc];by_cases hc:12<(XT.l0 n::ts).length
   .simp only[hc,decide_true,if_true,o7]
   .simp only[hc,decide_false,if_false,o6,jF,XT.size,stR,XT.sts,show e.length -(jF ts+1)=m by omega]
  .match ts with
   |[]=>rw[show push n []= .inl 5 by simp[push,h],h];rfl|a::r=>
    obtain⟨p1,p2,p3,p4,p5⟩:=VU [a] r 1 rfl (by simp at hl ⊢;omega) A7;simp only[ae,H8]at p1 p2 p3 p4 p5;have:=Ip (a::r);have:=pg r;simp only[H5]at hl;rw[show push n (a::r)= .inr (.l1 n a::r) by simp[push,h],h,L8 l9,o6,show(1:Int)=((1:Nat):Int)from rfl,LC,show decide ((a::r).length<1)=false by simp];simp only[Int.natCast_one]at p1 ⊢;rw[o6,U7 l9,o7,p1,p2,o8,p3,o8,p4,o7,p5];rw[←hst]
    try simp only[UF,QG,PH,o8]
    rw[hst,jh _ l9,o8,Y1 l9];rw[show pJ r++[(jF r:Int)]=pJ (.l1 n a::r)from rfl,Xc];have hz:=QK (show push n (a::r)= .inr (.l1 n a::r) by simp[push,h]);by_cases hc:12<(XT.l1 n a::r).length
    .simp only[hc,decide_true,if_true,o7]
    .simp only[hc,decide_false,if_false,o6,hz,show e.length -(jF (a::r)+1)=m by omega,stR,XT.sts,F8]
  .match ts with
   |[]=>rw[show push n []= .inl 5 by simp[push,h],h];rfl|[a]=>rw[show push n [a]= .inl 5 by simp[push,h],h];rfl|b::a::r=>
    obtain⟨p1,p2,p3,p4,p5⟩:=VU [b,a] r 2 rfl (by simp at hl ⊢;omega) A7;simp only[ae,H8]at p1 p2 p3 p4 p5;have:=Ip (b::a::r);have:=pg r;simp only[H5]at hl;rw[show push n (b::a::r)= .inr (.l2 n a b::r) by simp[push,h],h,L8 l9,o6,show(2:Int)=((2:Nat):Int)from rfl,LC,show decide ((b::a::r).length<2)=false by simp];rw[o6,U7 l9,o7,show((2:Nat):Int)=2 from rfl,p1,p2,o8,p3,o8,p4,o7,p5];rw[←hst]
    try simp only[UF,QG,PH,o8]
    rw[hst,jh _ l9,o8,Y1 l9];rw[show pJ r++[(jF r:Int)]=pJ (.l2 n a b::r)from rfl,Xc];have hz:=QK (show push n (b::a::r)= .inr (.l2 n a b::r) by simp[push,h]);by_cases hc:12<(XT.l2 n a b::r).length
    .simp only[hc,decide_true,if_true,o7]
    .rw[hz,show e.length -(jF (b::a::r)+1)=m by omega,show stR (.l2 n a b::r)=stR (b::a::r)++[(jF r:Int)] by simp only[stR,XT.sts,F8,jF]];simp only[hc,decide_false,if_false,o6]
  .match ts with
   |[]=>rw[show push n []= .inl 5 by simp[push,h],h];rfl|[a]=>rw[show push n [a]= .inl 5 by simp[push,h],h];rfl|[b,a]=>rw[show push n [b,a]= .inl 5 by simp[push,h],h];rfl|c::b::a::r=>
    obtain⟨p1,p2,p3,p4,p5⟩:=VU [c,b,a] r 3 rfl (by simp at hl ⊢;omega) A7;simp only[ae,H8]at p1 p2 p3 p4 p5;have:=Ip (c::b::a::r);have:=pg r;simp only[H5]at hl;rw[show push n (c::b::a::r)= .inr (.l3 n a b c::r) by simp[push,h],h,L8 l9,o6,show(3:Int)=((3:Nat):Int)from rfl,LC,show decide ((c::b::a::r).length<3)=false by simp];rw[o6,U7 l9,o7,show((3:Nat):Int)=3 from rfl,p1,p2,o8,p3,o8,p4,o7,p5];rw[←hst]
    try simp only[UF,QG,PH,o8]
    rw[hst,jh _ l9,o8,Y1 l9];rw[show pJ r++[(jF r:Int)]=pJ (.l3 n a b c::r)from rfl,Xc];have hz:=QK (show push n (c::b::a::r)= .inr (.l3 n a b c::r) by simp[push,h]);by_cases hc:12<(XT.l3 n a b c::r).length
    .simp only[hc,decide_true,if_true,o7]
    .rw[hz,show e.length -(jF (c::b::a::r)+1)=m by omega,show stR (.l3 n a b c::r)=stR (c::b::a::r)++[(jF r:Int)] by simp only[stR,XT.sts,F8,jF]];simp only[hc,decide_false,if_false,o6]
 .simp only[hsz,G6];rfl
end
section
def VT(t:Int×Int):Prop:=t=(1,0)\/t=(2,0)\/t=(3,0)\/t=(4,0)\/t=(5,0)\/∃e,t=(6,e)
theorem Qi{t:Int×Int}{en:List gI}(h:vty t en=true):VT t:=by
 obtain⟨k,e⟩:=t;unfold vty at h;simp only at h;cases h6:x8 k 6
 .rw[h6,o6]at h;cases h1:J6 1 k<;>rw[h1]at h
  .cases h
  cases h5:J6 k 5<;>rw[h5]at h
  .cases h
  simp only[o7,Y5]at h;rw[pO]at h1 h5;subst h;have:k=1\/k=2\/k=3\/k=4\/k=5:=l9;rcases this with rfl|rfl|rfl|rfl|rfl<;>simp[VT]
 .rw[Y5]at h6;subst h6;exact .inr (.inr (.inr (.inr (.inr ⟨e,rfl⟩))))
def EN(n:Int×Int)(ops:List (Int×Int))(sg:N8):Option ((Int×Int)×Int):=
 l7 (D6 (x8 n.2 0)) (o5 (lK n.1) λu=>l7 (D6 u) (some ((0,0),2)) (cZ n ops sg)) (cZ n ops sg)
def wW(n:Int×Int)(ops:List (Int×Int))(sg:N8):Prop:=∃r:(Int×Int)×Int,Aa n ops sg=some r/\EN n ops sg=some r/\(r.2=0->VT r.1)
variable {k:Int}
theorem VT.lit(h:1<=k/\k<=5):VT (k,0):=by have:k=1\/k=2\/k=3\/k=4\/k=5:=l9;rcases this with rfl|rfl|rfl|rfl|rfl<;>simp[VT]
theorem BA(a b:Int):J6 a b= !D8 b a:=by simp only[D8,J6];rw[←decide_not];congr 1;simp
theorem Kq{α β:Type}(o:Option β)(f:α->Option β):o5 (o5 o λx=>some (Sum.inr x)) (λq=>V5 q f λr=>some r)=o:=by cases o<;>rfl
theorem VT.enum(e:Int):VT (6,e):=.inr (.inr (.inr (.inr (.inr ⟨e,rfl⟩))))
theorem ut{R E:Option ((Int×Int)×Int)}{c:Int}(hc:c≠0)(h1:R=some ((0,0),c))(h2:E=some ((0,0),c)):∃r:(Int×Int)×Int,R=some r/\E=some r/\(r.2=0->VT r.1):=⟨_,h1,h2,λh=>absurd h hc⟩
theorem nok{R E:Option ((Int×Int)×Int)}{t:Int×Int}(hv:VT t)(h1:R=some (t,0))(h2:E=some (t,0)):∃r:(Int×Int)×Int,R=some r/\E=some r/\(r.2=0->VT r.1):=⟨_,h1,h2,λ_=>hv⟩
def RR(a0:Int×Int)(a1:List (Int×Int))(a2:N8):Option ((Int×Int)×Int):=
 o5 (uw a0 a2) λ(x:Bool)=>l7 (D6 x) (some ((0,0),3)) (o5 (wV a0 a2) λ(x:Bool)=>l7 (D6 x) (some ((0,0),6))
  (l7 (x8 (o9 a1) 0) (o5 (mX a0 a2) λ(x:AP×Bool)=>l7 (D6 x.2) (some ((0,0),8)) (some (x.1,0)))
  (l7 (x8 (o9 a1) 1) (o5 (G8 a1 0) λ(x:AP)=>o5 (xw a0 x a2) λ(x:AP×Bool)=>l7 (D6 x.2) (some ((0,0),8)) (some (x.1,0)))
  (l7 (x8 (o9 a1) 2) (o5 (G8 a1 0) λ(x:AP)=>o5 (G8 a1 1) λ(x_1:AP)=>o5 (Ac a0.1 x x_1) λ(x:AP×Bool)=>l7 (D6 x.2) (some ((0,0),8)) (some (x.1,0)))
  (o5 (G8 a1 1) λ(x:AP)=>o5 (G8 a1 0) λ(x_1:AP)=>l7 (x8 x_1.1 1) (o5 (G8 a1 1) λ(x_2:AP)=>o5 (G8 a1 2) λ(x_3:AP)=>
   l7 (D6 (U6 (x8 x_2.1 x_3.1) (x8 x_2.2 x_3.2))) (some ((0,0),8)) (some (x,0))) (l7 (D6 false) (some ((0,0),8)) (some (x,0))))))))
theorem c0j(n:Int×Int)(ops:List (Int×Int))(sg:N8):Aa n ops sg=l7 (D6 (x8 n.2 0)) (o5 (iV n.1) λx=>l7 x (RR n ops sg) (some ((0,0),2))) (RR n ops sg):=by
 unfold Aa;cases x8 n.2 0
 .simp only[aJ,o7];cases iV n.1 with
  |none=>rfl|some b=>cases b<;>rfl
 .rfl
theorem PD{op N:Int}{ops:List (Int×Int)}{sg:N8}(h1:lK op=some true)(h2:iV op=some true)
  (h:∃r:(Int×Int)×Int,RR (op,N) ops sg=some r/\cZ (op,N) ops sg=some r/\(r.2=0->VT r.1)):wW (op,N) ops sg:=by
 unfold wW;rw[c0j];unfold EN;dsimp only;rw[h1,h2];cases x8 N 0<;>exact h
theorem VP{op N:Int}{ops:List (Int×Int)}{sg:N8}(h1:lK op=some false)(h2:iV op=some false)
  (h:∃r:(Int×Int)×Int,RR (op,0) ops sg=some r/\cZ (op,0) ops sg=some r/\(r.2=0->VT r.1)):wW (op,N) ops sg:=by
 unfold wW;rw[c0j];unfold EN;dsimp only;rw[h1,h2];cases hz:x8 N 0
 .exact ut (c:=2) J5 rfl rfl
 .rw[Y5]at hz;subst hz;exact h
section
variable (N:Int) (sg:N8)
theorem b3D(hk:k=1\/k=2\/k=3\/k=4\/k=5):wW (k,N) [] sg:=by
 have hv:vty (k,0) sg.1=true:=by rcases hk with rfl|rfl|rfl|rfl|rfl<;>rfl
 have hm:lK k=some true/\iV k=some true:=by rcases hk with rfl|rfl|rfl|rfl|rfl<;>exact⟨rfl,rfl⟩
 refine PD hm.1 hm.2 ?_;have key:cZ (k,N) [] sg=lU N k sg:=by rcases hk with rfl|rfl|rfl|rfl|rfl<;>exact Kq _ _
 have key2:RR (k,N) [] sg=o5 (o5 (oJ (k,0) sg.1) λ(x:AP)=>l7 (J6 x.1 N) (some (J6 N x.2)) (some false)) λ(x:Bool)=>l7 (D6 x) (some ((0,0),3)) (some ((k,0),0)):=by rcases hk with rfl|rfl|rfl|rfl|rfl<;>rfl
 rw[key,key2];unfold lU;rw[Vt,Tn,o8,o8,oG,oG];cases J6 (bnd (k,0) sg.1).1 N
 .exact ut (c:=3) J5 rfl rfl
 cases J6 N (bnd (k,0) sg.1).2
 .exact ut (c:=3) J5 rfl rfl
 .exact nok (Qi hv) rfl rfl
theorem b0X(hN:jw N):wW (6,N) [] sg:=by
 have hq:0<=N->eH .i64 N 16=N / 16:=λh=>by rw[Dz (by rw[kF h];unfold jw at*;omega),kF h]
 refine PD rfl rfl ?_;have hf:wV (6,N) sg=l7 (D8 (eH .i64 N 16) (o9 sg.1)) (o5 (G8 sg.1 (eH .i64 N 16)) λ(x:gI)=>some (D8 (eU N 16) (o9 x.2))) (some false):=rfl;have hl:mX (6,N) sg=some ((6,eH .i64 N 16),vty (6,eH .i64 N 16) sg.1):=by unfold mX;simp only[jV];rfl
 rw[show cZ (6,N) [] sg=Fq N sg from Kq _ _];unfold RR Fq;rw[hf,show uw (6,N) sg=some (J6 0 N)from rfl,hl];by_cases h0:0<=N
 .rw[L8 h0,Y6 h0,hq h0];by_cases h1:N / 16<o9 sg.1
  .obtain⟨x,hx,_⟩:=nN (show 0<=N / 16 by omega) h1;rw[U7 h1,Z5 h1,hx,show vty (6,N / 16) sg.1=true by unfold vty;simp only[Y6 (show 0<=N / 16 by omega),U7 h1];rfl];simp only[o8,oG];cases J6 (o9 x.2) (eU N 16)
   .exact nok (VT.enum (N / 16)) rfl rfl
   .exact ut (c:=6) J5 rfl rfl
  .have h1' :o9 sg.1<=N / 16:=l9;rw[L8 h1',Y6 h1'];exact ut (c:=6) J5 rfl rfl
 .rw[U7 (show N<0 by omega),Z5 (show N<0 by omega)];exact ut (c:=3) J5 rfl rfl
theorem DK(ts:List (Int×Int))(en:N8):(∃x,G8 ts N=some x/\J6 0 N=true/\D8 N (o9 ts)=true/\lw N ts en=some (l7 (vty x en.1) (x,0) ((0,0),8)))\/((J6 0 N=false\/J6 0 N=true/\D8 N (o9 ts)=false)/\lw N ts en=some ((0,0),6)):=by
 unfold lw;rw[oG N 0,BA (o9 ts) N];cases h0:J6 0 N
 .exact .inr ⟨.inl A7,rfl⟩
 cases h1:D8 N (o9 ts)
 .exact .inr ⟨.inr A7,rfl⟩
 rw[pO]at h0;rw[jX]at h1;obtain⟨x,hx,_⟩:=nN h0 h1;rw[hx];simp only[jM,Bool.not_false,o6,o7,o8,Ar];exact .inl ⟨x,rfl,A7,A7,by cases vty x en.1<;>rfl⟩
theorem b7W:wW (7,N) [] sg:=by
 refine PD rfl rfl ?_;rw[show cZ (7,N) [] sg=lw N sg.2.2.1 sg from Kq _ _];have hf:wV (7,N) sg=l7 (J6 0 N) (some (D8 N (o9 sg.2.2.1))) (some false):=rfl;unfold RR;rw[hf,show uw (7,N) sg=some true from rfl];rcases DK N sg.2.2.1 sg with⟨x,h1,h2,h3,h4⟩|⟨h1|⟨h1,h2⟩,h4⟩
 .have hl:mX (7,N) sg=some (x,vty x sg.1):=by
   unfold mX;dsimp only;rw[h1];simp only[jV];rfl
  rw[h2,h3,h4,hl];cases hv:vty x sg.1
  .exact ut (c:=8) J5 rfl rfl
  .exact nok (Qi hv) rfl rfl
 .rw[h1,h4];exact ut (c:=6) J5 rfl rfl
 .rw[h1,h2,h4];exact ut (c:=6) J5 rfl rfl
theorem b3B:wW (8,N) [] sg:=by
 refine PD rfl rfl ?_;rw[show cZ (8,N) [] sg=lw N sg.2.2.2.1 sg from Kq _ _];have hf:wV (8,N) sg=l7 (J6 0 N) (some (D8 N (o9 sg.2.2.2.1))) (some false):=rfl;unfold RR;rw[hf,show uw (8,N) sg=some true from rfl];rcases DK N sg.2.2.2.1 sg with⟨x,h1,h2,h3,h4⟩|⟨h1|⟨h1,h2⟩,h4⟩
 .have hl:mX (8,N) sg=some (x,vty x sg.1):=by
   unfold mX;dsimp only;rw[h1];simp only[jV];rfl
  rw[h2,h3,h4,hl];cases hv:vty x sg.1
  .exact ut (c:=8) J5 rfl rfl
  .exact nok (Qi hv) rfl rfl
 .rw[h1,h4];exact ut (c:=6) J5 rfl rfl
 .rw[h1,h2,h4];exact ut (c:=6) J5 rfl rfl
theorem b0W:wW (9,N) [] sg:=VP rfl rfl (nok (VT.lit (k:=5) l9) rfl rfl)
theorem a7c:wW (35,N) [] sg:=by
 refine VP rfl rfl ?_;rw[show cZ (35,0) [] sg=tJ (35,0) sg from Kq _ _];unfold RR tJ;simp only[uw,wV,mX,jV,o8];cases sg.2.2.2.2.2
 .exact ut (c:=6) J5 rfl rfl
 .exact nok (VT.lit (k:=2) l9) rfl rfl
theorem b3E(hk:k=36\/k=37\/k=38\/k=39):wW (k,N) [] sg:=by
 have hm:lK k=some true/\iV k=some true/\x8 k 35=false:=by rcases hk with rfl|rfl|rfl|rfl<;>exact⟨rfl,rfl,rfl⟩
 refine PD hm.1 hm.2.1 ?_;rw[show cZ (k,N) [] sg=tJ (k,N) sg by rcases hk with rfl|rfl|rfl|rfl<;>exact Kq _ _];have hr:RR (k,N) [] sg=o5 (l7 sg.2.2.2.2.2 (l7 (J6 0 N) (some (D8 N (o9 sg.2.2.2.2.1))) (some false)) (some false)) λ(x:Bool)=>l7 (D6 x) (some ((0,0),6))
   (o5 (mX (k,N) sg) λ(x:AP×Bool)=>l7 (D6 x.2) (some ((0,0),8)) (some (x.1,0))):=by rcases hk with rfl|rfl|rfl|rfl<;>rfl
 rw[hr];unfold tJ;rw[hm.2.2,o6];cases sg.2.2.2.2.2
 .exact ut (c:=6) J5 rfl rfl
 simp only[o7,D9,o6];rcases DK N sg.2.2.2.2.1 sg with⟨x,h1,h2,h3,h4⟩|⟨h1|⟨h1,h2⟩,h4⟩
 .rw[h2,h3,h4];have hl:mX (k,N) sg=o5 (some (l7 (x8 k 36) (l7 (vty x sg.1) (l7 (x8 x.1 2) true (x8 x.1 3)) false) (l7 (x8 k 39) (l7 (vty x sg.1) (l7 (x8 x.1 2) true (l7 (x8 x.1 3) true (l7 (x8 x.1 4) true (x8 x.1 5)))) false) (l7 (vty x sg.1) (x8 x.1 1) false)))) λb=>some (x,b):=by
   unfold mX;simp only[jV,uU,Ad];rcases hk with rfl|rfl|rfl|rfl<;>(rw[h1];simp only[x8,Int.reduceEq,decide_true,decide_false,o7,o6,o8];cases vty x sg.1<;>cases decide (x.1=2)<;>cases decide (x.1=3)<;>cases decide (x.1=4)<;>rfl)
  rw[hl];simp only[o8,oD];cases hv:vty x sg.1
  .rcases hk with rfl|rfl|rfl|rfl<;>exact ut (c:=8) J5 rfl rfl
  .have hx:=Qi hv;rcases hk with rfl|rfl|rfl|rfl<;>rcases hx with rfl|rfl|rfl|rfl|rfl|⟨e,rfl⟩ <;>
    first
    |exact nok (Qi hv) rfl rfl
    |exact ut (c:=8) J5 rfl rfl
 .rw[h1,h4];exact ut (c:=6) J5 rfl rfl
 .rw[h1,h2,h4];exact ut (c:=6) J5 rfl rfl
end
end
section
variable {a:Int×Int}{k:Int}{b:Int×Int}
section
variable (N:Int) (sg:N8)
theorem b7X(hk:k=10\/k=25\/k=31\/k=32)(ha:VT a):wW (k,N) [a] sg:=by
 have hm:lK k=some false/\iV k=some false:=by rcases hk with rfl|rfl|rfl|rfl<;>exact⟨rfl,rfl⟩
 refine VP hm.1 hm.2 ?_;rcases hk with rfl|rfl|rfl|rfl<;>rcases ha with rfl|rfl|rfl|rfl|rfl|⟨e,rfl⟩ <;>
  first
  |exact nok (VT.lit (k:=1) l9) rfl rfl
  |exact nok (VT.lit (k:=2) l9) rfl rfl
  |exact nok (VT.lit (k:=3) l9) rfl rfl
  |exact nok (VT.lit (k:=4) l9) rfl rfl
  |exact ut (c:=8) J5 rfl rfl
theorem b3A(hk:k=13\/k=23\/k=24\/k=27\/k=28\/k=29\/k=30)(ha:VT a)(hb:VT b):wW (k,N) [a,b] sg:=by
 have hm:lK k=some false/\iV k=some false:=by rcases hk with rfl|rfl|rfl|rfl|rfl|rfl|rfl<;>exact⟨rfl,rfl⟩
 refine VP hm.1 hm.2 ?_;rcases hk with rfl|rfl|rfl|rfl|rfl|rfl|rfl<;>rcases ha with rfl|rfl|rfl|rfl|rfl|⟨e,rfl⟩<;>rcases hb with rfl|rfl|rfl|rfl|rfl|⟨f,rfl⟩ <;>
  first
  |exact ut (c:=8) J5 rfl rfl
  |exact nok (VT.lit (k:=1) l9) rfl rfl
  |exact nok (VT.lit (k:=2) l9) rfl rfl
  |exact nok (VT.lit (k:=3) l9) rfl rfl
  |exact nok (VT.lit (k:=4) l9) rfl rfl
  |exact nok (VT.lit (k:=5) l9) rfl rfl
theorem b0Y(hk:k=14\/k=15\/k=16)(ha:VT a)(hb:VT b):wW (k,N) [a,b] sg:=by
 have hm:lK k=some true/\iV k=some true:=by rcases hk with rfl|rfl|rfl<;>exact⟨rfl,rfl⟩
 refine PD hm.1 hm.2 ?_;have hr:RR (k,N) [a,b] sg=o5 (l7 (J6 0 N) (some (J6 N 5)) (some false)) λx=>l7 (D6 x) (some ((0,0),3)) (o5 (Ac k a b) λx=>l7 (D6 x.2) (some ((0,0),8)) (some (x.1,0))):=by rcases hk with rfl|rfl|rfl<;>rfl
 have he:cZ (k,N) [a,b] sg=o5 (l7 (J6 0 N) (some (J6 N 5)) (some false)) λx=>l7 (D6 x) (some ((0,0),3)) (o5 (qi k [a,b]) λx=>l7 (D6 x.2) (some ((0,0),8)) (some (x.1,0))):=by
  rcases hk with rfl|rfl|rfl <;>
   (show o5 (o5 (oL N) λx=>l7 (D6 x) (some (Sum.inr (((0:Int),(0:Int)),(3:Int)))) (some (.inl ((0:Int),(0:Int))))) _=_
    unfold oL;cases J6 0 N<;>cases J6 N 5<;>rfl)
 rw[hr,he];cases J6 0 N
 .exact ut (c:=3) J5 rfl rfl
 cases J6 N 5
 .exact ut (c:=3) J5 rfl rfl
 rcases hk with rfl|rfl|rfl<;>rcases ha with rfl|rfl|rfl|rfl|rfl|⟨e,rfl⟩<;>rcases hb with rfl|rfl|rfl|rfl|rfl|⟨f,rfl⟩ <;>
  first
  |exact ut (c:=8) J5 rfl rfl
  |exact nok (VT.lit (k:=2) l9) rfl rfl
  |exact nok (VT.lit (k:=3) l9) rfl rfl
  |exact nok (VT.lit (k:=4) l9) rfl rfl
theorem b0Z(hk:k=11\/k=12\/k=17\/k=18\/k=19\/k=20\/k=21\/k=22)(ha:VT a):wW (k,N) [a,b] sg:=by
 have hm:lK k=some false/\iV k=some false:=by rcases hk with rfl|rfl|rfl|rfl|rfl|rfl|rfl|rfl<;>exact⟨rfl,rfl⟩
 refine VP hm.1 hm.2 ?_;have hr:RR (k,0) [a,b] sg=o5 (Ac k a b) λx=>l7 (D6 x.2) (some ((0,0),8)) (some (x.1,0)):=by rcases hk with rfl|rfl|rfl|rfl|rfl|rfl|rfl|rfl<;>rfl
 have he:cZ (k,0) [a,b] sg=o5 (qi k [a,b]) λx=>l7 (D6 x.2) (some ((0,0),8)) (some (x.1,0)):=by rcases hk with rfl|rfl|rfl|rfl|rfl|rfl|rfl|rfl<;>rfl
 rw[hr,he];unfold Ac qi;simp only[show G8 [a,b] 0=some a from rfl,show G8 [a,b] 1=some b from rfl,o8,Ad,uU,jR,oD];cases h1:x8 a.1 b.1
 .rcases hk with rfl|rfl|rfl|rfl|rfl|rfl|rfl|rfl<;>exact ut (c:=8) J5 rfl rfl
 cases h2:x8 a.2 b.2
 .rcases hk with rfl|rfl|rfl|rfl|rfl|rfl|rfl|rfl<;>exact ut (c:=8) J5 rfl rfl
 have ha' :=ha;rcases hk with rfl|rfl|rfl|rfl|rfl|rfl|rfl|rfl<;>rcases ha with rfl|rfl|rfl|rfl|rfl|⟨e,rfl⟩ <;>
  first
  |exact nok ha' rfl rfl
  |exact nok (VT.lit (k:=1) l9) rfl rfl
  |exact ut (c:=8) J5 rfl rfl
theorem b7V{a b c:Int×Int}(ha:VT a)(hb:VT b):wW (26,N) [a,b,c] sg:=by
 refine VP rfl rfl ?_;have hr:RR (26,0) [a,b,c] sg=l7 (x8 a.1 1) (l7 (D6 (U6 (x8 b.1 c.1) (x8 b.2 c.2))) (some ((0,0),8)) (some (b,0))) (some ((0,0),8)):=rfl;have he:cZ (26,0) [a,b,c] sg=o5 (qi 26 [a,b,c]) λx=>l7 (D6 x.2) (some ((0,0),8)) (some (x.1,0)):=rfl;have he2:qi 26 [a,b,c]=o5 (l7 (x8 a.1 1) (some (Sum.inr (b,U6 (x8 b.1 c.1) (x8 b.2 c.2)))) (some (Sum.inr (b,false)))) λ(o:AP⊕AP×Bool)=>V5 o (λ(x:AP)=>some ((0,0),false)) λ(r:AP×Bool)=>some r:=rfl;rw[hr,he,he2];cases x8 a.1 1
 .exact ut (c:=8) J5 rfl rfl
 cases x8 b.1 c.1
 .exact ut (c:=8) J5 rfl rfl
 cases x8 b.2 c.2
 .exact ut (c:=8) J5 rfl rfl
 .exact nok hb rfl rfl
theorem a4N(ha:VT a):wW (33,N) [a] sg:=by
 refine PD rfl rfl ?_;have he:cZ (33,N) [a] sg=vS (33,N) a sg:=Kq _ _;have hr:RR (33,N) [a] sg=o5 (l7 (J6 0 N) (some (D8 N (o9 sg.2.1))) (some false)) λx=>l7 (D6 x) (some ((0,0),6)) (o5 (xw (33,N) a sg) λx=>l7 (D6 x.2) (some ((0,0),8)) (some (x.1,0))):=rfl;have hs:xw (33,N) a sg=o5 (G8 sg.2.1 N) λ(x:dC)=>o5 (fC x.2.1 sg.1) λ(x_1:Bool)=>l7 x_1 (o5 (fC x.2.2.1 sg.1) λ(x_2:Bool)=>l7 x_2 (some (x.2.2.1,U6 (x8 a.1 x.2.1.1) (x8 a.2 x.2.1.2))) (some (x.2.2.1,false))) (some (x.2.2.1,false)):=rfl;rw[he,hr,hs];unfold vS;simp only[x8,Int.reduceEq,decide_false,o6,o8,J7,oG N 0,BA (o9 sg.2.1) N];cases h0:J6 0 N
 .exact ut (c:=6) J5 rfl rfl
 cases h1:D8 N (o9 sg.2.1)
 .exact ut (c:=6) J5 rfl rfl
 rw[pO]at h0;rw[jX]at h1;obtain⟨x,hx,_⟩:=nN h0 h1;simp only[o8,J7,jM,o6,hx,Ar,jV,aJ,o7];cases vty x.2.1 sg.1
 .exact ut (c:=8) J5 rfl rfl
 cases hv:vty x.2.2.1 sg.1
 .exact ut (c:=8) J5 rfl rfl
 simp only[D9,o6,o7,o8];cases U6 (decide (a.1=x.2.1.1)) (decide (a.2=x.2.1.2))
 .exact ut (c:=8) J5 rfl rfl
 .exact nok (Qi hv) rfl rfl
theorem a0n(hN:jw N)(ha:VT a):wW (34,N) [a] sg:=by
 refine PD rfl rfl ?_;have he:cZ (34,N) [a] sg=vS (34,N) a sg:=Kq _ _;have hr:RR (34,N) [a] sg=o5 (l7 (J6 0 N) (some (J6 (eU N 8) 5)) (some false)) λx=>l7 (D6 x) (some ((0,0),3)) (l7 (D6 (D8 (eH .i64 N 8) (o9 sg.2.1))) (some ((0,0),6)) (o5 (xw (34,N) a sg) λx=>l7 (D6 x.2) (some ((0,0),8)) (some (x.1,0)))):=rfl;have hs:xw (34,N) a sg=o5 (G8 sg.2.1 (eH .i64 N 8)) λ(x:dC)=>l7 (x8 a.1 3) (l7 (U6 (x8 x.2.1.1 3) (x8 x.2.1.2 0)) (some (a,U6 (x8 x.2.2.1.1 4) (x8 x.2.2.1.2 0))) (some (a,false))) (some (a,false)):=rfl;rw[he,hr,hs];unfold vS oL;by_cases h0:0<=N
 case neg=>rw[Z5 (show N<0 by omega),U7 (show N<0 by omega)];exact ut (c:=3) J5 rfl rfl
 have hq:eH .i64 N 8=N / 8:=by rw[Dz (by rw[kF h0];unfold jw at*;omega),kF h0]
 rw[Y6 h0,L8 h0,hq,AV h0];simp only[x8,Int.reduceEq,decide_true,o7,o6,Y6 (show 0<=N % 8 by omega),o8];cases J6 (N % 8) 5
 .exact ut (c:=3) J5 rfl rfl
 simp only[D9,o6,o8,J7,L8 (show 0<=N / 8 by omega),BA];cases h1:D8 (N / 8) (o9 sg.2.1)
 .exact ut (c:=6) J5 rfl rfl
 rw[jX]at h1;obtain⟨x,hx,_⟩:=nN (show 0<=N / 8 by omega) h1;simp only[hx,jM,o6,o8,J7,Ar,D9];obtain⟨nm,⟨k1,k2⟩,⟨v1,v2⟩,rows⟩:=x;dsimp only;by_cases hK:k1=3/\k2=0
 .obtain⟨rfl,rfl⟩:=hK;by_cases hV:v1=4/\v2=0
  .obtain⟨rfl,rfl⟩:=hV;rcases ha with rfl|rfl|rfl|rfl|rfl|⟨e,rfl⟩ <;>
    first
    |exact nok (VT.lit (k:=3) l9) rfl rfl
    |exact ut (c:=8) J5 rfl rfl
  .have hE:vty (v1,v2) sg.1=true->v1≠4:=λhv h=>by
    subst h;rcases Qi hv with h|h|h|h|h|⟨e,h⟩<;>cases h;exact hV ⟨rfl,rfl⟩
   have hR:U6 (decide (v1=4)) (decide (v2=0))=false:=by
    by_cases h1:v1=4
    .have:v2≠0:=λh2=>hV ⟨h1,h2⟩;simp[U6,h1,this]
    .simp[U6,h1]
   rw[hR];cases hv:vty (v1,v2) sg.1
   .rcases ha with rfl|rfl|rfl|rfl|rfl|⟨e,rfl⟩<;>exact ut (c:=8) J5 rfl rfl
   .have h4:=hE hv;rw[show decide (v1=4)=false by simp[h4]];rcases ha with rfl|rfl|rfl|rfl|rfl|⟨e,rfl⟩<;>exact ut (c:=8) J5 rfl rfl
 .have hR:U6 (decide (k1=3)) (decide (k2=0))=false:=by
   by_cases h1:k1=3
   .have:k2≠0:=λh2=>hK ⟨h1,h2⟩;simp[U6,h1,this]
   .simp[U6,h1]
  rw[hR];cases hv:vty (k1,k2) sg.1
  .rcases ha with rfl|rfl|rfl|rfl|rfl|⟨e,rfl⟩<;>exact ut (c:=8) J5 rfl rfl
  cases hw:vty (v1,v2) sg.1
  .rcases ha with rfl|rfl|rfl|rfl|rfl|⟨e,rfl⟩<;>exact ut (c:=8) J5 rfl rfl
  have h3:k1≠3:=λh=>by subst h;rcases Qi hv with h|h|h|h|h|⟨e,h⟩<;>cases h;exact hK ⟨rfl,rfl⟩
  simp only[show decide (k1=3)=false by simp[h3],D9,o6,o7,o8];cases U6 (decide (a.1=k1)) (decide (a.2=k2))
  .cases decide (a.1=3)<;>exact ut (c:=8) J5 rfl rfl
  .cases decide (a.1=3)<;>exact ut (c:=8) J5 rfl rfl
theorem a2v(n:Int×Int)(hN:jw n.2)(ops:List (Int×Int))(hv:∀t∈ops,VT t)(hl:o9 ops=arF n.1):wW n ops sg:=by
 obtain⟨op,N⟩:=n;dsimp only at hN hl;have hr:1<=op/\op<=39:=by
  by_cases h:1<=op/\op<=39
  .exact h
  .have:arF op=-1:=by unfold arF;rw[a9L h];rfl
   rw[this]at hl;simp[o9]at hl
 have hc:op=1\/op=2\/op=3\/op=4\/op=5\/op=6\/op=7\/op=8\/op=9\/op=10\/op=11\/op=12\/op=13\/op=14\/op=15\/op=16\/op=17\/op=18\/op=19\/op=20\/op=21\/op=22\/op=23\/op=24\/op=25\/op=26\/op=27\/op=28\/op=29\/op=30\/op=31\/op=32\/op=33\/op=34\/op=35\/op=36\/op=37\/op=38\/op=39:=l9;have L0:arF op=0->ops=[]:=λh=>by rw[h]at hl;simp only[o9]at hl;exact O9.1 l9
 have L1:arF op=1->∃a,ops=[a]/\VT a:=λh=>by
  rw[h]at hl;simp only[o9]at hl;match ops,hl,hv with
  |[a],_,hv=>exact⟨a,rfl,hv a A7⟩|[],hl,_=>simp at hl|a::b::r,hl,_=>simp at hl;omega
 have L2:arF op=2->∃a b,ops=[a,b]/\VT a/\VT b:=λh=>by
  rw[h]at hl;simp only[o9]at hl;match ops,hl,hv with
  |[a,b],_,hv=>exact⟨a,b,rfl,hv a A7,hv b A7⟩|[],hl,_=>simp at hl|[a],hl,_=>simp at hl|a::b::c::r,hl,_=>simp at hl;omega
 have L3:arF op=3->∃a b c,ops=[a,b,c]/\VT a/\VT b:=λh=>by
  rw[h]at hl;simp only[o9]at hl;match ops,hl,hv with
  |[a,b,c],_,hv=>exact⟨a,b,c,rfl,hv a A7,hv b A7⟩|[],hl,_=>simp at hl|[a],hl,_=>simp at hl|[a,b],hl,_=>simp at hl|a::b::c::d::r,hl,_=>simp at hl;omega
 rcases hc with rfl|rfl|rfl|rfl|rfl|rfl|rfl|rfl|rfl|rfl|rfl|rfl|rfl|rfl|rfl|rfl|rfl|rfl|rfl|rfl|rfl|rfl|rfl|rfl|rfl|rfl|rfl|rfl|rfl|rfl|rfl|rfl|rfl|rfl|rfl|rfl|rfl|rfl|rfl <;>
  first
  |(rw[L0 rfl];first|exact b3D N sg l9|exact b0X N sg hN|exact b7W N sg|exact b3B N sg|exact b0W N sg|exact a7c N sg|exact b3E N sg l9)
  |(obtain⟨a,rfl,ha⟩:=L1 rfl;first|exact b7X N sg l9 ha|exact a4N N sg ha|exact a0n N sg hN ha)
  |(obtain⟨a,b,rfl,ha,hb⟩:=L2 rfl;first|exact b3A N sg l9 ha hb|exact b0Y N sg l9 ha hb|exact b0Z N sg l9 ha)
  |(obtain⟨a,b,c,rfl,ha,hb⟩:=L3 rfl;exact b7V N sg ha hb)
end
end
section
def XT.wf:XT->Prop
 | .l0 n=>arF n.1=0| .l1 n a=>arF n.1=1/\a.wf| .l2 n a b=>arF n.1=2/\a.wf/\b.wf| .l3 n a b c=>arF n.1=3/\a.wf/\b.wf/\c.wf
theorem b8i{n:Int×Int}{ts ts' :List XT}(h:push n ts= .inr ts')(hw:∀t∈ts,t.wf):∀t∈ts',t.wf:=by
 unfold push at h;split at h
 .cases h;intro t ht;rcases D5.1 ht with rfl|ht
  .assumption
  .exact hw t ht
 split at h
 .split at h
  .cases h;intro t ht;rcases D5.1 ht with rfl|ht
   .exact⟨by assumption,hw _ A7⟩
   .exact hw t (by simp[ht])
  .cases h
 split at h
 .split at h
  .cases h;intro t ht;rcases D5.1 ht with rfl|ht
   .exact⟨by assumption,hw _ A7,hw _ A7⟩
   .exact hw t (by simp[ht])
  .cases h
 split at h
 .split at h
  .cases h;intro t ht;rcases D5.1 ht with rfl|ht
   .exact⟨by assumption,hw _ A7,hw _ A7,hw _ A7⟩
   .exact hw t (by simp[ht])
  .cases h
 .cases h
theorem a4Z:∀(es:List (Int×Int)) (i:Nat) (ts ts' :List XT),yl i es ts= .inr ts' ->(∀t∈ts,t.wf)->∀t∈ts',t.wf
 |[],i,ts,ts',h,hw=>by cases h;exact hw|n::es,i,ts,ts',h,hw=>by
  unfold yl at h;cases hp:push n ts with
  |inl c=>rw[hp]at h;cases h|inr t2=>
   rw[hp]at h;simp only at h;split at h
   .cases h
   .exact a4Z es (i+1) t2 ts' h (b8i hp hw)
variable {e:List (Int×Int)}
theorem QY{t:XT}(h:ng e= .inr t):t.wf:=by
 unfold ng at h;split at h
 .cases h
 split at h
 .cases h
 split at h
 .cases h
 .rename_i t' hp;cases h;exact a4Z e 0 [] [t] hp A7 t A7
 .cases h
def Wq(n:Int×Int)(ops:List (Int×Int))(sg:N8):(Int×Int)×Int:=(Aa n ops sg).getD ((0,0),0)
def Ja(sg:N8)(n:Int×Int)(ops:List (Int×Int))(i:Nat):(Int×Int)⊕(Int×Int):=if(Wq n ops sg).2=0 then .inr (Wq n ops sg).1 else .inl ((i:Int),(Wq n ops sg).2)
def lY(sg:N8):XT->Nat->(Int×Int)⊕(Int×Int)
 | .l0 n,o=>Ja sg n [] o
 | .l1 n a,o=>match lY sg a o with
  | .inl x=> .inl x| .inr ta=>Ja sg n [ta] (o+a.size)
 | .l2 n a b,o=>match lY sg a o with
  | .inl x=> .inl x
  | .inr ta=>match lY sg b (o+a.size)with
   | .inl x=> .inl x| .inr tb=>Ja sg n [ta,tb] (o+a.size+b.size)
 | .l3 n a b c,o=>match lY sg a o with
  | .inl x=> .inl x
  | .inr ta=>match lY sg b (o+a.size)with
   | .inl x=> .inl x
   | .inr tb=>match lY sg c (o+a.size+b.size)with
    | .inl x=> .inl x| .inr tc=>Ja sg n [ta,tb,tc] (o+a.size+b.size+c.size)
variable {i:Nat}{sg:N8}{t:Int×Int}
theorem Uu{n:Int×Int}{ops:List (Int×Int)}(hN:jw n.2)(hv:∀t∈ops,VT t)(hl:o9 ops=arF n.1)(h:Ja sg n ops i= .inr t):VT t:=by
 obtain⟨r,h1,h2,h3⟩:=a2v sg n hN ops hv hl;unfold Ja at h;split at h
 .rename_i h0;cases h;have e:Wq n ops sg=r:=by unfold Wq;rw[h1];rfl
  rw[e]at h0 ⊢;exact h3 h0
 .cases h
section
variable (e:List (Int×Int)) (sg:N8) (z:Int×Int)
def b9o(f:(Int×Int)×List (Int×Int)×Int->Option (Out ((Int×Int)×List (Int×Int)×Int) ((Int×Int)×List (Int×Int)) ((Int×Int)×Int×Int))):Prop:=
 ∀(i:Nat) (n:Int×Int) (s ops:List (Int×Int)),e[i]? =some n->i<=100->o9 ops=arF n.1->(∀t∈ops,VT t)->s.length+ops.length<=100->
  f (z,s++ops,(i:Int))=some (match Ja sg n ops i with| .inl x=> .rt ((0,0),x)| .inr t=> .nx (z,s++[t],((i+1:Nat):Int)))
theorem b1Z{f:(Int×Int)×List (Int×Int)×Int->Option (Out ((Int×Int)×List (Int×Int)×Int) ((Int×Int)×List (Int×Int)) ((Int×Int)×Int×Int))}
  (he:e.length<=48) (hI:∀n∈e,jw n.2) (hs:b9o e sg z f):∀(t:XT),t.wf->∀(pre suf s:List (Int×Int)) (k:Nat),e=pre++t.post++suf->s.length<=pre.length->
  qH f (k+t.size) (z,s,(pre.length:Int))=(match lY sg t pre.length with| .inl x=>some (.inr ((0,0),x))| .inr r=>qH f k (z,s++[r],((pre.length+t.size:Nat):Int)))/\∀r,lY sg t pre.length= .inr r->VT r:=by
 intro t;have step:∀(i k:Nat) (n:Int×Int) (s ops:List (Int×Int)),e[i]? =some n->o9 ops=arF n.1->(∀t∈ops,VT t)->s.length+ops.length<=100->
   qH f (k+1) (z,s++ops,(i:Int))=(match Ja sg n ops i with| .inl x=>some (.inr ((0,0),x))| .inr r=>qH f k (z,s++[r],((i+1:Nat):Int))):=by
  intro i k n s ops h1 h2 h3 h4;rw[qH,hs i n s ops h1 (by have:=(X0.1 h1).1;omega) h2 h3 h4];cases Ja sg n ops i<;>rfl
 have getn:∀(pre suf:List (Int×Int)) (n:Int×Int),e=pre++[n]++suf->e[pre.length]? =some n:=by intro pre suf n h;rw[h,F8,I7 l9,dI];rfl
 have mem:∀(i:Nat) (n:Int×Int),e[i]? =some n->jw n.2:=λi n h=>hI n (iZ h);induction t with
 |l0 n=>
  intro hw pre suf s k hd hl;have hn:=getn pre suf n hd;have hlen:pre.length<e.length:=(X0.1 hn).1;have hz:o9 ([]:List (Int×Int))=arF n.1:=by rw[show arF n.1=0 from hw];rfl
  have h:=step pre.length k n s [] hn hz A7 X5;rw[G5]at h;exact⟨h,λr hr=>Uu (mem _ n hn) A7 hz hr⟩
 |l1 n a iha=>
  intro hw pre suf s k hd hl;simp only[XT.post,F8]at hd;have hpa:(pre++a.post).length=pre.length+a.size:=by simp[XT.post_len]
  have hn:=getn (pre++a.post) suf n (by simpa using hd);rw[hpa]at hn;have hlen:=(X0.1 hn).1;obtain⟨i1,i2⟩:=iha hw.2 pre ([n]++suf) s (k+1) (by simpa using hd) hl;simp only[XT.size,lY];rw[show k+(a.size+1)=(k+1)+a.size by omega,i1];cases ht:lY sg a pre.length with
  |inl x=>exact⟨rfl,λr hr=>by cases hr⟩|inr ta=>
   have hz:o9 [ta]=arF n.1:=by rw[show arF n.1=1 from hw.1];rfl
   have hv:∀t∈[ta],VT t:=by simpa using i2 ta ht
   exact⟨step _ k n s [ta] hn hz hv X5,λr hr=>Uu (mem _ n hn) hv hz hr⟩
 |l2 n a b iha ihb=>
  intro hw pre suf s k hd hl;simp only[XT.post,F8]at hd;have hpa:(pre++a.post).length=pre.length+a.size:=by simp[XT.post_len]
  have hpb:(pre++a.post++b.post).length=pre.length+a.size+b.size:=by simp[XT.post_len];omega
  have hn:=getn (pre++a.post++b.post) suf n (by simpa using hd);rw[hpb]at hn;have hlen:=(X0.1 hn).1;obtain⟨i1,i2⟩:=iha hw.2.1 pre (b.post++[n]++suf) s (k+1+b.size) (by simpa using hd) hl;simp only[XT.size,lY];rw[show k+(a.size+b.size+1)=(k+1+b.size)+a.size by omega,i1];cases ht:lY sg a pre.length with
  |inl x=>exact⟨rfl,λr hr=>by cases hr⟩|inr ta=>
   have hsa:=a.size_pos;obtain⟨j1,j2⟩:=ihb hw.2.2 (pre++a.post) ([n]++suf) (s++[ta]) (k+1) (by simpa using hd) (by simp[XT.post_len];omega);rw[hpa]at j1 j2;simp only;rw[j1];cases hu:lY sg b (pre.length+a.size)with
   |inl x=>exact⟨rfl,λr hr=>by cases hr⟩|inr tb=>
    have hz:o9 [ta,tb]=arF n.1:=by rw[show arF n.1=2 from hw.1];rfl
    have hv:∀t∈[ta,tb],VT t:=by simpa using ⟨i2 ta ht,j2 tb hu⟩
    have:=step _ k n s [ta,tb] hn hz hv X5;simp only[F8,ae,H8];rw[show pre.length+(a.size+b.size+1)=pre.length+a.size+b.size+1 by omega];exact⟨this,λr hr=>Uu (mem _ n hn) hv hz hr⟩
 |l3 n a b c iha ihb ihc=>
  intro hw pre suf s k hd hl;simp only[XT.post,F8]at hd;have hpa:(pre++a.post).length=pre.length+a.size:=by simp[XT.post_len]
  have hpb:(pre++a.post++b.post).length=pre.length+a.size+b.size:=by simp[XT.post_len];omega
  have hpc:(pre++a.post++b.post++c.post).length=pre.length+a.size+b.size+c.size:=by simp[XT.post_len];omega
  have hn:=getn (pre++a.post++b.post++c.post) suf n (by simpa using hd);rw[hpc]at hn;have hlen:=(X0.1 hn).1;obtain⟨i1,i2⟩:=iha hw.2.1 pre (b.post++(c.post++([n]++suf))) s (k+1+c.size+b.size) (by simpa using hd) hl;simp only[XT.size,lY];rw[show k+(a.size+b.size+c.size+1)=(k+1+c.size+b.size)+a.size by omega,i1];have hsa:=a.size_pos;have hsb:=b.size_pos;cases ht:lY sg a pre.length with
  |inl x=>exact⟨rfl,λr hr=>by cases hr⟩|inr ta=>
   obtain⟨j1,j2⟩:=ihb hw.2.2.1 (pre++a.post) (c.post++([n]++suf)) (s++[ta]) (k+1+c.size) (by simpa using hd) (by simp[XT.post_len];omega);rw[hpa]at j1 j2;simp only;rw[j1];cases hu:lY sg b (pre.length+a.size)with
   |inl x=>exact⟨rfl,λr hr=>by cases hr⟩|inr tb=>
    obtain⟨q1,q2⟩:=ihc hw.2.2.2 (pre++a.post++b.post) ([n]++suf) (s++[ta]++[tb]) (k+1) (by simpa using hd) (by simp[XT.post_len];omega);rw[hpb]at q1 q2;simp only;rw[q1];cases hc:lY sg c (pre.length+a.size+b.size)with
    |inl x=>exact⟨rfl,λr hr=>by cases hr⟩|inr tc=>
     have hz:o9 [ta,tb,tc]=arF n.1:=by rw[show arF n.1=3 from hw.1];rfl
     have hv:∀t∈[ta,tb,tc],VT t:=by simpa using ⟨i2 ta ht,j2 tb hu,q2 tc hc⟩
     have:=step _ k n s [ta,tb,tc] hn hz hv X5;simp only[F8,ae,H8];rw[show pre.length+(a.size+b.size+c.size+1)=pre.length+a.size+b.size+c.size+1 by omega];exact⟨this,λr hr=>Uu (mem _ n hn) hv hz hr⟩
end
def nR(e:List (Int×Int))(sg:N8):(Int×Int)×Int×Int:=match ng e with
 | .inl x=>((0,0),x)
 | .inr t=>match lY sg t 0 with
  | .inl x=>((0,0),x)| .inr r=>(r,0,0)
variable {α:Type}
theorem T_(s ops:List α)(k:Int)(hk:o9 ops=k)(h:s.length+ops.length<=100):
  H9 .i64 (o9 (s++ops)) k=(s.length:Int)/\pq (s.length:Int) (o9 (s++ops)) (o9 (s++ops))=true/\oU (s++ops) (U8 (s.length:Int)) (U8 (o9 (s++ops)))=ops
  /\pq 0 (s.length:Int) (o9 (s++ops))=true/\oU (s++ops) (U8 0) (U8 (s.length:Int))=s:=by
 subst hk;refine⟨?_,?_,?_,?_,?_⟩
 .rw[U1 (by unfold jw;simp[o9];omega)];simp[o9]
 .simp[pq,o9];omega
 .show((s++ops).take (((s++ops).length:Nat):Int).toNat).drop s.length=ops;rw[U3,aA,List.drop_left]
 .simp[pq,o9];omega
 .simp[oU,U8]
theorem S_{f:(Int×Int)×List (Int×Int)×Int->Option (Out ((Int×Int)×List (Int×Int)×Int) ((Int×Int)×List (Int×Int)) ((Int×Int)×Int×Int))}
  (hI:∀n∈e,jw n.2) (hs:b9o e sg (0,0) f) (hend:∀s,f ((0,0),s,(e.length:Int))=some (.ex ((0,0),s))) (hcode:∀x,ng e= .inl x->x.2≠0):
  l7 (D6 (x8 (yM e).2.2 0)) (some ((((0:Int),(0:Int)),(yM e).2):(Int×Int)×Int×Int)) (o5 (U0 f (((0:Int),(0:Int)),([]:List (Int×Int)),(0:Int))) λ(o:(Int×Int)×List (Int×Int)⊕(Int×Int)×Int×Int)=>
   V5 o (λ(y:(Int×Int)×List (Int×Int))=>o5 (G8 y.2 0) λ(x:Int×Int)=>o5 (P7 y.2 (U8 0)) λ(x:Int×Int)=>some (x,0,0)) λ(r:(Int×Int)×Int×Int)=>some r)=some (nR e sg):=by
 unfold yM nR;cases h:ng e with
 |inl x=>simp only[J8 (hcode x h),aJ,o7]|inr t=>
  obtain⟨hp,h48⟩:=Gl h;have hw:=QY h;obtain⟨l1,_⟩:=b1Z e sg (0,0) h48 hI hs t hw [] [] [] (kH -t.size) (by simpa using hp) A7;have hsz:e.length=t.size:=by rw[hp,XT.post_len]
  have hlo:U0 f (((0:Int),(0:Int)),([]:List (Int×Int)),(0:Int))=qH f (kH -t.size+t.size) ((0,0),[],(([]:List (Int×Int)).length:Int)):=by unfold U0;rw[Nat.sub_add_cancel (by unfold kH;omega)];rfl
  simp only[O0 (rfl:(0:Int)=0),D9,o6];rw[hlo,l1];simp only[dX,bP];cases lY sg t 0 with
  |inl x=>rfl|inr r=>obtain⟨k,hk⟩:∃k,kH -t.size=k+1:=⟨kH -t.size -1,by unfold kH;omega⟩;simp only[H8];rw[hk,qH,←hsz,hend];rfl
theorem Dh{x:Int×Int}(h:ng e= .inl x):x.2≠0:=by
 have key:∀(es:List (Int×Int)) (i:Nat) (ts:List XT) (x:Int×Int),yl i es ts= .inl x->x.2≠0:=by
  intro es;induction es with
  |nil=>intro i ts x h;cases h|cons n es ih=>
   intro i ts x h;unfold yl at h;cases hp:push n ts with
   |inl c=>
    rw[hp]at h;cases h;show c≠0;unfold push at hp
    (repeat' split at hp)<;>first|(cases hp;done)|(cases hp;decide)
   |inr t2=>
    rw[hp]at h;simp only at h;split at h
    .cases h;show(16:Int)≠0;decide
    .exact ih _ _ _ h
 unfold ng at h;split at h
 .cases h;show(4:Int)≠0;decide
 split at h
 .cases h;show(5:Int)≠0;decide
 split at h
 .rename_i y hp;cases h;exact key _ _ _ _ hp
 .cases h
 .cases h;show(4:Int)≠0;decide
theorem a7x(sg:N8)(hI:∀n∈e,jw n.2):Hw e sg=some (nR e sg):=by
 unfold Hw;rw[KR,o8];refine S_ hI (λi n s ops hn hi2 hl hv hlen=>?_) (λs=>?_) (λx h=>Dh h)
 .obtain⟨r,h1,h2,h3⟩:=a2v sg n (hI n (iZ hn)) ops hv hl;obtain⟨v1,v2,v3,v4,v5⟩:=T_ s ops _ hl hlen;have e' :Wq n ops sg=r:=by unfold Wq;rw[h1];rfl
  have hi:=(X0.1 hn).1;simp only[G9 hn,o7,E8,hn,o8,l_,v1,v2,v3,v4,v5,h1];unfold Ja;rw[e'];by_cases h0:r.2=0
  .rw[if_pos h0,O0 h0];simp only[D9,o6];rw[jh _ l9,o8,Y1 l9]
  .rw[if_neg h0,J8 h0];rfl
 .rw[G6];rfl
theorem b1Y(sg:N8)(hI:∀n∈e,jw n.2):JI e sg=some (nR e sg):=by
 unfold JI;rw[Va,o8];refine S_ hI (λi n s ops hn hi2 hl hv hlen=>?_) (λs=>?_) (λx h=>Dh h)
 .obtain⟨r,h1,h2,h3⟩:=a2v sg n (hI n (iZ hn)) ops hv hl;obtain⟨v1,v2,v3,v4,v5⟩:=T_ s ops _ hl hlen;have e' :Wq n ops sg=r:=by unfold Wq;rw[h1];rfl
  have hi:=(X0.1 hn).1;simp only[G9 hn,o7,E8,hn,o8,YE,v1,v2,v3,v4,v5];unfold Ja;rw[e'];unfold EN at h2;have fin:cZ n ops sg=some r->(o5 (cZ n ops sg) λ(x_3:AP×Int)=>l7 (D6 (x8 x_3.2 0)) (some (Out.rt ((((0:Int),(0:Int)),((i:Int),x_3.2)):(Int×Int)×Int×Int)))
    (o5 (bz s [x_3.1]) λ(x_4:List AP)=>some (Out.nx (((0:Int),(0:Int)),x_4,x9 .i64 (i:Int) 1))))=
    some (match if r.2=0 then(.inr r.1:(Int×Int)⊕(Int×Int))else .inl ((i:Int),r.2)with| .inl x=>Out.rt ((0,0),x)| .inr t=>(Out.nx ((0,0),s++[t],((i+1:Nat):Int)):Out ((Int×Int)×List (Int×Int)×Int) ((Int×Int)×List (Int×Int)) ((Int×Int)×Int×Int))):=by
   intro hr;rw[hr,o8];by_cases h0:r.2=0
   .rw[if_pos h0,O0 h0];simp only[D9,o6];rw[jh _ l9,o8,Y1 l9]
   .rw[if_neg h0,J8 h0];rfl
  cases hz:x8 n.2 0
  .rw[hz]at h2;simp only[aJ,o7]at h2 ⊢;cases hu:lK n.1 with
   |none=>rw[hu]at h2;cases h2|some u=>
    rw[hu]at h2;simp only[o8]at h2 ⊢;cases u
    .simp only[aJ,o7]at h2 ⊢;cases h2;rfl
    .exact fin h2
  .rw[hz]at h2;exact fin h2
 .rw[G6];rfl
section
variable {α β σ ε ρ:Type}
theorem mQ(l:List α)(G:β->α->β)(mk:β->Int->σ)(fin:β->ε)(Inv:Nat->β->Prop){f:σ->Option (σ⊕ε)}{b:β}(hl:l.length<=1000000)(h0:Inv 0 b)
  (hin:∀(i:Nat) (a:α) (b:β),l[i]? =some a->i<=1000000->Inv i b->f (mk b (i:Int))=some (.inl (mk (G b a) ((i+1:Nat):Int)))/\Inv (i+1) (G b a))
  (hend:∀b,Inv l.length b->f (mk b (l.length:Int))=some (.inr (fin b))):
  Y8 f (mk b 0)=some (fin (l.foldl G b))/\Inv l.length (l.foldl G b):=by
 have key:∀(n i:Nat) (b:β),i<=l.length->l.length -i<n->Inv i b->uS f n (mk b (i:Int))=some (fin ((l.drop i).foldl G b))/\Inv l.length ((l.drop i).foldl G b):=by
  intro n;induction n with
  |zero=>intro i b _ h _;omega|succ n ih=>
   intro i b hi hn hI;unfold uS;by_cases h:i<l.length
   .have e:=fH h;obtain⟨h1,h2⟩:=hin i _ b e l9 hI;rw[h1,fQ h];exact ih (i+1) _ l9 l9 h2
   .have:i=l.length:=l9;subst this;rw[hend b hI,EC];exact⟨rfl,hI⟩
 have:=key kH 0 b l9 (by unfold kH;omega) h0;exact this
theorem aK{γ:Type}(l:List α)(G:β->α->β)(mk:β->Int->σ)(fin:β->ε)(Inv:Nat->β->Prop)(b:β){f:σ->Option (σ⊕ε)}{K:ε->Option γ}{r:Option γ}(hl:l.length<=1000000)(h0:Inv 0 b)
  (hin:∀(i:Nat) (a:α) (b:β),l[i]? =some a->i<=1000000->Inv i b->f (mk b (i:Int))=some (.inl (mk (G b a) ((i+1:Nat):Int)))/\Inv (i+1) (G b a))
  (hend:∀b,Inv l.length b->f (mk b (l.length:Int))=some (.inr (fin b))) (hk:Inv l.length (l.foldl G b)->K (fin (l.foldl G b))=r):o5 (Y8 f (mk b 0)) K=r:=by
 obtain⟨h1,h2⟩:=mQ l G mk fin Inv hl h0 hin hend;rw[h1];exact hk h2
def fG(G:β->α->β⊕ρ):List α->β->β⊕ρ
 |[],b=> .inl b
 |a::l,b=>match G b a with| .inl b' =>fG G l b'| .inr r=> .inr r
theorem SK(l:List α)(G:β->α->β⊕ρ)(mk:β->Int->σ)(fin:β->ε)(Inv:Nat->β->Prop){f:σ->Option (Out σ ε ρ)}{b:β}(hl:l.length<=1000000)(h0:Inv 0 b)
  (hin:∀(i:Nat) (a:α) (b:β),l[i]? =some a->i<=1000000->Inv i b->f (mk b (i:Int))=some (match G b a with| .inl b' => .nx (mk b' ((i+1:Nat):Int))| .inr r=> .rt r)/\∀b',G b a= .inl b' ->Inv (i+1) b')
  (hend:∀b,Inv l.length b->f (mk b (l.length:Int))=some (.ex (fin b))):
  U0 f (mk b 0)=some (match fG G l b with| .inl b' => .inl (fin b')| .inr r=> .inr r)/\∀b',fG G l b= .inl b' ->Inv l.length b' :=by
 have key:∀(n i:Nat) (b:β),i<=l.length->l.length -i<n->Inv i b->qH f n (mk b (i:Int))=some (match fG G (l.drop i) b with| .inl b' => .inl (fin b')| .inr r=> .inr r)/\∀b',fG G (l.drop i) b= .inl b' ->Inv l.length b' :=by
  intro n;induction n with
  |zero=>intro i b _ h _;omega|succ n ih=>
   intro i b hi hn hI;unfold qH;by_cases h:i<l.length
   .have e:=fH h;obtain⟨h1,h2⟩:=hin i _ b e l9 hI;rw[h1,fQ h];unfold fG;cases hg:G b l[i]with
    |inr r=>exact⟨rfl,λb' hb=>by cases hb⟩|inl b' =>exact ih (i+1) _ l9 l9 (h2 b' hg)
   .have:i=l.length:=l9;subst this;rw[hend b hI,EC];exact⟨rfl,λb' hb=>by cases hb;exact hI⟩
 have:=key kH 0 b l9 (by unfold kH;omega) h0;exact this
theorem jq{γ:Type}(l:List α)(G:β->α->β⊕ρ)(mk:β->Int->σ)(fin:β->ε)(Inv:Nat->β->Prop)(b:β){f:σ->Option (Out σ ε ρ)}{K:ε⊕ρ->Option γ}{r:Option γ}(hl:l.length<=1000000)(h0:Inv 0 b)
  (hin:∀(i:Nat) (a:α) (b:β),l[i]? =some a->i<=1000000->Inv i b->f (mk b (i:Int))=some (match G b a with| .inl b' => .nx (mk b' ((i+1:Nat):Int))| .inr r=> .rt r)/\∀b',G b a= .inl b' ->Inv (i+1) b')
  (hend:∀b,Inv l.length b->f (mk b (l.length:Int))=some (.ex (fin b)))
  (hk:(∀b',fG G l b= .inl b' ->Inv l.length b')->K (match fG G l b with| .inl b' => .inl (fin b')| .inr r=> .inr r)=r):o5 (U0 f (mk b 0)) K=r:=by
 obtain⟨h1,h2⟩:=SK l G mk fin Inv hl h0 hin hend;rw[h1];exact hk h2
end
def WG(c:UInt8):Bool:=decide (32<=c.toNat)&&decide (c.toNat<=126)&&decide (c.toNat≠34)
def a3r(s:d5X):Bool:=decide (s.length<=64)&&s.all WG
theorem a9g(c:UInt8):∀s:d5X,decide (0<=Lib.indexByte s c)=s.any λx=>decide (x.toNat=c.toNat)
 |[]=>by simp[Lib.indexByte]|b::l=>by
  have ih:=a9g c l;have hge:=Lib.indexByte_ge l c;rw[lM,←ih];have e:Lib.indexByte (b::l) c=if b=c then 0 else if Lib.indexByte l c=-1 then -1 else Lib.indexByte l c+1:=by rw[Lib.indexByte];simp
  rw[e];by_cases h:b=c
  .subst h;simp
  .have h2:b.toNat≠c.toNat:=λhh=>h (UInt8.toNat_inj.1 hh);rw[if_neg h,show decide (b.toNat=c.toNat)=false by simp[h2],lL];by_cases h3:Lib.indexByte l c=-1
   .rw[h3];rfl
   .rw[if_neg h3];simp;omega
theorem a5V(c:UInt8):WG c=(!D8 (c.toNat:Int) 32&&!D8 126 (c.toNat:Int)&&!x8 (c.toNat:Int) 34):=by unfold WG D8 x8;rw[gK];simp;omega
theorem Yb(s:d5X)(p:UInt8->Bool):(∀(i:Nat) (a:UInt8),s[i]? =some a->p a=true)↔s.all p=true:=by rw[kV];exact⟨λh x hx=>by obtain⟨i,hi,rfl⟩:=X9 hx;exact h i _ (fH hi),λh i a hi=>h a (iZ hi)⟩
theorem a2E{s:d5X}(h:s.length<=1000000):BN s=some (a3r s):=by
 unfold BN;refine V8 (EW s (λi a=>WG a) false PUnit.unit _ l9 (λi x hx=>?_) ?_) ?_
 rotate_left 2
 .have h5:J6 (o9 s) 64=decide (s.length<=64):=by simp only[J6,o9];congr 1;simp;omega
  unfold a3r;by_cases hw:s.all WG=true
  .rw[if_pos ((Yb s WG).2 hw),hw,o8,J7,h5,IU]
  .rw[if_neg (λh=>hw ((Yb s WG).1 h))];simp only[kU]at hw;rw[hw,Bool.and_false];rfl
 .have hi:=(X0.1 hx).1;simp only[G9 hx,o7,Ym,hx,aN,o8];rw[Y1 l9,a5V];cases D8 (x.toNat:Int) 32<;>cases D8 126 (x.toNat:Int)<;>cases x8 (x.toNat:Int) 34<;>rfl
 .rw[G6];rfl
theorem U_{s:d5X}(h:s.length<=1000000):BH s=some (a3r s):=by
 unfold BH;have h5:D8 64 (o9 s)= !decide (s.length<=64):=by simp only[D8,o9];rw[←decide_not];congr 1;simp;omega
 rw[h5,show AO s [34]=some (s.any λx=>decide (x.toNat=(34:UInt8).toNat))from congrArg some (a9g 34 s)];unfold a3r;cases decide (s.length<=64)
 .rfl
 simp only[jM,o6,o8,ik];cases h34:s.any λx=>decide (x.toNat=(34:UInt8).toNat)
 case true=>
  obtain⟨x,hx,hx2⟩:=nV.1 h34;simp only[decide_eq_true_eq]at hx2;have:s.all WG=false:=by rw[List.all_eq_false];refine⟨x,hx,?_⟩;unfold WG;rw[hx2];decide
  rw[this];rfl
 simp only[o6];refine V8 (EW s (λi a=>WG a) false PUnit.unit _ l9 (λi x hx=>?_) ?_) ?_
 rotate_left 2
 .by_cases hw:s.all WG=true
  .rw[if_pos ((Yb s WG).2 hw),hw];rfl
  .rw[if_neg (λh=>hw ((Yb s WG).1 h))];simp only[kU]at hw;rw[hw];rfl
 .have hi:=(X0.1 hx).1;have hne:x8 (x.toNat:Int) 34=false:=by
   have:=(jd.1 h34) x (iZ hx);simp only[decide_eq_true_eq]at this;exact J8 (by have h:(34:UInt8).toNat=34:=rfl;omega)
  simp only[G9 hx,o7,Ym,hx,aN,o8];rw[Y1 l9,a5V,hne];cases D8 (x.toNat:Int) 32<;>cases D8 126 (x.toNat:Int)<;>rfl
 .rw[G6];rfl
def EE(e:List (Int×Int))(sg:N8)(t:Int×Int):Int:=l7 (x8 (nR e sg).2.2 0) (l7 (U6 (x8 (nR e sg).1.1 t.1) (x8 (nR e sg).1.2 t.2)) 0 8) (nR e sg).2.2
theorem TR(sg:N8)(t:Int×Int)(hI:∀n∈e,jw n.2):xU e sg t=some (EE e sg t):=by
 unfold xU EE;rw[b1Y sg hI,o8];cases x8 (nR e sg).2.2 0
 .rfl
 simp only[D9,o6,o7];cases U6 (x8 (nR e sg).1.1 t.1) (x8 (nR e sg).1.2 t.2)<;>rfl
theorem Ua(sg:N8)(t:Int×Int)(hI:∀n∈e,jw n.2):tY e sg t=some (EE e sg t):=by
 unfold tY EE;rw[a7x sg hI,o8];cases x8 (nR e sg).2.2 0
 .rfl
 simp only[D9,o6,o7];cases U6 (x8 (nR e sg).1.1 t.1) (x8 (nR e sg).1.2 t.2)<;>rfl
def a1O(r:aC):Prop:=r.1.length<=4611686018427387904/\r.2.2.2.2.2.2.2.length<=1000000/\(∀n∈r.2.2.2.2.2.1,jw n.2)/\(∀n∈r.2.2.2.2.2.2.1,jw n.2)
def Sz(rs:List aC)(d:Int):Nat:=rs.countP λo=>x8 o.2.1 d
def OV(r:aC)(sg:N8)(t:Int×Int):Int:=
 l7 (D8 0 (o9 r.2.2.2.2.2.1)) (l7 (x8 (EE r.2.2.2.2.2.1 sg (1,0)) 0) (EE r.2.2.2.2.2.2.1 sg t) (EE r.2.2.2.2.2.1 sg (1,0))) (EE r.2.2.2.2.2.2.1 sg t)
def Jm(s:D7)(sg:N8)(k:Nat)(r:aC):Int:=
 l7 (Ez r.1) (l7 ((s.2.2.2.2.take k).any λx=>seq x.1 r.1) 7 (match G8 s.2.2.2.1 r.2.1 with
  |none=>6|some d=>l7 (l7 (x8 r.2.2.1 (-1)) false (l7 (D8 r.2.2.1 0) true (l7 (J6 k r.2.2.1) true (match G8 s.2.2.2.2 r.2.2.1 with|some q=>D6 (x8 q.2.1 r.2.1)|none=>true)))) 9
   (l7 (D8 r.2.2.2.1 0) 3 (l7 (D8 9 r.2.2.2.1) 3 (l7 (Ju r.2.2.2.2.1) (l7 (x8 r.2.2.2.2.1.1 r.2.2.2.2.1.2) 3
    (l7 (J6 8 (Sz (s.2.2.2.2.take k) r.2.1)) 4 (l7 (a3r r.2.2.2.2.2.2.2) (OV r sg d.2) 2))) 3))))) 2
theorem kD{l:List α}{i:Int}(h:J6 0 i=false\/D8 i (o9 l)=false):G8 l i=none:=by
 unfold G8
 split
 .rename_i h0;rcases h with h|h
  .rw[Gw]at h;omega
  .rw[iE]at h;simp only[o9]at h;exact iO l9
 .rfl
variable {s:D7}{r:aC}{k:Nat}
theorem a1W(sg:N8)(hr:s.2.2.2.2[k]? =some r)(hl:s.2.2.2.2.length<=100000)(h:a1O r):Fz s (k:Int) sg=some (Jm s sg k r):=by
 have hk:=(X0.1 hr).1;have hcnt:Sz (s.2.2.2.2.take k) r.2.1<=100000:=by have:=rU (l:=s.2.2.2.2.take k) (p:=λ(o:aC)=>x8 o.2.1 r.2.1);unfold Sz;simp at this;omega
 unfold Fz;rw[E8,hr,o8,CW l9,o8];refine V8 (mQ (s.2.2.2.2.take k) (λ(c:Nat) (o:aC)=>l7 (x8 o.2.1 r.2.1) (c+1) c) (λc i=>((c:Int),i)) (λc=>(c:Int)) (λi c=>c<=i) (b:=0) X5 l9 (λi a c ha hi hc=>?_) (λc hc=>?_)).1 ?_
 rotate_left 2
 .have hf:∀(l:List aC) (c:Nat),l.foldl (λ(c:Nat) (o:aC)=>l7 (x8 o.2.1 r.2.1) (c+1) c) c=c+Sz l r.2.1:=by
   intro l;induction l with
   |nil=>intro c;rfl|cons a l ih=>intro c;rw[J9,ih];unfold Sz;rw[sO];cases x8 a.2.1 r.2.1<;>simp<;>omega
  rw[hf,bP,o8,KX h.1,o8,o8,a6O _ X5,o8];unfold Jm;cases Ez r.1
  .rfl
  simp only[D9,o6,o7,o8];cases (s.2.2.2.2.take k).any λx=>seq x.1 r.1
  case true=>rfl
  simp only[o6];rw[oG r.2.1 0,BA (o9 s.2.2.2.1) r.2.1];cases h0:J6 0 r.2.1
  .rw[kD (.inl h0)];rfl
  cases h1:D8 r.2.1 (o9 s.2.2.2.1)
  .rw[kD (.inr h1)];rfl
  obtain⟨d,hd,_⟩:=nN (pO.1 h0) (jX.1 h1);rw[hd];simp only[jM,o6,o8,U_ h.2.1];have hpar:(l7 (D6 (x8 r.2.2.1 (-1))) (l7 (D8 r.2.2.1 0) (some true) (l7 (J6 (k:Int) r.2.2.1) (some true) (o5 (G8 s.2.2.2.2 r.2.2.1) λ(x_6:aC)=>some (D6 (x8 x_6.2.1 r.2.1))))) (some false))=
    some (l7 (x8 r.2.2.1 (-1)) false (l7 (D8 r.2.2.1 0) true (l7 (J6 k r.2.2.1) true (match G8 s.2.2.2.2 r.2.2.1 with|some q=>D6 (x8 q.2.1 r.2.1)|none=>true)))):=by
   cases x8 r.2.2.1 (-1)
   case true=>rfl
   simp only[aJ,o7,o6];cases hp0:D8 r.2.2.1 0
   case true=>rfl
   cases hp1:J6 (k:Int) r.2.2.1
   case true=>rfl
   rw[iE]at hp0;rw[Gw]at hp1;obtain⟨q,hq,_⟩:=nN (l:=s.2.2.2.2) hp0 (by simp only[o9];omega);rw[hq];rfl
  rw[hpar,o8];cases (l7 (x8 r.2.2.1 (-1)) false (l7 (D8 r.2.2.1 0) true (l7 (J6 k r.2.2.1) true (match G8 s.2.2.2.2 r.2.2.1 with|some q=>D6 (x8 q.2.1 r.2.1)|none=>true))))
  case true=>rfl
  simp only[o6];cases D8 r.2.2.2.1 0
  case true=>rfl
  simp only[o6,o8];cases D8 9 r.2.2.2.1
  case true=>rfl
  simp only[o6];have hval:∀(A B:Option (aC⊕Int)),l7 (D8 r.2.2.2.2.1.1 0) A (l7 (J6 r.2.2.2.2.1.2 r.2.2.2.2.1.1) A (l7 (D8 109573 r.2.2.2.2.1.2) A B))=l7 (Ju r.2.2.2.2.1) (l7 (x8 r.2.2.2.2.1.1 r.2.2.2.2.1.2) A B) A:=by
   intro A B;unfold Ju;by_cases v0:r.2.2.2.2.1.1<(0:Int)
   .rw[U7 v0,Z5 (show r.2.2.2.2.1.1<(0:Int)from v0)];rfl
   rw[L8 (jg.1 v0),Y6 (jg.1 v0)];by_cases v1:(r.2.2.2.2.1.2:Int)<=r.2.2.2.2.1.1
   .rw[Y6 v1];by_cases v2:(r.2.2.2.2.1.1:Int)<=r.2.2.2.2.1.2
    .rw[Y6 v2,O0 (Int.le_antisymm v2 v1)];cases J6 r.2.2.2.2.1.2 109573<;>rfl
    .rw[Z5 (lD.1 v2)];rfl
   .have v1' :=lD.1 v1;rw[Z5 v1',Y6 (Int.le_of_lt v1'),J8 (λhh=>by rw[hh]at v1';exact Int.lt_irrefl _ v1'),oG];cases J6 r.2.2.2.2.1.2 109573<;>rfl
  rw[hval];cases Ju r.2.2.2.2.1
  .rfl
  cases x8 r.2.2.2.2.1.1 r.2.2.2.2.1.2
  case true=>rfl
  simp only[o7,o6];cases J6 8 ((Sz (s.2.2.2.2.take k) r.2.1:Nat):Int)
  case true=>rfl
  cases a3r r.2.2.2.2.2.2.2
  .rfl
  simp only[D9,o6,o7,o8,J7,OV,hd,TR sg _ h.2.2.1,TR sg _ h.2.2.2];cases D8 0 (o9 r.2.2.2.2.2.1)
  .rfl
  simp only[o7];cases x8 (EE r.2.2.2.2.2.1 sg (1,0)) 0<;>rfl
 .have hc' :c<=1000000:=l9;obtain⟨ha1,ha2⟩:=Vb ha;simp only[G9 ha,o7,E8,ha,o8];rw[Y1 (show i<=9000000000000000000 by omega),Y1 (show c<=9000000000000000000 by omega)];cases x8 a.2.1 r.2.1
  .exact⟨rfl,by show c<=i+1;omega⟩
  .exact⟨rfl,by show c+1<=i+1;omega⟩
 .simp only[G6];rfl
theorem a7q(s:D7)(d:Int):Gg s d=some (l7 (J6 0 d) (D8 d (o9 s.2.2.2.1)) false):=by unfold Gg;cases J6 0 d<;>rfl
theorem a0Q(r:aC):∀(l:List aC) (c:Nat),fG (λ(c:Nat) (o:aC)=>l7 (seq o.1 r.1) (.inr (7:Int)) (.inl (l7 (x8 o.2.1 r.2.1) (c+1) c))) l c=l7 (l.any λx=>seq x.1 r.1) (.inr 7) (.inl (c+Sz l r.2.1))
 |[],c=>rfl|a::l,c=>by
  unfold fG;rw[lM];cases seq a.1 r.1
  case true=>rfl
  simp only[o6,lL];rw[a0Q r l];unfold Sz;rw[sO];cases x8 a.2.1 r.2.1
  .simp only[o6,df,if_false,aB]
  .simp only[o7,if_true];rw[show c+1+List.countP (λo=>x8 o.2.1 r.2.1) l=c+(List.countP (λo=>x8 o.2.1 r.2.1) l+1) by omega]
variable {l:U4}
theorem a0v(hL:Ou l)(hs:l.2.2[i]? =some s)(hr:s.2.2.2.2[k]? =some r)(h:a1O r):BO l (i:Int) (k:Int)=some (Jm s (Js l s) k r):=by
 have hk:=(X0.1 hr).1;have hl:=(hL s (iZ hs)).2.2.2;have hcnt:Sz (s.2.2.2.2.take k) r.2.1<=100000:=by have:=rU (l:=s.2.2.2.2.take k) (p:=λ(o:aC)=>x8 o.2.1 r.2.1);unfold Sz;simp at this;omega
 unfold BO Jm;rw[E8,hs,o8,E8,hr,o8,JV h.1,o8];cases Ez r.1
 .rfl
 simp only[D9,o6,o7];refine V8 (SK (s.2.2.2.2.take k) (λ(c:Nat) (o:aC)=>l7 (seq o.1 r.1) (.inr (7:Int)) (.inl (l7 (x8 o.2.1 r.2.1) (c+1) c))) (λc i=>((c:Int),i)) (λc=>(c:Int)) (λi c=>c<=i) (b:=0) X5 l9 (λj a c ha hi hc=>?_) (λc hc=>?_)).1 ?_
 rotate_left 2
 .rw[a0Q];cases (s.2.2.2.2.take k).any λx=>seq x.1 r.1
  case true=>rfl
  simp only[o6,bP,o8,J7];rw[oG r.2.1 0,BA (o9 s.2.2.2.1) r.2.1];cases h0:J6 0 r.2.1
  .rw[kD (.inl h0)];rfl
  cases h1:D8 r.2.1 (o9 s.2.2.2.1)
  .rw[kD (.inr h1)];rfl
  obtain⟨d,hd,_⟩:=nN (pO.1 h0) (jX.1 h1);rw[hd];simp only[jM,o6,o8,J7];have hpar:(l7 (D6 (x8 r.2.2.1 (-1))) (l7 (D8 r.2.2.1 0) (some (Sum.inr (9:Int))) (l7 (J6 (k:Int) r.2.2.1) (some (.inr 9)) (o5 (G8 s.2.2.2.2 r.2.2.1) λ(x:aC)=>l7 (D6 (x8 x.2.1 r.2.1)) (some (.inr 9)) (some (.inl PUnit.unit))))) (some (.inl PUnit.unit)))=
    some (l7 (l7 (x8 r.2.2.1 (-1)) false (l7 (D8 r.2.2.1 0) true (l7 (J6 k r.2.2.1) true (match G8 s.2.2.2.2 r.2.2.1 with|some q=>D6 (x8 q.2.1 r.2.1)|none=>true)))) (.inr 9) (.inl PUnit.unit)):=by
   cases x8 r.2.2.1 (-1)
   case true=>rfl
   simp only[aJ,o7,o6];cases hp0:D8 r.2.2.1 0
   case true=>rfl
   cases hp1:J6 (k:Int) r.2.2.1
   case true=>rfl
   rw[iE]at hp0;rw[Gw]at hp1;obtain⟨q,hq,_⟩:=nN (l:=s.2.2.2.2) hp0 (by simp only[o9];omega);rw[hq];simp only[o8,o6];cases x8 q.2.1 r.2.1<;>rfl
  rw[hpar,o8];cases (l7 (x8 r.2.2.1 (-1)) false (l7 (D8 r.2.2.1 0) true (l7 (J6 k r.2.2.1) true (match G8 s.2.2.2.2 r.2.2.1 with|some q=>D6 (x8 q.2.1 r.2.1)|none=>true))))
  case true=>rfl
  simp only[o6,J7];cases D8 r.2.2.2.1 0
  case true=>rfl
  cases D8 9 r.2.2.2.1
  case true=>rfl
  simp only[o6,Nq,o8];cases Ju r.2.2.2.2.1
  .rfl
  cases x8 r.2.2.2.2.1.1 r.2.2.2.2.1.2
  case true=>rfl
  simp only[D9,o7,o6,o8,J7];cases J6 8 ((Sz (s.2.2.2.2.take k) r.2.1:Nat):Int)
  case true=>rfl
  simp only[o6,a2E h.2.1,o8];cases a3r r.2.2.2.2.2.2.2
  .rfl
  simp only[D9,o6,o7,o8,a0w hL hs,OV,hd,Ua (Js l s) _ h.2.2.1,Ua (Js l s) _ h.2.2.2];cases D8 0 (o9 r.2.2.2.2.2.1)
  .rfl
  simp only[o7];cases x8 (EE r.2.2.2.2.2.1 (Js l s) (1,0)) 0<;>rfl
 .obtain⟨ha1,ha2⟩:=Vb ha;simp only[U7 (show(j:Int)<(k:Int) by omega),o7,E8,ha2,o8];rw[Y1 (show j<=9000000000000000000 by omega),Y1 (show c<=9000000000000000000 by omega)];cases seq a.1 r.1
  .cases x8 a.2.1 r.2.1
   .exact⟨rfl,λb' hb=>by cases hb;show c<=j+1;omega⟩
   .exact⟨rfl,λb' hb=>by cases hb;show c+1<=j+1;omega⟩
  .exact⟨rfl,λb' hb=>by cases hb⟩
 .have e:(s.2.2.2.2.take k).length=k:=by simp;omega
  simp only[e,L8 (show(k:Int)<=(k:Int) by omega)];rfl
structure SmS (s:D7):Prop where
 nm:s.1.length<=1000000
 ni:s.2.2.1.length<=14
 nd:s.2.2.2.1.length<=14
 nr:s.2.2.2.2.length<=96
 fo:Yr s
 ro:∀r∈s.2.2.2.2,a1O r/\r.2.2.2.2.2.1.length<=50/\r.2.2.2.2.2.2.1.length<=50
theorem a2N:qV=lH:=rfl
def SH(n:Int)(b:d5Y×Bool)(a:Int):d5Y×Bool:=l7 b.2 (b.1++[a],true) (l7 (J6 n a) (l7 (D8 n a) (b.1++[n]++[a],true) (b.1++[a],true)) (b.1++[a],false))
theorem a6S(n:Int):∀(l p:d5Y),l.foldl (SH n) (p,true)=(p++l,true)
 |[],p=>by simp|a::l,p=>by rw[J9,show SH n (p,true) a=(p++[a],true)from rfl,a6S n l];simp
theorem b3g(n:Int):∀(l p:d5Y),(l7 (l.foldl (SH n) (p,false)).2 (l.foldl (SH n) (p,false)).1 ((l.foldl (SH n) (p,false)).1++[n]))=p++ins n l
 |[],p=>rfl|a::l,p=>by
  rw[J9];unfold ins;by_cases h1:n<=a
  .rw[if_pos h1];by_cases h2:n<a
   .rw[if_pos h2,show SH n (p,false) a=(p++[n]++[a],true) by simp[SH,Y6 h1,U7 h2],a6S];simp
   .rw[if_neg h2,show SH n (p,false) a=(p++[a],true) by simp[SH,Y6 h1,L8 (show a<=n by omega)],a6S];simp
  .rw[if_neg h1,show SH n (p,false) a=(p++[a],false) by simp[SH,Z5 (show a<n by omega)],b3g n l];simp
theorem Ce{l:d5Y}(n:Int)(hl:l.length<=1000000):lH l n=some (ins n l):=by
 unfold lH;refine aK l (SH n) (λb i=>(b.1,b.2,i)) (λb=>b) (λi b=>b.1.length<=i+1/\(b.2=false->b.1.length<=i)) (([],false):d5Y×Bool) hl A7 (λi a b ha hi hI=>?_) (λb hI=>?_) (λh2=>?_)
 .obtain⟨o,d⟩:=b;simp only at hI;simp only[G9 ha,o7,E8,ha,o8];rw[Y1 l9];cases d
  .simp only[aJ,o7,SH,o6];have:=hI.2 rfl;cases J6 n a
   .rw[o6,jh a (show o.length<=1000000 by omega)];exact⟨rfl,by simp<;>omega,by simp<;>omega⟩
   .rw[o7];cases D8 n a
    .rw[o6,jh a (show o.length<=1000000 by omega)];exact⟨rfl,by simp<;>omega,A7⟩
    .rw[o7,jh n (show o.length<=1000000 by omega),o8,MX X5];exact⟨rfl,by simp<;>omega,A7⟩
  .simp only[D9,o6,SH,o7];rw[MX X5];exact⟨rfl,by simp<;>omega,A7⟩
 .simp only[G6];rfl
 .have hf:=b3g n l [];generalize l.foldl (SH n) ([],false)=b at*;obtain⟨o,d⟩:=b;cases d
  .simp only[o6,H8]at hf;simp only[aJ,o7];rw[jh _ (by simp at h2;omega),hf];rfl
  .simp only[o7,H8]at hf;simp only[D9,o6,hf]
def isM(op:Int):Bool:=l7 (J6 36 op) (J6 op 39) false
theorem c0H(op:Int):isM op=l7 (x8 op 36) true (l7 (x8 op 37) true (l7 (x8 op 38) true (x8 op 39))):=by
 unfold isM;by_cases h1:36<=op
 .rw[Y6 h1,o7];by_cases h2:op<=39
  .rw[Y6 h2];have:op=36\/op=37\/op=38\/op=39:=l9;rcases this with rfl|rfl|rfl|rfl<;>rfl
  .rw[Z5 l9,J8 l9,J8 l9,J8 l9,J8 l9];rfl
 .rw[Z5 l9,J8 l9,J8 l9,J8 l9,J8 l9];rfl
def Uw(p:Int->Bool)(e:List (Int×Int)):d5Y:=(e.filter λn=>p n.1).map (·.2)
def uZ(e:List (Int×Int)):d5Y×d5Y×d5Y:=(Oo (Uw (λo=>x8 o 7) e),Oo (Uw (λo=>x8 o 8) e),Oo (Uw isM e))
def b1A(g:d5Y->Int->d5Y)(b:d5Y×d5Y×d5Y)(n:Int×Int):d5Y×d5Y×d5Y:=
 (l7 (x8 n.1 7) (g b.1 n.2) b.1,l7 (x8 n.1 8) (g b.2.1 n.2) b.2.1,l7 (isM n.1) (g b.2.2 n.2) b.2.2)
theorem VZ(g:d5Y->Int->d5Y):∀(e:List (Int×Int)) (b:d5Y×d5Y×d5Y),e.foldl (b1A g) b=((Uw (λo=>x8 o 7) e).foldl g b.1,(Uw (λo=>x8 o 8) e).foldl g b.2.1,(Uw isM e).foldl g b.2.2)
 |[],b=>rfl|n::e,b=>by
  have hn:∀p:Int->Bool,Uw p (n::e)=l7 (p n.1) (n.2::Uw p e) (Uw p e):=λp=>by unfold Uw;rw[dF];cases p n.1<;>rfl
  rw[J9,VZ g e,hn,hn,hn];unfold b1A;simp only;cases x8 n.1 7<;>cases x8 n.1 8<;>cases isM n.1<;>rfl
theorem a0S:∀(l b:d5Y),l.foldl (λacc n=>acc++[n]) b=b++l
 |[],b=>by simp|a::l,b=>by rw[J9,a0S l];simp
theorem KN{a k:Int}(h:a=k)(m:Int)(hm:k≠m):x8 a m=false:=J8 l9
theorem JF{l:d5Y}(hl:l.length<=1000000):xQ l=some (Oo l):=by unfold xQ;have:=b9e (l:=l) hl;rw[show(λx=>o5 (tZ x) λ(x:d5Y)=>some x)=λx=>tZ x from funext λx=>gy _];exact this
theorem FN(h:e.length<=1000000):qh e=some (uZ e):=by
 unfold qh;refine aK e (b1A (λacc n=>acc++[n])) (λb i=>(b.1,b.2.1,b.2.2,i)) (λb=>b) (λi b=>b.1.length<=i/\b.2.1.length<=i/\b.2.2.length<=i) (([],[],[]):d5Y×d5Y×d5Y) h A7 (λi a b ha hi hI=>?_) (λb hI=>?_) (λh2=>?_)
 .obtain⟨b1,b2,b3⟩:=b;simp only at hI;simp only[G9 ha,o7,E8,ha,o8,jh a.2 (show b1.length<=1000000 by omega),jh a.2 (show b2.length<=1000000 by omega),jh a.2 (show b3.length<=1000000 by omega),b1A,c0H];rw[Y1 l9];by_cases h7:a.1=7
  .rw[O0 h7,KN h7 8 J5,KN h7 36 J5,KN h7 37 J5,KN h7 38 J5,KN h7 39 J5];exact⟨rfl,by simp<;>omega,by simp<;>omega,by simp<;>omega⟩
  rw[J8 h7];by_cases h8:a.1=8
  .rw[O0 h8,KN h8 36 J5,KN h8 37 J5,KN h8 38 J5,KN h8 39 J5];exact⟨rfl,by simp<;>omega,by simp<;>omega,by simp<;>omega⟩
  rw[J8 h8];cases x8 a.1 36<;>cases x8 a.1 37<;>cases x8 a.1 38<;>cases x8 a.1 39<;>exact⟨rfl,by simp<;>omega,by simp<;>omega,by simp<;>omega⟩
 .simp only[G6];rfl
 .rw[VZ]at h2 ⊢;simp only[a0S,H8]at h2 ⊢;rw[JF l9,o8,JF l9,o8,JF l9];rfl
theorem DW(h:e.length<=500000):oq e=some (uZ e):=by
 unfold oq;refine aK e (b1A (λacc n=>ins n acc)) (λb i=>(b.1,b.2.1,b.2.2,i)) (λb=>b) (λi b=>b.1.length<=i/\b.2.1.length<=i/\b.2.2.length<=i) (([],[],[]):d5Y×d5Y×d5Y) l9 A7 (λi a b ha hi hI=>?_) (λb hI=>?_) (λh2=>?_)
 .obtain⟨b1,b2,b3⟩:=b;simp only at hI;have l1:=xn a.2 b1;have l2:=xn a.2 b2;have l3:=xn a.2 b3;rw[a2N];simp only[G9 ha,o7,E8,ha,o8,Ce a.2 (show b1.length<=1000000 by omega),Ce a.2 (show b2.length<=1000000 by omega),Ce a.2 (show b3.length<=1000000 by omega),b1A,isM];rw[Y1 l9];by_cases h7:a.1=7
  .rw[O0 h7,KN h7 8 J5,Z5 (show a.1<36 by omega)];exact⟨rfl,by simp<;>omega,by simp<;>omega,by simp<;>omega⟩
  rw[J8 h7];cases x8 a.1 8<;>cases J6 36 a.1<;>cases J6 a.1 39<;>exact⟨rfl,by simp<;>omega,by simp<;>omega,by simp<;>omega⟩
 .simp only[G6];rfl
 .rw[VZ];rfl
theorem a4O(p:Int->Bool)(e:List (Int×Int)):(Uw p e).length<=e.length:=by unfold Uw;rw[X4];exact aV _ _
theorem Iz(e:List (Int×Int)):(uZ e).2.1.length<=e.length:=fV (Pm _) (a4O _ e)
theorem IA(e:List (Int×Int)):(uZ e).2.2.length<=e.length:=fV (Pm _) (a4O _ e)
def inD(n d:Int):Bool:=l7 (J6 0 d) (D8 d n) false
def GY(n:Int)(r:aC):d5Y:=(uZ r.2.2.2.2.2.1).2.1.filter (inD n)++(uZ r.2.2.2.2.2.2.1).2.1.filter (inD n)
theorem Zi(p:Int->Bool):∀(l b:d5Y),l.foldl (λacc x=>l7 (p x) (acc++[x]) acc) b=b++l.filter p
 |[],b=>by simp|a::l,b=>by rw[J9,Zi p l,dF];cases p a<;>simp
variable {f:d5Y×Int->Option ((d5Y×Int)⊕d5Y)}
theorem a0P(l b:d5Y)(n:Int)(hl:l.length<=1000)(hb:b.length<=1000)
  (hin:∀(i:Nat) (a:Int) (acc:d5Y),l[i]? =some a->i<=1000000->f (acc,(i:Int))=l7 (J6 0 a) (l7 (D8 a n) (o5 (bz acc [a]) λx=>some (.inl (x,x9 .i64 (i:Int) 1))) (some (.inl (acc,x9 .i64 (i:Int) 1)))) (some (.inl (acc,x9 .i64 (i:Int) 1))))
  (hend:∀acc,f (acc,(l.length:Int))=some (.inr acc)):Y8 f (b,0)=some (b++l.filter (inD n)):=by
 have key:=mQ l (λ(acc:d5Y) x=>l7 (inD n x) (acc++[x]) acc) (λb i=>(b,i)) (λb=>b) (λi acc=>acc.length<=1000+i) (f:=f) (b:=b) l9 l9 ?_ ?_
 .rw[key.1,Zi]
 .intro i a acc ha hi hI;have:=(X0.1 ha).1;rw[hin i a acc ha hi,Y1 l9,jh _ l9];unfold inD;cases J6 0 a
  .exact⟨rfl,by show acc.length<=_;omega⟩
  cases D8 a n
  .exact⟨rfl,by show acc.length<=_;omega⟩
  .exact⟨rfl,by simp;omega⟩
 .intro acc hI;rw[hend]
theorem VA(n:Int)(h1:r.2.2.2.2.2.1.length<=50)(h2:r.2.2.2.2.2.2.1.length<=50):xe r n=some (GY n r):=by
 have g1:=Iz r.2.2.2.2.2.1;have g2:=Iz r.2.2.2.2.2.2.1;unfold xe GY;rw[FN l9,o8,FN l9,o8];refine V8 (a0P (uZ r.2.2.2.2.2.1).2.1 [] n l9 A7 (λi a acc ha hi=>?_) (λacc=>?_)) ?_
 rotate_left 2
 .rw[o8,gy,H8];have:=aV (inD n) (uZ r.2.2.2.2.2.1).2.1;refine a0P (uZ r.2.2.2.2.2.2.1).2.1 _ n l9 l9 (λi a acc ha hi=>?_) (λacc=>?_)
  .simp only[G9 ha,o7,E8,ha,o8];rw[show P7 (uZ r.2.2.2.2.2.2.1).2.1 (U8 (i:Int))=some a from ha,o8]
  .simp only[G6];rfl
 .simp only[G9 ha,o7,E8,ha,o8];rw[show P7 (uZ r.2.2.2.2.2.1).2.1 (U8 (i:Int))=some a from ha,o8]
 .simp only[G6];rfl
def nD(s:D7):Int:=o9 s.2.2.2.1
def dl(n:Int)(rs:List aC)(d:Int):d5Y:=rs.flatMap λr=>l7 (x8 r.2.1 d) (GY n r) []
def V4(s:D7)(d:Int):d5Y:=l7 (inD (nD s) d) (Oo (dl (nD s) s.2.2.2.2 d)) []
theorem VX(h:SmS s)(hr:r∈s.2.2.2.2)(n:Int):(GY n r).length<=100:=by obtain⟨_,h1,h2⟩:=h.ro r hr;have a1:=Iz r.2.2.2.2.2.1;have a2:=Iz r.2.2.2.2.2.2.1;have b1:=aV (inD n) (uZ r.2.2.2.2.2.1).2.1;have b2:=aV (inD n) (uZ r.2.2.2.2.2.2.1).2.1;unfold GY;rw[E5];omega
theorem a8V(n:Int)(rs:List aC)(r:aC)(d:Int):dl n (rs++[r]) d=dl n rs d++l7 (x8 r.2.1 d) (GY n r) []:=by unfold dl;rw[List.flatMap_append];simp
theorem a8U(n:Int)(rs:List aC)(r:aC)(d:Int):dl n (r::rs) d=l7 (x8 r.2.1 d) (GY n r) []++dl n rs d:=rfl
theorem a6A{s:D7}(h:SmS s)(n d:Int):∀(rs:List aC),(∀r∈rs,r∈s.2.2.2.2)->(dl n rs d).length<=100*rs.length
 |[],_=>by simp[dl]|r::rs,hm=>by
  have ih:=a6A h n d rs λr hr=>hm r (by simp[hr]);have h1:=VX h (hm r A7) n;rw[a8U,E5,H5];cases x8 r.2.1 d
  .simp only[o6,dX];omega
  .simp only[o7];omega
variable {d:Int}{x:Int}
theorem c0K{n:Int}{rs:List aC} :x∈dl n rs d↔∃r∈rs,r.2.1=d/\x∈GY n r:=by
 unfold dl;rw[ED];constructor
 .rintro⟨r,hr,hx⟩;cases hq:x8 r.2.1 d<;>rw[hq]at hx
  .simp at hx
  .exact⟨r,hr,Y5.1 hq,hx⟩
 .rintro⟨r,hr,hq,hx⟩;exact⟨r,hr,by rw[O0 hq];exact hx⟩
theorem b4J{n:Int}(h:x∈GY n r):0<=x/\x<n:=by
 have key:inD n x=true:=by unfold GY at h;rcases F7.1 h with h|h<;>exact(gV.1 h).2
 unfold inD at key;cases h0:J6 0 x<;>rw[h0]at key
 .cases key
 .exact⟨pO.1 h0,jX.1 key⟩
theorem CG(s:D7)(d:Int):SI (V4 s d):=by
 unfold V4;cases inD (nD s) d
 .exact List.Pairwise.nil
 .exact a9U _
theorem zH(h:x∈V4 s d):0<=x/\x<nD s:=by
 unfold V4 at h;cases hq:inD (nD s) d<;>rw[hq]at h
 .simp at h
 .obtain⟨r,_,_,hx⟩:=c0K.1 ((Pq _ _).1 h);exact b4J hx
theorem a4q(s:D7)(l b:d5Y)(hl:l.length<=1000)(hb:b.length<=100000)
  (hin:∀(i:Nat) (a:Int) (acc:d5Y),l[i]? =some a->i<=1000000->f (acc,(i:Int))=o5 (Gg s a) λx=>l7 x (o5 (lH acc a) λx=>some (.inl (x,x9 .i64 (i:Int) 1))) (some (.inl (acc,x9 .i64 (i:Int) 1))))
  (hend:∀acc,f (acc,(l.length:Int))=some (.inr acc)):Y8 f (b,0)=some (FV (l.filter (inD (nD s))) b):=by
 have key:=mQ l (λ(acc:d5Y) x=>l7 (inD (nD s) x) (ins x acc) acc) (λb i=>(b,i)) (λb=>b) (λi acc=>acc.length<=100000+i) (f:=f) (b:=b) l9 l9 ?_ ?_
 .have hf:∀(l b:d5Y),l.foldl (λ(acc:d5Y) x=>l7 (inD (nD s) x) (ins x acc) acc) b=FV (l.filter (inD (nD s))) b:=by
   intro l;induction l with
   |nil=>intro b;rfl|cons a l ih=>intro b;rw[J9,ih,dF];cases inD (nD s) a<;>rfl
  rw[key.1,hf]
 .intro i a acc ha hi hI;have hlt:=(X0.1 ha).1;have h2:=xn a acc;rw[hin i a acc ha hi,a7q,o8,Y1 l9,Ce _ l9];change l7 (inD (nD s) a) _ _=_/\_;cases inD (nD s) a
  .exact⟨rfl,by show acc.length<=_;omega⟩
  .exact⟨rfl,by show(ins a acc).length<=_;omega⟩
 .intro acc hI;rw[hend]
theorem Tm(h:SmS s)(d:Int):Ag s d=some (V4 s d):=by
 have hnr:=h.nr;unfold Ag V4;rw[a7q,o8];change l7 (D6 (inD (nD s) d)) _ _=_;cases inD (nD s) d
 .rfl
 simp only[D9,o6,o7];refine aK s.2.2.2.2 (λ(acc:d5Y) r=>l7 (x8 r.2.1 d) (FV (GY (nD s) r) acc) acc) (λb i=>(b,i)) (λb=>b) (λi acc=>acc.length<=100*i) [] l9 A7 (λi r acc ha hi hI=>?_) (λacc hI=>?_) (λh2=>?_)
 .have hlt:=(X0.1 ha).1;obtain⟨_,h1,h2⟩:=h.ro r (iZ ha);have a1:=Iz r.2.2.2.2.2.1;have a2:=Iz r.2.2.2.2.2.2.1;have hlen:=CV (GY (nD s) r) acc;have hrl:=VX h (iZ ha) (nD s);simp only[G9 ha,o7,E8,ha,o8];rw[Y1 l9];cases x8 r.2.1 d
  .exact⟨rfl,by show acc.length<=_;omega⟩
  simp only[D9,o6,o7,DW (show r.2.2.2.2.2.1.length<=500000 by omega),DW (show r.2.2.2.2.2.2.1.length<=500000 by omega),o8];refine⟨?_,by show(FV (GY (nD s) r) acc).length<=_;omega⟩;refine V8 (a4q s (uZ r.2.2.2.2.2.1).2.1 acc l9 l9 (λi a acc ha hi=>?_) (λacc=>?_)) ?_
  rotate_left 2
  .rw[o8];have hl2:=CV ((uZ r.2.2.2.2.2.1).2.1.filter (inD (nD s))) acc;have hl3:=aV (inD (nD s)) (uZ r.2.2.2.2.2.1).2.1;refine V8 (a4q s (uZ r.2.2.2.2.2.2.1).2.1 _ l9 l9 (λi a acc ha hi=>?_) (λacc=>?_)) ?_
   rotate_left 2
   .rw[o8];unfold GY;rw[JL]
   .simp only[G9 ha,o7,E8,ha,o8];rw[show P7 (uZ r.2.2.2.2.2.2.1).2.1 (U8 (i:Int))=some a from ha];rfl
   .simp only[G6];rfl
  .simp only[G9 ha,o7,E8,ha,o8];rw[show P7 (uZ r.2.2.2.2.2.1).2.1 (U8 (i:Int))=some a from ha];rfl
  .simp only[G6];rfl
 .simp only[G6];rfl
 .have hf:∀(l:List aC) (b:d5Y),l.foldl (λ(acc:d5Y) r=>l7 (x8 r.2.1 d) (FV (GY (nD s) r) acc) acc) b=FV (dl (nD s) l d) b:=by
   intro l;induction l with
   |nil=>intro b;rfl|cons a l ih=>intro b;rw[J9,ih,a8U,JL];cases x8 a.2.1 d<;>rfl
  rw[hf];rfl
theorem Yf(m k:Nat)(f:Nat->α)(v:α):((List.range m).map f).set k v=(List.range m).map λd=>if d=k then v else f d:=by
 apply dR;intro i;rw[P6,fO,fO,X4,gQ];by_cases hi:i<m
 .rw[uQ hi];by_cases h:k=i
  .subst h;simp[hi]
  .simp[h,Ne.symm h]
 .have:(List.range m)[i]? =none:=by simp;omega
  rw[this];by_cases h:k=i
  .subst h;simp[hi]
  .simp[h]
def YF(m:Nat)(rs:List aC):List d5Y:=(List.range m).map λ(d:Nat)=>dl (m:Int) rs (d:Int)
theorem UZ{l:d5Y}(hl:l.length<=1000000):Dp l=some (Oo l):=JF hl
theorem Hm(m:Nat)(f:Nat->α)(h:k<m):((List.range m).map f)[k]? =some (f k):=by rw[fO,uQ h];rfl
theorem MF(h:SmS s):vO s=some ((List.range s.2.2.2.1.length).map λ(d:Nat)=>V4 s (d:Int)):=by
 have hnr:=h.nr;have hnd:=h.nd;unfold vO;generalize hm:s.2.2.2.1.length=m at*;have hn:nD s=(m:Int):=by unfold nD o9;rw[hm]
 rw[show o9 s.2.2.2.1=(m:Int)from hn,show qo (m:Int) ([]:d5Y)=some (YF m []) by unfold qo YF dl;rw[if_pos l9];simp[List.map_const'],o8];refine aK s.2.2.2.2 (λ(b:List d5Y) r=>l7 (inD m r.2.1) (b.set r.2.1.toNat ((b.getD r.2.1.toNat [])++GY m r)) b) (λb i=>(b,i)) (λb=>b) (λi b=>b=YF m (s.2.2.2.2.take i)) (YF m []) l9 A7 (λi r b ha hi hI=>?_) (λb hI=>?_) (λh2=>?_)
 .have hlt:=(X0.1 ha).1;obtain⟨_,h1,h2⟩:=h.ro r (iZ ha);have hst:s.2.2.2.2.take (i+1)=s.2.2.2.2.take i++[r]:=by
   rw[V6 hlt,(X0.1 ha).2]
  have hlb:o9 b=(m:Int):=by rw[hI];simp[o9,YF]
  obtain⟨rd,hrd⟩:∃rd:Int,r.2.1=rd:=⟨r.2.1,rfl⟩;simp only[G9 ha,o7,E8,ha,o8,hlb,hrd];rw[Y1 l9,hst];by_cases hd:0<=rd/\rd<(m:Int)
  .obtain⟨d0,d1⟩:=hd;have hk:rd.toNat<m:=l9;have hkk:((rd.toNat:Nat):Int)=rd:=l9;have hg:b[rd.toNat]? =some (dl m (s.2.2.2.2.take i) rd):=by rw[hI];unfold YF;rw[Hm m _ hk,hkk]
   have hll:=a6A h m rd (s.2.2.2.2.take i) λr hr=>List.mem_of_mem_take hr;have hrl:=VX h (iZ ha) m;have htl:(s.2.2.2.2.take i).length<=96:=by simp;omega
   rw[Y6 d0,U7 d1,show inb rd (m:Int)=true by unfold inb;simp;omega,show P7 b (U8 rd)=some (dl m (s.2.2.2.2.take i) rd)from hg,VA _ h1 h2];simp only[o7,o8];rw[MX l9,show Rj (U8 rd) (U8 rd)=true by simp[Rj]];simp only[o7,o8];have hin:inD m rd=true:=by unfold inD;rw[Y6 d0,U7 d1];rfl
   rw[hin,show b.getD rd.toNat []=dl m (s.2.2.2.2.take i) rd by rw[AB,hg];rfl];refine⟨rfl,?_⟩;show b.set rd.toNat _=_;rw[hI];unfold YF;rw[Yf];apply dU;intro d hdm;rw[a8V,hrd];by_cases hq:d=rd.toNat
   .subst hq;rw[if_pos rfl,hkk,O0 rfl];rfl
   .rw[if_neg hq,J8 l9];simp
  .have hin:inD m rd=false:=by
    unfold inD;by_cases d0:0<=rd
    .rw[Y6 d0,L8 l9];rfl
    .rw[Z5 l9];rfl
   rw[hin];refine⟨?_,?_⟩
   .unfold inD at hin;cases q0:J6 0 rd
    .rfl
    .rw[q0]at hin;simp only[o7]at hin ⊢;rw[hin];rfl
   .show b=_;rw[hI];unfold YF;apply dU;intro d hdm;have:=bT.1 hdm;rw[a8V,hrd,J8 l9];simp
 .simp only[G6];rfl
 .rw[aA]at h2;rw[h2];generalize hA:YF m s.2.2.2.2=A;have hAl:o9 A=(m:Int):=by rw[←hA];simp[o9,YF]
  refine aK (List.range m) (λ(b:List d5Y) d=>b.set d (Oo (b.getD d []))) (λb i=>(b,i)) (λb=>b) (λi b=>b=(List.range m).map λ(d:Nat)=>if d<i then Oo (dl m s.2.2.2.2 (d:Int))else dl m s.2.2.2.2 (d:Int)) A X5 (by rw[←hA];unfold YF;simp) (λi d b ha hi hI=>?_) (λb hI=>?_) (λh3=>?_)
  .have hlt:=(X0.1 ha).1;simp only[gQ]at hlt;have hdi:d=i:=by rw[uQ hlt]at ha;exact(ay ha).symm
   subst hdi;have hlb:o9 b=(m:Int):=by rw[hI];simp[o9]
   have hg:b[d]? =some (dl m s.2.2.2.2 (d:Int)):=by rw[hI,Hm m _ hlt,if_neg l9]
   have hll:=a6A h m d s.2.2.2.2 λr hr=>hr;simp only[hAl,hlb];rw[U7 (show(d:Int)<(m:Int) by omega),show inb (d:Int) (m:Int)=true by unfold inb;simp;omega,show P7 b (U8 (d:Int))=some (dl m s.2.2.2.2 (d:Int))from hg];simp only[o7,o8];rw[UZ l9,show Rj (U8 (d:Int)) (U8 (d:Int))=true by simp[Rj],Y1 l9];simp only[o7,o8];rw[show b.getD d []=dl m s.2.2.2.2 (d:Int) by rw[AB,hg];rfl];refine⟨rfl,?_⟩;rw[hI,Yf];apply dU;intro e he;by_cases hq:e=d
   .subst hq;rw[if_pos rfl,if_pos l9]
   .rw[if_neg hq];by_cases hq2:e<d
    .rw[if_pos hq2,if_pos l9]
    .rw[if_neg hq2,if_neg l9]
  .simp only[gQ,hAl,L8 (show(m:Int)<=(m:Int) by omega)];rfl
  .rw[h3];apply congrArg some;apply dU;intro d hd;have:=bT.1 hd;simp only[gQ];rw[if_pos this];unfold V4;rw[hn,show inD (m:Int) (d:Int)=true by unfold inD;rw[Y6 l9,U7 l9];rfl];rfl
def Rch(D:Int->d5Y)(d:Int)(L:d5Y):Prop:=SI L/\(∀x∈D d,x∈L)/\(∀x∈L,∀y∈D x,y∈L)/\∀C:Int->Prop,(∀x∈D d,C x)->(∀x,C x->∀y∈D x,C y)->∀x∈L,C x
theorem Rch.unique{D:Int->d5Y}{L M:d5Y}(h:Rch D d L)(k:Rch D d M):L=M:=
 a7P h.1 k.1 λx=>⟨λhx=>h.2.2.2 (λy=>y∈M) k.2.1 k.2.2.1 x hx,λhx=>k.2.2.2 (λy=>y∈L) h.2.1 h.2.2.1 x hx⟩
theorem a3t:∀{B A:d5Y},SI A->SI B->(∀x∈A,x∈B)->A=B\/A.length<B.length
 |[],A,_,_,h=>by
  cases A with
  |nil=>exact .inl rfl|cons a A=>exact absurd (h a A7) A7
 |b::B,[],_,_,_=> .inr A7|b::B,a::A,hA,hB,h=>by
  have hA' :=X7.1 hA;have hB' :=X7.1 hB;rcases D5.1 (h a A7)with hab|hab
  .subst hab;rcases a3t (B:=B) (A:=A) hA'.2 hB'.2 (λx hx=>by
    rcases D5.1 (h x (by simp[hx]))with h1|h1
    .have:=hA'.1 x hx;omega
    .exact h1)with h1|h1
   .exact .inl (by rw[h1])
   .exact .inr (by simp only[H5];omega)
  .have hab2:=hB'.1 a hab;rcases a3t (B:=B) (A:=a::A) hA hB'.2 (λx hx=>by
    rcases D5.1 (h x hx)with h1|h1
    .rcases D5.1 hx with h2|h2
     .omega
     .have:=hA'.1 x h2;omega
    .exact h1)with h1|h1
   .exact .inr (by rw[h1];simp)
   .exact .inr (by simp only[H5]at*;omega)
def LQ(D:Int->d5Y)(L:d5Y):d5Y:=L.foldl (λacc x=>FV (D x) acc) L
theorem LU(D:Int->d5Y)(x:Int):∀(l acc:d5Y),x∈l.foldl (λacc x=>FV (D x) acc) acc↔x∈acc\/∃y∈l,x∈D y
 |[],acc=>by simp|a::l,acc=>by
  rw[J9,LU D x l,Ur];constructor
  .rintro((h|h)|⟨y,hy,h⟩)
   .exact .inr ⟨a,A7,h⟩
   .exact .inl h
   .exact .inr ⟨y,by simp[hy],h⟩
  .rintro(h|⟨y,hy,h⟩)
   .exact .inl (.inr h)
   .rcases D5.1 hy with rfl|hy
    .exact .inl (.inl h)
    .exact .inr ⟨y,hy,h⟩
theorem a9z(D:Int->d5Y):∀(l:d5Y) {acc:d5Y},SI acc->SI (l.foldl (λacc x=>FV (D x) acc) acc)
 |[],_,h=>h|a::l,_,h=>by rw[J9];exact a9z D l (Yn _ h)
theorem ZO(D:Int->d5Y){L:d5Y}(h:SI L):SI (LQ D L):=a9z D L h
def itS(D:Int->d5Y)(d:Int):Nat->d5Y
 |0=>D d|k+1=>LQ D (itS D d k)
section
variable {D:Int->d5Y} {n:Nat} (hsi:∀x,SI (D x)) (hin:∀x,∀y∈D x,0<=y/\y<(n:Int))
include hsi hin
theorem a1e(d:Int):∀k,SI (itS D d k)
 |0=>hsi d|k+1=>ZO D (a1e d k)
theorem a9j(d:Int):∀k,∀x∈itS D d k,0<=x/\x<(n:Int)
 |0,x,hx=>hin d x hx|k+1,x,hx=>by
  rcases(LU D x _ _).1 hx with h|⟨y,_,h⟩
  .exact a9j d k x h
  .exact hin y x h
theorem a9i(d:Int)(k:Nat):LQ D (itS D d k)=itS D d k\/(itS D d k).length<(LQ D (itS D d k)).length:=by
 rcases a3t (a1e hsi hin d k) (ZO D (a1e hsi hin d k)) (λx hx=>(LU D x _ _).2 (.inl hx))with h|h
 .exact .inl h.symm
 .exact .inr h
theorem a1f(d:Int):∀k,LQ D (itS D d k)=itS D d k\/k<(LQ D (itS D d k)).length
 |0=>by
  rcases a9i hsi hin d 0 with h|h
  .exact .inl h
  .exact .inr l9
 |k+1=>by
  rcases a1f d k with h|h
  .exact .inl (by show LQ D (LQ D (itS D d k))=LQ D (itS D d k);rw[h,h])
  .rcases a9i hsi hin d (k+1)with h2|h2
   .exact .inl h2
   .exact .inr (by have:(itS D d (k+1)).length=(LQ D (itS D d k)).length:=rfl;omega)
theorem c0I(d:Int):Rch D d (itS D d n):=by
 have hst:LQ D (itS D d n)=itS D d n:=by
  rcases a1f hsi hin d n with h|h
  .exact h
  .have:=E_ n (ZO D (a1e hsi hin d n)) (a9j hsi hin d (n+1));omega
 refine⟨a1e hsi hin d n,?_,?_,?_⟩
 .intro x hx;have:∀k,x∈itS D d k:=by
   intro k;induction k with
   |zero=>exact hx|succ k ih=>exact(LU D x _ _).2 (.inl ih)
  exact this n
 .intro x hx y hy;rw[←hst];exact(LU D y _ _).2 (.inr ⟨x,hx,hy⟩)
 .intro C h1 h2;have:∀k,∀x∈itS D d k,C x:=by
   intro k;induction k with
   |zero=>exact h1|succ k ih=>
    intro x hx;rcases(LU D x _ _).1 hx with h|⟨y,hy,h⟩
    .exact ih x h
    .exact h2 y (ih y hy) x h
  exact this n
end
def cu(s:D7)(d:Int):d5Y:=itS (V4 s) d s.2.2.2.1.length
theorem MB(s:D7)(d:Int):Rch (V4 s) d (cu s d):=
 c0I (n:=s.2.2.2.1.length) (CG s) (λx y hy=>zH hy) d
theorem Eu(h:x∈cu s d):0<=x/\x<nD s:=a9j (n:=s.2.2.2.1.length) (CG s) (λx y hy=>zH hy) d _ x h
theorem MK(h:SmS s)(d:Int):(V4 s d).length<=14:=
 fV (E_ s.2.2.2.1.length (CG s d) (λx hx=>zH hx)) h.nd
theorem ER(h:SmS s){l:d5Y}(hs:SI l)(hi:∀x∈l,0<=x/\x<nD s):l.length<=14:=fV (E_ s.2.2.2.1.length hs hi) h.nd
theorem yZ(h:SmS s)(d:Int):kz s d=some (cu s d):=by
 have hnd:=h.nd;unfold kz;rw[Tm h,o8];have hsi:=CG s;have hin:∀x,∀y∈V4 s x,0<=y/\y<((s.2.2.2.1.length:Nat):Int):=λx y hy=>zH hy;refine aK s.2.2.2.1 (λ(b:d5Y) (_:gu)=>LQ (V4 s) b) (λb i=>(b,i)) (λb=>b) (λi b=>b=itS (V4 s) d i) (V4 s d) l9 rfl (λi f b ha hi hI=>?_) (λb hI=>?_) (λh2=>?_)
 .simp only[G9 ha,o7];refine⟨?_,by show LQ _ b=_;rw[hI];rfl⟩;have hb1:SI b:=by rw[hI];exact a1e hsi hin d i
  have hb2:∀x∈b,0<=x/\x<nD s:=by rw[hI];exact a9j hsi hin d i
  have hbl:=ER h hb1 hb2;rw[Y1 l9];refine aK b (λ(acc:d5Y) x=>FV (V4 s x) acc) (λb i=>(b,i)) (λb=>b) (λi acc=>SI acc/\∀x∈acc,0<=x/\x<nD s) b l9 ⟨hb1,hb2⟩ (λj x acc hx hj hJ=>?_) (λacc hJ=>?_) (λh3=>?_)
  .have hal:=ER h hJ.1 hJ.2;have hdl:=MK h x;simp only[G9 hx,o7,E8,hx,o8,Tm h x];rw[Y1 l9];refine⟨?_,Yn _ hJ.1,λy hy=>?_⟩
   .refine aK (V4 s x) (λ(acc:d5Y) y=>ins y acc) (λb i=>(b,i)) (λb=>b) (λi a=>a.length<=acc.length+i) acc l9 l9 (λk y a hy hk hK=>?_) (λa hK=>?_) (λh4=>?_)
    .have hlt:=(X0.1 hy).1;have hli:=xn y a;simp only[G9 hy,o7,E8,hy,o8];rw[show P7 (V4 s x) (U8 (k:Int))=some y from hy,o8,Ce _ l9,o8,Y1 l9];exact⟨rfl,by show(ins y a).length<=_;omega⟩
    .simp only[G6];rfl
    .rfl
   .rcases(Ur y _ _).1 hy with h4|h4
    .exact zH h4
    .exact hJ.2 y h4
  .simp only[G6];rfl
  .rfl
 .simp only[G6];rfl
 .rw[h2];rfl
def mk(S:List Bool)(x:Int):Bool:=if 0<=x then S.getD x.toNat false else false
def unm(S:List Bool):Nat:=S.count false
def rG(b:List Bool×d5Y)(e:Int):List Bool×d5Y:=l7 (mk b.1 e) b (b.1.set e.toNat true,b.2++[e])
variable {S:List Bool}
theorem a6Y(h0:0<=x)(h1:x<o9 S):S[x.toNat]? =some (mk S x):=by
 unfold mk;rw[if_pos h0,AB];have:x.toNat<S.length:=by simp only[o9]at h1;omega
 rw[fH this];rfl
theorem a2u{e:Int}(h0:0<=e)(h1:e<o9 S)(x:Int):mk (S.set e.toNat true) x=l7 (x8 x e) true (mk S x):=by
 unfold mk;have hl:e.toNat<S.length:=by simp only[o9]at h1;omega
 by_cases hx:0<=x
 .rw[if_pos hx,if_pos hx,AB,AB,P6];by_cases hq:x=e
  .subst hq;rw[if_pos rfl,if_pos hl,O0 rfl];rfl
  .rw[if_neg l9,J8 hq];rfl
 .rw[if_neg hx,if_neg hx,J8 l9];rfl
theorem b9f{e:Int}(h0:0<=e)(h1:e<o9 S)(hm:mk S e=false):unm (S.set e.toNat true)+1=unm S:=by
 have hl:e.toNat<S.length:=by simp only[o9]at h1;omega
 have hg:=a6Y h0 h1;rw[hm,fH hl]at hg;have hg' :S[e.toNat]=false:=ay hg;unfold unm;rw[List.count_set hl,hg'];have:0<S.count false:=List.count_pos_iff.2 (by rw[←hg'];exact N7 hl);simp;omega
structure RInv (n:Nat) (S:List Bool) (Q:d5Y) (l:d5Y) (S' :List Bool) (Q' :d5Y):Prop where
 len:S'.length=n
 seen:∀x:Int,0<=x->x<(n:Int)->(mk S' x=true↔mk S x=true\/x∈l)
 sum:Q'.length+unm S' =Q.length+unm S
 le:unm S' <=unm S
 old:∀x∈Q,x∈Q'
 new:∀x∈Q',x∈Q\/x∈l
 got:∀x,mk S' x=true->mk S x=true\/x∈Q'
theorem b4Q{n:Nat} :∀(l:d5Y) (S:List Bool) (Q:d5Y),S.length=n->(∀x∈l,0<=x/\x<(n:Int))->RInv n S Q l (l.foldl rG (S,Q)).1 (l.foldl rG (S,Q)).2
 |[],S,Q,hl,_=>⟨hl,λx _ _=>by simp,rfl,F5 _,λx hx=>hx,λx hx=> .inl hx,λx hx=> .inl hx⟩|e::l,S,Q,hl,hi=>by
  have he:=hi e A7;have hel:e<o9 S:=by simp only[o9];omega
  rw[J9];cases hm:mk S e with
  |true=>
   rw[show rG (S,Q) e=(S,Q) by unfold rG;rw[hm];rfl];have ih:=b4Q l S Q hl λx hx=>hi x (by simp[hx]);refine⟨ih.len,λx h0 h1=>?_,ih.sum,ih.le,ih.old,λx hx=>?_,ih.got⟩
   .rw[ih.seen x h0 h1,D5];constructor
    .rintro(h|h)
     .exact .inl h
     .exact .inr (.inr h)
    .rintro(h|h|h)
     .exact .inl h
     .subst h;exact .inl hm
     .exact .inr h
   .rcases ih.new x hx with h|h
    .exact .inl h
    .exact .inr (by simp[h])
  |false=>
   rw[show rG (S,Q) e=(S.set e.toNat true,Q++[e]) by unfold rG;rw[hm];rfl];have ih:=b4Q l (S.set e.toNat true) (Q++[e]) (by simp[hl]) λx hx=>hi x (by simp[hx]);have hu:=b9f he.1 hel hm;refine⟨ih.len,λx h0 h1=>?_,?_,?_,λx hx=>ih.old x (by simp[hx]),λx hx=>?_,λx hx=>?_⟩
   .rw[ih.seen x h0 h1,a2u he.1 hel,D5];cases hq:x8 x e
    .rw[AA]at hq;simp[hq]
    .rw[Y5]at hq;simp[hq]
   .have:=ih.sum;simp only[E5,H5,dX]at this;omega
   .have:=ih.le;omega
   .rcases ih.new x hx with h|h
    .rcases F7.1 h with h|h
     .exact .inl h
     .exact .inr (by simp at h;simp[h])
    .exact .inr (by simp[h])
   .rcases ih.got x hx with h|h
    .rw[a2u he.1 hel]at h;cases hq:x8 x e
     .rw[hq]at h;exact .inl h
     .rw[Y5]at hq;subst hq;exact .inr (ih.old _ A7)
    .exact .inr h
def Xh(S:List Bool):d5Y:=((List.range S.length).filter λi=>S.getD i false).map λ(i:Nat)=>(i:Int)
theorem QE(x:Int):x∈Xh S↔mk S x=true:=by
 unfold Xh mk;rw[bM];constructor
 .rintro⟨i,hi,rfl⟩;rw[if_pos l9];exact(gV.1 hi).2
 .intro h;split at h
  .refine⟨x.toNat,gV.2 ⟨bT.2 ?_,h⟩,l9⟩;rw[AB]at h;cases hg:S[x.toNat]? with
   |none=>rw[hg]at h;cases h|some b=>exact(X0.1 hg).1
  .cases h
theorem b3s(S:List Bool):SI (Xh S):=by unfold Xh;refine List.Pairwise.map _ (R:=(·< ·)) (λa b h=>by omega) (List.Pairwise.filter _ yE)
theorem a6W(S:List Bool)(hS:S.length<=100)
  (hin:∀(i:Nat) (a:Bool) (acc:d5Y),S[i]? =some a->i<=1000000->acc.length<=i->f (acc,(i:Int))=l7 a (o5 (bz acc [(i:Int)]) λx=>some (.inl (x,x9 .i64 (i:Int) 1))) (some (.inl (acc,x9 .i64 (i:Int) 1))))
  (hend:∀acc,f (acc,(S.length:Int))=some (.inr acc)):Y8 f ([],0)=some (Xh S):=by
 have mk2:∀i,i<=S.length->((List.range i).filter λi=>S.getD i false).length<=i:=λi _=>by have:=aV (λi=>S.getD i false) (List.range i);simpa using this
 obtain⟨e,h1,h2⟩:=iy (f:=f) (s:=([],0)) (λx=>∃i:Nat,x=(((List.range i).filter λi=>S.getD i false).map λ(i:Nat)=>(i:Int),(i:Int))/\i<=S.length) (λe=>e=Xh S) (λx=>S.length -x.2.toNat) ⟨0,rfl,l9⟩ X5 (by
  rintro x ⟨i,rfl,hi⟩;by_cases h:i<S.length
  .have e:=fH h;have hst:(List.range (i+1)).filter (λi=>S.getD i false)=(List.range i).filter (λi=>S.getD i false)++l7 S[i] [i] []:=by
    rw[dZ,vW];congr 1;rw[dF,AB,e];cases S[i]<;>rfl
   have hl:=mk2 i hi;refine .inl ⟨(((List.range (i+1)).filter λi=>S.getD i false).map λ(i:Nat)=>(i:Int),((i+1:Nat):Int)),?_,⟨i+1,rfl,h⟩,by simp;omega⟩;rw[hin i _ _ e l9 (by simpa using hl),Y1 l9,hst,gU,jh _ (by rw[X4];omega)];cases S[i]
   .simp
   .rfl
  .have:i=S.length:=l9;subst this;exact .inr ⟨_,hend _,rfl⟩)
 rw[h1,h2]
variable {n:Nat}
theorem n_{D:Int->d5Y}(hn:n<=14)(hsi:∀x,SI (D x))(hin:∀x,∀y∈D x,0<=y/\y<(n:Int))(h0:0<=d)(h1:d<(n:Int)):
  ∃L,zG ((List.range n).map λ(x:Nat)=>D (x:Int)) d=some L/\Rch D d L:=by
 have hA:o9 ((List.range n).map λ(x:Nat)=>D (x:Int))=(n:Int):=by simp[o9]
 have hget:∀x:Int,0<=x->x<n->G8 ((List.range n).map λ(x:Nat)=>D (x:Int)) x=some (D x):=λx a b=>by
  have:x.toNat<n:=l9;unfold G8
  rw[if_pos a,Hm n _ this,az a]
 unfold zG;generalize (List.range n).map (λ(x:Nat)=>D (x:Int))=A at*;rw[hA,show qo (n:Int) false=some (List.replicate n false) by unfold qo;rw[if_pos l9];simp,o8];have hD14:∀x,(D x).length<=14:=λx=>fV (E_ n (hsi x) (hin x)) hn;have key:=iy (f:=λ(x:List Bool×d5Y)=>l7 (D8 0 (o9 x.2)) (o5 (G8 x.2 0) λ(x_1:Int)=>o5 (P7 x.2 (U8 0)) λ(x_2:Int)=>l7 (pq 1 (o9 x.2) (o9 x.2)) (o5 (G8 A x_2) λ(x_3:d5Y)=>
   o5 (Y8 (λ(x:List Bool×d5Y×Int)=>l7 (D8 x.2.2 (o9 x_3)) (o5 (G8 x_3 x.2.2) λ(x_4:Int)=>o5 (G8 x.1 x_4) λ(x_5:Bool)=>o5 (P7 x.1 (U8 x_4)) λ(x_6:Bool)=>
     l7 (D6 x_6) (o5 (G8 x.1 x_4) λ(x_7:Bool)=>o5 (P7 x.1 (U8 x_4)) λ(x_8:Bool)=>o5 (bz x.2.1 [x_4]) λ(x_9:d5Y)=>some (.inl (aW x.1 (U8 x_4) true,x_9,x9 .i64 x.2.2 1)))
      (some (.inl (x.1,x.2.1,x9 .i64 x.2.2 1)))) (some (.inr (x.1,x.2.1)))) (x.1,oU x.2 (U8 1) (U8 (o9 x.2)),0)) λ(y:List Bool×d5Y)=>some (.inl y)) none) (some (.inr x.1)))
  (s:=(List.replicate n false,[d]))
  (λx=>x.1.length=n/\(∀q∈x.2,0<=q/\q<(n:Int))/\x.2.length+unm x.1<=n+1/\(∀q∈x.2,q=d\/mk x.1 q=true)/\(∀v,v=d\/mk x.1 v=true->v∈x.2\/∀y∈D v,mk x.1 y=true)/\
   (∀C:Int->Prop,(∀x∈D d,C x)->(∀x,C x->∀y∈D x,C y)->∀v,mk x.1 v=true->C v)/\(∀v,mk x.1 v=true->0<=v/\v<(n:Int)))
  (λS=>S.length=n/\Rch D d (Xh S)) (λx=>2*unm x.1+x.2.length) ?_ ?_ ?_
 .obtain⟨S,k1,k2,k3⟩:=key;refine⟨Xh S,?_,k3⟩;refine(lq k1 _).trans ?_;rw[gy];refine a6W S l9 (λi a acc ha hi hacc=>?_) (λacc=>?_)
  .simp only[G9 ha,o7,E8,ha,o8];rw[show P7 S (U8 (i:Int))=some a from ha,o8]
  .simp only[G6];rfl
 .have hnone:∀v,mk (List.replicate n false) v=false:=λv=>by
   unfold mk;split
   .rw[AB,lF];split<;>rfl
   .rfl
  refine⟨A7,λq hq=>by simp at hq;omega,?_,λq hq=> .inl (by simpa using hq),λv hv=>?_,λC _ _ v hv=>(by rw[hnone]at hv;cases hv),λv hv=>(by rw[hnone]at hv;cases hv)⟩
  .simp[unm,List.count_replicate];omega
  .rcases hv with rfl|hv
   .exact .inl A7
   .rw[hnone]at hv;cases hv
 .simp[unm,List.count_replicate];omega
 .rintro⟨S,Q⟩ ⟨i1,i2,i3,i4,i5,i6,i7⟩;simp only at i1 i2 i3 i4 i5 i6 i7;cases Q with
  |nil=>
   right;refine⟨S,rfl,i1,b3s S,λx hx=>?_,λx hx y hy=>?_,λC c1 c2 x hx=>i6 C c1 c2 x ((QE x).1 hx)⟩
   .rcases i5 d (.inl rfl)with h|h
    .cases h
    .exact(QE x).2 (h x hx)
   .rcases i5 x (.inr ((QE x).1 hx))with h|h
    .cases h
    .exact(QE y).2 (h y hy)
  |cons q Q=>
   left;have hq:=i2 q A7;have hfold:=b4Q (n:=n) (D q) S Q i1 (λx hx=>hin q x hx);refine⟨(D q).foldl rG (S,Q),?_,?_,?_⟩
   .simp only[U7 (show(0:Int)<o9 (q::Q) by simp[o9]<;>omega),o7,show G8 (q::Q) 0=some q from rfl,show P7 (q::Q) (U8 0)=some q from rfl,o8,hget q hq.1 hq.2,
     show pq 1 (o9 (q::Q)) (o9 (q::Q))=true by simp[pq,o9]<;>omega,show oU (q::Q) (U8 1) (U8 (o9 (q::Q)))=Q by simp[oU,U8,o9]]
    refine aK (D q) rG (λb i=>(b.1,b.2,i)) (λb=>b) (λi b=>b.1.length=n/\b.2.length<=100+i) (S,Q) (by have:=hD14 q;omega) ⟨i1,by simp at i3;show Q.length<=100+0;omega⟩ (λi e b he hi hI=>?_) (λb hI=>?_) (λh2=>rfl)
    .obtain⟨S1,Q1⟩:=b;simp only at hI;have hee:=hin q e (iZ he);have hlt:=(X0.1 he).1;have hdl:=hD14 q;have hg:=a6Y (S:=S1) hee.1 (by simp only[o9];omega);have hla:G8 S1 e=some (mk S1 e):=by unfold G8;rw[if_pos hee.1];exact hg
     have hlg:P7 S1 (U8 e)=some (mk S1 e):=hg;simp only[G9 he,o7,E8 (D q),he,o8,hla,hlg];rw[Y1 l9,jh _ l9];unfold rG;simp only;cases mk S1 e
     .exact⟨rfl,by simp[hI.1],by simp<;>omega⟩
     .exact⟨rfl,hI.1,by show Q1.length<=_;omega⟩
    .simp only[G6];rfl
   .obtain⟨j1,j2,j3,j4,j5,j6,j7⟩:=hfold;generalize (D q).foldl rG (S,Q)=b at*;obtain⟨S',Q'⟩:=b;simp only at j1 j2 j3 j4 j5 j6 j7 ⊢;have hrange:∀v,mk S' v=true->0<=v/\v<(n:Int):=λv hv=>by
     rcases j7 v hv with h|h
     .exact i7 v h
     .rcases j6 v h with h|h
      .exact i2 v (by simp[h])
      .exact hin q v h
    refine⟨j1,λx hx=>?_,?_,λx hx=>?_,λv hv=>?_,λC c1 c2 v hv=>?_,hrange⟩
    .rcases j6 x hx with h|h
     .exact i2 x (by simp[h])
     .exact hin q x h
    .simp only[H5]at i3;omega
    .rcases j6 x hx with h|h
     .rcases i4 x (by simp[h])with h2|h2
      .exact .inl h2
      .have hr:=i7 x h2;exact .inr ((j2 x hr.1 hr.2).2 (.inl h2))
     .have hr:=hin q x h;exact .inr ((j2 x hr.1 hr.2).2 (.inr h))
    .have up:∀y,mk S y=true->mk S' y=true:=λy hy=>by
      have hr:=i7 y hy;exact(j2 y hr.1 hr.2).2 (.inl hy)
     by_cases hvq:v=q
     .subst hvq;right;intro y hy;have hr:=hin v y hy;exact(j2 y hr.1 hr.2).2 (.inr hy)
     .by_cases hold:v=d\/mk S v=true
      .rcases i5 v hold with h|h
       .rcases D5.1 h with h|h
        .exact absurd h hvq
        .exact .inl (j5 v h)
       .exact .inr λy hy=>up y (h y hy)
      .rcases hv with h|h
       .exact absurd (.inl h) hold
       .rcases j7 v h with h2|h2
        .exact absurd (.inr h2) hold
        .exact .inl h2
    .by_cases hS:mk S v=true
     .exact i6 C c1 c2 v hS
     .have hr:=hrange v hv;rcases(j2 v hr.1 hr.2).1 hv with h|h
      .exact absurd h hS
      .rcases i4 q A7 with h2|h2
       .subst h2;exact c1 v h
       .exact c2 q (i6 C c1 c2 q h2) v h
   .have:=hfold.sum;have:=hfold.le;simp only[H5];omega
theorem Bo(h:SmS s)(h0:0<=d)(h1:d<nD s):nz s d=some (cu s d):=by have hn:nD s=((s.2.2.2.1.length:Nat):Int):=rfl;unfold nz;change l7 (D8 d 0) _ (l7 (J6 (nD s) d) _ _)=_;rw[L8 h0,o6,Z5 h1,o6,MF h,o8,gy];obtain⟨L,k1,k2⟩:=n_ (D:=V4 s) h.nd (CG s) (λx y hy=>zH hy) h0 (show d<((s.2.2.2.1.length:Nat):Int) by omega);rw[k1,Rch.unique k2 (MB s d)]
structure SmL (l:U4):Prop where
 few:Few l
 en:a1N l
 tb:Yx l
 sc:∀s∈l.2.2,SmS s
 fs:l.2.2.length<=100
structure SwS (s:D7):Prop where
 nm:s.1.length<=1000000
 ni:s.2.2.1.length<=100000
 nd:s.2.2.2.1.length<=100000
 nr:s.2.2.2.2.length<=100000
 fo:Yr s
 ro:∀r∈s.2.2.2.2,a1O r
structure SwL (l:U4):Prop where
 few:Few l
 en:a1N l
 tb:Yx l
 sc:∀s∈l.2.2,SwS s
theorem SwL.scopes(h:SwL l):Ou l:=λs hs=>by have hm:=h.sc s hs;exact⟨hm.nm,hm.ni,hm.nd,hm.nr⟩
theorem SmL.w(h:SmL l):SwL l:=⟨h.few,h.en,h.tb,λs hs=>by have hm:=h.sc s hs;exact⟨hm.nm,by have:=hm.ni;omega,by have:=hm.nd;omega,by have:=hm.nr;omega,hm.fo,λr hr=>(hm.ro r hr).1⟩⟩
theorem SmL.scopes(h:SmL l):Ou l:=λs hs=>by have hm:=h.sc s hs;exact⟨hm.nm,by have:=hm.ni;omega,by have:=hm.nd;omega,by have:=hm.nr;omega⟩
theorem rf{ε ρ:Type}{p:Nat->Option ρ}(n:Nat)(hn:n<=1000000)(e:ε){f:Int->Option (Out Int ε ρ)}
  (h1:∀i,i<n->f (i:Int)=some (match p i with|some r=> .rt r|none=> .nx (x9 .i64 (i:Int) 1))) (h2:f (n:Int)=some (.ex e)):
  U0 f 0=some (match Z7 n p with|some r=> .inr r|none=> .inl e):=
 JP n l9 e (λi hi=>by rw[h1 i hi,Y1 l9]<;>cases p i<;>rfl) h2
def LZ(l:U4)(s:D7)(k:Nat):Option (Int×Int):=match s.2.2.2.2[k]? with|some r=>VD (Jm s (Js l s) k r) (300+k:Nat)|none=>none
def a3T(s:D7)(d:Nat):Option (Int×Int):=l7 ((cu s d).any λx=>x8 (d:Int) x) (some (9,((200+d:Nat):Int))) none
def IX(l:U4)(i:Nat)(m:Int):Bool:=l7 (x8 m (-1)) false (l7 (D8 m 0) true (l7 (J6 (i:Int) m) true (match G8 l.2.2 m with|some q=>D6 (x8 q.2.1 (-1))|none=>true)))
def ZX(l:U4)(s:D7):Int×Int:=match JJ l s with
 |some r=>r
 |none=>match Z7 s.2.2.2.2.length (LZ l s)with
  |some r=>r
  |none=>match Z7 s.2.2.2.1.length (a3T s)with
   |some r=>r|none=>(0,0)
def GK(l:U4)(i:Nat)(s:D7):Int×Int:=
 l7 (Ez s.1) (l7 (Gn l 3 i s.1) (7,0) (l7 (IX l i s.2.1) (6,0) (l7 (D8 12 (o9 s.2.2.1)) (4,112) (l7 (D8 12 (o9 s.2.2.2.1)) (4,212) (ZX l s))))) (2,0)
theorem X_(h:EE e sg t=0):e.length<=50:=by
 unfold EE nR at h;cases hs:ng e with
 |inl x=>
  rw[hs]at h;simp only at h;cases hc:x8 x.2 0<;>rw[hc]at h
  .exact absurd h (AA.1 hc)
  .exact absurd (Y5.1 hc) (Dh hs)
 |inr x=>have:=(Gl hs).2;omega
theorem b7D{m:Nat} :∀(D:d5Y),(∀x∈D,0<=x/\x<(m:Int))->(∀d:Int,D.countP (λo=>x8 o d)<=8)->D.length<=m*8:=by
 induction m with
 |zero=>
  intro D h _;cases D with
  |nil=>simp|cons a D=>have:=h a A7;omega
 |succ m ih=>
  intro D h h8;have h1:=ih (D.filter λo=>D6 (x8 o (m:Int))) (λx hx=>by
   obtain⟨hx,hn⟩:=gV.1 hx;have:=h x hx;have hn:x≠(m:Int):=λe=>by rw[O0 e]at hn;cases hn
   omega) (λd=>by rw[List.countP_filter];refine fV (List.countP_mono_left λx _ hx=>?_) (h8 d);simp only[A8]at hx;exact hx.1)
  have h2:=h8 (m:Int);have h3:∀D:d5Y,D.length=D.countP (λo=>x8 o (m:Int))+(D.filter λo=>D6 (x8 o (m:Int))).length:=by
   intro D;induction D with
   |nil=>rfl|cons a D ih=>rw[sO,dF,H5,ih];cases x8 a (m:Int)<;>simp<;>omega
  have:=h3 D;omega
theorem z_(h:Jm s sg k r=0):(∃d,G8 s.2.2.2.1 r.2.1=some d/\OV r sg d.2=0)/\Sz (s.2.2.2.2.take k) r.2.1<8:=by
 unfold Jm at h;cases g1:Ez r.1<;>rw[g1]at h
 .exact absurd (show(2:Int)=0 from h) J5
 cases g2:(s.2.2.2.2.take k).any λx=>seq x.1 r.1<;>rw[g2]at h
 case true=>exact absurd (show(7:Int)=0 from h) J5
 simp only[o7,o6]at h;cases g3:G8 s.2.2.2.1 r.2.1 with
 |none=>rw[g3]at h;exact absurd (show(6:Int)=0 from h) J5|some d=>
  rw[g3]at h;simp only at h;generalize (l7 (x8 r.2.2.1 (-1)) false (l7 (D8 r.2.2.1 0) true (l7 (J6 (k:Int) r.2.2.1) true (match G8 s.2.2.2.2 r.2.2.1 with|some q=>D6 (x8 q.2.1 r.2.1)|none=>true))))=g4 at h;cases g4
  case true=>exact absurd (show(9:Int)=0 from h) J5
  cases g5:D8 r.2.2.2.1 0<;>rw[g5]at h
  case true=>exact absurd (show(3:Int)=0 from h) J5
  cases g6:D8 9 r.2.2.2.1<;>rw[g6]at h
  case true=>exact absurd (show(3:Int)=0 from h) J5
  cases g7:Ju r.2.2.2.2.1<;>rw[g7]at h
  .exact absurd (show(3:Int)=0 from h) J5
  cases g8:x8 r.2.2.2.2.1.1 r.2.2.2.2.1.2<;>rw[g8]at h
  case true=>exact absurd (show(3:Int)=0 from h) J5
  cases g9:J6 8 (Sz (s.2.2.2.2.take k) r.2.1:Int)<;>rw[g9]at h
  case true=>exact absurd (show(4:Int)=0 from h) J5
  cases g10:a3r r.2.2.2.2.2.2.2<;>rw[g10]at h
  .exact absurd (show(2:Int)=0 from h) J5
  simp only[o7,o6]at h;have:=Gw.1 g9;exact⟨⟨d,rfl,h⟩,l9⟩
theorem b0B(h:OV r sg t=0):r.2.2.2.2.2.1.length<=50/\r.2.2.2.2.2.2.1.length<=50:=by
 unfold OV at h;cases g:D8 0 (o9 r.2.2.2.2.2.1)<;>rw[g]at h
 .have:=iE.1 g;unfold o9 at this;exact⟨l9,X_ h⟩
 .rw[o7]at h;cases g2:x8 (EE r.2.2.2.2.2.1 sg (1,0)) 0<;>rw[g2]at h
  .exact absurd h (AA.1 g2)
  .exact⟨X_ (Y5.1 g2),X_ h⟩
theorem b5N(hw:SwS s)(h1:s.2.2.1.length<=12)(h2:s.2.2.2.1.length<=12)(h:Z7 s.2.2.2.2.length (LZ l s)=none):SmS s:=by
 have hz:∀(k:Nat) (r:aC),s.2.2.2.2[k]? =some r->Jm s (Js l s) k r=0:=λk r hr=>by
  have:=Dw h k (X0.1 hr).1;unfold LZ at this;rw[hr]at this;unfold VD at this;simp only at this;cases g:x8 (Jm s (Js l s) k r) 0<;>rw[g]at this
  .cases this
  .exact Y5.1 g
 have hk:∀k,k<=s.2.2.2.2.length->∀d:Int,((s.2.2.2.2.take k).map λ(o:aC)=>o.2.1).countP (λo=>x8 o d)<=8:=by
  intro k;induction k with
  |zero=>intro _ d;simp|succ k ih=>
   intro hk d;have e:=fH (show k<s.2.2.2.2.length by omega);have h3:=(z_ (hz k _ e)).2;unfold Sz at h3;have h4:=ih l9 d;rw[V6 l9,gU,LH];rw[List.countP_map]at h4 ⊢;by_cases hd:(s.2.2.2.2[k]).2.1=d
   .have e5:List.countP ((λ(o:Int)=>x8 o d)∘λ(o:aC)=>o.2.1) (s.2.2.2.2.take k)=(s.2.2.2.2.take k).countP λ(o:aC)=>x8 o.2.1 (s.2.2.2.2[k]).2.1:=by rw[hd];rfl
    have e6:List.countP (λo=>x8 o d) [(s.2.2.2.2[k]).2.1]<=1:=rU;simp only[je,uo];omega
   .have e6:List.countP (λo=>x8 o d) [(s.2.2.2.2[k]).2.1]=0:=by simp[J8 hd]
    simp only[je,uo];omega
 have h8:=hk s.2.2.2.2.length (F5 _);rw[aA]at h8;have hc:=b7D (m:=12) (s.2.2.2.2.map λ(o:aC)=>o.2.1) (λx hx=>by obtain⟨r,hr,rfl⟩:=bM.1 hx;obtain⟨k,hk,e⟩:=X9 hr;obtain⟨⟨d,hd,-⟩,-⟩:=z_ (hz k r (by rw[fH hk,e]));obtain⟨a,b,-⟩:=pV hd;unfold o9 at b;omega) h8
 rw[X4]at hc;refine⟨hw.nm,l9,l9,l9,hw.fo,λr hr=>⟨hw.ro r hr,?_⟩⟩;obtain⟨k,hk,e⟩:=X9 hr;obtain⟨⟨d,-,hd⟩,-⟩:=z_ (hz k r (by rw[fH hk,e]));exact b0B hd
theorem a0e(hL:SwL l)(hs:l.2.2[i]? =some s):DF l (i:Int)=some (GK l i s):=by
 have hi:=(X0.1 hs).1;have hS:=hL.sc s (iZ hs);have hf:=hL.few;have hf1:=hf.1;have hf2:=hf.2.1;have hf3:=hf.2.2;have n1:=hS.ni;have n2:=hS.nd;have n3:=hS.nr;unfold DF GK Gn;rw[E8,hs,o8,CW l9,o8,SE _ l9,o8,Xa _ l9,o8,a4l _ X5,o8];have hb:(l7 (l.1.any λx=>seq x.1 s.1) (some (s,true)) (l7 (l.2.1.any λx=>seq x.1 s.1) (some (s,true)) (some (s,(l.2.2.take i).any λx=>seq x.1 s.1))))=
   some (s,(l.1.any λx=>seq x.1 s.1) || (l.2.1.any λx=>seq x.1 s.1) || (l.2.2.take i).any λx=>seq x.1 s.1):=by
  cases l.1.any λx=>seq x.1 s.1
  .cases l.2.1.any λx=>seq x.1 s.1<;>rfl
  .rfl
 rw[hb,o8];simp only;rw[xG hS.nm,o8];cases Ez s.1
 .rfl
 simp only[D9,o6,o7];cases (l.1.any λx=>seq x.1 s.1) || (l.2.1.any λx=>seq x.1 s.1) || (l.2.2.take i).any λx=>seq x.1 s.1
 case true=>rfl
 simp only[o6];have hm:(l7 (D6 (x8 s.2.1 (-1))) (l7 (D8 s.2.1 0) (some true) (l7 (J6 (i:Int) s.2.1) (some true) (o5 (G8 (l.2.2.take i) s.2.1) λ(x:D7)=>some (D6 (x8 x.2.1 (-1)))))) (some false))=some (IX l i s.2.1):=by
  unfold IX;cases x8 s.2.1 (-1)
  case true=>rfl
  simp only[aJ,o7,o6];cases h0:D8 s.2.1 0
  case true=>rfl
  cases h1:J6 (i:Int) s.2.1
  case true=>rfl
  rw[iE]at h0;rw[Gw]at h1;obtain⟨q,hq,_⟩:=nN (l:=l.2.2.take i) h0 (by simp only[o9,Y9];omega);have hq2:G8 l.2.2 s.2.1=some q:=by have:=(pV hq).2.2.2;unfold G8;rw[if_pos h0];exact(Vb this).2
  rw[hq,hq2];rfl
 rw[hm,o8];cases IX l i s.2.1
 case true=>rfl
 simp only[o6];cases g12:D8 12 (o9 s.2.2.1)
 case true=>rfl
 cases g13:D8 12 (o9 s.2.2.2.1)
 case true=>rfl
 have m1:s.2.2.1.length<=12:=by have:=iE.1 g12;unfold o9 at this;omega
 have m2:s.2.2.2.1.length<=12:=by have:=iE.1 g13;unfold o9 at this;omega
 simp only[o6,o8,J7];unfold ZX JJ;refine V8 (rf (p:=inP l s) s.2.2.1.length l9 PUnit.unit (λk hk=>?_) ?_) ?_
 rotate_left 2
 .cases Z7 s.2.2.1.length (inP l s)
  case some r=>rfl
  simp only[o8,J7];refine V8 (rf (p:=a3U l s) s.2.2.2.1.length l9 PUnit.unit (λk hk=>?_) ?_) ?_
  rotate_left 2
  .cases Z7 s.2.2.2.1.length (a3U l s)
   case some r=>rfl
   simp only[o8,J7];rw[Jr hL.scopes hs,o8];refine V8 (rf (p:=LZ l s) s.2.2.2.2.length l9 PUnit.unit (λk hk=>?_) ?_) ?_
   rotate_left 2
   .cases hfr:Z7 s.2.2.2.2.length (LZ l s)
    case some r=>rfl
    have hS:=b5N hS m1 m2 hfr;simp only[o8,J7];refine V8 (rf (p:=a3T s) s.2.2.2.1.length l9 PUnit.unit (λk hk=>?_) ?_) ?_
    rotate_left 2
    .cases Z7 s.2.2.2.1.length (a3T s)<;>rfl
    .have e:=fH hk;simp only[G9 e,o7];rw[Bo hS l9 (by show(k:Int)<o9 s.2.2.2.1;simp only[o9];omega),o8,b0H _ (by
      have:=ER hS (MB s (k:Int)).1 (λx hx=>Eu hx);omega),o8,show(200:Int)=((200:Nat):Int)from rfl,Xb l9 l9]
     unfold a3T;cases (cu s (k:Int)).any λx=>x8 (k:Int) x<;>rfl
    .rw[G6];rfl
   .have e:=fH hk;have hr:=hS.ro _ (N7 hk);simp only[G9 e,o7];rw[a1W _ e l9 hr,o8,show(300:Int)=((300:Nat):Int)from rfl,Xb l9 l9];simp only[LZ,e,VD];cases x8 (Jm s (Js l s) k s.2.2.2.2[k]) 0<;>rfl
   .rw[G6];rfl
  .have e:=fH hk;have hm:=hS.fo.2 _ (N7 hk);simp only[G9 e,o7,E8,e,o8];rw[CW l9,o8,Ry hm l9 X5,o8,show(200:Int)=((200:Nat):Int)from rfl,Xb l9 l9];simp only[a3U,e,VD];cases x8 (OX l.1 s.2.2.2.1[k] s.2.2.1 (s.2.2.2.1.take k)) 0<;>rfl
  .rw[G6];rfl
 .have e:=fH hk;have hm:=hS.fo.1 _ (N7 hk);simp only[G9 e,o7,E8,e,o8];rw[CW l9,o8,Ry hm X5 A7,o8,show(100:Int)=((100:Nat):Int)from rfl,Xb l9 l9];simp only[inP,e,VD];cases x8 (OX l.1 s.2.2.1[k] (s.2.2.1.take k) []) 0<;>rfl
 .rw[G6];rfl
theorem Qy{c e:Int}{r:Int×Int}(h:VD c e=some r):r.1≠0:=by
 unfold VD at h;cases hc:x8 c 0<;>rw[hc]at h
 .cases h;exact AA.1 hc
 .cases h
theorem WW{r:Int×Int}(h:JJ l s=some r):r.1≠0:=by
 unfold JJ at h;split at h
 .rename_i q hq;cases h;obtain⟨k,_,hk⟩:=jv hq;unfold inP at hk;split at hk
  .exact Qy hk
  .cases hk
 .obtain⟨k,_,hk⟩:=jv h;unfold a3U at hk;split at hk
  .exact Qy hk
  .cases hk
theorem h_(hL:SmL l)(hs:l.2.2[i]? =some s):Aj l (i:Int)=some (l7 (x8 (GK l i s).1 0) (0,0,0,0) (XM i (GK l i s))):=by
 have hi:=(X0.1 hs).1;have hS:=hL.sc s (iZ hs);have hf:=hL.few;have hf1:=hf.1;have hf2:=hf.2.1;have hf3:=hf.2.2;have n1:=hS.ni;have n2:=hS.nd;have n3:=hS.nr;unfold Aj GK;rw[E8,hs,o8,rC hS.nm,o8];cases Ez s.1
 .rfl
 simp only[D9,o6,o7];rw[b1V hf,o8];cases Gn l 3 i s.1
 case true=>rfl
 simp only[o6];have hm:(l7 (D6 (x8 s.2.1 (-1))) (l7 (D8 s.2.1 0) (some (Sum.inr ((6:Int),(3:Int),(i:Int),(0:Int)))) (l7 (J6 (i:Int) s.2.1) (some (.inr (6,3,(i:Int),0))) (o5 (G8 l.2.2 s.2.1) λ(x:D7)=>l7 (D6 (x8 x.2.1 (-1))) (some (.inr (6,3,(i:Int),0))) (some (.inl (((0:Int),(0:Int),(0:Int),(0:Int)),(0:Int),(3:Int),(i:Int),(0:Int))))))) (some (.inl ((0,0,0,0),0,3,(i:Int),0))))=
   some (l7 (IX l i s.2.1) (.inr (6,3,(i:Int),0)) (.inl ((0,0,0,0),0,3,(i:Int),0))):=by
  unfold IX;cases x8 s.2.1 (-1)
  case true=>rfl
  simp only[aJ,o7,o6];cases h0:D8 s.2.1 0
  case true=>rfl
  cases h1:J6 (i:Int) s.2.1
  case true=>rfl
  rw[iE]at h0;rw[Gw]at h1;obtain⟨q,hq,_⟩:=nN (l:=l.2.2) h0 (by simp only[o9];omega);rw[hq];simp only[o6,o8];cases x8 q.2.1 (-1)<;>rfl
 rw[hm,o8];cases IX l i s.2.1
 case true=>rfl
 simp only[o6,J7];cases D8 12 (o9 s.2.2.1)
 case true=>rfl
 cases D8 12 (o9 s.2.2.2.1)
 case true=>rfl
 simp only[o6];rw[f_ hs l9 l9 hS.fo,o8];unfold ZX;cases hfs:JJ l s with
 |some r=>have hc:=WW hfs;simp only[XM];rw[J8 hc];rfl|none=>
  simp only[O0 (rfl:(0:Int)=0),D9,o6];refine V8 (qY (p:=λk=>(LZ l s k).map (XM i)) s.2.2.2.2.length l9 _ (0,0,0,0) (λk hk=>?_) ?_) ?_
  rotate_left 2
  .rw[JK];cases hfr:Z7 s.2.2.2.2.length (LZ l s)with
   |some r=>
    obtain⟨k,_,hk⟩:=jv hfr;have hc:r.1≠0:=by
     unfold LZ at hk;split at hk
     .exact Qy hk
     .cases hk
    simp only[aN,o8,wP];rw[J8 hc];rfl
   |none=>
    simp only[yV,o8,J7];refine V8 (qY (p:=λk=>(a3T s k).map (XM i)) s.2.2.2.1.length l9 _ (0,0,0,0) (λk hk=>?_) ?_) ?_
    rotate_left 2
    .rw[JK];cases hfc:Z7 s.2.2.2.1.length (a3T s)with
     |some r=>
      obtain⟨k,_,hk⟩:=jv hfc;have hc:r.1≠0:=by
       unfold a3T at hk;cases hq:(cu s (k:Int)).any λx=>x8 (k:Int) x<;>rw[hq]at hk
       .cases hk
       .cases hk;show(9:Int)≠0;decide
      simp only[aN,o8,wP];rw[J8 hc];rfl
     |none=>rfl
    .have e:=fH hk;have htl:=ER hS (MB s (k:Int)).1 (λx hx=>Eu hx);simp only[G9 e,o7];rw[yZ hS,o8,show(200:Int)=((200:Nat):Int)from rfl,Xb l9 l9];have hcy:U0 (λ(x_6:qc×Int)=>l7 (D8 x_6.2 (o9 (cu s (k:Int)))) (o5 (G8 (cu s (k:Int)) x_6.2) λ(x:Int)=>l7 (x8 x (k:Int)) (some (Out.rt ((9:Int),(3:Int),(i:Int),((200+k:Nat):Int)))) (some (.nx (x_6.1,x9 .i64 x_6.2 1)))) (some (.ex x_6.1))) (((0:Int),(0:Int),(0:Int),(0:Int)),(0:Int))=
       some (l7 ((cu s (k:Int)).any λx=>x8 (k:Int) x) (.inr (9,3,(i:Int),((200+k:Nat):Int))) (.inl (0,0,0,0))):=by
      have h1:=SK (cu s (k:Int)) (λ(b:Int×Int×Int×Int) x=>l7 (x8 x (k:Int)) (.inr ((9:Int),(3:Int),(i:Int),((200+k:Nat):Int))) (.inl b)) (λb i=>(b,i)) (λb=>b) (λ_ _=>True) (b:=((0,0,0,0):Int×Int×Int×Int)) (f:=λ(x_6:qc×Int)=>l7 (D8 x_6.2 (o9 (cu s (k:Int)))) (o5 (G8 (cu s (k:Int)) x_6.2) λ(x:Int)=>l7 (x8 x (k:Int)) (some (Out.rt ((9:Int),(3:Int),(i:Int),((200+k:Nat):Int)))) (some (.nx (x_6.1,x9 .i64 x_6.2 1)))) (some (.ex x_6.1))) l9 trivial (λj x b hx hj _=>by refine⟨?_,λ_ _=>trivial⟩;simp only[G9 hx,o7,E8,hx,o8];rw[Y1 l9];cases x8 x (k:Int)<;>rfl) (λb _=>by simp only[G6];rfl)
      refine h1.1.trans ?_;have hfo:∀(l:d5Y) (b:Int×Int×Int×Int),fG (λ(b:Int×Int×Int×Int) x=>l7 (x8 x (k:Int)) (.inr ((9:Int),(3:Int),(i:Int),((200+k:Nat):Int))) (.inl b)) l b=l7 (l.any λx=>x8 (k:Int) x) (.inr (9,3,(i:Int),((200+k:Nat):Int))) (.inl b):=by
       intro l;induction l with
       |nil=>intro b;rfl|cons a l ih=>
        intro b;unfold fG;rw[lM,show x8 (k:Int) a=x8 a (k:Int) by unfold x8;by_cases h:a=(k:Int)<;>simp[h,eq_comm]];cases x8 a (k:Int)
        .simp only[o6,lL];exact ih b
        .rfl
      rw[hfo];cases (cu s (k:Int)).any λx=>x8 (k:Int) x<;>rfl
     refine V8 hcy ?_;unfold a3T;cases (cu s (k:Int)).any λx=>x8 (k:Int) x<;>rfl
    .simp only[G6];rfl
  .have e:=fH hk;have hr:=(hS.ro _ (N7 hk)).1;simp only[G9 e,o7];rw[a0v hL.scopes hs e hr,o8,show(300:Int)=((300:Nat):Int)from rfl,Xb l9 l9];simp only[LZ,e,VD];cases x8 (Jm s (Js l s) k s.2.2.2.2[k]) 0<;>rfl
  .simp only[G6];rfl
def Jq(l:U4)(i:Nat):Option (Int×Int×Int×Int):=match l.2.2[i]? with|some s=>SB 3 i (GK l i s)|none=>none
def QV(l:U4):Int×Int×Int×Int:=l7 (D8 4 (o9 l.2.2)) (4,3,4,0) (match Z7 l.2.2.length (Jq l)with|some r=>r|none=>(0,0,0,0))
def ja(l:U4):Int×Int×Int×Int:=l7 (x8 (KG l).1 0) (l7 (x8 (Ky l).1 0) (QV l) (Ky l)) (KG l)
theorem YP(hL:SwL l):BF l=some (QV l):=by
 have hf:=hL.few.2.2;unfold BF QV;cases D8 4 (o9 l.2.2)
 case true=>rfl
 simp only[o6];refine V8 (qY (p:=Jq l) l.2.2.length l9 _ (0,0,0,0) (λi hi=>?_) ?_) ?_
 rotate_left 2
 .cases Z7 l.2.2.length (Jq l)<;>rfl
 .have e:=fH hi;simp only[G9 e,o7,a0e hL e,o8,Jq,e,SB];cases x8 (GK l i l.2.2[i]).1 0<;>rfl
 .rw[G6];rfl
theorem a3x(hL:SwL l):xm l=some (ja l):=by
 unfold xm ja;rw[a0d hL.few hL.en,o8];cases x8 (KG l).1 0
 .rfl
 simp only[D9,o6,o7];rw[YQ hL.few hL.tb,o8];cases x8 (Ky l).1 0
 .rfl
 simp only[D9,o6,o7];rw[YP hL];rfl
theorem Qh(hL:SmL l):xm l=some (ja l):=a3x hL.w
theorem Qz{k i:Int}{c:Int×Int}{r:Int×Int×Int×Int}(h:SB k i c=some r):r.1≠0:=by
 unfold SB at h;cases hc:x8 c.1 0<;>rw[hc]at h
 .cases h;exact AA.1 hc
 .cases h
theorem Np(hL:SmL l):wH l=some (ja l):=by
 have hf1:=hL.few.1;have hf2:=hL.few.2.1;have hf3:=hL.few.2.2;unfold wH ja KG;cases D8 8 (o9 l.1)
 case true=>rfl
 simp only[o6];refine V8 (qY (p:=OT l) l.1.length l9 _ (0,0,0,0) (λi hi=>?_) ?_) ?_
 rotate_left 2
 .cases hfe:Z7 l.1.length (OT l)with
  |some r=>
   obtain⟨k,_,hk⟩:=jv hfe;have hc:r.1≠0:=by
    unfold OT at hk;split at hk
    .exact Qz hk
    .cases hk
   simp only[o8,wP,J8 hc,o6]
  |none=>
   simp only[o8,J7,O0 (rfl:(0:Int)=0),o7];unfold Ky;cases D8 8 (o9 l.2.1)
   case true=>rfl
   simp only[o6];refine V8 (qY (p:=Qg l) l.2.1.length l9 _ (0,0,0,0) (λi hi=>?_) ?_) ?_
   rotate_left 2
   .cases hft:Z7 l.2.1.length (Qg l)with
    |some r=>
     obtain⟨k,_,hk⟩:=jv hft;have hc:r.1≠0:=by
      unfold Qg at hk;split at hk
      .exact Qz hk
      .cases hk
     simp only[o8,wP,J8 hc,o6]
    |none=>
     simp only[o8,J7,O0 (rfl:(0:Int)=0),o7];unfold QV;cases D8 4 (o9 l.2.2)
     case true=>rfl
     simp only[o6];refine V8 (qY (p:=Jq l) l.2.2.length l9 _ (0,0,0,0) (λi hi=>?_) ?_) ?_
     rotate_left 2
     .cases Z7 l.2.2.length (Jq l)<;>rfl
     .have e:=fH hi;simp only[G9 e,o7,h_ hL e,o8,Jq,e,SB];cases hc:x8 (GK l i l.2.2[i]).1 0
      .simp only[o6,XM,hc];rfl
      .simp only[o7,O0 (rfl:(0:Int)=0)];rfl
     .simp only[G6];rfl
   .have e:=fH hi;simp only[G9 e,o7,j_ hL.few e (hL.tb _ (N7 hi)),o8,Qg,e,SB,QZ];cases hc:x8 (N_ l i l.2.1[i]).1 0
    .simp only[o6,hc];rfl
    .simp only[o7,O0 (rfl:(0:Int)=0)];rfl
   .simp only[G6];rfl
 .have e:=fH hi;have hm:=hL.en _ (N7 hi);simp only[G9 e,o7,a0r hL.few e hm.1 hm.2,o8,OT,e,SB,QZ];cases hc:x8 (WT l i l.1[i]).1 0
  .simp only[o6,hc];rfl
  .simp only[o7,O0 (rfl:(0:Int)=0)];rfl
 .simp only[G6];rfl
structure SmC (c:fM):Prop where
 ni:c.2.1.length<=1000
 nm:c.2.2.length<=1000
 nv:∀v∈c.2.2,v.length<=1000
def a8v(en:List gI)(fs:List gu)(vs:List J3)(i:Nat):Option (Int×Int):=match vs[i]?,fs[i]? with
 |some v,some f=>l7 (x8 v.1 f.2.1) (l7 (x8 v.2.1 f.2.2) (l7 (inB v.2.2 (bnd f.2 en)) none (some ((i:Int),3))) (some ((i:Int),8))) (some ((i:Int),8))|_,_=>none
def Oi(en:List gI)(fs:List gu)(vs:List J3):Int×Int:=
 l7 (D8 (o9 vs) (o9 fs)) (o9 vs,5) (l7 (D8 (o9 fs) (o9 vs)) (o9 fs,4) (match Z7 vs.length (a8v en fs vs)with|some r=>r|none=>(0,0)))
theorem OI(l:U4){vs:List J3}{fs:List gu}(hv:vs.length<=1000000):oK l vs fs=some (Oi l.1 fs vs):=by
 unfold oK Oi;cases h1:D8 (o9 vs) (o9 fs)
 case true=>rfl
 cases h2:D8 (o9 fs) (o9 vs)
 case true=>rfl
 simp only[o6];have hl:vs.length=fs.length:=by rw[iE]at h1 h2;simp only[o9]at h1 h2;omega
 refine V8 (rf (p:=a8v l.1 fs vs) vs.length hv PUnit.unit (λk hk=>?_) ?_) ?_
 rotate_left 2
 .cases Z7 vs.length (a8v l.1 fs vs)<;>rfl
 .have e:=fH hk;have e2:=fH (show k<fs.length by omega);simp only[G9 e,o7,E8,e,e2,o8,Vt,a8v,inB,oG];cases x8 vs[k].1 fs[k].2.1
  .rfl
  cases x8 vs[k].2.1 fs[k].2.2
  .rfl
  cases J6 (bnd fs[k].2 l.1).1 vs[k].2.2
  .rfl
  cases J6 vs[k].2.2 (bnd fs[k].2 l.1).2<;>rfl
 .rw[G6];rfl
theorem g_(l:U4){vs:List J3}{fs:List gu}(hv:vs.length<=1000000):Am l fs vs=some (Oi l.1 fs vs):=by
 unfold Am Oi;cases h1:D8 (o9 vs) (o9 fs)
 case true=>rfl
 cases h2:D8 (o9 fs) (o9 vs)
 case true=>rfl
 simp only[o6];have hl:vs.length=fs.length:=by rw[iE]at h1 h2;simp only[o9]at h1 h2;omega
 refine V8 (rf (p:=a8v l.1 fs vs) vs.length hv PUnit.unit (λk hk=>?_) ?_) ?_
 rotate_left 2
 .cases Z7 vs.length (a8v l.1 fs vs)<;>rfl
 .have e:=fH hk;have e2:=fH (show k<fs.length by omega);simp only[G9 e,o7,E8,e,e2,o8,a2M,a8v,Tu];cases x8 vs[k].1 fs[k].2.1
  .rfl
  cases x8 vs[k].2.1 fs[k].2.2
  .rfl
  cases inB vs[k].2.2 (bnd fs[k].2 l.1)<;>rfl
 .rw[G6];rfl
def KQ(l:U4)(s:D7):List gu×Int:=match G8 l.2.2 s.2.1 with|some q=>(q.2.2.1,8)|none=>([],0)
def a4D(en:List gI)(fs:List gu)(ms:List (List J3))(i:Nat):Option (Int×Int×Int):=match ms[i]? with
 |some vs=>l7 (x8 (Oi en fs vs).2 0) none (some ((i:Int),Oi en fs vs))|none=>none
def OH(l:U4)(k:Int)(c:fM):Int×Int×Int:=match G8 l.2.2 k with
 |none=>(-1,-1,6)
 |some s=>l7 (D8 c.1 0) (-1,-1,3) (l7 (D8 109572 c.1) (-1,-1,3) (l7 (x8 (Oi l.1 s.2.2.1 c.2.1).2 0)
   (l7 (D8 (KQ l s).2 (o9 c.2.2)) ((KQ l s).2,-1,4) (match Z7 c.2.2.length (a4D l.1 (KQ l s).1 c.2.2)with|some r=>r|none=>(0,0,0))) (-1,Oi l.1 s.2.2.1 c.2.1)))
theorem a5F{k:Int}{A B:Option (PUnit⊕(Int×Int×Int))} :(∃s,G8 l.2.2 k=some s/\l7 (D8 k 0) A (l7 (J6 (o9 l.2.2) k) A B)=B/\s∈l.2.2)\/(G8 l.2.2 k=none/\l7 (D8 k 0) A (l7 (J6 (o9 l.2.2) k) A B)=A):=by
 rw[oG k 0,BA (o9 l.2.2) k];cases h0:J6 0 k
 .exact .inr ⟨kD (.inl h0),rfl⟩
 cases h1:D8 k (o9 l.2.2)
 .exact .inr ⟨kD (.inr h1),rfl⟩
 obtain⟨s,hs,hm⟩:=nN (pO.1 h0) (jX.1 h1);exact .inl ⟨s,hs,rfl,hm⟩
theorem b7C(l:U4)(k:Int){c:fM}(hc:SmC c):yw l k c=some (OH l k c):=by
 unfold yw OH;rcases a5F (l:=l) (k:=k) (A:=some (.inr ((-1:Int),(-1:Int),(6:Int)))) (B:=some (.inl PUnit.unit))with⟨s,hs,hb,_⟩|⟨hs,hb⟩
 .rw[hb,hs];simp only[o8,J7];cases D8 c.1 0
  case true=>rfl
  cases D8 109572 c.1
  case true=>rfl
  simp only[o6,o8,J7];rw[OI l (by have:=hc.ni;omega),o8];cases x8 (Oi l.1 s.2.2.1 c.2.1).2 0
  .rfl
  simp only[D9,o6,o7];have hm:sJ l k=some (KQ l s):=by
   unfold sJ KQ;rw[hs,o8,oG s.2.1 0,BA (o9 l.2.2) s.2.1];cases h0:J6 0 s.2.1
   .rw[kD (.inl h0)];rfl
   cases h1:D8 s.2.1 (o9 l.2.2)
   .rw[kD (.inr h1)];rfl
   obtain⟨q,hq,_⟩:=nN (pO.1 h0) (jX.1 h1);rw[hq];rfl
  rw[hm,o8];cases D8 (KQ l s).2 (o9 c.2.2)
  case true=>rfl
  simp only[o6];refine V8 (rf (p:=a4D l.1 (KQ l s).1 c.2.2) c.2.2.length (by have:=hc.nm;omega) PUnit.unit (λj hj=>?_) ?_) ?_
  rotate_left 2
  .cases Z7 c.2.2.length (a4D l.1 (KQ l s).1 c.2.2)<;>rfl
  .have e:=fH hj;simp only[G9 e,o7,E8,e,o8];rw[OI l (by have:=hc.nv _ (N7 hj);omega),o8];simp only[a4D,e];cases x8 (Oi l.1 (KQ l s).1 c.2.2[j]).2 0<;>rfl
  .rw[G6];rfl
 .rw[hb,hs];rfl
theorem b4E(l:U4)(k:Int){c:fM}(hc:SmC c):Ee l k c=some (OH l k c):=by
 unfold Ee OH;rcases a5F (l:=l) (k:=k) (A:=some (.inr ((-1:Int),(-1:Int),(6:Int)))) (B:=some (.inl PUnit.unit))with⟨s,hs,hb,_⟩|⟨hs,hb⟩
 .rw[hb,hs];simp only[o8,J7];cases D8 c.1 0
  case true=>rfl
  cases D8 109572 c.1
  case true=>rfl
  simp only[o6,o8,J7];rw[g_ l (by have:=hc.ni;omega),o8];cases x8 (Oi l.1 s.2.2.1 c.2.1).2 0
  .rfl
  simp only[D9,o6,o7];have hm:FK l k=some (l7 (J6 0 s.2.1) (l7 (D8 s.2.1 (o9 l.2.2)) (s.2.1,8) (-1,0)) (-1,0)):=by
   unfold FK;rw[hs,o8,oG s.2.1 0,BA (o9 l.2.2) s.2.1];cases J6 0 s.2.1
   .rfl
   cases D8 s.2.1 (o9 l.2.2)<;>rfl
  rw[hm,o8];unfold KQ;have hz:∀(m:Int) (fs:List gu),l7 (D8 (0:Int) (o9 c.2.2)) (some (((0:Int),(-1:Int),(4:Int)):Int×Int×Int)) (o5 (U0 (λ(x_1:Int)=>l7 (D8 x_1 (o9 c.2.2)) (o5 (G8 l.2.2 m) λ(x:D7)=>o5 (G8 c.2.2 x_1) λ(x_2:List J3)=>o5 (Am l x.2.2.1 x_2) λ(x:AP)=>l7 (D6 (x8 x.2 0)) (some (Out.rt ((x_1,x):Int×Int×Int))) (some (.nx (x9 .i64 x_1 1)))) (some (.ex PUnit.unit))) 0) λ(o:PUnit⊕J3)=>V5 o (λ(y:PUnit)=>some (0,0,0)) λ(r:J3)=>some r)=
    some (l7 (D8 0 (o9 c.2.2)) (0,-1,4) (match Z7 c.2.2.length (a4D l.1 fs c.2.2)with|some r=>r|none=>(0,0,0))):=by
   intro m fs;cases h0:D8 0 (o9 c.2.2)
   case true=>rfl
   have:c.2.2.length=0:=by rw[iE]at h0;simp only[o9]at h0;omega
   have hnil:c.2.2=[]:=O9.1 this;rw[hnil];rfl
  cases h0:J6 0 s.2.1
  .rw[kD (.inl h0)];exact hz _ _
  cases h1:D8 s.2.1 (o9 l.2.2)
  .rw[kD (.inr h1)];exact hz _ _
  obtain⟨q,hq,_⟩:=nN (pO.1 h0) (jX.1 h1);rw[hq];simp only[o7];cases D8 8 (o9 c.2.2)
  case true=>rfl
  simp only[o6];refine V8 (rf (p:=a4D l.1 q.2.2.1 c.2.2) c.2.2.length (by have:=hc.nm;omega) PUnit.unit (λj hj=>?_) ?_) ?_
  rotate_left 2
  .cases Z7 c.2.2.length (a4D l.1 q.2.2.1 c.2.2)<;>rfl
  .have e:=fH hj;simp only[G9 e,o7,E8,e,o8,hq];rw[g_ l (by have:=hc.nv _ (N7 hj);omega),o8];simp only[a4D,e];cases x8 (Oi l.1 q.2.2.1 c.2.2[j]).2 0<;>rfl
  .rw[G6];rfl
 .rw[hb,hs];rfl
def TT(r:Int×Int)(t:Int):Bool:=l7 (Ju r) (l7 (J6 r.1 t) (D8 t r.2) false) false
theorem JC(r:Int×Int)(t:Int):og r t=some (TT r t):=by
 unfold og TT;rw[Lh,o8];cases Ju r
 .rfl
 cases J6 r.1 t<;>rfl
theorem Nk(r:Int×Int)(t:Int):wE r t=some (TT r t):=JC r t
section
variable (on:Nat->Bool) (par:Nat->Int)
def TS(i:Nat):Nat:=((List.range i).filter on).length
def Hq(i:Nat):Int:=if on i=true then(TS on i:Int)else if h:0<=par i/\par i<(i:Int)then Hq (par i).toNat else -1
termination_by i
decreasing_by omega
def anc(i:Nat):Int:=if 0<=par i/\par i<(i:Int)then Hq on par (par i).toNat else -1
theorem a9y(i:Nat):Hq on par i=if on i=true then(TS on i:Int)else anc on par i:=by
 rw[Hq];unfold anc;by_cases h:on i=true
 .rw[if_pos h,if_pos h]
 .rw[if_neg h,if_neg h];by_cases h2:0<=par i/\par i<(i:Int)
  .rw[dif_pos h2,if_pos h2]
  .rw[dif_neg h2,if_neg h2]
def onL(n:Nat):d6a:=(List.range n).filter on
theorem PG(i:Nat):onL on (i+1)=onL on i++(bif on i then[i]else[]):=by unfold onL;rw[dZ,vW];rw[show List.filter on [i]=bif on i then[i]else[] by rw[dF];cases on i<;>rfl]
theorem FB(i:Nat):(onL on i).length<=i:=by have:=aV on (List.range i);unfold onL;simpa using this
theorem a9D{n p:Nat}(hp:p<n)(h:on p=true):(onL on n)[TS on p]? =some p:=by
 induction n with
 |zero=>omega|succ n ih=>
  rw[PG];by_cases hq:p=n
  .subst hq;rw[h,I7 (by unfold TS onL;omega)];unfold TS onL;simp
  .have:=ih l9;rw[O8 (X0.1 this).1];exact this
theorem a2w(h:i∈onL on n):i<n/\on i=true:=by unfold onL at h;obtain⟨h1,h2⟩:=gV.1 h;exact⟨bT.1 h1,h2⟩
end
def castL(l:d6a):d5Y:=l.map λ(i:Nat)=>(i:Int)
theorem b0r{l:d6a}{i a:Nat}(h:l[i]? =some a):(castL l)[i]? =some (a:Int):=by unfold castL;rw[fO,h];rfl
theorem b1C{rs:List aC}{on:Nat->Bool}{f:d5Y×d5Y×d5Y×Int->Option ((d5Y×d5Y×d5Y×Int)⊕(d5Y×d5Y))}(hl:rs.length<=1000)
  (hin:∀(i:Nat) (r:aC) (A B C:d5Y),rs[i]? =some r->f (A,B,C,(i:Int))=o5 (l7 (J6 0 r.2.2.1) (l7 (D8 r.2.2.1 (i:Int)) (o5 (G8 C r.2.2.1) λ(x_2:Int)=>o5 (P7 C (U8 r.2.2.1)) λ(x:Int)=>some x) (some (-1))) (some (-1))) λ(x_2:Int)=>
   o5 (G8 C (i:Int)) λ(x_3:Int)=>o5 (P7 C (U8 (i:Int))) λ(x_4:Int)=>l7 (on i) (o5 (G8 (aW C (U8 (i:Int)) x_2) (i:Int)) λ(x_6:Int)=>o5 (P7 (aW C (U8 (i:Int)) x_2) (U8 (i:Int))) λ(x_7:Int)=>o5 (bz A [(i:Int)]) λ(x_8:d5Y)=>o5 (bz B [x_2]) λ(x_9:d5Y)=>
     some (.inl (x_8,x_9,aW (aW C (U8 (i:Int)) x_2) (U8 (i:Int)) (o9 A),x9 .i64 (i:Int) 1))) (some (.inl (A,B,aW C (U8 (i:Int)) x_2,x9 .i64 (i:Int) 1))))
  (hend:∀(A B C:d5Y),f (A,B,C,(rs.length:Int))=some (.inr (A,B))):
  Y8 f ([],[],List.replicate rs.length 0,0)=some (castL (onL on rs.length),(onL on rs.length).map (anc on λi=>match rs[i]? with|some r=>r.2.2.1|none=>-1)):=by
 obtain⟨par,hpar⟩:∃par:Nat->Int,par=λi=>match rs[i]? with|some r=>r.2.2.1|none=>-1:=⟨_,rfl⟩
 rw[←hpar];obtain⟨e,h1,h2⟩:=iy (f:=f) (s:=([],[],List.replicate rs.length 0,0)) (λx=>∃i:Nat,x=(castL (onL on i),(onL on i).map (anc on par),pd ((List.range i).map (Hq on par)) (rs.length -i),(i:Int))/\i<=rs.length)
  (λe=>e=(castL (onL on rs.length),(onL on rs.length).map (anc on par))) (λx=>rs.length -x.2.2.2.toNat) ⟨0,by simp[onL,castL,pd],l9⟩ X5 (by
  rintro x ⟨i,rfl,hi⟩;by_cases h:i<rs.length
  .left;have e:=fH h;have hp:par i=rs[i].2.2.1:=by rw[hpar];simp only[e]
   obtain⟨p,hpp⟩:∃p:Int,p=par i:=⟨_,rfl⟩;have hp' :rs[i].2.2.1=p:=by rw[hpp,hp]
   have hlen:((List.range i).map (Hq on par)).length=i:=A7;have hol:=FB on i;obtain⟨m,hm⟩:∃m,rs.length -i=m+1:=⟨rs.length -i -1,l9⟩;have hanc:o5 (l7 (J6 0 p) (l7 (D8 p (i:Int)) (o5 (G8 (pd ((List.range i).map (Hq on par)) (m+1)) p) λ(x_2:Int)=>o5 (P7 (pd ((List.range i).map (Hq on par)) (m+1)) (U8 p)) λ(x:Int)=>some x) (some (-1))) (some (-1))) (λx=>some x)=some (anc on par i):=by
    unfold anc;rw[←hpp];by_cases h0:0<=p
    .rw[Y6 h0];by_cases h1:p<(i:Int)
     .have hk:p.toNat<i:=l9;have hg:(pd ((List.range i).map (Hq on par)) (m+1))[p.toNat]? =some (Hq on par p.toNat):=by
       unfold pd;rw[O8 X5,Hm _ _ hk]
      rw[U7 h1,if_pos ⟨h0,h1⟩];simp only[o7];rw[show G8 (pd ((List.range i).map (Hq on par)) (m+1)) p=some (Hq on par p.toNat) by unfold G8;rw[if_pos h0];exact hg,o8,show P7 (pd ((List.range i).map (Hq on par)) (m+1)) (U8 p)=some (Hq on par p.toNat)from hg];rfl
     .rw[L8 l9,if_neg l9];rfl
    .rw[Z5 l9,if_neg l9];rfl
   rw[gy]at hanc;refine⟨(castL (onL on (i+1)),(onL on (i+1)).map (anc on par),pd ((List.range (i+1)).map (Hq on par)) (rs.length -(i+1)),((i+1:Nat):Int)),?_,⟨i+1,rfl,h⟩,by simp;omega⟩;rw[hin i _ _ _ _ e,hm,hp',hanc,o8,Y1 l9,show rs.length -(i+1)=m by omega,PG,dZ,gU];have q1:=a2C ((List.range i).map (Hq on par)) m;have q2:=a2D ((List.range i).map (Hq on par)) m;have q3:=a7l ((List.range i).map (Hq on par)) m (anc on par i);have q4:=QG ((List.range i).map (Hq on par)) m (anc on par i);have q5:=PH ((List.range i).map (Hq on par)) m (anc on par i);have q6:=UF ((List.range i).map (Hq on par)) m (anc on par i) (o9 (castL (onL on i)));rw[hlen]at q1 q2 q3 q4 q5 q6;rw[q1,o8,q2,o8,q3];have hna:(List.map (Hq on par) (List.range i++[i]))=(List.range i).map (Hq on par)++[if on i=true then(TS on i:Int)else anc on par i]:=by rw[gU,List.map_singleton,a9y]
   rw[hna];cases hon:on i
   .simp[castL]
   .simp only[o7,cond_true];rw[q4,o8,q5,o8,jh _ (by simp[castL];omega),o8,jh _ X5,o8,q6];simp[castL,o9,TS,onL]
  .right;have:i=rs.length:=l9;subst this;exact⟨_,hend _ _ _,rfl⟩)
 rw[h1,h2]
def onR(s:D7)(d t:Int)(i:Nat):Bool:=match s.2.2.2.2[i]? with|some r=>l7 (x8 r.2.1 d) (TT r.2.2.2.2.1 t) false|none=>false
def LV(s:D7)(i:Nat):Int:=match s.2.2.2.2[i]? with|some r=>r.2.2.1|none=>-1
def qw(s:D7)(d t:Int):d6a:=onL (onR s d t) s.2.2.2.2.length
def a_(s:D7)(i:Nat):Int:=match s.2.2.2.2[i]? with|some r=>r.2.2.2.1|none=>0
def iY(s:D7)(d t:Int):d5Y×d5Y×d5Y:=(castL (qw s d t),(qw s d t).map (anc (onR s d t) (LV s)),(qw s d t).map (a_ s))
theorem c0P(h:s.2.2.2.2[i]? =some r)(d t:Int):xf r d t=some (onR s d t i):=by unfold xf onR;rw[h,JC];simp only;cases x8 r.2.1 d<;>rfl
theorem a2W(h:s.2.2.2.2.length<=1000)(d t:Int):vC s.2.2.2.2 (d,t)=some (castL (qw s d t),(qw s d t).map (anc (onR s d t) (LV s))):=by
 unfold vC;rw[show qo (o9 s.2.2.2.2) (0:Int)=some (List.replicate s.2.2.2.2.length 0) by unfold qo;rw[if_pos (by simp[o9];omega)];simp[o9],o8,gy];refine b1C h (λi r A B C hr=>?_) (λA B C=>?_)
 .simp only[G9 hr,o7,E8,hr,o8];rw[c0P hr];rfl
 .simp only[G6];rfl
theorem Ws{d t:Int}(h:i∈qw s d t):i<s.2.2.2.2.length/\onR s d t i=true:=a2w _ h
theorem b1X(h:s.2.2.2.2.length<=1000)(d t:Int):zJ s d t=some (iY s d t):=by
 have hl:=FB (onR s d t) s.2.2.2.2.length;unfold zJ;rw[a2W h,o8];refine V8 (b2Z (castL (qw s d t)) (λ(k:Int)=>a_ s k.toNat) (F:=id) (by unfold castL qw;simp;omega) (λi a acc ha hacc=>?_) (λacc=>?_)) ?_
 rotate_left 2
 .rw[o8];unfold iY castL;rw[yD];rfl
 .simp only[G9 ha,o7,E8 (castL (qw s d t)),ha,o8];rw[show P7 (castL (qw s d t)) (U8 (i:Int))=some a from ha,o8];obtain⟨k,hk,rfl⟩:∃k,k∈qw s d t/\(k:Int)=a:=by
   have:=iZ ha;unfold castL at this;exact bM.1 this
  have hlt:=Ws hk;have e:=fH hlt.1;have hil:=(X0.1 ha).1;simp only[castL,X4]at hil;rw[E8,e,o8,jh _ (by unfold qw at hil;omega),o8];simp only[a_,U3,e]
 .simp only[G6];rfl
theorem a5m(h:s.2.2.2.2.length<=1000)(d t:Int):FI s d t=some (castL (qw s d t)):=by
 unfold FI;rw[gy];obtain⟨e,h1,h2⟩:=iy (f:=λ(x:d5Y×Int)=>l7 (D8 x.2 (o9 s.2.2.2.2)) (o5 (G8 s.2.2.2.2 x.2) λ(x_1:aC)=>l7 (x8 x_1.2.1 d) (o5 (G8 s.2.2.2.2 x.2) λ(x_2:aC)=>o5 (wE x_2.2.2.2.2.1 t) λ(x_3:Bool)=>
   l7 x_3 (o5 (bz x.1 [x.2]) λ(x_4:d5Y)=>some (.inl (x_4,x9 .i64 x.2 1))) (some (.inl (x.1,x9 .i64 x.2 1)))) (some (.inl (x.1,x9 .i64 x.2 1)))) (some (.inr x.1)))
  (s:=([],0)) (λx=>∃i:Nat,x=(castL (onL (onR s d t) i),(i:Int))/\i<=s.2.2.2.2.length) (λe=>e=castL (qw s d t)) (λx=>s.2.2.2.2.length -x.2.toNat) ⟨0,rfl,l9⟩ X5 (by
  rintro x ⟨i,rfl,hi⟩;by_cases hlt:i<s.2.2.2.2.length
  .left;have e:=fH hlt;have hol:=FB (onR s d t) i;refine⟨(castL (onL (onR s d t) (i+1)),((i+1:Nat):Int)),?_,⟨i+1,rfl,hlt⟩,by simp;omega⟩;simp only[G9 e,o7,E8,e,o8,Nk];rw[Y1 l9,jh _ (by simp[castL];omega),PG];have hon:onR s d t i=l7 (x8 s.2.2.2.2[i].2.1 d) (TT s.2.2.2.2[i].2.2.2.2.1 t) false:=by unfold onR;rw[e]
   rw[hon];cases x8 s.2.2.2.2[i].2.1 d
   .simp[castL]
   simp only[o7];cases TT s.2.2.2.2[i].2.2.2.2.1 t<;>simp[castL]
  .right;have:i=s.2.2.2.2.length:=l9;subst this;exact⟨_,by rw[G6];rfl,rfl⟩)
 rw[h1,h2]
theorem b1b{l:d6a}(hl:l.Pairwise (·< ·)){i j a:Nat}(hi:l[i]? =some a)(hj:l[j]? =some a):i=j:=by
 obtain⟨h1,h2⟩:=X0.1 hi;obtain⟨h3,h4⟩:=X0.1 hj;rcases Nat.lt_trichotomy i j with h|h|h
 .have:=iQ.1 hl i j h1 h3 h;omega
 .exact h
 .have:=iQ.1 hl j i h3 h1 h;omega
theorem a7f(on:Nat->Bool)(n:Nat):(onL on n).Pairwise (·< ·):=List.Pairwise.filter _ yE
theorem b1t(on:Nat->Bool){n p:Nat}(hn:n<=1000)(hp:p<n):Gf (castL (onL on n)) (p:Int)=some (if on p=true then(TS on p:Int)else -1):=by
 have hl:=FB on n;unfold Gf;have key:=xq (f:=λ(x:Int)=>l7 (D8 x (o9 (castL (onL on n)))) (o5 (G8 (castL (onL on n)) x) λ(x_1:Int)=>l7 (x8 x_1 (p:Int)) (some (.rt x)) (some (.nx (x9 .i64 x 1)))) (some (.ex PUnit.unit)))
  (s:=0) (λx=>∃i:Nat,x=i/\i<=(onL on n).length/\∀j,j<i->(onL on n)[j]?≠some p) (λ_=>∀j,j<(onL on n).length->(onL on n)[j]?≠some p) (λr=>∃i:Nat,r=(i:Int)/\(onL on n)[i]? =some p) (λx=>(onL on n).length -x.toNat) ⟨0,rfl,l9,λj hj=>by omega⟩ X5 (by
  rintro x ⟨i,rfl,hi,hno⟩;by_cases hlt:i<(onL on n).length
  .have e:=fH hlt;have e2:=b0r e;have e3:D8 (i:Int) (o9 (castL (onL on n)))=true:=G9 e2;rw[e3,o7,E8,e2,o8];by_cases hq:(onL on n)[i]=p
   .right;right;exact⟨_,by rw[O0 l9];rfl,i,rfl,by rw[e,hq]⟩
   .left;refine⟨((i+1:Nat):Int),by rw[J8 l9,Y1 l9];rfl,⟨i+1,rfl,hlt,λj hj=>?_⟩,by simp;omega⟩;by_cases hji:j=i
    .subst hji;rw[e];intro h;exact hq (ay h)
    .exact hno j l9
  .right;left;have hil:i=(onL on n).length:=l9;subst hil;have e3:D8 ((onL on n).length:Int) (o9 (castL (onL on n)))=false:=by
    have:=G6 (castL (onL on n));rw[show(castL (onL on n)).length=(onL on n).length by simp[castL]]at this;exact this
   exact⟨_,by rw[e3];rfl,hno⟩)
 rcases key with⟨e,k1,k2⟩|⟨r,k1,i,k2,k3⟩
 .refine(lq k1 _).trans ?_;by_cases ho:on p=true
  .have:=a9D on hp ho;exact absurd this (k2 _ (X0.1 this).1)
  .rw[if_neg ho];rfl
 .refine(lq k1 _).trans ?_;have hm:=a2w on (iZ k3);have:=a9D on hp hm.2;rw[if_pos hm.2,k2,b1b (a7f on n) k3 this];rfl
theorem c0l(on:Nat->Bool)(par:Nat->Int):∀i:Nat,anc on par i=if h:0<=par i/\par i<(i:Int)then(if on (par i).toNat=true then(TS on (par i).toNat:Int)else anc on par (par i).toNat)else -1:=by
 intro i;by_cases h:0<=par i/\par i<(i:Int)
 .rw[dif_pos h];rw[show anc on par i=Hq on par (par i).toNat by unfold anc;rw[if_pos h],a9y]
 .rw[dif_neg h];unfold anc;rw[if_neg h]
theorem a7t(h:s.2.2.2.2.length<=1000)(on:Nat->Bool)(hi:i<s.2.2.2.2.length):Ia s (castL (onL on s.2.2.2.2.length)) (i:Int)=some (anc on (LV s) i):=by
 unfold Ia;have hp:∀k:Nat,(hk:k<s.2.2.2.2.length)->∃r,s.2.2.2.2[k]? =some r/\(LV s k=r.2.2.1):=λk hk=>⟨_,fH hk,by unfold LV;rw[fH hk]⟩;obtain⟨r,hr,hpr⟩:=hp i hi;rw[E8,hr,o8];have key:=xq (f:=λ(x:Int×Int)=>l7 (J6 0 x.2) (l7 (D8 x.2 x.1) (o5 (Gf (castL (onL on s.2.2.2.2.length)) x.2) λ(x_1:Int)=>l7 (J6 0 x_1) (some (.rt x_1)) (o5 (G8 s.2.2.2.2 x.2) λ(x_2:aC)=>some (.nx (x.2,x_2.2.2.1)))) (some (.ex PUnit.unit))) (some (.ex PUnit.unit)))
  (s:=((i:Int),r.2.2.1)) (λx=>∃k:Nat,x=((k:Int),LV s k)/\k<s.2.2.2.2.length/\anc on (LV s) k=anc on (LV s) i) (λ_=>anc on (LV s) i=-1) (λq=>q=anc on (LV s) i) (λx=>x.1.toNat) ⟨i,by rw[hpr],hi,rfl⟩ X5 (by
  rintro x ⟨k,rfl,hk,ha⟩;simp only;rw[←ha,c0l on (LV s) k];by_cases hc:0<=LV s k/\LV s k<(k:Int)
  .rw[Y6 hc.1,U7 hc.2,dif_pos hc];simp only[o7];obtain⟨p,hpp⟩:∃p:Nat,LV s k=(p:Int):=⟨(LV s k).toNat,l9⟩;rw[hpp,b1t on h (show p<s.2.2.2.2.length by omega),o8,U3];by_cases ho:on p=true
   .rw[if_pos ho,if_pos ho];exact .inr (.inr ⟨_,by rw[Y6 l9];rfl,rfl⟩)
   .rw[if_neg ho,if_neg ho];left;obtain⟨q,hq1,hq2⟩:=hp p l9;refine⟨((p:Int),LV s p),by rw[Z5 l9,o6,E8,hq1,o8,hq2],⟨p,rfl,l9,?_⟩,by simp;omega⟩;rfl
  .rw[dif_neg hc];right;left;refine⟨PUnit.unit,?_,rfl⟩;by_cases h0:0<=LV s k
   .rw[Y6 h0,L8 l9];rfl
   .rw[Z5 l9];rfl)
 rcases key with⟨e,k1,k2⟩|⟨q,k1,k2⟩
 .refine(lq k1 _).trans ?_;rw[k2];rfl
 .refine(lq k1 _).trans ?_;rw[k2];rfl
theorem a7w(h:s.2.2.2.2.length<=1000)(d t:Int):HY s d t=some (iY s d t):=by
 have hl:=FB (onR s d t) s.2.2.2.2.length;unfold HY;rw[a5m h,o8];refine aK (castL (qw s d t)) (λ(b:d5Y×d5Y) (k:Int)=>(b.1++[anc (onR s d t) (LV s) k.toNat],b.2++[a_ s k.toNat])) (λb i=>(b.1,b.2,i)) (λb=>b) (λi b=>b.1.length=i/\b.2.length=i) (([],[]):d5Y×d5Y) (by unfold castL qw;simp;omega) A7 (λi a b ha hi hI=>?_) (λb hI=>?_) (λh2=>?_)
 .obtain⟨b1,b2⟩:=b;simp only at hI;simp only[G9 ha,o7,E8 (castL (qw s d t)),ha,o8];rw[show P7 (castL (qw s d t)) (U8 (i:Int))=some a from ha,o8];obtain⟨k,hk,rfl⟩:∃k,k∈qw s d t/\(k:Int)=a:=by
   have:=iZ ha;unfold castL at this;exact bM.1 this
  have hlt:=Ws hk;have e:=fH hlt.1;have hil:=(X0.1 ha).1;simp only[castL,X4]at hil;unfold qw at hil;rw[show castL (qw s d t)=castL (onL (onR s d t) s.2.2.2.2.length)from rfl,a7t h _ hlt.1,o8,jh _ l9,o8,o8,E8,e,o8,jh _ l9,o8,Y1 l9];refine⟨?_,by simp[hI.1],by simp[hI.2]⟩;simp only[a_,U3,e]
 .simp only[G6];rfl
 .have hf:∀(l:d6a) (b:d5Y×d5Y),(castL l).foldl (λ(b:d5Y×d5Y) (k:Int)=>(b.1++[anc (onR s d t) (LV s) k.toNat],b.2++[a_ s k.toNat])) b=(b.1++l.map (anc (onR s d t) (LV s)),b.2++l.map (a_ s)):=by
   intro l;induction l with
   |nil=>intro b;simp[castL]|cons a l ih=>intro b;rw[show castL (a::l)=(a:Int)::castL l from rfl,J9,ih];simp
  rw[hf];rfl
end
section
def Si(par prio:d5Y)(i:Nat):d6c:=match par[i]?,prio[i]? with
 |some p,some q=>l7 (D8 p (-1)) (some 9) (l7 (J6 (i:Int) p) (some 9) (l7 (D8 q 0) (some 3) (l7 (D8 9 q) (some 3) none)))|_,_=>none
def KC(par prio:d5Y):Int:=l7 (D6 (x8 (o9 par) (o9 prio))) 2 (l7 (D8 8 (o9 par)) 4 (match Z7 par.length (Si par prio)with|some r=>r|none=>0))
theorem b7l(par prio:d5Y):yI par prio=some (KC par prio):=by
 unfold yI KC;cases h1:x8 (o9 par) (o9 prio)
 .rfl
 simp only[D9,o6];cases h2:D8 8 (o9 par)
 case true=>rfl
 simp only[o6];have hl:par.length=prio.length:=by rw[Y5]at h1;simp only[o9]at h1;omega
 refine V8 (rf (p:=Si par prio) par.length (by rw[iE]at h2;simp only[o9]at h2;omega) PUnit.unit (λk hk=>?_) ?_) ?_
 rotate_left 2
 .cases Z7 par.length (Si par prio)<;>rfl
 .have e:=fH hk;have e2:=fH (show k<prio.length by omega);simp only[G9 e,o7,E8,e,e2,o8,Si];cases D8 par[k] (-1)
  case true=>rfl
  cases J6 (k:Int) par[k]
  case true=>rfl
  cases D8 prio[k] 0
  case true=>rfl
  cases D8 9 prio[k]<;>rfl
 .rw[G6];rfl
theorem b1x(par prio:d5Y):Ed par prio=some (KC par prio):=by
 unfold Ed KC;cases h1:x8 (o9 par) (o9 prio)
 .rfl
 simp only[D9,o6];cases h2:D8 8 (o9 par)
 case true=>rfl
 simp only[o6];have hl:par.length=prio.length:=by rw[Y5]at h1;simp only[o9]at h1;omega
 refine V8 (rf (p:=Si par prio) par.length (by rw[iE]at h2;simp only[o9]at h2;omega) PUnit.unit (λk hk=>?_) ?_) ?_
 rotate_left 2
 .cases Z7 par.length (Si par prio)<;>rfl
 .have e:=fH hk;have e2:=fH (show k<prio.length by omega);simp only[G9 e,o7,E8,e,e2,o8,Si];cases D8 par[k] (-1)
  case true=>rfl
  cases J6 (k:Int) par[k]
  case true=>rfl
  cases D8 prio[k] 0
  case true=>rfl
  cases D8 9 prio[k]<;>rfl
 .rw[G6];rfl
theorem Fg{par prio:d5Y}(h:KC par prio=0):par.length=prio.length/\par.length<=8/\∀(i:Nat) (p:Int),par[i]? =some p->-1<=p/\p<(i:Int):=by
 unfold KC at h;cases h1:x8 (o9 par) (o9 prio)<;>rw[h1]at h
 .cases h
 simp only[D9,o6]at h;cases h2:D8 8 (o9 par)<;>rw[h2]at h
 case true=>cases h
 simp only[o6]at h;have hl:par.length=prio.length:=by rw[Y5]at h1;simp only[o9]at h1;omega
 refine⟨hl,by rw[iE]at h2;simp only[o9]at h2;omega,λi p hp=>?_⟩;have hi:=(X0.1 hp).1;cases hf:Z7 par.length (Si par prio)with
 |some r=>
  rw[hf]at h;simp only at h;obtain⟨k,hk,hr⟩:=jv hf;unfold Si at hr;split at hr
  .subst h;rename_i a b _ _;cases c1:D8 a (-1)<;>rw[c1]at hr<;>try (cases hr;done)
   cases c2:J6 (k:Int) a<;>rw[c2]at hr<;>try (cases hr;done)
   cases c3:D8 b 0<;>rw[c3]at hr<;>try (cases hr;done)
   cases c4:D8 9 b<;>rw[c4]at hr<;>cases hr
  .cases hr
 |none=>
  have:=Dw hf i hi;unfold Si at this;rw[hp,fH (show i<prio.length by omega)]at this;simp only at this;cases c1:D8 p (-1)<;>rw[c1]at this
  case true=>cases this
  cases c2:J6 (i:Int) p<;>rw[c2]at this
  case true=>cases this
  rw[iE]at c1;rw[Gw]at c2;exact⟨c1,c2⟩
def a4u(par:d5Y)(at' :Int)(i:Nat):Bool:=match par[i]? with|some p=>x8 p at'|none=>false
def Cb(par:d5Y)(at' :Int):d6a:=onL (a4u par at') par.length
variable {par:d5Y}
theorem WO(h:par.length<=1000)(at' :Int):uC par at' =some (castL (Cb par at')):=by
 unfold uC;rw[gy];obtain⟨e,h1,h2⟩:=iy (f:=λ(x:d5Y×Int)=>l7 (D8 x.2 (o9 par)) (o5 (G8 par x.2) λ(x_1:Int)=>l7 (x8 x_1 at') (o5 (bz x.1 [x.2]) λ(x_2:d5Y)=>some (.inl (x_2,x9 .i64 x.2 1))) (some (.inl (x.1,x9 .i64 x.2 1)))) (some (.inr x.1)))
  (s:=([],0)) (λx=>∃i:Nat,x=(castL (onL (a4u par at') i),(i:Int))/\i<=par.length) (λe=>e=castL (Cb par at')) (λx=>par.length -x.2.toNat) ⟨0,rfl,l9⟩ X5 (by
  rintro x ⟨i,rfl,hi⟩;by_cases hlt:i<par.length
  .left;have e:=fH hlt;have hol:=FB (a4u par at') i;refine⟨(castL (onL (a4u par at') (i+1)),((i+1:Nat):Int)),?_,⟨i+1,rfl,hlt⟩,by simp;omega⟩;simp only[G9 e,o7,E8,e,o8];rw[Y1 l9,jh _ (by simp[castL];omega),PG];have hon:a4u par at' i=x8 par[i] at' :=by unfold a4u;rw[e]
   rw[hon];cases x8 par[i] at'<;>simp[castL]
  .right;have:i=par.length:=l9;subst this;exact⟨_,by rw[G6];rfl,rfl⟩)
 rw[h1,h2]
theorem a2I:Ji=uC:=rfl
theorem a2o{at' :Int}{i:Nat}(h:i∈Cb par at'):i<par.length/\par[i]? =some at' :=by obtain⟨h1,h2⟩:=a2w _ h;refine⟨h1,?_⟩;unfold a4u at h2;rw[fH h1]at h2 ⊢;simp only[Y5]at h2;rw[h2]
def bG(oc pr:Int->Int)(acc:d5Y)(a:Int):d5Y:=l7 (x8 (oc a) (-1)) acc (match acc with
 |[]=>[a]
 |b::r=>l7 (D8 (pr b) (pr a)) [a] (l7 (x8 (pr a) (pr b)) (b::r++[a]) (b::r)))
theorem b2v(oc pr:Int->Int){acc:d5Y}{a x:Int}(h:x∈bG oc pr acc a):x∈acc\/x=a:=by
 unfold bG at h;cases h1:x8 (oc a) (-1)<;>rw[h1]at h
 case true=>exact .inl h
 simp only[o6]at h;cases acc with
 |nil=>exact .inr (by simpa using h)|cons b r=>
  simp only at h;cases h2:D8 (pr b) (pr a)<;>rw[h2]at h
  .simp only[o6]at h;cases h3:x8 (pr a) (pr b)<;>rw[h3]at h
   .exact .inl h
   .simp only[o7]at h;rcases F7.1 h with h|h
    .exact .inl h
    .exact .inr (by simpa using h)
  .exact .inr (by simpa using h)
theorem c0E(oc pr:Int->Int)(acc:d5Y)(a:Int):(bG oc pr acc a).length<=acc.length+1:=by
 unfold bG;cases x8 (oc a) (-1)
 case true=>simp
 simp only[o6];cases acc with
 |nil=>simp|cons b r=>
  simp only;cases D8 (pr b) (pr a)
  .cases x8 (pr a) (pr b)<;>simp
  .simp
def JA(oc pr:Int->Int)(l:d5Y):d5Y:=l.foldl (bG oc pr) []
theorem a3P(oc pr:Int->Int):∀(l acc:d5Y) (x:Int),x∈l.foldl (bG oc pr) acc->x∈acc\/x∈l
 |[],acc,x,h=> .inl h|a::l,acc,x,h=>by
  rcases a3P oc pr l _ x h with h|h
  .rcases b2v oc pr h with h|h
   .exact .inl h
   .exact .inr (by simp[h])
  .exact .inr (by simp[h])
variable {x:Int}
theorem Ld{oc pr:Int->Int}{l:d5Y}(h:x∈JA oc pr l):x∈l:=by
 rcases a3P oc pr l [] x h with h|h
 .cases h
 .exact h
theorem YG{oc oc' pr:Int->Int} :∀(l acc:d5Y),(∀x∈l,oc x=oc' x)->l.foldl (bG oc pr) acc=l.foldl (bG oc' pr) acc
 |[],acc,_=>rfl|a::l,acc,h=>by rw[J9,J9,YG l _ λx hx=>h x (by simp[hx])];congr 1;unfold bG;rw[h a A7]
def chF(oc pr:Int->Int)(l:d5Y):Int:=match JA oc pr l with|[]=>-1|[b]=>oc b|_=>-2
theorem a0K{oc oc' pr:Int->Int}{l:d5Y}(h:∀x∈l,oc x=oc' x):chF oc pr l=chF oc' pr l:=by
 have e:JA oc pr l=JA oc' pr l:=YG l [] h;unfold chF;rw[e];cases hb:JA oc' pr l with
 |nil=>rfl|cons b r=>
  cases r with
  |nil=>exact h b (Ld (oc:=oc') (pr:=pr) (by rw[hb];simp))|cons c r=>rfl
section
variable (par prio:d5Y) (ap:List Bool)
def prF(i:Int):Int:=prio.getD i.toNat 0
def apF(i:Int):Bool:=ap.getD i.toNat false
def ocF:Nat->Int->Int
 |0,_=>-1|k+1,i=>l7 (x8 (chF (ocF k) (prF prio) (castL (Cb par i))) (-1)) (l7 (apF ap i) i (-1)) (chF (ocF k) (prF prio) (castL (Cb par i)))
variable (hv:KC par prio=0)
include hv
theorem VH{i x:Int}(h:x∈castL (Cb par i)):i<x/\x<(par.length:Int)/\0<=x:=by unfold castL at h;obtain⟨k,hk,rfl⟩:=bM.1 h;obtain⟨h1,h2⟩:=a2o hk;have:=(Fg hv).2.2 k i h2;omega
theorem a1o:∀(k k' :Nat) (i:Int),(par.length:Int) -i<=k->(par.length:Int) -i<=k' ->i<par.length->ocF par prio ap k i=ocF par prio ap k' i
 |0,_,i,h,_,h2=>by omega|_+1,0,i,_,h,h2=>by omega|k+1,k' +1,i,h,h',h2=>by
  unfold ocF;have:chF (ocF par prio ap k) (prF prio) (castL (Cb par i))=chF (ocF par prio ap k') (prF prio) (castL (Cb par i)):=
   a0K λx hx=>by have:=VH par prio hv hx;exact a1o k k' x l9 l9 l9
  rw[this]
end
end
section
theorem Nj{prio:d5Y}{i:Int}(h0:0<=i)(h:i<o9 prio):G8 prio i=some (prF prio i):=by obtain⟨x,hx,_⟩:=nN h0 h;rw[hx];have:=(pV hx).2.2.2;unfold prF;rw[AB,this];rfl
theorem a0I{f:d5Y×Int->Option ((d5Y×Int)⊕d5Y)}(oc:Int->Int)(prio:d5Y)(l:d5Y)(hl:l.length<=1000)(hr:∀x∈l,0<=x/\x<o9 prio)
  (hin:∀(i:Nat) (a:Int) (acc:d5Y),l[i]? =some a->acc.length<=1000->(∀x∈acc,0<=x/\x<o9 prio)->0<=a->a<o9 prio->f (acc,(i:Int))=some (.inl (bG oc (prF prio) acc a,x9 .i64 (i:Int) 1)))
  (hend:∀acc,f (acc,(l.length:Int))=some (.inr acc)):Y8 f ([],0)=some (JA oc (prF prio) l):=by
 refine(mQ l (bG oc (prF prio)) (λb i=>(b,i)) (λb=>b) (λi acc=>acc.length<=i/\∀x∈acc,0<=x/\x<o9 prio) (b:=[]) l9 ⟨A7,A7⟩ (λi a acc ha hi hI=>?_) (λacc hI=>hend acc)).1;have hlt:=(X0.1 ha).1;have ham:=hr a (iZ ha);rw[hin i a acc ha l9 hI.2 ham.1 ham.2,Y1 l9];refine⟨rfl,by have:=c0E oc (prF prio) acc a;omega,λx hx=>?_⟩;rcases b2v _ _ hx with h|h
 .exact hI.2 x h
 .rw[h];exact ham
section
variable (par prio:d5Y) (ap:List Bool) (hv:KC par prio=0) (hap:ap.length=par.length)
def OC(i:Int):Int:=ocF par prio ap (par.length+1) i
def chS(at' :Int):Int:=chF (OC par prio ap) (prF prio) (castL (Cb par at'))
include hv in
theorem b9n{i:Int}(h0:-1<=i)(h:i<par.length):OC par prio ap i=l7 (x8 (chS par prio ap i) (-1)) (l7 (apF ap i) i (-1)) (chS par prio ap i):=by
 unfold OC chS;rw[ocF];have:chF (ocF par prio ap par.length) (prF prio) (castL (Cb par i))=chF (OC par prio ap) (prF prio) (castL (Cb par i)):=
  a0K λx hx=>by have:=VH par prio hv hx;exact a1o par prio ap hv _ _ x l9 l9 l9
 rw[this]
include hv in
theorem a4v(i:Int):(castL (Cb par i)).length<=8:=by have h1:=FB (a4u par i) par.length;have h2:=(Fg hv).2.1;unfold castL Cb;rw[X4];omega
include hv in
theorem a1g{i x:Int}(h:x∈castL (Cb par i)):0<=x/\x<o9 prio:=by have:=VH par prio hv h;have h2:=(Fg hv).1;simp only[o9];omega
include hv in
theorem b7h(arr:d5Y)(i:Int)(hA:∀x∈castL (Cb par i),G8 arr x=some (OC par prio ap x)):xB (par,prio,arr) i=some (JA (OC par prio ap) (prF prio) (castL (Cb par i))):=by
 unfold xB;rw[WO (by have:=(Fg hv).2.1;simp only;omega),o8,gy];refine a0I (OC par prio ap) prio _ (by have:=a4v par prio hv i;omega) (λx hx=>a1g par prio hv hx) (λk a acc ha hl hacc h0 h1=>?_) (λacc=>?_)
 .simp only[G9 ha,o7,E8 (castL (Cb par i)),ha,o8];rw[show P7 (castL (Cb par i)) (U8 (k:Int))=some a from ha,o8,hA a (iZ ha),o8];unfold bG;cases x8 (OC par prio ap a) (-1)
  case true=>rfl
  simp only[o6,Nj h0 h1,o8];cases acc with
  |nil=>simp only[L8 (show o9 ([]:d5Y)<=0 by simp[o9]),o6,o8,O0 (show o9 ([]:d5Y)=0 from rfl),o7,jh a (show([]:d5Y).length<=1000000 by simp)];rfl|cons b r=>
   have hb:=hacc b A7;simp only[U7 (show(0:Int)<o9 (b::r) by simp[o9]<;>omega),o7,show G8 (b::r) 0=some b from rfl,show P7 (b::r) (U8 0)=some b from rfl,o8,Nj hb.1 hb.2];cases D8 (prF prio b) (prF prio a)
   .simp only[o6,o8,J8 (show o9 (b::r)≠0 by simp[o9]<;>omega),show G8 (b::r) 0=some b from rfl,show P7 (b::r) (U8 0)=some b from rfl,Nj hb.1 hb.2];cases x8 (prF prio a) (prF prio b)
    .rfl
    .rw[o7,o7,jh _ l9];rfl
   .simp only[o7,show pq 0 0 (o9 (b::r))=true by simp[pq,o9]<;>omega,show oU (b::r) (U8 0) (U8 0)=[]from rfl,o8,O0 (show o9 ([]:d5Y)=0 from rfl),jh a (show([]:d5Y).length<=1000000 by simp)];rfl
 .simp only[G6];rfl
include hv in
theorem a9B(arr:d5Y)(i:Int)(hA:∀x∈castL (Cb par i),G8 arr x=some (OC par prio ap x)):jk (par,prio,arr) i=some (chS par prio ap i):=by
 unfold jk chS chF;rw[b7h par prio ap hv arr i hA,o8];have hsub:∀x∈JA (OC par prio ap) (prF prio) (castL (Cb par i)),G8 arr x=some (OC par prio ap x):=λx hx=>hA x (Ld hx);generalize JA (OC par prio ap) (prF prio) (castL (Cb par i))=b at*;match b,hsub with
 |[],_=>rfl|[x],hsub=>simp only[J8 (show o9 [x]≠0 by simp[o9]),O0 (show o9 [x]=1 from rfl),o6,o7,show G8 [x] 0=some x from rfl,show P7 [x] (U8 0)=some x from rfl,o8,hsub x A7]|x::y::r,_=>rw[J8 (by simp[o9];omega),J8 (by simp[o9];omega)];rfl
include hv hap in
theorem a4X:∃arr,yJ par prio ap=some arr/\∀x,0<=x->x<(par.length:Int)->G8 arr x=some (OC par prio ap x):=by
 have h8:=(Fg hv).2.1;unfold yJ;rw[show qo (o9 par) (0:Int)=some (List.replicate par.length 0) by unfold qo;rw[if_pos (by simp[o9];omega)];simp[o9],o8];have key:=iy (f:=λ(x:lg×Int)=>l7 (J6 0 x.2) (o5 (jk x.1 x.2) λ(x_1:Int)=>o5 (G8 x.1.2.2 x.2) λ(x_2:Int)=>o5 (P7 x.1.2.2 (U8 x.2)) λ(x_3:Int)=>
   o5 (G8 (aW x.1.2.2 (U8 x.2) x_1) x.2) λ(x_4:Int)=>o5 (P7 (aW x.1.2.2 (U8 x.2) x_1) (U8 x.2)) λ(x_5:Int)=>l7 (x8 x_5 (-1)) (o5 (G8 ap x.2) λ(x_6:Bool)=>l7 x_6 (o5 (G8 (aW x.1.2.2 (U8 x.2) x_1) x.2) λ(x_7:Int)=>
    o5 (P7 (aW x.1.2.2 (U8 x.2) x_1) (U8 x.2)) λ(x_8:Int)=>some (.inl ((x.1.1,x.1.2.1,aW (aW x.1.2.2 (U8 x.2) x_1) (U8 x.2) x.2),H9 .i64 x.2 1))) (some (.inl ((x.1.1,x.1.2.1,aW x.1.2.2 (U8 x.2) x_1),H9 .i64 x.2 1))))
     (some (.inl ((x.1.1,x.1.2.1,aW x.1.2.2 (U8 x.2) x_1),H9 .i64 x.2 1)))) (some (.inr x.1)))
  (s:=((par,prio,List.replicate par.length 0),H9 .i64 (o9 par) 1)) (λx=>∃(arr:d5Y) (i:Int),x=((par,prio,arr),i)/\-1<=i/\i<par.length/\arr.length=par.length/\∀x,i<x->x<(par.length:Int)->G8 arr x=some (OC par prio ap x))
  (λy=>∃arr:d5Y,y=(par,prio,arr)/\∀x,0<=x->x<(par.length:Int)->G8 arr x=some (OC par prio ap x)) (λx=>(x.2+1).toNat) ?_ ?_ ?_
 .obtain⟨y,k1,arr,rfl,k3⟩:=key;refine⟨arr,(lq k1 _).trans rfl,k3⟩
 .exact⟨_,_,rfl,by rw[U1 (by unfold jw o9;omega)];simp[o9];omega,by rw[U1 (by unfold jw o9;omega)];simp only[o9];omega,A7,λx h1 h2=>by rw[U1 (by unfold jw o9;omega)]at h1;simp only[o9]at h1;omega⟩
 .rw[U1 (by unfold jw o9;omega)];simp[o9];omega
 .rintro x ⟨arr,i,rfl,h1,h2,hlen,hA⟩;by_cases h0:0<=i
  .left;obtain⟨k,rfl⟩:∃k:Nat,i=(k:Int):=⟨i.toNat,l9⟩;have hk:k<arr.length:=l9;have hka:k<ap.length:=l9;have e:=fH hk;have ea:=fH hka;have hch:=a9B par prio ap hv arr (k:Int) (λx hx=>by
    have:=VH par prio hv hx;exact hA x this.1 this.2.1)
   have hs:∀v:Int,G8 (aW arr (U8 (k:Int)) v) (k:Int)=some v:=λv=>by rw[E8];show(arr.set k v)[k]? =some v;rw[yC hk]
   have hs2:∀v:Int,P7 (aW arr (U8 (k:Int)) v) (U8 (k:Int))=some v:=λv=>by have:=hs v;rw[E8]at this;exact this
   have hsub:H9 .i64 (k:Int) 1=(k:Int) -1:=U1 O5;have hoc:=b9n par prio ap hv (i:=(k:Int)) l9 l9;have hapk:apF ap (k:Int)=ap[k]:=by unfold apF;rw[U3,AB,ea];rfl
   rw[hapk]at hoc;refine⟨((par,prio,arr.set k (OC par prio ap (k:Int))),(k:Int) -1),?_,⟨_,_,rfl,l9,l9,by simp[hlen],λx hx1 hx2=>?_⟩,by simp<;>omega⟩
   .simp only[Y6 h0,o7,hch,o8,E8 arr,e,show P7 arr (U8 (k:Int))=some arr[k]from e,hs,hs2,E8 ap,ea,hsub];rw[hoc];cases hq:x8 (chS par prio ap (k:Int)) (-1)
    .simp only[o6];rfl
    .simp only[o7];cases ap[k]
     .rw[Y5.1 hq];rfl
     .simp only[o7];show some (Sum.inl ((par,prio,(arr.set k _).set k _),_))=_;rw[List.set_set]
   .unfold G8
    rw[if_pos l9];by_cases hxk:x=(k:Int)
    .rw[hxk,U3,yC hk]
    .have:=hA x l9 hx2;unfold G8 at this;rw[if_pos l9]at this;rw[P6,if_neg l9];exact this
  .right;exact⟨(par,prio,arr),by rw[Z5 l9];rfl,arr,rfl,λx hx1 hx2=>hA x l9 hx2⟩
end
def Mc(par prio:d5Y)(ap:List Bool):Int:=l7 (x8 (KC par prio) 0) (l7 (x8 (o9 ap) (o9 par)) (chS par prio ap (-1)) (-1)) (-1)
theorem b1P(par prio:d5Y)(ap:List Bool):BQ par prio ap=some (Mc par prio ap):=by
 unfold BQ Mc;rw[b7l,o8];cases hv:x8 (KC par prio) 0
 .rfl
 simp only[D9,o6,o7];cases hl:x8 (o9 ap) (o9 par)
 .rfl
 simp only[D9,o6,o7];have hv' :=Y5.1 hv;have hl' :ap.length=par.length:=by rw[Y5]at hl;simp only[o9]at hl;omega
 obtain⟨arr,h1,h2⟩:=a4X par prio ap hv' hl';rw[h1,o8,gy];exact a9B par prio ap hv' arr (-1) λx hx=>by have:=VH par prio hv' hx;exact h2 x this.2.2 this.2.1
section
variable (par prio:d5Y) (ap:List Bool) (hv:KC par prio=0) (hap:ap.length=par.length)
include hv hap in
theorem a2O:∀(f:Nat) (i:Int),-1<=i->i<par.length->
  (3*((par.length:Int) -i) -1<=f->(I8 f).1 par prio ap i=some (chS par prio ap i))/\
  (3*((par.length:Int) -i) -2<=f->(I8 f).2.1 par prio ap i=some (JA (OC par prio ap) (prF prio) (castL (Cb par i))))/\
  (0<=i->3*((par.length:Int) -i)<=f->(I8 f).2.2 par prio ap i=some (OC par prio ap i))
 |0,i,h1,h2=>⟨λh=>by omega,λh=>by omega,λ_ h=>by omega⟩|f+1,i,h1,h2=>by
  obtain⟨ih1,ih2,ih3⟩:=a2O f i h1 h2;have hkid:∀x∈castL (Cb par i),3*((par.length:Int) -i) -3<=f->(I8 f).2.2 par prio ap x=some (OC par prio ap x):=λx hx hf=>by have hk:=VH par prio hv hx;exact(a2O f x l9 l9).2.2 hk.2.2 l9
  refine⟨λh=>?_,λh=>?_,λh0 h=>?_⟩
  .show AL (I8 f).1 (I8 f).2.1 (I8 f).2.2 par prio ap i=_;unfold AL;rw[ih2 l9,o8];unfold chS chF;have hsub:∀x∈JA (OC par prio ap) (prF prio) (castL (Cb par i)),(I8 f).2.2 par prio ap x=some (OC par prio ap x):=λx hx=>hkid x (Ld hx) l9;generalize JA (OC par prio ap) (prF prio) (castL (Cb par i))=b at*;match b,hsub with
   |[],_=>rfl|[x],hsub=>simp only[J8 (show o9 [x]≠0 by simp[o9]),L8 (show o9 [x]<=1 by simp[o9]),o6,show G8 [x] 0=some x from rfl,o8,hsub x A7]|x::y::r,_=>rw[J8 (by simp[o9];omega),U7 (by simp[o9];omega)];rfl
  .show Gz (I8 f).1 (I8 f).2.1 (I8 f).2.2 par prio ap i=_;unfold Gz;rw[a2I,WO (by have:=(Fg hv).2.1;omega),o8,gy];refine a0I (OC par prio ap) prio _ (by have:=a4v par prio hv i;omega) (λx hx=>a1g par prio hv hx) (λk a acc ha hl hacc g0 g1=>?_) (λacc=>?_)
   .simp only[G9 ha,o7,E8 (castL (Cb par i)),ha,o8];rw[show P7 (castL (Cb par i)) (U8 (k:Int))=some a from ha,o8,hkid a (iZ ha) l9,o8];unfold bG;cases x8 (OC par prio ap a) (-1)
    case true=>rfl
    simp only[o6,o8,Nj g0 g1];cases acc with
    |nil=>simp only[L8 (show o9 ([]:d5Y)<=0 by simp[o9]),o6,o8,O0 (show o9 ([]:d5Y)=0 from rfl),o7,jh a (show([]:d5Y).length<=1000000 by simp)];rfl|cons b r=>
     have hb:=hacc b A7;simp only[U7 (show(0:Int)<o9 (b::r) by simp[o9]<;>omega),o7,show G8 (b::r) 0=some b from rfl,show P7 (b::r) (U8 0)=some b from rfl,o8,Nj hb.1 hb.2];cases D8 (prF prio b) (prF prio a)
     .simp only[o6,o8,J8 (show o9 (b::r)≠0 by simp[o9]<;>omega),show G8 (b::r) 0=some b from rfl,show P7 (b::r) (U8 0)=some b from rfl,Nj hb.1 hb.2];cases x8 (prF prio a) (prF prio b)
      .rfl
      .rw[o7,o7,jh _ l9];rfl
     .simp only[o7,o8,O0 (show o9 ([]:d5Y)=0 from rfl),jh a (show([]:d5Y).length<=1000000 by simp)];rfl
   .simp only[G6];rfl
  .show Cf (I8 f).1 (I8 f).2.1 (I8 f).2.2 par prio ap i=_;unfold Cf;rw[ih1 l9,o8,b9n par prio ap hv h1 h2];obtain⟨k,rfl⟩:∃k:Nat,i=(k:Int):=⟨i.toNat,l9⟩;have ea:=fH (show k<ap.length by omega);have hapk:apF ap (k:Int)=ap[k]:=by unfold apF;rw[U3,AB,ea];rfl
   rw[hapk,E8,ea,o8];cases hq:x8 (chS par prio ap (k:Int)) (-1)
   .rfl
   .simp only[o7];rw[Y5.1 hq];cases ap[k]<;>rfl
end
theorem a7v(par prio:d5Y)(ap:List Bool):Hz par prio ap=some (Mc par prio ap):=by
 unfold Hz Mc;rw[b1x,o8];cases hv:x8 (KC par prio) 0
 .rfl
 simp only[D9,o6,o7];cases hl:x8 (o9 ap) (o9 par)
 .rfl
 simp only[D9,o6,o7];have hv' :=Y5.1 hv;have hl' :ap.length=par.length:=by rw[Y5]at hl;simp only[o9]at hl;omega
 have h8:=(Fg hv').2.1;have:=(a2O par prio ap hv' hl' kH (-1) l9 l9).1 (by unfold kH;omega);rw[show Jj par prio ap (-1)=(I8 kH).1 par prio ap (-1)from rfl,this];rfl
variable {l:d5Y}{i:Nat}
theorem b0J(h:i<l.length):G8 l (i:Int)=some (hg l i):=by rw[E8];exact zQ h
variable {j:Nat}
theorem a4n(hi:i<l.length)(hj:j<l.length):eG l (i:Int) (j:Int)=some (D8 (hg l i) (hg l j)):=by unfold eG;rw[b0J hi,o8,b0J hj,o8]
theorem a4o(hi:i<l.length)(hj:j<l.length):fU l (i:Int) (j:Int)=some (swp l i j):=by
 unfold fU;have e1:P7 l (U8 (i:Int))=some (hg l i):=zQ hi;have e2:P7 l (U8 (j:Int))=some (hg l j):=zQ hj;have hj2:j<(aW l (U8 (i:Int)) (hg l j)).length:=by show j<(l.set i (hg l j)).length;simp[hj]
 have e3:P7 (aW l (U8 (i:Int)) (hg l j)) (U8 (j:Int))=some (hg (aW l (U8 (i:Int)) (hg l j)) j):=zQ hj2;rw[b0J hj,o8,e2,o8,b0J hi,o8,e1,o8,o8,o8,b0J hj2,o8,e3,o8];rfl
theorem ZZ{l m:d5Y}(h:l.Perm m):l.length=m.length:=h.length_eq
theorem d5s(hl:l.length<=100000)(hj:j<l.length)(h:Vl l j):∃l',yx l (j:Int)=some l' /\Oq l' l'.length/\l'.Perm l:=by
 unfold yx;have key:=iy (f:=λ(x:d5Y×Int)=>l7 (x8 (eH .i64 (H9 .i64 x.2 1) 2) x.2) (some (.inr x.1)) (o5 (eG x.1 x.2 (eH .i64 (H9 .i64 x.2 1) 2)) λ(x_1:Bool)=>l7 (D6 x_1) (some (.inr x.1))
   (o5 (fU x.1 (eH .i64 (H9 .i64 x.2 1) 2) x.2) λ(x_2:d5Y)=>some (.inl (x_2,eH .i64 (H9 .i64 x.2 1) 2)))))
  (s:=(l,(j:Int))) (λx=>∃(m:d5Y) (k:Nat),x=(m,(k:Int))/\k<m.length/\Vl m k/\m.Perm l) (λm=>Oq m m.length/\m.Perm l) (λx=>x.2.toNat) ⟨l,j,rfl,hj,h,List.Perm.refl _⟩ X5 (by
  rintro x ⟨m,k,rfl,hk,hu,hp⟩;have hm:=ZZ hp;by_cases h0:k=0
  .subst h0;exact .inr ⟨m,rfl,Zm hu (.inl rfl),hp⟩
  have hpar:eH .i64 (H9 .i64 (k:Int) 1) 2=(((k -1) / 2:Nat):Int):=by rw[U1 O5,Dz (by rw[kF l9];unfold jw;omega),kF l9];omega
  simp only[hpar];rw[J8 l9,o6,a4n hk l9,o8];cases hc:D8 (hg m k) (hg m ((k -1) / 2))
  .exact .inr ⟨m,rfl,Zm hu (.inr (by rw[iE]at hc;exact hc)),hp⟩
  .rw[D9,o6,a4o l9 hk];exact .inl ⟨(swp m ((k -1) / 2) k,(((k -1) / 2:Nat):Int)),rfl,⟨_,_,rfl,by rw[NP];omega,a4m hu l9 hk (jX.1 hc),(Qe l9 hk).trans hp⟩,by simp;omega⟩)
 obtain⟨m,k1,k2,k3⟩:=key;exact⟨m,(lq k1 _).trans rfl,k2,k3⟩
theorem a0V(hl:l.length<=1000)(h:Oq l l.length)(x:Int):∃l',iF l x=some l' /\Oq l' l'.length/\l'.Perm (l++[x]):=by
 unfold iF Dn lS;rw[jh _ l9,o8,o8,o8];have hlen:(l++[x]).length=l.length+1:=A7;have hu:Vl (l++[x]) l.length:=by
  refine⟨λk k0 k1 k2=>?_,λh0 k k0 k1 k2=>by omega⟩;have hk:k<l.length:=l9;have hga:∀i,i<l.length->hg (l++[x]) i=hg l i:=λi hi=>by unfold hg;rw[AB,AB,O8 hi]
  rw[hga k hk,hga _ l9];exact h k k0 hk
 obtain⟨m,k1,k2,k3⟩:=d5s (l:=l++[x]) (j:=l.length) l9 l9 hu;refine⟨m,?_,k2,k3⟩;rw[show H9 .i64 (o9 (l++[x])) 1=((l.length:Nat):Int) by rw[U1 (by unfold jw o9;omega)];simp[o9],k1];rfl
theorem b7I{n i:Nat}(hl:l.length<=100000)(hn:n<=l.length)(hi:i<l.length)(h:KW l n i):∃b l',vg l (i:Int) (n:Int)=some (b,l')/\Oq l' n/\l'.Perm l/\l'.drop n=l.drop n:=by
 unfold vg;have key:=iy (f:=λ(x:d5Y×Int)=>l7 (J6 (n:Int) (x9 .i64 (Z4 .i64 2 x.2) 1)) (some (.inr x)) (l7 (D8 (x9 .i64 (Z4 .i64 2 x.2) 1) 0) (some (.inr x)) (l7 (D8 (x9 .i64 (x9 .i64 (Z4 .i64 2 x.2) 1) 1) (n:Int))
   (o5 (eG x.1 (x9 .i64 (x9 .i64 (Z4 .i64 2 x.2) 1) 1) (x9 .i64 (Z4 .i64 2 x.2) 1)) λ(x_1:Bool)=>l7 x_1 (o5 (eG x.1 (x9 .i64 (x9 .i64 (Z4 .i64 2 x.2) 1) 1) x.2) λ(x_2:Bool)=>l7 (D6 x_2) (some (.inr x))
     (o5 (fU x.1 x.2 (x9 .i64 (x9 .i64 (Z4 .i64 2 x.2) 1) 1)) λ(x_3:d5Y)=>some (.inl (x_3,x9 .i64 (x9 .i64 (Z4 .i64 2 x.2) 1) 1)))) (o5 (eG x.1 (x9 .i64 (Z4 .i64 2 x.2) 1) x.2) λ(x_2:Bool)=>l7 (D6 x_2) (some (.inr x))
     (o5 (fU x.1 x.2 (x9 .i64 (Z4 .i64 2 x.2) 1)) λ(x_3:d5Y)=>some (.inl (x_3,x9 .i64 (Z4 .i64 2 x.2) 1)))))
   (o5 (eG x.1 (x9 .i64 (Z4 .i64 2 x.2) 1) x.2) λ(x_1:Bool)=>l7 (D6 x_1) (some (.inr x)) (o5 (fU x.1 x.2 (x9 .i64 (Z4 .i64 2 x.2) 1)) λ(x_2:d5Y)=>some (.inl (x_2,x9 .i64 (Z4 .i64 2 x.2) 1)))))))
  (s:=(l,(i:Int))) (λx=>∃(m:d5Y) (k:Nat),x=(m,(k:Int))/\k<m.length/\KW m n k/\m.Perm l/\m.drop n=l.drop n) (λy=>Oq y.1 n/\y.1.Perm l/\y.1.drop n=l.drop n) (λx=>l.length -x.2.toNat) ⟨l,i,rfl,hi,h,List.Perm.refl _,rfl⟩ X5 (by
  rintro x ⟨m,k,rfl,hk,hd,hp,hdr⟩;have hm:=ZZ hp;have hc1:x9 .i64 (Z4 .i64 2 (k:Int)) 1=((2*k+1:Nat):Int):=by rw[mM O5,U9 O5];omega
  have hc2:x9 .i64 (((2*k+1:Nat):Int)) 1=((2*k+2:Nat):Int):=by rw[U9 O5];omega
  have dswp:∀a b,a<n->b<n->(swp m a b).drop n=l.drop n:=λa b ha hb=>by unfold swp;rw[List.drop_set_of_lt hb,List.drop_set_of_lt ha,hdr]
  simp only[hc1,hc2];by_cases h1:n<=2*k+1
  .rw[Y6 l9,o7];exact .inr ⟨_,rfl,Hg hd (λj j0 j1 j2=>by omega),hp,hdr⟩
  rw[Z5 l9,o6,L8 l9,o6];by_cases h2:2*k+2<n
  .rw[U7 l9,o7,a4n l9 l9,o8];cases hc:D8 (hg m (2*k+2)) (hg m (2*k+1))
   .rw[iE]at hc;rw[o6,a4n l9 hk,o8];cases hq:D8 (hg m (2*k+1)) (hg m k)
    .rw[iE]at hq;exact .inr ⟨_,rfl,Hg hd (λj j0 j1 j2=>by have:j=2*k+1\/j=2*k+2:=l9;rcases this with rfl|rfl<;>(dsimp only;omega)),hp,hdr⟩
    .rw[D9,o6,a4o hk l9];exact .inl ⟨(swp m k (2*k+1),((2*k+1:Nat):Int)),rfl,⟨_,_,rfl,by rw[NP];omega,KL hd l9 l9 l9 l9 (λj j0 j1 j2=>by
      have:j=2*k+1\/j=2*k+2:=l9;rcases this with rfl|rfl
      .exact iM _
      .exact hc) (jX.1 hq),(Qe hk l9).trans hp,dswp _ _ l9 l9⟩,by simp;omega⟩
   .rw[jX]at hc;rw[o7,a4n l9 hk,o8];cases hq:D8 (hg m (2*k+2)) (hg m k)
    .rw[iE]at hq;exact .inr ⟨_,rfl,Hg hd (λj j0 j1 j2=>by have:j=2*k+1\/j=2*k+2:=l9;rcases this with rfl|rfl<;>(dsimp only;omega)),hp,hdr⟩
    .rw[D9,o6,a4o hk l9];exact .inl ⟨(swp m k (2*k+2),((2*k+2:Nat):Int)),rfl,⟨_,_,rfl,by rw[NP];omega,KL hd l9 l9 l9 l9 (λj j0 j1 j2=>by
      have:j=2*k+1\/j=2*k+2:=l9;rcases this with rfl|rfl
      .omega
      .exact iM _) (jX.1 hq),(Qe hk l9).trans hp,dswp _ _ l9 l9⟩,by simp;omega⟩
  .rw[L8 l9,o6,a4n l9 hk,o8];cases hq:D8 (hg m (2*k+1)) (hg m k)
   .rw[iE]at hq;exact .inr ⟨_,rfl,Hg hd (λj j0 j1 j2=>by have:j=2*k+1:=l9;subst this;omega),hp,hdr⟩
   .rw[D9,o6,a4o hk l9];exact .inl ⟨(swp m k (2*k+1),((2*k+1:Nat):Int)),rfl,⟨_,_,rfl,by rw[NP];omega,KL hd l9 l9 l9 l9 (λj j0 j1 j2=>by have:j=2*k+1:=l9;subst this;exact iM _) (jX.1 hq),(Qe hk l9).trans hp,dswp _ _ l9 l9⟩,by simp;omega⟩)
 obtain⟨y,k1,k2,k3,k4⟩:=key;exact⟨D8 (i:Int) y.2,y.1,(lq k1 _).trans rfl,k2,k3,k4⟩
theorem b3c(hl:l.length<=1000)(h:Oq l l.length)(h0:0<l.length):∃l',rH l=some (hg l 0,l')/\Oq l' l'.length/\(l' ++[hg l 0]).Perm l:=by
 obtain⟨n,hn⟩:∃n,l.length=n+1:=⟨l.length -1,l9⟩;have hsub:H9 .i64 ((l.length:Nat):Int) 1=((n:Nat):Int):=by rw[U1 O5];omega
 unfold rH lS;rw[o8,show o9 l=((l.length:Nat):Int)from rfl,hsub,show(0:Int)=((0:Nat):Int)from rfl,a4o l9 l9,o8];have hlen:(swp l 0 n).length=n+1:=by rw[NP,hn]
 obtain⟨b,m,k1,k2,k3,k4⟩:=b7I (l:=swp l 0 n) (n:=n) (i:=0) l9 l9 l9 (a6Q h l9);rw[k1,o8];have hml:=ZZ k3;have hmn:m.length=n+1:=l9;have hlast:hg m n=hg l 0:=by
  have e1:(m.drop n)[0]? =((swp l 0 n).drop n)[0]?:=by rw[k4]
  rw[P5,P5,aB,zQ l9,zQ l9]at e1;rw[ay e1,a2j l9 l9,if_pos rfl]
 unfold EI;dsimp only;have hs2:H9 .i64 (o9 m) 1=((n:Nat):Int):=by rw[show o9 m=((m.length:Nat):Int)from rfl,hmn,U1 O5];omega
 rw[hs2,b0J l9,o8,show P7 m (U8 (n:Int))=some (hg m n)from zQ (i:=n) l9,o8,show pq 0 (n:Int) (o9 m)=true by simp[pq,o9];omega,o7,show oU m (U8 0) (U8 (n:Int))=m.take n by simp[oU,U8],hlast];refine⟨m.take n,rfl,?_,?_⟩
 .have:(m.take n).length=n:=by simp;omega
  rw[this];intro k k0 k1';have hga:∀i,i<n->hg (m.take n) i=hg m i:=λi hi=>by unfold hg;rw[AB,AB,bD hi]
  rw[hga k k1',hga _ l9];exact k2 k k0 k1'
 .have hcat:m.take n++[hg l 0]=m:=by
   rw[←hlast];have e:m.drop n=[hg m n]:=by
    apply dR;intro i;rw[P5];cases i with
    |zero=>rw[aB,zQ l9];rfl|succ i=>rw[iO l9];rfl
   rw[←e,iR]
  rw[hcat];exact k3.trans (Qe l9 l9)
def qA(O:d5Y)(x:Int):Bool:=O.any λy=>x8 y x
variable {O:d5Y}
theorem FU{x:Int} :qA O x=true↔x∈O:=by
 unfold qA;rw[nV];constructor
 .rintro⟨y,hy,h⟩;rw[Y5]at h;exact h▸hy
 .exact λh=>⟨x,h,O0 rfl⟩
theorem a2L(h:O.length<=1000000)(x:Int):CZ O x=some (qA O x):=by
 unfold CZ;refine V8 (wX O (λy=>x8 y x) true PUnit.unit h (λi a ha=>?_) ?_) ?_
 rotate_left 2
 .unfold qA;cases O.any λy=>x8 y x<;>rfl
 .simp only[G9 ha,o7,E8,ha,o8];cases x8 a x<;>rfl
 .rw[G6];rfl
def VY(s:D7)(d:Int)(O:d5Y):Bool:=(V4 s d).all λx=>qA O x
variable {s:D7}
theorem b1v(h:SmS s)(hO:O.length<=1000000)(d:Int):Dc s d O=some (VY s d O):=by
 unfold Dc;rw[Tm h,o8];have hdl:=MK h d;refine V8 (wX (V4 s d) (λy=> !qA O y) false PUnit.unit l9 (λi a ha=>?_) ?_) ?_
 rotate_left 2
 .unfold VY;have:((V4 s d).any λy=> !qA O y)= !(V4 s d).all λx=>qA O x:=by rw[List.not_all_eq_any_not]
  rw[this];cases (V4 s d).all λx=>qA O x<;>rfl
 .simp only[G9 ha,o7,E8,ha,o8];rw[show P7 (V4 s d) (U8 (i:Int))=some a from ha,o8,a2L hO,o8];cases qA O a<;>rfl
 .rw[G6];rfl
def okN(s:D7)(O:d5Y)(d:Nat):Bool:=l7 (qA O (d:Int)) false (VY s (d:Int) O)
def ZM(s:D7)(O:d5Y)(d:Nat):Option Nat:=l7 (okN s O d) (some d) none
def Pz(s:D7)(O:d5Y):Option Nat:=Z7 s.2.2.2.1.length (ZM s O)
theorem b3y{d r:Nat}(h:ZM s O d=some r):r=d/\okN s O d=true:=by
 unfold ZM at h;cases hq:okN s O d<;>rw[hq]at h
 .cases h
 .cases h;exact⟨rfl,rfl⟩
variable {d:Nat}
theorem a7a(h:Pz s O=some d):d<s.2.2.2.1.length/\okN s O d=true:=by obtain⟨i,hi,hp⟩:=jv h;obtain⟨rfl,ho⟩:=b3y hp;exact⟨hi,ho⟩
theorem Xk(hd:d<s.2.2.2.1.length)(ho:okN s O d=true)(hn:∀j,j<d->okN s O j=false):Pz s O=some d:=by unfold Pz;exact Ud (p:=ZM s O) (jI.2 λj hj=>by unfold ZM;rw[hn j (bT.1 hj)];rfl) (by unfold ZM;rw[ho];rfl) hd
theorem ZN(hn:∀j,j<s.2.2.2.1.length->okN s O j=false):Pz s O=none:=by unfold Pz Z7;exact jI.2 λj hj=>by unfold ZM;rw[hn j (bT.1 hj)];rfl
def XW(s:D7):Nat->d5Y->d5Y⊕(d5Y×Int)
 |0,O=> .inl O|k+1,O=>if O.length<s.2.2.2.1.length then(match Pz s O with|none=> .inr ([],9)|some d=>XW s k (O++[(d:Int)]))else .inl O
def DV(s:D7):d5Y×Int:=match XW s 100 []with| .inl O=>(O,0)| .inr x=>x
theorem b1u(h:SmS s):sU s=some (DV s):=by
 have hnd:=h.nd;unfold sU;have hn:o9 s.2.2.2.1=((s.2.2.2.1.length:Nat):Int):=rfl;generalize hfd:(λ(x:d5Y)=>l7 (D8 (o9 x) (o9 s.2.2.2.1)) (o5 (Y8 (λ(x_1:Int)=>l7 (D8 x_1 (o9 s.2.2.2.1)) (o5 (CZ x x_1) λ(x_2:Bool)=>l7 x_2 (some (.inl (x9 .i64 x_1 1))) (o5 (Dc s x_1 x) λ(x:Bool)=>l7 (D6 x) (some (.inl (x9 .i64 x_1 1))) (some (.inr x_1)))) (some (.inr x_1))) 0) λ(y:Int)=>
   l7 (x8 y (o9 s.2.2.2.1)) (some (Out.rt ((([],9):d5Y×Int)))) (o5 (bz x [y]) λ(x:d5Y)=>some (.nx x))) (some (.ex x)))=f
 have step:∀O:d5Y,O.length<=100->f O=some (if O.length<s.2.2.2.1.length then(match Pz s O with|none=> .rt ([],9)|some d=> .nx (O++[(d:Int)]))else .ex O):=by
  intro O hO;rw[←hfd];simp only;by_cases hlt:O.length<s.2.2.2.1.length
  .rw[U7 (by simp only[o9];omega),if_pos hlt,o7];have key:=iy (f:=λ(x_1:Int)=>l7 (D8 x_1 (o9 s.2.2.2.1)) (o5 (CZ O x_1) λ(x_2:Bool)=>l7 x_2 (some (.inl (x9 .i64 x_1 1))) (o5 (Dc s x_1 O) λ(x:Bool)=>l7 (D6 x) (some (.inl (x9 .i64 x_1 1))) (some (.inr x_1)))) (some (.inr x_1)))
    (s:=0) (λx=>∃i:Nat,x=i/\i<=s.2.2.2.1.length/\∀j,j<i->okN s O j=false) (λy=>∃i:Nat,y=i/\i<=s.2.2.2.1.length/\(∀j,j<i->okN s O j=false)/\(i<s.2.2.2.1.length->okN s O i=true)) (λx=>s.2.2.2.1.length -x.toNat) ⟨0,rfl,l9,λj hj=>by omega⟩ X5 (by
    rintro x ⟨i,rfl,hi,hno⟩;by_cases hl:i<s.2.2.2.1.length
    .rw[U7 (by rw[hn];omega),o7,a2L l9,o8,b1v h l9,o8,Y1 l9];have hok:okN s O i=l7 (qA O (i:Int)) false (VY s (i:Int) O):=rfl;cases h1:qA O (i:Int)
     .cases h2:VY s (i:Int) O
      .exact .inl ⟨_,rfl,⟨i+1,rfl,hl,λj hj=>by
        by_cases hji:j=i
        .subst hji;rw[hok,h1,h2];rfl
        .exact hno j l9⟩,by simp;omega⟩
      .exact .inr ⟨_,rfl,i,rfl,hi,hno,λ_=>by rw[hok,h1,h2];rfl⟩
     .exact .inl ⟨_,rfl,⟨i+1,rfl,hl,λj hj=>by
       by_cases hji:j=i
       .subst hji;rw[hok,h1];rfl
       .exact hno j l9⟩,by simp;omega⟩
    .have:i=s.2.2.2.1.length:=l9;subst this;exact .inr ⟨_,by rw[L8 (by rw[hn];omega)];rfl,_,rfl,F5 _,hno,λhh=>by omega⟩)
   obtain⟨y,k1,i,rfl,hi,hno,hyes⟩:=key;rw[k1,o8];by_cases hl:i<s.2.2.2.1.length
   .rw[J8 (by rw[hn];omega),o6,jh _ l9,o8,Xk hl (hyes hl) hno]
   .rw[O0 (by rw[hn];omega),o7,ZN λj hj=>hno j l9]
  .rw[L8 (by simp only[o9];omega),if_neg hlt];rfl
 have key:∀(k j:Nat) (O:d5Y),s.2.2.2.1.length -O.length<k->k<=j->O.length<=s.2.2.2.1.length->qH f j O=some (match XW s k O with| .inl O=> .inl O| .inr x=> .inr x):=by
  intro k;induction k with
  |zero=>intro j O hk;omega|succ k ih=>
   intro j O hk hj hO;obtain⟨j,rfl⟩:∃j',j=j' +1:=⟨j -1,l9⟩;rw[qH,step O l9];unfold XW;by_cases hlt:O.length<s.2.2.2.1.length
   .rw[if_pos hlt,if_pos hlt];cases Pz s O with
    |none=>rfl|some d=>exact ih j (O++[(d:Int)]) X5 l9 X5
   .rw[if_neg hlt,if_neg hlt]
 have:=key 100 kH [] X5 (by unfold kH;omega) A7;refine(lq this _).trans ?_;unfold DV;cases XW s 100 []<;>rfl
def pz(s:D7)(e:Int)(i:Nat):d6a:=onL (λd=>decide (e∈V4 s (d:Int))) i
def Xd(s:D7)(O:d5Y)(d:Int):d5Y:=(V4 s d).filter λx=> !qA O x
def hw(W:d5Y)(d:Int):Int:=W.getD d.toNat 0
variable {W:d5Y}
theorem b3d{d:Int}(h0:0<=d)(h:d<o9 W):G8 W d=some (hw W d)/\P7 W (U8 d)=some (hw W d):=by have:=Nj h0 h;refine⟨this,?_⟩;unfold G8 at this;rw[if_pos h0]at this;exact this
theorem b3e{d:Int}(h0:0<=d)(h:d<o9 W)(v x:Int)(hx:0<=x):hw (aW W (U8 d) v) x=if x=d then v else hw W x:=by
 unfold hw;have hl:d.toNat<W.length:=by simp only[o9]at h;omega
 show(W.set d.toNat v).getD x.toNat 0=_;rw[AB,AB,P6];by_cases hq:x=d
 .subst hq;rw[if_pos rfl,if_pos hl,if_pos rfl];rfl
 .rw[if_neg l9,if_neg hq]
theorem ZB(W:d5Y)(i:Nat)(v:Int):(aW W i v).length=W.length:=by show(W.set i v).length=_;simp
theorem a1n{n:Nat}(hd:l.Nodup)(hr:∀x∈l,0<=x/\x<(n:Int)):l.length<=n:=by
 have hp:=IR l;have hs:=Hl l;have hnd:(LG l).Nodup:=hp.nodup_iff.2 hd;have hsi:SI (LG l):=by have:=List.Pairwise.and hs hnd;exact this.imp λ{a b} ⟨h1,h2⟩=>by omega
 have:=E_ n hsi λx hx=>hr x (hp.mem_iff.1 hx);rw[hp.length_eq]at this;exact this
theorem a4g(h:SI l){m:Int}(hm:m∉O):((l.filter λx=> !qA (O++[m]) x).length:Int)=((l.filter λx=> !qA O x).length:Int) -(if m∈l then 1 else 0):=by
 have hh:∀x,qA (O++[m]) x=(qA O x || x8 m x):=λx=>by unfold qA;rw[ul];simp
 induction l with
 |nil=>simp|cons a l ih=>
  have h' :=X7.1 h;have ih' :=ih h'.2;rw[dF,dF,hh];by_cases hma:m=a
  .subst hma;have hno:m∉l:=λhx=>by have:=h'.1 m hx;omega
   rw[if_neg hno]at ih';have h1:qA O m=false:=by
    cases hq:qA O m
    .rfl
    .exact absurd (FU.1 hq) hm
   have hA:(!(qA O m || x8 m m))=false:=by rw[O0 rfl];simp
   have hB:(!qA O m)=true:=by rw[h1];rfl
   rw[hA,hB,if_pos (show m∈m::l by simp)];simp only[df,if_false,if_true,H5];omega
  .rw[J8 hma,Bool.or_false];have:(if m∈a::l then(1:Int)else 0)=if m∈l then 1 else 0:=by simp[hma]
   rw[this];cases qA O a
   .simp only[Bool.not_false,if_true,H5];omega
   .simp only[jM,df,if_false];exact ih'
structure KInv (s:D7) (O W H:d5Y):Prop where
 nd:O.Nodup
 rng:∀x∈O,0<=x/\x<nD s
 cl:∀u∈O,∀x∈V4 s u,x∈O
 wl:W.length=s.2.2.2.1.length
 w:∀d,0<=d->d<nD s->hw W d=((Xd s O d).length:Int)
 hp:Oq H H.length
 hnd:H.Nodup
 hm:∀d,d∈H↔0<=d/\d<nD s/\d∉O/\hw W d=0
theorem c0O :okN s O d=true↔(d:Int)∉O/\Xd s O (d:Int)=[]:=by
 unfold okN VY Xd;cases hq:qA O (d:Int)
 .have h1:(d:Int)∉O:=λh=>by rw[FU.2 h]at hq;cases hq
  simp only[o6,kV,qO,kU,Bool.not_eq_false'];exact⟨λh=>⟨h1,λa ha=>by rw[h a ha]⟩,λh a ha=>h.2 a ha⟩
 .have h1:=FU.1 hq;simp only[o7];exact⟨λh=>(by cases h),λh=>absurd h1 h.1⟩
variable {H:d5Y}
theorem KInv.ready(h:KInv s O W H)(hd:d<s.2.2.2.1.length):okN s O d=true↔(d:Int)∈H:=by
 have hn:nD s=((s.2.2.2.1.length:Nat):Int):=rfl;rw[c0O,h.hm];have:=h.w (d:Int) l9 l9;constructor
 .rintro⟨h1,h2⟩;exact⟨l9,l9,h1,by rw[this,h2];rfl⟩
 .rintro⟨_,_,h1,h2⟩;refine⟨h1,O9.1 ?_⟩;rw[this]at h2;omega
theorem KInv.next_none(h:KInv s O W []):Pz s O=none:=
 ZN λj hj=>by
  cases hq:okN s O j
  .rfl
  .have:=(h.ready hj).1 hq;cases this
theorem KInv.next_some(h:KInv s O W H)(h0:0<H.length):∃m:Nat,hg H 0=(m:Int)/\Pz s O=some m/\m<s.2.2.2.1.length/\O.length<s.2.2.2.1.length:=by
 have hn:nD s=((s.2.2.2.1.length:Nat):Int):=rfl;have hmem:hg H 0∈H:=by have:=zQ h0;exact iZ this
 have hmm:=(h.hm _).1 hmem;obtain⟨m,hm⟩:∃m:Nat,hg H 0=(m:Int):=⟨(hg H 0).toNat,l9⟩;rw[hm]at hmem hmm;have hlt:m<s.2.2.2.1.length:=l9;refine⟨m,hm,Xk hlt ((h.ready hlt).2 hmem) λj hj=>?_,hlt,?_⟩
 .cases hq:okN s O j
  .rfl
  .have hjH:=(h.ready l9).1 hq;obtain⟨i,hi,he⟩:=X9 hjH;have:=b3b h.hp i hi;have e:=zQ hi;rw[fH hi,he]at e;have:=ay e;omega
 .have hnd:(O++[(m:Int)]).Nodup:=L6.2 ⟨h.nd,A7,λa ha b hb=>by simp at hb;subst hb;intro hq;subst hq;exact hmm.2.2.1 ha⟩;have:=a1n (n:=s.2.2.2.1.length) hnd λx hx=>by
   rcases F7.1 hx with hx|hx
   .exact h.rng x hx
   .simp at hx;subst hx;omega
  simp at this;omega
structure UInv (s:D7) (W H0:d5Y) (us:d5Y) (W' H' :d5Y):Prop where
 wl:W'.length=s.2.2.2.1.length
 w:∀d,0<=d->d<nD s->hw W' d=hw W d -(if d∈us then 1 else 0)
 hp:Oq H' H'.length
 pm:∃P:d5Y,H'.Perm (H0++P)/\P.Sublist us/\∀d,d∈P↔d∈us/\hw W d=1
theorem a8s(hs:SmS s){W H0 us:d5Y}(hW:W.length=s.2.2.2.1.length)(hW2:∀d,0<=d->d<nD s->-1000<=hw W d/\hw W d<=1000)(hH:Oq H0 H0.length)(hHl:H0.length<=100)(hus:SI us)(hur:∀u∈us,0<=u/\u<nD s)
  {f:d5Y×d5Y×Int->Option ((d5Y×d5Y×Int)⊕(d5Y×d5Y))}
  (hin:∀(i:Nat) (u:Int) (A B:d5Y),us[i]? =some u->f (A,B,(i:Int))=o5 (G8 A u) λ(x_8:Int)=>o5 (P7 A (U8 u)) λ(x_9:Int)=>o5 (G8 A u) λ(x_10:Int)=>o5 (P7 A (U8 u)) λ(x_11:Int)=>
   o5 (G8 (aW A (U8 u) (H9 .i64 x_9 1)) u) λ(x_12:Int)=>o5 (P7 (aW A (U8 u) (H9 .i64 x_9 1)) (U8 u)) λ(x_13:Int)=>l7 (x8 x_13 0) (o5 (iF B u) λ(x_14:d5Y)=>some (.inl (aW A (U8 u) (H9 .i64 x_9 1),x_14,x9 .i64 (i:Int) 1)))
    (some (.inl (aW A (U8 u) (H9 .i64 x_9 1),B,x9 .i64 (i:Int) 1))))
  (hend:∀(A B:d5Y),f (A,B,(us.length:Int))=some (.inr (A,B))):∃W' H',Y8 f (W,H0,0)=some (W',H')/\UInv s W H0 us W' H' :=by
 have hn:nD s=((s.2.2.2.1.length:Nat):Int):=rfl;have hul:us.length<=14:=ER hs hus hur;obtain⟨e,h1,h2⟩:=iy (f:=f) (s:=(W,H0,0)) (λx=>∃(i:Nat) (A B:d5Y),x=(A,B,(i:Int))/\i<=us.length/\UInv s W H0 (us.take i) A B/\B.length<=H0.length+i) (λe=>UInv s W H0 us e.1 e.2) (λx=>us.length -x.2.2.toNat)
  ⟨0,W,H0,rfl,l9,⟨hW,λd _ _=>by simp,hH,[],A7,A7,λd=>by simp⟩,l9⟩ X5 (by
  rintro x ⟨i,A,B,rfl,hi,hU,hBl⟩;by_cases hlt:i<us.length
  .left;have e:=fH hlt;generalize us[i]=u at e;have hu:=hur u (iZ e);have hst:us.take (i+1)=us.take i++[u]:=by rw[V6 hlt,(X0.1 e).2]
   have hnot:u∉us.take i:=λhx=>by obtain⟨j,hj,hq⟩:=X9 hx;simp only[Y9]at hj;have h3:=iQ.1 hus j i l9 hlt l9;rw[qQ]at hq;have h4:=(X0.1 e).2;omega
   have hAl:=hU.wl;have hAu:=hU.w u hu.1 hu.2;rw[if_neg hnot]at hAu;have hbd:=hW2 u hu.1 hu.2;obtain⟨q1,q2⟩:=b3d (W:=A) hu.1 (by simp only[o9];omega);have hsub:H9 .i64 (hw A u) 1=hw A u -1:=U1 O5;have hA2:∀d,0<=d->d<nD s->hw (aW A (U8 u) (hw A u -1)) d=hw W d -(if d∈us.take (i+1)then 1 else 0):=λd d0 d1=>by
    rw[b3e hu.1 (by simp only[o9];omega) _ _ d0,hst];have:=hU.w d d0 d1;by_cases hq:d=u
    .subst hq;rw[if_pos rfl,if_pos A7];omega
    .rw[if_neg hq,this];simp[hq]
   obtain⟨q3,q4⟩:=b3d (W:=aW A (U8 u) (hw A u -1)) (d:=u) hu.1 (by simp only[o9,ZB];omega);have hv:hw (aW A (U8 u) (hw A u -1)) u=hw A u -1:=by rw[b3e hu.1 (by simp only[o9];omega) _ _ hu.1,if_pos rfl]
   rw[hv]at q3 q4;obtain⟨P,p1,p2,p3⟩:=hU.pm;rw[hin i u A B e,q1,o8,q2,o8,o8,o8,hsub,q3,o8,q4,o8,Y1 l9];by_cases hz:hw A u -1=0
   .obtain⟨B',b1,b2,b3⟩:=a0V (l:=B) l9 hU.hp u;rw[O0 hz,o7,b1,o8];have hB'l:B'.length=B.length+1:=by rw[b3.length_eq];simp
    refine⟨_,rfl,⟨i+1,_,_,rfl,hlt,⟨by rw[ZB];exact hAl,hA2,b2,P++[u],?_,?_,λd=>?_⟩,l9⟩,by simp;omega⟩
    .rw[←F8];exact b3.trans (p1.append_right [u])
    .rw[hst];exact p2.append (List.Sublist.refl _)
    .rw[F7,p3,hst,F7];constructor
     .rintro(⟨h,h'⟩|h)
      .exact⟨.inl h,h'⟩
      .simp at h;subst h;exact⟨.inr A7,l9⟩
     .rintro⟨h|h,h'⟩
      .exact .inl ⟨h,h'⟩
      .exact .inr h
   .rw[J8 hz,o6];refine⟨_,rfl,⟨i+1,_,_,rfl,hlt,⟨by rw[ZB];exact hAl,hA2,hU.hp,P,p1,?_,λd=>?_⟩,l9⟩,by simp;omega⟩
    .rw[hst];exact p2.trans (List.sublist_append_left _ _)
    .rw[p3,hst,F7];constructor
     .rintro⟨h,h'⟩;exact⟨.inl h,h'⟩
     .rintro⟨h|h,h'⟩
      .exact⟨h,h'⟩
      .simp at h;subst h;omega
  .right;have:i=us.length:=l9;subst this;rw[aA]at hU;exact⟨_,hend _ _,hU⟩)
 exact⟨e.1,e.2,h1,h2⟩
theorem NS{m:Int}{d:Int} :d∈castL (pz s m s.2.2.2.1.length)↔0<=d/\d<nD s/\m∈V4 s d:=by
 have hn:nD s=((s.2.2.2.1.length:Nat):Int):=rfl;unfold castL;rw[bM];constructor
 .rintro⟨k,hk,rfl⟩;obtain⟨h1,h2⟩:=a2w _ hk;exact⟨l9,l9,by simpa using h2⟩
 .rintro⟨h1,h2,h3⟩;refine⟨d.toNat,?_,l9⟩;unfold pz onL;rw[gV,bT];exact⟨l9,by rw[az h1];simpa using h3⟩
theorem a3R{l:d6a}(h:l.Pairwise (·< ·)):SI (castL l):=List.Pairwise.map _ (λa b h=>by omega) h
theorem KInv.step(h:KInv s O W H)(h0:0<H.length){m:Nat}(hm:hg H 0=(m:Int)){R:d5Y}(hR:Oq R R.length)(hRp:(R++[(m:Int)]).Perm H){W' H' :d5Y}(hU:UInv s W R (castL (pz s (m:Int) s.2.2.2.1.length)) W' H'):KInv s (O++[(m:Int)]) W' H' :=by
 have hn:nD s=((s.2.2.2.1.length:Nat):Int):=rfl;have hmem:(m:Int)∈H:=by rw[←hm];have:=zQ h0;exact iZ this
 have hmm:=(h.hm _).1 hmem;have hleft:Xd s O (m:Int)=[]:=by have:=h.w (m:Int) hmm.1 hmm.2.1;rw[hmm.2.2.2]at this;exact O9.1 l9
 have hdeps:∀x∈V4 s (m:Int),x∈O:=λx hx=>by have hnil:=qO.1 hleft x hx;simp only[kU,Bool.not_eq_false']at hnil;exact FU.1 hnil
 have hndR:(R++[(m:Int)]).Nodup:=hRp.nodup_iff.2 h.hnd;have hmR:(m:Int)∉R:=λhx=>by have:=(L6.1 hndR).2.2 _ hx _ (dh.2 rfl);exact this rfl
 have hRm:∀d,d∈R↔d∈H/\d≠(m:Int):=λd=>by
  rw[←hRp.mem_iff,F7,dh];constructor
  .intro hx;exact⟨.inl hx,λhq=>hmR (hq▸hx)⟩
  .rintro⟨hx|hx,hq⟩
   .exact hx
   .exact absurd hx hq
 obtain⟨P,p1,p2,p3⟩:=hU.pm;have huO:∀u,(m:Int)∈V4 s u->u∉O:=λu hu hx=>hmm.2.2.1 (h.cl u hx _ hu);refine⟨?_,?_,?_,hU.wl,λd d0 d1=>?_,hU.hp,?_,λd=>?_⟩
 .exact L6.2 ⟨h.nd,A7,λa ha b hb=>by simp at hb;subst hb;intro hq;subst hq;exact hmm.2.2.1 ha⟩
 .intro x hx;rcases F7.1 hx with hx|hx
  .exact h.rng x hx
  .simp at hx;subst hx;exact⟨hmm.1,hmm.2.1⟩
 .intro u hu x hx;rcases F7.1 hu with hu|hu
  .exact ah _ (h.cl u hu x hx)
  .simp at hu;subst hu;exact ah _ (hdeps x hx)
 .rw[hU.w d d0 d1,h.w d d0 d1];unfold Xd;rw[a4g (CG s d) hmm.2.2.1];congr 1;have:(d∈castL (pz s (m:Int) s.2.2.2.1.length))↔((m:Int)∈V4 s d):=by rw[NS];exact⟨λh=>h.2.2,λh=>⟨d0,d1,h⟩⟩
  by_cases hq:(m:Int)∈V4 s d
  .rw[if_pos (this.2 hq),if_pos hq]
  .rw[if_neg (λhx=>hq (this.1 hx)),if_neg hq]
 .rw[p1.nodup_iff];refine L6.2 ⟨(L6.1 hndR).1,?_,λa ha b hb hq=>?_⟩
  .have:(castL (pz s (m:Int) s.2.2.2.1.length)).Nodup:=(a3R (a7f _ _)).imp λ{a b} h=>by omega
   exact p2.nodup this
  .subst hq;have h1:=(h.hm a).1 ((hRm a).1 ha).1;have h2:=(p3 a).1 hb;omega
 .rw[p1.mem_iff,F7,hRm,p3,NS,h.hm];have hw' :=λd0 d1=>hU.w d d0 d1;have hmemU:d∈castL (pz s (m:Int) s.2.2.2.1.length)↔0<=d/\d<nD s/\(m:Int)∈V4 s d:=NS;constructor
  .rintro(⟨⟨d0,d1,dO,dw⟩,dm⟩|⟨⟨d0,d1,dd⟩,dw⟩)
   .refine⟨d0,d1,λhx=>?_,?_⟩
    .rcases F7.1 hx with hx|hx
     .exact dO hx
     .simp at hx;exact dm hx
    .have hnot:(m:Int)∉V4 s d:=λhx=>by
      have h1:=h.w d d0 d1;rw[dw]at h1;have h2:Xd s O d=[]:=O9.1 l9;have h3:=qO.1 h2 _ hx;simp only[kU,Bool.not_eq_false']at h3;exact hmm.2.2.1 (FU.1 h3)
     rw[hw' d0 d1,dw,if_neg (λhx=>hnot (hmemU.1 hx).2.2)];rfl
   .refine⟨d0,d1,λhx=>?_,?_⟩
    .rcases F7.1 hx with hx|hx
     .exact huO d dd hx
     .simp at hx;rw[hx]at dd;exact hmm.2.2.1 (hdeps _ dd)
    .rw[hw' d0 d1,if_pos (hmemU.2 ⟨d0,d1,dd⟩)];omega
  .rintro⟨d0,d1,dO,dw⟩;rw[hw' d0 d1]at dw;have dO1:d∉O:=λhx=>dO (ah _ hx);have dm:d≠(m:Int):=λhx=>dO (by rw[hx];simp);by_cases hq:(m:Int)∈V4 s d
   .rw[if_pos (hmemU.2 ⟨d0,d1,hq⟩)]at dw;exact .inr ⟨⟨d0,d1,hq⟩,l9⟩
   .rw[if_neg (λhx=>hq (hmemU.1 hx).2.2)]at dw;exact .inl ⟨⟨d0,d1,dO1,l9⟩,dm⟩
def Fj(s:D7)(i:Nat):List d5Y:=(List.range s.2.2.2.1.length).map λ(e:Nat)=>castL (pz s (e:Int) i)
theorem Qu(l:d6a):(castL l).length=l.length:=by unfold castL;rw[X4]
theorem a8t(s:D7)(e:Int)(i:Nat):castL (pz s e (i+1))=castL (pz s e i)++(if e∈V4 s (i:Int)then[(i:Int)]else[]):=by unfold pz;rw[PG];by_cases h:e∈V4 s (i:Int)<;>simp[castL,h]
theorem a8r(hs:SmS s)(i:Nat)(hi:i<s.2.2.2.1.length){f:List d5Y×Int->Option ((List d5Y×Int)⊕List d5Y)}
  (hin:∀(k:Nat) (e:Int) (A:List d5Y),(V4 s (i:Int))[k]? =some e->f (A,(k:Int))=l7 (inb e (o9 A)) (o5 (P7 A (U8 e)) λ(x_7:d5Y)=>o5 (bz x_7 [(i:Int)]) λ(x_8:d5Y)=>l7 (inb e (o9 A)) (l7 (Rj (U8 e) (U8 e)) (o5 (P7 A (U8 e)) λ(x_9:d5Y)=>some (.inl (aW A (U8 e) x_8,x9 .i64 (k:Int) 1))) none) none) none)
  (hend:∀A,f (A,((V4 s (i:Int)).length:Int))=some (.inr A)):Y8 f (Fj s i,0)=some (Fj s (i+1)):=by
 have hn:nD s=((s.2.2.2.1.length:Nat):Int):=rfl;have hdl:=MK hs (i:Int);have hnd:=hs.nd;have hsi:=CG s (i:Int);refine(mQ (V4 s (i:Int)) (λ(A:List d5Y) e=>A.set e.toNat (A.getD e.toNat []++[(i:Int)])) (λb k=>(b,k)) (λb=>b) (λk A=>A=(List.range s.2.2.2.1.length).map λ(e:Nat)=>castL (pz s (e:Int) i)++(if(e:Int)∈(V4 s (i:Int)).take k then[(i:Int)]else[])) (b:=Fj s i) l9 (by simp[Fj]) (λk e A he hk hA=>?_) (λA hA=>hend A)).1.trans ?_
 .have hlt:=(X0.1 he).1;have her:=zH (iZ he);have hst:(V4 s (i:Int)).take (k+1)=(V4 s (i:Int)).take k++[e]:=by rw[V6 hlt,(X0.1 he).2]
  have hnot:e∉(V4 s (i:Int)).take k:=λhx=>by obtain⟨j,hj,hq⟩:=X9 hx;simp only[Y9]at hj;have h3:=iQ.1 hsi j k l9 hlt l9;rw[qQ]at hq;have h4:=(X0.1 he).2;omega
  have hlA:A.length=s.2.2.2.1.length:=by rw[hA];simp
  have hg:A[e.toNat]? =some (castL (pz s e i)):=by rw[hA,Hm _ _ (show e.toNat<s.2.2.2.1.length by omega),az her.1,if_neg hnot,G5]
  have hul:(castL (pz s e i)).length<=i:=by rw[Qu];exact FB _ _
  rw[hin k e A he,show inb e (o9 A)=true from decide_eq_true ⟨her.1,by simp only[o9];omega⟩,o7,show P7 A (U8 e)=some (castL (pz s e i))from hg,o8,jh _ l9,o8,o7,show Rj (U8 e) (U8 e)=true by simp[Rj],o7,o8,Y1 l9];rw[show A.getD e.toNat []=castL (pz s e i) by rw[AB,hg];rfl];refine⟨rfl,?_⟩;rw[hA,Yf];apply dU;intro d hd;rw[hst];by_cases hq:d=e.toNat
  .subst hq;rw[if_pos rfl,az her.1,if_pos A7]
  .rw[if_neg hq];have:(if(d:Int)∈(V4 s (i:Int)).take k++[e]then[(i:Int)]else[])=if(d:Int)∈(V4 s (i:Int)).take k then[(i:Int)]else[]:=by
    have:(d:Int)≠e:=l9;simp[this]
   rw[this]
 .have h2:=(mQ (V4 s (i:Int)) (λ(A:List d5Y) e=>A.set e.toNat (A.getD e.toNat []++[(i:Int)])) (λb k=>(b,k)) (λb=>b) (λk A=>A=(List.range s.2.2.2.1.length).map λ(e:Nat)=>castL (pz s (e:Int) i)++(if(e:Int)∈(V4 s (i:Int)).take k then[(i:Int)]else[])) (f:=f) (b:=Fj s i) l9 (by simp[Fj]) (λk e A he hk hA=>by
   have hlt:=(X0.1 he).1;have her:=zH (iZ he);have hst:(V4 s (i:Int)).take (k+1)=(V4 s (i:Int)).take k++[e]:=by rw[V6 hlt,(X0.1 he).2]
   have hnot:e∉(V4 s (i:Int)).take k:=λhx=>by obtain⟨j,hj,hq⟩:=X9 hx;simp only[Y9]at hj;have h3:=iQ.1 hsi j k l9 hlt l9;rw[qQ]at hq;have h4:=(X0.1 he).2;omega
   have hlA:A.length=s.2.2.2.1.length:=by rw[hA];simp
   have hg:A[e.toNat]? =some (castL (pz s e i)):=by rw[hA,Hm _ _ (show e.toNat<s.2.2.2.1.length by omega),az her.1,if_neg hnot,G5]
   have hul:(castL (pz s e i)).length<=i:=by rw[Qu];exact FB _ _
   rw[hin k e A he,show inb e (o9 A)=true from decide_eq_true ⟨her.1,by simp only[o9];omega⟩,o7,show P7 A (U8 e)=some (castL (pz s e i))from hg,o8,jh _ l9,o8,o7,show Rj (U8 e) (U8 e)=true by simp[Rj],o7,o8,Y1 l9];rw[show A.getD e.toNat []=castL (pz s e i) by rw[AB,hg];rfl];refine⟨rfl,?_⟩;rw[hA,Yf];apply dU;intro d hd;rw[hst];by_cases hq:d=e.toNat
   .subst hq;rw[if_pos rfl,az her.1,if_pos A7]
   .rw[if_neg hq];have:(if(d:Int)∈(V4 s (i:Int)).take k++[e]then[(i:Int)]else[])=if(d:Int)∈(V4 s (i:Int)).take k then[(i:Int)]else[]:=by
     have:(d:Int)≠e:=l9;simp[this]
    rw[this]) (λA hA=>hend A)).2
  rw[h2];unfold Fj;apply congrArg some;apply dU;intro d hd;rw[a8t,aA]
theorem b2V{α β σ:Type}{o:Option α}{x:α}{K:α->Option (σ⊕β)}{Q:σ->Prop}(h:o=some x)(hk:∃s',K x=some (.inl s')/\Q s'):∃s',o5 o K=some (.inl s')/\Q s' :=by rw[h];exact hk
structure IInv (s:D7) (i:Nat) (U:List d5Y) (W H:d5Y):Prop where
 u:U=Fj s i
 w:W=pd ((List.range i).map λ(d:Nat)=>((V4 s (d:Int)).length:Int)) (s.2.2.2.1.length -i)
 hp:Oq H H.length
 hnd:H.Nodup
 hm:∀d,d∈H↔0<=d/\d<(i:Int)/\V4 s d=[]
 hl:H.length<=i
theorem b3R(hs:SmS s):ug s=some (DV s):=by
 have hn:nD s=((s.2.2.2.1.length:Nat):Int):=rfl;have hnd:=hs.nd;unfold ug;rw[MF hs,o8];have hAl:o9 ((List.range s.2.2.2.1.length).map λ(d:Nat)=>V4 s (d:Int))=((s.2.2.2.1.length:Nat):Int):=by simp[o9]
 have hAg:∀i,i<s.2.2.2.1.length->((List.range s.2.2.2.1.length).map λ(d:Nat)=>V4 s (d:Int))[i]? =some (V4 s (i:Int)):=λi hi=>Hm _ _ hi;generalize (List.range s.2.2.2.1.length).map (λ(d:Nat)=>V4 s (d:Int))=A at*;rw[hAl,show qo ((s.2.2.2.1.length:Nat):Int) ([]:d5Y)=some (Fj s 0) by
  unfold qo Fj pz onL castL;rw[if_pos l9];simp[List.map_const'],o8,show qo ((s.2.2.2.1.length:Nat):Int) (0:Int)=some (pd ((List.range 0).map λ(d:Nat)=>((V4 s (d:Int)).length:Int)) (s.2.2.2.1.length -0)) by
  unfold qo pd;rw[if_pos l9];simp,o8]
 obtain⟨e,k1,k2⟩:=iy (f:=λ(x_3:List d5Y×d5Y×d5Y×Int)=>l7 (D8 x_3.2.2.2 ((s.2.2.2.1.length:Nat):Int)) (o5 (G8 A x_3.2.2.2) λ(x:d5Y)=>o5 (G8 x_3.2.1 x_3.2.2.2) λ(x_4:Int)=>o5 (P7 x_3.2.1 (U8 x_3.2.2.2)) λ(x_5:Int)=>
   o5 (Y8 (λ(x_6:List d5Y×Int)=>l7 (D8 x_6.2 (o9 x)) (o5 (G8 x x_6.2) λ(x:Int)=>l7 (inb x (o9 x_6.1)) (o5 (P7 x_6.1 (U8 x)) λ(x_7:d5Y)=>o5 (bz x_7 [x_3.2.2.2]) λ(x_8:d5Y)=>l7 (inb x (o9 x_6.1)) (l7 (Rj (U8 x) (U8 x)) (o5 (P7 x_6.1 (U8 x)) λ(x_9:d5Y)=>some (.inl (aW x_6.1 (U8 x) x_8,x9 .i64 x_6.2 1))) none) none) none) (some (.inr x_6.1))) (x_3.1,0)) λ(y:List d5Y)=>
   l7 (x8 (o9 x) 0) (o5 (iF x_3.2.2.1 x_3.2.2.2) λ(x_6:d5Y)=>some (.inl (y,aW x_3.2.1 (U8 x_3.2.2.2) (o9 x),x_6,x9 .i64 x_3.2.2.2 1))) (some (.inl (y,aW x_3.2.1 (U8 x_3.2.2.2) (o9 x),x_3.2.2.1,x9 .i64 x_3.2.2.2 1)))) (some (.inr (x_3.1,x_3.2.1,x_3.2.2.1))))
  (s:=(Fj s 0,pd ((List.range 0).map λ(d:Nat)=>((V4 s (d:Int)).length:Int)) (s.2.2.2.1.length -0),[],0)) (λx=>∃(i:Nat) (U:List d5Y) (W H:d5Y),x=(U,W,H,(i:Int))/\i<=s.2.2.2.1.length/\IInv s i U W H) (λy=>IInv s s.2.2.2.1.length y.1 y.2.1 y.2.2) (λx=>s.2.2.2.1.length -x.2.2.2.toNat)
  ⟨0,_,_,_,rfl,l9,rfl,rfl,λk k0 k1=>by simp at k1,A7,λd=>by simp;omega,A7⟩ X5 (by
  rintro x ⟨i,U,W,H,rfl,hi,hI⟩;by_cases hlt:i<s.2.2.2.1.length
  .left;obtain⟨m,hm⟩:∃m,s.2.2.2.1.length -i=m+1:=⟨s.2.2.2.1.length -i -1,l9⟩;have hlen:((List.range i).map λ(d:Nat)=>((V4 s (d:Int)).length:Int)).length=i:=A7;have q1:=a2C ((List.range i).map λ(d:Nat)=>((V4 s (d:Int)).length:Int)) m;have q2:=a2D ((List.range i).map λ(d:Nat)=>((V4 s (d:Int)).length:Int)) m;have q3:=a7l ((List.range i).map λ(d:Nat)=>((V4 s (d:Int)).length:Int)) m (o9 (V4 s (i:Int)));rw[hlen]at q1 q2 q3;have hW:=hI.w;rw[hm]at hW;have hl14:=hI.hl;have hus:=a8r hs i hlt (f:=λ(x_6:List d5Y×Int)=>l7 (D8 x_6.2 (o9 (V4 s (i:Int)))) (o5 (G8 (V4 s (i:Int)) x_6.2) λ(x:Int)=>l7 (inb x (o9 x_6.1)) (o5 (P7 x_6.1 (U8 x)) λ(x_7:d5Y)=>o5 (bz x_7 [(i:Int)]) λ(x_8:d5Y)=>l7 (inb x (o9 x_6.1)) (l7 (Rj (U8 x) (U8 x)) (o5 (P7 x_6.1 (U8 x)) λ(x_9:d5Y)=>some (.inl (aW x_6.1 (U8 x) x_8,x9 .i64 x_6.2 1))) none) none) none) (some (.inr x_6.1)))
    (λk e A he=>by simp only[G9 he,o7,E8,he,o8]) (λA=>by simp only[G6];rfl)
   simp only;rw[U7 l9,o7,E8,hAg i hlt,o8,hW,q1,o8,q2,o8,hI.u];refine b2V hus ?_;rw[q3,Y1 l9];have hwn:pd ((List.range i).map (λ(d:Nat)=>((V4 s (d:Int)).length:Int))++[o9 (V4 s (i:Int))]) m=pd ((List.range (i+1)).map λ(d:Nat)=>((V4 s (d:Int)).length:Int)) (s.2.2.2.1.length -(i+1)):=by rw[dZ,gU,show s.2.2.2.1.length -(i+1)=m by omega];rfl
   rw[hwn];by_cases hz:(V4 s (i:Int)).length=0
   .obtain⟨H',b1,b2,b3⟩:=a0V (l:=H) l9 hI.hp (i:Int);have hnil:=O9.1 hz;rw[O0 (by simp[o9,hz]),o7,b1,o8];have hni:(i:Int)∉H:=λhx=>by have:=(hI.hm _).1 hx;omega
    refine⟨_,rfl,⟨i+1,_,_,_,rfl,hlt,rfl,rfl,b2,?_,λd=>?_,by rw[b3.length_eq];simp;omega⟩,by simp;omega⟩
    .rw[b3.nodup_iff];exact L6.2 ⟨hI.hnd,A7,λa ha b hb=>by simp at hb;subst hb;intro hq;subst hq;exact hni ha⟩
    .rw[b3.mem_iff,F7,hI.hm,dh];constructor
     .rintro(⟨h1,h2,h3⟩|h)
      .exact⟨h1,l9,h3⟩
      .subst h;exact⟨l9,l9,hnil⟩
     .rintro⟨h1,h2,h3⟩;by_cases hq:d=(i:Int)
      .exact .inr hq
      .exact .inl ⟨h1,l9,h3⟩
   .rw[J8 (by simp only[o9];omega),o6];refine⟨_,rfl,⟨i+1,_,_,_,rfl,hlt,rfl,rfl,hI.hp,hI.hnd,λd=>?_,l9⟩,by simp;omega⟩;rw[hI.hm];constructor
    .rintro⟨h1,h2,h3⟩;exact⟨h1,l9,h3⟩
    .rintro⟨h1,h2,h3⟩;refine⟨h1,?_,h3⟩;by_cases hq:d=(i:Int)
     .subst hq;rw[h3]at hz;exact absurd rfl hz
     .omega
  .right;have:i=s.2.2.2.1.length:=l9;subst this;exact⟨(U,W,H),by simp only[L8 (show((s.2.2.2.1.length:Nat):Int)<=((s.2.2.2.1.length:Nat):Int) by omega)];rfl,hI⟩)
 refine(lq k1 _).trans ?_;obtain⟨U,W,H⟩:=e;simp only at k2 ⊢;have hwd:∀d,0<=d->d<nD s->hw W d=((V4 s d).length:Int):=λd d0 d1=>by have hd:d.toNat<s.2.2.2.1.length:=l9;rw[k2.w,dI];unfold hw pd;rw[AB,List.replicate_zero,G5,Hm _ _ hd,az d0];rfl
 have hK:KInv s [] W H:=by
  refine⟨A7,A7,A7,by rw[k2.w];simp[pd],λd d0 d1=>?_,k2.hp,k2.hnd,λd=>?_⟩
  .rw[hwd d d0 d1];have:Xd s [] d=V4 s d:=List.filter_eq_self.2 λa _=>rfl;rw[this]
  .rw[k2.hm];constructor
   .rintro⟨h1,h2,h3⟩;exact⟨h1,l9,A7,by rw[hwd d h1 l9,h3];rfl⟩
   .rintro⟨h1,h2,_,h4⟩;rw[hwd d h1 h2]at h4;exact⟨h1,l9,O9.1 l9⟩
 have hU:=k2.u;subst hU;have hlatU:∀m:Nat,m<s.2.2.2.1.length->G8 (Fj s s.2.2.2.1.length) (m:Int)=some (castL (pz s (m:Int) s.2.2.2.1.length)):=λm hm=>by rw[E8];exact Hm _ _ hm
 have key:∀(k j:Nat) (O W H:d5Y),KInv s O W H->s.2.2.2.1.length -O.length<k->k<=j->∃y,uS (λ(x:List d5Y×lg)=>o5 (lS x.2.2.1) λ(x_3:Int)=>l7 (D8 0 x_3) (o5 (rH x.2.2.1) λ(x_4:Int×d5Y)=>o5 (bz x.2.2.2 [x_4.1]) λ(x_5:d5Y)=>o5 (G8 x.1 x_4.1) λ(x_6:d5Y)=>
   o5 (Y8 (λ(x:d5Y×d5Y×Int)=>l7 (D8 x.2.2 (o9 x_6)) (o5 (G8 x_6 x.2.2) λ(x_7:Int)=>o5 (G8 x.1 x_7) λ(x_8:Int)=>o5 (P7 x.1 (U8 x_7)) λ(x_9:Int)=>o5 (G8 x.1 x_7) λ(x_10:Int)=>o5 (P7 x.1 (U8 x_7)) λ(x_11:Int)=>o5 (G8 (aW x.1 (U8 x_7) (H9 .i64 x_9 1)) x_7) λ(x_12:Int)=>o5 (P7 (aW x.1 (U8 x_7) (H9 .i64 x_9 1)) (U8 x_7)) λ(x_13:Int)=>
     l7 (x8 x_13 0) (o5 (iF x.2.1 x_7) λ(x_14:d5Y)=>some (.inl (aW x.1 (U8 x_7) (H9 .i64 x_9 1),x_14,x9 .i64 x.2.2 1))) (some (.inl (aW x.1 (U8 x_7) (H9 .i64 x_9 1),x.2.1,x9 .i64 x.2.2 1)))) (some (.inr (x.1,x.2.1)))) (x.2.1,x_4.2,0)) λ(y:d5Y×d5Y)=>some (.inl (x.1,y.1,y.2,x_5))) (some (.inr x.2.2.2))) j (Fj s s.2.2.2.1.length,W,H,O)=some y/\XW s k O=(if y.length<s.2.2.2.1.length then .inr ([],9)else .inl y):=by
  intro k;induction k with
  |zero=>intro j O W H hK hk;omega|succ k ih=>
   intro j O W H hK hk hj;obtain⟨j,rfl⟩:∃j',j=j' +1:=⟨j -1,l9⟩;rw[uS];simp only[lS,o8];cases H with
   |nil=>refine⟨O,rfl,?_⟩;unfold XW;rw[hK.next_none]|cons h0 H=>
    generalize hHH:h0::H=HH at*;have hpos:0<HH.length:=by rw[←hHH];simp
    obtain⟨m,hm1,hm2,hm3,hm4⟩:=hK.next_some hpos;have hHl:HH.length<=14:=fV (a1n (n:=s.2.2.2.1.length) hK.hnd λx hx=>by have:=(hK.hm x).1 hx;omega) hnd;obtain⟨R,r1,r2,r3⟩:=b3c (l:=HH) l9 hK.hp hpos;rw[hm1]at r1 r3;have hRl:R.length<=14:=by have:=r3.length_eq;simp at this;omega
    have hOl:O.length<=14:=l9;obtain⟨W',H',u1,u2⟩:=a8s hs (W:=W) (H0:=R) (us:=castL (pz s (m:Int) s.2.2.2.1.length)) hK.wl (λd d0 d1=>by
      have h1:=hK.w d d0 d1;have h2:=aV (λx=> !qA O x) (V4 s d);have h3:=MK hs d;unfold Xd at h1;omega) r2 l9 (a3R (a7f _ _)) (λu hu=>by have:=NS.1 hu;omega)
     (f:=λ(x:d5Y×d5Y×Int)=>l7 (D8 x.2.2 (o9 (castL (pz s (m:Int) s.2.2.2.1.length)))) (o5 (G8 (castL (pz s (m:Int) s.2.2.2.1.length)) x.2.2) λ(x_7:Int)=>o5 (G8 x.1 x_7) λ(x_8:Int)=>o5 (P7 x.1 (U8 x_7)) λ(x_9:Int)=>o5 (G8 x.1 x_7) λ(x_10:Int)=>o5 (P7 x.1 (U8 x_7)) λ(x_11:Int)=>o5 (G8 (aW x.1 (U8 x_7) (H9 .i64 x_9 1)) x_7) λ(x_12:Int)=>o5 (P7 (aW x.1 (U8 x_7) (H9 .i64 x_9 1)) (U8 x_7)) λ(x_13:Int)=>
     l7 (x8 x_13 0) (o5 (iF x.2.1 x_7) λ(x_14:d5Y)=>some (.inl (aW x.1 (U8 x_7) (H9 .i64 x_9 1),x_14,x9 .i64 x.2.2 1))) (some (.inl (aW x.1 (U8 x_7) (H9 .i64 x_9 1),x.2.1,x9 .i64 x.2.2 1)))) (some (.inr (x.1,x.2.1))))
     (λi u A B hu=>by simp only[G9 hu,o7,E8 (castL (pz s (m:Int) s.2.2.2.1.length)),hu,o8]) (λA B=>by simp only[G6];rfl)
    have hK2:=hK.step hpos hm1 r2 r3 u2;obtain⟨y,y1,y2⟩:=ih j (O++[(m:Int)]) W' H' hK2 X5 l9;refine⟨y,?_,?_⟩
    .rw[U7 (show(0:Int)<o9 HH by simp only[o9];omega),o7,r1,o8,jh _ l9,o8,hlatU m hm3,o8,u1,o8];exact y1
    .unfold XW;rw[if_pos hm4,hm2];exact y2
 obtain⟨y,y1,y2⟩:=key 100 kH [] W H hK X5 (by unfold kH;omega);refine(lq y1 _).trans ?_;unfold DV;rw[y2];by_cases hl:y.length<s.2.2.2.1.length
 .rw[if_pos hl,U7 (by simp only[o9];omega)];rfl
 .rw[if_neg hl,L8 (by simp only[o9];omega)];rfl
end
end Go.GP
namespace Gt
open Go Go.GP
def il(y:Int):Bool:=if y % 4=0 then(if y % 100≠0 then true else decide (y % 400=0))else false
def ys(y:Int):Int:=(y -1900)*365+((y -1) / 4 -(y -1) / 100+(y -1) / 400) -460
def diy(y:Int):Int:=if il y then 366 else 365
theorem KD(y:Int):ys (y+1)=ys y+diy y:=by unfold ys diy il;by_cases h4:y % 4=0<;>by_cases h100:y % 100=0<;>by_cases h400:y % 400=0<;>simp[h4,h100,h400]<;>omega
theorem Ri(a b:Int):a<b\/b<=a:=l9
theorem VB(y:Int):365<=diy y/\diy y<=366:=by unfold diy;split<;>omega
theorem uF{y y' :Int}(h:y<=y'):ys y<=ys y' :=by
 obtain⟨n,rfl⟩:∃n:Nat,y' =y+n:=⟨(y' -y).toNat,l9⟩;clear h;induction n with
 |zero=>simp|succ n ih=>have:=KD (y+n);have:=VB (y+n);have e:y+((n+1:Nat):Int)=y+n+1:=l9;rw[e];omega
variable {y:Int}
theorem Rf(h:1900<=y):0<=ys y:=by
 have:=uF h;have e:ys 1900=0:=by decide+kernel
 omega
theorem b2d{y y' d:Int}(h1:ys y<=d)(h2:d<ys (y+1))(h3:ys y' <=d)(h4:d<ys (y' +1)):y=y' :=by
 rcases Int.lt_trichotomy y y' with h|h|h
 .have:=uF (y:=y+1) (y' :=y') l9;omega
 .exact h
 .have:=uF (y:=y' +1) (y' :=y) l9;omega
def dim(y m:Int):Int:=
 if m=2 then(if il y then 29 else 28)else if m=4\/m=6\/m=9\/m=11 then 30 else 31
theorem EJ(y m:Int):28<=dim y m/\dim y m<=31:=by
 unfold dim;repeat' split
 all_goals omega
theorem OO(h:0<=y):JD y=some (il y):=by
 unfold JD il;simp only[AV h];by_cases h4:y % 4=0
 .rw[Ha (O0 h4),if_pos h4];by_cases h100:y % 100=0
  .simp[x8,h100]
  .simp[x8,h100]
 .rw[MI (J8 h4),if_neg h4]
theorem Oe(h:0<=y):Hu y=some (il y):=OO h
theorem GZ(h:0<=y):kw y=some (diy y):=by unfold kw diy;rw[Oe h,o8];cases il y<;>rfl
variable {m:Int}
theorem m12(h:1<=m/\m<=12):m=1\/m=2\/m=3\/m=4\/m=5\/m=6\/m=7\/m=8\/m=9\/m=10\/m=11\/m=12:=l9
theorem vk(h:0<=y)(hm:1<=m/\m<=12):jW y m=some (dim y m):=by
 unfold jW;rcases m12 hm with rfl|rfl|rfl|rfl|rfl|rfl|rfl|rfl|rfl|rfl|rfl|rfl
 all_goals first|rfl|(rw[OO h];unfold dim;cases il y<;>rfl)
theorem uu(h:0<=y)(hm:1<=m/\m<=12):gY y m=some (dim y m):=by
 unfold gY;rcases m12 hm with rfl|rfl|rfl|rfl|rfl|rfl|rfl|rfl|rfl|rfl|rfl|rfl
 all_goals first|rfl|(rw[Oe h];unfold dim;cases il y<;>rfl)
theorem JE(h:0<=y)(h2:y<=1000000):yQ y=some (y / 4 -y / 100+y / 400):=by unfold yQ;simp only[eH,kF h];rw[ny O5,ny O5,ny O5,U1 O5,U9 O5]
theorem Dl(h:1<=y)(h2:y<=1000000):rJ y=some (ys y):=by unfold rJ;have e1:H9 .i64 y 1900=y -1900:=U1 O5;have e2:Z4 .i64 (y -1900) 365=(y -1900)*365:=mM O5;rw[U1 (a:=y) (b:=1) O5,JE l9 l9,o8,JE l9 l9,o8,e1,e2,U9 O5,U1 O5];unfold ys;congr 1
def mo(y:Int):Nat->Int->Int×Int
 |0,d=>(d,13)|n+1,d=>if d<dim y (12 -n)then(d,12 -n)else mo y n (d -dim y (12 -n))
theorem a9w(y:Int)(n:Nat)(d:Int):mo y (n+1) d=if d<dim y (12 -(n:Int))then(d,12 -(n:Int))else mo y n (d -dim y (12 -(n:Int))):=rfl
def rem(y:Int):Nat->Int
 |0=>0|n+1=>dim y (12 -n)+rem y n
theorem b4N(y:Int):rem y 12=diy y:=by unfold diy;cases h:il y<;>simp[rem,dim,h]
theorem b3w(y:Int):∀(n:Nat) (d:Int),n<=12->0<=d->d<rem y n->1<=(mo y n d).2/\(mo y n d).2<=12/\0<=(mo y n d).1/\(mo y n d).1<dim y (mo y n d).2
 |0,d,_,h0,h=>by simp[rem]at h;omega|n+1,d,hn,h0,h=>by
  unfold mo;by_cases hd:d<dim y (12 -n)
  .rw[if_pos hd];refine⟨?_,?_,h0,hd⟩<;>simp<;>omega
  .rw[if_neg hd];refine b3w y n _ l9 l9 ?_;simp only[rem]at h;omega
def yOf(d:Int):Int:=((((List.range 300).find? (λ(k:Nat)=>decide (d<ys (1900+(k:Int)+1)))).getD 0:Nat):Int)+1900
variable {d:Int}
theorem Vj(h0:0<=d)(h:d<=109572):1900<=yOf d/\yOf d<=2199/\ys (yOf d)<=d/\d<ys (yOf d+1):=by
 unfold yOf;cases hf:(List.range 300).find? (λ(k:Nat)=>decide (d<ys (1900+(k:Int)+1)))with
 |none=>
  have:=List.find?_eq_none.1 hf 299 A7;simp only[decide_eq_true_eq]at this;have e:ys (1900+(299:Nat)+1)=109573:=by decide+kernel
  omega
 |some k=>
  have h1:=List.find?_some hf;simp only[decide_eq_true_eq]at h1;have h2:=List.mem_of_find?_eq_some hf;simp only[bT]at h2;simp only[dG];refine⟨l9,l9,?_,?_⟩
  .cases k with
   |zero=>
    have e:ys 1900=0:=by decide+kernel
    simp[e,h0]
   |succ j=>have h3:=List.find?_range_eq_some.1 hf;have h4:=h3.2.2 j l9;simp only[dP,decide_eq_false_iff_not,jg]at h4;have e:(((j+1:Nat):Int)+1900)=1900+(j:Int)+1:=l9;rw[e];exact h4
  .have e:(k:Int)+1900+1=1900+k+1:=l9;rw[e];exact h1
def pK(d:Int):Int×Int×Int:=let y:=yOf d;let r:=mo y 12 (d -ys y);(y,r.2,r.1+1)
theorem Fp(h0:0<=d)(h:d<=109572):wY d=some (pK d):=by
 obtain⟨y1,y2,y3,y4⟩:=Vj h0 h;have y0:=Rf y1;unfold wY wZ;rw[Ha (Y6 h0),o8,Y6 h,D9,o6];have e0:x9 .i64 1900 (eH .i64 d 366)=1900+d / 366:=by
  have e:eH .i64 d 366=d / 366:=by rw[Dz (by rw[kF h0];unfold jw;omega),kF h0]
  rw[e,U9 O5]
 rw[e0];obtain⟨y,hy,hq⟩:=iy (f:=λ(x:Int)=>o5 (rJ (x9 IntKind.i64 x 1)) λ(x_1:Int)=>l7 (J6 x_1 d) (some (Sum.inl (x9 IntKind.i64 x 1))) (some (Sum.inr x))) (s:=1900+d / 366)
  (λy=>1900<=y/\y<=yOf d) (λy=>y=yOf d) (λy=>(2200 -y).toNat) (by
   refine⟨l9,?_⟩;have e:∀n:Nat,ys (1900+n)<=366*n:=by
    intro n;induction n with
    |zero=>decide+kernel|succ n ih=>have:=KD (1900+n);have:=VB (1900+n);have e:(1900:Int)+((n+1:Nat):Int)=1900+n+1:=l9;rw[e];omega
   have e1:=e (d / 366).toNat
   have e2:((d / 366).toNat:Int)=d / 366:=l9;rw[e2]at e1;rcases Ri (yOf d) (1900+d / 366)with hlt|hge
   .have:=uF (y:=yOf d+1) (y' :=1900+d / 366) l9;omega
   .exact hge) l9 (by
   intro y ⟨hy1,hy2⟩
   try simp only
   rw[U9 O5,Dl l9 l9,o8];by_cases hle:ys (y+1)<=d
   .refine .inl ⟨y+1,by rw[Ha (Y6 hle)],⟨l9,?_⟩,l9⟩;rcases Ri (yOf d) (y+1)with hlt|hge
    .have:=uF (y:=yOf d+1) (y' :=y+1) l9;omega
    .exact hge
   .refine .inr ⟨y,by rw[MI (Z5 l9)],?_⟩;rcases Ri y (yOf d)with hlt|hge
    .have:=uF (y:=y+1) (y' :=yOf d) l9;omega
    .omega)
 rw[hy,o8,hq,Dl l9 l9,o8,U1 O5];have hs:=KD (yOf d);have hr:=b4N (yOf d);rcases xq (f:=λ(x:Int×Int)=>l7 (D8 x.2 12) (o5 (jW (yOf d) (x9 IntKind.i64 x.2 1)) λ(x_1:Int)=>l7 (D8 x.1 x_1) (some (Out.rt (yOf d,x9 IntKind.i64 x.2 1,x9 IntKind.i64 x.1 1))) (some (Out.nx (H9 IntKind.i64 x.1 x_1,x9 IntKind.i64 x.2 1)))) (some (Out.ex PUnit.unit))) (s:=(d -ys (yOf d),0))
  (λs=>∃n:Nat,n<=12/\s.2=12 -n/\mo (yOf d) n s.1=mo (yOf d) 12 (d -ys (yOf d))/\0<=s.1/\s.1<rem (yOf d) n/\s.1<=400) (λ_=>False) (λr=>r=pK d) (λs=>(12 -s.2).toNat)
  ⟨12,l9,A7,rfl,l9,by rw[hr];show d -ys (yOf d)<_;omega,by have:=VB (yOf d);show d -ys (yOf d)<=400;omega⟩ A7 (by
   rintro⟨r,i⟩ ⟨n,hn,hi,hm,hr0,hrn,hr4⟩;simp only at hi hm hr0 hrn hr4 ⊢;cases n with
   |zero=>simp[rem]at hrn;omega|succ n=>
    have ei:i+1=12 -n:=l9;rw[Ha (U7 l9),U9 O5,ei,vk l9 l9,o8];have hb:=EJ (yOf d) (12 -n);rw[a9w (yOf d) n r]at hm;by_cases hlt:r<dim (yOf d) (12 -n)
    .rw[if_pos hlt]at hm;refine .inr (.inr ⟨_,by rw[Ha (U7 hlt)],?_⟩);rw[U9 O5];unfold pK
     try simp only
     rw[←hm]
    .rw[if_neg hlt]at hm;refine .inl ⟨_,by rw[MI (L8 l9),U1 O5],⟨n,l9,A7,hm,?_,?_,?_⟩,?_⟩
     .simp;omega
     .simp only[rem]at hrn ⊢;omega
     .simp;omega
     .simp;omega)with⟨_,_,hf⟩|⟨r,he,hr⟩
 .exact hf.elim
 .rw[he,o8,wP,hr]
theorem PL(h0:0<=d)(h:d<=109572):CY d=some (pK d):=by
 obtain⟨y1,y2,y3,y4⟩:=Vj h0 h;have y0:=Rf y1;unfold CY wU;rw[Ha (Y6 h0),o8,Y6 h,D9,o6];obtain⟨⟨r,y⟩,hy,hq⟩:=iy (f:=λ(x:Int×Int)=>o5 (kw x.2) λ(x_1:Int)=>l7 (J6 x_1 x.1) (o5 (kw x.2) λ(x_2:Int)=>some (Sum.inl (H9 IntKind.i64 x.1 x_2,x9 IntKind.i64 x.2 1))) (some (Sum.inr x))) (s:=(d,1900))
  (λs=>1900<=s.2/\s.2<=yOf d/\s.1=d -ys s.2) (λs=>s=(d -ys (yOf d),yOf d)) (λs=>(2200 -s.2).toNat)
  ⟨A7,by simpa using y1,by(have e:ys 1900=0:=by decide+kernel);simp[e]⟩ A7 (by
   rintro⟨r,y⟩ ⟨h1,h2,h3⟩;simp only at h1 h2 h3 ⊢;have hb:=VB y;have hs:=KD y;have hm:=uF h2;have hpos:0<=ys y:=by
     have:=uF (y:=1900) (y' :=y) h1;have e:ys 1900=0:=by decide+kernel
     omega
   rw[GZ l9,o8];by_cases hle:diy y<=r
   .refine .inl ⟨(r -diy y,y+1),?_,⟨by simp;omega,?_,?_⟩,?_⟩
    .rw[Ha (Y6 hle),o8,U1 O5,U9 O5]
    .simp only;rcases Ri (yOf d) (y+1)with hlt|hge
     .have:=uF (y:=yOf d+1) (y' :=y+1) l9;omega
     .exact hge
    .simp only;omega
    .simp;omega
   .refine .inr ⟨_,by rw[MI (Z5 l9)],?_⟩;have e:y=yOf d:=b2d (d:=d) l9 l9 y3 y4;subst e;rw[h3])
 rw[hy,o8,hq]
 try simp only
 have hs:=KD (yOf d);have hr:=b4N (yOf d);obtain⟨⟨r,m⟩,he,hq2⟩:=iy (f:=λ(x:Int×Int)=>o5 (gY (yOf d) x.2) λ(x_1:Int)=>l7 (J6 x_1 x.1) (o5 (gY (yOf d) x.2) λ(x_2:Int)=>some (Sum.inl (H9 IntKind.i64 x.1 x_2,x9 IntKind.i64 x.2 1))) (some (Sum.inr x))) (s:=(d -ys (yOf d),1))
  (λs=>∃n:Nat,n<=12/\s.2=13 -n/\mo (yOf d) n s.1=mo (yOf d) 12 (d -ys (yOf d))/\0<=s.1/\s.1<rem (yOf d) n/\s.1<=400) (λs=>s=mo (yOf d) 12 (d -ys (yOf d))) (λs=>(13 -s.2).toNat)
  ⟨12,l9,A7,rfl,l9,by rw[hr];show d -ys (yOf d)<_;omega,by have:=VB (yOf d);show d -ys (yOf d)<=400;omega⟩ A7 (by
   rintro⟨r,i⟩ ⟨n,hn,hi,hm,hr0,hrn,hr4⟩;simp only at hi hm hr0 hrn hr4 ⊢;cases n with
   |zero=>simp[rem]at hrn;omega|succ n=>
    have ei:i=12 -n:=l9;subst ei;rw[uu l9 l9,o8];have hb:=EJ (yOf d) (12 -n);rw[a9w (yOf d) n r]at hm;by_cases hlt:r<dim (yOf d) (12 -n)
    .rw[if_pos hlt]at hm;exact .inr ⟨_,by rw[MI (Z5 l9)],hm⟩
    .rw[if_neg hlt]at hm;refine .inl ⟨(r -dim (yOf d) (12 -n),12 -n+1),by rw[Ha (Y6 l9),o8,U1 O5,U9 O5],⟨n,l9,by simp;omega,hm,?_,?_,?_⟩,?_⟩
     .simp;omega
     .simp only[rem]at hrn ⊢;omega
     .simp;omega
     .simp;omega)
 rw[he,o8,hq2];have hb:=b3w (yOf d) 12 (d -ys (yOf d)) l9 l9 (by rw[hr];omega);have hb2:=EJ (yOf d) (mo (yOf d) 12 (d -ys (yOf d))).2;rw[U9 O5];rfl
theorem Ql(h0:0<=d)(h:d<=109572):1900<=(pK d).1/\(pK d).1<=2199/\1<=(pK d).2.1/\(pK d).2.1<=12/\1<=(pK d).2.2/\(pK d).2.2<=31:=by
 obtain⟨y1,y2,y3,y4⟩:=Vj h0 h;have y0:=Rf y1;have hs:=KD (yOf d);have hb:=b3w (yOf d) 12 (d -ys (yOf d)) l9 l9 (by rw[b4N];omega);have hb2:=EJ (yOf d) (mo (yOf d) 12 (d -ys (yOf d))).2;unfold pK
 try simp only
 omega
end Gt
namespace Go.GP
open Gt
set_option maxRecDepth 100000
def xu(y:Int):Nat->Int
 |0=>0|k+1=>xu y k+dim y ((k:Int)+1)
def a3Z(y m d:Int):Int:=ys y+xu y (m -1).toNat+d -1
theorem Us(y:Int):∀k:Nat,k<=12->28*k<=xu y k/\xu y k<=31*k
 |0,_=>by simp[xu]|k+1,h=>by have:=Us y k l9;have:=EJ y ((k:Int)+1);unfold xu;omega
theorem b0S(y:Int):xu y 12=diy y:=by unfold xu xu xu xu xu xu xu xu xu xu xu xu xu dim diy;simp;cases il y<;>simp
theorem a9x(y:Int):∀j k:Nat,j<=k->xu y j<=xu y k
 |j,0,h=>by have:j=0:=l9;subst this;omega|j,k+1,h=>by
  by_cases hq:j=k+1
  .subst hq;omega
  .have:=a9x y j k l9;have:=EJ y ((k:Int)+1);show xu y j<=xu y k+dim y ((k:Int)+1);omega
variable {y:Int}{d:Int}{m:Int}
theorem b7H(hm:1<=m/\m<=12)(h1:1<=d)(h2:d<=dim y m):ys y<=a3Z y m d/\a3Z y m d<ys (y+1):=by
 have h3:=a9x y ((m -1).toNat+1) 12 l9;rw[b0S]at h3;have h4:xu y ((m -1).toNat+1)=xu y (m -1).toNat+dim y m:=by show xu y (m -1).toNat+dim y (((m -1).toNat:Int)+1)=_;rw[az l9];congr 2;omega
 have h5:=Us y (m -1).toNat l9;have h6:=KD y;unfold a3Z;omega
theorem b7t(h:1900<=y)(h2:y<=2200):0<=ys y/\ys y<=109573:=by
 have h1:=Rf h;have h3:=uF h2;have:ys 2200=109573:=by decide
 omega
theorem a6M(hy:1900<=y/\y<=2199)(hm:1<=m/\m<=12)(h1:1<=d)(h2:d<=dim y m):Hf y m d=some (a3Z y m d,0):=by
 have hyb:=b7t hy.1 l9;have hdb:=EJ y m;unfold Hf;rw[L8 hy.1,o6,L8 hy.2,o6,L8 hm.1,o6,L8 hm.2,o6,L8 h1,o6,vk l9 hm,o8,L8 h2,o6,o8,J7,Dl l9 l9,o8];have hs:H9 .i64 m 1=m -1:=U1 O5;obtain⟨e,k1,k2⟩:=iy (f:=λ(x:Int×Int)=>l7 (D8 x.2 (H9 .i64 m 1)) (o5 (jW y (x9 .i64 x.2 1)) λ(x_1:Int)=>some (.inl (x9 .i64 x.1 x_1,x9 .i64 x.2 1))) (some (.inr x.1)))
  (s:=(ys y,0)) (λx=>∃i:Nat,x=(ys y+xu y i,(i:Int))/\(i:Int)<=m -1) (λe=>e=ys y+xu y (m -1).toNat) (λx=>(m -1 -x.2).toNat) ⟨0,by simp[xu],l9⟩ X5 (by
  rintro x ⟨i,rfl,hi⟩;simp only[hs];by_cases hlt:(i:Int)<m -1
  .have hb:=Us y i l9;have hd:=EJ y ((i:Int)+1);left;refine⟨(ys y+xu y (i+1),((i+1:Nat):Int)),?_,⟨i+1,rfl,l9⟩,by simp;omega⟩;rw[U7 hlt,o7,Y1 l9,show(((i+1:Nat):Int))=(i:Int)+1 by omega,vk l9 l9,o8,U9 O5];simp only[xu];rw[Int.add_assoc]
  .right;have:i=(m -1).toNat:=l9;subst this;exact⟨_,by rw[L8 l9];rfl,rfl⟩)
 refine(lq k1 _).trans ?_;have hb:=Us y (m -1).toNat l9;rw[k2,U9 O5,U1 O5];rfl
theorem a5h(hy:1900<=y/\y<=2199)(hm:1<=m/\m<=12)(h1:1<=d)(h2:d<=dim y m):xY y m d=some (a3Z y m d,0):=by
 have hyb:=b7t hy.1 l9;have hdb:=EJ y m;unfold xY;rw[L8 hy.1,o6,L8 hy.2,o6,L8 h1,o6,uu l9 hm,o8,L8 h2,o6,o8,J7,U1 O5];obtain⟨e,k1,k2⟩:=iy (f:=λ(x:Int×Int)=>l7 (D8 x.2 y) (o5 (kw x.2) λ(x_1:Int)=>some (.inl (x9 .i64 x.1 x_1,x9 .i64 x.2 1))) (some (.inr x.1)))
  (s:=(d -1,1900)) (λx=>∃i:Int,x=(d -1+ys i,i)/\1900<=i/\i<=y) (λe=>e=d -1+ys y) (λx=>(y -x.2).toNat) ⟨1900,by simp[show ys 1900=0 by decide],l9,l9⟩ X5 (by
  rintro x ⟨i,rfl,hi,hi2⟩;by_cases hlt:i<y
  .left;have hb:=b7t hi l9;have hd:=VB i;refine⟨(d -1+ys (i+1),i+1),?_,⟨i+1,rfl,l9,l9⟩,by simp;omega⟩;simp only;rw[U7 hlt,o7,GZ l9,o8,U9 O5,U9 O5,KD,Int.add_assoc]
  .right;have:i=y:=l9;subst this;exact⟨_,by simp only[L8 (show i<=i by omega)];rfl,rfl⟩)
 refine(lq k1 _).trans ?_;subst k2;obtain⟨e,k1,k2⟩:=iy (f:=λ(x:Int×Int)=>l7 (D8 x.2 m) (o5 (gY y x.2) λ(x_1:Int)=>some (.inl (x9 .i64 x.1 x_1,x9 .i64 x.2 1))) (some (.inr x.1)))
  (s:=(d -1+ys y,1)) (λx=>∃i:Nat,x=(d -1+ys y+xu y i,(i:Int)+1)/\(i:Int)<=m -1) (λe=>e=d -1+ys y+xu y (m -1).toNat) (λx=>(m -x.2).toNat) ⟨0,by simp[xu],l9⟩ X5 (by
  rintro x ⟨i,rfl,hi⟩;by_cases hlt:(i:Int)+1<m
  .have hb:=Us y i l9;have hd:=EJ y ((i:Int)+1);left;refine⟨(d -1+ys y+xu y (i+1),((i+1:Nat):Int)+1),?_,⟨i+1,rfl,l9⟩,by simp;omega⟩;simp only;rw[U7 hlt,o7,uu l9 l9,o8,U9 O5,U9 O5];simp only[xu];rw[Int.add_assoc (d -1+ys y)];simp
  .right;have:i=(m -1).toNat:=l9;subst this;exact⟨_,by simp only[L8 (show m<=((m -1).toNat:Int)+1 by omega)];rfl,rfl⟩)
 refine(lq k1 _).trans ?_;rw[k2];unfold a3Z;rw[show d -1+ys y+xu y (m -1).toNat=ys y+xu y (m -1).toNat+d -1 by omega]
def b0k(d n:Int):Int×Int:=
 if ¬(0<=d/\d<=109572)\/n< -3600\/3600<n then(0,3)else
  if((pK d).1 -1900)*12+(pK d).2.1 -1+n<0\/3599<((pK d).1 -1900)*12+(pK d).2.1 -1+n then(0,3)else
   (a3Z (1900+(((pK d).1 -1900)*12+(pK d).2.1 -1+n) / 12) ((((pK d).1 -1900)*12+(pK d).2.1 -1+n) % 12+1) (qj (pK d).2.2 (dim (1900+(((pK d).1 -1900)*12+(pK d).2.1 -1+n) / 12) ((((pK d).1 -1900)*12+(pK d).2.1 -1+n) % 12+1))),0)
theorem QA(a b:Int):qj a b=if b<a then b else a:=rfl
theorem TK(d n:Int):vN d n=some (b0k d n):=by
 unfold vN wZ b0k;by_cases h0:0<=d/\d<=109572
 case neg=>
  rw[if_pos (.inl h0)];by_cases h1:0<=d
  .rw[Y6 h1,Z5 l9];rfl
  .rw[Z5 l9];rfl
 rw[Y6 h0.1,Y6 h0.2,o7,o8,D9,o6];by_cases h1:n< -3600
 .rw[U7 h1,if_pos (.inr (.inl h1))];rfl
 by_cases h2:3600<n
 .rw[L8 l9,U7 h2,if_pos (.inr (.inr h2))];rfl
 rw[L8 l9,L8 l9,if_neg l9,o6,o6,o8,J7,Fp h0.1 h0.2,o8];obtain⟨b1,b2,b3,b4,b5,b6⟩:=Ql h0.1 h0.2;generalize pK d=q at*;obtain⟨y,m,dd⟩:=q;simp only at b1 b2 b3 b4 b5 b6 ⊢;have e1:H9 .i64 y 1900=y -1900:=U1 O5;have e2:Z4 .i64 (y -1900) 12=(y -1900)*12:=mM O5;have e3:x9 .i64 ((y -1900)*12) m=(y -1900)*12+m:=U9 O5;have e4:H9 .i64 ((y -1900)*12+m) 1=(y -1900)*12+m -1:=U1 O5;have e5:x9 .i64 ((y -1900)*12+m -1) n=(y -1900)*12+m -1+n:=U9 O5;rw[e1,e2,e3,e4,e5];generalize ht:(y -1900)*12+m -1+n=t;by_cases t0:t<0
 .rw[U7 t0,if_pos (.inl t0)];rfl
 by_cases t1:3599<t
 .rw[L8 l9,U7 t1,if_pos (.inr t1)];rfl
 rw[L8 l9,L8 l9,if_neg l9,o6,o6];have e6:eH .i64 t 12=t / 12:=by rw[Dz (by rw[kF l9];unfold jw;omega),kF l9]
 have e7:eU t 12=t % 12:=AV l9;have e8:x9 .i64 1900 (t / 12)=1900+t / 12:=U9 O5;have e9:x9 .i64 (t % 12) 1=t % 12+1:=U9 O5;rw[e6,e7,e8,e9,vk l9 l9,o8];have hd:=EJ (1900+t / 12) (t % 12+1);rw[a6M l9 l9 (by rw[QA];split<;>omega) (by rw[QA];split<;>omega)];rfl
theorem RS(d n:Int):nI d n=some (b0k d n):=by
 unfold nI wU b0k;by_cases h0:0<=d/\d<=109572
 case neg=>
  rw[if_pos (.inl h0)];by_cases h1:0<=d
  .rw[Y6 h1,Z5 l9];rfl
  .rw[Z5 l9];rfl
 rw[Y6 h0.1,Y6 h0.2,o7,o8,D9,o6];by_cases h1:n< -3600
 .rw[U7 h1,if_pos (.inr (.inl h1))];rfl
 by_cases h2:3600<n
 .rw[L8 l9,U7 h2,if_pos (.inr (.inr h2))];rfl
 rw[L8 l9,L8 l9,if_neg l9,o6,o6,o8,J7,PL h0.1 h0.2,o8];obtain⟨b1,b2,b3,b4,b5,b6⟩:=Ql h0.1 h0.2;generalize pK d=q at*;obtain⟨y,m,dd⟩:=q;simp only at b1 b2 b3 b4 b5 b6 ⊢;have e2:Z4 .i64 12 y=12*y:=mM O5;have e3:x9 .i64 (12*y) m=12*y+m:=U9 O5;have e4:H9 .i64 (12*y+m) 1=12*y+m -1:=U1 O5;have e5:x9 .i64 (12*y+m -1) n=12*y+m -1+n:=U9 O5;rw[e2,e3,e4,e5];generalize ht:(y -1900)*12+m -1+n=t;have hk:12*y+m -1+n=t+22800:=l9;rw[hk];have e6:eH .i64 (t+22800) 12=1900+t / 12:=by rw[Dz (by rw[kF l9];unfold jw;omega),kF l9];omega
 have e7:eU (t+22800) 12=t % 12:=by rw[AV l9];omega
 have e9:x9 .i64 (t % 12) 1=t % 12+1:=U9 O5;rw[e6,e7,e9,uu l9 l9,o8];have hd:=EJ (1900+t / 12) (t % 12+1);by_cases t0:t<0
 .rw[if_pos (.inl t0)];unfold xY;rw[U7 (show 1900+t / 12<1900 by omega)];rfl
 by_cases t1:3599<t
 .rw[if_pos (.inr t1)];unfold xY;rw[L8 (show 1900<=1900+t / 12 by omega),U7 (show 2199<1900+t / 12 by omega)];rfl
 rw[if_neg l9,a5h l9 l9 (by rw[QA];split<;>omega) (by rw[QA];split<;>omega)];rfl
def yrl(a k:Int):Int:=a3Z ((pK a).1+k) (pK a).2.1 (qj (pK a).2.2 (dim ((pK a).1+k) (pK a).2.1))
variable {a:Int}
theorem a0C(h0:0<=a/\a<=109572){k:Int}(hk:0<=k)(hk2:k<=300):b0k a (12*k)=if(pK a).1+k<=2199 then(yrl a k,0)else(0,3):=by
 obtain⟨b1,b2,b3,b4,b5,b6⟩:=Ql h0.1 h0.2;unfold b0k yrl;rw[if_neg l9];generalize pK a=q at*;obtain⟨y,m,dd⟩:=q;simp only at b1 b2 b3 b4 b5 b6 ⊢;have e1:1900+((y -1900)*12+m -1+12*k) / 12=y+k:=l9;have e2:((y -1900)*12+m -1+12*k) % 12+1=m:=l9;by_cases h:y+k<=2199
 .rw[if_neg l9,if_pos h,e1,e2]
 .rw[if_pos l9,if_neg h]
theorem b7s(h0:0<=a/\a<=109572)(k:Int):ys ((pK a).1+k)<=yrl a k/\yrl a k<ys ((pK a).1+k+1):=by obtain⟨b1,b2,b3,b4,b5,b6⟩:=Ql h0.1 h0.2;have hd:=EJ ((pK a).1+k) (pK a).2.1;unfold yrl;exact b7H ⟨b3,b4⟩ (by rw[QA];split<;>omega) (by rw[QA];split<;>omega)
theorem Vk(h0:0<=a/\a<=109572):ys (pK a).1<=a/\a<ys ((pK a).1+1):=by have:=Vj h0.1 h0.2;exact⟨this.2.2.1,this.2.2.2⟩
def a3y(a b:Int):Int:=if 0<=a/\a<=109572/\0<=b/\b<=109572/\a<=b then
  (if(pK b).1 -(pK a).1<=0 then 0 else if yrl a ((pK b).1 -(pK a).1)<=b then(pK b).1 -(pK a).1 else(pK b).1 -(pK a).1 -1)else 0
theorem Ya(a b:Int):pM a b=some (a3y a b):=by
 unfold pM wZ a3y;by_cases ha0:0<=a
 case neg=>rw[Z5 l9,if_neg l9];rfl
 by_cases ha1:a<=109572
 case neg=>rw[Y6 ha0,Z5 l9,if_neg l9];rfl
 rw[Y6 ha0,Y6 ha1,o7,o8,D9,o6];by_cases hb0:0<=b
 case neg=>rw[Z5 l9,if_neg l9];rfl
 by_cases hb1:b<=109572
 case neg=>rw[Y6 hb0,Z5 l9,if_neg l9];rfl
 rw[Y6 hb0,Y6 hb1,o7,o8,D9,o6];by_cases hab:a<=b
 case neg=>rw[U7 l9,if_neg l9];rfl
 rw[L8 hab,o6,if_pos ⟨ha0,ha1,hb0,hb1,hab⟩,Fp ha0 ha1,o8,Fp hb0 hb1,o8];obtain⟨p1,p2,_,_,_,_⟩:=Ql ha0 ha1;obtain⟨q1,q2,_,_,_,_⟩:=Ql hb0 hb1;have ya:=Vk ⟨ha0,ha1⟩;have yb:=Vk ⟨hb0,hb1⟩;have hK:0<=(pK b).1 -(pK a).1:=by
  rcases Ri (pK b).1 (pK a).1 with h|h
  .have:=uF (show(pK b).1+1<=(pK a).1 by omega);omega
  .omega
 rw[U1 (show jw ((pK b).1 -(pK a).1) by unfold jw;omega)];have hle:(pK a).1+((pK b).1 -(pK a).1)<=2199:=l9;generalize (pK b).1 -(pK a).1=K at*;rw[mM (show jw (12*K) by unfold jw;omega),TK,o8,a0C ⟨ha0,ha1⟩ hK l9,if_pos hle];simp only[O0 (rfl:(0:Int)=0),D9,o6];rw[U1 (show jw (K -1) by unfold jw;omega)];have im:∀x:Int,nT x 0=if x<0 then 0 else x:=λx=>rfl;by_cases hz:K<=0
 .have:K=0:=l9;subst this;rw[if_pos l9];cases D8 b (yrl a 0)<;>rfl
 .rw[if_neg hz];by_cases hq:yrl a K<=b
  .rw[if_pos hq,L8 hq,o6,im,if_neg l9]
  .rw[if_neg hq,U7 l9,o7,im,if_neg l9]
theorem VW(a b:Int):rY a b=some (a3y a b):=by
 unfold rY wU a3y;by_cases ha0:0<=a
 case neg=>rw[Z5 l9,if_neg l9];rfl
 by_cases ha1:a<=109572
 case neg=>rw[Y6 ha0,Z5 l9,if_neg l9];rfl
 rw[Y6 ha0,Y6 ha1,o7,o8,D9,o6];by_cases hb0:0<=b
 case neg=>rw[Z5 l9,if_neg l9];rfl
 by_cases hb1:b<=109572
 case neg=>rw[Y6 hb0,Z5 l9,if_neg l9];rfl
 rw[Y6 hb0,Y6 hb1,o7,o8,D9,o6];obtain⟨p1,p2,_,_,_,_⟩:=Ql ha0 ha1;obtain⟨q1,q2,_,_,_,_⟩:=Ql hb0 hb1;have ya:=Vk ⟨ha0,ha1⟩;have yb:=Vk ⟨hb0,hb1⟩;have key:=xq (f:=λ(x:Int)=>o5 (nI a (Z4 .i64 12 (x9 .i64 x 1))) λ(x_1:Int×Int)=>l7 (D6 (x8 x_1.2 0)) (some (.rt x)) (l7 (D8 b x_1.1) (some (.rt x)) (some (.nx (x9 .i64 x 1)))))
  (s:=0) (λx=>0<=x/\(x=0\/(x<=(pK b).1 -(pK a).1/\yrl a x<=b))) (λ(_:PUnit)=>False) (λr=>r=(if a<=b then(if(pK b).1 -(pK a).1<=0 then 0 else if yrl a ((pK b).1 -(pK a).1)<=b then(pK b).1 -(pK a).1 else(pK b).1 -(pK a).1 -1)else 0)) (λx=>(300 -x).toNat) ⟨l9,.inl rfl⟩ A7 (by
  rintro x ⟨hx0,hx⟩;have hx300:x<=299:=l9;rw[U9 (show jw (x+1) by unfold jw;omega),mM (show jw (12*(x+1)) by unfold jw;omega),RS,o8,a0C ⟨ha0,ha1⟩ l9 l9];have hyb:=b7s ⟨ha0,ha1⟩ (x+1);have hyx:=b7s ⟨ha0,ha1⟩ x;have hmono:ys ((pK a).1+x+1)<=ys ((pK a).1+(x+1)):=uF l9;have hax:a<yrl a (x+1):=by have:=uF (show(pK a).1+1<=(pK a).1+(x+1) by omega);omega
  by_cases hq:(pK a).1+(x+1)<=2199/\yrl a (x+1)<=b
  .left;obtain⟨hq1,hq2⟩:=hq;have hK:x+1<=(pK b).1 -(pK a).1:=by
    rcases Ri (pK b).1 ((pK a).1+(x+1))with h|h
    .have:=uF (show(pK b).1+1<=(pK a).1+(x+1) by omega);omega
    .omega
   refine⟨x+1,?_,⟨l9,.inr ⟨hK,hq2⟩⟩,l9⟩;rw[if_pos hq1];simp only[O0 (rfl:(0:Int)=0),D9,o6,L8 hq2]
  .right;right;refine⟨x,?_,?_⟩
   .by_cases hq1:(pK a).1+(x+1)<=2199
    .rw[if_pos hq1];simp only[O0 (rfl:(0:Int)=0),D9,o6,U7 (show b<yrl a (x+1) by omega),o7]
    .rw[if_neg hq1];rfl
   .by_cases hab:a<=b
    case neg=>
     rw[if_neg hab];by_cases hx1:x=0
     .exact hx1
     .exfalso;have:=uF (show(pK a).1+1<=(pK a).1+x by omega);omega
    rw[if_pos hab];have hK:0<=(pK b).1 -(pK a).1:=by
     rcases Ri (pK b).1 (pK a).1 with h|h
     .have:=uF (show(pK b).1+1<=(pK a).1 by omega);omega
     .omega
    have hxK:x<=(pK b).1 -(pK a).1:=l9;by_cases hxe:x=(pK b).1 -(pK a).1
    .by_cases hz:(pK b).1 -(pK a).1<=0
     .rw[if_pos hz];omega
     .rw[if_neg hz];rcases hx with hx|hx
      .omega
      .rw[←hxe,if_pos hx.2]
    .have hlt:x+1<=(pK b).1 -(pK a).1:=l9;rw[if_neg l9];have hyr:(pK a).1+(x+1)<=2199:=l9;have hgt:b<yrl a (x+1):=by
      have:=λh=>hq ⟨hyr,h⟩;omega
     have heq:x+1=(pK b).1 -(pK a).1:=by
      rcases Ri (x+1) ((pK b).1 -(pK a).1)with h|h
      .have:=uF (show(pK a).1+(x+1)+1<=(pK b).1 by omega);omega
      .omega
     rw[←heq,if_neg l9];omega)
 rcases key with⟨e,_,h⟩|⟨r,k1,k2⟩
 .exact h.elim
 .refine(lq k1 _).trans ?_;rw[k2];by_cases hab:a<=b
  .rw[if_pos hab,if_pos (show 0<=a/\a<=109572/\0<=b/\b<=109572/\a<=b from⟨ha0,ha1,hb0,hb1,hab⟩)];rfl
  .rw[if_neg hab,if_neg l9];rfl
def a9l:d5X:=(List.range 256).map λn=>UInt8.ofNat (if n=0 then 0 else Nat.log2 n+1)
theorem b3n:∀n:Fin 256,∃k:Fin 9,a9l[n.val]? =some (UInt8.ofNat k.val)/\n.val<2^k.val/\(0<n.val->0<k.val/\2^(k.val -1)<=n.val):=by decide+kernel
def b0g(n:Int)(k:Nat):Prop:=n<2^k/\(0<n->0<k/\2^(k -1)<=n)
variable {n:Int}
theorem b9j(h0:0<=n)(h:n<256):wrap .u8 n=n:=by unfold wrap IntKind.wrap;simp[IntKind.signed,IntKind.bits];omega
theorem b7O(h0:0<=n)(h:n<256):∃k:Nat,k<=8/\sat a9l (wrap .u8 n)=some (k:Int)/\b0g n k:=by
 rw[b9j h0 h];obtain⟨k,k1,k2,k3⟩:=b3n ⟨n.toNat,l9⟩;refine⟨k.val,l9,?_,?_,λhp=>?_⟩
 .unfold sat
  rw[if_pos h0];simp only at k1;rw[k1];simp;have:=k.isLt;omega
 .simp only at k2;have:((n.toNat:Nat):Int)<((2^k.val:Nat):Int):=l9;rw[az h0,uk]at this;exact this
 .simp only at k3;obtain⟨a,b⟩:=k3 l9;refine⟨a,?_⟩;have:((2^(k.val -1):Nat):Int)<=((n.toNat:Nat):Int):=l9;rw[az h0,uk]at this;exact this
theorem Uh{k:Nat}(hk:k<=64):uP .u64 n (k:Int)=n / 2^k:=by unfold uP;rw[U3,show IntKind.bits .u64=64 from rfl,show min k 64=k by omega];exact Int.fdiv_eq_ediv_of_nonneg _ (Int.pow_nonneg l9)
theorem b0g.shift{j k:Nat}(h:b0g (n / 2^j) k)(hn:2^j<=n):b0g n (j+k):=by
 have hp:(0:Int)<2^j:=Int.pow_pos l9;have h1:0<n / 2^j:=by have:=rP hp (show 1*2^j<=n by omega);omega
 obtain⟨a,b⟩:=h;obtain⟨b1,b2⟩:=b h1;have hdm:=Int.mul_ediv_add_emod n (2^j);have hm:=L9 n hp;have hm0:=P8 n (show(2:Int)^j≠0 by omega);refine⟨?_,λ_=>⟨l9,?_⟩⟩
 .have:(2:Int)^j*(n / 2^j+1)<=2^j*2^k:=Int.mul_le_mul_of_nonneg_left l9 l9;rw[Int.mul_add,Int.mul_one]at this;rw[Int.pow_add];omega
 .have:(2:Int)^j*2^(k -1)<=2^j*(n / 2^j):=Int.mul_le_mul_of_nonneg_left b2 l9;rw[show j+k -1=j+(k -1) by omega,Int.pow_add];omega
theorem b3m:(NQ:d5X)=a9l:=by decide+kernel
theorem oN(h0:0<=n)(h:n<=1000):wrap .i64 n=n:=ny O5
theorem NY{a b:Int}(h0:0<=a)(h1:a<=1000)(h2:0<=b)(h3:b<=1000):x9 .i64 a b=a+b:=U9 O5
theorem b3l(h0:0<=n)(h:n<18446744073709551616):∃k:Nat,k<=64/\BI n=some (k:Int)/\b0g n k:=by
 have s32:∀m:Int,uP .u64 m 32=m / 2^32:=λm=>Uh (k:=32) l9;have s16:∀m:Int,uP .u64 m 16=m / 2^16:=λm=>Uh (k:=16) l9;have s8:∀m:Int,uP .u64 m 8=m / 2^8:=λm=>Uh (k:=8) l9;unfold BI;rw[b3m,s32,s16,s16,s8,s8,s8,s8];have ow:∀(m:Int) (a:Int) (K:Nat),0<=m->m<256->a=(K:Int)->K<=56->∀(g:Int->Int),(∀x,0<=x->x<=8->g x=a+x)->∃k:Nat,k<=8/\(o5 (sat a9l (wrap .u8 m)) λ(x:Int)=>some (g x))=some (((K+k:Nat):Int))/\b0g m k:=by intro m a K m0 m1 ha hK g hg;obtain⟨k,k1,k2,k3⟩:=b7O m0 m1;refine⟨k,k1,?_,k3⟩;rw[k2,o8,hg _ l9 l9,ha];simp
 by_cases c32:4294967296<=n
 .rw[Y6 c32,o7];by_cases c16:65536<=n / 2^32
  .rw[Y6 c16,o7];by_cases c8:256<=n / 2^32 / 2^16
   .rw[Y6 c8,o7];obtain⟨k,k1,k2,k3⟩:=ow (n / 2^32 / 2^16 / 2^8) 56 56 l9 l9 rfl l9 (λx=>x9 .i64 (x9 .i64 (x9 .i64 32 16) 8) (wrap .i64 x)) (λx x0 x1=>by
     rw[oN x0 l9,show x9 .i64 (x9 .i64 32 16) 8=56 by decide,NY l9 l9 l9 l9])
    exact⟨56+k,l9,k2,by have:=((k3.shift (j:=8) l9).shift (j:=16) l9).shift (j:=32) l9;rw[show 32+(16+(8+k))=56+k by omega]at this;exact this⟩
   .rw[Z5 l9,o6];obtain⟨k,k1,k2,k3⟩:=ow (n / 2^32 / 2^16) 48 48 l9 l9 rfl l9 (λx=>x9 .i64 (x9 .i64 32 16) (wrap .i64 x)) (λx x0 x1=>by
     rw[oN x0 l9,NY (a:=32) l9 l9 l9 l9,NY l9 l9 l9 l9];rfl)
    exact⟨48+k,l9,k2,by have:=(k3.shift (j:=16) l9).shift (j:=32) l9;rw[show 32+(16+k)=48+k by omega]at this;exact this⟩
  .rw[Z5 l9,o6];by_cases c8:256<=n / 2^32
   .rw[Y6 c8,o7];obtain⟨k,k1,k2,k3⟩:=ow (n / 2^32 / 2^8) 40 40 l9 l9 rfl l9 (λx=>x9 .i64 (x9 .i64 32 8) (wrap .i64 x)) (λx x0 x1=>by
     rw[oN x0 l9,NY (a:=32) l9 l9 l9 l9,NY l9 l9 l9 l9];rfl)
    exact⟨40+k,l9,k2,by have:=(k3.shift (j:=8) l9).shift (j:=32) l9;rw[show 32+(8+k)=40+k by omega]at this;exact this⟩
   .rw[Z5 l9,o6];obtain⟨k,k1,k2,k3⟩:=ow (n / 2^32) 32 32 l9 l9 rfl l9 (λx=>x9 .i64 32 (wrap .i64 x)) (λx x0 x1=>by
     rw[oN x0 l9,NY l9 l9 l9 l9])
    exact⟨32+k,l9,k2,k3.shift (j:=32) l9⟩
 .rw[Z5 l9,o6];by_cases c16:65536<=n
  .rw[Y6 c16,o7];by_cases c8:256<=n / 2^16
   .rw[Y6 c8,o7];obtain⟨k,k1,k2,k3⟩:=ow (n / 2^16 / 2^8) 24 24 l9 l9 rfl l9 (λx=>x9 .i64 (x9 .i64 (x9 .i64 0 16) 8) (wrap .i64 x)) (λx x0 x1=>by
     rw[oN x0 l9,show x9 .i64 (x9 .i64 0 16) 8=24 by decide,NY l9 l9 l9 l9])
    exact⟨24+k,l9,k2,by have:=(k3.shift (j:=8) l9).shift (j:=16) l9;rw[show 16+(8+k)=24+k by omega]at this;exact this⟩
   .rw[Z5 l9,o6];obtain⟨k,k1,k2,k3⟩:=ow (n / 2^16) 16 16 l9 l9 rfl l9 (λx=>x9 .i64 (x9 .i64 0 16) (wrap .i64 x)) (λx x0 x1=>by
     rw[oN x0 l9,NY (a:=0) l9 l9 l9 l9,NY l9 l9 l9 l9];rfl)
    exact⟨16+k,l9,k2,k3.shift (j:=16) l9⟩
  .rw[Z5 l9,o6];by_cases c8:256<=n
   .rw[Y6 c8,o7];obtain⟨k,k1,k2,k3⟩:=ow (n / 2^8) 8 8 l9 l9 rfl l9 (λx=>x9 .i64 (x9 .i64 0 8) (wrap .i64 x)) (λx x0 x1=>by
     rw[oN x0 l9,NY (a:=0) l9 l9 l9 l9,NY l9 l9 l9 l9];rfl)
    exact⟨8+k,l9,k2,k3.shift (j:=8) l9⟩
   .rw[Z5 l9,o6];obtain⟨k,k1,k2,k3⟩:=ow n 0 0 l9 l9 rfl l9 (λx=>x9 .i64 0 (wrap .i64 x)) (λx x0 x1=>by
     rw[oN x0 l9,NY l9 l9 l9 l9])
    exact⟨0+k,l9,k2,by rw[bP];exact k3⟩
theorem GN(h0:0<=n)(h:n<18446744073709551616):IntKind.wrap .u64 n=n:=b7r (by unfold U64;omega)
theorem Bq(n:Int):IntKind.wrap .u64 n=n % 18446744073709551616:=by unfold IntKind.wrap;simp[IntKind.signed,IntKind.bits]
def a7g{σ ε:Type}(f:σ->Option (σ⊕ε))(m:Nat)(o:Option (σ⊕ε)):Option ε:=match o with
 |some (.inl s')=>uS f m s'|some (.inr e)=>some e|none=>none
theorem b0O{σ ε:Type}(f:σ->Option (σ⊕ε))(m:Nat)(s:σ):uS f (m+1) s=a7g f m (f s):=by
 rw[uS];unfold a7g;cases f s with
 |none=>rfl|some o=>cases o<;>rfl
variable {σ:Type}
theorem YX(mkp:Int->Int->σ){f:σ->Option (σ⊕Int)}{y1 y0 U d:Int}(hy1:2147483648<=y1)(hy1' :y1<4294967296)(hy0:0<=y0)(hy0' :y0<4294967296)(hU:0<=U)(hUY:U<y1*4294967296+y0)(hd:0<=d)(hd' :d<4294967296)
  (hf:∀q r,0<=q->q<=4294967297->0<=r->r<4294967296->f (mkp q r)=l7 (J6 4294967296 q) (l7 (J6 4294967296 (x9 .u64 r y1)) (some (.inr (H9 .u64 q 1))) (some (.inl (mkp (H9 .u64 q 1) (x9 .u64 r y1)))))
   (l7 (D8 (x9 .u64 (Z4 .u64 4294967296 r) d) (Z4 .u64 q y0)) (l7 (J6 4294967296 (x9 .u64 r y1)) (some (.inr (H9 .u64 q 1))) (some (.inl (mkp (H9 .u64 q 1) (x9 .u64 r y1))))) (some (.inr q)))):
  ∃Q,Y8 f (mkp (U / y1) (U -U / y1*y1))=some Q/\0<=Q/\Q<4294967296/\Q*(y1*4294967296+y0)<=U*4294967296+d/\U*4294967296+d<(Q+1)*(y1*4294967296+y0):=by
 obtain⟨Y,hY⟩:∃Y,Y=y1*4294967296+y0:=⟨_,rfl⟩;have hYe:∀q:Int,q*Y=q*y1*4294967296+q*y0:=λq=>by rw[hY,Int.mul_add,←Int.mul_assoc]
 have hq0:0<=U / y1:=X3 hU l9;have hdm:=V7 U y1;have hm0:=P8 U (show y1≠0 by omega);have hm1:=L9 U (show 0<y1 by omega);have hqB:U / y1<=4294967297:=by
  rcases Ri 4294967297 (U / y1)with h|h
  .have:=O6 (show 4294967298<=U / y1 by omega) (show 0<=y1 by omega);omega
  .exact h
 obtain⟨n,hn⟩:∃n,n=(U / y1).toNat+1:=⟨_,rfl⟩;have key:∀(n:Nat) (q r:Int),0<=q->q<=4294967297->0<=r->r<4294967296->U=q*y1+r->U*4294967296+d<(q+1)*Y->q.toNat<n->∀m,n<=m->∃Q,uS f m (mkp q r)=some Q/\0<=Q/\Q<4294967296/\Q*Y<=U*4294967296+d/\U*4294967296+d<(Q+1)*Y:=by
  intro n;induction n with
  |zero=>intro q r _ _ _ _ _ _ h;omega|succ n ih=>
   intro q r q0 qB r0 rB hUq hlt hqn m hm;obtain⟨m,rfl⟩:∃m',m=m' +1:=⟨m -1,l9⟩;rw[b0O,hf q r q0 qB r0 rB];have e1:=hYe q;have e2:(q+1)*Y=q*Y+Y:=by rw[iL,fP]
   have hry:x9 .u64 r y1=r+y1:=GN l9 l9;have g0:0<=q*y0:=P9 q0 hy0;have less:U*4294967296+d<q*Y->1<=q/\H9 .u64 q 1=q -1/\U=(q -1)*y1+(r+y1)/\(q -1+1)*Y=q*Y/\(q -1)*Y=q*Y -Y/\(q -1)*y0=q*y0 -y0:=by
    intro hgt;have hq1:1<=q:=by
     rcases Ri q 1 with h|h
     .have:q=0:=l9;subst this;simp at hgt;omega
     .exact h
    refine⟨hq1,GN l9 l9,?_,?_,?_,?_⟩
    .rw[lW,fP];omega
    .rw[show q -1+1=q by omega]
    .rw[lW,fP]
    .rw[lW,fP]
   have dec:U*4294967296+d<q*Y->∃Q,a7g f m (l7 (J6 4294967296 (r+y1)) (some (Sum.inr (H9 .u64 q 1))) (some (Sum.inl (mkp (H9 .u64 q 1) (r+y1)))))=some Q/\0<=Q/\Q<4294967296/\Q*Y<=U*4294967296+d/\U*4294967296+d<(Q+1)*Y:=by
    intro hgt;obtain⟨l1,l2,l3,l4,l5,l6⟩:=less hgt;rw[l2];by_cases hr:4294967296<=r+y1
    .rw[Y6 hr];have h6:(q -1)*y0<=4294967296*y0:=O6 l9 hy0;have h7:=hYe (q -1);have hle:(q -1)*Y<=U*4294967296+d:=by rw[h7,l3];omega
     refine⟨q -1,rfl,l9,?_,hle,by rw[l4];exact hgt⟩;rcases Ri (q -1) 4294967296 with h|h
     .exact h
     .have:=O6 h (show 0<=Y by omega);omega
    .rw[Z5 l9];exact ih (q -1) (r+y1) l9 l9 l9 l9 l3 (by rw[l4];exact hgt) l9 m l9
   by_cases hqb:4294967296<=q
   .rw[Y6 hqb,o7,hry];have:=O6 hqb (show 0<=Y by omega);exact dec l9
   .rw[Z5 l9,o6,hry];have g1:q*y0<=4294967295*y0:=O6 l9 hy0;have m1:Z4 .u64 4294967296 r=4294967296*r:=GN l9 l9;have m2:x9 .u64 (4294967296*r) d=4294967296*r+d:=GN l9 l9;have m3:Z4 .u64 q y0=q*y0:=GN g0 l9;rw[m1,m2,m3];by_cases hc:4294967296*r+d<q*y0
    .rw[U7 hc,o7];exact dec (by rw[e1];omega)
    .rw[L8 l9,o6];exact⟨q,rfl,q0,l9,by rw[e1];omega,hlt⟩
 rw[←hY];refine key n (U / y1) (U -U / y1*y1) hq0 hqB l9 l9 l9 ?_ l9 kH (by unfold kH;omega);have e1:=hYe (U / y1);rw[iL,fP,e1];have:=P9 hq0 hy0;omega
end Go.GP
