import Derived.Test.YtojgelgdjaaopaaGreatDoorT5
import Derived.Test.YtojgelgdjaaopaaGreatDoorT1
import Derived.Test.YtojgelgdjaaopaaGreatDoorT3
import Derived.Lib.ItoaLen
set_option linter.all false
namespace Go.GP
variable {a:Int}{b:Int}{n:Int}
section
variable {α β σ ε ρ:Type}
@[simp] theorem o8 (x:α) (f:α->Option β):l9 (some x) f=f x:=rfl
@[simp] theorem a6C (f:α->Option β):l9 none f=none:=rfl
theorem PG{o:Option α}{x:α}(h:o=some x)(f:α->Option β):l9 o f=f x:=by rw[h];rfl
theorem O6{o o' :Option α}(h:o=o'){K:α->Option β}{r:Option β}(h2:l9 o' K=r):l9 o K=r:=by rw[h];exact h2
theorem bb(a b:Bool):l7 a (some b) (some false)=some (a&&b):=by cases a<;>rfl
theorem ui(o:Option α):l9 o (λx=>some x)=o:=by cases o<;>rfl
@[simp] theorem o7 (x y:α):l7 true x y=x:=rfl
@[simp] theorem o6 (x y:α):l7 false x y=y:=rfl
theorem mJ(b:Bool)(x y:α):l7 b x y=if b=true then x else y:=by cases b<;>rfl
theorem kz{b:Bool}(h:b=true)(x y:α):l7 b x y=x:=by rw[h];rfl
theorem kR{b:Bool}(h:b=false)(x y:α):l7 b x y=y:=by rw[h];rfl
@[simp] theorem U1 (s:σ) (f:σ->α) (g:ε->α):Y0 (.inl s) f g=f s:=rfl
@[simp] theorem lJ (s:ε) (f:σ->α) (g:ε->α):Y0 (.inr s) f g=g s:=rfl
@[simp] theorem I7:G7 true=false:=rfl
@[simp] theorem Z7:G7 false=true:=rfl
theorem bg(h:a<b):H6 a b=true:=by simp[H6,h]
theorem au(h:b<=a):H6 a b=false:=by simp[H6];omega
theorem ah(h:a<=b):O9 a b=true:=by simp[O9,h]
theorem aU(h:b<a):O9 a b=false:=by simp[O9];omega
theorem Z9(h:a=b):C9 a b=true:=by simp[C9,h]
theorem N7(h:a≠b):C9 a b=false:=by simp[C9,h]
theorem su :H6 a b=true↔a<b:=by simp[H6]
theorem qc :O9 a b=true↔a<=b:=by simp[O9]
theorem nC :C9 a b=true↔a=b:=by simp[C9]
theorem tN :H6 a b=false↔b<=a:=by simp[H6]
theorem OW :O9 a b=false↔b<a:=by simp[O9]
theorem Ig :C9 a b=false↔a≠b:=by simp[C9]
theorem Uy{a b:List UInt8} :seq a b=true↔a=b:=by simp[seq]
theorem lK(h:0<=a):a.tdiv b=a / b:=Int.tdiv_eq_ediv_of_nonneg h
theorem zy(h:0<=a):jG a b=a % b:=Int.tmod_eq_emod_of_nonneg h
def lL(n:Int):Prop:=-9223372036854775808<=n/\n<=9223372036854775807
theorem b6j{p:Int}(h:lL p:=by unfold lL;omega):lL p:=h
def U64(n:Int):Prop:=0<=n/\n<=18446744073709551615
theorem xX(h:lL n):IntKind.wrap .i64 n=n:=by unfold lL at h;unfold IntKind.wrap;simp[IntKind.signed,IntKind.bits];omega
theorem JO(h:U64 n):IntKind.wrap .u64 n=n:=by unfold U64 at h;unfold IntKind.wrap;simp[IntKind.signed,IntKind.bits];omega
theorem jJ(h:lL (a+b)):F6 .i64 a b=a+b:=xX h
theorem fF(h:lL (a -b)):X9 .i64 a b=a -b:=xX h
theorem a0T(h:lL (a*b)):Dk .i64 a b=a*b:=xX h
theorem Jb(h:lL (a.tdiv b)):dZ .i64 a b=a.tdiv b:=xX h
theorem Vt(h:U64 (a+b)):F6 .u64 a b=a+b:=JO h
theorem a0V(h:U64 (a.tdiv b)):dZ .u64 a b=a.tdiv b:=JO h
theorem IJ(h:(Lit.int .i64 n).wf=true):lL n:=by simp[Lit.wf,IntKind.min,IntKind.max,IntKind.signed,IntKind.bits]at h;unfold lL;omega
theorem EQ(l:List α):0<=o9 l:=by simp[o9]
theorem J7(l:List α)(i:Nat):J9 l (i:Int)=l[i]?:=by simp[J9]
theorem jd{l:List α}{i:Int}{x:α}(h:J9 l i=some x):0<=i/\i<o9 l/\x∈l/\l[i.toNat]? =some x:=by
 unfold J9 at h;split at h
 .rename_i h0;obtain⟨h1,h2⟩:=ax.1 h;refine⟨h0,by simp[o9];omega,?_,h⟩;rw[←h2];exact L8 h1
 .cases h
theorem oZ{l:List α}{i:Int}(h0:0<=i)(h:i<o9 l):∃x,J9 l i=some x/\x∈l:=by
 unfold o9 at h;refine⟨l[i.toNat]'o5,?_,L8 _⟩;unfold J9
 rw[if_pos h0,lS]
theorem NI(l:List UInt8)(i:Nat):sat l (i:Int)=(l[i]?).map λc=>(c.toNat:Int):=by simp[sat]
theorem G5{a b:List UInt8}(h:a.length+b.length<=4611686018427387904):J3 a b=some (a++b):=by simp[J3,h]
theorem Gg{a b:List α}(h:a.length+b.length<=1073741824):bH a b=some (a++b):=by simp[bH,h]
theorem Zr{l:List α}{lo hi:Int}(h0:0<=lo)(h1:lo<=hi)(h2:hi<=l.length):gW l lo hi=some ((l.take hi.toNat).drop lo.toNat):=by simp[gW,h0,h1,h2]
theorem Zt{l:List α}{hi:Int}(h1:0<=hi)(h2:hi<=l.length):gW l 0 hi=some (l.take hi.toNat):=by rw[Zr o5 h1 h2];simp
theorem KD{l:List α}{lo:Int}(h1:0<=lo)(h2:lo<=l.length):gW l lo (o9 l)=some (l.drop lo.toNat):=by rw[Zr h1 (by simp[o9];omega) (by simp[o9])];simp[o9]
end
section
variable {σ ε ρ:Type}
theorem LV{f:σ->Option (σ⊕ε)}(Inv:σ->Prop)(Q:ε->Prop)(meas:σ->Nat)
  (h:∀s,Inv s->(∃s',f s=some (.inl s')/\Inv s' /\meas s' <meas s)\/(∃e,f s=some (.inr e)/\Q e)):
  ∀n s,Inv s->meas s<n->∃e,tV f n s=some e/\Q e
 |0,_,_,h=>by omega|n+1,s,hi,hm=>by
  unfold tV;rcases h s hi with⟨s',e,hi',hm'⟩|⟨x,e,hx⟩
  .rw[e];exact LV Inv Q meas h n s' hi' o5
  .rw[e];exact⟨x,rfl,hx⟩
theorem qg{f:σ->Option (σ⊕ε)}{s:σ}(Inv:σ->Prop)(Q:ε->Prop)(meas:σ->Nat)(hi:Inv s)(hm:meas s<18446744073709551616)
  (h:∀s,Inv s->(∃s',f s=some (.inl s')/\Inv s' /\meas s' <meas s)\/(∃e,f s=some (.inr e)/\Q e)):∃e,dK f s=some e/\Q e:=
 LV Inv Q meas h _ s hi hm
theorem Ph{f:σ->Option (Out σ ε ρ)}(Inv:σ->Prop)(Q:ε->Prop)(Qr:ρ->Prop)(meas:σ->Nat)
  (h:∀s,Inv s->(∃s',f s=some (.nx s')/\Inv s' /\meas s' <meas s)\/(∃e,f s=some (.ex e)/\Q e)\/(∃r,f s=some (.rt r)/\Qr r)):
  ∀n s,Inv s->meas s<n->(∃e,jr f n s=some (.inl e)/\Q e)\/(∃r,jr f n s=some (.inr r)/\Qr r)
 |0,_,_,h=>by omega|n+1,s,hi,hm=>by
  unfold jr;rcases h s hi with⟨s',e,hi',hm'⟩|⟨x,e,hx⟩|⟨x,e,hx⟩
  .rw[e];exact Ph Inv Q Qr meas h n s' hi' o5
  .rw[e];exact .inl ⟨x,rfl,hx⟩
  .rw[e];exact .inr ⟨x,rfl,hx⟩
theorem xk{f:σ->Option (Out σ ε ρ)}{s:σ}(Inv:σ->Prop)(Q:ε->Prop)(Qr:ρ->Prop)(meas:σ->Nat)(hi:Inv s)(hm:meas s<18446744073709551616)
  (h:∀s,Inv s->(∃s',f s=some (.nx s')/\Inv s' /\meas s' <meas s)\/(∃e,f s=some (.ex e)/\Q e)\/(∃r,f s=some (.rt r)/\Qr r)):
  (∃e,U0 f s=some (.inl e)/\Q e)\/(∃r,U0 f s=some (.inr r)/\Qr r):=
 Ph Inv Q Qr meas h _ s hi hm
end
section
variable {α β ε ρ:Type}
open Classical in
theorem xh(l:List α)(p:Nat->α->Bool)(r:ρ)(e:ε)(f:Int->Option (Out Int ε ρ))(hl:l.length<18446744073709551616)
  (hin:∀(i:Nat) (a:α),l[i]? =some a->f (i:Int)=if p i a=true then some (.nx ((i+1:Nat):Int))else some (.rt r))
  (hend:f (l.length:Int)=some (.ex e)):
  U0 f 0=if(∀i a,l[i]? =some a->p i a=true)then some (.inl e)else some (.inr r):=by
 have key:∀(n i:Nat),i<=l.length->l.length -i<n->(∀j a,j<i->l[j]? =some a->p j a=true)->jr f n (i:Int)=if(∀i a,l[i]? =some a->p i a=true)then some (.inl e)else some (.inr r):=by
  intro n;induction n with
  |zero=>intro i _ h;omega|succ n ih=>
   intro i hi hn hp;unfold jr;by_cases h:i<l.length
   .have e' :=lS h;rw[hin i _ e'];by_cases hpi:p i l[i]=true
    .rw[if_pos hpi];exact ih (i+1) o5 o5 λj a hj ha=>by
      by_cases hji:j=i
      .subst hji;rw[e']at ha;cases ha;exact hpi
      .exact hp j a o5 ha
    .rw[if_neg hpi,if_neg];intro hall;exact hpi (hall i _ e')
   .have:i=l.length:=o5;subst this;rw[hend,if_pos];intro j a ha;exact hp j a (ax.1 ha).1 ha
 exact key _ 0 (dR _) hl λj a hj=>by omega
end
end Go.GP
namespace Go.GP
section
variable {α β α' β' σ τ ε ε' ρ ρ' :Type}
theorem AC{p:Nat->Option ρ}(n:Nat)(hn:n<18446744073709551616)(e:ε){f:Int->Option (Out Int ε ρ)}
  (h1:∀i,i<n->f (i:Int)=some (match p i with|some r=> .rt r|none=> .nx ((i+1:Nat):Int))) (h2:f (n:Int)=some (.ex e)):
  U0 f 0=some (match(List.range n).findSome? p with|some r=> .inr r|none=> .inl e):=by
 have key:∀m i,i+m=n->∀k,m<k->jr f k (i:Int)=some (match(List.range' i m).findSome? p with|some r=> .inr r|none=> .inl e):=by
  intro m;induction m with
  |zero=>intro i hi k hk;obtain⟨k,rfl⟩:∃k',k=k' +1:=⟨k -1,o5⟩;have:i=n:=o5;subst this;unfold jr;rw[h2];rfl
  |succ m ih=>
   intro i hi k hk;obtain⟨k,rfl⟩:∃k',k=k' +1:=⟨k -1,o5⟩;unfold jr;rw[h1 i o5,jM,List.findSome?_cons];cases hp:p i with
   |some r=>rfl|none=>exact ih (i+1) o5 k o5
 have:=key n 0 o5 fQ hn;rw[List.range_eq_range'];exact this
end
end Go.GP
namespace Go.GP
open Gt
set_option maxRecDepth 100000
variable {i:Nat}
theorem dn(h:i<=9000000000000000000):F6 .i64 (i:Int) 1=((i+1:Nat):Int):=by rw[jJ b6j];omega
def KC(c:UInt8):Bool:=decide (97<=c.toNat)&&decide (c.toNat<=122)
def wL(c:UInt8):Bool:=KC c || (decide (48<=c.toNat)&&decide (c.toNat<=57)) || decide (c.toNat=95)
def En:List (List UInt8):=pJ.getD []
theorem a4I:pJ=some En:=by kernel_rfl
def Ae(s:List UInt8):Bool:=match s with|[]=>false|c::r=>decide (s.length<=16)&&KC c&&s.all wL&&!(En.any λw=>seq s w)
theorem RX(c:UInt8)(r:List UInt8):Ae (c::r)=(decide ((c::r).length<=16)&&KC c&&(c::r).all wL&&!(En.any λw=>seq (c::r) w)):=rfl
theorem Pj(c:UInt8):mg (c.toNat:Int)=some (KC c):=by
 unfold mg KC;cases h:decide (97<=c.toNat)<;>simp only[decide_eq_true_eq,decide_eq_false_iff_not]at h
 .rw[aU o5];rfl
 .rw[ah o5];simp only[o7,jV,O9];congr 1;by_cases h2:c.toNat<=122<;>simp[h2]<;>omega
theorem SX(c:UInt8):AP (c.toNat:Int)=some (KC c):=Pj c
def Vg(c:UInt8):Bool:=decide (48<=c.toNat)&&decide (c.toNat<=57)
theorem Vh(c:UInt8):kD (c.toNat:Int)=some (Vg c):=by
 unfold kD Vg;cases h:decide (48<=c.toNat)<;>simp only[decide_eq_true_eq,decide_eq_false_iff_not]at h
 .rw[aU o5];rfl
 .rw[ah o5];simp only[o7,jV,O9];congr 1;by_cases h2:c.toNat<=57<;>simp[h2]<;>omega
theorem X_(c:UInt8):Fa (c.toNat:Int)=some (Vg c):=Vh c
theorem a5u(c:UInt8):C9 (c.toNat:Int) 95=decide (c.toNat=95):=by unfold C9;by_cases h:c.toNat=95<;>simp[h]<;>omega
theorem a5k(c:UInt8):Dz (c.toNat:Int)=some (wL c):=by unfold Dz;rw[SX,o8,X_,a5u];unfold wL;change _=some (KC c || Vg c || decide (c.toNat=95));cases KC c<;>cases Vg c<;>rfl
variable {s:List UInt8}
theorem QU(h:s.length<=1000000):∃k,pF s=some k/\(k=o9 s↔s.all wL=true):=by
 unfold pF;have:=qg (f:=λ(x:Int)=>l7 (H6 x (o9 s)) (l9 (sat s x) λx_1=>l9 (mg x_1) λx_2=>l7 x_2 (some (Sum.inl (F6 IntKind.i64 x 1)))
   (l9 (sat s x) λx_3=>l9 (kD x_3) λx_4=>l7 x_4 (some (Sum.inl (F6 IntKind.i64 x 1))) (l9 (sat s x) λx_5=>l7 (C9 x_5 95) (some (Sum.inl (F6 IntKind.i64 x 1))) (some (Sum.inr x))))) (some (Sum.inr x)))
  (s:=0) (λx=>∃i:Nat,x=i/\i<=s.length/\(s.take i).all wL=true) (λk=>k=o9 s↔s.all wL=true) (λx=>s.length -x.toNat) ⟨0,rfl,o5,rfl⟩ E5 ?_
 .obtain⟨k,h1,h2⟩:=this;refine⟨k,?_,h2⟩;rw[ui];exact h1
 .rintro x ⟨i,rfl,hi,hall⟩;by_cases hl:i<s.length
  .have e:=lS hl;simp only[bg (show(i:Int)<o9 s by simp[o9];omega),o7,NI,e,bC,o8,Pj,Vh,a5u];have hst:(s.take (i+1)).all wL=((s.take i).all wL&&wL s[i]):=by rw[Z8 hl,List.all_append];simp
   have hw:wL s[i]=(KC s[i] || Vg s[i] || decide (s[i].toNat=95)):=rfl;cases hwb:wL s[i]with
   |true=>left;refine⟨((i+1:Nat):Int),?_,⟨i+1,rfl,hl,by rw[hst,hall,hwb];rfl⟩,by simp;omega⟩;rw[dn o5];rw[hw]at hwb;cases h1:KC s[i]<;>cases h2:Vg s[i]<;>cases h3:decide (s[i].toNat=95)<;>rw[h1,h2,h3]at hwb<;>first|rfl|cases hwb
   |false=>
    right;refine⟨(i:Int),?_,?_⟩
    .rw[hw]at hwb;cases h1:KC s[i]<;>cases h2:Vg s[i]<;>cases h3:decide (s[i].toNat=95)<;>rw[h1,h2,h3]at hwb<;>first|rfl|cases hwb
    .constructor
     .intro h;simp[o9]at h;omega
     .intro h;have:=iH.1 h s[i] (L8 hl);rw[hwb]at this;cases this
  .right;have:i=s.length:=o5;subst this;rw[bU]at hall;exact⟨_,by rw[au (by simp[o9])];rfl,by simp[o9,hall]⟩
theorem a0b{a:List UInt8}{w:List UInt8}{r:Option Bool}{x:Bool}(h:r=some x):l7 (seq a w) (some (seq a w)) r=some (seq a w || x):=by rw[h];cases seq a w<;>rfl
theorem VY(s:List UInt8):vX s=some (En.any λw=>seq s w):=by
 unfold vX;refine O6 (o' :=some (En.any λw=>seq s w)) ?_ (by cases En.any λw=>seq s w<;>rfl);have hr:En=(pJ).getD []:=rfl;rw[show(En.any λw=>seq s w)=List.foldr (λw b=>seq s w || b) false En from by induction En with|nil=>rfl|cons w l ih=>simp[qf,ih]];unfold En pJ;simp only[bV,List.foldr]
 repeat (refine a0b ?_)
 simp
theorem nM(h:s.length<=1000000):bK s=some (Ae s):=by
 unfold bK;cases s with
 |nil=>rfl|cons c r=>
  have h1:seq (c::r) []=false:=by simp[seq]
  obtain⟨k,h2,h3⟩:=QU h;rw[h1];simp only[Z7,o7];rw[show sat (c::r) 0=some (c.toNat:Int)from rfl,o8,Pj,o8,h2,o8,VY,o8];have h4:C9 k (o9 (c::r))=(c::r).all wL:=by rw[jb,nC];exact h3
  have h5:O9 (o9 (c::r)) 16=decide ((c::r).length<=16):=by simp only[O9,o9];congr 1;simp;omega
  rw[h4,h5,RX];cases KC c<;>cases (c::r).all wL<;>cases decide ((c::r).length<=16)<;>rfl
theorem jX(h:s.length<=1000000):bM s=some (Ae s):=by
 unfold bM;cases s with
 |nil=>rfl|cons c r=>
  have h0:C9 (o9 (c::r)) 0=false:=N7 (by simp[o9];omega);have h5:H6 16 (o9 (c::r))= !decide ((c::r).length<=16):=by simp only[H6,o9];rw[←decide_not];congr 1;simp;omega
  rw[h0,h5,show sat (c::r) 0=some (c.toNat:Int)from rfl,o8,SX,o8,RX];generalize hs:c::r=s at*;cases hl:decide (s.length<=16)
  .rfl
  cases hc:KC c
  .rfl
  simp only[iU,o6,I7,o8,U1,jV];refine O6 (xh s (λi a=>wL a) false PUnit.unit _ o5 (λi x hx=>?_) ?_) ?_
  rotate_left 2
  .have ha:(∀(i:Nat) (a:UInt8),s[i]? =some a->wL a=true)↔s.all wL=true:=by
    rw[iH];constructor
    .intro h x hx;obtain⟨i,hi,rfl⟩:=bu hx;exact h i _ (lS hi)
    .intro h i a hi;exact h a (oV hi)
   by_cases hw:s.all wL=true
   .rw[if_pos (ha.2 hw),o8,U1,a4I,o8,hw];refine O6 (xh En (λi a=> !seq a s) false PUnit.unit _ (by decide+kernel) (λi x hx=>?_) ?_) ?_
    rotate_left 2
    .have hb:(∀(i:Nat) (a:List UInt8),En[i]? =some a->(!seq a s)=true)↔(En.any λw=>seq s w)=false:=by
      rw[gV];constructor
      .intro h x hx;obtain⟨i,hi,rfl⟩:=bu hx;have:=h i _ (lS hi);intro hq;rw[Uy.1 hq]at this;simp[seq]at this
      .intro h i a hi;have:=h a (oV hi);cases hq:seq a s
       .rfl
       .exact absurd (by rw[Uy.1 hq];simp[seq]) this
     by_cases hv:(En.any λw=>seq s w)=false
     .rw[if_pos (hb.2 hv),hv];rfl
     .rw[if_neg (λh=>hv (hb.1 h))];simp only[lT]at hv;rw[hv];rfl
    .have hi:=(ax.1 hx).1;simp only[bg (show(i:Int)<o9 En by simp[o9];omega),o7,J7,hx,o8];rw[show dW En (df (i:Int))=some x from by simp[dW,df,hx],o8,dn (by
       have:En.length<=100:=by decide+kernel
       omega)]
     cases seq x s<;>rfl
    .rw[au (by simp[o9])];rfl
   .rw[if_neg (λh=>hw (ha.1 h))];simp only[qI]at hw;rw[hw];rfl
  .have hi:=(ax.1 hx).1;simp only[bg (show(i:Int)<o9 s by simp[o9];omega),o7,NI,hx,bC,o8,a5k];rw[dn o5];cases wL x<;>rfl
  .rw[au (by simp[o9])];rfl
theorem qm(t:Int×Int)(en:List dL):aG t en=V8 t en:=by
 unfold aG V8;by_cases h1:t.1=1
 .simp[C9,h1,O9]
 by_cases h2:t.1=2
 .simp[C9,h2,O9]
 by_cases h3:t.1=3
 .simp[C9,h3,O9]
 by_cases h4:t.1=4
 .simp[C9,h4,O9]
 by_cases h5:t.1=5
 .simp[C9,h5,O9]
 by_cases h6:t.1=6
 .simp[C9,h6,O9]
 .simp only[C9,h1,h2,h3,h4,h5,h6,decide_false,o6,o8];by_cases h7:1<=t.1
  .rw[kz (ah h7),kR (aU o5)]
  .rw[kR (aU o5)]
theorem FV(t:Int×Int)(en:List dL):jE t en=dC t en:=by unfold jE dC;rw[qm]
def vty(t:Int×Int)(en:List dL):Bool:=l7 (C9 t.1 6) (l7 (O9 0 t.2) (H6 t.2 (o9 en)) false) (l7 (O9 1 t.1) (l7 (O9 t.1 5) (C9 t.2 0) false) false)
theorem gU(t:Int×Int)(en:List dL):V8 t en=some (vty t en):=by unfold V8 vty;cases C9 t.1 6<;>cases O9 0 t.2<;>cases O9 1 t.1<;>cases O9 t.1 5<;>rfl
theorem tu(t:Int×Int)(en:List dL):aG t en=some (vty t en):=(qm t en).trans (gU t en)
theorem Uj(t:Int×Int)(en:List dL):∃b:Int×Int,dC t en=some b:=by
 unfold dC;rw[gU,o8];cases hv:vty t en
 .exact⟨_,rfl⟩
 simp only[I7,o6];cases h1:C9 t.1 1<;>simp only[o7,o6]
 .cases h2:C9 t.1 2<;>simp only[o7,o6]
  .cases h3:C9 t.1 3<;>simp only[o7,o6]
   .cases h4:C9 t.1 4<;>simp only[o7,o6]
    .cases h5:C9 t.1 5<;>simp only[o7,o6]
     .have h6:C9 t.1 6=true/\O9 0 t.2=true/\H6 t.2 (o9 en)=true:=by
       unfold vty at hv;rw[Ig]at h1 h2 h3 h4 h5;cases h6:C9 t.1 6<;>rw[h6]at hv
       .rw[Ig]at h6;cases h7:O9 1 t.1<;>rw[h7]at hv
        .cases hv
        cases h8:O9 t.1 5<;>rw[h8]at hv
        .cases hv
        rw[qc]at h7 h8;omega
       .cases h7:O9 0 t.2<;>rw[h7]at hv
        .cases hv
        .exact⟨rfl,rfl,hv⟩
      obtain⟨x,hx,_⟩:=oZ (qc.1 h6.2.1) (su.1 h6.2.2);rw[hx];exact⟨_,rfl⟩
     .exact⟨_,rfl⟩
    .exact⟨_,rfl⟩
   .exact⟨_,rfl⟩
  .exact⟨_,rfl⟩
 .exact⟨_,rfl⟩
def bnd(t:Int×Int)(en:List dL):Int×Int:=(dC t en).getD (0,0)
theorem Ir(t:Int×Int)(en:List dL):dC t en=some (bnd t en):=by obtain⟨b,h⟩:=Uj t en;unfold bnd;rw[h];rfl
theorem Ry(t:Int×Int)(en:List dL):jE t en=some (bnd t en):=(FV t en).trans (Ir t en)
def inB(n:Int)(b:Int×Int):Bool:=l7 (O9 b.1 n) (O9 n b.2) false
theorem XW(n:Int)(t:Int×Int)(en:List dL):wu n t en=some (inB n (bnd t en)):=by unfold wu inB;rw[Ir,o8];cases O9 (bnd t en).1 n<;>rfl
def Ei(r:Int×Int):Bool:=l7 (O9 0 r.1) (l7 (O9 r.1 r.2) (O9 r.2 109573) false) false
theorem FY(r:Int×Int):qw r=some (Ei r):=by unfold qw Ei;cases O9 0 r.1<;>cases O9 r.1 r.2<;>rfl
theorem Dx(r:Int×Int):vC r=some (Ei r):=FY r
def OD(a b:Int×Int):(Int×Int)×Bool:=l7 (Ei a) (l7 (Ei b) (l7 (O9 (vP a.2 b.2) (vO a.1 b.1)) ((0,0),false) ((vO a.1 b.1,vP a.2 b.2),true)) ((0,0),false)) ((0,0),false)
theorem a2m(a b:Int×Int):uu a b=some (OD a b):=by unfold uu OD;rw[Dx,o8,Dx,o8];cases Ei a<;>cases Ei b<;>cases O9 (vP a.2 b.2) (vO a.1 b.1)<;>rfl
theorem a4V(a b:Int×Int):oL a b=some (OD a b):=by
 unfold oL qL OD;rw[FY,o8,FY,o8];cases Ei a
 .rfl
 simp only[o7];cases h1:H6 a.1 a.2
 .rw[tN]at h1;rw[ah (show vP a.2 b.2<=vO a.1 b.1 by unfold vP vO;omega)];cases Ei b<;>rfl
 simp only[o8,I7,o6];cases Ei b
 .rfl
 simp only[o7];cases h2:H6 b.1 b.2
 .rw[tN]at h2;rw[ah (show vP a.2 b.2<=vO a.1 b.1 by unfold vP vO;omega)];rfl
 .cases O9 (vP a.2 b.2) (vO a.1 b.1)<;>rfl
def tZ(a b:Eg):Bool:=l7 (OD a.1 b.1).2 (H6 (vO a.2.1 b.2.1) (vP a.2.2.1 b.2.2.1)) false
theorem Vb(a b:Eg):wI a b=some (tZ a b):=by unfold wI tZ;rw[a4V,o8];cases (OD a.1 b.1).2<;>rfl
theorem Uk(a b:Eg):wz a b=some (tZ a b):=by unfold wz tZ;rw[a2m,o8];cases (OD a.1 b.1).2<;>rfl
theorem a0S{l:List Eg}(r:Eg)(h:l.length<=1000000):∃k:Int,oN l r=some (k,l.any λy=>tZ y r):=by
 unfold oN;have key:=xk (f:=λ(x:Int)=>l7 (H6 x (o9 l)) (l9 (J9 l x) λx_1=>l9 (pU x_1 r) λx_2=>l7 x_2 (some (Out.rt (x,true))) (some (Out.nx (F6 IntKind.i64 x 1)))) (some (Out.ex PUnit.unit)))
   (s:=0) (λx=>∃i:Nat,x=i/\i<=l.length/\(l.take i).any (λy=>tZ y r)=false) (λ_=>(l.any λy=>tZ y r)=false) (λk=>k.2=true/\(l.any λy=>tZ y r)=true) (λx=>l.length -x.toNat) ⟨0,rfl,o5,rfl⟩ E5 ?_
 .rcases key with⟨e,h1,h2⟩|⟨k,h1,h2,h3⟩
  .exact⟨0,by rw[h1,h2];rfl⟩
  .refine⟨k.1,?_⟩;rw[h1,h3,←h2];rfl
 .rintro x ⟨i,rfl,hi,hall⟩;by_cases hl:i<l.length
  .have e:=lS hl;have hst:(l.take (i+1)).any (λy=>tZ y r)=((l.take i).any (λy=>tZ y r) || tZ l[i] r):=by rw[Z8 hl,rq];simp
   have hv:pU l[i] r=some (tZ l[i] r):=by unfold pU;rw[Vb];rfl
   simp only[bg (show(i:Int)<o9 l by simp[o9];omega),o7,J7,e,o8,hv];cases hc:tZ l[i] r with
   |true=>exact .inr (.inr ⟨_,rfl,rfl,nG.2 ⟨l[i],L8 hl,hc⟩⟩)|false=>exact .inl ⟨((i+1:Nat):Int),by rw[dn o5];rfl,⟨i+1,rfl,hl,by rw[hst,hall,hc];rfl⟩,by simp;omega⟩
  .have:i=l.length:=o5;subst this;rw[bU]at hall;exact .inr (.inl ⟨_,by rw[au (by simp[o9])];rfl,hall⟩)
def Ls(x:Eg)(bl br:Int×Int):Bool:=
 l7 (Ei x.1) (l7 (C9 x.1.1 x.1.2) true (l7 (O9 x.2.2.1 x.2.1) true (l7 (inB x.2.1 bl) (l7 (inB (X9 .i64 x.2.2.1 1) bl) (G7 (inB x.2.2.2 br)) true) true))) true
theorem a0d(x:Eg)(t:kF)(en:List dL):AU x t en=some (Ls x (bnd t.2.1 en) (bnd t.2.2.1 en)):=by
 unfold AU Ls;rw[Dx,o8,XW,XW,XW];cases Ei x.1
 .rfl
 cases C9 x.1.1 x.1.2
 case true=>rfl
 cases O9 x.2.2.1 x.2.1
 case true=>rfl
 simp only[I7,o6,o8,U1,o7];cases inB x.2.1 (bnd t.2.1 en)
 .rfl
 cases inB (X9 .i64 x.2.2.1 1) (bnd t.2.1 en)
 .rfl
 rfl
def Rh(t:kF)(en:List dL)(i:Nat):Option (Int×Int):=match t.2.2.2[i]? with
 |some x=>l7 (Ls x (bnd t.2.1 en) (bnd t.2.2.1 en)) (some ((i:Int),3)) (l7 ((t.2.2.2.take i).any λy=>tZ y x) (some ((i:Int),11)) none)|none=>none
def GH(t:kF)(en:List dL):Int×Int:=
 l7 (H6 64 (o9 t.2.2.2)) (64,4) (l7 (vty t.2.1 en) (l7 (vty t.2.2.1 en) (match(List.range t.2.2.2.length).findSome? (Rh t en)with|some r=>r|none=>(0,0)) (-1,8)) (-1,8))
theorem yF(a b:Int):H6 a b= !O9 b a:=by simp only[H6,O9];rw[←decide_not];congr 1;simp
theorem a0c(t:kF)(en:List dL):ww t en=some (GH t en):=by
 unfold ww GH;rw[gU,o8,gU,o8];cases h64:H6 64 (o9 t.2.2.2)
 case true=>rfl
 simp only[o6];cases vty t.2.1 en
 .rfl
 cases vty t.2.2.1 en
 .rfl
 simp only[I7,o6,o8,U1,o7];have hlen:t.2.2.2.length<=64:=by rw[tN]at h64;simp only[o9]at h64;omega
 refine O6 (AC (p:=Rh t en) t.2.2.2.length o5 PUnit.unit (λi hi=>?_) ?_) ?_
 rotate_left 2
 .cases (List.range t.2.2.2.length).findSome? (Rh t en)<;>rfl
 .have e:=lS hi;simp only[bg (show(i:Int)<o9 t.2.2.2 by simp only[o9];omega),o7,J7,e,o8,a0d,Rh];cases Ls t.2.2.2[i] (bnd t.2.1 en) (bnd t.2.2.1 en)
  case true=>rfl
  simp only[o6];refine O6 (xh (t.2.2.2.take i) (λj a=> !tZ a t.2.2.2[i]) ((i:Int),(11:Int)) PUnit.unit _ E5 (λj x hx=>?_) ?_) ?_
  rotate_left 2
  .have hb:(∀(j:Nat) (a:Eg),(t.2.2.2.take i)[j]? =some a->(!tZ a t.2.2.2[i])=true)↔((t.2.2.2.take i).any λy=>tZ y t.2.2.2[i])=false:=by
    rw[gV];constructor
    .intro h x hx;obtain⟨j,hj,rfl⟩:=bu hx;have:=h j _ (lS hj);simpa using this
    .intro h j a hj;have:=h a (oV hj);simpa using this
   by_cases hv:((t.2.2.2.take i).any λy=>tZ y t.2.2.2[i])=false
   .rw[if_pos (hb.2 hv),hv,dn o5];rfl
   .rw[if_neg (λh=>hv (hb.1 h))];simp only[lT]at hv;rw[hv];rfl
  .have hj:=(ax.1 hx).1;simp only[aP]at hj;have hx' :t.2.2.2[j]? =some x:=by rw[P8]at hx;split at hx<;>first|exact hx|cases hx
   simp only[bg (show(j:Int)<(i:Int) by omega),o7,J7,hx',o8,e,Uk];rw[dn o5];cases tZ x t.2.2.2[i]<;>rfl
  .have hl:(t.2.2.2.take i).length=i:=by simp;omega
   rw[hl,au o5];rfl
 .rw[au (by simp[o9])];rfl
variable {α:Type}
theorem vg{l:List α}(h:i<=l.length):gW l 0 (i:Int)=some (l.take i):=by rw[Zt o5 o5];simp
theorem a3E(t:kF)(en:List dL):wH t en=some (GH t en):=by
 unfold wH GH;rw[tu,o8,tu,o8];cases h64:H6 64 (o9 t.2.2.2)
 case true=>rfl
 simp only[o6];cases vty t.2.1 en
 .rfl
 cases vty t.2.2.1 en
 .rfl
 simp only[I7,o6,o8,U1,o7,Ry];have hlen:t.2.2.2.length<=64:=by rw[tN]at h64;simp only[o9]at h64;omega
 refine O6 (AC (p:=Rh t en) t.2.2.2.length o5 PUnit.unit (λi hi=>?_) ?_) ?_
 rotate_left 2
 .cases (List.range t.2.2.2.length).findSome? (Rh t en)<;>rfl
 .have e:=lS hi;simp only[bg (show(i:Int)<o9 t.2.2.2 by simp only[o9];omega),o7,J7,e,o8,Rh,FY,vg (show i<=t.2.2.2.length by omega)];obtain⟨k,hk⟩:=a0S (l:=t.2.2.2.take i) t.2.2.2[i] E5;rw[hk,dn o5];unfold Ls inB;simp only[yF];generalize bnd t.2.1 en=bl;generalize bnd t.2.2.1 en=br;cases Ei t.2.2.2[i].1
  .rfl
  cases C9 t.2.2.2[i].1.1 t.2.2.2[i].1.2
  case true=>rfl
  cases O9 t.2.2.2[i].2.2.1 t.2.2.2[i].2.1
  case true=>rfl
  cases O9 bl.1 t.2.2.2[i].2.1
  .rfl
  cases O9 t.2.2.2[i].2.1 bl.2
  .rfl
  cases O9 bl.1 (X9 IntKind.i64 t.2.2.2[i].2.2.1 1)
  .rfl
  cases O9 (X9 IntKind.i64 t.2.2.2[i].2.2.1 1) bl.2
  .rfl
  cases O9 br.1 t.2.2.2[i].2.2.2
  .rfl
  cases O9 t.2.2.2[i].2.2.2 br.2
  .rfl
  cases (t.2.2.2.take i).any λy=>tZ y t.2.2.2[i]<;>rfl
 .rw[au (by simp[o9])];rfl
section
variable {α ε ρ:Type}
theorem yB(l:List α)(p:α->Bool)(r:ρ)(e:ε){f:Int->Option (Out Int ε ρ)}(hl:l.length<=1000000)
  (hin:∀(i:Nat) (a:α),l[i]? =some a->f (i:Int)=some (bif p a then .rt r else .nx (F6 .i64 (i:Int) 1))) (hend:f (l.length:Int)=some (.ex e)):
  U0 f 0=some (bif l.any p then .inr r else .inl e):=by
 rw[xh l (λi a=> !p a) r e f o5 (λi a ha=>?_) hend]
 .have hb:(∀(j:Nat) (a:α),l[j]? =some a->(!p a)=true)↔l.any p=false:=by
   rw[gV];constructor
   .intro h x hx;obtain⟨j,hj,rfl⟩:=bu hx;have:=h j _ (lS hj);simpa using this
   .intro h j a hj;have:=h a (oV hj);simpa using this
  by_cases hv:l.any p=false
  .rw[if_pos (hb.2 hv),hv];rfl
  .rw[if_neg (λh=>hv (hb.1 h))];simp only[lT]at hv;rw[hv];rfl
 .have hi:=(ax.1 ha).1;rw[hin i a ha,dn o5];cases p a<;>rfl
theorem wY(l:List α)(p:α->Bool){f:Int->Option (Out Int PUnit Int)}(hl:l.length<=1000000)
  (hin:∀(i:Nat) (a:α),l[i]? =some a->f (i:Int)=some (bif p a then .rt (i:Int)else .nx (F6 .i64 (i:Int) 1))) (hend:f (l.length:Int)=some (.ex PUnit.unit)):
  l9 (l9 (U0 f 0) λo=>Y0 o (λ_=>some (-1)) λr=>some r) (λx=>some (O9 0 x))=some (l.any p):=by
 have key:=xk (f:=f) (s:=0) (λx=>∃i:Nat,x=i/\i<=l.length/\(l.take i).any p=false) (λ_=>l.any p=false) (λk=>0<=k/\l.any p=true) (λx=>l.length -x.toNat) ⟨0,rfl,o5,rfl⟩ E5 ?_
 .rcases key with⟨e,h1,h2⟩|⟨k,h1,h2,h3⟩
  .rw[h1,h2];rfl
  .rw[h1,h3,o8,lJ,o8,ah h2]
 .rintro x ⟨i,rfl,hi,hall⟩;by_cases h:i<l.length
  .have e:=lS h;have hst:(l.take (i+1)).any p=((l.take i).any p || p l[i]):=by rw[Z8 h,rq];simp
   rw[hin i _ e];cases hc:p l[i]with
   |true=>exact .inr (.inr ⟨_,rfl,o5,nG.2 ⟨l[i],L8 h,hc⟩⟩)|false=>exact .inl ⟨((i+1:Nat):Int),by rw[dn o5];rfl,⟨i+1,rfl,h,by rw[hst,hall,hc];rfl⟩,by simp;omega⟩
  .have:i=l.length:=o5;subst this;rw[bU]at hall;exact .inr (.inl ⟨_,hend,hall⟩)
theorem O0{l:List α}{a:α}(h:l[i]? =some a):H6 (i:Int) (o9 l)=true:=bg (by have:=(ax.1 h).1;simp only[o9];omega)
theorem N9(l:List α):H6 (l.length:Int) (o9 l)=false:=au (by simp[o9])
end
theorem Ie{l:List dL}(n:List UInt8)(h:l.length<=1000000):uY l n=some (l.any λx=>seq x.1 n):=by unfold uY gY iW;rw[ui];refine wY l (λx=>seq x.1 n) h (λi a ha=>?_) (by rw[N9];rfl);rw[O0 ha,o7,J7,ha,o8];unfold BB;rw[o8];cases seq a.1 n<;>rfl
theorem LM{l:List kF}(n:List UInt8)(h:l.length<=1000000):vV l n=some (l.any λx=>seq x.1 n):=by unfold vV fM iq;rw[ui];refine wY l (λx=>seq x.1 n) h (λi a ha=>?_) (by rw[N9];rfl);rw[O0 ha,o7,J7,ha,o8];unfold zA;rw[o8];cases seq a.1 n<;>rfl
theorem Vs{l:List P5}(s:P5)(h:l.length<=1000000):cO l s=some (l.any λx=>seq x.1 s.1):=by unfold cO ik;refine wY l (λx=>seq x.1 s.1) h (λi a ha=>?_) (by rw[N9];rfl);rw[O0 ha,o7,J7,ha,o8];unfold xf;rw[o8];cases seq a.1 s.1<;>rfl
theorem Xz{l:List iw}(s:iw)(h:l.length<=1000000):dI l s=some (l.any λx=>seq x.1 s.1):=by unfold dI iY;refine wY l (λx=>seq x.1 s.1) h (λi a ha=>?_) (by rw[N9];rfl);rw[O0 ha,o7,J7,ha,o8];unfold yg;rw[o8];cases seq a.1 s.1<;>rfl
theorem LK{l:List jh}(s:jh)(h:l.length<=1000000):aF l s=some (l.any λx=>seq x.1 s.1):=by unfold aF ig;refine wY l (λx=>seq x.1 s.1) h (λi a ha=>?_) (by rw[N9];rfl);rw[O0 ha,o7,J7,ha,o8];unfold xe;rw[o8];cases seq a.1 s.1<;>rfl
theorem w_{l:List (List UInt8)}(s:List UInt8)(h:l.length<=1000000):iG l s=some (l.any λx=>seq s x):=by unfold iG gG;refine wY l (λx=>seq s x) h (λi a ha=>?_) (by rw[N9];rfl);rw[O0 ha,o7,J7,ha,o8];cases seq s a<;>rfl
theorem v_{l:List Int}(s:Int)(h:l.length<=1000000):kT l s=some (l.any λx=>C9 s x):=by unfold kT rU;refine wY l (λx=>C9 s x) h (λi a ha=>?_) (by rw[N9];rfl);rw[O0 ha,o7,J7,ha,o8];cases C9 s a<;>rfl
section
variable {α ε ρ:Type}
theorem BJ(l:List α)(k:Nat)(p:α->Bool)(r:ρ)(e:ε){f:Int->Option (Out Int ε ρ)}(hl:l.length<=1000000)
  (hin:∀(i:Nat) (a:α),l[i]? =some a->f (i:Int)=some (bif (decide (i<k)&&p a)then .rt r else .nx (F6 .i64 (i:Int) 1))) (hend:f (l.length:Int)=some (.ex e)):
  U0 f 0=some (bif (l.take k).any p then .inr r else .inl e):=by
 rw[xh l (λi a=> !(decide (i<k)&&p a)) r e f o5 (λi a ha=>?_) hend]
 .have hb:(∀(j:Nat) (a:α),l[j]? =some a->(!(decide (j<k)&&p a))=true)↔(l.take k).any p=false:=by
   rw[gV];constructor
   .intro h x hx;obtain⟨j,hj,rfl⟩:=bu hx;simp only[aP]at hj;have:=h j _ (lS o5);rw[List.getElem_take];simp only[show j<k by omega,decide_true,jV]at this;simpa using this
   .intro h j a hj;by_cases hk:j<k
    .have hm:a∈l.take k:=oV (i:=j) (by rw[ed hk];exact hj);have:=h a hm;simpa[hk]using this
    .simp[hk]
  by_cases hv:(l.take k).any p=false
  .rw[if_pos (hb.2 hv),hv];rfl
  .rw[if_neg (λh=>hv (hb.1 h))];simp only[lT]at hv;rw[hv];rfl
 .have hi:=(ax.1 ha).1;rw[hin i a ha,dn o5];cases decide (i<k)&&p a<;>rfl
end
theorem Ja(i k:Nat):H6 (i:Int) (k:Int)=decide (i<k):=by unfold H6;by_cases h:i<k<;>simp[h]<;>omega
def zY(l:dJ)(kind:Nat)(k:Nat)(n:List UInt8):Bool:=
 match kind with
 |1=>(l.1.take k).any λx=>seq x.1 n|2=>(l.1.any λx=>seq x.1 n) || ((l.2.1.take k).any λx=>seq x.1 n)|_=>(l.1.any λx=>seq x.1 n) || (l.2.1.any λx=>seq x.1 n) || ((l.2.2.take k).any λx=>seq x.1 n)
def Few(l:dJ):Prop:=l.1.length<=1000/\l.2.1.length<=1000/\l.2.2.length<=1000
variable {l:dJ}
theorem a0i(h:Few l)(k:Nat)(n:List UInt8):gQ l 1 (k:Int) n=some (zY l 1 k n):=by
 unfold gQ zY;refine O6 (BJ l.1 k (λx=>seq x.1 n) true PUnit.unit (by have:=h.1;omega) (λi a ha=>?_) ?_) ?_
 rotate_left 2
 .cases (l.1.take k).any λx=>seq x.1 n
  case true=>rfl
  simp only[cond_false,U1];refine O6 (BJ l.2.1 0 (λx=>seq x.1 n) true PUnit.unit (by have:=h.2.1;omega) (λi a ha=>?_) ?_) ?_
  rotate_left 2
  .simp only[List.take_zero,List.any_nil,cond_false,U1];refine O6 (BJ l.2.2 0 (λx=>seq x.1 n) true PUnit.unit (by have:=h.2.2;omega) (λi a ha=>?_) ?_) ?_
   rotate_left 2
   .rfl
   .rw[O0 ha];simp;rfl
   .rw[N9];rfl
  .rw[O0 ha];simp;rfl
  .rw[N9];rfl
 .rw[O0 ha,J7,ha,o8,Ja,o7];cases decide (i<k)<;>cases seq a.1 n<;>rfl
 .rw[N9];rfl
theorem a0j(h:Few l)(k:Nat)(n:List UInt8):gQ l 2 (k:Int) n=some (zY l 2 k n):=by
 unfold gQ zY;refine O6 (yB l.1 (λx=>seq x.1 n) true PUnit.unit (by have:=h.1;omega) (λi a ha=>?_) ?_) ?_
 rotate_left 2
 .cases l.1.any λx=>seq x.1 n
  case true=>rfl
  simp only[cond_false,U1,jU];refine O6 (BJ l.2.1 k (λx=>seq x.1 n) true PUnit.unit (by have:=h.2.1;omega) (λi a ha=>?_) ?_) ?_
  rotate_left 2
  .cases (l.2.1.take k).any λx=>seq x.1 n
   case true=>rfl
   simp only[cond_false,U1];refine O6 (BJ l.2.2 0 (λx=>seq x.1 n) true PUnit.unit (by have:=h.2.2;omega) (λi a ha=>?_) ?_) ?_
   rotate_left 2
   .rfl
   .rw[O0 ha];simp;rfl
   .rw[N9];rfl
  .rw[O0 ha,J7,ha,o8,Ja,o7];cases decide (i<k)<;>cases seq a.1 n<;>rfl
  .rw[N9];rfl
 .rw[O0 ha,J7,ha,o8,o7];cases seq a.1 n<;>rfl
 .rw[N9];rfl
theorem a0k(h:Few l)(k:Nat)(n:List UInt8):gQ l 3 (k:Int) n=some (zY l 3 k n):=by
 unfold gQ zY;refine O6 (yB l.1 (λx=>seq x.1 n) true PUnit.unit (by have:=h.1;omega) (λi a ha=>?_) ?_) ?_
 rotate_left 2
 .cases l.1.any λx=>seq x.1 n
  case true=>rfl
  simp only[cond_false,U1,jU];refine O6 (yB l.2.1 (λx=>seq x.1 n) true PUnit.unit (by have:=h.2.1;omega) (λi a ha=>?_) ?_) ?_
  rotate_left 2
  .cases l.2.1.any λx=>seq x.1 n
   case true=>rfl
   simp only[cond_false,U1,jU];refine O6 (BJ l.2.2 k (λx=>seq x.1 n) true PUnit.unit (by have:=h.2.2;omega) (λi a ha=>?_) ?_) ?_
   rotate_left 2
   .cases (l.2.2.take k).any λx=>seq x.1 n<;>rfl
   .rw[O0 ha,J7,ha,o8,Ja,o7];cases decide (i<k)<;>cases seq a.1 n<;>rfl
   .rw[N9];rfl
  .rw[O0 ha,J7,ha,o8,o7];cases seq a.1 n<;>rfl
  .rw[N9];rfl
 .rw[O0 ha,J7,ha,o8,o7];cases seq a.1 n<;>rfl
 .rw[N9];rfl
def QT(ms:List (List UInt8))(i:Nat):Option (Int×Int):=match ms[i]? with
 |some m=>l7 (Ae m) (l7 ((ms.take i).any λx=>seq m x) (some (7,((100+i:Nat):Int))) none) (some (2,((100+i:Nat):Int)))|none=>none
def OE(l:dJ)(i:Nat)(e:dL):Int×Int:=
 l7 (Ae e.1) (l7 (zY l 1 i e.1) (7,0) (l7 (C9 (o9 e.2) 0) (5,0) (l7 (H6 16 (o9 e.2)) (4,116) (match(List.range e.2.length).findSome? (QT e.2)with|some r=>r|none=>(0,0))))) (2,0)
theorem Zh(h:i<=1000000):F6 .i64 100 (i:Int)=((100+i:Nat):Int):=by rw[jJ b6j];omega
theorem TB(h:Few l)(hi:i<=l.1.length)(e:dL)(h1:e.1.length<=1000000)(h2:∀m∈e.2,m.length<=1000000):
  xF l (i:Int) e=some (OE l i e):=by
 unfold xF OE zY;rw[nM h1,o8,vg hi,o8,Ie _ (by have:=h.1;simp;omega),o8];cases Ae e.1
 .rfl
 simp only[I7,o6,o7];cases (l.1.take i).any λx=>seq x.1 e.1
 case true=>rfl
 cases C9 (o9 e.2) 0
 case true=>rfl
 cases h16:H6 16 (o9 e.2)
 case true=>rfl
 simp only[o6];have hlen:e.2.length<=16:=by rw[tN]at h16;simp only[o9]at h16;omega
 refine O6 (AC (p:=QT e.2) e.2.length o5 PUnit.unit (λj hj=>?_) ?_) ?_
 rotate_left 2
 .cases (List.range e.2.length).findSome? (QT e.2)<;>rfl
 .have e' :=lS hj;rw[O0 e',o7,J7,e',o8,nM (h2 _ (L8 hj)),o8,vg o5,o8,w_ _ E5,o8,Zh o5,dn o5];simp only[QT,e'];cases Ae e.2[j]
  .rfl
  cases (e.2.take j).any λx=>seq e.2[j] x<;>rfl
 .rw[N9];rfl
theorem a2E(a b:List UInt8):seq a b=seq b a:=by unfold seq;by_cases h:a=b<;>simp[h,eq_comm]
variable {ρ:Type}{ε:Type}{σ:Type}
theorem h_(l:List α)(p:α->Bool)(n:Nat)(hn:n<=l.length)(hl:l.length<=1000000)(a b:σ)(r:ρ)(e:ε){f:σ×σ×Int->Option (Out (σ×σ×Int) ε ρ)}
  (hin:∀(i:Nat) (x:α),i<n->l[i]? =some x->f (a,b,(i:Int))=some (bif p x then .rt r else .nx (a,b,F6 .i64 (i:Int) 1))) (hend:f (a,b,(n:Int))=some (.ex e)):
  U0 f (a,b,0)=some (bif (l.take n).any p then .inr r else .inl e):=by
 have key:=xk (f:=f) (s:=(a,b,0)) (λx=>∃i:Nat,x=(a,b,(i:Int))/\i<=n/\(l.take i).any p=false) (λx=>x=e/\(l.take n).any p=false) (λk=>k=r/\(l.take n).any p=true) (λx=>n -x.2.2.toNat) ⟨0,rfl,o5,rfl⟩ E5 ?_
 .rcases key with⟨x,h1,rfl,h2⟩|⟨k,h1,rfl,h2⟩
  .rw[h1,h2];rfl
  .rw[h1,h2];rfl
 .rintro x ⟨i,rfl,hi,hall⟩;by_cases h:i<n
  .have e' :=lS (show i<l.length by omega);have hst:(l.take (i+1)).any p=((l.take i).any p || p l[i]):=by rw[Z8 o5,rq];simp
   rw[hin i _ h e'];cases hc:p l[i]with
   |true=>refine .inr (.inr ⟨_,rfl,rfl,nG.2 ⟨l[i],?_,hc⟩⟩);exact oV (i:=i) (by rw[ed h];exact e')|false=>exact .inl ⟨(a,b,((i+1:Nat):Int)),by rw[dn o5];rfl,⟨i+1,rfl,h,by rw[hst,hall,hc];rfl⟩,by simp;omega⟩
  .have:i=n:=o5;subst this;exact .inr (.inl ⟨_,hend,rfl,hall⟩)
variable {β:Type}
theorem OT{p:Nat->Option β}{n j:Nat}{c:β}(h0:(List.range j).findSome? p=none)(h1:p j=some c)(hj:j<n):(List.range n).findSome? p=some c:=by
 induction n with
 |zero=>omega|succ n ih=>
  rw[eF,jo];by_cases h:j<n
  .rw[ih h];rfl
  .have:j=n:=o5;subst this;rw[h0];simp[h1]
theorem Zf{p:Nat->Option β}{j:Nat}(h0:(List.range j).findSome? p=none)(h1:p j=none):(List.range (j+1)).findSome? p=none:=by rw[eF,jo,h0];simp[h1]
def Gv(kind i:Int)(r:Int×Int):Int×Int×Int×Int:=l7 (C9 r.1 0) (0,0,0,0) (r.1,kind,i,r.2)
theorem QY(h:Few l){e:dL}(he:l.1[i]? =some e)(h1:e.1.length<=1000000)(h2:∀m∈e.2,m.length<=1000000):
  uy l (i:Int)=some (Gv 1 i (OE l i e)):=by
 unfold uy OE;rw[J7,he,o8,jX h1,o8,a0i h,o8];cases Ae e.1
 .rfl
 simp only[I7,o6,o7];cases zY l 1 i e.1
 case true=>rfl
 cases C9 (o9 e.2) 0
 case true=>rfl
 cases h16:H6 16 (o9 e.2)
 case true=>rfl
 simp only[o6];have hlen:e.2.length<=16:=by rw[tN]at h16;simp only[o9]at h16;omega
 have key:=xk (f:=λ(x_3:kZ×kZ×Int)=>
   l7 (H6 x_3.2.2 (o9 e.2)) (l9 (J9 e.2 x_3.2.2) λ(x_4:List UInt8)=>l9 (bM x_4) λ(x_5:Bool)=>
    l7 (G7 x_5) (some (Out.rt (2,x_3.2.1.2.1,x_3.2.1.2.2.1,F6 IntKind.i64 100 x_3.2.2)))
     (l9 (U0 (λ(x_6:kZ×kZ×Int)=>l7 (H6 x_6.2.2 x_3.2.2) (l9 (J9 e.2 x_6.2.2) λ(x_7:List UInt8)=>l9 (J9 e.2 x_3.2.2) λ(x:List UInt8)=>
       l7 (seq x_7 x) (some (Out.rt (7,x_6.2.1.2))) (some (Out.nx (x_6.1,x_6.2.1,F6 IntKind.i64 x_6.2.2 1)))) (some (Out.ex (x_6.1,x_6.2.1))))
      (x_3.1,(x_3.2.1.1,x_3.2.1.2.1,x_3.2.1.2.2.1,F6 IntKind.i64 100 x_3.2.2),0)) λ(o:kZ×kZ⊕kZ)=>
       Y0 o (λ(y:kZ×kZ)=>some (Out.nx (y.1,y.2,F6 IntKind.i64 x_3.2.2 1))) λ(r:kZ)=>some (Out.rt r))) (some (Out.ex x_3.1)))
  (s:=((0,0,0,0),(0,1,(i:Int),0),0))
  (λx=>∃(B:Int×Int×Int×Int) (j:Nat),x=((0,0,0,0),B,(j:Int))/\B.2.1=1/\B.2.2.1=i/\j<=e.2.length/\(List.range j).findSome? (QT e.2)=none)
  (λ_=>(List.range e.2.length).findSome? (QT e.2)=none) (λr=>∃c,(List.range e.2.length).findSome? (QT e.2)=some c/\r=(c.1,1,(i:Int),c.2)/\c.1≠0)
  (λx=>e.2.length -x.2.2.toNat) ⟨_,0,rfl,rfl,rfl,o5,rfl⟩ E5 ?_
 .rcases key with⟨x,k1,k2⟩|⟨r,k1,c,k2,k3,k4⟩
  .refine(PG k1 _).trans ?_;rw[k2];rfl
  .refine(PG k1 _).trans ?_;rw[k2,k3];simp only[lJ,Gv];rw[N7 k4];rfl
 .rintro x ⟨B,j,rfl,b1,b2,hj,hn⟩;by_cases hl:j<e.2.length
  .have e' :=lS hl;simp only[O0 e',o7,J7,e',o8,jX (h2 _ (L8 hl)),Zh (show j<=1000000 by omega)];cases hid:Ae e.2[j]
   .refine .inr (.inr ⟨_,rfl,(2,((100+j:Nat):Int)),OT hn (by simp only[QT,e',hid];rfl) hl,?_,(by show(2:Int)≠0;decide)⟩);rw[b1,b2]
   .simp only[I7,o6];rw[h_ e.2 (λx=>seq e.2[j] x) j o5 o5 (0,0,0,0) (B.1,B.2.1,B.2.2.1,((100+j:Nat):Int)) (7,B.2.1,B.2.2.1,((100+j:Nat):Int)) ((0,0,0,0),(B.1,B.2.1,B.2.2.1,((100+j:Nat):Int)))
     (λk x hk hx=>by simp only[bg (show(k:Int)<(j:Int) by omega),o7,J7,hx,o8,e'];rw[a2E];cases seq e.2[j] x<;>rfl)
     (by simp only[au (show(j:Int)<=(j:Int) by omega)];rfl)]
    cases hd:(e.2.take j).any λx=>seq e.2[j] x
    .refine .inl ⟨((0,0,0,0),(B.1,B.2.1,B.2.2.1,((100+j:Nat):Int)),((j+1:Nat):Int)),by rw[dn o5];rfl,⟨_,j+1,rfl,b1,b2,hl,Zf hn (by simp only[QT,e',hid,hd];rfl)⟩,by simp;omega⟩
    .refine .inr (.inr ⟨_,rfl,(7,((100+j:Nat):Int)),OT hn (by simp only[QT,e',hid,hd];rfl) hl,?_,(by show(7:Int)≠0;decide)⟩);rw[b1,b2]
  .have:j=e.2.length:=o5;subst this;exact .inr (.inl ⟨_,by simp only[N9];rfl,hn⟩)
def dU(n:Nat)(p:Nat->Option ρ):Option ρ:=(List.range n).findSome? p
theorem lZ{p:Nat->Option ρ}(n:Nat)(hn:n<=1000000)(a:σ)(e:ε){f:σ×Int->Option (Out (σ×Int) ε ρ)}
  (h1:∀i,i<n->f (a,(i:Int))=some (match p i with|some r=> .rt r|none=> .nx (a,F6 .i64 (i:Int) 1))) (h2:f (a,(n:Int))=some (.ex e)):
  U0 f (a,0)=some (match dU n p with|some r=> .inr r|none=> .inl e):=by
 have key:=xk (f:=f) (s:=(a,0)) (λx=>∃i:Nat,x=(a,(i:Int))/\i<=n/\dU i p=none) (λx=>x=e/\dU n p=none) (λr=>dU n p=some r) (λx=>n -x.2.toNat) ⟨0,rfl,o5,rfl⟩ E5 ?_
 .rcases key with⟨x,k1,rfl,k2⟩|⟨r,k1,k2⟩
  .rw[k1,k2]
  .rw[k1,k2]
 .rintro x ⟨i,rfl,hi,hnone⟩;by_cases h:i<n
  .rw[h1 i h];cases hp:p i with
   |some r=>exact .inr (.inr ⟨_,rfl,OT hnone hp h⟩)|none=>exact .inl ⟨(a,((i+1:Nat):Int)),by rw[dn o5],⟨i+1,rfl,h,Zf hnone hp⟩,by simp;omega⟩
  .have:i=n:=o5;subst this;exact .inr (.inl ⟨_,h2,rfl,hnone⟩)
def Nc(kind i:Int)(r:Int×Int):Option (Int×Int×Int×Int):=l7 (C9 r.1 0) none (some (r.1,kind,i,r.2))
def LG(l:dJ)(i:Nat):Option (Int×Int×Int×Int):=match l.1[i]? with|some e=>Nc 1 i (OE l i e)|none=>none
def Ib(l:dJ):Int×Int×Int×Int:=l7 (H6 8 (o9 l.1)) (4,1,8,0) (match dU l.1.length (LG l)with|some r=>r|none=>(0,0,0,0))
def YO(l:dJ):Prop:=∀e∈l.1,e.1.length<=1000000/\∀m∈e.2,m.length<=1000000
theorem QI(h:Few l)(hE:YO l):vT l=some (Ib l):=by
 unfold vT Ib;cases H6 8 (o9 l.1)
 case true=>rfl
 simp only[o6];refine O6 (lZ (p:=LG l) l.1.length (by have:=h.1;omega) _ (0,0,0,0) (λi hi=>?_) ?_) ?_
 rotate_left 2
 .cases dU l.1.length (LG l)<;>rfl
 .have e:=lS hi;have hm:=hE _ (L8 hi);simp only[O0 e,o7,J7,e,o8,TB h (show i<=l.1.length by omega) _ hm.1 hm.2,LG,Nc];cases C9 (OE l i l.1[i]).1 0<;>rfl
 .rw[N9];rfl
variable {n:Nat}
theorem nX{p:Nat->Option ρ}{r:ρ}(h:dU n p=some r):∃i,i<n/\p i=some r:=by unfold dU at h;obtain⟨i,hi,hp⟩:=List.exists_of_findSome?_eq_some h;exact⟨i,fC.1 hi,hp⟩
theorem a3D(t:kF)(en:List dL):(GH t en).1=-1\/0<=(GH t en).1:=by
 unfold GH;cases H6 64 (o9 t.2.2.2)
 case true=>right;simp only[o7];decide
 cases vty t.2.1 en
 .left;rfl
 cases vty t.2.2.1 en
 .left;rfl
 right;simp only[o7,o6];cases hf:(List.range t.2.2.2.length).findSome? (Rh t en)with
 |none=>exact wZ _|some r=>
  obtain⟨i,hi,hp⟩:=nX (p:=Rh t en) hf;unfold Rh at hp;split at hp
  .rename_i x hx;cases hw:Ls x (bnd t.2.1 en) (bnd t.2.2.1 en)<;>rw[hw]at hp
   .cases ha:(t.2.2.2.take i).any λy=>tZ y x<;>rw[ha]at hp
    .cases hp
    .cases hp;show(0:Int)<=(i:Int);omega
   .cases hp;show(0:Int)<=(i:Int);omega
  .cases hp
def Qv(l:dJ)(i:Nat)(t:kF):Int×Int:=
 l7 (Ae t.1) (l7 (zY l 2 i t.1) (7,0) (l7 (C9 (GH t l.1).2 0) (0,0) ((GH t l.1).2,l7 (O9 0 (GH t l.1).1) (F6 .i64 100 (GH t l.1).1) 0))) (2,0)
def FH(l:dJ)(i:Nat):Option (Int×Int×Int×Int):=match l.2.1[i]? with|some t=>Nc 2 i (Qv l i t)|none=>none
def DR(l:dJ):Int×Int×Int×Int:=l7 (H6 8 (o9 l.2.1)) (4,2,8,0) (match dU l.2.1.length (FH l)with|some r=>r|none=>(0,0,0,0))
def UT(l:dJ):Prop:=∀t∈l.2.1,t.1.length<=1000000
theorem PR(h:Few l){t:kF}(he:l.2.1[i]? =some t)(h1:t.1.length<=1000000):sU l (i:Int)=some (Gv 2 i (Qv l i t)):=by
 unfold sU Qv;rw[J7,he,o8,jX h1,o8,a0j h,o8,a0c,o8];cases Ae t.1
 .rfl
 cases zY l 2 i t.1
 case true=>rfl
 simp only[I7,o6,o7];cases hz:C9 (GH t l.1).2 0
 case true=>rfl
 simp only[o6,Gv,hz];cases O9 0 (GH t l.1).1<;>rfl
theorem Oi(h:Few l)(hT:UT l):uq l=some (DR l):=by
 unfold uq DR;cases H6 8 (o9 l.2.1)
 case true=>rfl
 simp only[o6];refine O6 (lZ (p:=FH l) l.2.1.length (by have:=h.2.1;omega) _ (0,0,0,0) (λi hi=>?_) ?_) ?_
 rotate_left 2
 .cases dU l.2.1.length (FH l)<;>rfl
 .have e:=lS hi;have hm:=hT _ (L8 hi);simp only[O0 e,o7,J7,e,o8,a3E,nM hm,Ie _ (show l.1.length<=1000000 by have:=h.1;omega),vg (show i<=l.2.1.length by omega),
   LM _ (show(l.2.1.take i).length<=1000000 by have:=h.2.1;simp;omega),FH,Qv,zY]
  cases Ae l.2.1[i].1
  .rfl
  cases l.1.any λx=>seq x.1 l.2.1[i].1
  case true=>rfl
  cases (l.2.1.take i).any λx=>seq x.1 l.2.1[i].1
  case true=>rfl
  simp only[I7,o6,o7,o8,Bool.or_false];cases hz:C9 (GH l.2.1[i] l.1).2 0
  case true=>rfl
  simp only[Z7,o7,o6,Nc,hz];rcases a3D l.2.1[i] l.1 with hr|hr
  .rw[Z9 hr,aU (show(GH l.2.1[i] l.1).1<0 by omega)];simp only[I7,o6,o8,hz,Z7,o7]
  .rw[N7 (show(GH l.2.1[i] l.1).1≠-1 by omega),ah hr];simp only[Z7,o7,o8,hz]
 .rw[N9];rfl
theorem Xx(l:List α)(g:α->β)(hl:l.length<=1000000){f:List β×Int->Option ((List β×Int)⊕ε)}{F:List β->ε}
  (hin:∀(i:Nat) (a:α) (acc:List β),l[i]? =some a->acc.length=i->f (acc,(i:Int))=some (.inl (acc++[g a],F6 .i64 (i:Int) 1))) (hend:∀acc,f (acc,(l.length:Int))=some (.inr (F acc))):
  dK f ([],0)=some (F (l.map g)):=by
 obtain⟨e,h1,h2⟩:=qg (f:=f) (s:=([],0)) (λx=>∃i:Nat,x=((l.take i).map g,(i:Int))/\i<=l.length) (λe=>e=F (l.map g)) (λx=>l.length -x.2.toNat) ⟨0,rfl,o5⟩ E5 (by
  rintro x ⟨i,rfl,hi⟩;by_cases h:i<l.length
  .have e:=lS h;refine .inl ⟨((l.take (i+1)).map g,((i+1:Nat):Int)),?_,⟨i+1,rfl,h⟩,by simp;omega⟩;rw[hin i _ _ e E5,dn o5,Z8 h,gm];rfl
  .have:i=l.length:=o5;subst this;refine .inr ⟨_,hend _,?_⟩;rw[bU])
 rw[h1,h2]
theorem Bq{l:List jh}(h:l.length<=1000000):pq l=some (l.map (·.2)):=by
 unfold pq;rw[ui];refine Xx (F:=id) l (λx=>x.2) h (λi a acc ha hacc=>?_) (λacc=>?_)
 .have hi:=(ax.1 ha).1;simp only[O0 ha,o7,J7,ha,o8];rw[Gg (by simp[hacc];omega)];rfl
 .simp only[N9];rfl
def IL(l:dJ):Prop:=∀s∈l.2.2,s.1.length<=1000000/\s.2.2.1.length<=1000/\s.2.2.2.1.length<=1000/\s.2.2.2.2.length<=1000
def Ri(l:dJ)(s:P5):List dL×List kF×List (Int×Int)×List (Int×Int)×List (Int×Int)×Bool:=
 match(if 0<=s.2.1 then l.2.2[s.2.1.toNat]? else none)with
 |some k=>(l.1,l.2.1,s.2.2.1.map (·.2),s.2.2.2.1.map (·.2),k.2.2.2.1.map (·.2),true)|none=>(l.1,l.2.1,s.2.2.1.map (·.2),s.2.2.2.1.map (·.2),[],false)
theorem zX(h:IL l){s:P5}(hs:l.2.2[i]? =some s):lH l (i:Int)=some (Ri l s):=by
 have hm:=h s (oV hs);unfold lH Ri;rw[J7,hs,o8,Bq o5,o8,Bq o5,o8];by_cases h0:0<=s.2.1
 .rw[ah h0,if_pos h0,o7];by_cases h1:s.2.1<o9 l.2.2
  .obtain⟨k,hk,hkm⟩:=oZ h0 h1;have hk' :l.2.2[s.2.1.toNat]? =some k:=(jd hk).2.2.2;rw[bg h1,o7,hk,o8,Bq (by have:=h k hkm;omega),o8,hk']
  .have h1' :o9 l.2.2<=s.2.1:=qA.1 h1;rw[au h1',o6,fZ (by simp only[o9]at h1';exact Int.le_toNat h0 |>.2 h1')]
 .have h0' :s.2.1<(0:Int):=qy.1 h0;rw[aU h0',if_neg h0];rfl
theorem Rf(h:IL l){s:P5}(hs:l.2.2[i]? =some s):uw l (i:Int)=some (Ri l s):=by have hi:=(ax.1 hs).1;rw[←zX h hs];unfold uw lH;rw[au o5,aU (by simp only[o9];omega)];rfl
abbrev SI(l:List Int):Prop:=l.Pairwise (·< ·)
theorem Yq:∀{a b:List Int},SI a->SI b->(∀x,x∈a↔x∈b)->a=b
 |[],[],_,_,_=>rfl|[],y::b,_,_,h=>absurd ((h y).2 x9) x9|x::a,[],_,_,h=>absurd ((h x).1 x9) x9|x::a,y::b,ha,hb,h=>by
  have ha' :=P9.1 ha;have hb' :=P9.1 hb;have hxy:x=y:=by
   rcases D6.1 ((h x).1 x9)with h1|h1
   .exact h1
   .rcases D6.1 ((h y).2 x9)with h2|h2
    .exact h2.symm
    .have:=hb'.1 _ h1;have:=ha'.1 _ h2;omega
  subst hxy;congr 1;refine Yq ha'.2 hb'.2 λz=>⟨λhz=>?_,λhz=>?_⟩
  .rcases D6.1 ((h z).1 (by simp[hz]))with h1|h1
   .have:=ha'.1 _ hz;omega
   .exact h1
  .rcases D6.1 ((h z).2 (by simp[hz]))with h1|h1
   .have:=hb'.1 _ hz;omega
   .exact h1
def ins(n:Int):List Int->List Int
 |[]=>[n]|a::l=>if n<=a then(if n<a then n::a::l else a::l)else a::ins n l
theorem TW(n x:Int):∀l,x∈ins n l↔x=n\/x∈l
 |[]=>by simp[ins]|a::l=>by
  unfold ins;by_cases h:n<=a
  .rw[if_pos h];by_cases h2:n<a
   .rw[if_pos h2];simp
   .rw[if_neg h2];have:n=a:=o5;subst this;simp
  .rw[if_neg h,D6,TW n x l,D6];constructor
   .rintro(h|h|h)<;>simp[h]
   .rintro(h|h|h)<;>simp[h]
theorem a2H(n:Int):∀{l},SI l->SI (ins n l)
 |[],_=>List.pairwise_singleton _ _|a::l,h=>by
  have h' :=P9.1 h;unfold ins;by_cases h1:n<=a
  .rw[if_pos h1];by_cases h2:n<a
   .rw[if_pos h2];refine P9.2 ⟨λx hx=>?_,h⟩;rcases D6.1 hx with rfl|hx
    .exact h2
    .have:=h'.1 x hx;omega
   .rw[if_neg h2];exact h
  .rw[if_neg h1];refine P9.2 ⟨λx hx=>?_,a2H n h'.2⟩;rcases(TW n x l).1 hx with rfl|hx
   .omega
   .exact h'.1 x hx
def BA(ns:List Int)(l:List Int):List Int:=ns.foldl (λacc n=>ins n acc) l
theorem Jj(x:Int):∀ns l,x∈BA ns l↔x∈ns\/x∈l
 |[],l=>by simp[BA]|n::ns,l=>by
  show x∈BA ns (ins n l)↔_;rw[Jj x ns,TW,D6];constructor
  .rintro(h|h|h)<;>simp[h]
  .rintro((h|h)|h)<;>simp[h]
theorem NK:∀ns {l},SI l->SI (BA ns l)
 |[],_,h=>h|n::ns,_,h=>NK ns (a2H n h)
theorem LU(a b l:List Int):BA (a++b) l=BA b (BA a l):=List.foldl_append ..
def IG(l:List Int):List Int:=BA l []
theorem VD(x:Int)(l:List Int):x∈IG l↔x∈l:=by unfold IG;rw[Jj];simp
theorem ZR(l:List Int):SI (IG l):=NK l List.Pairwise.nil
theorem uH(n:Int):∀l,(ins n l).length<=l.length+1
 |[]=>by simp[ins]|a::l=>by
  unfold ins;by_cases h1:n<=a
  .rw[if_pos h1];by_cases h2:n<a
   .rw[if_pos h2];simp
   .rw[if_neg h2];simp
  .rw[if_neg h1];have:=uH n l;simp only[H5];omega
theorem AB:∀ns l,(BA ns l).length<=l.length+ns.length
 |[],l=>by simp[BA]|n::ns,l=>by have h1:=AB ns (ins n l);have h2:=uH n l;show(BA ns (ins n l)).length<=_;simp only[H5];omega
theorem Vz(l:List Int):(IG l).length<=l.length:=by have:=AB l [];unfold IG;simpa using this
theorem UA{l:List Int}(n:Nat)(h:SI l)(h2:∀x∈l,0<=x/\x<n):l.length<=n:=by
 have key:∀(l:List Int) (lo:Int),SI l->(∀x∈l,lo<=x/\x<n)->lo<=n->(l.length:Int)<=n -lo:=by
  intro l;induction l with
  |nil=>intro lo _ _ hlo;simp;omega|cons a l ih=>intro lo hs hb hlo;have h' :=P9.1 hs;have ha:=hb a x9;have:=ih (a+1) h'.2 (λx hx=>⟨by have:=h'.1 x hx;omega,(hb x (by simp[hx])).2⟩) o5;simp only[H5];omega
 have:=key l 0 h (λx hx=>h2 x hx) o5;omega
theorem Ot(x:Int):∀(l:List Int) (p:Int),(p::l).Pairwise (·<=·)->SI (p::ddp p l)/\(x∈p::ddp p l↔x∈p::l)
 |[],p,_=>⟨List.pairwise_singleton _ _,Iff.rfl⟩|a::l,p,h=>by
  have h1:=P9.1 h;obtain⟨i1,i2⟩:=Ot x l a h1.2;have h2:=P9.1 h1.2;have hpa:=h1.1 a x9;unfold ddp;cases hq:C9 a p
  .rw[Ig]at hq;simp only[cond_false];refine⟨P9.2 ⟨λy hy=>?_,i1⟩,?_⟩
   .rcases D6.1 hy with rfl|hy
    .omega
    .have:=(P9.1 i1).1 y hy;omega
   .rw[D6,i2,D6 (a:=x) (b:=p)]
  .rw[nC]at hq;subst hq;simp only[cond_true];refine⟨i1,?_⟩;rw[i2];simp
theorem a0H(l:List Int):dd (EK l)=IG l:=by
 have hs:=Dp l;have hp:=Dn l;refine Yq ?_ (ZR l) λx=>?_
 .cases he:EK l with
  |nil=>exact List.Pairwise.nil|cons a r=>rw[he]at hs;exact(Ot a r a hs).1
 .rw[VD,←hp.mem_iff];cases he:EK l with
  |nil=>exact Iff.rfl|cons a r=>rw[he]at hs;exact(Ot x r a hs).2
theorem z_(l:List Int):(EK l).length=l.length:=(Dn l).length_eq
theorem a5f{l:List Int}(h:l.length<=1000000):l9 (zh l) (λx=>nU x)=some (IG l):=by unfold zh nU;rw[show Nat.blt l.length 4611686018427387904=true from by simp[Nat.blt];omega];simp only[cond_true,o8];rw[show Nat.blt (EK l).length 4611686018427387904=true from by rw[z_];simp[Nat.blt];omega];rw[cond_true,a0H]
def hg(l:List Int)(i:Nat):Int:=l.getD i 0
theorem JL{l:List α}{a:α}(h:(l.take n)[i]? =some a):i<n/\l[i]? =some a:=by
 rw[P8]at h;split at h
 .exact⟨by assumption,h⟩
 .cases h
theorem Dw{l:List jh}(hl:l.length<=1000000)(n:Nat)(nm:List UInt8):pM l (n:Int) nm=some ((l.take n).any λx=>seq x.1 nm):=by
 unfold pM;refine O6 (yB (l.take n) (λx=>seq x.1 nm) true PUnit.unit E5 (λi a ha=>?_) ?_) ?_
 rotate_left 2
 .cases (l.take n).any λx=>seq x.1 nm<;>rfl
 .obtain⟨h1,h2⟩:=JL ha;rw[bg (show(i:Int)<n by omega),O0 h2,J7,h2];simp only[o7,o8];cases seq a.1 nm<;>rfl
 .by_cases h:n<l.length
  .have e:(l.take n).length=n:=by simp;omega
   rw[e,au o5];rfl
  .have e:(l.take n).length=l.length:=by simp;omega
   rw[e,N9];cases H6 (l.length:Int) (n:Int)<;>rfl
def EH(en:List dL)(f:jh)(a b:List jh):Int:=
 l7 (Ae f.1) (l7 (a.any λx=>seq x.1 f.1) 7 (l7 (b.any λx=>seq x.1 f.1) 7 (l7 (vty f.2 en) 0 8))) 2
theorem GN{f:jh}{a b:List jh}(h:f.1.length<=1000000)(ha:a.length<=1000000)(hb:b.length<=1000000):rC l f a b=some (EH l.1 f a b):=by
 unfold rC EH;rw[nM h,o8,LK _ ha,o8,LK _ hb,o8,tu,o8];cases Ae f.1
 .rfl
 cases a.any λx=>seq x.1 f.1
 case true=>rfl
 cases b.any λx=>seq x.1 f.1
 case true=>rfl
 cases vty f.2 l.1<;>rfl
def OG(c e:Int):Option (Int×Int):=l7 (C9 c 0) none (some (c,e))
def inP(l:dJ)(s:P5)(i:Nat):Option (Int×Int):=match s.2.2.1[i]? with|some f=>OG (EH l.1 f (s.2.2.1.take i) []) (100+i:Nat)|none=>none
def Vf(l:dJ)(s:P5)(i:Nat):Option (Int×Int):=match s.2.2.2.1[i]? with|some f=>OG (EH l.1 f s.2.2.1 (s.2.2.2.1.take i)) (200+i:Nat)|none=>none
def UQ(s:P5):Prop:=(∀f∈s.2.2.1,f.1.length<=1000000)/\(∀f∈s.2.2.2.1,f.1.length<=1000000)
theorem LP{c i:Nat}(hc:c<=1000)(h:i<=1000000):F6 .i64 (c:Int) (i:Int)=((c+i:Nat):Int):=by rw[jJ b6j];omega
def MX(i:Int)(r:Int×Int):Int×Int×Int×Int:=(r.1,3,i,r.2)
theorem Az{ρ ρ' :Type}(g:ρ->ρ')(n:Nat)(p:Nat->Option ρ):dU n (λi=>(p i).map g)=(dU n p).map g:=by
 unfold dU;induction n with
 |zero=>rfl|succ n ih=>rw[eF,jo,jo,ih];cases (List.range n).findSome? p<;>simp
def Dh(l:dJ)(s:P5):Option (Int×Int):=match dU s.2.2.1.length (inP l s)with|some r=>some r|none=>dU s.2.2.2.1.length (Vf l s)
theorem PP{s:P5}(hs:l.2.2[i]? =some s)(h1:s.2.2.1.length<=1000)(h2:s.2.2.2.1.length<=1000)(hf:UQ s):
  sO l (i:Int)=some (match Dh l s with|some r=>MX i r|none=>(0,0,0,0)):=by
 unfold sO Dh;rw[J7,hs,o8];refine O6 (lZ (p:=λk=>(inP l s k).map (MX i)) s.2.2.1.length o5 _ (0,0,0,0) (λk hk=>?_) ?_) ?_
 rotate_left 2
 .rw[Az];cases dU s.2.2.1.length (inP l s)
  case some r=>rfl
  simp only[Option.map_none,U1];refine O6 (lZ (p:=λk=>(Vf l s k).map (MX i)) s.2.2.2.1.length o5 _ (0,0,0,0) (λk hk=>?_) ?_) ?_
  rotate_left 2
  .rw[Az];cases dU s.2.2.2.1.length (Vf l s)<;>rfl
  .have e:=lS hk;have hm:=hf.2 _ (L8 hk);simp only[O0 e,o7,J7,e,o8,jX hm,show o9 s.2.2.1=((s.2.2.1.length:Nat):Int)from rfl,Dw (show s.2.2.1.length<=1000000 by omega),Dw (show s.2.2.2.1.length<=1000000 by omega),gU,Vf,EH,OG,bU];rw[show(200:Int)=((200:Nat):Int)from rfl,LP o5 o5];cases Ae s.2.2.2.1[k].1
   .rfl
   cases s.2.2.1.any λx=>seq x.1 s.2.2.2.1[k].1
   case true=>rfl
   cases (s.2.2.2.1.take k).any λx=>seq x.1 s.2.2.2.1[k].1
   case true=>rfl
   cases vty s.2.2.2.1[k].2 l.1<;>rfl
  .simp only[N9];rfl
 .have e:=lS hk;have hm:=hf.1 _ (L8 hk);simp only[O0 e,o7,J7,e,o8,jX hm,Dw (show s.2.2.1.length<=1000000 by omega),gU,inP,EH,OG];rw[show(100:Int)=((100:Nat):Int)from rfl,LP o5 o5];cases Ae s.2.2.1[k].1
  .rfl
  cases (s.2.2.1.take k).any λx=>seq x.1 s.2.2.1[k].1
  case true=>rfl
  cases vty s.2.2.1[k].2 l.1<;>rfl
 .simp only[N9];rfl
def arF(op:Int):Int:=(gy op).getD 0
variable {op:Int}
theorem PI(h:1<=op/\op<=39):∃k:Fin 40,op=(k.val:Int):=⟨⟨op.toNat,o5⟩,by simp;omega⟩
theorem a9A:∀k:Fin 40,1<=k.val->(jl (k.val:Int)=gy (k.val:Int))/\(gy (k.val:Int)=some 0\/gy (k.val:Int)=some 1\/gy (k.val:Int)=some 2\/gy (k.val:Int)=some 3):=by decide+kernel
theorem TQ(h:¬(1<=op/\op<=39))(k:Int)(h1:1<=k)(h2:k<=39):C9 op k=false:=N7 o5
theorem Ui(h:¬(1<=op/\op<=39)):gy op=some (-1):=by
 unfold gy;by_cases h1:1<=op
 .rw[ah h1,o7,aU (show(9:Int)<op by omega),o6,aU (show(39:Int)<op by omega),aU (show(30:Int)<op by omega)];simp[TQ h];cases O9 35 op<;>cases O9 11 op<;>rfl
 .rw[aU (show op<1 by omega),o6,aU (show op<35 by omega),aU (show op<11 by omega)];simp[TQ h]
theorem a6p(h:¬(1<=op/\op<=39)):jl op=some (-1):=by unfold jl;simp[TQ h]
theorem BK(op:Int):jl op=some (arF op)/\gy op=some (arF op)/\(arF op=-1\/arF op=0\/arF op=1\/arF op=2\/arF op=3):=by
 unfold arF;by_cases h:1<=op/\op<=39
 .obtain⟨k,rfl⟩:=PI h;obtain⟨h1,h2⟩:=a9A k o5;rcases h2 with h2|h2|h2|h2<;>rw[h1,h2]<;>simp
 .rw[a6p h,Ui h];simp
theorem a0z(op:Int):jl op=some (arF op):=(BK op).1
theorem XY(op:Int):gy op=some (arF op):=(BK op).2.1
inductive XT where
 |l0 (n:Int×Int)|l1 (n:Int×Int) (a:XT)|l2 (n:Int×Int) (a b:XT)|l3 (n:Int×Int) (a b c:XT)
def XT.size:XT->Nat
 | .l0 _=>1| .l1 _ a=>a.size+1| .l2 _ a b=>a.size+b.size+1| .l3 _ a b c=>a.size+b.size+c.size+1
def XT.post:XT->List (Int×Int)
 | .l0 n=>[n]| .l1 n a=>a.post++[n]| .l2 n a b=>a.post++b.post++[n]| .l3 n a b c=>a.post++b.post++c.post++[n]
def XT.sts(o:Nat):XT->List Int
 | .l0 _=>[(o:Int)]| .l1 _ a=>a.sts o++[(o:Int)]| .l2 _ a b=>a.sts o++b.sts (o+a.size)++[(o:Int)]| .l3 _ a b c=>a.sts o++b.sts (o+a.size)++c.sts (o+a.size+b.size)++[(o:Int)]
theorem XT.size_pos(t:XT):0<t.size:=by cases t<;>simp[XT.size]
theorem XT.post_len(t:XT):t.post.length=t.size:=by
 induction t with
 |l0 n=>rfl|l1 n a ha=>simp[XT.post,XT.size,ha]|l2 n a b ha hb=>simp[XT.post,XT.size,ha,hb];try omega
 |l3 n a b c ha hb hc=>simp[XT.post,XT.size,ha,hb,hc];try omega
theorem XT.sts_len(t:XT):∀o,(t.sts o).length=t.size:=by
 induction t with
 |l0 n=>intro o;rfl|l1 n a ha=>intro o;simp[XT.sts,XT.size,ha]|l2 n a b ha hb=>intro o;simp[XT.sts,XT.size,ha,hb];try omega
 |l3 n a b c ha hb hc=>intro o;simp[XT.sts,XT.size,ha,hb,hc];try omega
def fP:List XT->Nat
 |[]=>0|t::r=>fP r+t.size
def Eb:List XT->List (Int×Int)
 |[]=>[]|t::r=>Eb r++t.post
def stR:List XT->List Int
 |[]=>[]|t::r=>stR r++t.sts (fP r)
def kP:List XT->List Int
 |[]=>[]|t::r=>kP r++[(fP r:Int)]
theorem kN:∀ts,(kP ts).length=ts.length
 |[]=>rfl|t::r=>by simp[kP,kN r]
theorem yP:∀ts,(stR ts).length=fP ts
 |[]=>rfl|t::r=>by simp[stR,fP,yP r,XT.sts_len]
theorem Gl:∀ts,(Eb ts).length=fP ts
 |[]=>rfl|t::r=>by simp[Eb,fP,Gl r,XT.post_len]
def push(n:Int×Int)(ts:List XT):Int⊕List XT:=
 if arF n.1=0 then .inr (.l0 n::ts)
 else if arF n.1=1 then(match ts with|a::r=> .inr (.l1 n a::r)|_=> .inl 5)
 else if arF n.1=2 then(match ts with|b::a::r=> .inr (.l2 n a b::r)|_=> .inl 5)
 else if arF n.1=3 then(match ts with|c::b::a::r=> .inr (.l3 n a b c::r)|_=> .inl 5)
 else .inl 2
def qK:Nat->List (Int×Int)->List XT->(Int×Int)⊕List XT
 |_,[],ts=> .inr ts
 |i,n::es,ts=>match push n ts with
  | .inl c=> .inl ((i:Int),c)| .inr ts' =>if 12<ts'.length then .inl ((i:Int),16)else qK (i+1) es ts'
def jI(e:List (Int×Int)):(Int×Int)⊕XT:=
 if 48<e.length then .inl (0,4)else if e.length=0 then .inl (0,5)else
  match qK 0 e []with
  | .inl x=> .inl x| .inr [t]=> .inr t| .inr _=> .inl ((e.length:Int),4)
theorem SH{n:Int×Int}{ts ts' :List XT}(h:push n ts= .inr ts'):Eb ts' =Eb ts++[n]/\ts' ≠[]:=by
 unfold push at h;split at h
 .cases h;exact⟨rfl,x9⟩
 split at h
 .split at h
  .cases h;exact⟨by simp[Eb,XT.post],x9⟩
  .cases h
 split at h
 .split at h
  .cases h;exact⟨by simp[Eb,XT.post],x9⟩
  .cases h
 split at h
 .split at h
  .cases h;exact⟨by simp[Eb,XT.post],x9⟩
  .cases h
 .cases h
theorem Gn{n:Int×Int}{ts ts' :List XT}(h:push n ts= .inr ts'):fP ts' =fP ts+1:=by rw[←Gl,←Gl,(SH h).1];simp
theorem Dv:∀(es:List (Int×Int)) (i:Nat) (ts ts' :List XT),qK i es ts= .inr ts' ->Eb ts' =Eb ts++es/\(ts≠[]\/es≠[]->ts' ≠[])
 |[],i,ts,ts',h=>by cases h;exact⟨x9,x9⟩|n::es,i,ts,ts',h=>by
  unfold qK at h;cases hp:push n ts with
  |inl c=>rw[hp]at h;cases h|inr t2=>
   rw[hp]at h;simp only at h;split at h
   .cases h
   .obtain⟨h1,h2⟩:=Dv es (i+1) t2 ts' h;obtain⟨h3,h4⟩:=SH hp;exact⟨by rw[h1,h3];simp,λ_=>h2 (.inl h4)⟩
theorem rV{e:List (Int×Int)}{t:XT}(h:jI e= .inr t):e=t.post/\e.length<=48:=by
 unfold jI at h;split at h
 .cases h
 split at h
 .cases h
 split at h
 .cases h
 .rename_i t' hp;cases h;have:=(Dv e 0 [] [t] hp).1;exact⟨by simpa[Eb]using this.symm,o5⟩
 .cases h
theorem MV(e:List (Int×Int))(he:e.length<=48)(g:List XT->σ)(fin:List XT->ε)(rt:Int×Int->ρ){f:σ->Option (Out σ ε ρ)}
  (hs:∀(i:Nat) (n:Int×Int) (ts:List XT),e[i]? =some n->i=fP ts->ts.length<=12->f (g ts)=some (match push n ts with
   | .inl c=> .rt (rt ((i:Int),c))
   | .inr ts' =>if 12<ts'.length then .rt (rt ((i:Int),16))else .nx (g ts')))
  (hend:∀ts,fP ts=e.length->f (g ts)=some (.ex (fin ts))):
  U0 f (g [])=some (match qK 0 e []with| .inl x=> .inr (rt x)| .inr ts=> .inl (fin ts)):=by
 have key:∀(es:List (Int×Int)) (i:Nat) (ts:List XT) (k:Nat),e.drop i=es->i=fP ts->ts.length<=12->i<=e.length->es.length<k->
   jr f k (g ts)=some (match qK i es ts with| .inl x=> .inr (rt x)| .inr ts=> .inl (fin ts)):=by
  intro es;induction es with
  |nil=>
   intro i ts k hd hi hl hle hk;obtain⟨k,rfl⟩:∃k',k=k' +1:=⟨k -1,o5⟩;have:i=e.length:=by have:=congrArg List.length hd;simp at this;omega
   unfold jr;rw[hend ts o5];rfl
  |cons n es ih=>
   intro i ts k hd hi hl hle hk;obtain⟨k,rfl⟩:∃k',k=k' +1:=⟨k -1,o5⟩;have hn:e[i]? =some n:=by
    have:(e.drop i)[0]? =some n:=by rw[hd];rfl
    simpa using this
   have hlt:=(ax.1 hn).1;unfold jr;rw[hs i n ts hn hi hl];unfold qK;cases hp:push n ts with
   |inl c=>rfl|inr ts' =>
    simp only;by_cases h12:12<ts'.length
    .rw[if_pos h12,if_pos h12]
    .rw[if_neg h12,if_neg h12];exact ih (i+1) ts' k (by rw[←U8,hd];rfl) (by rw[Gn hp,hi]) o5 o5 (by simp at hk;omega)
 exact key e 0 [] fQ rfl rfl x9 o5 (by unfold fQ;omega)
theorem VH:∀(p r:List XT),∃X,kP (p++r)=kP r++X/\X.length=p.length/\(p≠[]->X.head?=some (fP r:Int))
 |[],r=>⟨[],x9,rfl,λh=>absurd rfl h⟩|a::p,r=>by
  obtain⟨X,h1,h2,h3⟩:=VH p r;refine⟨X++[(fP (p++r):Int)],?_,by simp[h2],λ_=>?_⟩
  .show kP (p++r)++[(fP (p++r):Int)]=_;rw[h1,E8]
  .cases p with
   |nil=>simp at h2;subst h2;rfl|cons b p=>rw[List.head?_append,h3 x9];rfl
theorem KL(p r:List XT)(k:Int)(hk:k=(p.length:Int))(h:p.length+r.length<=100)(hp:p≠[]):
  X9 .i64 (o9 (kP (p++r))) k=(r.length:Int)/\J9 (kP (p++r)) (r.length:Int)=some (fP r:Int)/\dW (kP (p++r)) (df (r.length:Int))=some (fP r:Int)
  /\jC 0 (r.length:Int) (o9 (kP (p++r)))=true/\iF (kP (p++r)) (df 0) (df (r.length:Int))=kP r:=by
 obtain⟨X,h1,h2,h3⟩:=VH p r;have hl:(kP (p++r)).length=r.length+p.length:=by rw[kN];simp;omega
 have hg:(kP (p++r))[r.length]? =some (fP r:Int):=by rw[h1,H9 (by rw[kN];omega),kN,fH,←List.head?_eq_getElem?];exact h3 hp
 refine⟨?_,?_,?_,?_,?_⟩
 .simp only[o9,hl];rw[fF b6j];omega
 .rw[J7];exact hg
 .exact hg
 .simp only[jC,o9,hl,decide_eq_true_eq];omega
 .show((kP (p++r)).take r.length).drop 0=_;rw[h1,lG,V9 (by rw[kN];omega),O5 (by rw[kN];omega)]
theorem LQ(ts:List XT):H6 12 (o9 (kP ts))=decide (12<ts.length):=by rw[show o9 (kP ts)=((ts.length:Nat):Int) by simp[o9,kN]];exact Ja 12 ts.length
theorem kw{l:List α}(x:α)(h:l.length<=1000000):bH l [x]=some (l++[x]):=Gg E5
theorem BU(ts:List XT)(k:Nat):H6 (o9 (kP ts)) (k:Int)=decide (ts.length<k):=by rw[show o9 (kP ts)=((ts.length:Nat):Int) by simp[o9,kN]];exact Ja _ _
def qN(e:List (Int×Int)):List Int×Int×Int:=match jI e with| .inl x=>([],x)| .inr t=>(t.sts 0,0,0)
theorem SC{e:List (Int×Int)}(h0:e.length≠0){K:List Int×Int×Int->List Int×Int×Int}(h48:¬48<e.length)
  {r:List Int×Int×Int} (h:∀ts,qK 0 e []= .inr ts->r=l7 (H6 1 (o9 (kP ts))) ([],o9 e,4) (stR ts,0,0)) (hi:∀x,qK 0 e []= .inl x->r=([],x)):r=qN e:=by
 unfold qN jI;rw[if_neg h48,if_neg h0];cases hp:qK 0 e []with
 |inl x=>exact hi x hp|inr ts=>
  rw[h ts hp];have:=(Dv e 0 [] ts hp).2 (.inr (by intro he;subst he;exact h0 rfl));match ts,this with
  |[t],_=>simp[kP,o9,H6,stR,fP]|a::b::ts,_=>rw[bg (by simp[o9,kN];omega)];rfl
theorem BF(e:List (Int×Int)):nR e=some (qN e):=by
 unfold nR;by_cases h48:48<e.length
 .rw[bg (by simp[o9];omega),o7];unfold qN jI;rw[if_pos h48]
 by_cases h0:e.length=0
 .rw[au (by simp[o9];omega),o6,Z9 (by simp[o9,h0]),o7];unfold qN jI;rw[if_neg h48,if_pos h0]
 rw[au (by simp[o9];omega),o6,N7 (by simp[o9];intro h;exact h0 (by simp[h])),o6];refine O6 (MV e o5 (λts=>(stR ts,kP ts,(fP ts:Int))) (λts=>(stR ts,kP ts)) (λx=>(([]:List Int),x)) (λi n ts hn hi hl=>?_) (λts hsz=>?_)) ?_
 rotate_left 2
 .rw[←SC h0 h48 (K:=id) (r:=match qK 0 e []with| .inl x=>([],x)| .inr ts=>l7 (H6 1 (o9 (kP ts))) ([],o9 e,4) (stR ts,0,0)) (λts h=>by rw[h]) (λx h=>by rw[h])];cases qK 0 e []with
  |inl x=>rfl|inr ts=>simp only[o8,U1];cases H6 1 (o9 (kP ts))<;>rfl
 .subst hi;have hlt:=(ax.1 hn).1;have hst:=yP ts;have hof:=kN ts;simp only[O0 hn,o7,J7,hn,o8,XY];rcases(BK n.1).2.2 with h|h|h|h|h
  .rw[show push n ts= .inl 2 by simp[push,h],h];rfl
  .rw[show push n ts= .inr (.l0 n::ts) by simp[push,h],h,au o5,o6,au (EQ _),o6,o6,kw _ o5,o8,kw _ o5,o8,dn o5];rw[show kP ts++[(fP ts:Int)]=kP (.l0 n::ts)from rfl,LQ];by_cases hc:12<(XT.l0 n::ts).length
   .simp only[hc,decide_true,if_true,o7]
   .simp only[hc,decide_false,if_false,o6];rfl
  .match ts with
   |[]=>rw[show push n []= .inl 5 by simp[push,h],h];rfl|a::r=>
    obtain⟨p1,p2,p3,p4,p5⟩:=KL [a] r 1 rfl (by simp at hl ⊢;omega) x9;simp only[X0,I5]at p1 p2 p3 p4 p5;have:=yP (a::r);have:=kN r;simp only[H5]at hl;rw[show push n (a::r)= .inr (.l1 n a::r) by simp[push,h],h,au o5,o6,show(1:Int)=((1:Nat):Int)from rfl,BU,show decide ((a::r).length<1)=false by simp];simp only[Int.natCast_one]at p1 ⊢;rw[o6,bg o5,o7,p1,p2,o8,p3,o8,p4,o7,p5,kw _ o5,o8,kw _ o5,o8,dn o5];rw[show kP r++[(fP r:Int)]=kP (.l1 n a::r)from rfl,LQ];by_cases hc:12<(XT.l1 n a::r).length
    .simp only[hc,decide_true,if_true,o7]
    .simp only[hc,decide_false,if_false,o6,stR,XT.sts,E8,fP,XT.size,eU]
  .match ts with
   |[]=>rw[show push n []= .inl 5 by simp[push,h],h];rfl|[a]=>rw[show push n [a]= .inl 5 by simp[push,h],h];rfl|b::a::r=>
    obtain⟨p1,p2,p3,p4,p5⟩:=KL [b,a] r 2 rfl (by simp at hl ⊢;omega) x9;simp only[X0,I5]at p1 p2 p3 p4 p5;have:=yP (b::a::r);have:=kN r;simp only[H5]at hl;rw[show push n (b::a::r)= .inr (.l2 n a b::r) by simp[push,h],h,au o5,o6,show(2:Int)=((2:Nat):Int)from rfl,BU,show decide ((b::a::r).length<2)=false by simp];rw[o6,bg o5,o7,show((2:Nat):Int)=2 from rfl,p1,p2,o8,p3,o8,p4,o7,p5,kw _ o5,o8,kw _ o5,o8,dn o5];rw[show kP r++[(fP r:Int)]=kP (.l2 n a b::r)from rfl,LQ];by_cases hc:12<(XT.l2 n a b::r).length
    .simp only[hc,decide_true,if_true,o7]
    .simp only[hc,decide_false,if_false,o6,stR,XT.sts,E8,fP,XT.size,eU]
  .match ts with
   |[]=>rw[show push n []= .inl 5 by simp[push,h],h];rfl|[a]=>rw[show push n [a]= .inl 5 by simp[push,h],h];rfl|[b,a]=>rw[show push n [b,a]= .inl 5 by simp[push,h],h];rfl|c::b::a::r=>
    obtain⟨p1,p2,p3,p4,p5⟩:=KL [c,b,a] r 3 rfl (by simp at hl ⊢;omega) x9;simp only[X0,I5]at p1 p2 p3 p4 p5;have:=yP (c::b::a::r);have:=kN r;simp only[H5]at hl;rw[show push n (c::b::a::r)= .inr (.l3 n a b c::r) by simp[push,h],h,au o5,o6,show(3:Int)=((3:Nat):Int)from rfl,BU,show decide ((c::b::a::r).length<3)=false by simp];rw[o6,bg o5,o7,show((3:Nat):Int)=3 from rfl,p1,p2,o8,p3,o8,p4,o7,p5,kw _ o5,o8,kw _ o5,o8,dn o5];rw[show kP r++[(fP r:Int)]=kP (.l3 n a b c::r)from rfl,LQ];by_cases hc:12<(XT.l3 n a b c::r).length
    .simp only[hc,decide_true,if_true,o7]
    .simp only[hc,decide_false,if_false,o6,stR,XT.sts,E8,fP,XT.size,eU]
 .simp only[hsz,N9];rfl
def pd(l:List Int)(k:Nat):List Int:=l++List.replicate k 0
theorem a1A(l:List Int)(m:Nat):J9 (pd l (m+1)) (l.length:Int)=some 0:=by rw[J7];unfold pd;rw[H9 o5,fH];rfl
theorem a4x(l:List Int)(m:Nat):dW (pd l (m+1)) (df (l.length:Int))=some 0:=by have:=a1A l m;rw[J7]at this;exact this
theorem a6I(l:List Int)(m:Nat)(v:Int):tX (pd l (m+1)) (df (l.length:Int)) v=pd (l++[v]) m:=by show(l++List.replicate (m+1) 0).set l.length v=_;rw[mV _ _ o5,fH,List.replicate_succ];simp[pd]
theorem ND(l:List Int)(m:Nat)(v w:Int):tX (pd (l++[v]) m) (df (l.length:Int)) w=pd (l++[w]) m:=by show(l++[v]++List.replicate m 0).set l.length w=_;rw[E8,mV _ _ o5,fH];simp[pd]
theorem Js(l:List Int)(m:Nat)(v:Int):J9 (pd (l++[v]) m) (l.length:Int)=some v:=by rw[J7];unfold pd;rw[E8,H9 o5,fH];rfl
theorem Jt(l:List Int)(m:Nat)(v:Int):dW (pd (l++[v]) m) (df (l.length:Int))=some v:=by have:=Js l m v;rw[J7]at this;exact this
theorem JK(e:List (Int×Int)):qY e=some (qN e):=by
 unfold qY;by_cases h48:48<e.length
 .rw[bg (by simp[o9];omega),o7];unfold qN jI;rw[if_pos h48]
 by_cases h0:e.length=0
 .rw[au (by simp[o9];omega),o6,Z9 (by simp[o9,h0]),o7];unfold qN jI;rw[if_neg h48,if_pos h0]
 rw[au (by simp[o9];omega),o6,N7 (by simp[o9];intro h;exact h0 (by simp[h])),o6];rw[show ER (o9 e) (0:Int)=some (pd (stR []) (e.length -fP [])) by simp[ER,o9,pd,stR,fP];omega,o8];refine O6 (MV e o5 (λts=>(pd (stR ts) (e.length -fP ts),kP ts,(fP ts:Int))) (λts=>(pd (stR ts) (e.length -fP ts),kP ts)) (λx=>(([]:List Int),x)) (λi n ts hn hi hl=>?_) (λts hsz=>?_)) ?_
 rotate_left 2
 .rw[←SC h0 h48 (K:=id) (r:=match qK 0 e []with| .inl x=>([],x)| .inr ts=>l7 (H6 1 (o9 (kP ts))) ([],o9 e,4) (stR ts,0,0)) (λts h=>by rw[h]) (λx h=>by rw[h])];cases hp:qK 0 e []with
  |inl x=>rfl|inr ts=>
   have:=(Dv e 0 [] ts hp).1;have hz:e.length -fP ts=0:=by have:=congrArg List.length this;rw[Gl]at this;simp[Eb]at this;omega
   simp only[o8,U1,hz,pd,List.replicate_zero,F7];cases H6 1 (o9 (kP ts))<;>rfl
 .subst hi;have hlt:=(ax.1 hn).1;have hst:=yP ts;have hof:=kN ts;obtain⟨m,hm⟩:∃m,e.length -fP ts=m+1:=⟨e.length -fP ts -1,o5⟩;simp only[O0 hn,o7,J7 e,hn,o8,a0z,hm];rw[←hst];simp only[a1A,a4x,o8,a6I,Js,Jt,ND];rw[hst];rcases(BK n.1).2.2 with h|h|h|h|h
  .rw[show push n ts= .inl 2 by simp[push,h],h];rfl
  .have e0:X9 .i64 (o9 (kP ts)) 0=((kP ts).length:Int):=by rw[fF (by unfold lL o9;omega)];simp[o9]
   rw[show push n ts= .inr (.l0 n::ts) by simp[push,h],h,au o5,o6,au (EQ _),o6,o6,e0,show jC 0 ((kP ts).length:Int) (o9 (kP ts))=true by simp[jC,o9],o7,
    show iF (kP ts) (df 0) (df ((kP ts).length:Int))=kP ts by simp[iF,df],kw _ o5,o8,dn o5]
   rw[show kP ts++[(fP ts:Int)]=kP (.l0 n::ts)from rfl,LQ];by_cases hc:12<(XT.l0 n::ts).length
   .simp only[hc,decide_true,if_true,o7]
   .simp only[hc,decide_false,if_false,o6,fP,XT.size,stR,XT.sts,show e.length -(fP ts+1)=m by omega]
  .match ts with
   |[]=>rw[show push n []= .inl 5 by simp[push,h],h];rfl|a::r=>
    obtain⟨p1,p2,p3,p4,p5⟩:=KL [a] r 1 rfl (by simp at hl ⊢;omega) x9;simp only[X0,I5]at p1 p2 p3 p4 p5;have:=yP (a::r);have:=kN r;simp only[H5]at hl;rw[show push n (a::r)= .inr (.l1 n a::r) by simp[push,h],h,au o5,o6,show(1:Int)=((1:Nat):Int)from rfl,BU,show decide ((a::r).length<1)=false by simp];simp only[Int.natCast_one]at p1 ⊢;rw[o6,bg o5,o7,p1,p2,o8,p3,o8,p4,o7,p5];rw[←hst]
    try simp only[ND,Js,Jt,o8]
    rw[hst,kw _ o5,o8,dn o5];rw[show kP r++[(fP r:Int)]=kP (.l1 n a::r)from rfl,LQ];have hz:=Gn (show push n (a::r)= .inr (.l1 n a::r) by simp[push,h]);by_cases hc:12<(XT.l1 n a::r).length
    .simp only[hc,decide_true,if_true,o7]
    .simp only[hc,decide_false,if_false,o6,hz,show e.length -(fP (a::r)+1)=m by omega,stR,XT.sts,E8]
  .match ts with
   |[]=>rw[show push n []= .inl 5 by simp[push,h],h];rfl|[a]=>rw[show push n [a]= .inl 5 by simp[push,h],h];rfl|b::a::r=>
    obtain⟨p1,p2,p3,p4,p5⟩:=KL [b,a] r 2 rfl (by simp at hl ⊢;omega) x9;simp only[X0,I5]at p1 p2 p3 p4 p5;have:=yP (b::a::r);have:=kN r;simp only[H5]at hl;rw[show push n (b::a::r)= .inr (.l2 n a b::r) by simp[push,h],h,au o5,o6,show(2:Int)=((2:Nat):Int)from rfl,BU,show decide ((b::a::r).length<2)=false by simp];rw[o6,bg o5,o7,show((2:Nat):Int)=2 from rfl,p1,p2,o8,p3,o8,p4,o7,p5];rw[←hst]
    try simp only[ND,Js,Jt,o8]
    rw[hst,kw _ o5,o8,dn o5];rw[show kP r++[(fP r:Int)]=kP (.l2 n a b::r)from rfl,LQ];have hz:=Gn (show push n (b::a::r)= .inr (.l2 n a b::r) by simp[push,h]);by_cases hc:12<(XT.l2 n a b::r).length
    .simp only[hc,decide_true,if_true,o7]
    .rw[hz,show e.length -(fP (b::a::r)+1)=m by omega,show stR (.l2 n a b::r)=stR (b::a::r)++[(fP r:Int)] by simp only[stR,XT.sts,E8,fP]];simp only[hc,decide_false,if_false,o6]
  .match ts with
   |[]=>rw[show push n []= .inl 5 by simp[push,h],h];rfl|[a]=>rw[show push n [a]= .inl 5 by simp[push,h],h];rfl|[b,a]=>rw[show push n [b,a]= .inl 5 by simp[push,h],h];rfl|c::b::a::r=>
    obtain⟨p1,p2,p3,p4,p5⟩:=KL [c,b,a] r 3 rfl (by simp at hl ⊢;omega) x9;simp only[X0,I5]at p1 p2 p3 p4 p5;have:=yP (c::b::a::r);have:=kN r;simp only[H5]at hl;rw[show push n (c::b::a::r)= .inr (.l3 n a b c::r) by simp[push,h],h,au o5,o6,show(3:Int)=((3:Nat):Int)from rfl,BU,show decide ((c::b::a::r).length<3)=false by simp];rw[o6,bg o5,o7,show((3:Nat):Int)=3 from rfl,p1,p2,o8,p3,o8,p4,o7,p5];rw[←hst]
    try simp only[ND,Js,Jt,o8]
    rw[hst,kw _ o5,o8,dn o5];rw[show kP r++[(fP r:Int)]=kP (.l3 n a b c::r)from rfl,LQ];have hz:=Gn (show push n (c::b::a::r)= .inr (.l3 n a b c::r) by simp[push,h]);by_cases hc:12<(XT.l3 n a b c::r).length
    .simp only[hc,decide_true,if_true,o7]
    .rw[hz,show e.length -(fP (c::b::a::r)+1)=m by omega,show stR (.l3 n a b c::r)=stR (c::b::a::r)++[(fP r:Int)] by simp only[stR,XT.sts,E8,fP]];simp only[hc,decide_false,if_false,o6]
 .simp only[hsz,N9];rfl
end Go.GP
namespace Go.GP
open Gt
set_option maxRecDepth 100000
def VT(t:Int×Int):Prop:=t=(1,0)\/t=(2,0)\/t=(3,0)\/t=(4,0)\/t=(5,0)\/∃e,t=(6,e)
theorem FK{t:Int×Int}{en:List dL}(h:vty t en=true):VT t:=by
 obtain⟨k,e⟩:=t;unfold vty at h;simp only at h;cases h6:C9 k 6
 .rw[h6,o6]at h;cases h1:O9 1 k<;>rw[h1]at h
  .cases h
  cases h5:O9 k 5<;>rw[h5]at h
  .cases h
  simp only[o7,nC]at h;rw[qc]at h1 h5;subst h;have:k=1\/k=2\/k=3\/k=4\/k=5:=o5;rcases this with rfl|rfl|rfl|rfl|rfl<;>simp[VT]
 .rw[nC]at h6;subst h6;exact .inr (.inr (.inr (.inr (.inr ⟨e,rfl⟩))))
def EN(n:Int×Int)(ops:List (Int×Int))(sg:P6):Option ((Int×Int)×Int):=
 l7 (G7 (C9 n.2 0)) (l9 (aI n.1) λu=>l7 (G7 u) (some ((0,0),2)) (ak n ops sg)) (ak n ops sg)
def pX(n:Int×Int)(ops:List (Int×Int))(sg:P6):Prop:=∃r:(Int×Int)×Int,sF n ops sg=some r/\EN n ops sg=some r/\(r.2=0->VT r.1)
variable {k:Int}
theorem VT.lit(h:1<=k/\k<=5):VT (k,0):=by have:k=1\/k=2\/k=3\/k=4\/k=5:=o5;rcases this with rfl|rfl|rfl|rfl|rfl<;>simp[VT]
theorem IZ(a b:Int):O9 a b= !H6 b a:=by simp only[H6,O9];rw[←decide_not];congr 1;simp
theorem AY{α β:Type}(o:Option β)(f:α->Option β):l9 (l9 o λx=>some (Sum.inr x)) (λq=>Y0 q f λr=>some r)=o:=by cases o<;>rfl
theorem VT.enum(e:Int):VT (6,e):=.inr (.inr (.inr (.inr (.inr ⟨e,rfl⟩))))
theorem nZ{R E:Option ((Int×Int)×Int)}{c:Int}(hc:c≠0)(h1:R=some ((0,0),c))(h2:E=some ((0,0),c)):∃r:(Int×Int)×Int,R=some r/\E=some r/\(r.2=0->VT r.1):=⟨_,h1,h2,λh=>absurd h hc⟩
theorem nok{R E:Option ((Int×Int)×Int)}{t:Int×Int}(hv:VT t)(h1:R=some (t,0))(h2:E=some (t,0)):∃r:(Int×Int)×Int,R=some r/\E=some r/\(r.2=0->VT r.1):=⟨_,h1,h2,λ_=>hv⟩
def RR(a0:Int×Int)(a1:List (Int×Int))(a2:P6):Option ((Int×Int)×Int):=
 l9 (qh a0 a2) λ(x:Bool)=>l7 (G7 x) (some ((0,0),3)) (l9 (rF a0 a2) λ(x:Bool)=>l7 (G7 x) (some ((0,0),6))
  (l7 (C9 (o9 a1) 0) (l9 (jZ a0 a2) λ(x:I9×Bool)=>l7 (G7 x.2) (some ((0,0),8)) (some (x.1,0)))
  (l7 (C9 (o9 a1) 1) (l9 (J9 a1 0) λ(x:I9)=>l9 (qi a0 x a2) λ(x:I9×Bool)=>l7 (G7 x.2) (some ((0,0),8)) (some (x.1,0)))
  (l7 (C9 (o9 a1) 2) (l9 (J9 a1 0) λ(x:I9)=>l9 (J9 a1 1) λ(x_1:I9)=>l9 (sH a0.1 x x_1) λ(x:I9×Bool)=>l7 (G7 x.2) (some ((0,0),8)) (some (x.1,0)))
  (l9 (J9 a1 1) λ(x:I9)=>l9 (J9 a1 0) λ(x_1:I9)=>l7 (C9 x_1.1 1) (l9 (J9 a1 1) λ(x_2:I9)=>l9 (J9 a1 2) λ(x_3:I9)=>
   l7 (G7 (nH (C9 x_2.1 x_3.1) (C9 x_2.2 x_3.2))) (some ((0,0),8)) (some (x,0))) (l7 (G7 false) (some ((0,0),8)) (some (x,0))))))))
theorem a9m(n:Int×Int)(ops:List (Int×Int))(sg:P6):sF n ops sg=l7 (G7 (C9 n.2 0)) (l9 (gK n.1) λx=>l7 x (RR n ops sg) (some ((0,0),2))) (RR n ops sg):=by
 unfold sF;cases C9 n.2 0
 .simp only[Z7,o7];cases gK n.1 with
  |none=>rfl|some b=>cases b<;>rfl
 .rfl
theorem EW{op N:Int}{ops:List (Int×Int)}{sg:P6}(h1:aI op=some true)(h2:gK op=some true)
  (h:∃r:(Int×Int)×Int,RR (op,N) ops sg=some r/\ak (op,N) ops sg=some r/\(r.2=0->VT r.1)):pX (op,N) ops sg:=by
 unfold pX;rw[a9m];unfold EN;dsimp only;rw[h1,h2];cases C9 N 0<;>exact h
theorem KF{op N:Int}{ops:List (Int×Int)}{sg:P6}(h1:aI op=some false)(h2:gK op=some false)
  (h:∃r:(Int×Int)×Int,RR (op,0) ops sg=some r/\ak (op,0) ops sg=some r/\(r.2=0->VT r.1)):pX (op,N) ops sg:=by
 unfold pX;rw[a9m];unfold EN;dsimp only;rw[h1,h2];cases hz:C9 N 0
 .exact nZ (c:=2) V4 rfl rfl
 .rw[nC]at hz;subst hz;exact h
section
variable (N:Int) (sg:P6)
theorem a1l(hk:k=1\/k=2\/k=3\/k=4\/k=5):pX (k,N) [] sg:=by
 have hv:vty (k,0) sg.1=true:=by rcases hk with rfl|rfl|rfl|rfl|rfl<;>rfl
 have hm:aI k=some true/\gK k=some true:=by rcases hk with rfl|rfl|rfl|rfl|rfl<;>exact⟨rfl,rfl⟩
 refine EW hm.1 hm.2 ?_;have key:ak (k,N) [] sg=ja N k sg:=by rcases hk with rfl|rfl|rfl|rfl|rfl<;>exact AY _ _
 have key2:RR (k,N) [] sg=l9 (l9 (dC (k,0) sg.1) λ(x:I9)=>l7 (O9 x.1 N) (some (O9 N x.2)) (some false)) λ(x:Bool)=>l7 (G7 x) (some ((0,0),3)) (some ((k,0),0)):=by rcases hk with rfl|rfl|rfl|rfl|rfl<;>rfl
 rw[key,key2];unfold ja;rw[Ry,Ir,o8,o8,yF,yF];cases O9 (bnd (k,0) sg.1).1 N
 .exact nZ (c:=3) V4 rfl rfl
 cases O9 N (bnd (k,0) sg.1).2
 .exact nZ (c:=3) V4 rfl rfl
 .exact nok (FK hv) rfl rfl
theorem H_(hN:lL N):pX (6,N) [] sg:=by
 have hq:0<=N->dZ .i64 N 16=N / 16:=λh=>by rw[Jb (by rw[lK h];unfold lL at*;omega),lK h]
 refine EW rfl rfl ?_;have hf:rF (6,N) sg=l7 (H6 (dZ .i64 N 16) (o9 sg.1)) (l9 (J9 sg.1 (dZ .i64 N 16)) λ(x:dL)=>some (H6 (jG N 16) (o9 x.2))) (some false):=rfl;have hl:jZ (6,N) sg=some ((6,dZ .i64 N 16),vty (6,dZ .i64 N 16) sg.1):=by unfold jZ;simp only[gU];rfl
 rw[show ak (6,N) [] sg=xE N sg from AY _ _];unfold RR xE;rw[hf,show qh (6,N) sg=some (O9 0 N)from rfl,hl];by_cases h0:0<=N
 .rw[au h0,ah h0,hq h0];by_cases h1:N / 16<o9 sg.1
  .obtain⟨x,hx,_⟩:=oZ (show 0<=N / 16 by omega) h1;rw[bg h1,aU h1,hx,show vty (6,N / 16) sg.1=true by unfold vty;simp only[ah (show 0<=N / 16 by omega),bg h1];rfl];simp only[o8,yF];cases O9 (o9 x.2) (jG N 16)
   .exact nok (VT.enum (N / 16)) rfl rfl
   .exact nZ (c:=6) V4 rfl rfl
  .have h1' :o9 sg.1<=N / 16:=o5;rw[au h1',ah h1'];exact nZ (c:=6) V4 rfl rfl
 .rw[bg (show N<0 by omega),aU (show N<0 by omega)];exact nZ (c:=3) V4 rfl rfl
theorem vY(ts:List (Int×Int))(en:P6):(∃x,J9 ts N=some x/\O9 0 N=true/\H6 N (o9 ts)=true/\iQ N ts en=some (l7 (vty x en.1) (x,0) ((0,0),8)))\/((O9 0 N=false\/O9 0 N=true/\H6 N (o9 ts)=false)/\iQ N ts en=some ((0,0),6)):=by
 unfold iQ;rw[yF N 0,IZ (o9 ts) N];cases h0:O9 0 N
 .exact .inr ⟨.inl x9,rfl⟩
 cases h1:H6 N (o9 ts)
 .exact .inr ⟨.inr x9,rfl⟩
 rw[qc]at h0;rw[su]at h1;obtain⟨x,hx,_⟩:=oZ h0 h1;rw[hx];simp only[iU,Bool.not_false,o6,o7,o8,tu];exact .inl ⟨x,rfl,x9,x9,by cases vty x en.1<;>rfl⟩
theorem a4l:pX (7,N) [] sg:=by
 refine EW rfl rfl ?_;rw[show ak (7,N) [] sg=iQ N sg.2.2.1 sg from AY _ _];have hf:rF (7,N) sg=l7 (O9 0 N) (some (H6 N (o9 sg.2.2.1))) (some false):=rfl;unfold RR;rw[hf,show qh (7,N) sg=some true from rfl];rcases vY N sg.2.2.1 sg with⟨x,h1,h2,h3,h4⟩|⟨h1|⟨h1,h2⟩,h4⟩
 .have hl:jZ (7,N) sg=some (x,vty x sg.1):=by
   unfold jZ;dsimp only;rw[h1];simp only[gU];rfl
  rw[h2,h3,h4,hl];cases hv:vty x sg.1
  .exact nZ (c:=8) V4 rfl rfl
  .exact nok (FK hv) rfl rfl
 .rw[h1,h4];exact nZ (c:=6) V4 rfl rfl
 .rw[h1,h2,h4];exact nZ (c:=6) V4 rfl rfl
theorem a1k:pX (8,N) [] sg:=by
 refine EW rfl rfl ?_;rw[show ak (8,N) [] sg=iQ N sg.2.2.2.1 sg from AY _ _];have hf:rF (8,N) sg=l7 (O9 0 N) (some (H6 N (o9 sg.2.2.2.1))) (some false):=rfl;unfold RR;rw[hf,show qh (8,N) sg=some true from rfl];rcases vY N sg.2.2.2.1 sg with⟨x,h1,h2,h3,h4⟩|⟨h1|⟨h1,h2⟩,h4⟩
 .have hl:jZ (8,N) sg=some (x,vty x sg.1):=by
   unfold jZ;dsimp only;rw[h1];simp only[gU];rfl
  rw[h2,h3,h4,hl];cases hv:vty x sg.1
  .exact nZ (c:=8) V4 rfl rfl
  .exact nok (FK hv) rfl rfl
 .rw[h1,h4];exact nZ (c:=6) V4 rfl rfl
 .rw[h1,h2,h4];exact nZ (c:=6) V4 rfl rfl
theorem G_:pX (9,N) [] sg:=KF rfl rfl (nok (VT.lit (k:=5) o5) rfl rfl)
theorem XJ:pX (35,N) [] sg:=by
 refine KF rfl rfl ?_;rw[show ak (35,0) [] sg=nN (35,0) sg from AY _ _];unfold RR nN;simp only[qh,rF,jZ,gU,o8];cases sg.2.2.2.2.2
 .exact nZ (c:=6) V4 rfl rfl
 .exact nok (VT.lit (k:=2) o5) rfl rfl
theorem a1m(hk:k=36\/k=37\/k=38\/k=39):pX (k,N) [] sg:=by
 have hm:aI k=some true/\gK k=some true/\C9 k 35=false:=by rcases hk with rfl|rfl|rfl|rfl<;>exact⟨rfl,rfl,rfl⟩
 refine EW hm.1 hm.2.1 ?_;rw[show ak (k,N) [] sg=nN (k,N) sg by rcases hk with rfl|rfl|rfl|rfl<;>exact AY _ _];have hr:RR (k,N) [] sg=l9 (l7 sg.2.2.2.2.2 (l7 (O9 0 N) (some (H6 N (o9 sg.2.2.2.2.1))) (some false)) (some false)) λ(x:Bool)=>l7 (G7 x) (some ((0,0),6))
   (l9 (jZ (k,N) sg) λ(x:I9×Bool)=>l7 (G7 x.2) (some ((0,0),8)) (some (x.1,0))):=by rcases hk with rfl|rfl|rfl|rfl<;>rfl
 rw[hr];unfold nN;rw[hm.2.2,o6];cases sg.2.2.2.2.2
 .exact nZ (c:=6) V4 rfl rfl
 simp only[o7,I7,o6];rcases vY N sg.2.2.2.2.1 sg with⟨x,h1,h2,h3,h4⟩|⟨h1|⟨h1,h2⟩,h4⟩
 .rw[h2,h3,h4];have hl:jZ (k,N) sg=l9 (some (l7 (C9 k 36) (l7 (vty x sg.1) (l7 (C9 x.1 2) true (C9 x.1 3)) false) (l7 (C9 k 39) (l7 (vty x sg.1) (l7 (C9 x.1 2) true (l7 (C9 x.1 3) true (l7 (C9 x.1 4) true (C9 x.1 5)))) false) (l7 (vty x sg.1) (C9 x.1 1) false)))) λb=>some (x,b):=by
   unfold jZ;simp only[gU,oJ,sJ];rcases hk with rfl|rfl|rfl|rfl<;>(rw[h1];simp only[C9,Int.reduceEq,decide_true,decide_false,o7,o6,o8];cases vty x sg.1<;>cases decide (x.1=2)<;>cases decide (x.1=3)<;>cases decide (x.1=4)<;>rfl)
  rw[hl];simp only[o8,kC];cases hv:vty x sg.1
  .rcases hk with rfl|rfl|rfl|rfl<;>exact nZ (c:=8) V4 rfl rfl
  .have hx:=FK hv;rcases hk with rfl|rfl|rfl|rfl<;>rcases hx with rfl|rfl|rfl|rfl|rfl|⟨e,rfl⟩ <;>
    first
    |exact nok (FK hv) rfl rfl
    |exact nZ (c:=8) V4 rfl rfl
 .rw[h1,h4];exact nZ (c:=6) V4 rfl rfl
 .rw[h1,h2,h4];exact nZ (c:=6) V4 rfl rfl
end
end Go.GP
namespace Go.GP
open Gt
set_option maxRecDepth 100000
variable {a:Int×Int}{k:Int}{b:Int×Int}
section
variable (N:Int) (sg:P6)
theorem a4m(hk:k=10\/k=25\/k=31\/k=32)(ha:VT a):pX (k,N) [a] sg:=by
 have hm:aI k=some false/\gK k=some false:=by rcases hk with rfl|rfl|rfl|rfl<;>exact⟨rfl,rfl⟩
 refine KF hm.1 hm.2 ?_;rcases hk with rfl|rfl|rfl|rfl<;>rcases ha with rfl|rfl|rfl|rfl|rfl|⟨e,rfl⟩ <;>
  first
  |exact nok (VT.lit (k:=1) o5) rfl rfl
  |exact nok (VT.lit (k:=2) o5) rfl rfl
  |exact nok (VT.lit (k:=3) o5) rfl rfl
  |exact nok (VT.lit (k:=4) o5) rfl rfl
  |exact nZ (c:=8) V4 rfl rfl
theorem a1j(hk:k=13\/k=23\/k=24\/k=27\/k=28\/k=29\/k=30)(ha:VT a)(hb:VT b):pX (k,N) [a,b] sg:=by
 have hm:aI k=some false/\gK k=some false:=by rcases hk with rfl|rfl|rfl|rfl|rfl|rfl|rfl<;>exact⟨rfl,rfl⟩
 refine KF hm.1 hm.2 ?_;rcases hk with rfl|rfl|rfl|rfl|rfl|rfl|rfl<;>rcases ha with rfl|rfl|rfl|rfl|rfl|⟨e,rfl⟩<;>rcases hb with rfl|rfl|rfl|rfl|rfl|⟨f,rfl⟩ <;>
  first
  |exact nZ (c:=8) V4 rfl rfl
  |exact nok (VT.lit (k:=1) o5) rfl rfl
  |exact nok (VT.lit (k:=2) o5) rfl rfl
  |exact nok (VT.lit (k:=3) o5) rfl rfl
  |exact nok (VT.lit (k:=4) o5) rfl rfl
  |exact nok (VT.lit (k:=5) o5) rfl rfl
theorem I_(hk:k=14\/k=15\/k=16)(ha:VT a)(hb:VT b):pX (k,N) [a,b] sg:=by
 have hm:aI k=some true/\gK k=some true:=by rcases hk with rfl|rfl|rfl<;>exact⟨rfl,rfl⟩
 refine EW hm.1 hm.2 ?_;have hr:RR (k,N) [a,b] sg=l9 (l7 (O9 0 N) (some (O9 N 5)) (some false)) λx=>l7 (G7 x) (some ((0,0),3)) (l9 (sH k a b) λx=>l7 (G7 x.2) (some ((0,0),8)) (some (x.1,0))):=by rcases hk with rfl|rfl|rfl<;>rfl
 have he:ak (k,N) [a,b] sg=l9 (l7 (O9 0 N) (some (O9 N 5)) (some false)) λx=>l7 (G7 x) (some ((0,0),3)) (l9 (lh k [a,b]) λx=>l7 (G7 x.2) (some ((0,0),8)) (some (x.1,0))):=by
  rcases hk with rfl|rfl|rfl <;>
   (show l9 (l9 (kH N) λx=>l7 (G7 x) (some (Sum.inr (((0:Int),(0:Int)),(3:Int)))) (some (.inl ((0:Int),(0:Int))))) _=_
    unfold kH;cases O9 0 N<;>cases O9 N 5<;>rfl)
 rw[hr,he];cases O9 0 N
 .exact nZ (c:=3) V4 rfl rfl
 cases O9 N 5
 .exact nZ (c:=3) V4 rfl rfl
 rcases hk with rfl|rfl|rfl<;>rcases ha with rfl|rfl|rfl|rfl|rfl|⟨e,rfl⟩<;>rcases hb with rfl|rfl|rfl|rfl|rfl|⟨f,rfl⟩ <;>
  first
  |exact nZ (c:=8) V4 rfl rfl
  |exact nok (VT.lit (k:=2) o5) rfl rfl
  |exact nok (VT.lit (k:=3) o5) rfl rfl
  |exact nok (VT.lit (k:=4) o5) rfl rfl
theorem J_(hk:k=11\/k=12\/k=17\/k=18\/k=19\/k=20\/k=21\/k=22)(ha:VT a):pX (k,N) [a,b] sg:=by
 have hm:aI k=some false/\gK k=some false:=by rcases hk with rfl|rfl|rfl|rfl|rfl|rfl|rfl|rfl<;>exact⟨rfl,rfl⟩
 refine KF hm.1 hm.2 ?_;have hr:RR (k,0) [a,b] sg=l9 (sH k a b) λx=>l7 (G7 x.2) (some ((0,0),8)) (some (x.1,0)):=by rcases hk with rfl|rfl|rfl|rfl|rfl|rfl|rfl|rfl<;>rfl
 have he:ak (k,0) [a,b] sg=l9 (lh k [a,b]) λx=>l7 (G7 x.2) (some ((0,0),8)) (some (x.1,0)):=by rcases hk with rfl|rfl|rfl|rfl|rfl|rfl|rfl|rfl<;>rfl
 rw[hr,he];unfold sH lh;simp only[show J9 [a,b] 0=some a from rfl,show J9 [a,b] 1=some b from rfl,o8,sJ,oJ,gz,kC];cases h1:C9 a.1 b.1
 .rcases hk with rfl|rfl|rfl|rfl|rfl|rfl|rfl|rfl<;>exact nZ (c:=8) V4 rfl rfl
 cases h2:C9 a.2 b.2
 .rcases hk with rfl|rfl|rfl|rfl|rfl|rfl|rfl|rfl<;>exact nZ (c:=8) V4 rfl rfl
 have ha' :=ha;rcases hk with rfl|rfl|rfl|rfl|rfl|rfl|rfl|rfl<;>rcases ha with rfl|rfl|rfl|rfl|rfl|⟨e,rfl⟩ <;>
  first
  |exact nok ha' rfl rfl
  |exact nok (VT.lit (k:=1) o5) rfl rfl
  |exact nZ (c:=8) V4 rfl rfl
theorem a4k{a b c:Int×Int}(ha:VT a)(hb:VT b):pX (26,N) [a,b,c] sg:=by
 refine KF rfl rfl ?_;have hr:RR (26,0) [a,b,c] sg=l7 (C9 a.1 1) (l7 (G7 (nH (C9 b.1 c.1) (C9 b.2 c.2))) (some ((0,0),8)) (some (b,0))) (some ((0,0),8)):=rfl;have he:ak (26,0) [a,b,c] sg=l9 (lh 26 [a,b,c]) λx=>l7 (G7 x.2) (some ((0,0),8)) (some (x.1,0)):=rfl;have he2:lh 26 [a,b,c]=l9 (l7 (C9 a.1 1) (some (Sum.inr (b,nH (C9 b.1 c.1) (C9 b.2 c.2)))) (some (Sum.inr (b,false)))) λ(o:I9⊕I9×Bool)=>Y0 o (λ(x:I9)=>some ((0,0),false)) λ(r:I9×Bool)=>some r:=rfl;rw[hr,he,he2];cases C9 a.1 1
 .exact nZ (c:=8) V4 rfl rfl
 cases C9 b.1 c.1
 .exact nZ (c:=8) V4 rfl rfl
 cases C9 b.2 c.2
 .exact nZ (c:=8) V4 rfl rfl
 .exact nok hb rfl rfl
theorem VG(ha:VT a):pX (33,N) [a] sg:=by
 refine EW rfl rfl ?_;have he:ak (33,N) [a] sg=oQ (33,N) a sg:=AY _ _;have hr:RR (33,N) [a] sg=l9 (l7 (O9 0 N) (some (H6 N (o9 sg.2.1))) (some false)) λx=>l7 (G7 x) (some ((0,0),6)) (l9 (qi (33,N) a sg) λx=>l7 (G7 x.2) (some ((0,0),8)) (some (x.1,0))):=rfl;have hs:qi (33,N) a sg=l9 (J9 sg.2.1 N) λ(x:kF)=>l9 (V8 x.2.1 sg.1) λ(x_1:Bool)=>l7 x_1 (l9 (V8 x.2.2.1 sg.1) λ(x_2:Bool)=>l7 x_2 (some (x.2.2.1,nH (C9 a.1 x.2.1.1) (C9 a.2 x.2.1.2))) (some (x.2.2.1,false))) (some (x.2.2.1,false)):=rfl;rw[he,hr,hs];unfold oQ;simp only[C9,Int.reduceEq,decide_false,o6,o8,U1,yF N 0,IZ (o9 sg.2.1) N];cases h0:O9 0 N
 .exact nZ (c:=6) V4 rfl rfl
 cases h1:H6 N (o9 sg.2.1)
 .exact nZ (c:=6) V4 rfl rfl
 rw[qc]at h0;rw[su]at h1;obtain⟨x,hx,_⟩:=oZ h0 h1;simp only[o8,U1,iU,o6,hx,tu,gU,Z7,o7];cases vty x.2.1 sg.1
 .exact nZ (c:=8) V4 rfl rfl
 cases hv:vty x.2.2.1 sg.1
 .exact nZ (c:=8) V4 rfl rfl
 simp only[I7,o6,o7,o8];cases nH (decide (a.1=x.2.1.1)) (decide (a.2=x.2.1.2))
 .exact nZ (c:=8) V4 rfl rfl
 .exact nok (FK hv) rfl rfl
theorem QV(hN:lL N)(ha:VT a):pX (34,N) [a] sg:=by
 refine EW rfl rfl ?_;have he:ak (34,N) [a] sg=oQ (34,N) a sg:=AY _ _;have hr:RR (34,N) [a] sg=l9 (l7 (O9 0 N) (some (O9 (jG N 8) 5)) (some false)) λx=>l7 (G7 x) (some ((0,0),3)) (l7 (G7 (H6 (dZ .i64 N 8) (o9 sg.2.1))) (some ((0,0),6)) (l9 (qi (34,N) a sg) λx=>l7 (G7 x.2) (some ((0,0),8)) (some (x.1,0)))):=rfl;have hs:qi (34,N) a sg=l9 (J9 sg.2.1 (dZ .i64 N 8)) λ(x:kF)=>l7 (C9 a.1 3) (l7 (nH (C9 x.2.1.1 3) (C9 x.2.1.2 0)) (some (a,nH (C9 x.2.2.1.1 4) (C9 x.2.2.1.2 0))) (some (a,false))) (some (a,false)):=rfl;rw[he,hr,hs];unfold oQ kH;by_cases h0:0<=N
 case neg=>rw[aU (show N<0 by omega),bg (show N<0 by omega)];exact nZ (c:=3) V4 rfl rfl
 have hq:dZ .i64 N 8=N / 8:=by rw[Jb (by rw[lK h0];unfold lL at*;omega),lK h0]
 rw[ah h0,au h0,hq,zy h0];simp only[C9,Int.reduceEq,decide_true,o7,o6,ah (show 0<=N % 8 by omega),o8];cases O9 (N % 8) 5
 .exact nZ (c:=3) V4 rfl rfl
 simp only[I7,o6,o8,U1,au (show 0<=N / 8 by omega),IZ];cases h1:H6 (N / 8) (o9 sg.2.1)
 .exact nZ (c:=6) V4 rfl rfl
 rw[su]at h1;obtain⟨x,hx,_⟩:=oZ (show 0<=N / 8 by omega) h1;simp only[hx,iU,o6,o8,U1,tu,I7];obtain⟨nm,⟨k1,k2⟩,⟨v1,v2⟩,rows⟩:=x;dsimp only;by_cases hK:k1=3/\k2=0
 .obtain⟨rfl,rfl⟩:=hK;by_cases hV:v1=4/\v2=0
  .obtain⟨rfl,rfl⟩:=hV;rcases ha with rfl|rfl|rfl|rfl|rfl|⟨e,rfl⟩ <;>
    first
    |exact nok (VT.lit (k:=3) o5) rfl rfl
    |exact nZ (c:=8) V4 rfl rfl
  .have hE:vty (v1,v2) sg.1=true->v1≠4:=λhv h=>by
    subst h;rcases FK hv with h|h|h|h|h|⟨e,h⟩<;>cases h;exact hV ⟨rfl,rfl⟩
   have hR:nH (decide (v1=4)) (decide (v2=0))=false:=by
    by_cases h1:v1=4
    .have:v2≠0:=λh2=>hV ⟨h1,h2⟩;simp[nH,h1,this]
    .simp[nH,h1]
   rw[hR];cases hv:vty (v1,v2) sg.1
   .rcases ha with rfl|rfl|rfl|rfl|rfl|⟨e,rfl⟩<;>exact nZ (c:=8) V4 rfl rfl
   .have h4:=hE hv;rw[show decide (v1=4)=false by simp[h4]];rcases ha with rfl|rfl|rfl|rfl|rfl|⟨e,rfl⟩<;>exact nZ (c:=8) V4 rfl rfl
 .have hR:nH (decide (k1=3)) (decide (k2=0))=false:=by
   by_cases h1:k1=3
   .have:k2≠0:=λh2=>hK ⟨h1,h2⟩;simp[nH,h1,this]
   .simp[nH,h1]
  rw[hR];cases hv:vty (k1,k2) sg.1
  .rcases ha with rfl|rfl|rfl|rfl|rfl|⟨e,rfl⟩<;>exact nZ (c:=8) V4 rfl rfl
  cases hw:vty (v1,v2) sg.1
  .rcases ha with rfl|rfl|rfl|rfl|rfl|⟨e,rfl⟩<;>exact nZ (c:=8) V4 rfl rfl
  have h3:k1≠3:=λh=>by subst h;rcases FK hv with h|h|h|h|h|⟨e,h⟩<;>cases h;exact hK ⟨rfl,rfl⟩
  simp only[show decide (k1=3)=false by simp[h3],I7,o6,o7,o8];cases nH (decide (a.1=k1)) (decide (a.2=k2))
  .cases decide (a.1=3)<;>exact nZ (c:=8) V4 rfl rfl
  .cases decide (a.1=3)<;>exact nZ (c:=8) V4 rfl rfl
theorem TY(n:Int×Int)(hN:lL n.2)(ops:List (Int×Int))(hv:∀t∈ops,VT t)(hl:o9 ops=arF n.1):pX n ops sg:=by
 obtain⟨op,N⟩:=n;dsimp only at hN hl;have hr:1<=op/\op<=39:=by
  by_cases h:1<=op/\op<=39
  .exact h
  .have:arF op=-1:=by unfold arF;rw[Ui h];rfl
   rw[this]at hl;simp[o9]at hl
 have hc:op=1\/op=2\/op=3\/op=4\/op=5\/op=6\/op=7\/op=8\/op=9\/op=10\/op=11\/op=12\/op=13\/op=14\/op=15\/op=16\/op=17\/op=18\/op=19\/op=20\/op=21\/op=22\/op=23\/op=24\/op=25\/op=26\/op=27\/op=28\/op=29\/op=30\/op=31\/op=32\/op=33\/op=34\/op=35\/op=36\/op=37\/op=38\/op=39:=o5;have L0:arF op=0->ops=[]:=λh=>by rw[h]at hl;simp only[o9]at hl;exact Y4.1 o5
 have L1:arF op=1->∃a,ops=[a]/\VT a:=λh=>by
  rw[h]at hl;simp only[o9]at hl;match ops,hl,hv with
  |[a],_,hv=>exact⟨a,rfl,hv a x9⟩|[],hl,_=>simp at hl|a::b::r,hl,_=>simp at hl;omega
 have L2:arF op=2->∃a b,ops=[a,b]/\VT a/\VT b:=λh=>by
  rw[h]at hl;simp only[o9]at hl;match ops,hl,hv with
  |[a,b],_,hv=>exact⟨a,b,rfl,hv a x9,hv b x9⟩|[],hl,_=>simp at hl|[a],hl,_=>simp at hl|a::b::c::r,hl,_=>simp at hl;omega
 have L3:arF op=3->∃a b c,ops=[a,b,c]/\VT a/\VT b:=λh=>by
  rw[h]at hl;simp only[o9]at hl;match ops,hl,hv with
  |[a,b,c],_,hv=>exact⟨a,b,c,rfl,hv a x9,hv b x9⟩|[],hl,_=>simp at hl|[a],hl,_=>simp at hl|[a,b],hl,_=>simp at hl|a::b::c::d::r,hl,_=>simp at hl;omega
 rcases hc with rfl|rfl|rfl|rfl|rfl|rfl|rfl|rfl|rfl|rfl|rfl|rfl|rfl|rfl|rfl|rfl|rfl|rfl|rfl|rfl|rfl|rfl|rfl|rfl|rfl|rfl|rfl|rfl|rfl|rfl|rfl|rfl|rfl|rfl|rfl|rfl|rfl|rfl|rfl <;>
  first
  |(rw[L0 rfl];first|exact a1l N sg o5|exact H_ N sg hN|exact a4l N sg|exact a1k N sg|exact G_ N sg|exact XJ N sg|exact a1m N sg o5)
  |(obtain⟨a,rfl,ha⟩:=L1 rfl;first|exact a4m N sg o5 ha|exact VG N sg ha|exact QV N sg hN ha)
  |(obtain⟨a,b,rfl,ha,hb⟩:=L2 rfl;first|exact a1j N sg o5 ha hb|exact I_ N sg o5 ha hb|exact J_ N sg o5 ha)
  |(obtain⟨a,b,c,rfl,ha,hb⟩:=L3 rfl;exact a4k N sg ha hb)
end
end Go.GP
namespace Go.GP
open Gt
set_option maxRecDepth 100000
def XT.wf:XT->Prop
 | .l0 n=>arF n.1=0| .l1 n a=>arF n.1=1/\a.wf| .l2 n a b=>arF n.1=2/\a.wf/\b.wf| .l3 n a b c=>arF n.1=3/\a.wf/\b.wf/\c.wf
theorem a4B{n:Int×Int}{ts ts' :List XT}(h:push n ts= .inr ts')(hw:∀t∈ts,t.wf):∀t∈ts',t.wf:=by
 unfold push at h;split at h
 .cases h;intro t ht;rcases D6.1 ht with rfl|ht
  .assumption
  .exact hw t ht
 split at h
 .split at h
  .cases h;intro t ht;rcases D6.1 ht with rfl|ht
   .exact⟨by assumption,hw _ x9⟩
   .exact hw t (by simp[ht])
  .cases h
 split at h
 .split at h
  .cases h;intro t ht;rcases D6.1 ht with rfl|ht
   .exact⟨by assumption,hw _ x9,hw _ x9⟩
   .exact hw t (by simp[ht])
  .cases h
 split at h
 .split at h
  .cases h;intro t ht;rcases D6.1 ht with rfl|ht
   .exact⟨by assumption,hw _ x9,hw _ x9,hw _ x9⟩
   .exact hw t (by simp[ht])
  .cases h
 .cases h
theorem VN:∀(es:List (Int×Int)) (i:Nat) (ts ts' :List XT),qK i es ts= .inr ts' ->(∀t∈ts,t.wf)->∀t∈ts',t.wf
 |[],i,ts,ts',h,hw=>by cases h;exact hw|n::es,i,ts,ts',h,hw=>by
  unfold qK at h;cases hp:push n ts with
  |inl c=>rw[hp]at h;cases h|inr t2=>
   rw[hp]at h;simp only at h;split at h
   .cases h
   .exact VN es (i+1) t2 ts' h (a4B hp hw)
variable {e:List (Int×Int)}
theorem Lh{t:XT}(h:jI e= .inr t):t.wf:=by
 unfold jI at h;split at h
 .cases h
 split at h
 .cases h
 split at h
 .cases h
 .rename_i t' hp;cases h;exact VN e 0 [] [t] hp x9 t x9
 .cases h
def Uu(n:Int×Int)(ops:List (Int×Int))(sg:P6):(Int×Int)×Int:=(sF n ops sg).getD ((0,0),0)
def EU(sg:P6)(n:Int×Int)(ops:List (Int×Int))(i:Nat):(Int×Int)⊕(Int×Int):=if(Uu n ops sg).2=0 then .inr (Uu n ops sg).1 else .inl ((i:Int),(Uu n ops sg).2)
def wK(sg:P6):XT->Nat->(Int×Int)⊕(Int×Int)
 | .l0 n,o=>EU sg n [] o
 | .l1 n a,o=>match wK sg a o with
  | .inl x=> .inl x| .inr ta=>EU sg n [ta] (o+a.size)
 | .l2 n a b,o=>match wK sg a o with
  | .inl x=> .inl x
  | .inr ta=>match wK sg b (o+a.size)with
   | .inl x=> .inl x| .inr tb=>EU sg n [ta,tb] (o+a.size+b.size)
 | .l3 n a b c,o=>match wK sg a o with
  | .inl x=> .inl x
  | .inr ta=>match wK sg b (o+a.size)with
   | .inl x=> .inl x
   | .inr tb=>match wK sg c (o+a.size+b.size)with
    | .inl x=> .inl x| .inr tc=>EU sg n [ta,tb,tc] (o+a.size+b.size+c.size)
variable {i:Nat}
theorem Jk{sg:P6}{n:Int×Int}{ops:List (Int×Int)}{t:Int×Int}(hN:lL n.2)(hv:∀t∈ops,VT t)(hl:o9 ops=arF n.1)(h:EU sg n ops i= .inr t):VT t:=by
 obtain⟨r,h1,h2,h3⟩:=TY sg n hN ops hv hl;unfold EU at h;split at h
 .rename_i h0;cases h;have e:Uu n ops sg=r:=by unfold Uu;rw[h1];rfl
  rw[e]at h0 ⊢;exact h3 h0
 .cases h
section
variable (e:List (Int×Int)) (sg:P6) (z:Int×Int)
def a5p(f:(Int×Int)×List (Int×Int)×Int->Option (Out ((Int×Int)×List (Int×Int)×Int) ((Int×Int)×List (Int×Int)) ((Int×Int)×Int×Int))):Prop:=
 ∀(i:Nat) (n:Int×Int) (s ops:List (Int×Int)),e[i]? =some n->i<=100->o9 ops=arF n.1->(∀t∈ops,VT t)->s.length+ops.length<=100->
  f (z,s++ops,(i:Int))=some (match EU sg n ops i with| .inl x=> .rt ((0,0),x)| .inr t=> .nx (z,s++[t],((i+1:Nat):Int)))
theorem a0n{f:(Int×Int)×List (Int×Int)×Int->Option (Out ((Int×Int)×List (Int×Int)×Int) ((Int×Int)×List (Int×Int)) ((Int×Int)×Int×Int))}
  (he:e.length<=48) (hI:∀n∈e,lL n.2) (hs:a5p e sg z f):∀(t:XT),t.wf->∀(pre suf s:List (Int×Int)) (k:Nat),e=pre++t.post++suf->s.length<=pre.length->
  jr f (k+t.size) (z,s,(pre.length:Int))=(match wK sg t pre.length with| .inl x=>some (.inr ((0,0),x))| .inr r=>jr f k (z,s++[r],((pre.length+t.size:Nat):Int)))/\∀r,wK sg t pre.length= .inr r->VT r:=by
 intro t;have step:∀(i k:Nat) (n:Int×Int) (s ops:List (Int×Int)),e[i]? =some n->o9 ops=arF n.1->(∀t∈ops,VT t)->s.length+ops.length<=100->
   jr f (k+1) (z,s++ops,(i:Int))=(match EU sg n ops i with| .inl x=>some (.inr ((0,0),x))| .inr r=>jr f k (z,s++[r],((i+1:Nat):Int))):=by
  intro i k n s ops h1 h2 h3 h4;rw[jr,hs i n s ops h1 (by have:=(ax.1 h1).1;omega) h2 h3 h4];cases EU sg n ops i<;>rfl
 have getn:∀(pre suf:List (Int×Int)) (n:Int×Int),e=pre++[n]++suf->e[pre.length]? =some n:=by intro pre suf n h;rw[h,E8,H9 o5,fH];rfl
 have mem:∀(i:Nat) (n:Int×Int),e[i]? =some n->lL n.2:=λi n h=>hI n (oV h);induction t with
 |l0 n=>
  intro hw pre suf s k hd hl;have hn:=getn pre suf n hd;have hlen:pre.length<e.length:=(ax.1 hn).1;have hz:o9 ([]:List (Int×Int))=arF n.1:=by rw[show arF n.1=0 from hw];rfl
  have h:=step pre.length k n s [] hn hz x9 E5;rw[F7]at h;exact⟨h,λr hr=>Jk (mem _ n hn) x9 hz hr⟩
 |l1 n a iha=>
  intro hw pre suf s k hd hl;simp only[XT.post,E8]at hd;have hpa:(pre++a.post).length=pre.length+a.size:=by simp[XT.post_len]
  have hn:=getn (pre++a.post) suf n (by simpa using hd);rw[hpa]at hn;have hlen:=(ax.1 hn).1;obtain⟨i1,i2⟩:=iha hw.2 pre ([n]++suf) s (k+1) (by simpa using hd) hl;simp only[XT.size,wK];rw[show k+(a.size+1)=(k+1)+a.size by omega,i1];cases ht:wK sg a pre.length with
  |inl x=>exact⟨rfl,λr hr=>by cases hr⟩|inr ta=>
   have hz:o9 [ta]=arF n.1:=by rw[show arF n.1=1 from hw.1];rfl
   have hv:∀t∈[ta],VT t:=by simpa using i2 ta ht
   exact⟨step _ k n s [ta] hn hz hv E5,λr hr=>Jk (mem _ n hn) hv hz hr⟩
 |l2 n a b iha ihb=>
  intro hw pre suf s k hd hl;simp only[XT.post,E8]at hd;have hpa:(pre++a.post).length=pre.length+a.size:=by simp[XT.post_len]
  have hpb:(pre++a.post++b.post).length=pre.length+a.size+b.size:=by simp[XT.post_len];omega
  have hn:=getn (pre++a.post++b.post) suf n (by simpa using hd);rw[hpb]at hn;have hlen:=(ax.1 hn).1;obtain⟨i1,i2⟩:=iha hw.2.1 pre (b.post++[n]++suf) s (k+1+b.size) (by simpa using hd) hl;simp only[XT.size,wK];rw[show k+(a.size+b.size+1)=(k+1+b.size)+a.size by omega,i1];cases ht:wK sg a pre.length with
  |inl x=>exact⟨rfl,λr hr=>by cases hr⟩|inr ta=>
   have hsa:=a.size_pos;obtain⟨j1,j2⟩:=ihb hw.2.2 (pre++a.post) ([n]++suf) (s++[ta]) (k+1) (by simpa using hd) (by simp[XT.post_len];omega);rw[hpa]at j1 j2;simp only;rw[j1];cases hu:wK sg b (pre.length+a.size)with
   |inl x=>exact⟨rfl,λr hr=>by cases hr⟩|inr tb=>
    have hz:o9 [ta,tb]=arF n.1:=by rw[show arF n.1=2 from hw.1];rfl
    have hv:∀t∈[ta,tb],VT t:=by simpa using ⟨i2 ta ht,j2 tb hu⟩
    have:=step _ k n s [ta,tb] hn hz hv E5;simp only[E8,X0,I5];rw[show pre.length+(a.size+b.size+1)=pre.length+a.size+b.size+1 by omega];exact⟨this,λr hr=>Jk (mem _ n hn) hv hz hr⟩
 |l3 n a b c iha ihb ihc=>
  intro hw pre suf s k hd hl;simp only[XT.post,E8]at hd;have hpa:(pre++a.post).length=pre.length+a.size:=by simp[XT.post_len]
  have hpb:(pre++a.post++b.post).length=pre.length+a.size+b.size:=by simp[XT.post_len];omega
  have hpc:(pre++a.post++b.post++c.post).length=pre.length+a.size+b.size+c.size:=by simp[XT.post_len];omega
  have hn:=getn (pre++a.post++b.post++c.post) suf n (by simpa using hd);rw[hpc]at hn;have hlen:=(ax.1 hn).1;obtain⟨i1,i2⟩:=iha hw.2.1 pre (b.post++(c.post++([n]++suf))) s (k+1+c.size+b.size) (by simpa using hd) hl;simp only[XT.size,wK];rw[show k+(a.size+b.size+c.size+1)=(k+1+c.size+b.size)+a.size by omega,i1];have hsa:=a.size_pos;have hsb:=b.size_pos;cases ht:wK sg a pre.length with
  |inl x=>exact⟨rfl,λr hr=>by cases hr⟩|inr ta=>
   obtain⟨j1,j2⟩:=ihb hw.2.2.1 (pre++a.post) (c.post++([n]++suf)) (s++[ta]) (k+1+c.size) (by simpa using hd) (by simp[XT.post_len];omega);rw[hpa]at j1 j2;simp only;rw[j1];cases hu:wK sg b (pre.length+a.size)with
   |inl x=>exact⟨rfl,λr hr=>by cases hr⟩|inr tb=>
    obtain⟨q1,q2⟩:=ihc hw.2.2.2 (pre++a.post++b.post) ([n]++suf) (s++[ta]++[tb]) (k+1) (by simpa using hd) (by simp[XT.post_len];omega);rw[hpb]at q1 q2;simp only;rw[q1];cases hc:wK sg c (pre.length+a.size+b.size)with
    |inl x=>exact⟨rfl,λr hr=>by cases hr⟩|inr tc=>
     have hz:o9 [ta,tb,tc]=arF n.1:=by rw[show arF n.1=3 from hw.1];rfl
     have hv:∀t∈[ta,tb,tc],VT t:=by simpa using ⟨i2 ta ht,j2 tb hu,q2 tc hc⟩
     have:=step _ k n s [ta,tb,tc] hn hz hv E5;simp only[E8,X0,I5];rw[show pre.length+(a.size+b.size+c.size+1)=pre.length+a.size+b.size+c.size+1 by omega];exact⟨this,λr hr=>Jk (mem _ n hn) hv hz hr⟩
end
def qO(e:List (Int×Int))(sg:P6):(Int×Int)×Int×Int:=match jI e with
 | .inl x=>((0,0),x)
 | .inr t=>match wK sg t 0 with
  | .inl x=>((0,0),x)| .inr r=>(r,0,0)
variable {α:Type}
theorem QA(s ops:List α)(k:Int)(hk:o9 ops=k)(h:s.length+ops.length<=100):
  X9 .i64 (o9 (s++ops)) k=(s.length:Int)/\jC (s.length:Int) (o9 (s++ops)) (o9 (s++ops))=true/\iF (s++ops) (df (s.length:Int)) (df (o9 (s++ops)))=ops
  /\jC 0 (s.length:Int) (o9 (s++ops))=true/\iF (s++ops) (df 0) (df (s.length:Int))=s:=by
 subst hk;refine⟨?_,?_,?_,?_,?_⟩
 .rw[fF (by unfold lL;simp[o9];omega)];simp[o9]
 .simp[jC,o9];omega
 .show((s++ops).take (((s++ops).length:Nat):Int).toNat).drop s.length=ops;rw[U5,bU,List.drop_left]
 .simp[jC,o9];omega
 .simp[iF,df]
theorem Qz{sg:P6}{f:(Int×Int)×List (Int×Int)×Int->Option (Out ((Int×Int)×List (Int×Int)×Int) ((Int×Int)×List (Int×Int)) ((Int×Int)×Int×Int))}
  (hI:∀n∈e,lL n.2) (hs:a5p e sg (0,0) f) (hend:∀s,f ((0,0),s,(e.length:Int))=some (.ex ((0,0),s))) (hcode:∀x,jI e= .inl x->x.2≠0):
  l7 (G7 (C9 (qN e).2.2 0)) (some ((((0:Int),(0:Int)),(qN e).2):(Int×Int)×Int×Int)) (l9 (U0 f (((0:Int),(0:Int)),([]:List (Int×Int)),(0:Int))) λ(o:(Int×Int)×List (Int×Int)⊕(Int×Int)×Int×Int)=>
   Y0 o (λ(y:(Int×Int)×List (Int×Int))=>l9 (J9 y.2 0) λ(x:Int×Int)=>l9 (dW y.2 (df 0)) λ(x:Int×Int)=>some (x,0,0)) λ(r:(Int×Int)×Int×Int)=>some r)=some (qO e sg):=by
 unfold qN qO;cases h:jI e with
 |inl x=>simp only[N7 (hcode x h),Z7,o7]|inr t=>
  obtain⟨hp,h48⟩:=rV h;have hw:=Lh h;obtain⟨l1,_⟩:=a0n e sg (0,0) h48 hI hs t hw [] [] [] (fQ -t.size) (by simpa using hp) x9;have hsz:e.length=t.size:=by rw[hp,XT.post_len]
  have hlo:U0 f (((0:Int),(0:Int)),([]:List (Int×Int)),(0:Int))=jr f (fQ -t.size+t.size) ((0,0),[],(([]:List (Int×Int)).length:Int)):=by unfold U0;rw[Nat.sub_add_cancel (by unfold fQ;omega)];rfl
  simp only[Z9 (rfl:(0:Int)=0),I7,o6];rw[hlo,l1];simp only[dA,bI];cases wK sg t 0 with
  |inl x=>rfl|inr r=>obtain⟨k,hk⟩:∃k,fQ -t.size=k+1:=⟨fQ -t.size -1,by unfold fQ;omega⟩;simp only[I5];rw[hk,jr,←hsz,hend];rfl
theorem Bd{x:Int×Int}(h:jI e= .inl x):x.2≠0:=by
 have key:∀(es:List (Int×Int)) (i:Nat) (ts:List XT) (x:Int×Int),qK i es ts= .inl x->x.2≠0:=by
  intro es;induction es with
  |nil=>intro i ts x h;cases h|cons n es ih=>
   intro i ts x h;unfold qK at h;cases hp:push n ts with
   |inl c=>
    rw[hp]at h;cases h;show c≠0;unfold push at hp
    (repeat' split at hp)<;>first|(cases hp;done)|(cases hp;decide)
   |inr t2=>
    rw[hp]at h;simp only at h;split at h
    .cases h;show(16:Int)≠0;decide
    .exact ih _ _ _ h
 unfold jI at h;split at h
 .cases h;show(4:Int)≠0;decide
 split at h
 .cases h;show(5:Int)≠0;decide
 split at h
 .rename_i y hp;cases h;exact key _ _ _ _ hp
 .cases h
 .cases h;show(4:Int)≠0;decide
theorem XX(sg:P6)(hI:∀n∈e,lL n.2):yK e sg=some (qO e sg):=by
 unfold yK;rw[BF,o8];refine Qz hI (λi n s ops hn hi2 hl hv hlen=>?_) (λs=>?_) (λx h=>Bd h)
 .obtain⟨r,h1,h2,h3⟩:=TY sg n (hI n (oV hn)) ops hv hl;obtain⟨v1,v2,v3,v4,v5⟩:=QA s ops _ hl hlen;have e' :Uu n ops sg=r:=by unfold Uu;rw[h1];rfl
  have hi:=(ax.1 hn).1;simp only[O0 hn,o7,J7,hn,o8,XY,v1,v2,v3,v4,v5,h1];unfold EU;rw[e'];by_cases h0:r.2=0
  .rw[if_pos h0,Z9 h0];simp only[I7,o6];rw[kw _ o5,o8,dn o5]
  .rw[if_neg h0,N7 h0];rfl
 .rw[N9];rfl
theorem a0m(sg:P6)(hI:∀n∈e,lL n.2):Aw e sg=some (qO e sg):=by
 unfold Aw;rw[JK,o8];refine Qz hI (λi n s ops hn hi2 hl hv hlen=>?_) (λs=>?_) (λx h=>Bd h)
 .obtain⟨r,h1,h2,h3⟩:=TY sg n (hI n (oV hn)) ops hv hl;obtain⟨v1,v2,v3,v4,v5⟩:=QA s ops _ hl hlen;have e' :Uu n ops sg=r:=by unfold Uu;rw[h1];rfl
  have hi:=(ax.1 hn).1;simp only[O0 hn,o7,J7,hn,o8,a0z,v1,v2,v3,v4,v5];unfold EU;rw[e'];unfold EN at h2;have fin:ak n ops sg=some r->(l9 (ak n ops sg) λ(x_3:I9×Int)=>l7 (G7 (C9 x_3.2 0)) (some (Out.rt ((((0:Int),(0:Int)),((i:Int),x_3.2)):(Int×Int)×Int×Int)))
    (l9 (bH s [x_3.1]) λ(x_4:List I9)=>some (Out.nx (((0:Int),(0:Int)),x_4,F6 .i64 (i:Int) 1))))=
    some (match if r.2=0 then(.inr r.1:(Int×Int)⊕(Int×Int))else .inl ((i:Int),r.2)with| .inl x=>Out.rt ((0,0),x)| .inr t=>(Out.nx ((0,0),s++[t],((i+1:Nat):Int)):Out ((Int×Int)×List (Int×Int)×Int) ((Int×Int)×List (Int×Int)) ((Int×Int)×Int×Int))):=by
   intro hr;rw[hr,o8];by_cases h0:r.2=0
   .rw[if_pos h0,Z9 h0];simp only[I7,o6];rw[kw _ o5,o8,dn o5]
   .rw[if_neg h0,N7 h0];rfl
  cases hz:C9 n.2 0
  .rw[hz]at h2;simp only[Z7,o7]at h2 ⊢;cases hu:aI n.1 with
   |none=>rw[hu]at h2;cases h2|some u=>
    rw[hu]at h2;simp only[o8]at h2 ⊢;cases u
    .simp only[Z7,o7]at h2 ⊢;cases h2;rfl
    .exact fin h2
  .rw[hz]at h2;exact fin h2
 .rw[N9];rfl
section
variable {α β σ ε ρ:Type}
theorem xg(l:List α)(G:β->α->β)(mk:β->Int->σ)(fin:β->ε)(Inv:Nat->β->Prop){f:σ->Option (σ⊕ε)}{b:β}(hl:l.length<=1000000)(h0:Inv 0 b)
  (hin:∀(i:Nat) (a:α) (b:β),l[i]? =some a->i<=1000000->Inv i b->f (mk b (i:Int))=some (.inl (mk (G b a) ((i+1:Nat):Int)))/\Inv (i+1) (G b a))
  (hend:∀b,Inv l.length b->f (mk b (l.length:Int))=some (.inr (fin b))):
  dK f (mk b 0)=some (fin (l.foldl G b))/\Inv l.length (l.foldl G b):=by
 have key:∀(n i:Nat) (b:β),i<=l.length->l.length -i<n->Inv i b->tV f n (mk b (i:Int))=some (fin ((l.drop i).foldl G b))/\Inv l.length ((l.drop i).foldl G b):=by
  intro n;induction n with
  |zero=>intro i b _ h _;omega|succ n ih=>
   intro i b hi hn hI;unfold tV;by_cases h:i<l.length
   .have e:=lS h;obtain⟨h1,h2⟩:=hin i _ b e o5 hI;rw[h1,bG h];exact ih (i+1) _ o5 o5 h2
   .have:i=l.length:=o5;subst this;rw[hend b hI,wQ];exact⟨rfl,hI⟩
 have:=key fQ 0 b o5 (by unfold fQ;omega) h0;exact this
theorem mX{γ:Type}(l:List α)(G:β->α->β)(mk:β->Int->σ)(fin:β->ε)(Inv:Nat->β->Prop)(b:β){f:σ->Option (σ⊕ε)}{K:ε->Option γ}{r:Option γ}(hl:l.length<=1000000)(h0:Inv 0 b)
  (hin:∀(i:Nat) (a:α) (b:β),l[i]? =some a->i<=1000000->Inv i b->f (mk b (i:Int))=some (.inl (mk (G b a) ((i+1:Nat):Int)))/\Inv (i+1) (G b a))
  (hend:∀b,Inv l.length b->f (mk b (l.length:Int))=some (.inr (fin b))) (hk:Inv l.length (l.foldl G b)->K (fin (l.foldl G b))=r):l9 (dK f (mk b 0)) K=r:=by
 obtain⟨h1,h2⟩:=xg l G mk fin Inv hl h0 hin hend;rw[h1];exact hk h2
def fV(G:β->α->β⊕ρ):List α->β->β⊕ρ
 |[],b=> .inl b
 |a::l,b=>match G b a with| .inl b' =>fV G l b'| .inr r=> .inr r
theorem uI(l:List α)(G:β->α->β⊕ρ)(mk:β->Int->σ)(fin:β->ε)(Inv:Nat->β->Prop){f:σ->Option (Out σ ε ρ)}{b:β}(hl:l.length<=1000000)(h0:Inv 0 b)
  (hin:∀(i:Nat) (a:α) (b:β),l[i]? =some a->i<=1000000->Inv i b->f (mk b (i:Int))=some (match G b a with| .inl b' => .nx (mk b' ((i+1:Nat):Int))| .inr r=> .rt r)/\∀b',G b a= .inl b' ->Inv (i+1) b')
  (hend:∀b,Inv l.length b->f (mk b (l.length:Int))=some (.ex (fin b))):
  U0 f (mk b 0)=some (match fV G l b with| .inl b' => .inl (fin b')| .inr r=> .inr r)/\∀b',fV G l b= .inl b' ->Inv l.length b' :=by
 have key:∀(n i:Nat) (b:β),i<=l.length->l.length -i<n->Inv i b->jr f n (mk b (i:Int))=some (match fV G (l.drop i) b with| .inl b' => .inl (fin b')| .inr r=> .inr r)/\∀b',fV G (l.drop i) b= .inl b' ->Inv l.length b' :=by
  intro n;induction n with
  |zero=>intro i b _ h _;omega|succ n ih=>
   intro i b hi hn hI;unfold jr;by_cases h:i<l.length
   .have e:=lS h;obtain⟨h1,h2⟩:=hin i _ b e o5 hI;rw[h1,bG h];unfold fV;cases hg:G b l[i]with
    |inr r=>exact⟨rfl,λb' hb=>by cases hb⟩|inl b' =>exact ih (i+1) _ o5 o5 (h2 b' hg)
   .have:i=l.length:=o5;subst this;rw[hend b hI,wQ];exact⟨rfl,λb' hb=>by cases hb;exact hI⟩
 have:=key fQ 0 b o5 (by unfold fQ;omega) h0;exact this
theorem Pi{γ:Type}(l:List α)(G:β->α->β⊕ρ)(mk:β->Int->σ)(fin:β->ε)(Inv:Nat->β->Prop)(b:β){f:σ->Option (Out σ ε ρ)}{K:ε⊕ρ->Option γ}{r:Option γ}(hl:l.length<=1000000)(h0:Inv 0 b)
  (hin:∀(i:Nat) (a:α) (b:β),l[i]? =some a->i<=1000000->Inv i b->f (mk b (i:Int))=some (match G b a with| .inl b' => .nx (mk b' ((i+1:Nat):Int))| .inr r=> .rt r)/\∀b',G b a= .inl b' ->Inv (i+1) b')
  (hend:∀b,Inv l.length b->f (mk b (l.length:Int))=some (.ex (fin b)))
  (hk:(∀b',fV G l b= .inl b' ->Inv l.length b')->K (match fV G l b with| .inl b' => .inl (fin b')| .inr r=> .inr r)=r):l9 (U0 f (mk b 0)) K=r:=by
 obtain⟨h1,h2⟩:=uI l G mk fin Inv hl h0 hin hend;rw[h1];exact hk h2
end
def Le(c:UInt8):Bool:=decide (32<=c.toNat)&&decide (c.toNat<=126)&&decide (c.toNat≠34)
def YG(s:List UInt8):Bool:=decide (s.length<=64)&&s.all Le
theorem Zj(c:UInt8):∀s:List UInt8,decide (0<=Lib.indexByte s c)=s.any λx=>decide (x.toNat=c.toNat)
 |[]=>by simp[Lib.indexByte]|b::l=>by
  have ih:=Zj c l;have hge:=Lib.indexByte_ge l c;rw[qf,←ih];have e:Lib.indexByte (b::l) c=if b=c then 0 else if Lib.indexByte l c=-1 then -1 else Lib.indexByte l c+1:=by rw[Lib.indexByte];simp
  rw[e];by_cases h:b=c
  .subst h;simp
  .have h2:b.toNat≠c.toNat:=λhh=>h (UInt8.toNat_inj.1 hh);rw[if_neg h,show decide (b.toNat=c.toNat)=false by simp[h2],jU];by_cases h3:Lib.indexByte l c=-1
   .rw[h3];rfl
   .rw[if_neg h3];simp;omega
theorem WC(c:UInt8):Le c=(!H6 (c.toNat:Int) 32&&!H6 126 (c.toNat:Int)&&!C9 (c.toNat:Int) 34):=by unfold Le H6 C9;rw[jb];simp;omega
theorem Nu(s:List UInt8)(p:UInt8->Bool):(∀(i:Nat) (a:UInt8),s[i]? =some a->p a=true)↔s.all p=true:=by rw[iH];exact⟨λh x hx=>by obtain⟨i,hi,rfl⟩:=bu hx;exact h i _ (lS hi),λh i a hi=>h a (oV hi)⟩
theorem Ue{s:List UInt8}(h:s.length<=1000000):uz s=some (YG s):=by
 unfold uz;refine O6 (xh s (λi a=>Le a) false PUnit.unit _ o5 (λi x hx=>?_) ?_) ?_
 rotate_left 2
 .have h5:O9 (o9 s) 64=decide (s.length<=64):=by simp only[O9,o9];congr 1;simp;omega
  unfold YG;by_cases hw:s.all Le=true
  .rw[if_pos ((Nu s Le).2 hw),hw,o8,U1,h5,Bool.and_true]
  .rw[if_neg (λh=>hw ((Nu s Le).1 h))];simp only[qI]at hw;rw[hw,Bool.and_false];rfl
 .have hi:=(ax.1 hx).1;simp only[O0 hx,o7,NI,hx,bC,o8];rw[dn o5,WC];cases H6 (x.toNat:Int) 32<;>cases H6 126 (x.toNat:Int)<;>cases C9 (x.toNat:Int) 34<;>rfl
 .rw[N9];rfl
theorem QB{s:List UInt8}(h:s.length<=1000000):ut s=some (YG s):=by
 unfold ut;have h5:H6 64 (o9 s)= !decide (s.length<=64):=by simp only[H6,o9];rw[←decide_not];congr 1;simp;omega
 rw[h5,show qC s [34]=some (s.any λx=>decide (x.toNat=(34:UInt8).toNat))from congrArg some (Zj 34 s)];unfold YG;cases decide (s.length<=64)
 .rfl
 simp only[iU,o6,o8,jV];cases h34:s.any λx=>decide (x.toNat=(34:UInt8).toNat)
 case true=>
  obtain⟨x,hx,hx2⟩:=nG.1 h34;simp only[decide_eq_true_eq]at hx2;have:s.all Le=false:=by rw[List.all_eq_false];refine⟨x,hx,?_⟩;unfold Le;rw[hx2];decide
  rw[this];rfl
 simp only[o6];refine O6 (xh s (λi a=>Le a) false PUnit.unit _ o5 (λi x hx=>?_) ?_) ?_
 rotate_left 2
 .by_cases hw:s.all Le=true
  .rw[if_pos ((Nu s Le).2 hw),hw];rfl
  .rw[if_neg (λh=>hw ((Nu s Le).1 h))];simp only[qI]at hw;rw[hw];rfl
 .have hi:=(ax.1 hx).1;have hne:C9 (x.toNat:Int) 34=false:=by
   have:=(gV.1 h34) x (oV hx);simp only[decide_eq_true_eq]at this;exact N7 (by have h:(34:UInt8).toNat=34:=rfl;omega)
  simp only[O0 hx,o7,NI,hx,bC,o8];rw[dn o5,WC,hne];cases H6 (x.toNat:Int) 32<;>cases H6 126 (x.toNat:Int)<;>rfl
 .rw[N9];rfl
def Hu(e:List (Int×Int))(sg:P6)(t:Int×Int):Int:=l7 (C9 (qO e sg).2.2 0) (l7 (nH (C9 (qO e sg).1.1 t.1) (C9 (qO e sg).1.2 t.2)) 0 8) (qO e sg).2.2
theorem IR(sg:P6)(t:Int×Int)(hI:∀n∈e,lL n.2):qF e sg t=some (Hu e sg t):=by
 unfold qF Hu;rw[a0m sg hI,o8];cases C9 (qO e sg).2.2 0
 .rfl
 simp only[I7,o6,o7];cases nH (C9 (qO e sg).1.1 t.1) (C9 (qO e sg).1.2 t.2)<;>rfl
theorem IX(sg:P6)(t:Int×Int)(hI:∀n∈e,lL n.2):nS e sg t=some (Hu e sg t):=by
 unfold nS Hu;rw[XX sg hI,o8];cases C9 (qO e sg).2.2 0
 .rfl
 simp only[I7,o6,o7];cases nH (C9 (qO e sg).1.1 t.1) (C9 (qO e sg).1.2 t.2)<;>rfl
def WR(r:iw):Prop:=r.1.length<=1000000/\r.2.2.2.2.2.2.2.length<=1000000/\(∀n∈r.2.2.2.2.2.1,lL n.2)/\(∀n∈r.2.2.2.2.2.2.1,lL n.2)
def Oj(rs:List iw)(d:Int):Nat:=rs.countP λo=>C9 o.2.1 d
def Xu(r:iw)(sg:P6)(t:Int×Int):Int:=
 l7 (H6 0 (o9 r.2.2.2.2.2.1)) (l7 (C9 (Hu r.2.2.2.2.2.1 sg (1,0)) 0) (Hu r.2.2.2.2.2.2.1 sg t) (Hu r.2.2.2.2.2.1 sg (1,0))) (Hu r.2.2.2.2.2.2.1 sg t)
def Qg(s:P5)(sg:P6)(k:Nat)(r:iw):Int:=
 l7 (Ae r.1) (l7 ((s.2.2.2.2.take k).any λx=>seq x.1 r.1) 7 (match J9 s.2.2.2.1 r.2.1 with
  |none=>6|some d=>l7 (l7 (C9 r.2.2.1 (-1)) false (l7 (H6 r.2.2.1 0) true (l7 (O9 k r.2.2.1) true (match J9 s.2.2.2.2 r.2.2.1 with|some q=>G7 (C9 q.2.1 r.2.1)|none=>true)))) 9
   (l7 (H6 r.2.2.2.1 0) 3 (l7 (H6 9 r.2.2.2.1) 3 (l7 (Ei r.2.2.2.2.1) (l7 (C9 r.2.2.2.2.1.1 r.2.2.2.2.1.2) 3
    (l7 (O9 8 (Oj (s.2.2.2.2.take k) r.2.1)) 4 (l7 (YG r.2.2.2.2.2.2.2) (Xu r sg d.2) 2))) 3))))) 2
theorem Je{l:List α}{i:Int}(h:O9 0 i=false\/H6 i (o9 l)=false):J9 l i=none:=by
 unfold J9
 split
 .rename_i h0;rcases h with h|h
  .rw[OW]at h;omega
  .rw[tN]at h;simp only[o9]at h;exact fZ o5
 .rfl
variable {s:P5}{r:iw}{k:Nat}
theorem TC(sg:P6)(hr:s.2.2.2.2[k]? =some r)(hl:s.2.2.2.2.length<=1000)(h:WR r):xG s (k:Int) sg=some (Qg s sg k r):=by
 have hk:=(ax.1 hr).1;have hcnt:Oj (s.2.2.2.2.take k) r.2.1<=1000:=by have:=List.countP_le_length (l:=s.2.2.2.2.take k) (p:=λ(o:iw)=>C9 o.2.1 r.2.1);unfold Oj;simp at this;omega
 unfold xG;rw[J7,hr,o8,vg o5,o8];refine O6 (xg (s.2.2.2.2.take k) (λ(c:Nat) (o:iw)=>l7 (C9 o.2.1 r.2.1) (c+1) c) (λc i=>((c:Int),i)) (λc=>(c:Int)) (λi c=>c<=i) (b:=0) E5 o5 (λi a c ha hi hc=>?_) (λc hc=>?_)).1 ?_
 rotate_left 2
 .have hf:∀(l:List iw) (c:Nat),l.foldl (λ(c:Nat) (o:iw)=>l7 (C9 o.2.1 r.2.1) (c+1) c) c=c+Oj l r.2.1:=by
   intro l;induction l with
   |nil=>intro c;rfl|cons a l ih=>intro c;rw[X8,ih];unfold Oj;rw[List.countP_cons];cases C9 a.2.1 r.2.1<;>simp<;>omega
  rw[hf,bI,o8,nM h.1,o8,o8,Xz _ E5,o8];unfold Qg;cases Ae r.1
  .rfl
  simp only[I7,o6,o7,o8];cases (s.2.2.2.2.take k).any λx=>seq x.1 r.1
  case true=>rfl
  simp only[o6];rw[yF r.2.1 0,IZ (o9 s.2.2.2.1) r.2.1];cases h0:O9 0 r.2.1
  .rw[Je (.inl h0)];rfl
  cases h1:H6 r.2.1 (o9 s.2.2.2.1)
  .rw[Je (.inr h1)];rfl
  obtain⟨d,hd,_⟩:=oZ (qc.1 h0) (su.1 h1);rw[hd];simp only[iU,o6,o8,QB h.2.1];have hpar:(l7 (G7 (C9 r.2.2.1 (-1))) (l7 (H6 r.2.2.1 0) (some true) (l7 (O9 (k:Int) r.2.2.1) (some true) (l9 (J9 s.2.2.2.2 r.2.2.1) λ(x_6:iw)=>some (G7 (C9 x_6.2.1 r.2.1))))) (some false))=
    some (l7 (C9 r.2.2.1 (-1)) false (l7 (H6 r.2.2.1 0) true (l7 (O9 k r.2.2.1) true (match J9 s.2.2.2.2 r.2.2.1 with|some q=>G7 (C9 q.2.1 r.2.1)|none=>true)))):=by
   cases C9 r.2.2.1 (-1)
   case true=>rfl
   simp only[Z7,o7,o6];cases hp0:H6 r.2.2.1 0
   case true=>rfl
   cases hp1:O9 (k:Int) r.2.2.1
   case true=>rfl
   rw[tN]at hp0;rw[OW]at hp1;obtain⟨q,hq,_⟩:=oZ (l:=s.2.2.2.2) hp0 (by simp only[o9];omega);rw[hq];rfl
  rw[hpar,o8];cases (l7 (C9 r.2.2.1 (-1)) false (l7 (H6 r.2.2.1 0) true (l7 (O9 k r.2.2.1) true (match J9 s.2.2.2.2 r.2.2.1 with|some q=>G7 (C9 q.2.1 r.2.1)|none=>true))))
  case true=>rfl
  simp only[o6];cases H6 r.2.2.2.1 0
  case true=>rfl
  simp only[o6,o8];cases H6 9 r.2.2.2.1
  case true=>rfl
  simp only[o6];have hval:∀(A B:Option (iw⊕Int)),l7 (H6 r.2.2.2.2.1.1 0) A (l7 (O9 r.2.2.2.2.1.2 r.2.2.2.2.1.1) A (l7 (H6 109573 r.2.2.2.2.1.2) A B))=l7 (Ei r.2.2.2.2.1) (l7 (C9 r.2.2.2.2.1.1 r.2.2.2.2.1.2) A B) A:=by
   intro A B;unfold Ei;by_cases v0:r.2.2.2.2.1.1<(0:Int)
   .rw[bg v0,aU (show r.2.2.2.2.1.1<(0:Int)from v0)];rfl
   rw[au (qA.1 v0),ah (qA.1 v0)];by_cases v1:(r.2.2.2.2.1.2:Int)<=r.2.2.2.2.1.1
   .rw[ah v1];by_cases v2:(r.2.2.2.2.1.1:Int)<=r.2.2.2.2.1.2
    .rw[ah v2,Z9 (Int.le_antisymm v2 v1)];cases O9 r.2.2.2.2.1.2 109573<;>rfl
    .rw[aU (qy.1 v2)];rfl
   .have v1' :=qy.1 v1;rw[aU v1',ah (Int.le_of_lt v1'),N7 (λhh=>by rw[hh]at v1';exact Int.lt_irrefl _ v1'),yF];cases O9 r.2.2.2.2.1.2 109573<;>rfl
  rw[hval];cases Ei r.2.2.2.2.1
  .rfl
  cases C9 r.2.2.2.2.1.1 r.2.2.2.2.1.2
  case true=>rfl
  simp only[o7,o6];cases O9 8 ((Oj (s.2.2.2.2.take k) r.2.1:Nat):Int)
  case true=>rfl
  cases YG r.2.2.2.2.2.2.2
  .rfl
  simp only[I7,o6,o7,o8,U1,Xu,hd,IR sg _ h.2.2.1,IR sg _ h.2.2.2];cases H6 0 (o9 r.2.2.2.2.2.1)
  .rfl
  simp only[o7];cases C9 (Hu r.2.2.2.2.2.1 sg (1,0)) 0<;>rfl
 .have hc' :c<=1000000:=o5;obtain⟨ha1,ha2⟩:=JL ha;simp only[O0 ha,o7,J7,ha,o8];rw[dn (show i<=9000000000000000000 by omega),dn (show c<=9000000000000000000 by omega)];cases C9 a.2.1 r.2.1
  .exact⟨rfl,by show c<=i+1;omega⟩
  .exact⟨rfl,by show c+1<=i+1;omega⟩
 .simp only[N9];rfl
theorem a1Z(s:P5)(d:Int):zM s d=some (l7 (O9 0 d) (H6 d (o9 s.2.2.2.1)) false):=by unfold zM;cases O9 0 d<;>rfl
theorem RN(r:iw):∀(l:List iw) (c:Nat),fV (λ(c:Nat) (o:iw)=>l7 (seq o.1 r.1) (.inr (7:Int)) (.inl (l7 (C9 o.2.1 r.2.1) (c+1) c))) l c=l7 (l.any λx=>seq x.1 r.1) (.inr 7) (.inl (c+Oj l r.2.1))
 |[],c=>rfl|a::l,c=>by
  unfold fV;rw[qf];cases seq a.1 r.1
  case true=>rfl
  simp only[o6,jU];rw[RN r l];unfold Oj;rw[List.countP_cons];cases C9 a.2.1 r.2.1
  .simp only[o6,bY,if_false,aN]
  .simp only[o7,if_true];rw[show c+1+List.countP (λo=>C9 o.2.1 r.2.1) l=c+(List.countP (λo=>C9 o.2.1 r.2.1) l+1) by omega]
variable {l:dJ}
theorem QZ(hL:IL l)(hs:l.2.2[i]? =some s)(hr:s.2.2.2.2[k]? =some r)(h:WR r):uA l (i:Int) (k:Int)=some (Qg s (Ri l s) k r):=by
 have hk:=(ax.1 hr).1;have hl:=(hL s (oV hs)).2.2.2;have hcnt:Oj (s.2.2.2.2.take k) r.2.1<=1000:=by have:=List.countP_le_length (l:=s.2.2.2.2.take k) (p:=λ(o:iw)=>C9 o.2.1 r.2.1);unfold Oj;simp at this;omega
 unfold uA Qg;rw[J7,hs,o8,J7,hr,o8,jX h.1,o8];cases Ae r.1
 .rfl
 simp only[I7,o6,o7];refine O6 (uI (s.2.2.2.2.take k) (λ(c:Nat) (o:iw)=>l7 (seq o.1 r.1) (.inr (7:Int)) (.inl (l7 (C9 o.2.1 r.2.1) (c+1) c))) (λc i=>((c:Int),i)) (λc=>(c:Int)) (λi c=>c<=i) (b:=0) E5 o5 (λj a c ha hi hc=>?_) (λc hc=>?_)).1 ?_
 rotate_left 2
 .rw[RN];cases (s.2.2.2.2.take k).any λx=>seq x.1 r.1
  case true=>rfl
  simp only[o6,bI,o8,U1];rw[yF r.2.1 0,IZ (o9 s.2.2.2.1) r.2.1];cases h0:O9 0 r.2.1
  .rw[Je (.inl h0)];rfl
  cases h1:H6 r.2.1 (o9 s.2.2.2.1)
  .rw[Je (.inr h1)];rfl
  obtain⟨d,hd,_⟩:=oZ (qc.1 h0) (su.1 h1);rw[hd];simp only[iU,o6,o8,U1];have hpar:(l7 (G7 (C9 r.2.2.1 (-1))) (l7 (H6 r.2.2.1 0) (some (Sum.inr (9:Int))) (l7 (O9 (k:Int) r.2.2.1) (some (.inr 9)) (l9 (J9 s.2.2.2.2 r.2.2.1) λ(x:iw)=>l7 (G7 (C9 x.2.1 r.2.1)) (some (.inr 9)) (some (.inl PUnit.unit))))) (some (.inl PUnit.unit)))=
    some (l7 (l7 (C9 r.2.2.1 (-1)) false (l7 (H6 r.2.2.1 0) true (l7 (O9 k r.2.2.1) true (match J9 s.2.2.2.2 r.2.2.1 with|some q=>G7 (C9 q.2.1 r.2.1)|none=>true)))) (.inr 9) (.inl PUnit.unit)):=by
   cases C9 r.2.2.1 (-1)
   case true=>rfl
   simp only[Z7,o7,o6];cases hp0:H6 r.2.2.1 0
   case true=>rfl
   cases hp1:O9 (k:Int) r.2.2.1
   case true=>rfl
   rw[tN]at hp0;rw[OW]at hp1;obtain⟨q,hq,_⟩:=oZ (l:=s.2.2.2.2) hp0 (by simp only[o9];omega);rw[hq];simp only[o8,o6];cases C9 q.2.1 r.2.1<;>rfl
  rw[hpar,o8];cases (l7 (C9 r.2.2.1 (-1)) false (l7 (H6 r.2.2.1 0) true (l7 (O9 k r.2.2.1) true (match J9 s.2.2.2.2 r.2.2.1 with|some q=>G7 (C9 q.2.1 r.2.1)|none=>true))))
  case true=>rfl
  simp only[o6,U1];cases H6 r.2.2.2.1 0
  case true=>rfl
  cases H6 9 r.2.2.2.1
  case true=>rfl
  simp only[o6,Dx,o8];cases Ei r.2.2.2.2.1
  .rfl
  cases C9 r.2.2.2.2.1.1 r.2.2.2.2.1.2
  case true=>rfl
  simp only[I7,o7,o6,o8,U1];cases O9 8 ((Oj (s.2.2.2.2.take k) r.2.1:Nat):Int)
  case true=>rfl
  simp only[o6,Ue h.2.1,o8];cases YG r.2.2.2.2.2.2.2
  .rfl
  simp only[I7,o6,o7,o8,Rf hL hs,Xu,hd,IX (Ri l s) _ h.2.2.1,IX (Ri l s) _ h.2.2.2];cases H6 0 (o9 r.2.2.2.2.2.1)
  .rfl
  simp only[o7];cases C9 (Hu r.2.2.2.2.2.1 (Ri l s) (1,0)) 0<;>rfl
 .obtain⟨ha1,ha2⟩:=JL ha;simp only[bg (show(j:Int)<(k:Int) by omega),o7,J7,ha2,o8];rw[dn (show j<=9000000000000000000 by omega),dn (show c<=9000000000000000000 by omega)];cases seq a.1 r.1
  .cases C9 a.2.1 r.2.1
   .exact⟨rfl,λb' hb=>by cases hb;show c<=j+1;omega⟩
   .exact⟨rfl,λb' hb=>by cases hb;show c+1<=j+1;omega⟩
  .exact⟨rfl,λb' hb=>by cases hb⟩
 .have e:(s.2.2.2.2.take k).length=k:=by simp;omega
  simp only[e,au (show(k:Int)<=(k:Int) by omega)];rfl
structure SmS (s:P5):Prop where
 nm:s.1.length<=1000000
 ni:s.2.2.1.length<=14
 nd:s.2.2.2.1.length<=14
 nr:s.2.2.2.2.length<=60
 fo:UQ s
 ro:∀r∈s.2.2.2.2,WR r/\r.2.2.2.2.2.1.length<=50/\r.2.2.2.2.2.2.1.length<=50
theorem Ug:lW=oq:=rfl
def Ih(n:Int)(b:List Int×Bool)(a:Int):List Int×Bool:=l7 b.2 (b.1++[a],true) (l7 (O9 n a) (l7 (H6 n a) (b.1++[n]++[a],true) (b.1++[a],true)) (b.1++[a],false))
theorem XB(n:Int):∀(l p:List Int),l.foldl (Ih n) (p,true)=(p++l,true)
 |[],p=>by simp|a::l,p=>by rw[X8,show Ih n (p,true) a=(p++[a],true)from rfl,XB n l];simp
theorem a0U(n:Int):∀(l p:List Int),(l7 (l.foldl (Ih n) (p,false)).2 (l.foldl (Ih n) (p,false)).1 ((l.foldl (Ih n) (p,false)).1++[n]))=p++ins n l
 |[],p=>rfl|a::l,p=>by
  rw[X8];unfold ins;by_cases h1:n<=a
  .rw[if_pos h1];by_cases h2:n<a
   .rw[if_pos h2,show Ih n (p,false) a=(p++[n]++[a],true) by simp[Ih,ah h1,bg h2],XB];simp
   .rw[if_neg h2,show Ih n (p,false) a=(p++[a],true) by simp[Ih,ah h1,au (show a<=n by omega)],XB];simp
  .rw[if_neg h1,show Ih n (p,false) a=(p++[a],false) by simp[Ih,aU (show a<n by omega)],a0U n l];simp
theorem zK{l:List Int}(n:Int)(hl:l.length<=1000000):oq l n=some (ins n l):=by
 unfold oq;refine mX l (Ih n) (λb i=>(b.1,b.2,i)) (λb=>b) (λi b=>b.1.length<=i+1/\(b.2=false->b.1.length<=i)) (([],false):List Int×Bool) hl x9 (λi a b ha hi hI=>?_) (λb hI=>?_) (λh2=>?_)
 .obtain⟨o,d⟩:=b;simp only at hI;simp only[O0 ha,o7,J7,ha,o8];rw[dn o5];cases d
  .simp only[Z7,o7,Ih,o6];have:=hI.2 rfl;cases O9 n a
   .rw[o6,kw a (show o.length<=1000000 by omega)];exact⟨rfl,by simp<;>omega,by simp<;>omega⟩
   .rw[o7];cases H6 n a
    .rw[o6,kw a (show o.length<=1000000 by omega)];exact⟨rfl,by simp<;>omega,x9⟩
    .rw[o7,kw n (show o.length<=1000000 by omega),o8,Gg E5];exact⟨rfl,by simp<;>omega,x9⟩
  .simp only[I7,o6,Ih,o7];rw[Gg E5];exact⟨rfl,by simp<;>omega,x9⟩
 .simp only[N9];rfl
 .have hf:=a0U n l [];generalize l.foldl (Ih n) ([],false)=b at*;obtain⟨o,d⟩:=b;cases d
  .simp only[o6,I5]at hf;simp only[Z7,o7];rw[kw _ (by simp at h2;omega),hf];rfl
  .simp only[o7,I5]at hf;simp only[I7,o6,hf]
def isM(op:Int):Bool:=l7 (O9 36 op) (O9 op 39) false
theorem a6w(op:Int):isM op=l7 (C9 op 36) true (l7 (C9 op 37) true (l7 (C9 op 38) true (C9 op 39))):=by
 unfold isM;by_cases h1:36<=op
 .rw[ah h1,o7];by_cases h2:op<=39
  .rw[ah h2];have:op=36\/op=37\/op=38\/op=39:=o5;rcases this with rfl|rfl|rfl|rfl<;>rfl
  .rw[aU o5,N7 o5,N7 o5,N7 o5,N7 o5];rfl
 .rw[aU o5,N7 o5,N7 o5,N7 o5,N7 o5];rfl
def Np(p:Int->Bool)(e:List (Int×Int)):List Int:=(e.filter λn=>p n.1).map (·.2)
def wR(e:List (Int×Int)):List Int×List Int×List Int:=(IG (Np (λo=>C9 o 7) e),IG (Np (λo=>C9 o 8) e),IG (Np isM e))
def Y_(g:List Int->Int->List Int)(b:List Int×List Int×List Int)(n:Int×Int):List Int×List Int×List Int:=
 (l7 (C9 n.1 7) (g b.1 n.2) b.1,l7 (C9 n.1 8) (g b.2.1 n.2) b.2.1,l7 (isM n.1) (g b.2.2 n.2) b.2.2)
theorem KO(g:List Int->Int->List Int):∀(e:List (Int×Int)) (b:List Int×List Int×List Int),e.foldl (Y_ g) b=((Np (λo=>C9 o 7) e).foldl g b.1,(Np (λo=>C9 o 8) e).foldl g b.2.1,(Np isM e).foldl g b.2.2)
 |[],b=>rfl|n::e,b=>by
  have hn:∀p:Int->Bool,Np p (n::e)=l7 (p n.1) (n.2::Np p e) (Np p e):=λp=>by unfold Np;rw[iI];cases p n.1<;>rfl
  rw[X8,KO g e,hn,hn,hn];unfold Y_;simp only;cases C9 n.1 7<;>cases C9 n.1 8<;>cases isM n.1<;>rfl
theorem RP:∀(l b:List Int),l.foldl (λacc n=>acc++[n]) b=b++l
 |[],b=>by simp|a::l,b=>by rw[X8,RP l];simp
theorem Bz{a k:Int}(h:a=k)(m:Int)(hm:k≠m):C9 a m=false:=N7 o5
theorem Ar{l:List Int}(hl:l.length<=1000000):qE l=some (IG l):=by unfold qE;have:=a5f (l:=l) hl;rw[show(λx=>l9 (nU x) λ(x:List Int)=>some x)=λx=>nU x from funext λx=>ui _];exact this
theorem Hl(h:e.length<=1000000):qx e=some (wR e):=by
 unfold qx;refine mX e (Y_ (λacc n=>acc++[n])) (λb i=>(b.1,b.2.1,b.2.2,i)) (λb=>b) (λi b=>b.1.length<=i/\b.2.1.length<=i/\b.2.2.length<=i) (([],[],[]):List Int×List Int×List Int) h x9 (λi a b ha hi hI=>?_) (λb hI=>?_) (λh2=>?_)
 .obtain⟨b1,b2,b3⟩:=b;simp only at hI;simp only[O0 ha,o7,J7,ha,o8,kw a.2 (show b1.length<=1000000 by omega),kw a.2 (show b2.length<=1000000 by omega),kw a.2 (show b3.length<=1000000 by omega),Y_,a6w];rw[dn o5];by_cases h7:a.1=7
  .rw[Z9 h7,Bz h7 8 V4,Bz h7 36 V4,Bz h7 37 V4,Bz h7 38 V4,Bz h7 39 V4];exact⟨rfl,by simp<;>omega,by simp<;>omega,by simp<;>omega⟩
  rw[N7 h7];by_cases h8:a.1=8
  .rw[Z9 h8,Bz h8 36 V4,Bz h8 37 V4,Bz h8 38 V4,Bz h8 39 V4];exact⟨rfl,by simp<;>omega,by simp<;>omega,by simp<;>omega⟩
  rw[N7 h8];cases C9 a.1 36<;>cases C9 a.1 37<;>cases C9 a.1 38<;>cases C9 a.1 39<;>exact⟨rfl,by simp<;>omega,by simp<;>omega,by simp<;>omega⟩
 .simp only[N9];rfl
 .rw[KO]at h2 ⊢;simp only[RP,I5]at h2 ⊢;rw[Ar o5,o8,Ar o5,o8,Ar o5];rfl
theorem EX(h:e.length<=500000):pK e=some (wR e):=by
 unfold pK;refine mX e (Y_ (λacc n=>ins n acc)) (λb i=>(b.1,b.2.1,b.2.2,i)) (λb=>b) (λi b=>b.1.length<=i/\b.2.1.length<=i/\b.2.2.length<=i) (([],[],[]):List Int×List Int×List Int) o5 x9 (λi a b ha hi hI=>?_) (λb hI=>?_) (λh2=>?_)
 .obtain⟨b1,b2,b3⟩:=b;simp only at hI;have l1:=uH a.2 b1;have l2:=uH a.2 b2;have l3:=uH a.2 b3;rw[Ug];simp only[O0 ha,o7,J7,ha,o8,zK a.2 (show b1.length<=1000000 by omega),zK a.2 (show b2.length<=1000000 by omega),zK a.2 (show b3.length<=1000000 by omega),Y_,isM];rw[dn o5];by_cases h7:a.1=7
  .rw[Z9 h7,Bz h7 8 V4,aU (show a.1<36 by omega)];exact⟨rfl,by simp<;>omega,by simp<;>omega,by simp<;>omega⟩
  rw[N7 h7];cases C9 a.1 8<;>cases O9 36 a.1<;>cases O9 a.1 39<;>exact⟨rfl,by simp<;>omega,by simp<;>omega,by simp<;>omega⟩
 .simp only[N9];rfl
 .rw[KO];rfl
theorem a1n(p:Int->Bool)(e:List (Int×Int)):(Np p e).length<=e.length:=by unfold Np;rw[U3];exact bJ _ _
theorem yX(e:List (Int×Int)):(wR e).2.1.length<=e.length:=iD (Vz _) (a1n _ e)
def inD(n d:Int):Bool:=l7 (O9 0 d) (H6 d n) false
def yz(n:Int)(r:iw):List Int:=(wR r.2.2.2.2.2.1).2.1.filter (inD n)++(wR r.2.2.2.2.2.2.1).2.1.filter (inD n)
theorem OO(p:Int->Bool):∀(l b:List Int),l.foldl (λacc x=>l7 (p x) (acc++[x]) acc) b=b++l.filter p
 |[],b=>by simp|a::l,b=>by rw[X8,OO p l,iI];cases p a<;>simp
variable {f:List Int×Int->Option ((List Int×Int)⊕List Int)}
theorem RJ(l b:List Int)(n:Int)(hl:l.length<=1000)(hb:b.length<=1000)
  (hin:∀(i:Nat) (a:Int) (acc:List Int),l[i]? =some a->i<=1000000->f (acc,(i:Int))=l7 (O9 0 a) (l7 (H6 a n) (l9 (bH acc [a]) λx=>some (.inl (x,F6 .i64 (i:Int) 1))) (some (.inl (acc,F6 .i64 (i:Int) 1)))) (some (.inl (acc,F6 .i64 (i:Int) 1))))
  (hend:∀acc,f (acc,(l.length:Int))=some (.inr acc)):dK f (b,0)=some (b++l.filter (inD n)):=by
 have key:=xg l (λ(acc:List Int) x=>l7 (inD n x) (acc++[x]) acc) (λb i=>(b,i)) (λb=>b) (λi acc=>acc.length<=1000+i) (f:=f) (b:=b) o5 o5 ?_ ?_
 .rw[key.1,OO]
 .intro i a acc ha hi hI;have:=(ax.1 ha).1;rw[hin i a acc ha hi,dn o5,kw _ o5];unfold inD;cases O9 0 a
  .exact⟨rfl,by show acc.length<=_;omega⟩
  cases H6 a n
  .exact⟨rfl,by show acc.length<=_;omega⟩
  .exact⟨rfl,by simp;omega⟩
 .intro acc hI;rw[hend]
theorem JZ(n:Int)(h1:r.2.2.2.2.2.1.length<=50)(h2:r.2.2.2.2.2.2.1.length<=50):pY r n=some (yz n r):=by
 have g1:=yX r.2.2.2.2.2.1;have g2:=yX r.2.2.2.2.2.2.1;unfold pY yz;rw[Hl o5,o8,Hl o5,o8];refine O6 (RJ (wR r.2.2.2.2.2.1).2.1 [] n o5 x9 (λi a acc ha hi=>?_) (λacc=>?_)) ?_
 rotate_left 2
 .rw[o8,ui,I5];have:=bJ (inD n) (wR r.2.2.2.2.2.1).2.1;refine RJ (wR r.2.2.2.2.2.2.1).2.1 _ n o5 o5 (λi a acc ha hi=>?_) (λacc=>?_)
  .simp only[O0 ha,o7,J7,ha,o8];rw[show dW (wR r.2.2.2.2.2.2.1).2.1 (df (i:Int))=some a from ha,o8]
  .simp only[N9];rfl
 .simp only[O0 ha,o7,J7,ha,o8];rw[show dW (wR r.2.2.2.2.2.1).2.1 (df (i:Int))=some a from ha,o8]
 .simp only[N9];rfl
def nD(s:P5):Int:=o9 s.2.2.2.1
def dl(n:Int)(rs:List iw)(d:Int):List Int:=rs.flatMap λr=>l7 (C9 r.2.1 d) (yz n r) []
def lM(s:P5)(d:Int):List Int:=l7 (inD (nD s) d) (IG (dl (nD s) s.2.2.2.2 d)) []
theorem KN(h:SmS s)(hr:r∈s.2.2.2.2)(n:Int):(yz n r).length<=100:=by obtain⟨_,h1,h2⟩:=h.ro r hr;have a1:=yX r.2.2.2.2.2.1;have a2:=yX r.2.2.2.2.2.2.1;have b1:=bJ (inD n) (wR r.2.2.2.2.2.1).2.1;have b2:=bJ (inD n) (wR r.2.2.2.2.2.2.1).2.1;unfold yz;rw[I8];omega
theorem Zc(n:Int)(rs:List iw)(r:iw)(d:Int):dl n (rs++[r]) d=dl n rs d++l7 (C9 r.2.1 d) (yz n r) []:=by unfold dl;rw[List.flatMap_append];simp
theorem Zb(n:Int)(rs:List iw)(r:iw)(d:Int):dl n (r::rs) d=l7 (C9 r.2.1 d) (yz n r) []++dl n rs d:=rfl
theorem Xl{s:P5}(h:SmS s)(n d:Int):∀(rs:List iw),(∀r∈rs,r∈s.2.2.2.2)->(dl n rs d).length<=100*rs.length
 |[],_=>by simp[dl]|r::rs,hm=>by
  have ih:=Xl h n d rs λr hr=>hm r (by simp[hr]);have h1:=KN h (hm r x9) n;rw[Zb,I8,H5];cases C9 r.2.1 d
  .simp only[o6,dA];omega
  .simp only[o7];omega
variable {d:Int}{x:Int}
theorem a6z{n:Int}{rs:List iw} :x∈dl n rs d↔∃r∈rs,r.2.1=d/\x∈yz n r:=by
 unfold dl;rw[List.mem_flatMap];constructor
 .rintro⟨r,hr,hx⟩;cases hq:C9 r.2.1 d<;>rw[hq]at hx
  .simp at hx
  .exact⟨r,hr,nC.1 hq,hx⟩
 .rintro⟨r,hr,hq,hx⟩;exact⟨r,hr,by rw[Z9 hq];exact hx⟩
theorem a2a{n:Int}(h:x∈yz n r):0<=x/\x<n:=by
 have key:inD n x=true:=by unfold yz at h;rcases L9.1 h with h|h<;>exact(nY.1 h).2
 unfold inD at key;cases h0:O9 0 x<;>rw[h0]at key
 .cases key
 .exact⟨qc.1 h0,su.1 key⟩
theorem BN(s:P5)(d:Int):SI (lM s d):=by
 unfold lM;cases inD (nD s) d
 .exact List.Pairwise.nil
 .exact ZR _
theorem yS(h:x∈lM s d):0<=x/\x<nD s:=by
 unfold lM at h;cases hq:inD (nD s) d<;>rw[hq]at h
 .simp at h
 .obtain⟨r,_,_,hx⟩:=a6z.1 ((VD _ _).1 h);exact a2a hx
theorem Vu(s:P5)(l b:List Int)(hl:l.length<=1000)(hb:b.length<=100000)
  (hin:∀(i:Nat) (a:Int) (acc:List Int),l[i]? =some a->i<=1000000->f (acc,(i:Int))=l9 (zM s a) λx=>l7 x (l9 (oq acc a) λx=>some (.inl (x,F6 .i64 (i:Int) 1))) (some (.inl (acc,F6 .i64 (i:Int) 1))))
  (hend:∀acc,f (acc,(l.length:Int))=some (.inr acc)):dK f (b,0)=some (BA (l.filter (inD (nD s))) b):=by
 have key:=xg l (λ(acc:List Int) x=>l7 (inD (nD s) x) (ins x acc) acc) (λb i=>(b,i)) (λb=>b) (λi acc=>acc.length<=100000+i) (f:=f) (b:=b) o5 o5 ?_ ?_
 .have hf:∀(l b:List Int),l.foldl (λ(acc:List Int) x=>l7 (inD (nD s) x) (ins x acc) acc) b=BA (l.filter (inD (nD s))) b:=by
   intro l;induction l with
   |nil=>intro b;rfl|cons a l ih=>intro b;rw[X8,ih,iI];cases inD (nD s) a<;>rfl
  rw[key.1,hf]
 .intro i a acc ha hi hI;have hlt:=(ax.1 ha).1;have h2:=uH a acc;rw[hin i a acc ha hi,a1Z,o8,dn o5,zK _ o5];change l7 (inD (nD s) a) _ _=_/\_;cases inD (nD s) a
  .exact⟨rfl,by show acc.length<=_;omega⟩
  .exact⟨rfl,by show(ins a acc).length<=_;omega⟩
 .intro acc hI;rw[hend]
theorem PO(h:SmS s)(d:Int):wB s d=some (lM s d):=by
 have hnr:=h.nr;unfold wB lM;rw[a1Z,o8];change l7 (G7 (inD (nD s) d)) _ _=_;cases inD (nD s) d
 .rfl
 simp only[I7,o6,o7];refine mX s.2.2.2.2 (λ(acc:List Int) r=>l7 (C9 r.2.1 d) (BA (yz (nD s) r) acc) acc) (λb i=>(b,i)) (λb=>b) (λi acc=>acc.length<=100*i) [] o5 x9 (λi r acc ha hi hI=>?_) (λacc hI=>?_) (λh2=>?_)
 .have hlt:=(ax.1 ha).1;obtain⟨_,h1,h2⟩:=h.ro r (oV ha);have a1:=yX r.2.2.2.2.2.1;have a2:=yX r.2.2.2.2.2.2.1;have hlen:=AB (yz (nD s) r) acc;have hrl:=KN h (oV ha) (nD s);simp only[O0 ha,o7,J7,ha,o8];rw[dn o5];cases C9 r.2.1 d
  .exact⟨rfl,by show acc.length<=_;omega⟩
  simp only[I7,o6,o7,EX (show r.2.2.2.2.2.1.length<=500000 by omega),EX (show r.2.2.2.2.2.2.1.length<=500000 by omega),o8];refine⟨?_,by show(BA (yz (nD s) r) acc).length<=_;omega⟩;refine O6 (Vu s (wR r.2.2.2.2.2.1).2.1 acc o5 o5 (λi a acc ha hi=>?_) (λacc=>?_)) ?_
  rotate_left 2
  .rw[o8];have hl2:=AB ((wR r.2.2.2.2.2.1).2.1.filter (inD (nD s))) acc;have hl3:=bJ (inD (nD s)) (wR r.2.2.2.2.2.1).2.1;refine O6 (Vu s (wR r.2.2.2.2.2.2.1).2.1 _ o5 o5 (λi a acc ha hi=>?_) (λacc=>?_)) ?_
   rotate_left 2
   .rw[o8];unfold yz;rw[LU]
   .simp only[O0 ha,o7,J7,ha,o8];rw[show dW (wR r.2.2.2.2.2.2.1).2.1 (df (i:Int))=some a from ha];rfl
   .simp only[N9];rfl
  .simp only[O0 ha,o7,J7,ha,o8];rw[show dW (wR r.2.2.2.2.2.1).2.1 (df (i:Int))=some a from ha];rfl
  .simp only[N9];rfl
 .simp only[N9];rfl
 .have hf:∀(l:List iw) (b:List Int),l.foldl (λ(acc:List Int) r=>l7 (C9 r.2.1 d) (BA (yz (nD s) r) acc) acc) b=BA (dl (nD s) l d) b:=by
   intro l;induction l with
   |nil=>intro b;rfl|cons a l ih=>intro b;rw[X8,ih,Zb,LU];cases C9 a.2.1 d<;>rfl
  rw[hf];rfl
theorem Zu(m k:Nat)(f:Nat->α)(v:α):((List.range m).map f).set k v=(List.range m).map λd=>if d=k then v else f d:=by
 apply dw;intro i;rw[X3,eP,eP,U3,eQ];by_cases hi:i<m
 .rw[List.getElem?_range hi];by_cases h:k=i
  .subst h;simp[hi]
  .simp[h,Ne.symm h]
 .have:(List.range m)[i]? =none:=by simp;omega
  rw[this];by_cases h:k=i
  .subst h;simp[hi]
  .simp[h]
def NU(m:Nat)(rs:List iw):List (List Int):=(List.range m).map λ(d:Nat)=>dl (m:Int) rs (d:Int)
theorem UE{l:List Int}(hl:l.length<=1000000):zq l=some (IG l):=Ar hl
theorem TV(m:Nat)(f:Nat->α)(h:k<m):((List.range m).map f)[k]? =some (f k):=by rw[eP,List.getElem?_range h];rfl
theorem Tz(h:SmS s):vI s=some ((List.range s.2.2.2.1.length).map λ(d:Nat)=>lM s (d:Int)):=by
 have hnr:=h.nr;have hnd:=h.nd;unfold vI;generalize hm:s.2.2.2.1.length=m at*;have hn:nD s=(m:Int):=by unfold nD o9;rw[hm]
 rw[show o9 s.2.2.2.1=(m:Int)from hn,show ER (m:Int) ([]:List Int)=some (NU m []) by unfold ER NU dl;rw[if_pos o5];simp[List.map_const'],o8];refine mX s.2.2.2.2 (λ(b:List (List Int)) r=>l7 (inD m r.2.1) (b.set r.2.1.toNat ((b.getD r.2.1.toNat [])++yz m r)) b) (λb i=>(b,i)) (λb=>b) (λi b=>b=NU m (s.2.2.2.2.take i)) (NU m []) o5 x9 (λi r b ha hi hI=>?_) (λb hI=>?_) (λh2=>?_)
 .have hlt:=(ax.1 ha).1;obtain⟨_,h1,h2⟩:=h.ro r (oV ha);have hst:s.2.2.2.2.take (i+1)=s.2.2.2.2.take i++[r]:=by
   rw[Z8 hlt,(ax.1 ha).2]
  have hlb:o9 b=(m:Int):=by rw[hI];simp[o9,NU]
  obtain⟨rd,hrd⟩:∃rd:Int,r.2.1=rd:=⟨r.2.1,rfl⟩;simp only[O0 ha,o7,J7,ha,o8,hlb,hrd];rw[dn o5,hst];by_cases hd:0<=rd/\rd<(m:Int)
  .obtain⟨d0,d1⟩:=hd;have hk:rd.toNat<m:=o5;have hkk:((rd.toNat:Nat):Int)=rd:=o5;have hg:b[rd.toNat]? =some (dl m (s.2.2.2.2.take i) rd):=by rw[hI];unfold NU;rw[TV m _ hk,hkk]
   have hll:=Xl h m rd (s.2.2.2.2.take i) λr hr=>List.mem_of_mem_take hr;have hrl:=KN h (oV ha) m;have htl:(s.2.2.2.2.take i).length<=60:=by simp;omega
   rw[ah d0,bg d1,show inb rd (m:Int)=true by unfold inb;simp;omega,show dW b (df rd)=some (dl m (s.2.2.2.2.take i) rd)from hg,JZ _ h1 h2];simp only[o7,o8];rw[Gg o5,show XH (df rd) (df rd)=true by simp[XH]];simp only[o7,o8];have hin:inD m rd=true:=by unfold inD;rw[ah d0,bg d1];rfl
   rw[hin,show b.getD rd.toNat []=dl m (s.2.2.2.2.take i) rd by rw[Nk,hg];rfl];refine⟨rfl,?_⟩;show b.set rd.toNat _=_;rw[hI];unfold NU;rw[Zu];apply eY;intro d hdm;rw[Zc,hrd];by_cases hq:d=rd.toNat
   .subst hq;rw[if_pos rfl,hkk,Z9 rfl];rfl
   .rw[if_neg hq,N7 o5];simp
  .have hin:inD m rd=false:=by
    unfold inD;by_cases d0:0<=rd
    .rw[ah d0,au o5];rfl
    .rw[aU o5];rfl
   rw[hin];refine⟨?_,?_⟩
   .unfold inD at hin;cases q0:O9 0 rd
    .rfl
    .rw[q0]at hin;simp only[o7]at hin ⊢;rw[hin];rfl
   .show b=_;rw[hI];unfold NU;apply eY;intro d hdm;have:=fC.1 hdm;rw[Zc,hrd,N7 o5];simp
 .simp only[N9];rfl
 .rw[bU]at h2;rw[h2];generalize hA:NU m s.2.2.2.2=A;have hAl:o9 A=(m:Int):=by rw[←hA];simp[o9,NU]
  refine mX (List.range m) (λ(b:List (List Int)) d=>b.set d (IG (b.getD d []))) (λb i=>(b,i)) (λb=>b) (λi b=>b=(List.range m).map λ(d:Nat)=>if d<i then IG (dl m s.2.2.2.2 (d:Int))else dl m s.2.2.2.2 (d:Int)) A E5 (by rw[←hA];unfold NU;simp) (λi d b ha hi hI=>?_) (λb hI=>?_) (λh3=>?_)
  .have hlt:=(ax.1 ha).1;simp only[eQ]at hlt;have hdi:d=i:=by rw[List.getElem?_range hlt]at ha;exact(ru ha).symm
   subst hdi;have hlb:o9 b=(m:Int):=by rw[hI];simp[o9]
   have hg:b[d]? =some (dl m s.2.2.2.2 (d:Int)):=by rw[hI,TV m _ hlt,if_neg o5]
   have hll:=Xl h m d s.2.2.2.2 λr hr=>hr;simp only[hAl,hlb];rw[bg (show(d:Int)<(m:Int) by omega),show inb (d:Int) (m:Int)=true by unfold inb;simp;omega,show dW b (df (d:Int))=some (dl m s.2.2.2.2 (d:Int))from hg];simp only[o7,o8];rw[UE o5,show XH (df (d:Int)) (df (d:Int))=true by simp[XH],dn o5];simp only[o7,o8];rw[show b.getD d []=dl m s.2.2.2.2 (d:Int) by rw[Nk,hg];rfl];refine⟨rfl,?_⟩;rw[hI,Zu];apply eY;intro e he;by_cases hq:e=d
   .subst hq;rw[if_pos rfl,if_pos o5]
   .rw[if_neg hq];by_cases hq2:e<d
    .rw[if_pos hq2,if_pos o5]
    .rw[if_neg hq2,if_neg o5]
  .simp only[eQ,hAl,au (show(m:Int)<=(m:Int) by omega)];rfl
  .rw[h3];apply congrArg some;apply eY;intro d hd;have:=fC.1 hd;simp only[eQ];rw[if_pos this];unfold lM;rw[hn,show inD (m:Int) (d:Int)=true by unfold inD;rw[ah o5,bg o5];rfl];rfl
def Rch(D:Int->List Int)(d:Int)(L:List Int):Prop:=SI L/\(∀x∈D d,x∈L)/\(∀x∈L,∀y∈D x,y∈L)/\∀C:Int->Prop,(∀x∈D d,C x)->(∀x,C x->∀y∈D x,C y)->∀x∈L,C x
theorem Rch.unique{D:Int->List Int}{L M:List Int}(h:Rch D d L)(k:Rch D d M):L=M:=
 Yq h.1 k.1 λx=>⟨λhx=>h.2.2.2 (λy=>y∈M) k.2.1 k.2.2.1 x hx,λhx=>k.2.2.2 (λy=>y∈L) h.2.1 h.2.2.1 x hx⟩
theorem UH:∀{B A:List Int},SI A->SI B->(∀x∈A,x∈B)->A=B\/A.length<B.length
 |[],A,_,_,h=>by
  cases A with
  |nil=>exact .inl rfl|cons a A=>exact absurd (h a x9) x9
 |b::B,[],_,_,_=> .inr x9|b::B,a::A,hA,hB,h=>by
  have hA' :=P9.1 hA;have hB' :=P9.1 hB;rcases D6.1 (h a x9)with hab|hab
  .subst hab;rcases UH (B:=B) (A:=A) hA'.2 hB'.2 (λx hx=>by
    rcases D6.1 (h x (by simp[hx]))with h1|h1
    .have:=hA'.1 x hx;omega
    .exact h1)with h1|h1
   .exact .inl (by rw[h1])
   .exact .inr (by simp only[H5];omega)
  .have hab2:=hB'.1 a hab;rcases UH (B:=B) (A:=a::A) hA hB'.2 (λx hx=>by
    rcases D6.1 (h x hx)with h1|h1
    .rcases D6.1 hx with h2|h2
     .omega
     .have:=hA'.1 x h2;omega
    .exact h1)with h1|h1
   .exact .inr (by rw[h1];simp)
   .exact .inr (by simp only[H5]at*;omega)
def Ce(D:Int->List Int)(L:List Int):List Int:=L.foldl (λacc x=>BA (D x) acc) L
theorem Cf(D:Int->List Int)(x:Int):∀(l acc:List Int),x∈l.foldl (λacc x=>BA (D x) acc) acc↔x∈acc\/∃y∈l,x∈D y
 |[],acc=>by simp|a::l,acc=>by
  rw[X8,Cf D x l,Jj];constructor
  .rintro((h|h)|⟨y,hy,h⟩)
   .exact .inr ⟨a,x9,h⟩
   .exact .inl h
   .exact .inr ⟨y,by simp[hy],h⟩
  .rintro(h|⟨y,hy,h⟩)
   .exact .inl (.inr h)
   .rcases D6.1 hy with rfl|hy
    .exact .inl (.inl h)
    .exact .inr ⟨y,hy,h⟩
theorem ZA(D:Int->List Int):∀(l:List Int) {acc:List Int},SI acc->SI (l.foldl (λacc x=>BA (D x) acc) acc)
 |[],_,h=>h|a::l,_,h=>by rw[X8];exact ZA D l (NK _ h)
theorem PD(D:Int->List Int){L:List Int}(h:SI L):SI (Ce D L):=ZA D L h
def itS(D:Int->List Int)(d:Int):Nat->List Int
 |0=>D d|k+1=>Ce D (itS D d k)
section
variable {D:Int->List Int} {n:Nat} (hsi:∀x,SI (D x)) (hin:∀x,∀y∈D x,0<=y/\y<(n:Int))
include hsi hin
theorem RY(d:Int):∀k,SI (itS D d k)
 |0=>hsi d|k+1=>PD D (RY d k)
theorem Zm(d:Int):∀k,∀x∈itS D d k,0<=x/\x<(n:Int)
 |0,x,hx=>hin d x hx|k+1,x,hx=>by
  rcases(Cf D x _ _).1 hx with h|⟨y,_,h⟩
  .exact Zm d k x h
  .exact hin y x h
theorem Zl(d:Int)(k:Nat):Ce D (itS D d k)=itS D d k\/(itS D d k).length<(Ce D (itS D d k)).length:=by
 rcases UH (RY hsi hin d k) (PD D (RY hsi hin d k)) (λx hx=>(Cf D x _ _).2 (.inl hx))with h|h
 .exact .inl h.symm
 .exact .inr h
theorem RZ(d:Int):∀k,Ce D (itS D d k)=itS D d k\/k<(Ce D (itS D d k)).length
 |0=>by
  rcases Zl hsi hin d 0 with h|h
  .exact .inl h
  .exact .inr o5
 |k+1=>by
  rcases RZ d k with h|h
  .exact .inl (by show Ce D (Ce D (itS D d k))=Ce D (itS D d k);rw[h,h])
  .rcases Zl hsi hin d (k+1)with h2|h2
   .exact .inl h2
   .exact .inr (by have:(itS D d (k+1)).length=(Ce D (itS D d k)).length:=rfl;omega)
theorem a6x(d:Int):Rch D d (itS D d n):=by
 have hst:Ce D (itS D d n)=itS D d n:=by
  rcases RZ hsi hin d n with h|h
  .exact h
  .have:=UA n (PD D (RY hsi hin d n)) (Zm hsi hin d (n+1));omega
 refine⟨RY hsi hin d n,?_,?_,?_⟩
 .intro x hx;have:∀k,x∈itS D d k:=by
   intro k;induction k with
   |zero=>exact hx|succ k ih=>exact(Cf D x _ _).2 (.inl ih)
  exact this n
 .intro x hx y hy;rw[←hst];exact(Cf D y _ _).2 (.inr ⟨x,hx,hy⟩)
 .intro C h1 h2;have:∀k,∀x∈itS D d k,C x:=by
   intro k;induction k with
   |zero=>exact h1|succ k ih=>
    intro x hx;rcases(Cf D x _ _).1 hx with h|⟨y,hy,h⟩
    .exact ih x h
    .exact h2 y (ih y hy) x h
  exact this n
end
def uQ(s:P5)(d:Int):List Int:=itS (lM s) d s.2.2.2.1.length
theorem Ll(s:P5)(d:Int):Rch (lM s) d (uQ s d):=
 a6x (n:=s.2.2.2.1.length) (BN s) (λx y hy=>yS hy) d
theorem WJ(h:x∈uQ s d):0<=x/\x<nD s:=Zm (n:=s.2.2.2.1.length) (BN s) (λx y hy=>yS hy) d _ x h
theorem Xk(h:SmS s)(d:Int):(lM s d).length<=14:=
 iD (UA s.2.2.2.1.length (BN s d) (λx hx=>yS hx)) h.nd
theorem Dl(h:SmS s){l:List Int}(hs:SI l)(hi:∀x∈l,0<=x/\x<nD s):l.length<=14:=iD (UA s.2.2.2.1.length hs hi) h.nd
theorem PS(h:SmS s)(d:Int):sK s d=some (uQ s d):=by
 have hnd:=h.nd;unfold sK;rw[PO h,o8];have hsi:=BN s;have hin:∀x,∀y∈lM s x,0<=y/\y<((s.2.2.2.1.length:Nat):Int):=λx y hy=>yS hy;refine mX s.2.2.2.1 (λ(b:List Int) (_:jh)=>Ce (lM s) b) (λb i=>(b,i)) (λb=>b) (λi b=>b=itS (lM s) d i) (lM s d) o5 rfl (λi f b ha hi hI=>?_) (λb hI=>?_) (λh2=>?_)
 .simp only[O0 ha,o7];refine⟨?_,by show Ce _ b=_;rw[hI];rfl⟩;have hb1:SI b:=by rw[hI];exact RY hsi hin d i
  have hb2:∀x∈b,0<=x/\x<nD s:=by rw[hI];exact Zm hsi hin d i
  have hbl:=Dl h hb1 hb2;rw[dn o5];refine mX b (λ(acc:List Int) x=>BA (lM s x) acc) (λb i=>(b,i)) (λb=>b) (λi acc=>SI acc/\∀x∈acc,0<=x/\x<nD s) b o5 ⟨hb1,hb2⟩ (λj x acc hx hj hJ=>?_) (λacc hJ=>?_) (λh3=>?_)
  .have hal:=Dl h hJ.1 hJ.2;have hdl:=Xk h x;simp only[O0 hx,o7,J7,hx,o8,PO h x];rw[dn o5];refine⟨?_,NK _ hJ.1,λy hy=>?_⟩
   .refine mX (lM s x) (λ(acc:List Int) y=>ins y acc) (λb i=>(b,i)) (λb=>b) (λi a=>a.length<=acc.length+i) acc o5 o5 (λk y a hy hk hK=>?_) (λa hK=>?_) (λh4=>?_)
    .have hlt:=(ax.1 hy).1;have hli:=uH y a;simp only[O0 hy,o7,J7,hy,o8];rw[show dW (lM s x) (df (k:Int))=some y from hy,o8,zK _ o5,o8,dn o5];exact⟨rfl,by show(ins y a).length<=_;omega⟩
    .simp only[N9];rfl
    .rfl
   .rcases(Jj y _ _).1 hy with h4|h4
    .exact yS h4
    .exact hJ.2 y h4
  .simp only[N9];rfl
  .rfl
 .simp only[N9];rfl
 .rw[h2];rfl
def mk(S:List Bool)(x:Int):Bool:=if 0<=x then S.getD x.toNat false else false
def unm(S:List Bool):Nat:=S.count false
def rG(b:List Bool×List Int)(e:Int):List Bool×List Int:=l7 (mk b.1 e) b (b.1.set e.toNat true,b.2++[e])
variable {S:List Bool}
theorem a1c(h0:0<=x)(h1:x<o9 S):S[x.toNat]? =some (mk S x):=by
 unfold mk;rw[if_pos h0,Nk];have:x.toNat<S.length:=by simp only[o9]at h1;omega
 rw[lS this];rfl
theorem a1d{e:Int}(h0:0<=e)(h1:e<o9 S)(x:Int):mk (S.set e.toNat true) x=l7 (C9 x e) true (mk S x):=by
 unfold mk;have hl:e.toNat<S.length:=by simp only[o9]at h1;omega
 by_cases hx:0<=x
 .rw[if_pos hx,if_pos hx,Nk,Nk,X3];by_cases hq:x=e
  .subst hq;rw[if_pos rfl,if_pos hl,Z9 rfl];rfl
  .rw[if_neg o5,N7 hq];rfl
 .rw[if_neg hx,if_neg hx,N7 o5];rfl
theorem a5i{e:Int}(h0:0<=e)(h1:e<o9 S)(hm:mk S e=false):unm (S.set e.toNat true)+1=unm S:=by
 have hl:e.toNat<S.length:=by simp only[o9]at h1;omega
 have hg:=a1c h0 h1;rw[hm,lS hl]at hg;have hg' :S[e.toNat]=false:=ru hg;unfold unm;rw[List.count_set hl,hg'];have:0<S.count false:=List.count_pos_iff.2 (by rw[←hg'];exact L8 hl);simp;omega
structure RInv (n:Nat) (S:List Bool) (Q:List Int) (l:List Int) (S' :List Bool) (Q' :List Int):Prop where
 len:S'.length=n
 seen:∀x:Int,0<=x->x<(n:Int)->(mk S' x=true↔mk S x=true\/x∈l)
 sum:Q'.length+unm S' =Q.length+unm S
 le:unm S' <=unm S
 old:∀x∈Q,x∈Q'
 new:∀x∈Q',x∈Q\/x∈l
 got:∀x,mk S' x=true->mk S x=true\/x∈Q'
theorem a2i{n:Nat} :∀(l:List Int) (S:List Bool) (Q:List Int),S.length=n->(∀x∈l,0<=x/\x<(n:Int))->RInv n S Q l (l.foldl rG (S,Q)).1 (l.foldl rG (S,Q)).2
 |[],S,Q,hl,_=>⟨hl,λx _ _=>by simp,rfl,D8 _,λx hx=>hx,λx hx=> .inl hx,λx hx=> .inl hx⟩|e::l,S,Q,hl,hi=>by
  have he:=hi e x9;have hel:e<o9 S:=by simp only[o9];omega
  rw[X8];cases hm:mk S e with
  |true=>
   rw[show rG (S,Q) e=(S,Q) by unfold rG;rw[hm];rfl];have ih:=a2i l S Q hl λx hx=>hi x (by simp[hx]);refine⟨ih.len,λx h0 h1=>?_,ih.sum,ih.le,ih.old,λx hx=>?_,ih.got⟩
   .rw[ih.seen x h0 h1,D6];constructor
    .rintro(h|h)
     .exact .inl h
     .exact .inr (.inr h)
    .rintro(h|h|h)
     .exact .inl h
     .subst h;exact .inl hm
     .exact .inr h
   .rcases ih.new x hx with h|h
    .exact .inl h
    .exact .inr (by simp[h])
  |false=>
   rw[show rG (S,Q) e=(S.set e.toNat true,Q++[e]) by unfold rG;rw[hm];rfl];have ih:=a2i l (S.set e.toNat true) (Q++[e]) (by simp[hl]) λx hx=>hi x (by simp[hx]);have hu:=a5i he.1 hel hm;refine⟨ih.len,λx h0 h1=>?_,?_,?_,λx hx=>ih.old x (by simp[hx]),λx hx=>?_,λx hx=>?_⟩
   .rw[ih.seen x h0 h1,a1d he.1 hel,D6];cases hq:C9 x e
    .rw[Ig]at hq;simp[hq]
    .rw[nC]at hq;simp[hq]
   .have:=ih.sum;simp only[I8,H5,dA]at this;omega
   .have:=ih.le;omega
   .rcases ih.new x hx with h|h
    .rcases L9.1 h with h|h
     .exact .inl h
     .exact .inr (by simp at h;simp[h])
    .exact .inr (by simp[h])
   .rcases ih.got x hx with h|h
    .rw[a1d he.1 hel]at h;cases hq:C9 x e
     .rw[hq]at h;exact .inl h
     .rw[nC]at hq;subst hq;exact .inr (ih.old _ x9)
    .exact .inr h
def LW(S:List Bool):List Int:=((List.range S.length).filter λi=>S.getD i false).map λ(i:Nat)=>(i:Int)
theorem Gi(x:Int):x∈LW S↔mk S x=true:=by
 unfold LW mk;rw[iC];constructor
 .rintro⟨i,hi,rfl⟩;rw[if_pos o5];exact(nY.1 hi).2
 .intro h;split at h
  .refine⟨x.toNat,nY.2 ⟨fC.2 ?_,h⟩,o5⟩;rw[Nk]at h;cases hg:S[x.toNat]? with
   |none=>rw[hg]at h;cases h|some b=>exact(ax.1 hg).1
  .cases h
theorem a1a(S:List Bool):SI (LW S):=by unfold LW;refine List.Pairwise.map _ (R:=(·< ·)) (λa b h=>by omega) (List.Pairwise.filter _ List.pairwise_lt_range)
theorem XG(S:List Bool)(hS:S.length<=100)
  (hin:∀(i:Nat) (a:Bool) (acc:List Int),S[i]? =some a->i<=1000000->acc.length<=i->f (acc,(i:Int))=l7 a (l9 (bH acc [(i:Int)]) λx=>some (.inl (x,F6 .i64 (i:Int) 1))) (some (.inl (acc,F6 .i64 (i:Int) 1))))
  (hend:∀acc,f (acc,(S.length:Int))=some (.inr acc)):dK f ([],0)=some (LW S):=by
 have mk2:∀i,i<=S.length->((List.range i).filter λi=>S.getD i false).length<=i:=λi _=>by have:=bJ (λi=>S.getD i false) (List.range i);simpa using this
 obtain⟨e,h1,h2⟩:=qg (f:=f) (s:=([],0)) (λx=>∃i:Nat,x=(((List.range i).filter λi=>S.getD i false).map λ(i:Nat)=>(i:Int),(i:Int))/\i<=S.length) (λe=>e=LW S) (λx=>S.length -x.2.toNat) ⟨0,rfl,o5⟩ E5 (by
  rintro x ⟨i,rfl,hi⟩;by_cases h:i<S.length
  .have e:=lS h;have hst:(List.range (i+1)).filter (λi=>S.getD i false)=(List.range i).filter (λi=>S.getD i false)++l7 S[i] [i] []:=by
    rw[eF,List.filter_append];congr 1;rw[iI,Nk,e];cases S[i]<;>rfl
   have hl:=mk2 i hi;refine .inl ⟨(((List.range (i+1)).filter λi=>S.getD i false).map λ(i:Nat)=>(i:Int),((i+1:Nat):Int)),?_,⟨i+1,rfl,h⟩,by simp;omega⟩;rw[hin i _ _ e o5 (by simpa using hl),dn o5,hst,gm,kw _ (by rw[U3];omega)];cases S[i]
   .simp
   .rfl
  .have:i=S.length:=o5;subst this;exact .inr ⟨_,hend _,rfl⟩)
 rw[h1,h2]
theorem XZ{D:Int->List Int}{n:Nat}(hn:n<=14)(hsi:∀x,SI (D x))(hin:∀x,∀y∈D x,0<=y/\y<(n:Int))(h0:0<=d)(h1:d<(n:Int)):
  ∃L,yC ((List.range n).map λ(x:Nat)=>D (x:Int)) d=some L/\Rch D d L:=by
 have hA:o9 ((List.range n).map λ(x:Nat)=>D (x:Int))=(n:Int):=by simp[o9]
 have hget:∀x:Int,0<=x->x<n->J9 ((List.range n).map λ(x:Nat)=>D (x:Int)) x=some (D x):=λx a b=>by
  have:x.toNat<n:=o5;unfold J9
  rw[if_pos a,TV n _ this,dE a]
 unfold yC;generalize (List.range n).map (λ(x:Nat)=>D (x:Int))=A at*;rw[hA,show ER (n:Int) false=some (List.replicate n false) by unfold ER;rw[if_pos o5];simp,o8];have hD14:∀x,(D x).length<=14:=λx=>iD (UA n (hsi x) (hin x)) hn;have key:=qg (f:=λ(x:List Bool×List Int)=>l7 (H6 0 (o9 x.2)) (l9 (J9 x.2 0) λ(x_1:Int)=>l9 (dW x.2 (df 0)) λ(x_2:Int)=>l7 (jC 1 (o9 x.2) (o9 x.2)) (l9 (J9 A x_2) λ(x_3:List Int)=>
   l9 (dK (λ(x:List Bool×List Int×Int)=>l7 (H6 x.2.2 (o9 x_3)) (l9 (J9 x_3 x.2.2) λ(x_4:Int)=>l9 (J9 x.1 x_4) λ(x_5:Bool)=>l9 (dW x.1 (df x_4)) λ(x_6:Bool)=>
     l7 (G7 x_6) (l9 (J9 x.1 x_4) λ(x_7:Bool)=>l9 (dW x.1 (df x_4)) λ(x_8:Bool)=>l9 (bH x.2.1 [x_4]) λ(x_9:List Int)=>some (.inl (tX x.1 (df x_4) true,x_9,F6 .i64 x.2.2 1)))
      (some (.inl (x.1,x.2.1,F6 .i64 x.2.2 1)))) (some (.inr (x.1,x.2.1)))) (x.1,iF x.2 (df 1) (df (o9 x.2)),0)) λ(y:List Bool×List Int)=>some (.inl y)) none) (some (.inr x.1)))
  (s:=(List.replicate n false,[d]))
  (λx=>x.1.length=n/\(∀q∈x.2,0<=q/\q<(n:Int))/\x.2.length+unm x.1<=n+1/\(∀q∈x.2,q=d\/mk x.1 q=true)/\(∀v,v=d\/mk x.1 v=true->v∈x.2\/∀y∈D v,mk x.1 y=true)/\
   (∀C:Int->Prop,(∀x∈D d,C x)->(∀x,C x->∀y∈D x,C y)->∀v,mk x.1 v=true->C v)/\(∀v,mk x.1 v=true->0<=v/\v<(n:Int)))
  (λS=>S.length=n/\Rch D d (LW S)) (λx=>2*unm x.1+x.2.length) ?_ ?_ ?_
 .obtain⟨S,k1,k2,k3⟩:=key;refine⟨LW S,?_,k3⟩;refine(PG k1 _).trans ?_;rw[ui];refine XG S o5 (λi a acc ha hi hacc=>?_) (λacc=>?_)
  .simp only[O0 ha,o7,J7,ha,o8];rw[show dW S (df (i:Int))=some a from ha,o8]
  .simp only[N9];rfl
 .have hnone:∀v,mk (List.replicate n false) v=false:=λv=>by
   unfold mk;split
   .rw[Nk,List.getElem?_replicate];split<;>rfl
   .rfl
  refine⟨x9,λq hq=>by simp at hq;omega,?_,λq hq=> .inl (by simpa using hq),λv hv=>?_,λC _ _ v hv=>(by rw[hnone]at hv;cases hv),λv hv=>(by rw[hnone]at hv;cases hv)⟩
  .simp[unm,List.count_replicate];omega
  .rcases hv with rfl|hv
   .exact .inl x9
   .rw[hnone]at hv;cases hv
 .simp[unm,List.count_replicate];omega
 .rintro⟨S,Q⟩ ⟨i1,i2,i3,i4,i5,i6,i7⟩;simp only at i1 i2 i3 i4 i5 i6 i7;cases Q with
  |nil=>
   right;refine⟨S,rfl,i1,a1a S,λx hx=>?_,λx hx y hy=>?_,λC c1 c2 x hx=>i6 C c1 c2 x ((Gi x).1 hx)⟩
   .rcases i5 d (.inl rfl)with h|h
    .cases h
    .exact(Gi x).2 (h x hx)
   .rcases i5 x (.inr ((Gi x).1 hx))with h|h
    .cases h
    .exact(Gi y).2 (h y hy)
  |cons q Q=>
   left;have hq:=i2 q x9;have hfold:=a2i (n:=n) (D q) S Q i1 (λx hx=>hin q x hx);refine⟨(D q).foldl rG (S,Q),?_,?_,?_⟩
   .simp only[bg (show(0:Int)<o9 (q::Q) by simp[o9]<;>omega),o7,show J9 (q::Q) 0=some q from rfl,show dW (q::Q) (df 0)=some q from rfl,o8,hget q hq.1 hq.2,
     show jC 1 (o9 (q::Q)) (o9 (q::Q))=true by simp[jC,o9]<;>omega,show iF (q::Q) (df 1) (df (o9 (q::Q)))=Q by simp[iF,df,o9]]
    refine mX (D q) rG (λb i=>(b.1,b.2,i)) (λb=>b) (λi b=>b.1.length=n/\b.2.length<=100+i) (S,Q) (by have:=hD14 q;omega) ⟨i1,by simp at i3;show Q.length<=100+0;omega⟩ (λi e b he hi hI=>?_) (λb hI=>?_) (λh2=>rfl)
    .obtain⟨S1,Q1⟩:=b;simp only at hI;have hee:=hin q e (oV he);have hlt:=(ax.1 he).1;have hdl:=hD14 q;have hg:=a1c (S:=S1) hee.1 (by simp only[o9];omega);have hla:J9 S1 e=some (mk S1 e):=by unfold J9;rw[if_pos hee.1];exact hg
     have hlg:dW S1 (df e)=some (mk S1 e):=hg;simp only[O0 he,o7,J7 (D q),he,o8,hla,hlg];rw[dn o5,kw _ o5];unfold rG;simp only;cases mk S1 e
     .exact⟨rfl,by simp[hI.1],by simp<;>omega⟩
     .exact⟨rfl,hI.1,by show Q1.length<=_;omega⟩
    .simp only[N9];rfl
   .obtain⟨j1,j2,j3,j4,j5,j6,j7⟩:=hfold;generalize (D q).foldl rG (S,Q)=b at*;obtain⟨S',Q'⟩:=b;simp only at j1 j2 j3 j4 j5 j6 j7 ⊢;have hrange:∀v,mk S' v=true->0<=v/\v<(n:Int):=λv hv=>by
     rcases j7 v hv with h|h
     .exact i7 v h
     .rcases j6 v h with h|h
      .exact i2 v (by simp[h])
      .exact hin q v h
    refine⟨j1,λx hx=>?_,?_,λx hx=>?_,λv hv=>?_,λC c1 c2 v hv=>?_,hrange⟩
    .rcases j6 x hx with h|h
     .exact i2 x (by simp[h])
     .exact hin q x h
    .simp only[H5]at i3;omega
    .rcases j6 x hx with h|h
     .rcases i4 x (by simp[h])with h2|h2
      .exact .inl h2
      .have hr:=i7 x h2;exact .inr ((j2 x hr.1 hr.2).2 (.inl h2))
     .have hr:=hin q x h;exact .inr ((j2 x hr.1 hr.2).2 (.inr h))
    .have up:∀y,mk S y=true->mk S' y=true:=λy hy=>by
      have hr:=i7 y hy;exact(j2 y hr.1 hr.2).2 (.inl hy)
     by_cases hvq:v=q
     .subst hvq;right;intro y hy;have hr:=hin v y hy;exact(j2 y hr.1 hr.2).2 (.inr hy)
     .by_cases hold:v=d\/mk S v=true
      .rcases i5 v hold with h|h
       .rcases D6.1 h with h|h
        .exact absurd h hvq
        .exact .inl (j5 v h)
       .exact .inr λy hy=>up y (h y hy)
      .rcases hv with h|h
       .exact absurd (.inl h) hold
       .rcases j7 v h with h2|h2
        .exact absurd (.inr h2) hold
        .exact .inl h2
    .by_cases hS:mk S v=true
     .exact i6 C c1 c2 v hS
     .have hr:=hrange v hv;rcases(j2 v hr.1 hr.2).1 hv with h|h
      .exact absurd h hS
      .rcases i4 q x9 with h2|h2
       .subst h2;exact c1 v h
       .exact c2 q (i6 C c1 c2 q h2) v h
   .have:=hfold.sum;have:=hfold.le;simp only[H5];omega
theorem Rn(h:SmS s)(h0:0<=d)(h1:d<nD s):ul s d=some (uQ s d):=by have hn:nD s=((s.2.2.2.1.length:Nat):Int):=rfl;unfold ul;change l7 (H6 d 0) _ (l7 (O9 (nD s) d) _ _)=_;rw[au h0,o6,aU h1,o6,Tz h,o8,ui];obtain⟨L,k1,k2⟩:=XZ (D:=lM s) h.nd (BN s) (λx y hy=>yS hy) h0 (show d<((s.2.2.2.1.length:Nat):Int) by omega);rw[k1,Rch.unique k2 (Ll s d)]
structure SmL (l:dJ):Prop where
 few:Few l
 en:YO l
 tb:UT l
 sc:∀s∈l.2.2,SmS s
theorem SmL.scopes(h:SmL l):IL l:=λs hs=>by have hm:=h.sc s hs;exact⟨hm.nm,by have:=hm.ni;omega,by have:=hm.nd;omega,by have:=hm.nr;omega⟩
theorem Gf{ε ρ:Type}{p:Nat->Option ρ}(n:Nat)(hn:n<=1000000)(e:ε){f:Int->Option (Out Int ε ρ)}
  (h1:∀i,i<n->f (i:Int)=some (match p i with|some r=> .rt r|none=> .nx (F6 .i64 (i:Int) 1))) (h2:f (n:Int)=some (.ex e)):
  U0 f 0=some (match dU n p with|some r=> .inr r|none=> .inl e):=
 AC n o5 e (λi hi=>by rw[h1 i hi,dn o5]<;>cases p i<;>rfl) h2
def MN(l:dJ)(s:P5)(k:Nat):Option (Int×Int):=match s.2.2.2.2[k]? with|some r=>OG (Qg s (Ri l s) k r) (300+k:Nat)|none=>none
def Ve(s:P5)(d:Nat):Option (Int×Int):=l7 ((uQ s d).any λx=>C9 (d:Int) x) (some (9,((200+d:Nat):Int))) none
def Il(l:dJ)(i:Nat)(m:Int):Bool:=l7 (C9 m (-1)) false (l7 (H6 m 0) true (l7 (O9 (i:Int) m) true (match J9 l.2.2 m with|some q=>G7 (C9 q.2.1 (-1))|none=>true)))
def XQ(l:dJ)(s:P5):Int×Int:=match Dh l s with
 |some r=>r
 |none=>match dU s.2.2.2.2.length (MN l s)with
  |some r=>r
  |none=>match dU s.2.2.2.1.length (Ve s)with
   |some r=>r|none=>(0,0)
def DK(l:dJ)(i:Nat)(s:P5):Int×Int:=
 l7 (Ae s.1) (l7 (zY l 3 i s.1) (7,0) (l7 (Il l i s.2.1) (6,0) (l7 (H6 12 (o9 s.2.2.1)) (4,112) (l7 (H6 12 (o9 s.2.2.2.1)) (4,212) (XQ l s))))) (2,0)
theorem QJ(hL:SmL l)(hs:l.2.2[i]? =some s):vU l (i:Int)=some (DK l i s):=by
 have hi:=(ax.1 hs).1;have hS:=hL.sc s (oV hs);have hf:=hL.few;have hf1:=hf.1;have hf2:=hf.2.1;have hf3:=hf.2.2;have n1:=hS.ni;have n2:=hS.nd;have n3:=hS.nr;unfold vU DK zY;rw[J7,hs,o8,vg o5,o8,Ie _ o5,o8,LM _ o5,o8,Vs _ E5,o8];have hb:(l7 (l.1.any λx=>seq x.1 s.1) (some (s,true)) (l7 (l.2.1.any λx=>seq x.1 s.1) (some (s,true)) (some (s,(l.2.2.take i).any λx=>seq x.1 s.1))))=
   some (s,(l.1.any λx=>seq x.1 s.1) || (l.2.1.any λx=>seq x.1 s.1) || (l.2.2.take i).any λx=>seq x.1 s.1):=by
  cases l.1.any λx=>seq x.1 s.1
  .cases l.2.1.any λx=>seq x.1 s.1<;>rfl
  .rfl
 rw[hb,o8];simp only;rw[nM hS.nm,o8];cases Ae s.1
 .rfl
 simp only[I7,o6,o7];cases (l.1.any λx=>seq x.1 s.1) || (l.2.1.any λx=>seq x.1 s.1) || (l.2.2.take i).any λx=>seq x.1 s.1
 case true=>rfl
 simp only[o6];have hm:(l7 (G7 (C9 s.2.1 (-1))) (l7 (H6 s.2.1 0) (some true) (l7 (O9 (i:Int) s.2.1) (some true) (l9 (J9 (l.2.2.take i) s.2.1) λ(x:P5)=>some (G7 (C9 x.2.1 (-1)))))) (some false))=some (Il l i s.2.1):=by
  unfold Il;cases C9 s.2.1 (-1)
  case true=>rfl
  simp only[Z7,o7,o6];cases h0:H6 s.2.1 0
  case true=>rfl
  cases h1:O9 (i:Int) s.2.1
  case true=>rfl
  rw[tN]at h0;rw[OW]at h1;obtain⟨q,hq,_⟩:=oZ (l:=l.2.2.take i) h0 (by simp only[o9,aP];omega);have hq2:J9 l.2.2 s.2.1=some q:=by have:=(jd hq).2.2.2;unfold J9;rw[if_pos h0];exact(JL this).2
  rw[hq,hq2];rfl
 rw[hm,o8];cases Il l i s.2.1
 case true=>rfl
 simp only[o6];cases H6 12 (o9 s.2.2.1)
 case true=>rfl
 cases H6 12 (o9 s.2.2.2.1)
 case true=>rfl
 simp only[o6,o8,U1];unfold XQ Dh;refine O6 (Gf (p:=inP l s) s.2.2.1.length o5 PUnit.unit (λk hk=>?_) ?_) ?_
 rotate_left 2
 .cases dU s.2.2.1.length (inP l s)
  case some r=>rfl
  simp only[o8,U1];refine O6 (Gf (p:=Vf l s) s.2.2.2.1.length o5 PUnit.unit (λk hk=>?_) ?_) ?_
  rotate_left 2
  .cases dU s.2.2.2.1.length (Vf l s)
   case some r=>rfl
   simp only[o8,U1];rw[zX hL.scopes hs,o8];refine O6 (Gf (p:=MN l s) s.2.2.2.2.length o5 PUnit.unit (λk hk=>?_) ?_) ?_
   rotate_left 2
   .cases dU s.2.2.2.2.length (MN l s)
    case some r=>rfl
    simp only[o8,U1];refine O6 (Gf (p:=Ve s) s.2.2.2.1.length o5 PUnit.unit (λk hk=>?_) ?_) ?_
    rotate_left 2
    .cases dU s.2.2.2.1.length (Ve s)<;>rfl
    .have e:=lS hk;simp only[O0 e,o7];rw[Rn hS o5 (by show(k:Int)<o9 s.2.2.2.1;simp only[o9];omega),o8,v_ _ (by
      have:=Dl hS (Ll s (k:Int)).1 (λx hx=>WJ hx);omega),o8,show(200:Int)=((200:Nat):Int)from rfl,LP o5 o5]
     unfold Ve;cases (uQ s (k:Int)).any λx=>C9 (k:Int) x<;>rfl
    .rw[N9];rfl
   .have e:=lS hk;have hr:=(hS.ro _ (L8 hk)).1;simp only[O0 e,o7];rw[TC _ e o5 hr,o8,show(300:Int)=((300:Nat):Int)from rfl,LP o5 o5];simp only[MN,e,OG];cases C9 (Qg s (Ri l s) k s.2.2.2.2[k]) 0<;>rfl
   .rw[N9];rfl
  .have e:=lS hk;have hm:=hS.fo.2 _ (L8 hk);simp only[O0 e,o7,J7,e,o8];rw[vg o5,o8,GN hm o5 E5,o8,show(200:Int)=((200:Nat):Int)from rfl,LP o5 o5];simp only[Vf,e,OG];cases C9 (EH l.1 s.2.2.2.1[k] s.2.2.1 (s.2.2.2.1.take k)) 0<;>rfl
  .rw[N9];rfl
 .have e:=lS hk;have hm:=hS.fo.1 _ (L8 hk);simp only[O0 e,o7,J7,e,o8];rw[vg o5,o8,GN hm E5 x9,o8,show(100:Int)=((100:Nat):Int)from rfl,LP o5 o5];simp only[inP,e,OG];cases C9 (EH l.1 s.2.2.1[k] (s.2.2.1.take k) []) 0<;>rfl
 .rw[N9];rfl
theorem Kq{c e:Int}{r:Int×Int}(h:OG c e=some r):r.1≠0:=by
 unfold OG at h;cases hc:C9 c 0<;>rw[hc]at h
 .cases h;exact Ig.1 hc
 .cases h
theorem Vq{r:Int×Int}(h:Dh l s=some r):r.1≠0:=by
 unfold Dh at h;split at h
 .rename_i q hq;cases h;obtain⟨k,_,hk⟩:=nX hq;unfold inP at hk;split at hk
  .exact Kq hk
  .cases hk
 .obtain⟨k,_,hk⟩:=nX h;unfold Vf at hk;split at hk
  .exact Kq hk
  .cases hk
theorem PQ(hL:SmL l)(hs:l.2.2[i]? =some s):sS l (i:Int)=some (l7 (C9 (DK l i s).1 0) (0,0,0,0) (MX i (DK l i s))):=by
 have hi:=(ax.1 hs).1;have hS:=hL.sc s (oV hs);have hf:=hL.few;have hf1:=hf.1;have hf2:=hf.2.1;have hf3:=hf.2.2;have n1:=hS.ni;have n2:=hS.nd;have n3:=hS.nr;unfold sS DK;rw[J7,hs,o8,jX hS.nm,o8];cases Ae s.1
 .rfl
 simp only[I7,o6,o7];rw[a0k hf,o8];cases zY l 3 i s.1
 case true=>rfl
 simp only[o6];have hm:(l7 (G7 (C9 s.2.1 (-1))) (l7 (H6 s.2.1 0) (some (Sum.inr ((6:Int),(3:Int),(i:Int),(0:Int)))) (l7 (O9 (i:Int) s.2.1) (some (.inr (6,3,(i:Int),0))) (l9 (J9 l.2.2 s.2.1) λ(x:P5)=>l7 (G7 (C9 x.2.1 (-1))) (some (.inr (6,3,(i:Int),0))) (some (.inl (((0:Int),(0:Int),(0:Int),(0:Int)),(0:Int),(3:Int),(i:Int),(0:Int))))))) (some (.inl ((0,0,0,0),0,3,(i:Int),0))))=
   some (l7 (Il l i s.2.1) (.inr (6,3,(i:Int),0)) (.inl ((0,0,0,0),0,3,(i:Int),0))):=by
  unfold Il;cases C9 s.2.1 (-1)
  case true=>rfl
  simp only[Z7,o7,o6];cases h0:H6 s.2.1 0
  case true=>rfl
  cases h1:O9 (i:Int) s.2.1
  case true=>rfl
  rw[tN]at h0;rw[OW]at h1;obtain⟨q,hq,_⟩:=oZ (l:=l.2.2) h0 (by simp only[o9];omega);rw[hq];simp only[o6,o8];cases C9 q.2.1 (-1)<;>rfl
 rw[hm,o8];cases Il l i s.2.1
 case true=>rfl
 simp only[o6,U1];cases H6 12 (o9 s.2.2.1)
 case true=>rfl
 cases H6 12 (o9 s.2.2.2.1)
 case true=>rfl
 simp only[o6];rw[PP hs o5 o5 hS.fo,o8];unfold XQ;cases hfs:Dh l s with
 |some r=>have hc:=Vq hfs;simp only[MX];rw[N7 hc];rfl|none=>
  simp only[Z9 (rfl:(0:Int)=0),I7,o6];refine O6 (lZ (p:=λk=>(MN l s k).map (MX i)) s.2.2.2.2.length o5 _ (0,0,0,0) (λk hk=>?_) ?_) ?_
  rotate_left 2
  .rw[Az];cases hfr:dU s.2.2.2.2.length (MN l s)with
   |some r=>
    obtain⟨k,_,hk⟩:=nX hfr;have hc:r.1≠0:=by
     unfold MN at hk;split at hk
     .exact Kq hk
     .cases hk
    simp only[bC,o8,lJ];rw[N7 hc];rfl
   |none=>
    simp only[Option.map_none,o8,U1];refine O6 (lZ (p:=λk=>(Ve s k).map (MX i)) s.2.2.2.1.length o5 _ (0,0,0,0) (λk hk=>?_) ?_) ?_
    rotate_left 2
    .rw[Az];cases hfc:dU s.2.2.2.1.length (Ve s)with
     |some r=>
      obtain⟨k,_,hk⟩:=nX hfc;have hc:r.1≠0:=by
       unfold Ve at hk;cases hq:(uQ s (k:Int)).any λx=>C9 (k:Int) x<;>rw[hq]at hk
       .cases hk
       .cases hk;show(9:Int)≠0;decide
      simp only[bC,o8,lJ];rw[N7 hc];rfl
     |none=>rfl
    .have e:=lS hk;have htl:=Dl hS (Ll s (k:Int)).1 (λx hx=>WJ hx);simp only[O0 e,o7];rw[PS hS,o8,show(200:Int)=((200:Nat):Int)from rfl,LP o5 o5];have hcy:U0 (λ(x_6:kZ×Int)=>l7 (H6 x_6.2 (o9 (uQ s (k:Int)))) (l9 (J9 (uQ s (k:Int)) x_6.2) λ(x:Int)=>l7 (C9 x (k:Int)) (some (Out.rt ((9:Int),(3:Int),(i:Int),((200+k:Nat):Int)))) (some (.nx (x_6.1,F6 .i64 x_6.2 1)))) (some (.ex x_6.1))) (((0:Int),(0:Int),(0:Int),(0:Int)),(0:Int))=
       some (l7 ((uQ s (k:Int)).any λx=>C9 (k:Int) x) (.inr (9,3,(i:Int),((200+k:Nat):Int))) (.inl (0,0,0,0))):=by
      have h1:=uI (uQ s (k:Int)) (λ(b:Int×Int×Int×Int) x=>l7 (C9 x (k:Int)) (.inr ((9:Int),(3:Int),(i:Int),((200+k:Nat):Int))) (.inl b)) (λb i=>(b,i)) (λb=>b) (λ_ _=>True) (b:=((0,0,0,0):Int×Int×Int×Int)) (f:=λ(x_6:kZ×Int)=>l7 (H6 x_6.2 (o9 (uQ s (k:Int)))) (l9 (J9 (uQ s (k:Int)) x_6.2) λ(x:Int)=>l7 (C9 x (k:Int)) (some (Out.rt ((9:Int),(3:Int),(i:Int),((200+k:Nat):Int)))) (some (.nx (x_6.1,F6 .i64 x_6.2 1)))) (some (.ex x_6.1))) o5 trivial (λj x b hx hj _=>by refine⟨?_,λ_ _=>trivial⟩;simp only[O0 hx,o7,J7,hx,o8];rw[dn o5];cases C9 x (k:Int)<;>rfl) (λb _=>by simp only[N9];rfl)
      refine h1.1.trans ?_;have hfo:∀(l:List Int) (b:Int×Int×Int×Int),fV (λ(b:Int×Int×Int×Int) x=>l7 (C9 x (k:Int)) (.inr ((9:Int),(3:Int),(i:Int),((200+k:Nat):Int))) (.inl b)) l b=l7 (l.any λx=>C9 (k:Int) x) (.inr (9,3,(i:Int),((200+k:Nat):Int))) (.inl b):=by
       intro l;induction l with
       |nil=>intro b;rfl|cons a l ih=>
        intro b;unfold fV;rw[qf,show C9 (k:Int) a=C9 a (k:Int) by unfold C9;by_cases h:a=(k:Int)<;>simp[h,eq_comm]];cases C9 a (k:Int)
        .simp only[o6,jU];exact ih b
        .rfl
      rw[hfo];cases (uQ s (k:Int)).any λx=>C9 (k:Int) x<;>rfl
     refine O6 hcy ?_;unfold Ve;cases (uQ s (k:Int)).any λx=>C9 (k:Int) x<;>rfl
    .simp only[N9];rfl
  .have e:=lS hk;have hr:=(hS.ro _ (L8 hk)).1;simp only[O0 e,o7];rw[QZ hL.scopes hs e hr,o8,show(300:Int)=((300:Nat):Int)from rfl,LP o5 o5];simp only[MN,e,OG];cases C9 (Qg s (Ri l s) k s.2.2.2.2[k]) 0<;>rfl
  .simp only[N9];rfl
def DJ(l:dJ)(i:Nat):Option (Int×Int×Int×Int):=match l.2.2[i]? with|some s=>Nc 3 i (DK l i s)|none=>none
def JI(l:dJ):Int×Int×Int×Int:=l7 (H6 4 (o9 l.2.2)) (4,3,4,0) (match dU l.2.2.length (DJ l)with|some r=>r|none=>(0,0,0,0))
def BH(l:dJ):Int×Int×Int×Int:=l7 (C9 (Ib l).1 0) (l7 (C9 (DR l).1 0) (JI l) (DR l)) (Ib l)
theorem Oh(hL:SmL l):uo l=some (JI l):=by
 have hf:=hL.few.2.2;unfold uo JI;cases H6 4 (o9 l.2.2)
 case true=>rfl
 simp only[o6];refine O6 (lZ (p:=DJ l) l.2.2.length o5 _ (0,0,0,0) (λi hi=>?_) ?_) ?_
 rotate_left 2
 .cases dU l.2.2.length (DJ l)<;>rfl
 .have e:=lS hi;simp only[O0 e,o7,QJ hL e,o8,DJ,e,Nc];cases C9 (DK l i l.2.2[i]).1 0<;>rfl
 .rw[N9];rfl
theorem WN(hL:SmL l):vS l=some (BH l):=by
 unfold vS BH;rw[QI hL.few hL.en,o8];cases C9 (Ib l).1 0
 .rfl
 simp only[I7,o6,o7];rw[Oi hL.few hL.tb,o8];cases C9 (DR l).1 0
 .rfl
 simp only[I7,o6,o7];rw[Oh hL];rfl
theorem RH{k i:Int}{c:Int×Int}{r:Int×Int×Int×Int}(h:Nc k i c=some r):r.1≠0:=by
 unfold Nc at h;cases hc:C9 c.1 0<;>rw[hc]at h
 .cases h;exact Ig.1 hc
 .cases h
theorem Uh(hL:SmL l):wC l=some (BH l):=by
 have hf1:=hL.few.1;have hf2:=hL.few.2.1;have hf3:=hL.few.2.2;unfold wC BH Ib;cases H6 8 (o9 l.1)
 case true=>rfl
 simp only[o6];refine O6 (lZ (p:=LG l) l.1.length o5 _ (0,0,0,0) (λi hi=>?_) ?_) ?_
 rotate_left 2
 .cases hfe:dU l.1.length (LG l)with
  |some r=>
   obtain⟨k,_,hk⟩:=nX hfe;have hc:r.1≠0:=by
    unfold LG at hk;split at hk
    .exact RH hk
    .cases hk
   simp only[o8,lJ,N7 hc,o6]
  |none=>
   simp only[o8,U1,Z9 (rfl:(0:Int)=0),o7];unfold DR;cases H6 8 (o9 l.2.1)
   case true=>rfl
   simp only[o6];refine O6 (lZ (p:=FH l) l.2.1.length o5 _ (0,0,0,0) (λi hi=>?_) ?_) ?_
   rotate_left 2
   .cases hft:dU l.2.1.length (FH l)with
    |some r=>
     obtain⟨k,_,hk⟩:=nX hft;have hc:r.1≠0:=by
      unfold FH at hk;split at hk
      .exact RH hk
      .cases hk
     simp only[o8,lJ,N7 hc,o6]
    |none=>
     simp only[o8,U1,Z9 (rfl:(0:Int)=0),o7];unfold JI;cases H6 4 (o9 l.2.2)
     case true=>rfl
     simp only[o6];refine O6 (lZ (p:=DJ l) l.2.2.length o5 _ (0,0,0,0) (λi hi=>?_) ?_) ?_
     rotate_left 2
     .cases dU l.2.2.length (DJ l)<;>rfl
     .have e:=lS hi;simp only[O0 e,o7,PQ hL e,o8,DJ,e,Nc];cases hc:C9 (DK l i l.2.2[i]).1 0
      .simp only[o6,MX,hc];rfl
      .simp only[o7,Z9 (rfl:(0:Int)=0)];rfl
     .simp only[N9];rfl
   .have e:=lS hi;simp only[O0 e,o7,PR hL.few e (hL.tb _ (L8 hi)),o8,FH,e,Nc,Gv];cases hc:C9 (Qv l i l.2.1[i]).1 0
    .simp only[o6,hc];rfl
    .simp only[o7,Z9 (rfl:(0:Int)=0)];rfl
   .simp only[N9];rfl
 .have e:=lS hi;have hm:=hL.en _ (L8 hi);simp only[O0 e,o7,QY hL.few e hm.1 hm.2,o8,LG,e,Nc,Gv];cases hc:C9 (OE l i l.1[i]).1 0
  .simp only[o6,hc];rfl
  .simp only[o7,Z9 (rfl:(0:Int)=0)];rfl
 .simp only[N9];rfl
def hw(W:List Int)(d:Int):Int:=W.getD d.toNat 0
end Go.GP
namespace Gt
open Go Go.GP
def il(y:Int):Bool:=if y % 4=0 then(if y % 100≠0 then true else decide (y % 400=0))else false
def ys(y:Int):Int:=(y -1900)*365+((y -1) / 4 -(y -1) / 100+(y -1) / 400) -460
def diy(y:Int):Int:=if il y then 366 else 365
theorem Gw(y:Int):ys (y+1)=ys y+diy y:=by unfold ys diy il;by_cases h4:y % 4=0<;>by_cases h100:y % 100=0<;>by_cases h400:y % 400=0<;>simp[h4,h100,h400]<;>omega
theorem a4g(a b:Int):a<b\/b<=a:=o5
theorem Oz(y:Int):365<=diy y/\diy y<=366:=by unfold diy;split<;>omega
theorem yQ{y y' :Int}(h:y<=y'):ys y<=ys y' :=by
 obtain⟨n,rfl⟩:∃n:Nat,y' =y+n:=⟨(y' -y).toNat,o5⟩;clear h;induction n with
 |zero=>simp|succ n ih=>have:=Gw (y+n);have:=Oz (y+n);have e:y+((n+1:Nat):Int)=y+n+1:=o5;rw[e];omega
variable {y:Int}
theorem Lt(h:1900<=y):0<=ys y:=by
 have:=yQ h;have e:ys 1900=0:=by decide+kernel
 omega
theorem a0q{y y' d:Int}(h1:ys y<=d)(h2:d<ys (y+1))(h3:ys y' <=d)(h4:d<ys (y' +1)):y=y' :=by
 rcases Int.lt_trichotomy y y' with h|h|h
 .have:=yQ (y:=y+1) (y' :=y') o5;omega
 .exact h
 .have:=yQ (y:=y' +1) (y' :=y) o5;omega
def dim(y m:Int):Int:=
 if m=2 then(if il y then 29 else 28)else if m=4\/m=6\/m=9\/m=11 then 30 else 31
theorem TG(y m:Int):28<=dim y m/\dim y m<=31:=by
 unfold dim;repeat' split
 all_goals omega
theorem ED(h:0<=y):Ak y=some (il y):=by
 unfold Ak il;simp only[zy h];by_cases h4:y % 4=0
 .rw[kz (Z9 h4),if_pos h4];by_cases h100:y % 100=0
  .simp[C9,h100]
  .simp[C9,h100]
 .rw[kR (N7 h4),if_neg h4]
theorem Ed(h:0<=y):yJ y=some (il y):=ED h
theorem Gz(h:0<=y):jY y=some (diy y):=by unfold jY diy;rw[Ed h,o8];cases il y<;>rfl
variable {m:Int}
theorem m12(h:1<=m/\m<=12):m=1\/m=2\/m=3\/m=4\/m=5\/m=6\/m=7\/m=8\/m=9\/m=10\/m=11\/m=12:=o5
theorem Gy(h:0<=y)(hm:1<=m/\m<=12):jS y m=some (dim y m):=by
 unfold jS;rcases m12 hm with rfl|rfl|rfl|rfl|rfl|rfl|rfl|rfl|rfl|rfl|rfl|rfl
 all_goals first|rfl|(rw[ED h];unfold dim;cases il y<;>rfl)
theorem EZ(h:0<=y)(hm:1<=m/\m<=12):jA y m=some (dim y m):=by
 unfold jA;rcases m12 hm with rfl|rfl|rfl|rfl|rfl|rfl|rfl|rfl|rfl|rfl|rfl|rfl
 all_goals first|rfl|(rw[Ed h];unfold dim;cases il y<;>rfl)
theorem Ap(h:0<=y)(h2:y<=1000000):qW y=some (y / 4 -y / 100+y / 400):=by unfold qW;simp only[dZ,lK h];rw[xX b6j,xX b6j,xX b6j,fF b6j,jJ b6j]
theorem Aq(h:1<=y)(h2:y<=1000000):mO y=some (ys y):=by unfold mO;have e1:X9 .i64 y 1900=y -1900:=fF b6j;have e2:Dk .i64 (y -1900) 365=(y -1900)*365:=a0T b6j;rw[fF (a:=y) (b:=1) b6j,Ap o5 o5,o8,Ap o5 o5,o8,e1,e2,jJ b6j,fF b6j];unfold ys;congr 1
def mo(y:Int):Nat->Int->Int×Int
 |0,d=>(d,13)|n+1,d=>if d<dim y (12 -n)then(d,12 -n)else mo y n (d -dim y (12 -n))
theorem Zy(y:Int)(n:Nat)(d:Int):mo y (n+1) d=if d<dim y (12 -(n:Int))then(d,12 -(n:Int))else mo y n (d -dim y (12 -(n:Int))):=rfl
def rem(y:Int):Nat->Int
 |0=>0|n+1=>dim y (12 -n)+rem y n
theorem a2f(y:Int):rem y 12=diy y:=by unfold diy;cases h:il y<;>simp[rem,dim,h]
theorem a1e(y:Int):∀(n:Nat) (d:Int),n<=12->0<=d->d<rem y n->1<=(mo y n d).2/\(mo y n d).2<=12/\0<=(mo y n d).1/\(mo y n d).1<dim y (mo y n d).2
 |0,d,_,h0,h=>by simp[rem]at h;omega|n+1,d,hn,h0,h=>by
  unfold mo;by_cases hd:d<dim y (12 -n)
  .rw[if_pos hd];refine⟨?_,?_,h0,hd⟩<;>simp<;>omega
  .rw[if_neg hd];refine a1e y n _ o5 o5 ?_;simp only[rem]at h;omega
def yOf(d:Int):Int:=((((List.range 300).find? (λ(k:Nat)=>decide (d<ys (1900+(k:Int)+1)))).getD 0:Nat):Int)+1900
variable {d:Int}
theorem QD(h0:0<=d)(h:d<=109572):1900<=yOf d/\yOf d<=2199/\ys (yOf d)<=d/\d<ys (yOf d+1):=by
 unfold yOf;cases hf:(List.range 300).find? (λ(k:Nat)=>decide (d<ys (1900+(k:Int)+1)))with
 |none=>
  have:=List.find?_eq_none.1 hf 299 x9;simp only[decide_eq_true_eq]at this;have e:ys (1900+(299:Nat)+1)=109573:=by decide+kernel
  omega
 |some k=>
  have h1:=List.find?_some hf;simp only[decide_eq_true_eq]at h1;have h2:=List.mem_of_find?_eq_some hf;simp only[fC]at h2;simp only[bV];refine⟨o5,o5,?_,?_⟩
  .cases k with
   |zero=>
    have e:ys 1900=0:=by decide+kernel
    simp[e,h0]
   |succ j=>have h3:=List.find?_range_eq_some.1 hf;have h4:=h3.2.2 j o5;simp only[aH,decide_eq_false_iff_not,qA]at h4;have e:(((j+1:Nat):Int)+1900)=1900+(j:Int)+1:=o5;rw[e];exact h4
  .have e:(k:Int)+1900+1=1900+k+1:=o5;rw[e];exact h1
def ymd(d:Int):Int×Int×Int:=let y:=yOf d;let r:=mo y 12 (d -ys y);(y,r.2,r.1+1)
theorem QL(h0:0<=d)(h:d<=109572):CV d=some (ymd d):=by
 obtain⟨y1,y2,y3,y4⟩:=QD h0 h;have y0:=Lt y1;unfold CV zo;rw[kz (ah h0),o8,ah h,I7,o6];have e0:F6 .i64 1900 (dZ .i64 d 366)=1900+d / 366:=by
  have e:dZ .i64 d 366=d / 366:=by rw[Jb (by rw[lK h0];unfold lL;omega),lK h0]
  rw[e,jJ b6j]
 rw[e0];obtain⟨y,hy,hq⟩:=qg (f:=λ(x:Int)=>l9 (mO (F6 IntKind.i64 x 1)) λ(x_1:Int)=>l7 (O9 x_1 d) (some (Sum.inl (F6 IntKind.i64 x 1))) (some (Sum.inr x))) (s:=1900+d / 366)
  (λy=>1900<=y/\y<=yOf d) (λy=>y=yOf d) (λy=>(2200 -y).toNat) (by
   refine⟨o5,?_⟩;have e:∀n:Nat,ys (1900+n)<=366*n:=by
    intro n;induction n with
    |zero=>decide+kernel|succ n ih=>have:=Gw (1900+n);have:=Oz (1900+n);have e:(1900:Int)+((n+1:Nat):Int)=1900+n+1:=o5;rw[e];omega
   have e1:=e (d / 366).toNat
   have e2:((d / 366).toNat:Int)=d / 366:=o5;rw[e2]at e1;rcases a4g (yOf d) (1900+d / 366)with hlt|hge
   .have:=yQ (y:=yOf d+1) (y' :=1900+d / 366) o5;omega
   .exact hge) o5 (by
   intro y ⟨hy1,hy2⟩
   try simp only
   rw[jJ b6j,Aq o5 o5,o8];by_cases hle:ys (y+1)<=d
   .refine .inl ⟨y+1,by rw[kz (ah hle)],⟨o5,?_⟩,o5⟩;rcases a4g (yOf d) (y+1)with hlt|hge
    .have:=yQ (y:=yOf d+1) (y' :=y+1) o5;omega
    .exact hge
   .refine .inr ⟨y,by rw[kR (aU o5)],?_⟩;rcases a4g y (yOf d)with hlt|hge
    .have:=yQ (y:=y+1) (y' :=yOf d) o5;omega
    .omega)
 rw[hy,o8,hq,Aq o5 o5,o8,fF b6j];have hs:=Gw (yOf d);have hr:=a2f (yOf d);rcases xk (f:=λ(x:Int×Int)=>l7 (H6 x.2 12) (l9 (jS (yOf d) (F6 IntKind.i64 x.2 1)) λ(x_1:Int)=>l7 (H6 x.1 x_1) (some (Out.rt (yOf d,F6 IntKind.i64 x.2 1,F6 IntKind.i64 x.1 1))) (some (Out.nx (X9 IntKind.i64 x.1 x_1,F6 IntKind.i64 x.2 1)))) (some (Out.ex PUnit.unit))) (s:=(d -ys (yOf d),0))
  (λs=>∃n:Nat,n<=12/\s.2=12 -n/\mo (yOf d) n s.1=mo (yOf d) 12 (d -ys (yOf d))/\0<=s.1/\s.1<rem (yOf d) n/\s.1<=400) (λ_=>False) (λr=>r=ymd d) (λs=>(12 -s.2).toNat)
  ⟨12,o5,x9,rfl,o5,by rw[hr];show d -ys (yOf d)<_;omega,by have:=Oz (yOf d);show d -ys (yOf d)<=400;omega⟩ x9 (by
   rintro⟨r,i⟩ ⟨n,hn,hi,hm,hr0,hrn,hr4⟩;simp only at hi hm hr0 hrn hr4 ⊢;cases n with
   |zero=>simp[rem]at hrn;omega|succ n=>
    have ei:i+1=12 -n:=o5;rw[kz (bg o5),jJ b6j,ei,Gy o5 o5,o8];have hb:=TG (yOf d) (12 -n);rw[Zy (yOf d) n r]at hm;by_cases hlt:r<dim (yOf d) (12 -n)
    .rw[if_pos hlt]at hm;refine .inr (.inr ⟨_,by rw[kz (bg hlt)],?_⟩);rw[jJ b6j];unfold ymd
     try simp only
     rw[←hm]
    .rw[if_neg hlt]at hm;refine .inl ⟨_,by rw[kR (au o5),fF b6j],⟨n,o5,x9,hm,?_,?_,?_⟩,?_⟩
     .simp;omega
     .simp only[rem]at hrn ⊢;omega
     .simp;omega
     .simp;omega)with⟨_,_,hf⟩|⟨r,he,hr⟩
 .exact hf.elim
 .rw[he,o8,lJ,hr]
theorem PW(h0:0<=d)(h:d<=109572):AO d=some (ymd d):=by
 obtain⟨y1,y2,y3,y4⟩:=QD h0 h;have y0:=Lt y1;unfold AO xP;rw[kz (ah h0),o8,ah h,I7,o6];obtain⟨⟨r,y⟩,hy,hq⟩:=qg (f:=λ(x:Int×Int)=>l9 (jY x.2) λ(x_1:Int)=>l7 (O9 x_1 x.1) (l9 (jY x.2) λ(x_2:Int)=>some (Sum.inl (X9 IntKind.i64 x.1 x_2,F6 IntKind.i64 x.2 1))) (some (Sum.inr x))) (s:=(d,1900))
  (λs=>1900<=s.2/\s.2<=yOf d/\s.1=d -ys s.2) (λs=>s=(d -ys (yOf d),yOf d)) (λs=>(2200 -s.2).toNat)
  ⟨x9,by simpa using y1,by(have e:ys 1900=0:=by decide+kernel);simp[e]⟩ x9 (by
   rintro⟨r,y⟩ ⟨h1,h2,h3⟩;simp only at h1 h2 h3 ⊢;have hb:=Oz y;have hs:=Gw y;have hm:=yQ h2;have hpos:0<=ys y:=by
     have:=yQ (y:=1900) (y' :=y) h1;have e:ys 1900=0:=by decide+kernel
     omega
   rw[Gz o5,o8];by_cases hle:diy y<=r
   .refine .inl ⟨(r -diy y,y+1),?_,⟨by simp;omega,?_,?_⟩,?_⟩
    .rw[kz (ah hle),o8,fF b6j,jJ b6j]
    .simp only;rcases a4g (yOf d) (y+1)with hlt|hge
     .have:=yQ (y:=yOf d+1) (y' :=y+1) o5;omega
     .exact hge
    .simp only;omega
    .simp;omega
   .refine .inr ⟨_,by rw[kR (aU o5)],?_⟩;have e:y=yOf d:=a0q (d:=d) o5 o5 y3 y4;subst e;rw[h3])
 rw[hy,o8,hq]
 try simp only
 have hs:=Gw (yOf d);have hr:=a2f (yOf d);obtain⟨⟨r,m⟩,he,hq2⟩:=qg (f:=λ(x:Int×Int)=>l9 (jA (yOf d) x.2) λ(x_1:Int)=>l7 (O9 x_1 x.1) (l9 (jA (yOf d) x.2) λ(x_2:Int)=>some (Sum.inl (X9 IntKind.i64 x.1 x_2,F6 IntKind.i64 x.2 1))) (some (Sum.inr x))) (s:=(d -ys (yOf d),1))
  (λs=>∃n:Nat,n<=12/\s.2=13 -n/\mo (yOf d) n s.1=mo (yOf d) 12 (d -ys (yOf d))/\0<=s.1/\s.1<rem (yOf d) n/\s.1<=400) (λs=>s=mo (yOf d) 12 (d -ys (yOf d))) (λs=>(13 -s.2).toNat)
  ⟨12,o5,x9,rfl,o5,by rw[hr];show d -ys (yOf d)<_;omega,by have:=Oz (yOf d);show d -ys (yOf d)<=400;omega⟩ x9 (by
   rintro⟨r,i⟩ ⟨n,hn,hi,hm,hr0,hrn,hr4⟩;simp only at hi hm hr0 hrn hr4 ⊢;cases n with
   |zero=>simp[rem]at hrn;omega|succ n=>
    have ei:i=12 -n:=o5;subst ei;rw[EZ o5 o5,o8];have hb:=TG (yOf d) (12 -n);rw[Zy (yOf d) n r]at hm;by_cases hlt:r<dim (yOf d) (12 -n)
    .rw[if_pos hlt]at hm;exact .inr ⟨_,by rw[kR (aU o5)],hm⟩
    .rw[if_neg hlt]at hm;refine .inl ⟨(r -dim (yOf d) (12 -n),12 -n+1),by rw[kz (ah o5),o8,fF b6j,jJ b6j],⟨n,o5,by simp;omega,hm,?_,?_,?_⟩,?_⟩
     .simp;omega
     .simp only[rem]at hrn ⊢;omega
     .simp;omega
     .simp;omega)
 rw[he,o8,hq2];have hb:=a1e (yOf d) 12 (d -ys (yOf d)) o5 o5 (by rw[hr];omega);have hb2:=TG (yOf d) (mo (yOf d) 12 (d -ys (yOf d))).2;rw[jJ b6j];rfl
theorem YM(h0:0<=d)(h:d<=109572):1900<=(ymd d).1/\(ymd d).1<=2199/\1<=(ymd d).2.1/\(ymd d).2.1<=12/\1<=(ymd d).2.2/\(ymd d).2.2<=31:=by
 obtain⟨y1,y2,y3,y4⟩:=QD h0 h;have y0:=Lt y1;have hs:=Gw (yOf d);have hb:=a1e (yOf d) 12 (d -ys (yOf d)) o5 o5 (by rw[a2f];omega);have hb2:=TG (yOf d) (mo (yOf d) 12 (d -ys (yOf d))).2;unfold ymd
 try simp only
 omega
end Gt
namespace Go.GP
open Gt
set_option maxRecDepth 100000
def q1(q:Int)(u:Bool):Int:=l7 u (q+1) q
def sg(q:Int)(neg:Bool):Int:=l7 neg (-q) q
def a5o(r:Eg):Prop:=lL r.2.1/\lL r.2.2.1/\lL r.2.2.2
def a6l(t:kF):Prop:=t.2.2.2.length<=200/\∀r∈t.2.2.2,a5o r
abbrev V3:Type:=Int×Int×Int
theorem Kw{α β ρ:Type}(G:β->α->β⊕ρ)(P:ρ->Prop)(hG:∀b a r,G b a= .inr r->P r):∀(l:List α) (b:β) (r:ρ),fV G l b= .inr r->P r
 |[],b,r,h=>by cases h|a::l,b,r,h=>by
  unfold fV at h;cases hg:G b a with
  |inr r' =>rw[hg]at h;simp only at h;cases h;exact hG _ _ _ hg|inl b' =>rw[hg]at h;exact Kw G P hG l b' r h
theorem a6n:∀i:Fin 40,(arF ((i.1:Nat):Int)=0->i.1∈[1,2,3,4,5,6,7,8,9,35,36,37,38,39])/\(arF ((i.1:Nat):Int)=1->i.1∈[10,25,31,32,33,34])/\(arF ((i.1:Nat):Int)=2->i.1∈[11,12,13,14,15,16,17,18,19,20,21,22,23,24,27,28,29,30])/\(arF ((i.1:Nat):Int)=3->i.1=26):=by decide+kernel
variable {k:Int}
theorem a9z(h:k<1\/39<k):arF k=-1:=by
 unfold arF gy;rw[N7 (show k≠10 by omega),N7 (show k≠25 by omega),N7 (show k≠31 by omega),N7 (show k≠32 by omega),N7 (show k≠33 by omega),N7 (show k≠34 by omega),N7 (show k≠26 by omega)];rcases h with h|h
 .rw[aU (show k<1 by omega),aU (show k<35 by omega),aU (show k<11 by omega)];rfl
 .rw[ah (show 1<=k by omega),aU (show 9<k by omega),ah (show 35<=k by omega),aU (show 39<k by omega),ah (show 11<=k by omega),aU (show 30<k by omega)];rfl
theorem b5F(h:arF k≠-1):∃i:Fin 40,k=((i.1:Nat):Int):=by
 by_cases g:1<=k/\k<=39
 .exact⟨⟨k.toNat,o5⟩,by simp;omega⟩
 .exact absurd (a9z o5) h
def XT.node:XT->Int×Int
 | .l0 n=>n| .l1 n _=>n| .l2 n _ _=>n| .l3 n _ _ _=>n
def rtI(t:XT)(o:Nat):Nat:=o+t.size -1
def At(e:List (Int×Int))(S:List Int)(t:XT)(o:Nat):Prop:=∃pre suf S1 S2,e=pre++t.post++suf/\S=S1++t.sts o++S2/\pre.length=o/\S1.length=o
variable {e:List (Int×Int)}{o:Nat}{S:List Int}{n:Int×Int}{a:XT}
theorem YW(h:At e S (.l1 n a) o):At e S a o:=by obtain⟨p,s,S1,S2,h1,h2,h3,h4⟩:=h;exact⟨p,[n]++s,S1,[(o:Int)]++S2,by rw[h1];simp[XT.post],by rw[h2];simp[XT.sts],h3,h4⟩
theorem Rx{a b:XT}(h:At e S (.l2 n a b) o):At e S a o/\At e S b (o+a.size):=by
 obtain⟨p,s,S1,S2,h1,h2,h3,h4⟩:=h;exact⟨⟨p,b.post++[n]++s,S1,b.sts (o+a.size)++[(o:Int)]++S2,by rw[h1];simp[XT.post],by rw[h2];simp[XT.sts],h3,h4⟩,
  ⟨p++a.post,[n]++s,S1++a.sts o,[(o:Int)]++S2,by rw[h1];simp[XT.post],by rw[h2];simp[XT.sts],by simp[XT.post_len,h3],by simp[XT.sts_len,h4]⟩⟩
theorem IP{a b c:XT}(h:At e S (.l3 n a b c) o):At e S a o/\At e S b (o+a.size)/\At e S c (o+a.size+b.size):=by
 obtain⟨p,s,S1,S2,h1,h2,h3,h4⟩:=h;exact⟨⟨p,b.post++c.post++[n]++s,S1,b.sts (o+a.size)++c.sts (o+a.size+b.size)++[(o:Int)]++S2,by rw[h1];simp[XT.post],by rw[h2];simp[XT.sts],h3,h4⟩,
  ⟨p++a.post,c.post++[n]++s,S1++a.sts o,c.sts (o+a.size+b.size)++[(o:Int)]++S2,by rw[h1];simp[XT.post],by rw[h2];simp[XT.sts],by simp[XT.post_len,h3],by simp[XT.sts_len,h4]⟩,
  ⟨p++a.post++b.post,[n]++s,S1++a.sts o++b.sts (o+a.size),[(o:Int)]++S2,by rw[h1];simp[XT.post],by rw[h2];simp[XT.sts],by simp[XT.post_len,h3];try omega,by simp[XT.sts_len,h4];try omega⟩⟩
theorem T_(t:XT):∃p,t.post=p++[t.node]/\p.length+1=t.size:=by
 have hl:=t.post_len;cases t with
 |l0 n=>exact⟨[],rfl,rfl⟩|l1 n a=>refine⟨a.post,rfl,?_⟩;simp only[XT.post,I8,dO]at hl;exact hl|l2 n a b=>refine⟨a.post++b.post,rfl,?_⟩;simp only[XT.post,I8,dO]at hl ⊢;exact hl|l3 n a b c=>refine⟨a.post++b.post++c.post,rfl,?_⟩;simp only[XT.post,I8,dO]at hl ⊢;exact hl
theorem a3A(t:XT)(o:Nat):∃p,t.sts o=p++[(o:Int)]/\p.length+1=t.size:=by
 have hl:=t.sts_len o;cases t with
 |l0 n=>exact⟨[],rfl,rfl⟩|l1 n a=>refine⟨a.sts o,rfl,?_⟩;simp only[XT.sts,I8,dO]at hl;exact hl|l2 n a b=>refine⟨a.sts o++b.sts (o+a.size),rfl,?_⟩;simp only[XT.sts,I8,dO]at hl ⊢;exact hl|l3 n a b c=>refine⟨a.sts o++b.sts (o+a.size)++c.sts (o+a.size+b.size),rfl,?_⟩;simp only[XT.sts,I8,dO]at hl ⊢;exact hl
variable {t:XT}
theorem rY(h:At e S t o):e[rtI t o]? =some t.node/\S[rtI t o]? =some (o:Int)/\rtI t o<e.length:=by
 obtain⟨p,s,S1,S2,h1,h2,h3,h4⟩:=h;obtain⟨q,e1,e2⟩:=T_ t;obtain⟨q',e1',e2'⟩:=a3A t o;have hp:=t.size_pos;have a1:e[rtI t o]? =some t.node:=by rw[h1,e1,E8,E8,←E8 p,H9 (by simp[rtI];omega)];rw[show rtI t o -(p++q).length=0 by simp[rtI];omega];rfl
 refine⟨a1,?_,(ax.1 a1).1⟩;rw[h2,e1',E8,E8,←E8 S1,H9 (by simp[rtI];omega)];rw[show rtI t o -(S1++q').length=0 by simp[rtI];omega];rfl
def R_:XT->Nat->List Int
 | .l0 _,_=>[]| .l1 _ a,o=>[(rtI a o:Int)]| .l2 _ a b,o=>[(rtI a o:Int),(rtI b (o+a.size):Int)]| .l3 _ a b c,o=>[(rtI a o:Int),(rtI b (o+a.size):Int),(rtI c (o+a.size+b.size):Int)]
structure OStep (S:List Int) (f:List Int×Int×Int->Option ((List Int×Int×Int)⊕List Int)):Prop where
 step:∀(l:List Int) (c:Nat) (j:Nat) (x:Nat),j<l.length->l.length<=3->S[c]? =some ((x:Nat):Int)->x<=100->f (l,(c:Int),(j:Int))=some (.inl (l.set j (c:Int),(x:Int) -1,(j:Int) -1))
 stop:∀(l:List Int) (c:Int),f (l,c,-1)=some (.inr l)
theorem uZ{σ ε:Type}{f:σ->Option (σ⊕ε)}{s s' :σ}{n:Nat}(h:f s=some (.inl s')):tV f (n+1) s=tV f n s' :=by rw[tV,h]
theorem yV{σ ε:Type}{f:σ->Option (σ⊕ε)}{s:σ}{e:ε}{n:Nat}(h:f s=some (.inr e)):tV f (n+1) s=some e:=by rw[tV,h]
theorem a1y{f:List Int×Int×Int->Option ((List Int×Int×Int)⊕List Int)}(hs:OStep S f)(h:At e S t o)(he:e.length<=48)(hw:t.wf):
  dK f (List.replicate (arF t.node.1).toNat 0,(rtI t o:Int) -1,arF t.node.1 -1)=some (R_ t o):=by
 obtain⟨k,hk⟩:∃k,fQ=k+1+1+1+1:=⟨fQ -4,by unfold fQ;omega⟩;unfold dK;rw[hk];have hr:=rY h;cases t with
 |l0 n=>rw[show arF (XT.l0 n).node.1=0 from hw];exact yV (hs.stop _ _)|l1 n a=>rw[show arF (XT.l1 n a).node.1=1 from hw.1];have ha:=rY (YW h);have p1:=a.size_pos;rw[show((rtI (.l1 n a) o:Nat):Int) -1=((rtI a o:Nat):Int) by simp only[rtI,XT.size];omega];rw[show((1:Int) -1)=((0:Nat):Int)from rfl,uZ (hs.step _ _ 0 o x9 x9 ha.2.1 (by unfold rtI at hr;omega))];rw[show(((0:Nat):Int) -1)=-1 from rfl,yV (hs.stop _ _)];rfl|l2 n a b=>rw[show arF (XT.l2 n a b).node.1=2 from hw.1];have ha:=rY (Rx h).1;have hb:=rY (Rx h).2;have p1:=a.size_pos;have p2:=b.size_pos;rw[show((rtI (.l2 n a b) o:Nat):Int) -1=((rtI b (o+a.size):Nat):Int) by simp only[rtI,XT.size];omega];rw[show((2:Int) -1)=((1:Nat):Int)from rfl,uZ (hs.step _ _ 1 (o+a.size) x9 x9 hb.2.1 (by unfold rtI at hb;omega))];rw[show((o+a.size:Nat):Int) -1=((rtI a o:Nat):Int) by unfold rtI;omega,show(((1:Nat):Int) -1)=((0:Nat):Int)from rfl];rw[uZ (hs.step _ _ 0 o x9 x9 ha.2.1 (by unfold rtI at hr;omega))];rw[show(((0:Nat):Int) -1)=-1 from rfl,yV (hs.stop _ _)];rfl|l3 n a b c=>rw[show arF (XT.l3 n a b c).node.1=3 from hw.1];have ha:=rY (IP h).1;have hb:=rY (IP h).2.1;have hc:=rY (IP h).2.2;have p1:=a.size_pos;have p2:=b.size_pos;have p3:=c.size_pos;rw[show((rtI (.l3 n a b c) o:Nat):Int) -1=((rtI c (o+a.size+b.size):Nat):Int) by simp only[rtI,XT.size];omega];rw[show((3:Int) -1)=((2:Nat):Int)from rfl,uZ (hs.step _ _ 2 (o+a.size+b.size) x9 x9 hc.2.1 (by unfold rtI at hc;omega))];rw[show((o+a.size+b.size:Nat):Int) -1=((rtI b (o+a.size):Nat):Int) by unfold rtI;omega,show(((2:Nat):Int) -1)=((1:Nat):Int)from rfl];rw[uZ (hs.step _ _ 1 (o+a.size) x9 x9 hb.2.1 (by unfold rtI at hb;omega))];rw[show((o+a.size:Nat):Int) -1=((rtI a o:Nat):Int) by unfold rtI;omega,show(((1:Nat):Int) -1)=((0:Nat):Int)from rfl];rw[uZ (hs.step _ _ 0 o x9 x9 ha.2.1 (by unfold rtI at hr;omega))];rw[show(((0:Nat):Int) -1)=-1 from rfl,yV (hs.stop _ _)];rfl
theorem b5B(h:t.wf):0<=arF t.node.1/\arF t.node.1<=3:=by
 cases t with
 |l0 n=>rw[show arF (XT.l0 n).node.1=0 from h];decide|l1 n a=>rw[show arF (XT.l1 n a).node.1=1 from h.1];decide|l2 n a b=>rw[show arF (XT.l2 n a b).node.1=2 from h.1];decide|l3 n a b c=>rw[show arF (XT.l3 n a b c).node.1=3 from h.1];decide
variable {α:Type}
theorem A_(h:0<=k)(h2:k<=1000000)(x:α):ER k x=some (List.replicate k.toNat x):=if_pos ⟨h,o5⟩
theorem yG{T t:XT}(hT:jI e= .inr T)(h:At e (T.sts 0) t o)(hw:t.wf):rE e (rtI t o:Int)=some (R_ t o):=by
 obtain⟨hp,he⟩:=rV hT;have hr:=rY h;have ha:=b5B hw;unfold rE;rw[BF,o8];unfold qN;rw[hT];simp only[J7,hr.1,o8,XY,Z9 (rfl:(0:Int)=0),I7,o6];rw[au (show(0:Int)<=((rtI t o:Nat):Int) by omega),aU (show((rtI t o:Nat):Int)<o9 e by unfold o9;omega)];simp only[o6,o8,U1];rw[A_ ha.1 o5,o8,ui];rw[show X9 .i64 ((rtI t o:Nat):Int) 1=(rtI t o:Int) -1 from fF b6j];rw[show X9 .i64 (arF t.node.1) 1=arF t.node.1 -1 from fF b6j];refine a1y ⟨λl c j x hj hl hx hx2=>?_,λl c=>?_⟩ h he hw
 .have hjl:l[j]? =some l[j]:=lS hj;simp only[ah (show(0:Int)<=(j:Int) by omega),o7,J7,hjl,o8,hx,dW,df,U5,tX];rw[fF b6j,fF b6j]
 .rfl
abbrev VSt:Type:=V3×List V3×Int
structure VStep (ops:List Int) (ev:Int->Option (V3×Int)) (pad:List V3->List V3) (f:VSt->Option (Out VSt (V3×List V3) (V3×Int))):Prop where
 step:∀(l:List V3) (c:Int) (r:V3×Int),ops[l.length]? =some c->ev c=some r->f ((0,0,0),pad l,(l.length:Int))=some (l7 (C9 r.2 0) (.nx ((0,0,0),pad (l++[r.1]),((l.length+1:Nat):Int))) (.rt ((0,0,0),r.2)))
 stop:∀(l:List V3),l.length=ops.length->f ((0,0,0),pad l,(l.length:Int))=some (.ex ((0,0,0),l))
section
variable {ev:Int->Option (V3×Int)} {pad:List V3->List V3} {f:VSt->Option (Out VSt (V3×List V3) (V3×Int))}
theorem v0(h:VStep [] ev pad f):U0 f ((0,0,0),pad [],0)=some (.inl ((0,0,0),[])):=by obtain⟨k,hk⟩:∃k,fQ=k+1:=⟨fQ -1,by unfold fQ;omega⟩;unfold U0;rw[hk,jr,show f ((0,0,0),pad [],0)=some (.ex ((0,0,0),[]))from h.stop [] rfl]
theorem v1{c:Int}{r:V3×Int}(h:VStep [c] ev pad f)(h1:ev c=some r):U0 f ((0,0,0),pad [],0)=some (l7 (C9 r.2 0) (.inl ((0,0,0),[r.1])) (.inr ((0,0,0),r.2))):=by
 obtain⟨k,hk⟩:∃k,fQ=k+1+1:=⟨fQ -2,by unfold fQ;omega⟩;unfold U0;rw[hk,jr,show f ((0,0,0),pad [],0)=_ from h.step [] c r rfl h1];cases C9 r.2 0
 .rfl
 .simp only[o7];rw[jr,show f ((0,0,0),pad ([]++[r.1]),(([].length+1:Nat):Int))=_ from h.stop [r.1] rfl]
theorem v2{c d:Int}{r q:V3×Int}(h:VStep [c,d] ev pad f)(h1:ev c=some r)(h2:ev d=some q):U0 f ((0,0,0),pad [],0)=some (l7 (C9 r.2 0) (l7 (C9 q.2 0) (.inl ((0,0,0),[r.1,q.1])) (.inr ((0,0,0),q.2))) (.inr ((0,0,0),r.2))):=by
 obtain⟨k,hk⟩:∃k,fQ=k+1+1+1:=⟨fQ -3,by unfold fQ;omega⟩;unfold U0;rw[hk,jr,show f ((0,0,0),pad [],0)=_ from h.step [] c r rfl h1];cases C9 r.2 0
 .rfl
 .simp only[o7];rw[jr,show f ((0,0,0),pad ([]++[r.1]),(([].length+1:Nat):Int))=_ from h.step [r.1] d q rfl h2];cases C9 q.2 0
  .rfl
  .simp only[o7];rw[jr,show f ((0,0,0),pad ([r.1]++[q.1]),(([r.1].length+1:Nat):Int))=_ from h.stop [r.1,q.1] rfl]
end
theorem a6o(h:arF k=3):k=26:=by obtain⟨i,rfl⟩:=b5F (by rw[h];decide);rw[(a6n i).2.2.2 h];rfl
theorem UY(h:jI e= .inr t):At e (t.sts 0) t 0/\e.length<=48/\e.length=t.size/\X9 .i64 (o9 e) 1=(rtI t 0:Int):=by
 obtain⟨hp,h48⟩:=rV h;have hsz:e.length=t.size:=by rw[hp,XT.post_len]
 have hpos:=t.size_pos;refine⟨⟨[],[],[],[],by simp[←hp],x9,rfl,rfl⟩,h48,hsz,?_⟩;rw[fF (by unfold lL o9;omega)];unfold o9 rtI;omega
theorem bi{n:Nat}{l:List α}(h:H6 (n:Int) (o9 l)=false):l.length<=n:=by rw[tN]at h;unfold o9 at h;omega
def Ha(r:iw):Bool:=l7 (H6 80 (o9 r.1)) true (l7 (H6 80 (o9 r.2.2.2.2.2.2.2)) true (l7 (H6 50 (o9 r.2.2.2.2.2.1)) true (H6 50 (o9 r.2.2.2.2.2.2.1))))
def smS(s:P5):Bool:=l7 (H6 80 (o9 s.1)) false (l7 (H6 14 (o9 s.2.2.1)) false (l7 (H6 14 (o9 s.2.2.2.1)) false (l7 (H6 60 (o9 s.2.2.2.2)) false
 (l7 (s.2.2.1.any λf=>H6 80 (o9 f.1)) false (l7 (s.2.2.2.1.any λf=>H6 80 (o9 f.1)) false (G7 (s.2.2.2.2.any Ha)))))))
theorem OI{fs:List jh}(h:fs.length<=1000000):U0 (λ(x:Int)=>l7 (H6 x (o9 fs)) (l9 (J9 fs x) λ(x_1:jh)=>l7 (H6 80 (o9 x_1.1)) (some (Out.rt false)) (some (Out.nx (F6 IntKind.i64 x 1)))) (some (Out.ex PUnit.unit))) 0=some (bif fs.any (λf=>H6 80 (o9 f.1))then .inr false else .inl PUnit.unit):=by
 refine yB fs (λf=>H6 80 (o9 f.1)) false PUnit.unit h (λi a ha=>?_) ?_
 .simp only[O0 ha,o7,J7,ha,o8];cases H6 80 (o9 a.1)<;>rfl
 .rw[N9];rfl
theorem Rj(s:P5):uB s=some (smS s):=by
 unfold uB smS;cases h1:H6 80 (o9 s.1)
 case true=>rfl
 cases h2:H6 14 (o9 s.2.2.1)
 case true=>rfl
 cases h3:H6 14 (o9 s.2.2.2.1)
 case true=>rfl
 cases h4:H6 60 (o9 s.2.2.2.2)
 case true=>rfl
 have l2:=bi (n:=14) h2;have l3:=bi (n:=14) h3;have l4:=bi (n:=60) h4;simp only[o6,o8,U1];rw[OI o5,OI o5,o8];cases s.2.2.1.any λf=>H6 80 (o9 f.1)
 case true=>rfl
 simp only[cond_false,U1,o6,o8];cases s.2.2.2.1.any λf=>H6 80 (o9 f.1)
 case true=>rfl
 simp only[cond_false,U1,o6];refine O6 (yB s.2.2.2.2 Ha false PUnit.unit o5 (λi a ha=>?_) ?_) ?_
 rotate_left 2
 .cases s.2.2.2.2.any Ha<;>rfl
 .simp only[O0 ha,o7,J7,ha,o8];unfold Ha;cases H6 80 (o9 a.1)<;>cases H6 80 (o9 a.2.2.2.2.2.2.2)<;>cases H6 50 (o9 a.2.2.2.2.2.1)<;>cases H6 50 (o9 a.2.2.2.2.2.2.1)<;>rfl
 .rw[N9];rfl
def ScI(s:P5):Prop:=∀r∈s.2.2.2.2,(∀n∈r.2.2.2.2.2.1,lL n.2)/\∀n∈r.2.2.2.2.2.2.1,lL n.2
theorem zi{a b:Bool}(h:l7 a false b=true):a=false/\b=true:=by cases a<;>cases b<;>first|exact⟨rfl,rfl⟩|cases h
theorem Et{l:List α}{p:α->Bool}(h:l.any p=false):∀a∈l,p a=false:=by
 intro a ha;rw[gV]at h;have:=h a ha;cases hp:p a
 .rfl
 .exact absurd hp this
theorem a7n{s:P5}(h:smS s=true)(hI:ScI s):SmS s:=by
 unfold smS at h;obtain⟨h1,h⟩:=zi h;obtain⟨h2,h⟩:=zi h;obtain⟨h3,h⟩:=zi h;obtain⟨h4,h⟩:=zi h;obtain⟨h5,h⟩:=zi h;obtain⟨h6,h⟩:=zi h;have h7:s.2.2.2.2.any Ha=false:=by cases hq:s.2.2.2.2.any Ha<;>rw[hq]at h<;>first|rfl|cases h
 refine⟨by have:=bi (n:=80) h1;omega,bi (n:=14) h2,bi (n:=14) h3,bi (n:=60) h4,⟨λf hf=>?_,λf hf=>?_⟩,λr hr=>?_⟩
 .have:=bi (n:=80) (Et h5 f hf);omega
 .have:=bi (n:=80) (Et h6 f hf);omega
 .have hl:=Et h7 r hr;unfold Ha at hl;cases g1:H6 80 (o9 r.1)<;>rw[g1]at hl
  case true=>cases hl
  cases g2:H6 80 (o9 r.2.2.2.2.2.2.2)<;>rw[g2]at hl
  case true=>cases hl
  cases g3:H6 50 (o9 r.2.2.2.2.2.1)<;>rw[g3]at hl
  case true=>cases hl
  have k1:=bi (n:=80) g1;have k2:=bi (n:=80) g2;exact⟨⟨o5,o5,(hI r hr).1,(hI r hr).2⟩,bi (n:=50) g3,bi (n:=50) hl⟩
def Sl(e:dL):Bool:=l7 (H6 80 (o9 e.1)) true (l7 (H6 20 (o9 e.2)) true (e.2.any λm=>H6 80 (o9 m)))
def tG(b:Int)(t:kF):Int⊕Bool:=l7 (H6 80 (o9 t.1)) (.inr false) (l7 (H6 150 (F6 .i64 b (o9 t.2.2.2))) (.inr false) (.inl (F6 .i64 b (o9 t.2.2.2))))
def sG(b:Int)(s:P5):Int⊕Bool:=l7 (H6 60 (F6 .i64 b (o9 s.2.2.2.2))) (.inr false) (l7 (smS s) (.inl (F6 .i64 b (o9 s.2.2.2.2))) (.inr false))
def smL(l:dJ):Bool:=l7 (H6 9 (o9 l.1)) false (l7 (H6 9 (o9 l.2.1)) false (l7 (H6 5 (o9 l.2.2)) false (l7 (l.1.any Sl) false
 (match fV tG l.2.1 0 with| .inr _=>false| .inl _=>match fV sG l.2.2 0 with| .inr _=>false| .inl _=>true))))
theorem a9l:∀(b:Int) (t:kF) (r:Bool),tG b t= .inr r->r=false:=by intro b t r h;unfold tG at h;cases g0:H6 80 (o9 t.1)<;>cases g:H6 150 (F6 .i64 b (o9 t.2.2.2))<;>simp only[g0,g,o7,o6]at h<;>cases h<;>rfl
theorem a7l:∀(b:Int) (s:P5) (r:Bool),sG b s= .inr r->r=false:=by intro b s r h;unfold sG at h;cases g:H6 60 (F6 .i64 b (o9 s.2.2.2.2))<;>cases g2:smS s<;>simp only[g,g2,o7,o6]at h<;>cases h<;>rfl
theorem Wp(l:dJ):xH l=some (smL l):=by
 unfold xH smL;cases h1:H6 9 (o9 l.1)
 case true=>rfl
 cases h2:H6 9 (o9 l.2.1)
 case true=>rfl
 cases h3:H6 5 (o9 l.2.2)
 case true=>rfl
 have l1:=bi (n:=9) h1;have l2:=bi (n:=9) h2;have l3:=bi (n:=5) h3;simp only[o6,o8,U1];refine O6 (yB l.1 Sl false PUnit.unit o5 (λi a ha=>?_) ?_) ?_
 .simp only[O0 ha,o7,J7,ha,o8];unfold Sl;cases H6 80 (o9 a.1)
  case true=>rfl
  cases h5:H6 20 (o9 a.2)
  case true=>rfl
  have l5:=bi (n:=20) h5;simp only[o6];refine O6 (yB a.2 (λm=>H6 80 (o9 m)) false PUnit.unit o5 (λj m hm=>?_) ?_) ?_
  .simp only[O0 hm,o7,J7,hm,o8];cases H6 80 (o9 m)<;>rfl
  .rw[N9];rfl
  .cases a.2.any λm=>H6 80 (o9 m)<;>rfl
 .rw[N9];rfl
 cases l.1.any Sl
 case true=>rfl
 simp only[cond_false,U1,o6];apply Pi l.2.1 tG (λb i=>((b,i):Int×Int)) (λ_=>PUnit.unit) (λ_ _=>True) 0 o5 trivial
 .intro i t b hi hi' _;refine⟨?_,λ_ _=>trivial⟩;simp only[O0 hi,o7,J7,hi,o8];unfold tG;rw[dn o5];cases H6 80 (o9 t.1)<;>cases H6 150 (F6 .i64 b (o9 t.2.2.2))<;>rfl
 .intro b _;rw[N9];rfl
 .intro _;cases ht:fV tG l.2.1 0 with
  |inr r=>rw[Kw tG (λr=>r=false) a9l _ _ _ ht];rfl|inl b=>
   simp only[U1];apply Pi l.2.2 sG (λb i=>((b,i):Int×Int)) (λ_=>PUnit.unit) (λ_ _=>True) 0 o5 trivial
   .intro i s b hi hi' _;refine⟨?_,λ_ _=>trivial⟩;simp only[O0 hi,o7,J7,hi,o8,Rj];unfold sG;rw[dn o5];cases H6 60 (F6 .i64 b (o9 s.2.2.2.2))<;>cases smS s<;>rfl
   .intro b _;rw[N9];rfl
   .intro _;cases hs:fV sG l.2.2 0 with
    |inr r=>rw[Kw sG (λr=>r=false) a7l _ _ _ hs];rfl|inl b=>rfl
structure WfL (l:dJ):Prop where
 rl:∀t∈l.2.1,t.2.2.2.length<=4611686018427387904
 ri:∀t∈l.2.1,∀r∈t.2.2.2,a5o r
 sl:∀s∈l.2.2,s.2.2.2.2.length<=4611686018427387904
 si:∀s∈l.2.2,ScI s
theorem YH:∀(L:List kF) (b b' :Int),0<=b->b<=150->(∀t∈L,t.2.2.2.length<=4611686018427387904)->fV tG L b= .inl b' ->∀t∈L,t.1.length<=80/\t.2.2.2.length<=150
 |[],_,_,_,_,_,_=>by simp|t::L,b,b',h0,h1,hw,h=>by
  have hwt:=hw t x9;have ha:F6 .i64 b (o9 t.2.2.2)=b+o9 t.2.2.2:=jJ (by unfold lL o9;omega);unfold fV tG at h;rw[ha]at h;cases g0:H6 80 (o9 t.1)<;>rw[g0]at h
  case true=>cases h
  cases g1:H6 150 (b+o9 t.2.2.2)<;>rw[g1]at h
  case true=>cases h
  rw[tN]at g1;intro x hx;rcases D6.1 hx with rfl|hx
  .exact⟨bi (n:=80) g0,by unfold o9 at g1;omega⟩
  .exact YH L (b+o9 t.2.2.2) b' (by unfold o9;omega) g1 (λq hq=>hw q (by simp[hq])) h x hx
theorem Yp:∀(L:List P5) (b b' :Int),0<=b->b<=60->(∀s∈L,s.2.2.2.2.length<=4611686018427387904)->fV sG L b= .inl b' ->∀s∈L,smS s=true
 |[],_,_,_,_,_,_=>by simp|s::L,b,b',h0,h1,hw,h=>by
  have hwt:=hw s x9;have ha:F6 .i64 b (o9 s.2.2.2.2)=b+o9 s.2.2.2.2:=jJ (by unfold lL o9;omega);unfold fV sG at h;rw[ha]at h;cases g1:H6 60 (b+o9 s.2.2.2.2)<;>rw[g1]at h
  case true=>cases h
  cases g2:smS s<;>rw[g2]at h
  case false=>cases h
  rw[tN]at g1;intro x hx;rcases D6.1 hx with rfl|hx
  .exact g2
  .exact Yp L (b+o9 s.2.2.2.2) b' (by unfold o9;omega) g1 (λq hq=>hw q (by simp[hq])) h x hx
theorem a7m{l:dJ}(h:smL l=true)(hW:WfL l):SmL l/\∀t∈l.2.1,a6l t:=by
 unfold smL at h;obtain⟨h1,h⟩:=zi h;obtain⟨h2,h⟩:=zi h;obtain⟨h3,h⟩:=zi h;obtain⟨h4,h⟩:=zi h;have l1:=bi (n:=9) h1;have l2:=bi (n:=9) h2;have l3:=bi (n:=5) h3;cases ht:fV tG l.2.1 0 with
 |inr r=>rw[ht]at h;cases h|inl b=>
  rw[ht]at h;simp only at h;cases hs:fV sG l.2.2 0 with
  |inr r=>rw[hs]at h;cases h|inl b' =>
   have T:=YH l.2.1 0 b o5 o5 hW.rl ht;have S:=Yp l.2.2 0 b' o5 o5 hW.sl hs;refine⟨⟨⟨o5,o5,o5⟩,λe he=>?_,λt ht=>by have:=(T t ht).1;omega,λs hs=>a7n (S s hs) (hW.si s hs)⟩,λt ht=>⟨by have:=(T t ht).2;omega,hW.ri t ht⟩⟩;have hl:=Et h4 e he;unfold Sl at hl;cases g1:H6 80 (o9 e.1)<;>rw[g1]at hl
   case true=>cases hl
   cases g2:H6 20 (o9 e.2)<;>rw[g2]at hl
   case true=>cases hl
   have k1:=bi (n:=80) g1;exact⟨o5,λm hm=>by have:=bi (n:=80) (Et hl m hm);omega⟩
theorem VQ:reachBytes<=4611686018427387904:=by decide
theorem b5A{l:dJ}(h:wf b6i l):WfL l:=by
 refine⟨λt ht=>?_,λt ht r hr=>?_,λs hs=>?_,λs hs r hr=>⟨λn hn=>?_,λn hn=>?_⟩⟩
 .have:=(h.2.1.2 t ht).2.2.2.1;exact iD this VQ
 .have:=(h.2.1.2 t ht).2.2.2.2 r hr;exact⟨IJ this.2.1,IJ this.2.2.1,IJ this.2.2.2⟩
 .have:=(h.2.2.2 s hs).2.2.2.2.1;exact iD this VQ
 .have:=(h.2.2.2 s hs).2.2.2.2.2 r hr;exact IJ (this.2.2.2.2.2.1.2 n hn).2
 .have:=(h.2.2.2 s hs).2.2.2.2.2 r hr;exact IJ (this.2.2.2.2.2.2.1.2 n hn).2
end Go.GP
namespace Gt
open Go Go.GP
variable {n:Int}
theorem a4c(h:lL n):BI n=some (Lib.itoa n):=by unfold BI;rw[if_pos (show -9223372036854775808<=n/\n<=9223372036854775807 from h)]
theorem SV{s:List UInt8}{c:Nat}(h:c<=1000000)(hs:s.length<=1000000):pW s (c:Int)=some (Lib.repeatL s c):=by
 unfold pW
 have:s.length*c<=1000000*1000000:=Nat.mul_le_mul hs h;rw[if_pos ⟨o5,o5,by rw[U5];omega⟩,U5]
theorem b2o(x:UInt8)(c:Nat):Lib.repeatL [x] c=List.replicate c x:=by have:=Lib.repeatL_replicate x 1 c;simpa using this
theorem WM{d:Int}(h0:0<=d)(h:d<10):a3J (wrap .u8 (F6 .u64 48 d))=UInt8.ofNat (48+d.toNat):=by
 rw[Vt (by unfold U64;omega)];have e:wrap .u8 (48+d)=((48+d.toNat:Nat):Int):=by unfold wrap IntKind.wrap;simp[IntKind.signed,IntKind.bits];omega
 rw[e];unfold a3J;rw[U5]
theorem a5s(n:Int):Eh [n]=[a3J n]:=rfl
theorem Vj:∀(k u:Nat),u<k->u<18446744073709551616->mF k (u:Int)=some (Lib.decDigits u)
 |0,u,h,_=>by omega|k+1,u,h,hu=>by
  show wo (mF k) (u:Int)=_;unfold wo;by_cases h10:u<10
  .try simp only[a5s]
   rw[kz (bg o5),WM o5 o5,Lib.decDigits,dif_pos h10,U5]
  .have e1:(u:Int).tdiv 10=((u / 10:Nat):Int):=by rw[lK o5];omega
   have e2:jG (u:Int) 10=((u % 10:Nat):Int):=by rw[zy o5];omega
   try simp only[a5s]
   rw[kR (au o5),a0V (by rw[e1];unfold U64;omega)];rw[e1,Vj k (u / 10) o5 o5,o8,e2,WM o5 o5,G5,o8,U5]
   .congr 1
    conv=>rhs;rw[Lib.decDigits,dif_neg h10]
   .have:=Lib.nDigits_le20 (u / 10) o5;rw[Lib.decDigits_length];simp;omega
theorem Ec(h:U64 n):yH n=some (Lib.decDigits n.toNat):=by unfold U64 at h;have:=Vj fQ n.toNat (by unfold fQ;omega) o5;rw[dE h.1]at this;exact this
theorem Jc(h:lL n):(Lib.itoa n).length<=21:=Lib.itoa_length_le n h.1 h.2
variable {u:Nat}
theorem xC(h:u<18446744073709551616):1<=(Lib.decDigits u).length/\(Lib.decDigits u).length<=20:=by rw[Lib.decDigits_length];exact⟨Lib.nDigits_pos u,Lib.nDigits_le20 u h⟩
theorem uM(h:lL n):lq n=some (Lib.itoa n):=by
 unfold lL at h;unfold lq Lib.itoa;by_cases hn:n<0
 .rw[kz (bg hn),if_pos hn,jJ b6j,fF b6j];rw[show wrap .u64 (0 -(n+1))=0 -(n+1)from JO (by unfold U64;omega),Vt (by unfold U64;omega),Ec (by unfold U64;omega),o8];have e:(0 -(n+1)+1).toNat=n.natAbs:=o5;rw[e,G5,o8]
  .rfl
  .have:=(xC (u:=n.natAbs) o5).2;simp;omega
 .rw[kR (au o5),if_neg hn,show wrap .u64 n=n from JO (by unfold U64;omega),Ec (by unfold U64;omega),o8]
theorem kM(h:lL n):kS n=some (Lib.itoa n):=by unfold kS;rw[a4c h];rfl
def Ku(u k:Nat):List UInt8:=
 let d:=List.replicate (k+1 -(Lib.decDigits u).length) 48++Lib.decDigits u
 d.take (d.length -k)++46::d.drop (d.length -k)
def OM(n:Int)(k:Nat):List UInt8:=if n<0 then 45::Ku n.natAbs k else Ku n.natAbs k
variable {k:Nat}
theorem Xv(hu:u<18446744073709551616)(hk:k<=9):(Ku u k).length<=31:=by have:=xC hu;unfold Ku;simp;omega
theorem Kv(h:lL n)(hk:k<=9):(OM n k).length<=32:=by unfold lL at h;have:=Xv (u:=n.natAbs) (k:=k) o5 hk;unfold OM;split<;>simp<;>omega
variable {d:List UInt8}
theorem a0F(h1:k<d.length)(h2:d.length<=100):
  gW d 0 (X9 .i64 (o9 d) (k:Int))=some (d.take (d.length -k))/\gW d (X9 .i64 (o9 d) (k:Int)) (o9 d)=some (d.drop (d.length -k)):=by
 have e:X9 .i64 (o9 d) (k:Int)=((d.length -k:Nat):Int):=by rw[fF (by unfold lL o9;omega)];unfold o9;omega
 rw[e];exact⟨by rw[Zt o5 o5];simp,by rw[KD o5 o5];simp⟩
theorem ZX{d p:List UInt8}(h1:k<d.length)(h2:d.length<=100)(hp:p.length<=100):
  (l9 (gW d 0 (X9 .i64 (o9 d) (k:Int))) λx=>l9 (J3 p x) λy=>l9 (J3 y [46]) λz=>l9 (gW d (X9 .i64 (o9 d) (k:Int)) (o9 d)) λt=>l9 (J3 z t) λx=>some x)
   =some (p++(d.take (d.length -k)++46::d.drop (d.length -k))):=by
 obtain⟨c1,c2⟩:=a0F h1 h2;rw[c1,o8,G5 E5,o8,G5 E5,o8,c2,o8,G5 E5,o8];simp
theorem gX(h:lL n)(hk:1<=k/\k<=9):bf n (k:Int)=some (OM n k):=by
 have hI:=h;unfold lL at h;have ek:vO 0 (vP (k:Int) 9)=(k:Int):=by unfold vO vP;split<;>split<;>omega
 unfold bf oM;rw[o8,ek,kM hI,o8,kR (N7 o5)];have hd:=xC (u:=n.natAbs) o5;have rest:∀(d p:List UInt8),1<=d.length->d.length<=20->p.length<=1->
   l7 (O9 (o9 d) (k:Int))
    (l9 (pW [48] (X9 .i64 (F6 .i64 (k:Int) 1) (o9 d))) λx3=>l9 (J3 x3 d) λx4=>l9 (gW x4 0 (X9 .i64 (o9 x4) (k:Int))) λx5=>l9 (J3 p x5) λx6=>l9 (J3 x6 [46]) λx7=>
     l9 (gW x4 (X9 .i64 (o9 x4) (k:Int)) (o9 x4)) λx=>l9 (J3 x7 x) λx=>some x)
    (l9 (gW d 0 (X9 .i64 (o9 d) (k:Int))) λx=>l9 (J3 p x) λy=>l9 (J3 y [46]) λz=>l9 (gW d (X9 .i64 (o9 d) (k:Int)) (o9 d)) λt=>l9 (J3 z t) λx=>some x)
   =some (p++(let e:=List.replicate (k+1 -d.length) 48++d;e.take (e.length -k)++46::e.drop (e.length -k))):=by
  intro d p h1 h2 h3;by_cases hle:d.length<=k
  .rw[kz (ah (by unfold o9;omega))];have e:X9 .i64 (F6 .i64 (k:Int) 1) (o9 d)=((k+1 -d.length:Nat):Int):=by
    rw[jJ b6j,fF (by unfold lL o9;omega)];unfold o9;omega
   rw[e,SV o5 x9,b2o,o8,G5 E5,o8];exact ZX E5 E5 o5
  .rw[kR (aU (by unfold o9;omega)),ZX o5 o5 o5];have:k+1 -d.length=0:=o5;rw[this];simp
 unfold Lib.itoa OM Ku;by_cases hn:n<0
 .rw[if_pos hn,if_pos hn,kz (bg hn)];have e:gW (45::Lib.decDigits n.natAbs) 1 (o9 (45::Lib.decDigits n.natAbs))=some (Lib.decDigits n.natAbs):=by
   rw[KD o5 E5];simp
  rw[e,o8];exact rest (Lib.decDigits n.natAbs) [45] hd.1 hd.2 x9
 .rw[if_neg hn,if_neg hn,kR (au o5)];have e:n.toNat=n.natAbs:=o5;rw[e];exact rest (Lib.decDigits n.natAbs) [] hd.1 hd.2 x9
theorem a3U :∀(h:d=Lib.decDigits u),∀c∈d,48<=c.toNat/\c.toNat<=57:=by intro h c hc;subst h;rw[Lib.decDigits_eq]at hc;obtain⟨t,_,rfl⟩:=iC.1 hc;unfold Lib.dg;have:u / 10^(Lib.nDigits u -1 -t) % 10<10:=Nat.mod_lt _ o5;generalize u / 10^(Lib.nDigits u -1 -t) % 10=r at this;simp;omega
theorem Ou{c:UInt8}(hc:c∈Lib.decDigits u):48<=c.toNat/\c.toNat<=57:=a3U rfl c hc
theorem PU(h:∀c∈d,48<=c.toNat/\c.toNat<=57)(h1:1<=d.length):xu d=some (d,false):=by
 unfold xu;rw[kz (bg (by unfold o9;omega))];match d,h1 with
 |c::r,_=>have e:sat (c::r) 0=some (c.toNat:Int):=rfl;have:=h c x9;rw[e,o8,kR (N7 o5)]
theorem PV :xu (45::d)=some (d,true):=by unfold xu;rw[kz (bg (by unfold o9;simp))];have e:sat (45::d) 0=some (45:Int):=rfl;rw[e,o8,kz (Z9 rfl),KD o5 E5,o8];simp
theorem a4v(hk:k<=100)(hd:d.length<=100):
  dK (λ(x_3:List UInt8)=>l7 (O9 (o9 x_3) (k:Int)) (l9 (J3 [48] x_3) λ(x:List UInt8)=>some (Sum.inl x)) (some (Sum.inr x_3))) d=some (List.replicate (k+1 -d.length) 48++d):=by
 obtain⟨e,h1,h2⟩:=qg (f:=λ(x_3:List UInt8)=>l7 (O9 (o9 x_3) (k:Int)) (l9 (J3 [48] x_3) λ(x:List UInt8)=>some (Sum.inl x)) (some (Sum.inr x_3))) (s:=d)
  (λs=>s.length<=102/\List.replicate (k+1 -s.length) 48++s=List.replicate (k+1 -d.length) 48++d) (λe=>e=List.replicate (k+1 -d.length) 48++d) (λs=>k+1 -s.length) ⟨o5,rfl⟩ o5 (by
   intro s ⟨hs,he⟩;by_cases hle:s.length<=k
   .refine .inl ⟨48::s,?_,⟨by simp;omega,?_⟩,by simp;omega⟩
    .rw[kz (ah (by unfold o9;omega)),G5 E5];rfl
    .rw[←he];have e1:k+1 -s.length=(k+1 -(48::s).length)+1:=by simp;omega
     rw[e1,nI];simp
   .refine .inr ⟨s,?_,?_⟩
    .rw[kR (aU (by unfold o9;omega))]
    .rw[←he,show k+1 -s.length=0 by omega];simp)
 rw[h1,h2]
theorem xO(h:lL n)(hk:1<=k/\k<=9):jy n (k:Int)=some (OM n k):=by
 have hI:=h;unfold lL at h;have ek:vP (vO (k:Int) 0) 9=(k:Int):=by unfold vO vP;split<;>split<;>omega
 unfold jy EY;have hd:=xC (u:=n.natAbs) o5;rw[o8,ek,kR (N7 o5),uM hI,o8];have rest:∀(d:List UInt8) (b:Bool),1<=d.length->d.length<=20->
   (l9 (dK (λ(x_3:List UInt8)=>l7 (O9 (o9 x_3) (k:Int)) (l9 (J3 [48] x_3) λ(x:List UInt8)=>some (Sum.inl x)) (some (Sum.inr x_3))) (d,b).1) λ(y:List UInt8)=>
    l9 (gW y 0 (X9 .i64 (o9 y) (k:Int))) λ(x_3:List UInt8)=>l9 (J3 x_3 [46]) λ(x_4:List UInt8)=>l9 (gW y (X9 .i64 (o9 y) (k:Int)) (o9 y)) λ(x:List UInt8)=>
     l9 (J3 x_4 x) λ(x:List UInt8)=>l7 (d,b).2 (l9 (J3 [45] x) λ(x:List UInt8)=>some x) (some x))
   =some ((if b then[45]else[])++(let e:=List.replicate (k+1 -d.length) 48++d;e.take (e.length -k)++46::e.drop (e.length -k))):=by
  intro d b h1 h2;rw[a4v (d:=d) o5 o5,o8];generalize he:List.replicate (k+1 -d.length) 48++d=e;have hl:k<e.length/\e.length<=40:=by subst he;simp;omega
  obtain⟨c1,c2⟩:=a0F hl.1 o5;rw[c1,o8,G5 E5,o8,c2,o8,G5 E5,o8];cases b
  .simp
  .show l9 (J3 [45] _) _=_;rw[G5 E5,o8];simp
 unfold Lib.itoa OM Ku;by_cases hn:n<0
 .rw[if_pos hn,if_pos hn,PV,o8];exact rest (Lib.decDigits n.natAbs) true hd.1 hd.2
 .rw[if_neg hn,if_neg hn];have e:n.toNat=n.natAbs:=o5;rw[e,PU (λc hc=>Ou hc) hd.1,o8];exact rest (Lib.decDigits n.natAbs) false hd.1 hd.2
def XP(n:Int)(w:Nat):List UInt8:=List.replicate (w -(Lib.itoa n).length) 48++Lib.itoa n
variable {w:Nat}
theorem vZ(h:lL n)(hw:w<=4):(XP n w).length<=25:=by have:=Jc h;unfold XP;simp;omega
theorem EE(h:lL n)(hw:w<=4):zn n (w:Int)=some (XP n w):=by
 have hl:=Jc h;unfold zn;rw[kM h,o8];have e:vO 0 (X9 .i64 (w:Int) (o9 (Lib.itoa n)))=((w -(Lib.itoa n).length:Nat):Int):=by rw[fF (by unfold lL o9;omega)];unfold vO o9;split<;>omega
 rw[e,SV o5 x9,b2o,o8,G5 E5,o8];rfl
theorem Dy(h:lL n)(hw:w<=4):xw n (w:Int)=some (XP n w):=by
 have hl:=Jc h;unfold xw;rw[uM h,o8];show _=some (List.replicate (w -(Lib.itoa n).length) 48++Lib.itoa n);generalize Lib.itoa n=d at hl ⊢;obtain⟨e,h1,h2⟩:=qg (f:=λ(x:List UInt8)=>l7 (H6 (o9 x) (w:Int)) (l9 (J3 [48] x) λ(x:List UInt8)=>some (Sum.inl x)) (some (Sum.inr x))) (s:=d)
  (λs=>s.length<=30/\List.replicate (w -s.length) 48++s=List.replicate (w -d.length) 48++d) (λe=>e=List.replicate (w -d.length) 48++d) (λs=>w -s.length) ⟨o5,rfl⟩ o5 (by
   intro s ⟨hs,he⟩;by_cases hle:s.length<w
   .refine .inl ⟨48::s,?_,⟨by simp;omega,?_⟩,by simp;omega⟩
    .rw[kz (bg (by unfold o9;omega)),G5 E5];rfl
    .rw[←he];have e1:w -s.length=(w -(48::s).length)+1:=by simp;omega
     rw[e1,nI];simp
   .refine .inr ⟨s,?_,?_⟩
    .rw[kR (au (by unfold o9;omega))]
    .rw[←he,show w -s.length=0 by omega];simp)
 rw[h1,o8,h2]
def BM(d:Int):List UInt8:=if 0<=d/\d<=109572 then XP (ymd d).1 4++45::XP (ymd d).2.1 2++45::XP (ymd d).2.2 2 else[]
theorem a5x{a b c:List UInt8}(ha:a.length<=100)(hb:b.length<=100)(hc:c.length<=100){A C B:Option (List UInt8)}(eb:B=some b)(ec:C=some c):
  (l9 (J3 a [45]) λx2=>l9 B λx3=>l9 (J3 x2 x3) λx4=>l9 (J3 x4 [45]) λx5=>l9 C λx=>l9 (J3 x5 x) λx=>some x)=some (a++45::b++45::c):=by
 rw[G5 E5,o8,eb,o8,G5 E5,o8,G5 E5,o8,ec,o8,G5 E5,o8];simp
theorem rZ(h1:-1000000<=n)(h2:n<=1000000):lL n:=by unfold lL;omega
theorem zl(d:Int):Aj d=some (BM d):=by
 unfold Aj zo BM;by_cases h0:0<=d
 .rw[kz (ah h0),o8];by_cases h:d<=109572
  .rw[ah h,I7,o6,QL h0 h,o8,if_pos ⟨h0,h⟩];have hb:=YM h0 h;have p1:=rZ (n:=(ymd d).1) o5 o5;have p2:=rZ (n:=(ymd d).2.1) o5 o5;have p3:=rZ (n:=(ymd d).2.2) o5 o5;rw[show zn (ymd d).1 4=_ from EE (w:=4) p1 o5,o8];have l1:=vZ (w:=4) p1 o5;have l2:=vZ (w:=2) p2 o5;have l3:=vZ (w:=2) p3 o5;exact a5x (A:=none) o5 o5 o5 (EE (w:=2) p2 o5) (EE (w:=2) p3 o5)
  .rw[aU o5,Z7,o7,if_neg o5]
 .rw[kR (aU o5),o8,Z7,o7,if_neg o5]
theorem Nq(d:Int):yI d=some (BM d):=by
 unfold yI xP BM;by_cases h0:0<=d
 .rw[kz (ah h0),o8];by_cases h:d<=109572
  .rw[ah h,I7,o6,PW h0 h,o8,if_pos ⟨h0,h⟩];have hb:=YM h0 h;have p1:=rZ (n:=(ymd d).1) o5 o5;have p2:=rZ (n:=(ymd d).2.1) o5 o5;have p3:=rZ (n:=(ymd d).2.2) o5 o5;rw[show xw (ymd d).1 4=_ from Dy (w:=4) p1 o5,o8];have l1:=vZ (w:=4) p1 o5;have l2:=vZ (w:=2) p2 o5;have l3:=vZ (w:=2) p3 o5;exact a5x (A:=none) o5 o5 o5 (Dy (w:=2) p2 o5) (Dy (w:=2) p3 o5)
  .rw[aU o5,Z7,o7,if_neg o5]
 .rw[kR (aU o5),o8,Z7,o7,if_neg o5]
theorem TF(d:Int):(BM d).length<=100:=by
 unfold BM;split
 .rename_i h;have hb:=YM h.1 h.2;have l1:=vZ (w:=4) (rZ (n:=(ymd d).1) o5 o5) o5;have l2:=vZ (w:=2) (rZ (n:=(ymd d).2.1) o5 o5) o5;have l3:=vZ (w:=2) (rZ (n:=(ymd d).2.2) o5 o5) o5;simp;omega
 .simp
theorem qm(t:Int×Int)(en:List dL):aG t en=V8 t en:=by
 unfold aG V8;by_cases h1:t.1=1
 .simp[C9,h1,O9]
 by_cases h2:t.1=2
 .simp[C9,h2,O9]
 by_cases h3:t.1=3
 .simp[C9,h3,O9]
 by_cases h4:t.1=4
 .simp[C9,h4,O9]
 by_cases h5:t.1=5
 .simp[C9,h5,O9]
 by_cases h6:t.1=6
 .simp[C9,h6,O9]
 .simp only[C9,h1,h2,h3,h4,h5,h6,decide_false,o6,o8];by_cases h7:1<=t.1
  .rw[kz (ah h7),kR (aU o5)]
  .rw[kR (aU o5)]
theorem FV(t:Int×Int)(en:List dL):jE t en=dC t en:=by unfold jE dC;rw[qm]
theorem a0p(n:Int)(t:Int×Int)(en:List dL):oC n t en=wu n t en:=by unfold oC wu;rw[FV]
theorem yl{v:Ep}(en:List dL)(h:lL v.2.2):lY v en=sD v en:=by
 unfold lY sD xx;rw[o8,qm];cases hv:V8 (v.1,v.2.1) en with
 |none=>rfl|some b=>
  rw[o8,o8];cases b with
  |false=>rfl|true=>
   rw[I7,o6,o6];have e:AQ v en=oC v.2.2 (v.1,v.2.1) en:=by unfold AQ xx;rw[o8,hv,o8,o7,o8,ui,a0p]
   rw[e,kM h,uM h,show bf v.2.2 2=_ from gX (k:=2) h o5,show jy v.2.2 2=_ from xO (k:=2) h o5,
    show bf v.2.2 4=_ from gX (k:=4) h o5,show jy v.2.2 4=_ from xO (k:=4) h o5,zl,Nq]
theorem yu{B:Nat}(hB:100<=B)(hB2:B<=200000000000000){v:Int×Int×Int}{en:List dL}(h:lL v.2.2)(hm:∀e∈en,e.2.length<=B/\∀m∈e.2,m.length<=B):∃t,lY v en=some t/\t.1.length<=B:=by
 unfold lY
 cases hv:aG (v.1,v.2.1) en with
 |none=>
  exfalso;rw[qm]at hv;unfold V8 at hv;simp only[mJ]at hv
  repeat' split at hv
  all_goals cases hv
 |some b=>
  rw[o8];cases b with
  |false=>exact⟨_,rfl,x9⟩|true=>
   rw[I7,o6];unfold oC jE;rw[hv];simp only[o8,I7,o6];have f1:=Jc h;have f2:=Kv (k:=2) h o5;have f4:=Kv (k:=4) h o5;have f5:=TF v.2.2;rw[kM h,show bf v.2.2 2=_ from gX (k:=2) h o5,show bf v.2.2 4=_ from gX (k:=4) h o5,zl];simp only[o8];rw[G5 (a:=OM v.2.2 4) E5];simp only[o8];by_cases h1:v.1=1
   .simp only[Z9 h1,o7,o8];simp only[bb,o8];simp only[mJ];repeat' split
    all_goals exact⟨_,rfl,by first|omega|(simp<;>omega)⟩
   by_cases h2:v.1=2
   .simp only[N7 h1,Z9 h2,o7,o6,o8];simp only[bb,o8];simp only[mJ];repeat' split
    all_goals exact⟨_,rfl,by first|omega|(simp<;>omega)⟩
   by_cases h3:v.1=3
   .simp only[N7 h1,N7 h2,Z9 h3,o7,o6,o8];simp only[bb,o8];simp only[mJ];repeat' split
    all_goals exact⟨_,rfl,by first|omega|(simp<;>omega)⟩
   by_cases h4:v.1=4
   .simp only[N7 h1,N7 h2,N7 h3,Z9 h4,o7,o6,o8];simp only[bb,o8];simp only[mJ];repeat' split
    all_goals exact⟨_,rfl,by first|omega|(simp<;>omega)⟩
   by_cases h5:v.1=5
   .simp only[N7 h1,N7 h2,N7 h3,N7 h4,Z9 h5,o7,o6,o8];simp only[bb,o8];simp only[mJ];repeat' split
    all_goals exact⟨_,rfl,by first|omega|(simp<;>omega)⟩
   .simp only[N7 h1,N7 h2,N7 h3,N7 h4,N7 h5,o6];have hk:v.1=6/\0<=v.2.1/\v.2.1<o9 en:=by
     unfold aG at hv;simp only[N7 h1,N7 h2,N7 h3,N7 h4,N7 h5,o6,o8]at hv;simp only[mJ,nC,qc]at hv;split at hv
     .split at hv
      .simp only[D7,su]at hv;exact⟨by assumption,by assumption,hv⟩
      .cases hv
     .cases hv
    obtain⟨e,he,hmem⟩:=oZ hk.2.1 hk.2.2;rw[he];simp only[o8];have hle:=(hm e hmem).1;have hll:o9 e.2=(e.2.length:Int):=rfl;rw[fF b6j];by_cases hw0:0<=v.2.2
    .by_cases hw1:v.2.2<=o9 e.2 -1
     .rw[ah hw0,o7,ah hw1,o8,I7,o6];obtain⟨m,hm1,hm2⟩:=oZ (l:=e.2) hw0 o5;rw[hm1];exact⟨_,rfl,(hm e hmem).2 m hm2⟩
     .rw[ah hw0,o7,aU (qy.1 hw1),o8,Z7,o7];exact⟨_,rfl,x9⟩
    .rw[aU (qy.1 hw0),o6];exact⟨_,rfl,x9⟩
end Gt
namespace Go.GP
open Gt
theorem WV:xM=some true:=by decide+kernel
theorem QM(l:List jh):pg l=je l:=by unfold pg je;rfl
theorem Xf{α:Type}{l:List α}(h:l.length<=1000000):yR l=some l:=by unfold yR;rw[Gg E5,I5]
theorem Qu{l:dJ}(hc:rD l.1=some l.1)(k:Int):nO l k=jB l k:=by unfold nO jB;simp only[hc,QM];rfl
end Go.GP
namespace Go.GP
open Gt
set_option maxRecDepth 100000
def gtN(l:List (List UInt8))(i:Int):List UInt8:=(J9 l i).getD []
def qP(k:Int):List UInt8:=(uP k).getD []
def tC(k:Int):List UInt8:=(di k).getD []
def wP(k:Int):List UInt8×Int:=(dD k).getD ([],0)
def Em(k:Int):Bool:=l7 (C9 k 2) true (l7 (C9 k 3) true (C9 k 4))
variable {b:Bool}
theorem a6q{x y:Option (List UInt8)}(hx:∃s,x=some s/\s.length<=10)(hy:∃s,y=some s/\s.length<=10):∃s,l7 b x y=some s/\s.length<=10:=by cases b<;>assumption
theorem ZZ(k:Int):∃s,uP k=some s/\s.length<=10:=by
 unfold uP
 repeat (refine a6q ⟨_,rfl,V4⟩ ?_)
 exact⟨_,rfl,V4⟩
theorem a3N(k:Int):uP k=some (qP k):=by obtain⟨s,h,-⟩:=ZZ k;unfold qP;rw[h];rfl
theorem qU(k:Int):fE k=some (qP k):=(show fE k=uP k from rfl).trans (a3N k)
theorem LX(k:Int):di k=some (tC k):=by
 unfold tC;have:∃s,di k=some s:=by
  unfold di;simp only[mJ];repeat' split
  all_goals exact⟨_,rfl⟩
 obtain⟨s,h⟩:=this;rw[h];rfl
theorem a3C(k:Int):dD k=some (wP k):=by
 unfold wP;have:∃s,dD k=some s:=by
  unfold dD;simp only[mJ];repeat' split
  all_goals exact⟨_,rfl⟩
 obtain⟨s,h⟩:=this;rw[h];rfl
theorem a4W(k:Int):fD k=some (wP k):=(show fD k=dD k from rfl).trans (a3C k)
theorem qB(k:Int):(qP k).length<=10:=by obtain⟨s,h,h2⟩:=ZZ k;unfold qP;rw[h];exact h2
theorem xN(k:Int):(tC k).length<=10:=by
 unfold tC di;simp only[mJ];repeat' split
 all_goals simp
theorem UI(k:Int):(wP k).1.length<=10:=by
 unfold wP dD;simp only[mJ];repeat' split
 all_goals simp
structure NmOk (N:D9):Prop where
 e:∀e∈N.1,e.1.length<=1000/\∀m∈e.2,m.length<=1000
 t:∀s∈N.2.1,s.length<=1000
 i:∀s∈N.2.2.1,s.length<=1000
 d:∀s∈N.2.2.2.1,s.length<=1000
 m:∀s∈N.2.2.2.2,s.length<=1000
abbrev Tx:Type:=List UInt8×Int
def wiS(p:Tx)(c:Int):List UInt8:=l7 (H6 p.2 c) ([40]++p.1++[41]) p.1
def lI(n:Int×Int)(N:D9):Tx:=
 l7 (O9 n.1 5) (((sD (n.1,0,n.2) []).getD ([],0)).1,l7 (H6 n.2 0) 6 7)
 (l7 (C9 n.1 6) (((J9 N.1 (dZ .i64 n.2 16)).getD ([],[])).1++[58]++gtN ((J9 N.1 (dZ .i64 n.2 16)).getD ([],[])).2 (jG n.2 16),7)
 (l7 (C9 n.1 7) (gtN N.2.2.1 n.2,7)
 (l7 (C9 n.1 8) (gtN N.2.2.2.1 n.2,7)
 (l7 (C9 n.1 9) ([116,111,100,97,121],7)
 (l7 (C9 n.1 35) ([99,111,117,110,116,40,41],7) (qP n.1++[40]++gtN N.2.2.2.2 n.2++[41],7))))))
def BD(n:Int×Int)(N:D9)(num:Bool)(a:Tx):Tx:=
 l7 (C9 n.1 33) (qP n.1++[40]++gtN N.2.1 n.2++[44,32]++a.1++[41],7)
 (l7 (C9 n.1 34) (qP n.1++[40]++gtN N.2.1 (dZ .i64 n.2 8)++[44,32]++a.1++[44,32]++tC (jG n.2 8)++[41],7)
 (l7 (C9 n.1 25) ([110,111,116,32]++wiS a 6,6)
 (l7 (C9 n.1 10) ([45]++l7 num ([40]++a.1++[41]) (wiS a 6),6) (qP n.1++[40]++a.1++[41],7))))
def Xd(k:Int):Bool:=l7 (C9 k 17) true (l7 (C9 k 18) true (l7 (C9 k 27) true (l7 (C9 k 28) true (l7 (C9 k 29) true (C9 k 30)))))
def GG(k:Int):Bool:=l7 (C9 k 14) true (l7 (C9 k 15) true (C9 k 16))
def FI(n:Int×Int)(a b:Tx):Tx:=
 l7 (Xd n.1) (qP n.1++[40]++a.1++[44,32]++b.1++[41],7)
 (l7 (GG n.1) (qP n.1++[40]++a.1++[44,32]++b.1++[44,32]++tC n.2++[41],7)
 (wiS a (l7 (C9 (wP n.1).2 3) 4 (wP n.1).2)++[32]++(wP n.1).1++[32]++wiS b ((wP n.1).2+1),(wP n.1).2))
def ifX(a b c:Tx):Tx:=([105,102,32]++a.1++[32,116,104,101,110,32]++b.1++[32,101,108,115,101,32]++c.1,0)
def kQ(N:D9):XT->Tx
 | .l0 n=>lI n N| .l1 n a=>BD n N (Em a.node.1) (kQ N a)| .l2 n a b=>FI n (kQ N a) (kQ N b)| .l3 n a b c=>ifX (kQ N a) (kQ N b) (kQ N c)
def pcT(N:D9)(t:XT):G8:=((kQ N t).1,(kQ N t).2,Em t.node.1)
def Aa(n:Int×Int)(args:List G8)(N:D9)(p:Tx):Prop:=
 ∃c,U9 n N=some c/\U7 n args N=some (l7 (C9 c 0) ((p.1,p.2,Em n.1),0) (([],0,false),c))
variable {α:Type}
theorem lx0(a:α)(l:List α):J9 (a::l) 0=some a:=rfl
theorem lx1(a b:α)(l:List α):J9 (a::b::l) 1=some b:=rfl
theorem lx2(a b c:α)(l:List α):J9 (a::b::c::l) 2=some c:=rfl
theorem CO(p:G8)(c:Int)(h:p.1.length<=1000000000):dh p c=some (wiS (p.1,p.2.1) c):=by unfold dh wiS;rw[G5 E5,o8,G5 E5,o8];cases H6 p.2.1 c<;>rfl
theorem zZ(p:Tx)(c:Int):(wiS p c).length<=p.1.length+2:=by unfold wiS;cases H6 p.2 c<;>simp
theorem arN(k:Int):1<=k/\k<=39\/arF k=-1:=by
 by_cases h:1<=k/\k<=39
 .exact .inl h
 .refine .inr ?_;unfold arF;rw[Ui h];rfl
variable {k:Int}
theorem ar0(h:arF k=0):k=1\/k=2\/k=3\/k=4\/k=5\/k=6\/k=7\/k=8\/k=9\/k=35\/k=36\/k=37\/k=38\/k=39:=by
 rcases arN k with h1|h1
 .obtain⟨j,rfl⟩:=PI h1;revert h;revert j;decide
 .omega
theorem ar1(h:arF k=1):k=10\/k=25\/k=31\/k=32\/k=33\/k=34:=by
 rcases arN k with h1|h1
 .obtain⟨j,rfl⟩:=PI h1;revert h;revert j;decide
 .omega
theorem ar2(h:arF k=2):k=11\/k=12\/k=13\/k=14\/k=15\/k=16\/k=17\/k=18\/k=19\/k=20\/k=21\/k=22\/k=23\/k=24\/k=27\/k=28\/k=29\/k=30:=by
 rcases arN k with h1|h1
 .obtain⟨j,rfl⟩:=PI h1;revert h;revert j;decide
 .omega
theorem ar3(h:arF k=3):k=26:=a6o h
variable {N:D9}{n:Int×Int}
theorem ZO{args:List G8}{p:Tx}(c:Int)(h1:U9 n N=some c)(h2:U7 n args N=some (l7 (C9 c 0) ((p.1,p.2,Em n.1),0) (([],0,false),c))):Aa n args N p:=⟨c,h1,h2⟩
variable {m:Int}
theorem a4f(hk:k=1\/k=2\/k=3\/k=4\/k=5)(hm:lL m)(N:D9):∃c s,U9 (k,m) N=some c/\lY (k,0,m) []=some (s,c):=by
 have b1:∀lo hi:Int,dC (k,0) []=some (lo,hi)->V8 (k,0) []=some true->∃c s,U9 (k,m) N=some c/\lY (k,0,m) []=some (s,c):=by
  intro lo hi hb hv;have hf:U9 (k,m) N=some (l7 (H6 m lo) 3 (l7 (H6 hi m) 3 0)):=by
   unfold U9 bD;simp only[ah (show 1<=k by omega),ah (show k<=5 by omega),o7,o8,hb];cases H6 m lo
   .cases H6 hi m<;>rfl
   .rfl
  have hw:oC m (k,0) []=some (l7 (O9 lo m) (O9 m hi) false):=by unfold oC;rw[FV,hb,o8];cases O9 lo m<;>rfl
  rw[hf];obtain⟨t,ht,-⟩:=yu (B:=100) o5 o5 (v:=(k,0,m)) (en:=[]) hm (λe h=>by cases h);unfold lY at ht ⊢;simp only[qm,hv,hw,o8,I7,o6]at ht ⊢;by_cases h1:lo<=m
  .by_cases h2:m<=hi
   .rw[ah h1,ah h2,o7,I7,o6]at ht ⊢;rw[au h1,au h2,o6,o6];refine⟨0,t.1,rfl,?_⟩;rw[ht];have e:t.2=0:=by
     rcases hk with rfl|rfl|rfl|rfl|rfl
     .simp (disch:=decide) only[Z9,o7]at ht;revert ht;cases C9 m 1<;>cases C9 m 0<;>intro ht<;>cases ht<;>rfl
     .simp (disch:=decide) only[Z9,N7,o7,o6,kM hm,o8,D7]at ht;rw[←ht]
     .simp (disch:=decide) only[Z9,N7,o7,o6]at ht;rw[show bf m 2=_ from gX (k:=2) hm o5]at ht;simp only[o8,D7]at ht;rw[←ht]
     .simp (disch:=decide) only[Z9,N7,o7,o6]at ht;have f4:=Kv (k:=4) hm o5;rw[show bf m 4=_ from gX (k:=4) hm o5,o8,G5 E5]at ht;simp only[o8,D7]at ht;rw[←ht]
     .simp (disch:=decide) only[Z9,N7,o7,o6,zl,o8,D7]at ht;rw[←ht]
    rw[←e]
   .rw[ah h1,aU o5,o7,Z7,o7,au h1,bg o5,o6,o7];exact⟨3,[],rfl,rfl⟩
  .rw[aU o5,o6,Z7,o7,bg o5,o7];exact⟨3,[],rfl,rfl⟩
 rcases hk with rfl|rfl|rfl|rfl|rfl
 .exact b1 0 1 rfl rfl
 .exact b1 _ _ rfl rfl
 .exact b1 _ _ rfl rfl
 .exact b1 _ _ rfl rfl
 .exact b1 _ _ rfl rfl
theorem zQ(hk:k=1\/k=2\/k=3\/k=4\/k=5)(hm:lL m)(N:D9):Aa (k,m) [] N (lI (k,m) N):=by
 obtain⟨c,s,h1,h2⟩:=a4f hk hm N;refine ZO c h1 ?_;have e:lI (k,m) N=(s,l7 (H6 m 0) 6 7):=by unfold lI;rw[ah (show k<=5 by omega),o7,←yl [] hm,h2];rfl
 have hc:c=0\/c=3:=by
  unfold U9 bD at h1;have h:=h1;simp only[ah (show 1<=k by omega),ah (show k<=5 by omega),o7,o8]at h;cases hb:dC (k,0) []with
  |none=>rw[hb]at h;cases h|some b=>rw[hb,o8]at h;cases hx:H6 m b.1<;>cases hy:H6 b.2 m<;>simp only[hx,hy,o7,o6,D7]at h<;>omega
 have hr:lQ (k,m)=some (l7 (C9 c 0) ((s,l7 (l7 (Em k) (H6 m 0) false) 6 7,Em k),0) (([],0,false),c)):=by
  unfold lQ Em;simp only[h2,o8];rcases hc with rfl|rfl
  .simp only[Z9 (rfl:(0:Int)=0),I7,o6,o7,Y9,o8];cases H6 m 0<;>cases C9 k 2<;>cases C9 k 3<;>cases C9 k 4<;>rfl
  .rfl
 rw[e];unfold U7;rw[hr];have hneg:c=0->l7 (l7 (Em k) (H6 m 0) false) (6:Int) 7=l7 (H6 m 0) 6 7:=by
  intro h0;subst h0;cases hg:H6 m 0
  .cases Em k<;>rfl
  rcases hk with rfl|rfl|rfl|rfl|rfl
  .exfalso;unfold U9 bD at h1;simp only[show dC (1,0) []=some (0,1)from rfl,ah (show(1:Int)<=1 by omega),ah (show(1:Int)<=5 by omega),o7,o8,hg,D7]at h1;omega
  .rfl
  .rfl
  .rfl
  .exfalso;unfold U9 bD at h1;simp only[show dC (5,0) []=some (0,109572)from rfl,ah (show(1:Int)<=5 by omega),ah (show(5:Int)<=5 by omega),o7,o8,hg,D7]at h1;omega
 rcases hc with rfl|rfl
 .rw[hneg rfl];rcases hk with rfl|rfl|rfl|rfl|rfl<;>rfl
 .rcases hk with rfl|rfl|rfl|rfl|rfl<;>rfl
variable {l:List (List UInt8)}{i:Int}
theorem Ii(h0:0<=i)(h:i<o9 l):J9 l i=some (gtN l i)/\gtN l i∈l:=by obtain⟨x,h1,h2⟩:=oZ h0 h;unfold gtN;rw[h1];exact⟨rfl,h2⟩
theorem wW{B:Nat}(h:∀s∈l,s.length<=B)(i:Int):(gtN l i).length<=B:=by
 unfold gtN;cases hl:J9 l i with
 |none=>simp|some x=>exact h x (jd hl).2.2.1
theorem MM(k m:Int)(args:List G8)(N:D9)(hk:k=6\/k=7\/k=8\/k=36\/k=37\/k=38\/k=39):U7 (k,m) args N=cu (k,m) N:=by unfold U7;generalize hq:cu (k,m) N=q;rcases hk with rfl|rfl|rfl|rfl|rfl|rfl|rfl<;>simp (disch:=decide) only[Z9,N7,o7,o6,o8,hq]<;>cases q<;>rfl
theorem vH(hk:k=7\/k=8\/k=36\/k=37\/k=38\/k=39)(hN:NmOk N):Aa (k,m) [] N (lI (k,m) N):=by
 have key:∀(l:List (List UInt8)) (before after:List UInt8),(∀s∈l,s.length<=1000)->before.length<=100->after.length<=100->
   U9 (k,m) N=l7 (H6 m 0) (some 6) (l7 (O9 (o9 l) m) (some 6) (some 0))->
   cu (k,m) N=l7 (H6 m 0) (some (([],0,false),6))
    (l7 (O9 (o9 l) m) (some (([],0,false),6))
     (l9 (J9 l m) λ(x_1:List UInt8)=>
      l9 (J3 before x_1) λ(x_2:List UInt8)=>
       l9 (J3 x_2 after) λ(x:List UInt8)=>some ((x,7,false),0)))->
   lI (k,m) N=(before++gtN l m++after,7)->Aa (k,m) [] N (lI (k,m) N):=by
  intro l before after hl hb ha hf0 hr he;have hf:U9 (k,m) N=some (l7 (H6 m 0) 6 (l7 (O9 (o9 l) m) 6 0)):=by rw[hf0];cases H6 m 0<;>cases O9 (o9 l) m<;>rfl
  refine ZO _ hf ?_;have hnum:Em k=false:=by rcases hk with rfl|rfl|rfl|rfl|rfl|rfl<;>rfl
  rw[MM _ _ _ _ o5,hr,he,hnum];by_cases h0:m<0
  .rw[bg h0];rfl
  by_cases h1:o9 l<=m
  .simp only[au (show 0<=m by omega),ah h1];rfl
  .have:=Ii (l:=l) (i:=m) o5 o5;have h2:=hl _ this.2;simp only[au (show 0<=m by omega),aU (show m<o9 l by omega),o6,this.1,o8];rw[G5 o5,o8,G5 E5,o8];rfl
 have mem:∀k:Int,(k=36\/k=37\/k=38\/k=39)->cu (k,m) N=l7 (H6 m 0) (some (([],0,false),6))
    (l7 (O9 (o9 N.2.2.2.2) m) (some (([],0,false),6))
     (l9 (J9 N.2.2.2.2 m) λ(x_1:List UInt8)=>
      l9 (J3 (qP k++[40]) x_1) λ(x_2:List UInt8)=>
       l9 (J3 x_2 [41]) λ(x:List UInt8)=>some ((x,7,false),0))):=by
  intro k hk;have hw:=qB k;unfold cu Y9;simp only[N7 (show k≠6 by omega),N7 (show k≠7 by omega),N7 (show k≠8 by omega),o6,qU,o8,G5 (a:=qP k) (b:=[40]) E5,U1]
 have lf:∀k:Int,(k=36\/k=37\/k=38\/k=39)->lI (k,m) N=(qP k++[40]++gtN N.2.2.2.2 m++[41],7):=by intro k hk;unfold lI;simp only[aU (show 5<k by omega),N7 (show k≠6 by omega),N7 (show k≠7 by omega),N7 (show k≠8 by omega),N7 (show k≠9 by omega),N7 (show k≠35 by omega),o6]
 have wl:=λk=>qB k;rcases hk with rfl|rfl|rfl|rfl|rfl|rfl
 .refine key N.2.2.1 [] [] hN.i x9 x9 rfl ?_ ?_
  .unfold cu Y9;simp (disch:=decide) only[Z9,N7,o7,o6,o8,U1]
  .unfold lI;simp (disch:=decide) only[Z9,N7,aU,o7,o6];simp
 .refine key N.2.2.2.1 [] [] hN.d x9 x9 rfl ?_ ?_
  .unfold cu Y9;simp (disch:=decide) only[Z9,N7,o7,o6,o8,U1]
  .unfold lI;simp (disch:=decide) only[Z9,N7,aU,o7,o6];simp
 .exact key N.2.2.2.2 (qP 36++[40]) [41] hN.m V4 V4 rfl (mem _ o5) (lf _ o5)
 .exact key N.2.2.2.2 (qP 37++[40]) [41] hN.m V4 V4 rfl (mem _ o5) (lf _ o5)
 .exact key N.2.2.2.2 (qP 38++[40]) [41] hN.m V4 V4 rfl (mem _ o5) (lf _ o5)
 .exact key N.2.2.2.2 (qP 39++[40]) [41] hN.m V4 V4 rfl (mem _ o5) (lf _ o5)
theorem NE(h:lL m)(d:Int)(hd:d=8\/d=16):dZ .i64 m d=m.tdiv d:=by
 refine Jb ?_;unfold lL at h ⊢;rcases hd with rfl|rfl
 all_goals
  rcases Int.lt_or_le m 0 with h0|h0
  .have e:=Int.neg_tdiv (a:=-m) (b:=8);have e' :=Int.neg_tdiv (a:=-m) (b:=16);rw[Int.neg_neg]at e e';have q1:=lK (a:=-m) (b:=8) o5;have q2:=lK (a:=-m) (b:=16) o5;omega
  .have q1:=lK (a:=m) (b:=8) o5;have q2:=lK (a:=m) (b:=16) o5;omega
theorem VX(hm:lL m)(hN:NmOk N):Aa (6,m) [] N (lI (6,m) N):=by
 have hf:U9 (6,m) N=(l7 (H6 m 0) (some 6)
    (l7 (O9 (o9 N.1) (dZ .i64 m 16)) (some 6)
     (l9 (J9 N.1 (dZ .i64 m 16)) λ(x:dL)=>
      l7 (O9 (o9 x.2) (jG m 16)) (some 6) (some 0)))):=rfl
 have hr:cu (6,m) N=l9 (l7 (H6 m 0) (some (Sum.inr (([],0,false),6)))
   (l7 (O9 (o9 N.1) (dZ IntKind.i64 m 16)) (some (Sum.inr (([],0,false),6)))
    (l9 (J9 N.1 (dZ IntKind.i64 m 16)) λ(x:dL)=>
     l9 (J3 x.1 [58]) λ(x_1:List UInt8)=>some (Sum.inl (([],0,false),x.2,jG m 16,x_1,[]))))) λ(o:G8×List (List UInt8)×Int×List UInt8×List UInt8⊕G8×Int)=>
 Y0 o
  (λ(x:G8×List (List UInt8)×Int×List UInt8×List UInt8)=>
   l7 (H6 x.2.2.1 0) (some (([],0,false),6))
    (l7 (O9 (o9 x.2.1) x.2.2.1) (some (([],0,false),6))
     (l9 (J9 x.2.1 x.2.2.1) λ(x_1:List UInt8)=>
      l9 (J3 x.2.2.2.1 x_1) λ(x_2:List UInt8)=>
       l9 (J3 x_2 x.2.2.2.2) λ(x:List UInt8)=>
        l9 (Y9 x) λ(x:G8)=>some (x,0))))
  λ(r:G8×Int)=>some r:=rfl
 have hl:lI (6,m) N=(((J9 N.1 (dZ .i64 m 16)).getD ([],[])).1++[58]++gtN ((J9 N.1 (dZ .i64 m 16)).getD ([],[])).2 (jG m 16),7):=rfl;unfold Aa;rw[hf,MM _ _ _ _ o5,hr,hl];by_cases h0:m<0
 .rw[bg h0];exact⟨6,rfl,rfl⟩
 rw[au o5,o6,o6];by_cases h1:o9 N.1<=dZ .i64 m 16
 .rw[ah h1];exact⟨6,rfl,rfl⟩
 rw[aU o5,o6,o6];have hq:0<=dZ .i64 m 16:=by rw[NE hm 16 (.inr rfl),lK o5];omega
 obtain⟨e,he,hmem⟩:=oZ (l:=N.1) hq o5;have hb:=hN.e e hmem;have hr0:jG m 16=m % 16:=zy o5;simp only[he,o8,bV,G5 (a:=e.1) (b:=[58]) E5,U1];rw[au (show 0<=jG m 16 by omega),o6];by_cases h2:o9 e.2<=jG m 16
 .rw[ah h2];exact⟨6,rfl,rfl⟩
 rw[aU o5,o6,o6];have hg:=Ii (l:=e.2) (i:=jG m 16) o5 o5;have h3:=hb.2 _ hg.2;refine⟨0,rfl,?_⟩;rw[hg.1,o8,G5 E5,o8,G5 E5,o8];simp only[Y9,o8,F7];rfl
theorem a2g :Aa (9,0) [] N (lI (9,0) N):=⟨0,rfl,rfl⟩
theorem a0a :Aa (35,0) [] N (lI (35,0) N):=⟨0,rfl,rfl⟩
theorem ZK(hN:NmOk N)(hm:lL m)(ha:arF k=0)(hu:m=0\/aI k=some true):Aa (k,m) [] N (lI (k,m) N):=by
 have hz:(k=9\/k=35)->m=0:=by
  intro h;rcases hu with h1|h1
  .exact h1
  .exfalso;rcases h with rfl|rfl<;>exact absurd h1 V4
 rcases ar0 ha with rfl|rfl|rfl|rfl|rfl|rfl|rfl|rfl|rfl|rfl|rfl|rfl|rfl|rfl
 .exact zQ o5 hm N
 .exact zQ o5 hm N
 .exact zQ o5 hm N
 .exact zQ o5 hm N
 .exact zQ o5 hm N
 .exact VX hm hN
 .exact vH o5 hN
 .exact vH o5 hN
 .rw[hz o5];exact a2g
 .rw[hz o5];exact a0a
 .exact vH o5 hN
 .exact vH o5 hN
 .exact vH o5 hN
 .exact vH o5 hN
theorem Yd(hm:lL m)(hN:NmOk N)(a:G8)(h1:a.1.length<=1000000000):Aa (33,m) [a] N (BD (33,m) N b (a.1,a.2.1)):=by
 have hf:U9 (33,m) N=l7 (H6 m 0) (some 6) (l7 (O9 (o9 N.2.1) m) (some 6) (some 0)):=rfl;have hr:U7 (33,m) [a] N=dY (33,m) a N:=by unfold U7;generalize hq:dY (33,m) a N=q;simp (disch:=decide) only[Z9,N7,o7,o6,o8,lx0,hq];cases q<;>rfl
 have hx:BD (33,m) N b (a.1,a.2.1)=(qP 33++[40]++gtN N.2.1 m++[44,32]++a.1++[41],7):=rfl;unfold Aa;rw[hf,hr,hx];unfold dY Y9;simp (disch:=decide) only[Z9,N7,o7,o6,o8,qU];by_cases h0:m<0
 .rw[bg h0];exact⟨6,rfl,rfl⟩
 rw[au o5,o6,o6];by_cases h2:o9 N.2.1<=m
 .rw[ah h2];exact⟨6,rfl,rfl⟩
 rw[aU o5,o6,o6];have hg:=Ii (l:=N.2.1) (i:=m) o5 o5;have h3:=hN.t _ hg.2;have hw:=qB 33;refine⟨0,rfl,?_⟩;rw[o8,U1,G5 E5,o8,hg.1,o8,G5 E5,o8,G5 E5,o8,G5 E5,o8,G5 E5,o8];rfl
theorem VE(h:0<=m):seq (tC m) []=H6 5 m:=by
 by_cases h5:m<=5
 .rw[au h5];obtain⟨k,rfl⟩:∃k:Fin 6,m=(k.val:Int):=⟨⟨m.toNat,o5⟩,by simp;omega⟩;revert k;decide
 .rw[bg o5];unfold tC di;simp only[N7 (show m≠0 by omega),N7 (show m≠1 by omega),N7 (show m≠2 by omega),N7 (show m≠3 by omega),N7 (show m≠4 by omega),N7 (show m≠5 by omega),o6];rfl
theorem a1f(h:m<0):seq (tC m) []=true:=by unfold tC di;simp only[N7 (show m≠0 by omega),N7 (show m≠1 by omega),N7 (show m≠2 by omega),N7 (show m≠3 by omega),N7 (show m≠4 by omega),N7 (show m≠5 by omega),o6];rfl
theorem VW(hm:lL m)(hN:NmOk N)(a:G8)(h1:a.1.length<=1000000000):Aa (34,m) [a] N (BD (34,m) N b (a.1,a.2.1)):=by
 have hf:U9 (34,m) N=l7 (H6 m 0) (some 6) (l7 (O9 (o9 N.2.1) (dZ .i64 m 8)) (some 6) (l7 (H6 5 (jG m 8)) (some 3) (some 0))):=rfl;have hr:U7 (34,m) [a] N=dY (34,m) a N:=by unfold U7;generalize hq:dY (34,m) a N=q;simp (disch:=decide) only[Z9,N7,o7,o6,o8,lx0,hq];cases q<;>rfl
 have hx:BD (34,m) N b (a.1,a.2.1)=(qP 34++[40]++gtN N.2.1 (dZ .i64 m 8)++[44,32]++a.1++[44,32]++tC (jG m 8)++[41],7):=rfl;unfold Aa;rw[hf,hr,hx];unfold dY Y9;simp (disch:=decide) only[Z9,N7,o7,o6,o8,qU,LX];by_cases h0:m<0
 .rw[bg h0,au (show m<=0 by omega)];simp only[o7,o6,o8,bg h0,lJ];exact⟨6,rfl,rfl⟩
 have hq:dZ .i64 m 8=m / 8:=by rw[NE hm 8 (.inl rfl),lK o5]
 have hi:(l7 (H6 0 m) (some (dZ .i64 m 8)) (some m):Option Int)=some (dZ .i64 m 8):=by
  by_cases h:0<m
  .rw[bg h];rfl
  .rw[au o5,o6,show dZ .i64 m 8=m by omega]
 rw[hi,o8,au (show 0<=m by omega),o6,au (show 0<=dZ .i64 m 8 by omega),o6];by_cases h2:o9 N.2.1<=dZ .i64 m 8
 .rw[ah h2];exact⟨6,rfl,rfl⟩
 rw[aU o5,o6,o6];have hg:=Ii (l:=N.2.1) (i:=dZ .i64 m 8) o5 o5;have h3:=hN.t _ hg.2;have hw:=qB 34;have hm:=xN (jG m 8);have hr0:jG m 8=m % 8:=zy o5;rw[o8,U1,G5 E5,o8,hg.1,o8,G5 E5,o8,G5 E5,o8,G5 E5,o8,VE (show 0<=jG m 8 by omega)];cases H6 5 (jG m 8)
 .refine⟨0,rfl,?_⟩;rw[o6,G5 E5,o8,G5 E5,o8,G5 E5,o8];simp[l7];rfl
 .exact⟨3,rfl,rfl⟩
theorem ZL(hN:NmOk N)(hm:lL m)(ha:arF k=1)(hu:m=0\/aI k=some true)(a:G8)(h1:a.1.length<=1000000000):Aa (k,m) [a] N (BD (k,m) N a.2.2 (a.1,a.2.1)):=by
 have hz:(k=10\/k=25\/k=31\/k=32)->m=0:=by
  intro h;rcases hu with h1|h1
  .exact h1
  .exfalso;rcases h with rfl|rfl|rfl|rfl<;>exact absurd h1 V4
 have hw:=zZ (a.1,a.2.1) 6;simp only at hw;rcases ar1 ha with rfl|rfl|rfl|rfl|rfl|rfl
 .rw[hz o5];refine⟨0,rfl,?_⟩;unfold U7 BD;simp (disch:=decide) only[Z9,N7,o7,o6,o8,lx0,CO a 6 h1];cases h:a.2.2
  .simp only[o6,o7];rw[G5 E5,o8,o8,lJ];rfl
  .simp only[o7];rw[G5 E5,o8,G5 E5,o8,G5 E5,o8,o8,lJ];rfl
 .rw[hz o5];refine⟨0,rfl,?_⟩;unfold U7 BD;simp (disch:=decide) only[Z9,N7,o7,o6,o8,lx0,CO a 6 h1];rw[G5 E5,o8,o8,lJ];rfl
 .rw[hz o5];refine⟨0,rfl,?_⟩;have hl:=qB 31;unfold U7 BD Y9;simp (disch:=decide) only[Z9,N7,o7,o6,o8,lx0,qU];rw[G5 E5,o8,G5 E5,o8,G5 E5,o8,o8,lJ];rfl
 .rw[hz o5];refine⟨0,rfl,?_⟩;have hl:=qB 32;unfold U7 BD Y9;simp (disch:=decide) only[Z9,N7,o7,o6,o8,lx0,qU];rw[G5 E5,o8,G5 E5,o8,G5 E5,o8,o8,lJ];rfl
 .exact Yd hm hN a h1
 .exact VW hm hN a h1
theorem Yb(hk:k=17\/k=18\/k=27\/k=28\/k=29\/k=30)(a b:G8)(h1:a.1.length<=1000000000)(h2:b.1.length<=1000000000):Aa (k,0) [a,b] N (FI (k,0) (a.1,a.2.1) (b.1,b.2.1)):=by
 have hl:=qB k;rcases hk with rfl|rfl|rfl|rfl|rfl|rfl
 all_goals
  refine⟨0,rfl,?_⟩;unfold U7 FI Y9 Xd;simp (disch:=decide) only[Z9,N7,o7,o6,o8,lx0,lx1,qU];rw[G5 E5,o8,G5 E5,o8,G5 E5,o8,G5 E5,o8,G5 E5,o8,o8,lJ];rfl
theorem Yc(hk:k=14\/k=15\/k=16)(a b:G8)(h1:a.1.length<=1000000000)(h2:b.1.length<=1000000000):Aa (k,m) [a,b] N (FI (k,m) (a.1,a.2.1) (b.1,b.2.1)):=by
 have hl:=qB k;have hm:=xN m;have hf:U9 (k,m) N=some (l7 (seq (tC m) []) 3 0):=by
  have:U9 (k,m) N=l7 (H6 m 0) (some 3) (l7 (H6 5 m) (some 3) (some 0)):=by rcases hk with rfl|rfl|rfl<;>rfl
  rw[this];by_cases h0:m<0
  .rw[bg h0,a1f h0];rfl
  .rw[au o5,VE o5];cases H6 5 m<;>rfl
 refine ZO _ hf ?_;rcases hk with rfl|rfl|rfl
 all_goals
  unfold U7 FI Y9 Xd GG;simp (disch:=decide) only[Z9,N7,o7,o6,o8,lx0,lx1,qU,LX];cases seq (tC m) []
  .rw[o6,G5 E5,o8,G5 E5,o8,G5 E5,o8,G5 E5,o8,G5 E5,o8,G5 E5,o8,G5 E5,o8,o8,lJ];rfl
  .rfl
theorem Ya(hk:k=11\/k=12\/k=13\/k=19\/k=20\/k=21\/k=22\/k=23\/k=24)(a b:G8)(h1:a.1.length<=1000000)(h2:b.1.length<=1000000):Aa (k,0) [a,b] N (FI (k,0) (a.1,a.2.1) (b.1,b.2.1)):=by
 have hl:=UI k;have hc:1<=(wP k).2/\(wP k).2<=5:=by rcases hk with rfl|rfl|rfl|rfl|rfl|rfl|rfl|rfl|rfl<;>decide
 have w1:=zZ (a.1,a.2.1) 4;have w2:=zZ (a.1,a.2.1) (wP k).2;have w3:=zZ (b.1,b.2.1) ((wP k).2+1);simp only at w1 w2 w3;have hx:U7 (k,0) [a,b] N=l9 (fD k) λ(x:List UInt8×Int)=>
    l7 (C9 x.2 3)
     (l9 (dh a 4) λ(x_2:List UInt8)=>
       l9 (J3 x_2 [32]) λ(x_3:List UInt8)=>
        l9 (J3 x_3 x.1) λ(x_4:List UInt8)=>
         l9 (J3 x_4 [32]) λ(x_5:List UInt8)=>
           l9 (dh b (F6 IntKind.i64 x.2 1)) λ(x_7:List UInt8)=>
            l9 (J3 x_5 x_7) λ(x_8:List UInt8)=>some ((x_8,x.2,false),0))
     (l9 (dh a x.2) λ(x_2:List UInt8)=>
       l9 (J3 x_2 [32]) λ(x_3:List UInt8)=>
        l9 (J3 x_3 x.1) λ(x_4:List UInt8)=>
         l9 (J3 x_4 [32]) λ(x_5:List UInt8)=>
           l9 (dh b (F6 IntKind.i64 x.2 1)) λ(x_7:List UInt8)=>
            l9 (J3 x_5 x_7) λ(x_8:List UInt8)=>some ((x_8,x.2,false),0)):=by
  rcases hk with rfl|rfl|rfl|rfl|rfl|rfl|rfl|rfl|rfl<;>rfl
 have hf:U9 (k,0) N=some 0:=by rcases hk with rfl|rfl|rfl|rfl|rfl|rfl|rfl|rfl|rfl<;>rfl
 have hn:Em k=false:=by rcases hk with rfl|rfl|rfl|rfl|rfl|rfl|rfl|rfl|rfl<;>rfl
 have hb:Xd k=false/\GG k=false:=by rcases hk with rfl|rfl|rfl|rfl|rfl|rfl|rfl|rfl|rfl<;>exact⟨rfl,rfl⟩
 refine ZO _ hf ?_;rw[hx,a4W,o8];unfold FI;simp only[hb.1,hb.2,hn,o6,jJ (show lL ((wP k).2+1) by unfold lL;omega)];rw[CO a 4 o5,CO a _ o5,CO b _ o5];simp only[o8];cases C9 (wP k).2 3
 .simp only[o6];rw[G5 E5,o8,G5 E5,o8,G5 E5,o8,G5 E5,o8];rfl
 .simp only[o7];rw[G5 E5,o8,G5 E5,o8,G5 E5,o8,G5 E5,o8];rfl
theorem ZM(ha:arF k=2)(hu:m=0\/aI k=some true)(a b:G8)(h1:a.1.length<=1000000)(h2:b.1.length<=1000000):Aa (k,m) [a,b] N (FI (k,m) (a.1,a.2.1) (b.1,b.2.1)):=by
 have hz:¬(k=14\/k=15\/k=16)->m=0:=by
  intro h;rcases hu with h1|h1
  .exact h1
  .exfalso;rcases ar2 ha with rfl|rfl|rfl|rfl|rfl|rfl|rfl|rfl|rfl|rfl|rfl|rfl|rfl|rfl|rfl|rfl|rfl|rfl<;>first|omega|exact absurd h1 V4
 by_cases h:k=14\/k=15\/k=16
 .exact Yc h a b o5 o5
 rw[hz h];by_cases h' :k=17\/k=18\/k=27\/k=28\/k=29\/k=30
 .exact Yb h' a b o5 o5
 .exact Ya (by have:=ar2 ha;omega) a b h1 h2
theorem ZN(hu:m=0\/aI 26=some true)(a b c:G8)(h1:a.1.length<=1000000)(h2:b.1.length<=1000000)(h3:c.1.length<=1000000):Aa (26,m) [a,b,c] N (ifX (a.1,a.2.1) (b.1,b.2.1) (c.1,c.2.1)):=by
 have hz:m=0:=by
  rcases hu with h1|h1
  .exact h1
  .exact absurd h1 V4
 rw[hz];refine⟨0,rfl,?_⟩;unfold U7 ifX;simp (disch:=decide) only[Z9,N7,o7,o6,o8,lx0,lx1,lx2];rw[G5 E5,o8,G5 E5,o8,G5 E5,o8,G5 E5,o8,G5 E5,o8,o8,lJ];rfl
def flS(n:Int×Int)(N:D9):Int:=(U9 n N).getD 0
theorem TL{c:Int}(h:U9 n N=some c):flS n N=c:=by unfold flS;rw[h];rfl
theorem ZY(h:0<=arF k):aI k=some true\/aI k=some false:=by
 rcases arN k with h1|h1
 .obtain⟨j,rfl⟩:=PI h1;revert h;revert j;decide
 .omega
theorem a5z(ha:0<=arF k)(hm:m≠0)(hu:aI k=some false):U9 (k,m) N=some 2:=by
 have h3:arF k=0\/arF k=1\/arF k=2\/arF k=3:=by have:=(BK k).2.2;omega
 have key:U9 (k,m) N=l7 (G7 (C9 m 0)) (some 2) (some 0)->U9 (k,m) N=some 2:=by intro h;rw[h,N7 hm];rfl
 rcases h3 with h|h|h|h
 .rcases ar0 h with rfl|rfl|rfl|rfl|rfl|rfl|rfl|rfl|rfl|rfl|rfl|rfl|rfl|rfl<;>first|exact absurd hu V4|exact key rfl
 .rcases ar1 h with rfl|rfl|rfl|rfl|rfl|rfl<;>first|exact absurd hu V4|exact key rfl
 .rcases ar2 h with rfl|rfl|rfl|rfl|rfl|rfl|rfl|rfl|rfl|rfl|rfl|rfl|rfl|rfl|rfl|rfl|rfl|rfl<;>first|exact absurd hu V4|exact key rfl
 .have:=ar3 h;subst this;exact key rfl
def fmF(a0:List (Int×Int))(a1:D9)(x:List G8×Int):Option (Out (List G8×Int) (List G8) (List UInt8×Int)):=
     l7 (H6 x.2 (o9 a0))
      (l9 (J9 a0 x.2) λ(x_1:Int×Int)=>
       l7 (G7 (C9 x_1.2 0))
        (l9 (aI x_1.1) λ(x_2:Bool)=>
         l7 (G7 x_2) (some (Out.rt ([],2)))
          (l9 (jl x_1.1) λ(x_3:Int)=>
           l7 (jC (X9 IntKind.i64 (o9 x.1) x_3) (o9 x.1) (o9 x.1))
            (l9
             (U7 x_1 (iF x.1 (df (X9 IntKind.i64 (o9 x.1) x_3)) (df (o9 x.1))) a1)
             λ(x_4:G8×Int)=>
             l7 (G7 (C9 x_4.2 0)) (some (Out.rt ([],x_4.2)))
              (l7 (jC 0 (X9 IntKind.i64 (o9 x.1) x_3) (o9 x.1))
               (l9 (bH (iF x.1 (df 0) (df (X9 IntKind.i64 (o9 x.1) x_3))) [x_4.1])
                λ(x_5:List G8)=>some (Out.nx (x_5,F6 IntKind.i64 x.2 1)))
               none))
            none))
        (l9 (jl x_1.1) λ(x_2:Int)=>
         l7 (jC (X9 IntKind.i64 (o9 x.1) x_2) (o9 x.1) (o9 x.1))
          (l9 (U7 x_1 (iF x.1 (df (X9 IntKind.i64 (o9 x.1) x_2)) (df (o9 x.1))) a1)
           λ(x_3:G8×Int)=>
           l7 (G7 (C9 x_3.2 0)) (some (Out.rt ([],x_3.2)))
            (l7 (jC 0 (X9 IntKind.i64 (o9 x.1) x_2) (o9 x.1))
             (l9 (bH (iF x.1 (df 0) (df (X9 IntKind.i64 (o9 x.1) x_2))) [x_3.1])
              λ(x_4:List G8)=>some (Out.nx (x_4,F6 IntKind.i64 x.2 1)))
             none))
          none))
      (some (Out.ex x.1))
def fmG(N:D9)(n:Int×Int)(p:List G8)(x:Tx)(i:Nat):Option (Out (List G8×Int) (List G8) (List UInt8×Int)):=
 some (l7 (C9 (flS n N) 0) (.nx (p++[(x.1,x.2,Em n.1)],((i+1:Nat):Int))) (.rt ([],flS n N)))
variable {e:List (Int×Int)}{x:Tx}
theorem a3Z{i:Nat}{p args:List G8}(hn:e[i]? =some n)(hi:i<=1000)(hp:p.length<=1000)(hl:args.length<=3)(ha:arF n.1=(args.length:Int))
  (hr:(n.2=0\/aI n.1=some true)->Aa n args N x):fmF e N (p++args,(i:Int))=fmG N n p x i:=by
 have hx:X9 .i64 (o9 (p++args)) (arF n.1)=(p.length:Int):=by rw[fF (by unfold lL o9;simp;omega),ha];unfold o9;simp
 have r1:jC (p.length:Int) (o9 (p++args)) (o9 (p++args))=true:=by unfold jC o9;simp<;>omega
 have r2:jC 0 (p.length:Int) (o9 (p++args))=true:=by unfold jC o9;simp<;>omega
 have v1:iF (p++args) (df (p.length:Int)) (df (o9 (p++args)))=args:=by unfold iF df o9;rw[U5,U5,O5 (D8 _),List.drop_left]
 have v2:iF (p++args) (df 0) (df (p.length:Int))=p:=by unfold iF df;rw[U5,List.take_left];rfl
 have main:(n.2=0\/aI n.1=some true)->(l9 (jl n.1) λ(x_2:Int)=>
         l7 (jC (X9 IntKind.i64 (o9 (p++args)) x_2) (o9 (p++args)) (o9 (p++args)))
          (l9 (U7 n (iF (p++args) (df (X9 IntKind.i64 (o9 (p++args)) x_2)) (df (o9 (p++args)))) N)
           λ(x_3:G8×Int)=>
           l7 (G7 (C9 x_3.2 0)) (some (Out.rt ([],x_3.2)))
            (l7 (jC 0 (X9 IntKind.i64 (o9 (p++args)) x_2) (o9 (p++args)))
             (l9 (bH (iF (p++args) (df 0) (df (X9 IntKind.i64 (o9 (p++args)) x_2))) [x_3.1])
              λ(x_4:List G8)=>some (Out.nx (x_4,F6 IntKind.i64 (i:Int) 1)))
             none))
          none)=fmG N n p x i:=by
  intro hu;obtain⟨c,h1,h2⟩:=hr hu;rw[a0z,o8,hx,r1,o7,v1,h2,o8,r2,v2];unfold fmG;rw[TL h1];cases hc:C9 c 0
  .rw[o6];simp only[hc,Z7,o7];rfl
  .rw[o7];simp only[Z9 (rfl:(0:Int)=0),I7,o6,o7];rw[kw _ o5,o8,dn o5]
 unfold fmF;simp only[O0 hn,o7,J7,hn,o8];by_cases h0:n.2=0
 .rw[Z9 h0,I7,o6];exact main (.inl h0)
 .rw[N7 h0,Z7,o7];rcases ZY (k:=n.1) o5 with hu|hu
  .rw[hu,o8,I7,o6];exact main (.inr hu)
  .rw[hu,o8,Z7,o7];unfold fmG;rw[TL (a5z (k:=n.1) (m:=n.2) o5 h0 hu)];rfl
def ffS(N:D9):List (Int×Int)->Int
 |[]=>0|n::l=>l7 (C9 (flS n N) 0) (ffS N l) (flS n N)
theorem Ic(N:D9):∀a b,ffS N (a++b)=l7 (C9 (ffS N a) 0) (ffS N b) (ffS N a)
 |[],b=>by rw[show ffS N []=0 from rfl,Z9 rfl];rfl|n::a,b=>by
  show l7 (C9 (flS n N) 0) (ffS N (a++b)) (flS n N)=l7 (C9 (l7 (C9 (flS n N) 0) (ffS N a) (flS n N)) 0) (ffS N b) (l7 (C9 (flS n N) 0) (ffS N a) (flS n N));rw[Ic N a b];cases h:C9 (flS n N) 0
  .simp only[o6,h]
  .simp only[o7]
theorem a0Y(hN:NmOk N)(hI:lL n.2):(lI n N).1.length<=3000:=by
 unfold lI;have hw:=qB n.1;have g1:=wW hN.i n.2;have g2:=wW hN.d n.2;have g3:=wW hN.m n.2;have hv:((sD (n.1,0,n.2) []).getD ([],0)).1.length<=100:=by obtain⟨t,ht,hl⟩:=yu (B:=100) o5 o5 (v:=(n.1,0,n.2)) (en:=[]) hI (λe h=>by cases h);rw[←yl [] hI,ht];exact hl
 have he:((J9 N.1 (dZ .i64 n.2 16)).getD ([],[])).1.length<=1000/\(gtN ((J9 N.1 (dZ .i64 n.2 16)).getD ([],[])).2 (jG n.2 16)).length<=1000:=by
  cases hx:J9 N.1 (dZ .i64 n.2 16)with
  |none=>exact⟨x9,wW (B:=1000) (λs h=>by cases h) _⟩|some e=>have:=hN.e e (jd hx).2.2.1;exact⟨this.1,wW this.2 _⟩
 cases O9 n.1 5
 case true=>simp only[o7];omega
 cases C9 n.1 6
 case true=>simp only[o7,o6];simp;omega
 cases C9 n.1 7
 case true=>simp only[o7,o6];omega
 cases C9 n.1 8
 case true=>simp only[o7,o6];omega
 cases C9 n.1 9
 case true=>simp[l7]
 cases C9 n.1 35
 case true=>simp[l7]
 .simp only[o6];simp;omega
theorem a4o(hN:NmOk N)(b:Bool)(a:Tx):(BD n N b a).1.length<=a.1.length+3000:=by
 unfold BD;have hw:=qB n.1;have hm:=xN (jG n.2 8);have g1:=wW hN.t n.2;have g2:=wW hN.t (dZ .i64 n.2 8);have w:=zZ a 6;cases C9 n.1 33
 case true=>simp only[o7];simp;omega
 cases C9 n.1 34
 case true=>simp only[o7,o6];simp;omega
 cases C9 n.1 25
 case true=>simp only[o7,o6];simp;omega
 cases C9 n.1 10
 case true=>simp only[o7,o6];cases b<;>simp<;>omega
 .simp only[o6];simp;omega
theorem a5h(a b:Tx):(FI n a b).1.length<=a.1.length+b.1.length+3000:=by
 unfold FI;have hw:=qB n.1;have hm:=xN n.2;have hs:=UI n.1;have w1:=zZ a (l7 (C9 (wP n.1).2 3) 4 (wP n.1).2);have w2:=zZ b ((wP n.1).2+1);cases Xd n.1
 case true=>simp only[o7];simp;omega
 cases GG n.1
 case true=>simp only[o7,o6];simp;omega
 .simp only[o6];simp;omega
theorem wJ{N:D9}(hN:NmOk N):∀(t:XT),(∀n∈t.post,lL n.2)->(kQ N t).1.length<=3000*t.size
 | .l0 n,h=>a0Y hN (h n (by simp[XT.post]))| .l1 n a,h=>by have h1:=wJ hN a (λm hm=>h m (by simp[XT.post,hm]));have h2:=a4o (n:=n) hN (Em a.node.1) (kQ N a);simp only[kQ,XT.size];omega| .l2 n a b,h=>by have h1:=wJ hN a (λm hm=>h m (by simp[XT.post,hm]));have h2:=wJ hN b (λm hm=>h m (by simp[XT.post,hm]));have h3:=a5h (n:=n) (kQ N a) (kQ N b);simp only[kQ,XT.size];omega| .l3 n a b c,h=>by have h1:=wJ hN a (λm hm=>h m (by simp[XT.post,hm]));have h2:=wJ hN b (λm hm=>h m (by simp[XT.post,hm]));have h3:=wJ hN c (λm hm=>h m (by simp[XT.post,hm]));simp only[kQ,XT.size,ifX];simp;omega
theorem Dt{σ ε ρ:Type}(f:σ->Option (Out σ ε ρ))(n:Nat)(s:σ):jr f (n+1) s=match f s with|some (.nx s')=>jr f n s'|some (.ex e)=>some (.inl e)|some (.rt r)=>some (.inr r)|none=>none:=by rw[jr]<;>rfl
theorem a4a(he:e.length<=48)(hN:NmOk N)(hI:∀n∈e,lL n.2):∀(t:XT) (pre suf:List (Int×Int)) (p:List G8) (m:Nat),e=pre++t.post++suf->t.wf->p.length+t.size<=60->
  jr (fmF e N) (m+t.size) (p,(pre.length:Int))=l7 (C9 (ffS N t.post) 0) (jr (fmF e N) m (p++[pcT N t],((pre.length+t.size:Nat):Int))) (some (.inr ([],ffS N t.post))):=by
 have stepN:∀(n:Int×Int) (pre suf:List (Int×Int)) (p args:List G8) (x:Tx) (m:Nat),e=pre++[n]++suf->p.length<=60->args.length<=3->arF n.1=(args.length:Int)->((n.2=0\/aI n.1=some true)->Aa n args N x)->
   jr (fmF e N) (m+1) (p++args,(pre.length:Int))=l7 (C9 (flS n N) 0) (jr (fmF e N) m (p++[(x.1,x.2,Em n.1)],((pre.length+1:Nat):Int))) (some (.inr ([],flS n N))):=by
  intro n pre suf p args x m h1 h2 h3 h4 h5;have hn:e[pre.length]? =some n:=by rw[h1,E8,H9 (D8 _),fH];rfl
  have hlt:=(ax.1 hn).1;rw[Dt,a3Z hn o5 o5 h3 h4 h5];unfold fmG;cases C9 (flS n N) 0<;>rfl
 intro t;induction t with
 |l0 n=>
  intro pre suf p m h hw hs;have hI1:=hI n (by rw[h];simp[XT.post]);have:=stepN n pre suf p [] (lI n N) m h o5 x9 hw (λhu=>ZK hN hI1 hw hu);rw[F7]at this;rw[show(XT.l0 n).size=1 from rfl,this];unfold XT.post ffS ffS;cases hf:C9 (flS n N) 0
  .simp only[o6,hf]
  .simp only[o7,Z9 (rfl:(0:Int)=0)];rfl
 |l1 n a iha=>
  intro pre suf p m h hw hs;simp only[XT.post,XT.size]at h hs ⊢;have hI1:=hI n (by rw[h];simp);have hIa:∀n∈a.post,lL n.2:=λq hq=>hI q (by rw[h];simp[hq]);have hl:=wJ hN a hIa;rw[show m+(a.size+1)=(m+1)+a.size by omega,iha pre ([n]++suf) p (m+1) (by rw[h];simp) hw.2 o5,Ic];cases hf:C9 (ffS N a.post) 0
  .simp only[o6,hf]
  have:=stepN n (pre++a.post) suf p [pcT N a] (BD n N (Em a.node.1) (kQ N a)) m (by rw[h];simp) o5 x9 hw.1 (λhu=>ZL hN hI1 hw.1 hu (pcT N a) (by simp only[pcT];omega));rw[show(pre++a.post).length=pre.length+a.size by simp[XT.post_len]]at this;simp only[o7];rw[this];unfold ffS ffS;cases hg:C9 (flS n N) 0
  .simp only[o6,hg]
  .simp only[o7,Z9 (rfl:(0:Int)=0)];rfl
 |l2 n a b iha ihb=>
  intro pre suf p m h hw hs;simp only[XT.post,XT.size]at h hs ⊢;have hI1:=hI n (by rw[h];simp);have hIa:∀n∈a.post,lL n.2:=λq hq=>hI q (by rw[h];simp[hq]);have hIb:∀n∈b.post,lL n.2:=λq hq=>hI q (by rw[h];simp[hq]);have hla:=wJ hN a hIa;have hlb:=wJ hN b hIb;have s1:=a.size_pos;have s2:=b.size_pos;rw[show m+(a.size+b.size+1)=(m+1+b.size)+a.size by omega,iha pre (b.post++[n]++suf) p (m+1+b.size) (by rw[h];simp) hw.2.1 o5,Ic,Ic];cases hf:C9 (ffS N a.post) 0
  .simp only[o6,hf]
  have i2:=ihb (pre++a.post) ([n]++suf) (p++[pcT N a]) (m+1) (by rw[h];simp) hw.2.2 E5;rw[show(pre++a.post).length=pre.length+a.size by simp[XT.post_len]]at i2;simp only[o7];rw[i2];cases hf2:C9 (ffS N b.post) 0
  .simp only[o6,hf2]
  have:=stepN n (pre++a.post++b.post) suf p [pcT N a,pcT N b] (FI n (kQ N a) (kQ N b)) m (by rw[h];simp) o5 x9 hw.1 (λhu=>ZM hw.1 hu (pcT N a) (pcT N b) (by simp only[pcT];omega) (by simp only[pcT];omega));rw[show(pre++a.post++b.post).length=pre.length+a.size+b.size by simp[XT.post_len];omega,show pre.length+a.size+b.size+1=pre.length+(a.size+b.size+1) by omega]at this;simp only[o7];rw[show p++[pcT N a]++[pcT N b]=p++[pcT N a,pcT N b] by simp,this];unfold ffS ffS;cases hg:C9 (flS n N) 0
  .simp only[o6,hg]
  .simp only[o7,Z9 (rfl:(0:Int)=0)];rfl
 |l3 n a b c iha ihb ihc=>
  intro pre suf p m h hw hs;simp only[XT.post,XT.size]at h hs ⊢;have hI1:=hI n (by rw[h];simp);have hIa:∀n∈a.post,lL n.2:=λq hq=>hI q (by rw[h];simp[hq]);have hIb:∀n∈b.post,lL n.2:=λq hq=>hI q (by rw[h];simp[hq]);have hIc:∀n∈c.post,lL n.2:=λq hq=>hI q (by rw[h];simp[hq]);have hla:=wJ hN a hIa;have hlb:=wJ hN b hIb;have hlc:=wJ hN c hIc;have s1:=a.size_pos;have s2:=b.size_pos;have s3:=c.size_pos;have h26:=ar3 hw.1;rw[show m+(a.size+b.size+c.size+1)=(m+1+c.size+b.size)+a.size by omega,iha pre (b.post++c.post++[n]++suf) p (m+1+c.size+b.size) (by rw[h];simp) hw.2.1 o5,Ic,Ic,Ic];cases hf:C9 (ffS N a.post) 0
  .simp only[o6,hf]
  have i2:=ihb (pre++a.post) (c.post++[n]++suf) (p++[pcT N a]) (m+1+c.size) (by rw[h];simp) hw.2.2.1 E5;rw[show(pre++a.post).length=pre.length+a.size by simp[XT.post_len]]at i2;simp only[o7];rw[i2];cases hf2:C9 (ffS N b.post) 0
  .simp only[o6,hf2]
  have i3:=ihc (pre++a.post++b.post) ([n]++suf) (p++[pcT N a]++[pcT N b]) (m+1) (by rw[h];simp) hw.2.2.2 E5;rw[show(pre++a.post++b.post).length=pre.length+a.size+b.size by simp[XT.post_len];omega]at i3;simp only[o7];rw[i3];cases hf3:C9 (ffS N c.post) 0
  .simp only[o6,hf3]
  have:=stepN n (pre++a.post++b.post++c.post) suf p [pcT N a,pcT N b,pcT N c] (ifX (kQ N a) (kQ N b) (kQ N c)) m (by rw[h];simp) o5 x9 hw.1 (λhu=>by obtain⟨k,v⟩:=n;simp only at h26 hu;subst h26;exact ZN hu (pcT N a) (pcT N b) (pcT N c) (by simp only[pcT];omega) (by simp only[pcT];omega) (by simp only[pcT];omega))
  rw[show(pre++a.post++b.post++c.post).length=pre.length+a.size+b.size+c.size by simp[XT.post_len];omega,show pre.length+a.size+b.size+c.size+1=pre.length+(a.size+b.size+c.size+1) by omega]at this;simp only[o7];rw[show p++[pcT N a]++[pcT N b]++[pcT N c]=p++[pcT N a,pcT N b,pcT N c] by simp,this];unfold ffS ffS;cases hg:C9 (flS n N) 0
  .simp only[o6,hg]
  .simp only[o7,Z9 (rfl:(0:Int)=0)];rfl
def QN(e:List (Int×Int))(N:D9):List UInt8×Int:=match jI e with
 | .inl x=>([],x.2)| .inr t=>l7 (C9 (ffS N e) 0) ((kQ N t).1,0) ([],ffS N e)
theorem a6u(hN:NmOk N)(hI:∀n∈e,lL n.2):lm e N=some (QN e N):=by
 unfold lm Au QN;rw[JK];unfold qN;cases h:jI e with
 |inl x=>simp only[o8,N7 (Bd h)];rfl|inr t=>
  obtain⟨h1,h2,h3,h4⟩:=UY h;obtain⟨hp,-⟩:=rV h;simp only[o8,Z9 (rfl:(0:Int)=0),I7,o6];have hl:U0 (fmF e N) ([],0)=some (l7 (C9 (ffS N e) 0) (.inl [pcT N t]) (.inr ([],ffS N e))):=by
   unfold U0;rw[show fQ=(fQ -t.size)+t.size by unfold fQ;omega];have:=a4a h2 hN hI t [] [] [] (fQ -t.size) (by simp[←hp]) (Lh h) E5;rw[show(([]:List (Int×Int)).length:Int)=0 from rfl]at this;rw[this,←hp];cases C9 (ffS N e) 0
   .rfl
   .simp only[o7];rw[show fQ -t.size=(fQ -t.size -1)+1 by unfold fQ;omega];rw[Dt];unfold fmF;simp only[dA,bI];rw[←h3,show H6 ((e.length:Nat):Int) (o9 e)=false from N9 e];rfl
  refine O6 hl ?_;rw[o8];cases C9 (ffS N e) 0<;>rfl
abbrev a3P:Type:=List (Int×Int)×D9
theorem Hg(n:Nat)(p:a3P)(i:Int):(A7 (n+1)).1 p i=X7 (A7 n).1 (A7 n).2.1 (A7 n).2.2 p i:=rfl
theorem b2l(n:Nat)(p:a3P)(x:Int×Int)(l:List Int):(A7 (n+1)).2.2 p x l=lu (A7 n).1 (A7 n).2.1 (A7 n).2.2 p x l:=rfl
theorem b2m(n:Nat)(p:a3P)(i c:Int):(A7 (n+1)).2.1 p i c=nK (A7 n).1 (A7 n).2.1 (A7 n).2.2 p i c:=rfl
theorem ql{n:Nat}{p:a3P}(c:Int)(h:(A7 n).1 p i=some (x.1,x.2,p))(hl:x.1.length<=1000000):(A7 (n+1)).2.1 p i c=some (wiS x c,p):=by rw[b2m];unfold nK wiS;rw[h,o8,G5 E5,o8,G5 E5,o8];cases H6 x.2 c<;>rfl
theorem a5g(k:Int):0<=(wP k).2:=by
 unfold wP dD;simp only[mJ];repeat' split
 all_goals simp
theorem a0X(n:Int×Int)(N:D9):0<=(lI n N).2:=by
 unfold lI;simp only[mJ];repeat' split
 all_goals simp
theorem a4n(n:Int×Int)(N:D9)(b:Bool)(a:Tx):0<=(BD n N b a).2:=by
 unfold BD;simp only[mJ];repeat' split
 all_goals simp
theorem Lm(N:D9)(t:XT):0<=(kQ N t).2:=by
 cases t with
 |l0 n=>exact a0X n N|l1 n a=>exact a4n _ _ _ _|l2 n a b=>have:=a5g n.1;unfold kQ FI;cases Xd n.1<;>cases GG n.1<;>simp[l7]<;>exact this|l3 n a b c=>simp[kQ,ifX]
theorem wi0(h:0<=x.2):wiS x 0=x.1:=by unfold wiS;rw[au h];rfl
theorem We(h:0<=m/\m<=5):qj m=some (tC m):=by obtain⟨k,rfl⟩:∃k:Fin 6,m=(k.val:Int):=⟨⟨m.toNat,o5⟩,by simp;omega⟩;revert k;decide
def Sj(b:List UInt8×Nat)(a:List UInt8):List UInt8×Nat:=(l7 (H6 0 (b.2:Int)) (b.1++[44,32]++a) (b.1++a),b.2+1)
def EL(l:List (List UInt8)):List UInt8:=(l.foldl Sj ([],0)).1
theorem a4e(hl:l.length<=10)(hb:∀s∈l,s.length<=1000000){f:List UInt8×Int->Option ((List UInt8×Int)⊕List UInt8)}
  (hf:∀(t:List UInt8) (i:Nat) (a:List UInt8),l[i]? =some a->f (t,(i:Int))=l7 (H6 0 (i:Int)) (l9 (J3 t [44,32]) λx=>l9 (J3 x a) λx=>some (.inl (x,((i+1:Nat):Int)))) (l9 (J3 t a) λx=>some (.inl (x,((i+1:Nat):Int)))))
  (he:∀t,f (t,(l.length:Int))=some (.inr t)):dK f ([],0)=some (EL l):=by
 have:=(xg l Sj (λb i=>(b.1,i)) (λb=>b.1) (λi b=>b.2=i/\b.1.length<=i*1000010) (f:=f) (b:=([],0)) o5 ⟨rfl,x9⟩ (λi a b hx hi hI=>?_) (λb hI=>he b.1)).1
 .exact this
 .have ha:=hb a (oV hx);have hlt:=(ax.1 hx).1;obtain⟨h1,h2⟩:=hI;rw[hf b.1 i a hx];unfold Sj;rw[h1];cases H6 0 (i:Int)
  .rw[o6,o6,G5 o5,o8];exact⟨rfl,rfl,by simp;omega⟩
  .rw[o7,o7,G5 E5,o8,G5 E5,o8];exact⟨rfl,rfl,by simp;omega⟩
def MZ(n:Int×Int)(N:D9)(l:List (List UInt8)):List (List UInt8):=
 let a:=l7 (C9 n.1 34) [gtN N.2.1 (dZ .i64 n.2 8)] [];let b:=l7 (C9 n.1 33) (a++[gtN N.2.1 n.2]) (l7 (O9 36 n.1) (a++[gtN N.2.2.2.2 n.2]) a);let c:=b++l;let d:=l7 (GG n.1) (c++[tC n.2]) c
 l7 (C9 n.1 34) (d++[tC (jG n.2 8)]) d
structure Ref11 (n:Int×Int) (N:D9):Prop where
 b:n.1=34->J9 N.2.1 (dZ .i64 n.2 8)=some (gtN N.2.1 (dZ .i64 n.2 8))/\0<=jG n.2 8/\jG n.2 8<=5
 t:n.1=33->J9 N.2.1 n.2=some (gtN N.2.1 n.2)
 m:36<=n.1->J9 N.2.2.2.2 n.2=some (gtN N.2.2.2.2 n.2)
 r:GG n.1=true->0<=n.2/\n.2<=5
theorem l_{k:Nat}{ops:List Int}{ts:List (List UInt8)}(hr:Ref11 n N)(hN:NmOk N)(hlen:ops.length=ts.length)(h3:ts.length<=3)(hts:∀s∈ts,s.length<=1000000)
  (hc:∀(i:Nat) (o:Int) (s:List UInt8),ops[i]? =some o->ts[i]? =some s->(A7 k).2.1 (e,N) o 0=some (s,(e,N))):(A7 (k+1)).2.2 (e,N) n ops=some (EL (MZ n N ts),(e,N)):=by
 rw[b2l];unfold lu MZ;have s1:(l7 (C9 n.1 34) (l9 (J9 N.2.1 (dZ IntKind.i64 n.2 8)) λ(x:List UInt8)=>l9 (bH [] [x]) λ(x:List (List UInt8))=>some x) (some []))=some (l7 (C9 n.1 34) [gtN N.2.1 (dZ .i64 n.2 8)] []):=by
  cases h:C9 n.1 34
  .rfl
  .rw[(hr.b (nC.1 h)).1];rfl
 refine O6 s1 ?_;rw[o8];generalize hA:l7 (C9 n.1 34) [gtN N.2.1 (dZ .i64 n.2 8)] []=A;have lA:A.length<=1:=by rw[←hA];cases C9 n.1 34<;>simp
 have mA:∀s∈A,s.length<=1000:=by
  rw[←hA];cases C9 n.1 34
  .intro s hs;cases hs
  .intro s hs;simp at hs;rw[hs];exact wW hN.t _
 have s2:(l7 (C9 n.1 33)
    (l9 (mi n N) λ(x_1:List (List UInt8))=>
     l9 (J9 x_1 n.2) λ(x_2:List UInt8)=>l9 (bH A [x_2]) λ(x:List (List UInt8))=>some x)
    (l7 (O9 36 n.1)
     (l9 (mi n N) λ(x_1:List (List UInt8))=>
      l9 (J9 x_1 n.2) λ(x_2:List UInt8)=>l9 (bH A [x_2]) λ(x:List (List UInt8))=>some x)
     (some A)))=some (l7 (C9 n.1 33) (A++[gtN N.2.1 n.2]) (l7 (O9 36 n.1) (A++[gtN N.2.2.2.2 n.2]) A)):=by
  unfold mi;by_cases h:n.1=33
  .rw[Z9 h,o7,o7];simp only[N7 (show n.1≠7 by omega),N7 (show n.1≠8 by omega),Z9 h,o7,o6,o8,hr.t h];rw[kw _ o5];rfl
  .rw[N7 h,o6,o6];by_cases h2:36<=n.1
   .rw[ah h2,o7,o7];simp only[N7 (show n.1≠7 by omega),N7 (show n.1≠8 by omega),N7 h,o6,o8,hr.m h2];rw[kw _ o5];rfl
   .rw[aU o5];rfl
 refine O6 s2 ?_;rw[o8];generalize hB:l7 (C9 n.1 33) (A++[gtN N.2.1 n.2]) (l7 (O9 36 n.1) (A++[gtN N.2.2.2.2 n.2]) A)=B;have lB:B.length<=2:=by rw[←hB];cases C9 n.1 33<;>cases O9 36 n.1<;>simp[l7]<;>omega
 have mB:∀s∈B,s.length<=1000:=by
  rw[←hB];intro s hs;cases h:C9 n.1 33
  .rw[h]at hs;cases h2:O9 36 n.1
   .rw[h2]at hs;exact mA s hs
   .rw[h2]at hs;simp[l7]at hs;rcases hs with hs|hs
    .exact mA s hs
    .rw[hs];exact wW hN.m _
  .rw[h]at hs;simp[l7]at hs;rcases hs with hs|hs
   .exact mA s hs
   .rw[hs];exact wW hN.t _
 have s3:dK (λ(x:G6×List (List UInt8)×Int)=>
     l7 (H6 x.2.2 (o9 ops))
      (l9 (J9 ops x.2.2) λ(x_1:Int)=>
       l9 ((A7 k).2.1 x.1 x_1 0) λ(x_2:List UInt8×G6)=>
        l9 (bH x.2.1 [x_2.1]) λ(x_3:List (List UInt8))=>
         some (Sum.inl (x_2.2,x_3,F6 IntKind.i64 x.2.2 1)))
      (some (Sum.inr (x.1,x.2.1))))
    ((e,N),B,0)=some ((e,N),B++ts):=by
  have:=(xg ts (λ(b:List (List UInt8)) a=>b++[a]) (λb i=>((((e,N):G6),b,i):G6×List (List UInt8)×Int)) (λb=>(((e,N):G6),b)) (λi b=>b.length<=2+i) (b:=B) (f:=λ(x:G6×List (List UInt8)×Int)=>
     l7 (H6 x.2.2 (o9 ops))
      (l9 (J9 ops x.2.2) λ(x_1:Int)=>
       l9 ((A7 k).2.1 x.1 x_1 0) λ(x_2:List UInt8×G6)=>
        l9 (bH x.2.1 [x_2.1]) λ(x_3:List (List UInt8))=>
         some (Sum.inl (x_2.2,x_3,F6 IntKind.i64 x.2.2 1)))
      (some (Sum.inr (x.1,x.2.1)))) o5 o5 (λi a b hx hi hI=>?_) (λb hI=>?_)).1
  .rw[this];congr 2;have:∀(l B:List (List UInt8)),l.foldl (λ(b:List (List UInt8)) a=>b++[a]) B=B++l:=by
    intro l;induction l with
    |nil=>intro B;simp|cons a l ih=>intro B;rw[X8,ih];simp
   rw[this]
  .have hlt:=(ax.1 hx).1;have ho:ops[i]? =some ops[i]:=lS o5;simp only[O0 ho,o7,J7,ho,o8,hc i _ _ ho hx];rw[kw _ o5,o8,dn o5];exact⟨rfl,by simp;omega⟩
  .simp only;rw[show H6 ((ts.length:Nat):Int) (o9 ops)=false by rw[←hlen];exact N9 ops];rfl
 refine O6 s3 ?_;rw[o8];have s4:∀(y:G6×List (List UInt8)),y.2.length<=10->(l7 (C9 n.1 14)
     (l9 (qj n.2) λ(x:List UInt8)=>l9 (bH y.2 [x]) λ(x:List (List UInt8))=>some x)
     (l7 (C9 n.1 15)
      (l9 (qj n.2) λ(x:List UInt8)=>l9 (bH y.2 [x]) λ(x:List (List UInt8))=>some x)
      (l7 (C9 n.1 16)
       (l9 (qj n.2) λ(x:List UInt8)=>
        l9 (bH y.2 [x]) λ(x:List (List UInt8))=>some x)
       (some y.2))))=some (l7 (GG n.1) (y.2++[tC n.2]) y.2):=by
  intro y hy;cases h:GG n.1
  .unfold GG at h;cases h1:C9 n.1 14<;>cases h2:C9 n.1 15<;>cases h3:C9 n.1 16<;>simp only[h1,h2,h3,o7,o6]at h<;>first|exact absurd h V4|rfl
  .rw[We (hr.r h)];simp only[o8];rw[kw _ o5,o8];unfold GG at h;cases h1:C9 n.1 14<;>cases h2:C9 n.1 15<;>cases h3:C9 n.1 16<;>simp only[h1,h2,h3,o7,o6]at h<;>first|exact absurd h V4|rfl
 refine O6 (s4 ((e,N),B++ts) E5) ?_;rw[o8];simp only;generalize hD:l7 (GG n.1) (B++ts++[tC n.2]) (B++ts)=D;have lD:D.length<=6:=by rw[←hD];cases GG n.1<;>simp[l7]<;>omega
 have mD:∀s∈D,s.length<=1000000:=by
  rw[←hD];intro s hs;have hm:=xN n.2;cases h:GG n.1
  .rw[h]at hs;simp[l7]at hs;rcases hs with hs|hs
   .have:=mB s hs;omega
   .exact hts s hs
  .rw[h]at hs;simp[l7]at hs;rcases hs with hs|hs|hs
   .have:=mB s hs;omega
   .exact hts s hs
   .rw[hs];omega
 have jn:∀(l:List (List UInt8)),l.length<=10->(∀s∈l,s.length<=1000000)->dK (λ(x_2:List UInt8×Int)=>
          l7 (H6 x_2.2 (o9 l))
           (l7 (H6 0 x_2.2)
            (l9 (J3 x_2.1 [44,32]) λ(x_3:List UInt8)=>
             l9 (J9 l x_2.2) λ(x_4:List UInt8)=>
              l9 (dW l (df x_2.2)) λ(x:List UInt8)=>
               l9 (J3 x_3 x) λ(x:List UInt8)=>some (Sum.inl (x,F6 IntKind.i64 x_2.2 1)))
            (l9 (J9 l x_2.2) λ(x_3:List UInt8)=>
             l9 (dW l (df x_2.2)) λ(x:List UInt8)=>
              l9 (J3 x_2.1 x) λ(x:List UInt8)=>some (Sum.inl (x,F6 IntKind.i64 x_2.2 1))))
           (some (Sum.inr x_2.1)))
         ([],0)=some (EL l):=by
  intro l hl hb;refine a4e hl hb (λt i a hx=>?_) (λt=>?_)
  .have hlt:=(ax.1 hx).1;simp only[O0 hx,o7,J7,dW,df,U5,hx,o8];rw[dn o5]
  .simp only[N9 l,o6]
 cases h34:C9 n.1 34
 .simp only[o6];refine O6 (jn D o5 mD) ?_;rw[o8,hB,hD]
 .simp only[o7];rw[We (hr.b (nC.1 h34)).2,o8,kw _ o5,o8];have hm:=xN (jG n.2 8);refine O6 (jn (D++[tC (jG n.2 8)]) E5 (λs hs=>?_)) ?_
  .simp at hs;rcases hs with hs|hs
   .exact mD s hs
   .rw[hs];omega
  .rw[o8,hB,hD]
theorem Ny(hf:U9 n N=l7 (H6 n.2 0) (some 6) (l7 (O9 (o9 l) n.2) (some 6) (some 0)))(h:flS n N=0):J9 l n.2=some (gtN l n.2):=by
 unfold flS at h;rw[hf]at h;by_cases h0:n.2<0
 .rw[bg h0]at h;cases h
 by_cases h1:o9 l<=n.2
 .rw[au o5,ah h1]at h;cases h
 exact(Ii o5 o5).1
theorem a3Y(hm:lL m)(h:flS (34,m) N=0):J9 N.2.1 (dZ .i64 m 8)=some (gtN N.2.1 (dZ .i64 m 8))/\0<=jG m 8/\jG m 8<=5:=by
 have hf:U9 (34,m) N=l7 (H6 m 0) (some 6) (l7 (O9 (o9 N.2.1) (dZ .i64 m 8)) (some 6) (l7 (H6 5 (jG m 8)) (some 3) (some 0))):=rfl;unfold flS at h;rw[hf]at h;by_cases h0:m<0
 .rw[bg h0]at h;cases h
 by_cases h1:o9 N.2.1<=dZ .i64 m 8
 .rw[au o5,ah h1]at h;cases h
 by_cases h2:5<jG m 8
 .rw[au o5,aU o5,bg h2]at h;cases h
 have hq:dZ .i64 m 8=m / 8:=by rw[NE hm 8 (.inl rfl),lK o5]
 have hr0:jG m 8=m % 8:=zy o5;exact⟨(Ii o5 o5).1,o5,o5⟩
theorem a6s(hk:k=14\/k=15\/k=16)(h:flS (k,m) N=0):0<=m/\m<=5:=by
 have hf:U9 (k,m) N=l7 (H6 m 0) (some 3) (l7 (H6 5 m) (some 3) (some 0)):=by rcases hk with rfl|rfl|rfl<;>rfl
 unfold flS at h;rw[hf]at h;by_cases h0:m<0
 .rw[bg h0]at h;cases h
 by_cases h2:5<m
 .rw[au o5,bg h2]at h;cases h
 omega
theorem a2b(hm:lL n.2)(h:flS n N=0)(ha:0<=arF n.1):Ref11 n N:=by
 obtain⟨k,m⟩:=n;refine⟨λh1=>?_,λh1=>?_,λh1=>?_,λh1=>?_⟩
 .simp only at h1;subst h1;exact a3Y hm h
 .simp only at h1;subst h1;exact Ny rfl h
 .rcases arN k with h2|h2
  .have:k=36\/k=37\/k=38\/k=39:=by simp only at h1;omega
   rcases this with rfl|rfl|rfl|rfl<;>exact Ny rfl h
  .simp only at ha;omega
 .refine a6s (k:=k) ?_ h;unfold GG at h1;by_cases g1:k=14
  .exact .inl g1
  by_cases g2:k=15
  .exact .inr (.inl g2)
  rw[N7 g1,N7 g2,o6,o6]at h1;exact .inr (.inr (nC.1 h1))
theorem vk{j:Nat}{ops:List Int}{ts:List (List UInt8)}(hx:J9 e i=some (k,m))(ho:rE e i=some ops)(hm:lL m)(hfl:flS (k,m) N=0)(ha:0<=arF k)(hN:NmOk N)
  (hk:bD (k,m)=some ((0,0,0),false)/\dD k=some ([],0)/\k≠6/\k≠7/\k≠8/\k≠9/\k≠10/\k≠25/\k≠26)
  (hlen:ops.length=ts.length) (h3:ts.length<=3) (hts:∀s∈ts,s.length<=1000000) (hj:(EL (MZ (k,m) N ts)).length<=100000000)
  (hc:∀(a:Nat) (o:Int) (s:List UInt8),ops[a]? =some o->ts[a]? =some s->(A7 j).2.1 (e,N) o 0=some (s,(e,N))):
  (A7 (j+2)).1 (e,N) i=some (qP k++[40]++EL (MZ (k,m) N ts)++[41],7,(e,N)):=by
 obtain⟨h1,h2,g6,g7,g8,g9,g10,g25,g26⟩:=hk;have hw:=qB k;rw[Hg];unfold X7;simp only[hx,ho,h1,h2,o8,o6,show seq ([]:List UInt8) []=true from rfl,I7,N7 g6,N7 g7,N7 g8,N7 g9,N7 g10,N7 g25,N7 g26,a3N];rw[G5 E5,o8,l_ (a2b hm hfl ha) hN hlen h3 hts hc,o8,G5 E5,o8,G5 E5,o8]
theorem Si(a:List UInt8):EL [a]=a:=by simp[EL,Sj,H6,l7]
theorem Zn(a b:List UInt8):EL [a,b]=a++[44,32]++b:=by simp[EL,Sj,H6,l7]
theorem Zo(a b c:List UInt8):EL [a,b,c]=a++[44,32]++b++[44,32]++c:=by simp[EL,Sj,H6,l7]
end Go.GP
namespace Go.GP
open Gt
set_option maxRecDepth 100000
variable {α:Type}
theorem lg0(a:α)(l:List α):dW (a::l) (df 0)=some a:=rfl
theorem lg1(a b:α)(l:List α):dW (a::b::l) (df 1)=some b:=rfl
theorem lg2(a b c:α)(l:List α):dW (a::b::c::l) (df 2)=some c:=rfl
theorem hc0{P:Nat->Int->List UInt8->Prop} :∀(a:Nat) (o:Int) (s:List UInt8),([]:List Int)[a]? =some o->([]:List (List UInt8))[a]? =some s->P a o s:=by intro a o s h;cases a<;>cases h
theorem hc1{x:Int}{y:List UInt8}{P:Int->List UInt8->Prop}(h0:P x y):∀(a:Nat) (o:Int) (s:List UInt8),[x][a]? =some o->[y][a]? =some s->P o s:=by
 intro a o s h1 h2;match a with
 |0=>cases h1;cases h2;exact h0|a+1=>simp at h1
theorem hc2{x x' :Int}{y y' :List UInt8}{P:Int->List UInt8->Prop}(h0:P x y)(h1:P x' y'):∀(a:Nat) (o:Int) (s:List UInt8),[x,x'][a]? =some o->[y,y'][a]? =some s->P o s:=by
 intro a o s g1 g2;match a with
 |0=>cases g1;cases g2;exact h0|1=>cases g1;cases g2;exact h1|a+2=>simp at g1
section
variable {e:List (Int×Int)} {N:D9} {T:XT} (hN:NmOk N) (hT:jI e= .inr T) (hI:∀n∈e,lL n.2) (hz:∀n∈e,flS n N=0)
include hN hT hI hz
theorem a1X(n:Int×Int)(o k:Nat)(h:At e (T.sts 0) (.l0 n) o)(hw:(XT.l0 n).wf):(A7 (k+2)).1 (e,N) (rtI (.l0 n) o:Int)=some ((lI n N).1,(lI n N).2,(e,N)):=by
 have hr:=rY h;have ho:=yG hT h hw;have hx:J9 e ((rtI (.l0 n) o:Nat):Int)=some n:=by rw[J7];exact hr.1
 have hmem:=oV hr.1;have hi:=hI n hmem;have hf:=hz n hmem;rw[show R_ (.l0 n) o=[]from rfl]at ho;generalize ((rtI (.l0 n) o:Nat):Int)=i at hx ho;obtain⟨op,m⟩:=n;have ha:arF op=0:=hw;have lit:∀k:Nat,(op=1\/op=2\/op=3\/op=4\/op=5)->(A7 (k+2)).1 (e,N) i=some ((lI (op,m) N).1,(lI (op,m) N).2,(e,N)):=by intro k hk;obtain⟨t,ht,-⟩:=yu (B:=100) o5 o5 (v:=(op,0,m)) (en:=[]) hi (λe h=>by cases h);rw[yl [] hi]at ht;rw[Hg];unfold X7 bD lI;simp only[hx,ho,o8,ah (show(1:Int)<=op by omega),ah (show op<=(5:Int) by omega),o7,ht,bV];cases H6 m 0<;>rfl
 have lst:∀k:Nat,(op=36\/op=37\/op=38\/op=39)->(A7 (k+2)).1 (e,N) i=some ((lI (op,m) N).1,(lI (op,m) N).2,(e,N)):=by
  intro k hk;have e1:MZ (op,m) N []=[gtN N.2.2.2.2 m]:=by rcases hk with rfl|rfl|rfl|rfl<;>rfl
  have e2:lI (op,m) N=(qP op++[40]++gtN N.2.2.2.2 m++[41],7):=by rcases hk with rfl|rfl|rfl|rfl<;>rfl
  have:=vk (j:=k) hx ho hi hf o5 hN (ops:=[]) (ts:=[]) (by rcases hk with rfl|rfl|rfl|rfl<;>exact⟨rfl,rfl,o5,o5,o5,o5,o5,o5,o5⟩) rfl x9 x9 (by rw[e1,Si];have:=wW hN.m m;omega) hc0
  rw[this,e1,Si,e2]
 rcases ar0 ha with rfl|rfl|rfl|rfl|rfl|rfl|rfl|rfl|rfl|rfl|rfl|rfl|rfl|rfl
 .exact lit k o5
 .exact lit k o5
 .exact lit k o5
 .exact lit k o5
 .exact lit k o5
 ·
  have hff:U9 (6,m) N=(l7 (H6 m 0) (some 6)
    (l7 (O9 (o9 N.1) (dZ .i64 m 16)) (some 6)
     (l9 (J9 N.1 (dZ .i64 m 16)) λ(x:dL)=>
      l7 (O9 (o9 x.2) (jG m 16)) (some 6) (some 0)))):=rfl
  unfold flS at hf;rw[hff]at hf;by_cases h0:m<0
  .rw[bg h0]at hf;cases hf
  by_cases h1:o9 N.1<=dZ .i64 m 16
  .rw[au o5,ah h1]at hf;cases hf
  have hq:0<=dZ .i64 m 16:=by rw[NE hi 16 (.inr rfl),lK o5];omega
  have hr0:jG m 16=m % 16:=zy o5;obtain⟨en,he,hmem⟩:=oZ (l:=N.1) hq o5;have hb:=hN.e en hmem;rw[au o5,aU o5,o6,o6,he,o8]at hf;by_cases h2:o9 en.2<=jG m 16
  .rw[ah h2]at hf;cases hf
  have hg:=Ii (l:=en.2) (i:=jG m 16) o5 o5;have h3:=hb.2 _ hg.2;rw[Hg];unfold X7 lI;simp (disch:=decide) only[hx,ho,o8,show bD (6,m)=some ((0,0,0),false)from rfl,show dD 6=some ([],0)from rfl,o6,show seq ([]:List UInt8) []=true from rfl,I7,Z9,aU,o7,he,hg.1,bV];rw[G5 E5,o8,G5 E5,o8]
 .rw[Hg];unfold X7 lI mi;simp (disch:=decide) only[hx,ho,o8,show bD (7,m)=some ((0,0,0),false)from rfl,show dD 7=some ([],0)from rfl,o6,show seq ([]:List UInt8) []=true from rfl,I7,Z9,N7,aU,o7,Ny (n:=(7,m)) (l:=N.2.2.1) rfl hf]
 .rw[Hg];unfold X7 lI mi;simp (disch:=decide) only[hx,ho,o8,show bD (8,m)=some ((0,0,0),false)from rfl,show dD 8=some ([],0)from rfl,o6,show seq ([]:List UInt8) []=true from rfl,I7,Z9,N7,aU,o7,Ny (n:=(8,m)) (l:=N.2.2.2.1) rfl hf]
 .rw[Hg];unfold X7 lI;simp (disch:=decide) only[hx,ho,o8,show bD (9,m)=some ((0,0,0),false)from rfl,show dD 9=some ([],0)from rfl,o6,show seq ([]:List UInt8) []=true from rfl,I7,Z9,N7,aU,o7]
 .have:=vk (j:=k) hx ho hi hf o5 hN (ops:=[]) (ts:=[]) ⟨rfl,rfl,o5,o5,o5,o5,o5,o5,o5⟩ rfl x9 x9 (by rw[show MZ (35,m) N []=[]from rfl];decide) hc0;rw[this];rfl
 .exact lst k o5
 .exact lst k o5
 .exact lst k o5
 .exact lst k o5
theorem a4C(n:Int×Int)(a:XT)(o k:Nat)(h:At e (T.sts 0) (.l1 n a) o)(hw:(XT.l1 n a).wf)(hla:(kQ N a).1.length<=1000000)
  (ia:∀q,k<=q->(A7 q).1 (e,N) (rtI a o:Int)=some ((kQ N a).1,(kQ N a).2,(e,N))):(A7 (k+3)).1 (e,N) (rtI (.l1 n a) o:Int)=some ((BD n N (Em a.node.1) (kQ N a)).1,(BD n N (Em a.node.1) (kQ N a)).2,(e,N)):=by
 have hr:=rY h;have hra:=rY (YW h);have ho:=yG hT h hw;have hx:J9 e ((rtI (.l1 n a) o:Nat):Int)=some n:=by rw[J7];exact hr.1
 have hxa:J9 e ((rtI a o:Nat):Int)=some a.node:=by rw[J7];exact hra.1
 have hmem:=oV hr.1;have hi:=hI n hmem;have hf:=hz n hmem;rw[show R_ (.l1 n a) o=[((rtI a o:Nat):Int)]from rfl]at ho;generalize ((rtI (.l1 n a) o:Nat):Int)=i at hx ho;obtain⟨op,m⟩:=n;have ha:arF op=1:=hw.1;have w0:(A7 (k+1)).2.1 (e,N) ((rtI a o:Nat):Int) 0=some ((kQ N a).1,(e,N)):=by rw[ql 0 (ia k o5) hla,wi0 (Lm N a)]
 have w6:(A7 (k+2)).2.1 (e,N) ((rtI a o:Nat):Int) 6=some (wiS (kQ N a) 6,(e,N)):=ql 6 (ia (k+1) o5) hla;have n6:=ia (k+2) o5;generalize ((rtI a o:Nat):Int)=j at hxa ho w0 w6 n6;have hwl:=zZ (kQ N a) 6;have hml:=xN (jG m 8);have gl1:=wW hN.t m;have gl2:=wW hN.t (dZ .i64 m 8);rcases ar1 ha with rfl|rfl|rfl|rfl|rfl|rfl
 .rw[Hg];unfold X7 BD Em;simp (disch:=decide) only[hx,ho,o8,show bD (10,m)=some ((0,0,0),false)from rfl,show dD 10=some ([],0)from rfl,o6,show seq ([]:List UInt8) []=true from rfl,I7,Z9,N7,o7,lx0,lg0,hxa,n6,w6];rw[G5 E5,o8,G5 E5,o8,G5 E5,o8];cases C9 a.node.1 2
  .cases C9 a.node.1 3
   .cases C9 a.node.1 4<;>simp[l7]
   .simp[l7]
  .simp[l7]
 .rw[Hg];unfold X7 BD;simp (disch:=decide) only[hx,ho,o8,show bD (25,m)=some ((0,0,0),false)from rfl,show dD 25=some ([],0)from rfl,o6,show seq ([]:List UInt8) []=true from rfl,I7,Z9,N7,o7,lx0,lg0,w6];rw[G5 E5,o8]
 .have e1:MZ (31,m) N [(kQ N a).1]=[(kQ N a).1]:=rfl;rw[vk (j:=k+1) hx ho hi hf o5 hN (ts:=[(kQ N a).1]) ⟨rfl,rfl,o5,o5,o5,o5,o5,o5,o5⟩ rfl x9 (by simpa using hla) (by rw[e1,Si];omega) (hc1 w0),e1,Si];rfl
 .have e1:MZ (32,m) N [(kQ N a).1]=[(kQ N a).1]:=rfl;rw[vk (j:=k+1) hx ho hi hf o5 hN (ts:=[(kQ N a).1]) ⟨rfl,rfl,o5,o5,o5,o5,o5,o5,o5⟩ rfl x9 (by simpa using hla) (by rw[e1,Si];omega) (hc1 w0),e1,Si];rfl
 .have e1:MZ (33,m) N [(kQ N a).1]=[gtN N.2.1 m,(kQ N a).1]:=rfl;rw[vk (j:=k+1) hx ho hi hf o5 hN (ts:=[(kQ N a).1]) ⟨rfl,rfl,o5,o5,o5,o5,o5,o5,o5⟩ rfl x9 (by simpa using hla) (by rw[e1,Zn];simp;omega) (hc1 w0),e1,Zn];simp[BD,C9,l7]
 .have e1:MZ (34,m) N [(kQ N a).1]=[gtN N.2.1 (dZ .i64 m 8),(kQ N a).1,tC (jG m 8)]:=rfl;rw[vk (j:=k+1) hx ho hi hf o5 hN (ts:=[(kQ N a).1]) ⟨rfl,rfl,o5,o5,o5,o5,o5,o5,o5⟩ rfl x9 (by simpa using hla) (by rw[e1,Zo];simp;omega) (hc1 w0),e1,Zo];simp[BD,C9,l7]
theorem a4D(n:Int×Int)(a b:XT)(o k:Nat)(h:At e (T.sts 0) (.l2 n a b) o)(hw:(XT.l2 n a b).wf)(hla:(kQ N a).1.length<=1000000)(hlb:(kQ N b).1.length<=1000000)
  (ia:∀q,k<=q->(A7 q).1 (e,N) (rtI a o:Int)=some ((kQ N a).1,(kQ N a).2,(e,N))) (ib:∀q,k<=q->(A7 q).1 (e,N) (rtI b (o+a.size):Int)=some ((kQ N b).1,(kQ N b).2,(e,N))):
  (A7 (k+3)).1 (e,N) (rtI (.l2 n a b) o:Int)=some ((FI n (kQ N a) (kQ N b)).1,(FI n (kQ N a) (kQ N b)).2,(e,N)):=by
 have hr:=rY h;have ho:=yG hT h hw;have hx:J9 e ((rtI (.l2 n a b) o:Nat):Int)=some n:=by rw[J7];exact hr.1
 have hmem:=oV hr.1;have hi:=hI n hmem;have hf:=hz n hmem;rw[show R_ (.l2 n a b) o=[((rtI a o:Nat):Int),((rtI b (o+a.size):Nat):Int)]from rfl]at ho;generalize ((rtI (.l2 n a b) o:Nat):Int)=i at hx ho;obtain⟨op,m⟩:=n;have ha:arF op=2:=hw.1;have w0:(A7 (k+1)).2.1 (e,N) ((rtI a o:Nat):Int) 0=some ((kQ N a).1,(e,N)):=by rw[ql 0 (ia k o5) hla,wi0 (Lm N a)]
 have w1:(A7 (k+1)).2.1 (e,N) ((rtI b (o+a.size):Nat):Int) 0=some ((kQ N b).1,(e,N)):=by rw[ql 0 (ib k o5) hlb,wi0 (Lm N b)]
 have u1:∀c,(A7 (k+2)).2.1 (e,N) ((rtI a o:Nat):Int) c=some (wiS (kQ N a) c,(e,N)):=λc=>ql c (ia (k+1) o5) hla;have u2:∀c,(A7 (k+2)).2.1 (e,N) ((rtI b (o+a.size):Nat):Int) c=some (wiS (kQ N b) c,(e,N)):=λc=>ql c (ib (k+1) o5) hlb;generalize ((rtI a o:Nat):Int)=j at ho w0 u1;generalize ((rtI b (o+a.size):Nat):Int)=j' at ho w1 u2;have hml:=xN m;by_cases h1:op=17\/op=18\/op=27\/op=28\/op=29\/op=30
 .have e1:MZ (op,m) N [(kQ N a).1,(kQ N b).1]=[(kQ N a).1,(kQ N b).1]:=by rcases h1 with rfl|rfl|rfl|rfl|rfl|rfl<;>rfl
  have e2:FI (op,m) (kQ N a) (kQ N b)=(qP op++[40]++(kQ N a).1++[44,32]++(kQ N b).1++[41],7):=by rcases h1 with rfl|rfl|rfl|rfl|rfl|rfl<;>rfl
  rw[vk (j:=k+1) hx ho hi hf o5 hN (ts:=[(kQ N a).1,(kQ N b).1]) (by rcases h1 with rfl|rfl|rfl|rfl|rfl|rfl<;>exact⟨rfl,rfl,o5,o5,o5,o5,o5,o5,o5⟩) rfl x9 (by simp;exact⟨hla,hlb⟩) (by rw[e1,Zn];simp;omega) (hc2 w0 w1),e1,Zn,e2];simp
 by_cases h2:op=14\/op=15\/op=16
 .have e1:MZ (op,m) N [(kQ N a).1,(kQ N b).1]=[(kQ N a).1,(kQ N b).1,tC m]:=by rcases h2 with rfl|rfl|rfl<;>rfl
  have e2:FI (op,m) (kQ N a) (kQ N b)=(qP op++[40]++(kQ N a).1++[44,32]++(kQ N b).1++[44,32]++tC m++[41],7):=by rcases h2 with rfl|rfl|rfl<;>rfl
  rw[vk (j:=k+1) hx ho hi hf o5 hN (ts:=[(kQ N a).1,(kQ N b).1]) (by rcases h2 with rfl|rfl|rfl<;>exact⟨rfl,rfl,o5,o5,o5,o5,o5,o5,o5⟩) rfl x9 (by simp;exact⟨hla,hlb⟩) (by rw[e1,Zo];simp;omega) (hc2 w0 w1),e1,Zo,e2];simp
 have hk:op=11\/op=12\/op=13\/op=19\/op=20\/op=21\/op=22\/op=23\/op=24:=by have:=ar2 ha;omega
 have hl:=UI op;have hc:1<=(wP op).2/\(wP op).2<=5:=by rcases hk with rfl|rfl|rfl|rfl|rfl|rfl|rfl|rfl|rfl<;>decide
 have hs:seq (wP op).1 []=false:=by rcases hk with rfl|rfl|rfl|rfl|rfl|rfl|rfl|rfl|rfl<;>rfl
 have hlit:bD (op,m)=some ((0,0,0),false):=by rcases hk with rfl|rfl|rfl|rfl|rfl|rfl|rfl|rfl|rfl<;>rfl
 have hb:Xd op=false/\GG op=false:=by rcases hk with rfl|rfl|rfl|rfl|rfl|rfl|rfl|rfl|rfl<;>exact⟨rfl,rfl⟩
 have v1:=zZ (kQ N a) 4;have v2:=zZ (kQ N a) (wP op).2;have v3:=zZ (kQ N b) ((wP op).2+1);rw[Hg];unfold X7 FI;simp only[hx,ho,o8,hlit,a3C,hs,o6,o7,Z7,lx0,lg0,lx1,lg1,u1,u2,jJ (show lL ((wP op).2+1) by unfold lL;omega),hb.1,hb.2];cases C9 (wP op).2 3
 .simp only[o6];rw[G5 E5,o8,G5 E5,o8,G5 E5,o8,G5 E5,o8]
 .simp only[o7];rw[G5 E5,o8,G5 E5,o8,G5 E5,o8,G5 E5,o8]
theorem a6K(n:Int×Int)(a b c:XT)(o k:Nat)(h:At e (T.sts 0) (.l3 n a b c) o)(hw:(XT.l3 n a b c).wf)(hla:(kQ N a).1.length<=1000000)(hlb:(kQ N b).1.length<=1000000)(hlc:(kQ N c).1.length<=1000000)
  (ia:∀q,k<=q->(A7 q).1 (e,N) (rtI a o:Int)=some ((kQ N a).1,(kQ N a).2,(e,N))) (ib:∀q,k<=q->(A7 q).1 (e,N) (rtI b (o+a.size):Int)=some ((kQ N b).1,(kQ N b).2,(e,N)))
  (ic:∀q,k<=q->(A7 q).1 (e,N) (rtI c (o+a.size+b.size):Int)=some ((kQ N c).1,(kQ N c).2,(e,N))):
  (A7 (k+3)).1 (e,N) (rtI (.l3 n a b c) o:Int)=some ((ifX (kQ N a) (kQ N b) (kQ N c)).1,(ifX (kQ N a) (kQ N b) (kQ N c)).2,(e,N)):=by
 have hr:=rY h;have ho:=yG hT h hw;have hx:J9 e ((rtI (.l3 n a b c) o:Nat):Int)=some n:=by rw[J7];exact hr.1
 rw[show R_ (.l3 n a b c) o=[((rtI a o:Nat):Int),((rtI b (o+a.size):Nat):Int),((rtI c (o+a.size+b.size):Nat):Int)]from rfl]at ho;generalize ((rtI (.l3 n a b c) o:Nat):Int)=i at hx ho;obtain⟨op,m⟩:=n;have ha:op=26:=ar3 hw.1;subst ha;have u1:(A7 (k+2)).2.1 (e,N) ((rtI a o:Nat):Int) 0=some ((kQ N a).1,(e,N)):=by rw[ql 0 (ia (k+1) o5) hla,wi0 (Lm N a)]
 have u2:(A7 (k+2)).2.1 (e,N) ((rtI b (o+a.size):Nat):Int) 0=some ((kQ N b).1,(e,N)):=by rw[ql 0 (ib (k+1) o5) hlb,wi0 (Lm N b)]
 have u3:(A7 (k+2)).2.1 (e,N) ((rtI c (o+a.size+b.size):Nat):Int) 0=some ((kQ N c).1,(e,N)):=by rw[ql 0 (ic (k+1) o5) hlc,wi0 (Lm N c)]
 rw[Hg];unfold X7 ifX;simp (disch:=decide) only[hx,ho,o8,show bD (26,m)=some ((0,0,0),false)from rfl,show dD 26=some ([],0)from rfl,o6,show seq ([]:List UInt8) []=true from rfl,I7,Z9,N7,o7,lx0,lg0,lx1,lg1,lx2,lg2,u1,u2,u3];rw[G5 E5,o8,G5 E5,o8,G5 E5,o8,G5 E5,o8,G5 E5,o8]
theorem a1Y:∀(t:XT) (o k:Nat),At e (T.sts 0) t o->t.wf->3*t.size<=k->(A7 k).1 (e,N) (rtI t o:Int)=some ((kQ N t).1,(kQ N t).2,(e,N)):=by
 have h48:=(rV hT).2;have hlen:∀(t:XT) (o:Nat),At e (T.sts 0) t o->(kQ N t).1.length<=1000000:=by
  intro t o h;obtain⟨p,s,S1,S2,h1,-,-,-⟩:=h;have hl:=wJ hN t (λn hn=>hI n (by rw[h1];simp[hn]));have:t.size<=e.length:=by rw[←t.post_len,h1];simp;omega
  omega
 intro t;induction t with
 |l0 n=>intro o k h hw hk;simp only[XT.size]at hk;obtain⟨k,rfl⟩:∃m,k=m+2:=⟨k -2,o5⟩;exact a1X hN hT hI hz n o k h hw
 |l1 n a iha=>intro o k h hw hk;simp only[XT.size]at hk;obtain⟨k,rfl⟩:∃m,k=m+3:=⟨k -3,o5⟩;exact a4C hN hT hI hz n a o k h hw (hlen a o (YW h)) (λq hq=>iha o q (YW h) hw.2 o5)
 |l2 n a b iha ihb=>intro o k h hw hk;simp only[XT.size]at hk;obtain⟨k,rfl⟩:∃m,k=m+3:=⟨k -3,o5⟩;exact a4D hN hT hI hz n a b o k h hw (hlen a o (Rx h).1) (hlen b _ (Rx h).2) (λq hq=>iha o q (Rx h).1 hw.2.1 o5) (λq hq=>ihb _ q (Rx h).2 hw.2.2 o5)
 |l3 n a b c iha ihb ihc=>intro o k h hw hk;simp only[XT.size]at hk;obtain⟨k,rfl⟩:∃m,k=m+3:=⟨k -3,o5⟩;exact a6K hN hT hI hz n a b c o k h hw (hlen a o (IP h).1) (hlen b _ (IP h).2.1) (hlen c _ (IP h).2.2) (λq hq=>iha o q (IP h).1 hw.2.1 o5) (λq hq=>ihb _ q (IP h).2.1 hw.2.2.1 o5) (λq hq=>ihc _ q (IP h).2.2 hw.2.2.2 o5)
end
end Go.GP
namespace Go.GP
open Gt
set_option maxRecDepth 100000
variable {N:D9}
theorem a6t{n:Int×Int}(hN:NmOk N)(hI:lL n.2)(ha:0<=arF n.1):U9 n N=some (flS n N):=by
 obtain⟨k,m⟩:=n;have fin:∀{args:List G8} {x:Tx},Aa (k,m) args N x->U9 (k,m) N=some (flS (k,m) N):=by rintro args x ⟨c,h1,-⟩;rw[TL h1];exact h1
 by_cases h0:m=0\/aI k=some true
 .have h3:arF k=0\/arF k=1\/arF k=2\/arF k=3:=by have:=(BK k).2.2;simp only at ha;omega
  rcases h3 with h|h|h|h
  .exact fin (ZK hN hI h h0)
  .exact fin (ZL hN hI h h0 ([],0,false) x9)
  .exact fin (ZM h h0 ([],0,false) ([],0,false) x9 x9)
  .have:=ar3 h;subst this;exact fin (ZN h0 ([],0,false) ([],0,false) ([],0,false) x9 x9 x9)
 .have h1:m≠0:=λh=>h0 (.inl h);have h2:aI k=some false:=(ZY ha).resolve_left λh=>h0 (.inr h);have:=a5z (N:=N) ha h1 h2;rw[TL this];exact this
theorem DU:∀(t:XT),t.wf->∀n∈t.post,0<=arF n.1
 | .l0 n,h,m,hm=>by simp[XT.post]at hm;rw[hm];rw[show arF n.1=0 from h];decide| .l1 n a,h,m,hm=>by
  simp[XT.post]at hm;rcases hm with hm|hm
  .exact DU a h.2 m hm
  .rw[hm,h.1];decide
 | .l2 n a b,h,m,hm=>by
  simp[XT.post]at hm;rcases hm with hm|hm|hm
  .exact DU a h.2.1 m hm
  .exact DU b h.2.2 m hm
  .rw[hm,h.1];decide
 | .l3 n a b c,h,m,hm=>by
  simp[XT.post]at hm;rcases hm with hm|hm|hm|hm
  .exact DU a h.2.1 m hm
  .exact DU b h.2.2.1 m hm
  .exact DU c h.2.2.2 m hm
  .rw[hm,h.1];decide
theorem Ze{N:D9} :∀{l:List (Int×Int)},ffS N l=0->∀n∈l,flS n N=0
 |[],_,n,h=>by cases h|a::l,h,n,hn=>by
  unfold ffS at h;cases hf:C9 (flS a N) 0
  .rw[hf]at h;rw[o6]at h;exact absurd h (Ig.1 hf)
  .rw[hf]at h;rw[o7]at h;rcases D6.1 hn with rfl|hn
   .exact nC.1 hf
   .exact Ze h n hn
theorem VZ(e:List (Int×Int))(he:e.length<=1000)(hf:∀n∈e,U9 n N=some (flS n N)):
  U0 (λ(x:Int)=>
     l7 (H6 x (o9 e))
      (l9 (J9 e x) λ(x_1:I9)=>
       l9 (U9 x_1 N) λ(x_2:Int)=>
        l7 (G7 (C9 x_2 0)) (some (Out.rt (([]:List UInt8),x_2))) (some (Out.nx (F6 IntKind.i64 x 1))))
      (some (Out.ex PUnit.unit))) 0=some (l7 (C9 (ffS N e) 0) (.inl PUnit.unit) (.inr ([],ffS N e))):=by
 have key:∀(l pre:List (Int×Int)) (k:Nat),e=pre++l->l.length<k->
   jr (λ(x:Int)=>
     l7 (H6 x (o9 e))
      (l9 (J9 e x) λ(x_1:I9)=>
       l9 (U9 x_1 N) λ(x_2:Int)=>
        l7 (G7 (C9 x_2 0)) (some (Out.rt (([]:List UInt8),x_2))) (some (Out.nx (F6 IntKind.i64 x 1))))
      (some (Out.ex PUnit.unit))) k (pre.length:Int)=some (l7 (C9 (ffS N l) 0) (.inl PUnit.unit) (.inr ([],ffS N l))):=by
  intro l;induction l with
  |nil=>intro pre k h hk;obtain⟨k,rfl⟩:∃k',k=k' +1:=⟨k -1,by simp at hk;omega⟩;rw[Dt];rw[F7]at h;rw[←h,N9];rfl
  |cons n l ih=>
   intro pre k h hk;obtain⟨k,rfl⟩:∃k',k=k' +1:=⟨k -1,by simp at hk;omega⟩;have hn:e[pre.length]? =some n:=by rw[h,H9 (D8 _),fH];rfl
   have hlt:=(ax.1 hn).1;rw[Dt];simp only[O0 hn,o7,J7,hn,o8,hf n (oV hn)];unfold ffS;cases hg:C9 (flS n N) 0
   .simp only[Z7,o7,o6,hg]
   .simp only[I7,o7,o6];have:=ih (pre++[n]) k (by rw[h];simp) (by simp at hk;omega);rw[show(((pre++[n]).length:Nat):Int)=F6 .i64 (pre.length:Int) 1 by rw[dn o5];simp]at this;exact this
 have:=key e [] fQ rfl (by unfold fQ;omega);exact this
theorem a4K{e:List (Int×Int)}(hN:NmOk N)(hI:∀n∈e,lL n.2):oh e N=some (QN e N):=by
 unfold oh DC QN;rw[BF];unfold qN;cases h:jI e with
 |inl x=>simp only[o8,N7 (Bd h)];rfl|inr t=>
  obtain⟨h1,h2,h3,h4⟩:=UY h;obtain⟨hp,-⟩:=rV h;simp only[o8,Z9 (rfl:(0:Int)=0),I7,o6];have hw:=Lh h;refine O6 (VZ e o5 (λn hn=>a6t hN (hI n hn) (DU t hw n (by rw[←hp];exact hn)))) ?_;rw[o8];cases hf:C9 (ffS N e) 0
  .rfl
  .simp only[o7,U1];rw[h4,show uN (e,N) ((rtI t 0:Nat):Int)=some ((kQ N t).1,(kQ N t).2,(e,N))from a1Y hN h hI (Ze (nC.1 hf)) t 0 fQ h1 hw (by unfold fQ;omega)]<;>rfl
theorem a4b{e:List (Int×Int)}(hN:NmOk N)(hI:∀n∈e,lL n.2):(QN e N).1.length<=150000:=by
 unfold QN;cases h:jI e with
 |inl x=>simp|inr t=>
  obtain⟨hp,h48⟩:=rV h;have:=wJ hN t (by rw[←hp];exact hI);rw[←t.post_len,←hp]at this;simp only;cases C9 (ffS N e) 0
  .simp[l7]
  .simp only[o7];omega
def clB(n:Int):Int:=l7 (H6 n 0) 0 (l7 (H6 8 n) 8 n)
theorem Bl(n:Int):0<=clB n/\clB n<=8:=by
 unfold clB;by_cases h:n<0
 .rw[bg h];simp[l7]
 by_cases h2:8<n
 .rw[au o5,bg h2];simp[l7]
 .rw[au o5,au o5];exact⟨by simp[l7];omega,by simp[l7];omega⟩
theorem CU(n:Int):oz n=some (clB n):=by
 unfold oz clB vP vO;simp only[mJ,su]
 repeat' split
 all_goals first|rfl|omega|(congr 1;omega)
theorem SL(n:Int):xR n=some (clB n):=by unfold xR clB;cases H6 n 0<;>cases H6 8 n<;>rfl
theorem Qm:∀k:Fin 9,Zk .i64 1 (k.val:Int)=some (2^k.val)/\Iw (k.val:Int)=some (2^k.val):=by decide+kernel
theorem a3L(p:Int×Int)(n:Int):qH p n=xQ p n:=by unfold qH xQ;rw[CU,SL,o8,o8];obtain⟨k,hk⟩:∃k:Fin 9,clB n=(k.val:Int):=⟨⟨(clB n).toNat,by have:=Bl n;omega⟩,by have:=Bl n;simp;omega⟩;rw[hk,(Qm k).1,(Qm k).2]
def tvS(p:Int×Int)(n:Int):Bool:=l7 (O9 0 p.1) (l7 (H6 p.1 (2^(clB n).toNat)) (l7 (O9 0 p.2) (C9 (wX .i64 p.2 p.1) p.2) false) false) false
theorem a6j(p:Int×Int)(n:Int):qH p n=some (tvS p n):=by
 unfold qH tvS;rw[CU,o8];obtain⟨k,hk⟩:∃k:Fin 9,clB n=(k.val:Int):=⟨⟨(clB n).toNat,by have:=Bl n;omega⟩,by have:=Bl n;simp;omega⟩;rw[hk,(Qm k).1,o8,U5];cases O9 0 p.1
 .rfl
 cases H6 p.1 (2^k.val)
 .rfl
 cases O9 0 p.2<;>rfl
theorem UZ:∀v:Fin 256,∀i:Fin 8,C9 (wX .i64 (XC .i64 (v.val:Int) (i.val:Int)) 1) 0=C9 (wX .i64 (v.val:Int) (2^i.val)) 0/\C9 (wX .i64 (XC .i64 (v.val:Int) (i.val:Int)) 1) 1=G7 (C9 (wX .i64 (v.val:Int) (2^i.val)) 0):=by decide+kernel
theorem a3R:∀a:Fin 256,∀b:Nat,b<9223372036854775808->(BitVec.ofInt 64 (b:Int)&&& BitVec.ofInt 64 (a.val:Int)).toNat<=a.val:=by
 intro a b hb;rw[BitVec.toNat_and];have h:(BitVec.ofInt 64 ((a.val:Nat):Int)).toNat=a.val:=by rw[BitVec.toNat_ofInt];have:=a.isLt;omega
 rw[h];exact Nat.and_le_right
variable {p:Int×Int}{n:Int}
theorem a3I(hI:lL p.2)(h:tvS p n=true):(0<=p.1/\p.1<2^(clB n).toNat/\p.1<=255)/\0<=p.2/\p.2<=p.1:=by
 unfold tvS at h;cases h1:O9 0 p.1<;>rw[h1]at h
 .cases h
 cases h2:H6 p.1 (2^(clB n).toNat)<;>rw[h2]at h
 .cases h
 cases h3:O9 0 p.2<;>rw[h3]at h
 .cases h
 rw[o7,o7,o7]at h;have h1:=qc.1 h1;have h2:=su.1 h2;have h3:=qc.1 h3;have h4:=nC.1 h;have h255:p.1<=255:=by
  obtain⟨k,hk⟩:∃k:Fin 9,(clB n).toNat=k.val:=⟨⟨(clB n).toNat,by have:=Bl n;omega⟩,rfl⟩;rw[hk]at h2;have:∀k:Fin 9,(2:Int)^k.val<=256:=by decide
  have:=this k;omega
 refine⟨⟨h1,h2,h255⟩,h3,?_⟩;unfold lL at hI;have:=a3R ⟨p.1.toNat,o5⟩ p.2.toNat o5;rw[dE h3]at this;simp only at this;rw[dE h1]at this;have e:wX .i64 p.2 p.1=((BitVec.ofInt 64 p.2&&& BitVec.ofInt 64 p.1).toNat:Int):=by unfold wX;refine xX ?_;show lL ((BitVec.ofInt 64 p.2&&& BitVec.ofInt 64 p.1).toNat:Int);unfold lL;omega
 rw[e]at h4;omega
def WX(p:Int×Int)(i:Nat):Int:=l7 (C9 (wX .i64 p.1 (2^i)) 0) 45 (l7 (C9 (wX .i64 p.2 (2^i)) 0) 48 49)
def Ah(p:Int×Int):Nat->List Int
 |0=>[]|k+1=>WX p k::Ah p k
theorem JU(p:Int×Int):∀k,(Ah p k).length=k
 |0=>rfl|k+1=>by unfold Ah;simp[JU p k]
def XR(p:Int×Int)(n:Int):List UInt8:=Eh (Ah p (clB n).toNat)
theorem a3S(h1:0<=p.1/\p.1<=255)(h2:0<=p.2/\p.2<=255){i:Nat}(hi:i<8)(acc:List Int)(hacc:acc.length<=100):
  (l9 (GX IntKind.i64 p.1 (i:Int)) λ(x_1:Int)=>
      l7 (C9 (wX IntKind.i64 x_1 1) 0)
       (l9 (bH acc [45]) λ(x_2:List Int)=>some (Sum.inl (x_2,X9 IntKind.i64 (i:Int) 1)))
       (l9 (GX IntKind.i64 p.2 (i:Int)) λ(x_2:Int)=>
        l7 (C9 (wX IntKind.i64 x_2 1) 1)
         (l9 (bH acc [49]) λ(x_3:List Int)=>some (Sum.inl (x_3,X9 IntKind.i64 (i:Int) 1)))
         (l9 (bH acc [48]) λ(x_3:List Int)=>some (Sum.inl (x_3,X9 IntKind.i64 (i:Int) 1)))))=(some (.inl (acc++[WX p i],(i:Int) -1)):Option ((List Int×Int)⊕List Int)):=by
 have a1:=UZ ⟨p.1.toNat,o5⟩ ⟨i,hi⟩;have a2:=UZ ⟨p.2.toNat,o5⟩ ⟨i,hi⟩;simp only[dE h1.1,dE h2.1]at a1 a2;have so:∀v:Int,GX .i64 v (i:Int)=some (XC .i64 v (i:Int)):=by intro v;unfold GX;rw[if_neg o5]
 rw[so,so,o8,o8,a1.1,a2.2,fF (show lL ((i:Int) -1) by unfold lL;omega)];rw[kw _ o5,kw _ o5,kw _ o5,o8,o8,o8];unfold WX;cases C9 (wX .i64 p.1 (2^i)) 0<;>cases C9 (wX .i64 p.2 (2^i)) 0<;>rfl
theorem a6H(hI:lL p.2)(h:tvS p n=true):rW p n=some (XR p n):=by
 obtain⟨⟨b1,-,b2⟩,b3,b4⟩:=a3I hI h;obtain⟨k,hk⟩:∃k:Nat,clB n=(k:Int):=⟨(clB n).toNat,by have:=Bl n;omega⟩;have hk8:k<=8:=by have:=Bl n;omega
 unfold rW XR;rw[CU,o8,hk,U5,fF b6j];have key:∀(k m:Nat) (acc:List Int),k<=8->acc.length+k<=50->tV (λ(x:List Int×Int)=>
    l7 (O9 0 x.2)
     (l9 (GX IntKind.i64 p.1 x.2) λ(x_1:Int)=>
      l7 (C9 (wX IntKind.i64 x_1 1) 0)
       (l9 (bH x.1 [45]) λ(x_2:List Int)=>some (Sum.inl (x_2,X9 IntKind.i64 x.2 1)))
       (l9 (GX IntKind.i64 p.2 x.2) λ(x_2:Int)=>
        l7 (C9 (wX IntKind.i64 x_2 1) 1)
         (l9 (bH x.1 [49]) λ(x_3:List Int)=>some (Sum.inl (x_3,X9 IntKind.i64 x.2 1)))
         (l9 (bH x.1 [48]) λ(x_3:List Int)=>some (Sum.inl (x_3,X9 IntKind.i64 x.2 1)))))
     (some (Sum.inr x.1))) (m+k+1) (acc,(k:Int) -1)=some (acc++Ah p k):=by
  intro k;induction k with
  |zero=>intro m acc _ _;refine(yV (e:=acc) ?_).trans (by rw[show Ah p 0=[]from rfl,F7]);rfl|succ k ih=>
   intro m acc hk ha;rw[show m+(k+1)+1=(m+k+1)+1 by omega,show(((k+1:Nat):Int) -1)=(k:Int) by omega];rw[uZ (s' :=(acc++[WX p k],(k:Int) -1)) (by simp only[ah (show(0:Int)<=(k:Int) by omega),o7];exact a3S ⟨b1,b2⟩ ⟨b3,o5⟩ o5 acc o5)]
   rw[ih m _ o5 (by simp;have:=ha;omega)];rw[show Ah p (k+1)=WX p k::Ah p k from rfl];simp
 have:=key k (fQ -k -1) [] hk8 E5;rw[show fQ -k -1+k+1=fQ by unfold fQ;omega]at this;refine O6 this ?_;rfl
theorem a4z:∀i:Fin 8,Dk .i64 (2^i.val) 2=2^(i.val+1):=by decide
theorem a4L(hI:lL p.2)(h:tvS p n=true):yL p n=some (XR p n):=by
 obtain⟨k,hk⟩:∃k:Nat,clB n=(k:Int):=⟨(clB n).toNat,by have:=Bl n;omega⟩;have hk8:k<=8:=by have:=Bl n;omega
 unfold yL XR;simp only[SL,o8];rw[hk,U5];have key:∀(m q i:Nat),i+m=k->tV (λ(x:jh)=>
    l7 (H6 x.2.2 (k:Int))
     (l7 (G7 (C9 (wX IntKind.i64 p.1 x.2.1) 0))
      (l7 (G7 (C9 (wX IntKind.i64 p.2 x.2.1) 0))
       (l9 (J3 [49] x.1) λ(x_2:List UInt8)=>
        some (Sum.inl (x_2,Dk IntKind.i64 x.2.1 2,F6 IntKind.i64 x.2.2 1)))
       (l9 (J3 [48] x.1) λ(x_2:List UInt8)=>
        some (Sum.inl (x_2,Dk IntKind.i64 x.2.1 2,F6 IntKind.i64 x.2.2 1))))
      (l9 (J3 [45] x.1) λ(x_2:List UInt8)=>
       some (Sum.inl (x_2,Dk IntKind.i64 x.2.1 2,F6 IntKind.i64 x.2.2 1))))
     (some (Sum.inr x.1))) (q+m+1) (Eh (Ah p i),2^i,(i:Int))=some (Eh (Ah p k)):=by
  intro m;induction m with
  |zero=>intro q i hi;have:i=k:=o5;subst this;refine yV ?_;simp only[au (show(i:Int)<=(i:Int) by omega),o6]|succ m ih=>
   intro q i hi;rw[show q+(m+1)+1=(q+m+1)+1 by omega];rw[uZ (s' :=(Eh (Ah p (i+1)),2^(i+1),((i+1:Nat):Int))) (by
    have hl:(Eh (Ah p i)).length<=8:=by unfold Eh;rw[U3,JU];omega
    have hp:Dk .i64 (2^i) 2=2^(i+1):=a4z ⟨i,o5⟩;simp only[bg (show(i:Int)<(k:Int) by omega),o7];rw[G5 E5,G5 E5,G5 E5,o8,o8,o8,hp,dn o5];rw[show Eh (Ah p (i+1))=a3J (WX p i)::Eh (Ah p i)from rfl];unfold WX;cases C9 (wX .i64 p.1 (2^i)) 0<;>cases C9 (wX .i64 p.2 (2^i)) 0<;>rfl)]
   exact ih q (i+1) o5
 have:=key k (fQ -k -1) 0 o5;rw[show fQ -k -1+k+1=fQ by unfold fQ;omega]at this;refine O6 this ?_;rfl
theorem a4w(p:Int×Int)(n:Int):(XR p n).length<=8:=by have:=Bl n;unfold XR Eh;rw[U3,JU];omega
end Go.GP
