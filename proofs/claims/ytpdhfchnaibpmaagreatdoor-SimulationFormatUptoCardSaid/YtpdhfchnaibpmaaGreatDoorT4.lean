import Derived.Test.YtpdhfchnaibpmaaGreatDoorT1
import Derived.Test.YtpdhfchnaibpmaaGreatDoorT2
import Derived.Lib.ItoaLen
set_option linter.all false
namespace Go.GP
variable {a:Int}{b:Int}{n:Int}
section
variable {α β σ ε ρ:Type}
@[simp] theorem F5 (x:α) (f:α->Option β):l9 (some x) f=f x:=rfl
@[simp] theorem Xo (f:α->Option β):l9 none f=none:=rfl
theorem Gs{o o' :Option α}(h:o=o'){K:α->Option β}{r:Option β}(h2:l9 o' K=r):l9 o K=r:=by rw[h];exact h2
theorem bb(a b:Bool):o5 a (some b) (some false)=some (a&&b):=by cases a<;>rfl
theorem RD(o:Option α):l9 o (λx=>some x)=o:=by cases o<;>rfl
@[simp] theorem U9 (x y:α):o5 true x y=x:=rfl
@[simp] theorem O8 (x y:α):o5 false x y=y:=rfl
theorem qX(b:Bool)(x y:α):o5 b x y=if b=true then x else y:=by cases b<;>rfl
theorem eQ{b:Bool}(h:b=true)(x y:α):o5 b x y=x:=by rw[h];rfl
theorem fD{b:Bool}(h:b=false)(x y:α):o5 b x y=y:=by rw[h];rfl
@[simp] theorem a3H (s:σ) (f:σ->α) (g:ε->α):az (.inl s) f g=f s:=rfl
@[simp] theorem Vj (s:ε) (f:σ->α) (g:ε->α):az (.inr s) f g=g s:=rfl
@[simp] theorem iJ:F8 true=false:=rfl
@[simp] theorem ou:F8 false=true:=rfl
theorem xR(h:a<b):J4 a b=true:=by simp[J4,h]
theorem II(h:b<=a):J4 a b=false:=by simp[J4];omega
theorem nV(h:a<=b):aN a b=true:=by simp[aN,h]
theorem rM(h:b<a):aN a b=false:=by simp[aN];omega
theorem zO(h:a=b):x8 a b=true:=by simp[x8,h]
theorem jv(h:a≠b):x8 a b=false:=by simp[x8,h]
theorem VB :J4 a b=true↔a<b:=by simp[J4]
theorem Pg :aN a b=true↔a<=b:=by simp[aN]
theorem VA :x8 a b=true↔a=b:=by simp[x8]
theorem Wu{a b:List UInt8} :seq a b=true↔a=b:=by simp[seq]
theorem Cc(h:0<=a):a.tdiv b=a / b:=Int.tdiv_eq_ediv_of_nonneg h
theorem KE(h:0<=a):kN a b=a % b:=Int.tmod_eq_emod_of_nonneg h
def I64(n:Int):Prop:=-9223372036854775808<=n/\n<=9223372036854775807
theorem a4a{p:Int}(h:I64 p:=by unfold I64;omega):I64 p:=h
def U64(n:Int):Prop:=0<=n/\n<=18446744073709551615
theorem sU(h:I64 n):IntKind.wrap .i64 n=n:=by unfold I64 at h;unfold IntKind.wrap;simp[IntKind.signed,IntKind.bits];omega
theorem Cf(h:U64 n):IntKind.wrap .u64 n=n:=by unfold U64 at h;unfold IntKind.wrap;simp[IntKind.signed,IntKind.bits];omega
theorem jr(h:I64 (a+b)):D5 .i64 a b=a+b:=sU h
theorem jw(h:I64 (a -b)):I4 .i64 a b=a -b:=sU h
theorem Rj(h:I64 (a*b)):gU .i64 a b=a*b:=sU h
theorem Rk(h:I64 (a.tdiv b)):fM .i64 a b=a.tdiv b:=sU h
theorem KD(h:U64 (a+b)):D5 .u64 a b=a+b:=Cf h
theorem Rn(h:U64 (a.tdiv b)):fM .u64 a b=a.tdiv b:=Cf h
theorem sS(h:(Lit.int .i64 n).wf=true):I64 n:=by simp[Lit.wf,IntKind.min,IntKind.max,IntKind.signed,IntKind.bits]at h;unfold I64;omega
theorem zl(l:List α)(i:Nat):J9 l (i:Int)=l[i]?:=by simp[J9]
theorem Rt{l:List α}{i:Int}(h0:0<=i)(h:i<o9 l):∃x,J9 l i=some x/\x∈l:=by
 unfold o9 at h;refine⟨l[i.toNat]'o6,?_,iE _⟩;unfold J9
 rw[if_pos h0,xX]
theorem J5{a b:List UInt8}(h:a.length+b.length<=4611686018427387904):X0 a b=some (a++b):=by simp[X0,h]
theorem Pn{l:List α}{lo hi:Int}(h0:0<=lo)(h1:lo<=hi)(h2:hi<=l.length):jD l lo hi=some ((l.take hi.toNat).drop lo.toNat):=by simp[jD,h0,h1,h2]
theorem VI{l:List α}{hi:Int}(h1:0<=hi)(h2:hi<=l.length):jD l 0 hi=some (l.take hi.toNat):=by rw[Pn o6 h1 h2];simp
theorem Df{l:List α}{lo:Int}(h1:0<=lo)(h2:lo<=l.length):jD l lo (o9 l)=some (l.drop lo.toNat):=by rw[Pn h1 (by simp[o9];omega) (by simp[o9])];simp[o9]
end
section
variable {σ ε ρ:Type}
theorem Ea{f:σ->Option (σ⊕ε)}(Inv:σ->Prop)(Q:ε->Prop)(meas:σ->Nat)
  (h:∀s,Inv s->(∃s',f s=some (.inl s')/\Inv s' /\meas s' <meas s)\/(∃e,f s=some (.inr e)/\Q e)):
  ∀n s,Inv s->meas s<n->∃e,rQ f n s=some e/\Q e
 |0,_,_,h=>by omega|n+1,s,hi,hm=>by
  unfold rQ;rcases h s hi with⟨s',e,hi',hm'⟩|⟨x,e,hx⟩
  .rw[e];exact Ea Inv Q meas h n s' hi' o6
  .rw[e];exact⟨x,rfl,hx⟩
theorem rU{f:σ->Option (σ⊕ε)}{s:σ}(Inv:σ->Prop)(Q:ε->Prop)(meas:σ->Nat)(hi:Inv s)(hm:meas s<18446744073709551616)
  (h:∀s,Inv s->(∃s',f s=some (.inl s')/\Inv s' /\meas s' <meas s)\/(∃e,f s=some (.inr e)/\Q e)):∃e,Y5 f s=some e/\Q e:=
 Ea Inv Q meas h _ s hi hm
theorem Gf{f:σ->Option (Out σ ε ρ)}(Inv:σ->Prop)(Q:ε->Prop)(Qr:ρ->Prop)(meas:σ->Nat)
  (h:∀s,Inv s->(∃s',f s=some (.nx s')/\Inv s' /\meas s' <meas s)\/(∃e,f s=some (.ex e)/\Q e)\/(∃r,f s=some (.rt r)/\Qr r)):
  ∀n s,Inv s->meas s<n->(∃e,xg f n s=some (.inl e)/\Q e)\/(∃r,xg f n s=some (.inr r)/\Qr r)
 |0,_,_,h=>by omega|n+1,s,hi,hm=>by
  unfold xg;rcases h s hi with⟨s',e,hi',hm'⟩|⟨x,e,hx⟩|⟨x,e,hx⟩
  .rw[e];exact Gf Inv Q Qr meas h n s' hi' o6
  .rw[e];exact .inl ⟨x,rfl,hx⟩
  .rw[e];exact .inr ⟨x,rfl,hx⟩
theorem Nz{f:σ->Option (Out σ ε ρ)}{s:σ}(Inv:σ->Prop)(Q:ε->Prop)(Qr:ρ->Prop)(meas:σ->Nat)(hi:Inv s)(hm:meas s<18446744073709551616)
  (h:∀s,Inv s->(∃s',f s=some (.nx s')/\Inv s' /\meas s' <meas s)\/(∃e,f s=some (.ex e)/\Q e)\/(∃r,f s=some (.rt r)/\Qr r)):
  (∃e,aC f s=some (.inl e)/\Q e)\/(∃r,aC f s=some (.inr r)/\Qr r):=
 Gf Inv Q Qr meas h _ s hi hm
end
section
variable {α β ε ρ:Type}
def Bi(G:β->Nat->α->β):List α->Nat->β->β
 |[],_,b=>b|a::l,i,b=>Bi G l (i+1) (G b i a)
theorem Bv(l:List α)(G:β->Nat->α->β)(fin:β->ε)(f:β×Int->Option ((β×Int)⊕ε))(Inv:Nat->β->Prop)
  (hin:∀(b:β) (i:Nat) (a:α),l[i]? =some a->Inv i b->f (b,(i:Int))=some (.inl (G b i a,((i+1:Nat):Int)))/\Inv (i+1) (G b i a))
  (hend:∀(b:β),Inv l.length b->f (b,(l.length:Int))=some (.inr (fin b))):
  ∀(n i:Nat) (b:β),i<=l.length->l.length -i<n->Inv i b->rQ f n (b,(i:Int))=some (fin (Bi G (l.drop i) i b))/\Inv l.length (Bi G (l.drop i) i b)
 |0,_,_,_,h,_=>by omega|n+1,i,b,hi,hn,hI=>by
  unfold rQ;by_cases h:i<l.length
  .have e:=xX h;obtain⟨e1,e2⟩:=hin b i _ e hI;rw[e1,U4 h];exact Bv l G fin f Inv hin hend n (i+1) _ o6 o6 e2
  .have:i=l.length:=o6;subst this;rw[hend b hI,jX];exact⟨rfl,hI⟩
theorem Eb(l:List α)(G:β->Nat->α->β)(fin:β->ε)(f:β×Int->Option ((β×Int)⊕ε))(Inv:Nat->β->Prop){b:β}(hl:l.length<18446744073709551616)(h0:Inv 0 b)
  (hin:∀(b:β) (i:Nat) (a:α),l[i]? =some a->Inv i b->f (b,(i:Int))=some (.inl (G b i a,((i+1:Nat):Int)))/\Inv (i+1) (G b i a))
  (hend:∀(b:β),Inv l.length b->f (b,(l.length:Int))=some (.inr (fin b))):Y5 f (b,0)=some (fin (Bi G l 0 b))/\Inv l.length (Bi G l 0 b):=
 Bv l G fin f Inv hin hend _ 0 b (cZ _) hl h0
open Classical in
theorem Qh(l:List α)(p:Nat->α->Bool)(r:ρ)(e:ε)(f:Int->Option (Out Int ε ρ))(hl:l.length<18446744073709551616)
  (hin:∀(i:Nat) (a:α),l[i]? =some a->f (i:Int)=if p i a=true then some (.nx ((i+1:Nat):Int))else some (.rt r))
  (hend:f (l.length:Int)=some (.ex e)):
  aC f 0=if(∀i a,l[i]? =some a->p i a=true)then some (.inl e)else some (.inr r):=by
 have key:∀(n i:Nat),i<=l.length->l.length -i<n->(∀j a,j<i->l[j]? =some a->p j a=true)->xg f n (i:Int)=if(∀i a,l[i]? =some a->p i a=true)then some (.inl e)else some (.inr r):=by
  intro n;induction n with
  |zero=>intro i _ h;omega|succ n ih=>
   intro i hi hn hp;unfold xg;by_cases h:i<l.length
   .have e' :=xX h;rw[hin i _ e'];by_cases hpi:p i l[i]=true
    .rw[if_pos hpi];exact ih (i+1) o6 o6 λj a hj ha=>by
      by_cases hji:j=i
      .subst hji;rw[e']at ha;cases ha;exact hpi
      .exact hp j a o6 ha
    .rw[if_neg hpi,if_neg];intro hall;exact hpi (hall i _ e')
   .have:i=l.length:=o6;subst this;rw[hend,if_pos];intro j a ha;exact hp j a (eY.1 ha).1 ha
 exact key _ 0 (cZ _) hl λj a hj=>by omega
end
end Go.GP
namespace Go.GP
open Gt
set_option maxRecDepth 100000
section
theorem IG{i:Nat}(h:i<=9000000000000000000):D5 .i64 (i:Int) 1=((i+1:Nat):Int):=by rw[jr a4a];omega
theorem nS(t:Int×Int)(en:List dB):V9 t en=bz t en:=by
 unfold V9 bz;by_cases h1:t.1=1
 .simp[x8,h1,aN]
 by_cases h2:t.1=2
 .simp[x8,h2,aN]
 by_cases h3:t.1=3
 .simp[x8,h3,aN]
 by_cases h4:t.1=4
 .simp[x8,h4,aN]
 by_cases h5:t.1=5
 .simp[x8,h5,aN]
 by_cases h6:t.1=6
 .simp[x8,h6,aN]
 .simp only[x8,h1,h2,h3,h4,h5,h6,decide_false,O8,F5];by_cases h7:1<=t.1
  .rw[eQ (nV h7),fD (rM o6)]
  .rw[fD (rM o6)]
theorem Ir(t:Int×Int)(en:List dB):dJ t en=lh t en:=by unfold dJ lh;rw[nS]
end
section
section
variable {α ε ρ:Type}
theorem Vs(l:List α)(p:α->Bool)(r:ρ)(e:ε){f:Int->Option (Out Int ε ρ)}(hl:l.length<=1000000)
  (hin:∀(i:Nat) (a:α),l[i]? =some a->f (i:Int)=some (bif p a then .rt r else .nx (D5 .i64 (i:Int) 1))) (hend:f (l.length:Int)=some (.ex e)):
  aC f 0=some (bif l.any p then .inr r else .inl e):=by
 rw[Qh l (λi a=> !p a) r e f o6 (λi a ha=>?_) hend]
 .have hb:(∀(j:Nat) (a:α),l[j]? =some a->(!p a)=true)↔l.any p=false:=by
   rw[nH];constructor
   .intro h x hx;obtain⟨j,hj,rfl⟩:=lQ hx;have:=h j _ (xX hj);simpa using this
   .intro h j a hj;have:=h a (CY hj);simpa using this
  by_cases hv:l.any p=false
  .rw[if_pos (hb.2 hv),hv];rfl
  .rw[if_neg (λh=>hv (hb.1 h))];simp only[Bool.not_eq_false]at hv;rw[hv];rfl
 .have hi:=(eY.1 ha).1;rw[hin i a ha,IG o6];cases p a<;>rfl
theorem wu{i:Nat}{l:List α}{a:α}(h:l[i]? =some a):J4 (i:Int) (o9 l)=true:=xR (by have:=(eY.1 h).1;simp only[o9];omega)
theorem zi(l:List α):J4 (l.length:Int) (o9 l)=false:=II (by simp[o9])
end
end
section
section
variable {α β σ ε ρ:Type}
theorem Nu(l:List α)(G:β->α->β)(mk:β->Int->σ)(fin:β->ε)(Inv:Nat->β->Prop){f:σ->Option (σ⊕ε)}{b:β}(hl:l.length<=1000000)(h0:Inv 0 b)
  (hin:∀(i:Nat) (a:α) (b:β),l[i]? =some a->i<=1000000->Inv i b->f (mk b (i:Int))=some (.inl (mk (G b a) ((i+1:Nat):Int)))/\Inv (i+1) (G b a))
  (hend:∀b,Inv l.length b->f (mk b (l.length:Int))=some (.inr (fin b))):
  Y5 f (mk b 0)=some (fin (l.foldl G b))/\Inv l.length (l.foldl G b):=by
 have key:∀(n i:Nat) (b:β),i<=l.length->l.length -i<n->Inv i b->rQ f n (mk b (i:Int))=some (fin ((l.drop i).foldl G b))/\Inv l.length ((l.drop i).foldl G b):=by
  intro n;induction n with
  |zero=>intro i b _ h _;omega|succ n ih=>
   intro i b hi hn hI;unfold rQ;by_cases h:i<l.length
   .have e:=xX h;obtain⟨h1,h2⟩:=hin i _ b e o6 hI;rw[h1,U4 h];exact ih (i+1) _ o6 o6 h2
   .have:i=l.length:=o6;subst this;rw[hend b hI,jX];exact⟨rfl,hI⟩
 have:=key mZ 0 b o6 (by unfold mZ;omega) h0;exact this
theorem FZ{γ:Type}(l:List α)(G:β->α->β)(mk:β->Int->σ)(fin:β->ε)(Inv:Nat->β->Prop)(b:β){f:σ->Option (σ⊕ε)}{K:ε->Option γ}{r:Option γ}(hl:l.length<=1000000)(h0:Inv 0 b)
  (hin:∀(i:Nat) (a:α) (b:β),l[i]? =some a->i<=1000000->Inv i b->f (mk b (i:Int))=some (.inl (mk (G b a) ((i+1:Nat):Int)))/\Inv (i+1) (G b a))
  (hend:∀b,Inv l.length b->f (mk b (l.length:Int))=some (.inr (fin b))) (hk:Inv l.length (l.foldl G b)->K (fin (l.foldl G b))=r):l9 (Y5 f (mk b 0)) K=r:=by
 obtain⟨h1,h2⟩:=Nu l G mk fin Inv hl h0 hin hend;rw[h1];exact hk h2
def zN(G:β->α->β⊕ρ):List α->β->β⊕ρ
 |[],b=> .inl b
 |a::l,b=>match G b a with| .inl b' =>zN G l b'| .inr r=> .inr r
theorem Ny(l:List α)(G:β->α->β⊕ρ)(mk:β->Int->σ)(fin:β->ε)(Inv:Nat->β->Prop){f:σ->Option (Out σ ε ρ)}{b:β}(hl:l.length<=1000000)(h0:Inv 0 b)
  (hin:∀(i:Nat) (a:α) (b:β),l[i]? =some a->i<=1000000->Inv i b->f (mk b (i:Int))=some (match G b a with| .inl b' => .nx (mk b' ((i+1:Nat):Int))| .inr r=> .rt r)/\∀b',G b a= .inl b' ->Inv (i+1) b')
  (hend:∀b,Inv l.length b->f (mk b (l.length:Int))=some (.ex (fin b))):
  aC f (mk b 0)=some (match zN G l b with| .inl b' => .inl (fin b')| .inr r=> .inr r)/\∀b',zN G l b= .inl b' ->Inv l.length b' :=by
 have key:∀(n i:Nat) (b:β),i<=l.length->l.length -i<n->Inv i b->xg f n (mk b (i:Int))=some (match zN G (l.drop i) b with| .inl b' => .inl (fin b')| .inr r=> .inr r)/\∀b',zN G (l.drop i) b= .inl b' ->Inv l.length b' :=by
  intro n;induction n with
  |zero=>intro i b _ h _;omega|succ n ih=>
   intro i b hi hn hI;unfold xg;by_cases h:i<l.length
   .have e:=xX h;obtain⟨h1,h2⟩:=hin i _ b e o6 hI;rw[h1,U4 h];unfold zN;cases hg:G b l[i]with
    |inr r=>exact⟨rfl,λb' hb=>by cases hb⟩|inl b' =>exact ih (i+1) _ o6 o6 (h2 b' hg)
   .have:i=l.length:=o6;subst this;rw[hend b hI,jX];exact⟨rfl,λb' hb=>by cases hb;exact hI⟩
 have:=key mZ 0 b o6 (by unfold mZ;omega) h0;exact this
theorem Nw{γ:Type}(l:List α)(G:β->α->β⊕ρ)(mk:β->Int->σ)(fin:β->ε)(Inv:Nat->β->Prop)(b:β){f:σ->Option (Out σ ε ρ)}{K:ε⊕ρ->Option γ}{r:Option γ}(hl:l.length<=1000000)(h0:Inv 0 b)
  (hin:∀(i:Nat) (a:α) (b:β),l[i]? =some a->i<=1000000->Inv i b->f (mk b (i:Int))=some (match G b a with| .inl b' => .nx (mk b' ((i+1:Nat):Int))| .inr r=> .rt r)/\∀b',G b a= .inl b' ->Inv (i+1) b')
  (hend:∀b,Inv l.length b->f (mk b (l.length:Int))=some (.ex (fin b)))
  (hk:(∀b',zN G l b= .inl b' ->Inv l.length b')->K (match zN G l b with| .inl b' => .inl (fin b')| .inr r=> .inr r)=r):l9 (aC f (mk b 0)) K=r:=by
 obtain⟨h1,h2⟩:=Ny l G mk fin Inv hl h0 hin hend;rw[h1];exact hk h2
end
end
end Go.GP
namespace Gt
open Go Go.GP
def il(y:Int):Bool:=if y % 4=0 then(if y % 100≠0 then true else decide (y % 400=0))else false
def ys(y:Int):Int:=(y -1900)*365+((y -1) / 4 -(y -1) / 100+(y -1) / 400) -460
def diy(y:Int):Int:=if il y then 366 else 365
theorem zy(y:Int):ys (y+1)=ys y+diy y:=by unfold ys diy il;by_cases h4:y % 4=0<;>by_cases h100:y % 100=0<;>by_cases h400:y % 400=0<;>simp[h4,h100,h400]<;>omega
theorem VJ(a b:Int):a<b\/b<=a:=o6
theorem FC(y:Int):365<=diy y/\diy y<=366:=by unfold diy;split<;>omega
theorem qN{y y' :Int}(h:y<=y'):ys y<=ys y' :=by
 obtain⟨n,rfl⟩:∃n:Nat,y' =y+n:=⟨(y' -y).toNat,o6⟩;clear h;induction n with
 |zero=>simp|succ n ih=>have:=zy (y+n);have:=FC (y+n);have e:y+((n+1:Nat):Int)=y+n+1:=o6;rw[e];omega
variable {y:Int}
theorem DK(h:1900<=y):0<=ys y:=by
 have:=qN h;have e:ys 1900=0:=by decide+kernel
 omega
theorem QG{y y' d:Int}(h1:ys y<=d)(h2:d<ys (y+1))(h3:ys y' <=d)(h4:d<ys (y' +1)):y=y' :=by
 rcases Int.lt_trichotomy y y' with h|h|h
 .have:=qN (y:=y+1) (y' :=y') o6;omega
 .exact h
 .have:=qN (y:=y' +1) (y' :=y) o6;omega
def dim(y m:Int):Int:=
 if m=2 then(if il y then 29 else 28)else if m=4\/m=6\/m=9\/m=11 then 30 else 31
theorem Jo(y m:Int):28<=dim y m/\dim y m<=31:=by
 unfold dim;repeat' split
 all_goals omega
theorem xK(h:0<=y):tH y=some (il y):=by
 unfold tH il;simp only[KE h];by_cases h4:y % 4=0
 .rw[eQ (zO h4),if_pos h4];by_cases h100:y % 100=0
  .simp[x8,h100]
  .simp[x8,h100]
 .rw[fD (jv h4),if_neg h4]
theorem xm(h:0<=y):qI y=some (il y):=xK h
theorem zC(h:0<=y):ed y=some (diy y):=by unfold ed diy;rw[xm h,F5];cases il y<;>rfl
variable {m:Int}
theorem m12(h:1<=m/\m<=12):m=1\/m=2\/m=3\/m=4\/m=5\/m=6\/m=7\/m=8\/m=9\/m=10\/m=11\/m=12:=o6
theorem zB(h:0<=y)(hm:1<=m/\m<=12):cu y m=some (dim y m):=by
 unfold cu;rcases m12 hm with rfl|rfl|rfl|rfl|rfl|rfl|rfl|rfl|rfl|rfl|rfl|rfl
 all_goals first|rfl|(rw[xK h];unfold dim;cases il y<;>rfl)
theorem yA(h:0<=y)(hm:1<=m/\m<=12):dG y m=some (dim y m):=by
 unfold dG;rcases m12 hm with rfl|rfl|rfl|rfl|rfl|rfl|rfl|rfl|rfl|rfl|rfl|rfl
 all_goals first|rfl|(rw[xm h];unfold dim;cases il y<;>rfl)
theorem tK(h:0<=y)(h2:y<=1000000):kG y=some (y / 4 -y / 100+y / 400):=by unfold kG;simp only[fM,Cc h];rw[sU a4a,sU a4a,sU a4a,jw a4a,jr a4a]
theorem tN(h:1<=y)(h2:y<=1000000):gQ y=some (ys y):=by unfold gQ;have e1:I4 .i64 y 1900=y -1900:=jw a4a;have e2:gU .i64 (y -1900) 365=(y -1900)*365:=Rj a4a;rw[jw (a:=y) (b:=1) a4a,tK o6 o6,F5,tK o6 o6,F5,e1,e2,jr a4a,jw a4a];unfold ys;congr 1
def mo(y:Int):Nat->Int->Int×Int
 |0,d=>(d,13)|n+1,d=>if d<dim y (12 -n)then(d,12 -n)else mo y n (d -dim y (12 -n))
theorem Py(y:Int)(n:Nat)(d:Int):mo y (n+1) d=if d<dim y (12 -(n:Int))then(d,12 -(n:Int))else mo y n (d -dim y (12 -(n:Int))):=rfl
def rem(y:Int):Nat->Int
 |0=>0|n+1=>dim y (12 -n)+rem y n
theorem Tu(y:Int):rem y 12=diy y:=by unfold diy;cases h:il y<;>simp[rem,dim,h]
theorem Rx(y:Int):∀(n:Nat) (d:Int),n<=12->0<=d->d<rem y n->1<=(mo y n d).2/\(mo y n d).2<=12/\0<=(mo y n d).1/\(mo y n d).1<dim y (mo y n d).2
 |0,d,_,h0,h=>by simp[rem]at h;omega|n+1,d,hn,h0,h=>by
  unfold mo;by_cases hd:d<dim y (12 -n)
  .rw[if_pos hd];refine⟨?_,?_,h0,hd⟩<;>simp<;>omega
  .rw[if_neg hd];refine Rx y n _ o6 o6 ?_;simp only[rem]at h;omega
def yOf(d:Int):Int:=((((List.range 300).find? (λ(k:Nat)=>decide (d<ys (1900+(k:Int)+1)))).getD 0:Nat):Int)+1900
variable {d:Int}
theorem Hu(h0:0<=d)(h:d<=109572):1900<=yOf d/\yOf d<=2199/\ys (yOf d)<=d/\d<ys (yOf d+1):=by
 unfold yOf;cases hf:(List.range 300).find? (λ(k:Nat)=>decide (d<ys (1900+(k:Int)+1)))with
 |none=>
  have:=List.find?_eq_none.1 hf 299 o8;simp only[decide_eq_true_eq]at this;have e:ys (1900+(299:Nat)+1)=109573:=by decide+kernel
  omega
 |some k=>
  have h1:=List.find?_some hf;simp only[decide_eq_true_eq]at h1;have h2:=List.mem_of_find?_eq_some hf;simp only[List.mem_range]at h2;simp only[dR];refine⟨o6,o6,?_,?_⟩
  .cases k with
   |zero=>
    have e:ys 1900=0:=by decide+kernel
    simp[e,h0]
   |succ j=>have h3:=List.find?_range_eq_some.1 hf;have h4:=h3.2.2 j o6;simp only[U6,decide_eq_false_iff_not,Int.not_lt]at h4;have e:(((j+1:Nat):Int)+1900)=1900+(j:Int)+1:=o6;rw[e];exact h4
  .have e:(k:Int)+1900+1=1900+k+1:=o6;rw[e];exact h1
def ymd(d:Int):Int×Int×Int:=let y:=yOf d;let r:=mo y 12 (d -ys y);(y,r.2,r.1+1)
theorem Ia(h0:0<=d)(h:d<=109572):kF d=some (ymd d):=by
 obtain⟨y1,y2,y3,y4⟩:=Hu h0 h;have y0:=DK y1;unfold kF kH;rw[eQ (nV h0),F5,nV h,iJ,O8];have e0:D5 .i64 1900 (fM .i64 d 366)=1900+d / 366:=by
  have e:fM .i64 d 366=d / 366:=by rw[Rk (by rw[Cc h0];unfold I64;omega),Cc h0]
  rw[e,jr a4a]
 rw[e0];obtain⟨y,hy,hq⟩:=rU (f:=λ(x:Int)=>l9 (gQ (D5 IntKind.i64 x 1)) λ(x_1:Int)=>o5 (aN x_1 d) (some (Sum.inl (D5 IntKind.i64 x 1))) (some (Sum.inr x))) (s:=1900+d / 366)
  (λy=>1900<=y/\y<=yOf d) (λy=>y=yOf d) (λy=>(2200 -y).toNat) (by
   refine⟨o6,?_⟩;have e:∀n:Nat,ys (1900+n)<=366*n:=by
    intro n;induction n with
    |zero=>decide+kernel|succ n ih=>have:=zy (1900+n);have:=FC (1900+n);have e:(1900:Int)+((n+1:Nat):Int)=1900+n+1:=o6;rw[e];omega
   have e1:=e (d / 366).toNat
   have e2:((d / 366).toNat:Int)=d / 366:=o6;rw[e2]at e1;rcases VJ (yOf d) (1900+d / 366)with hlt|hge
   .have:=qN (y:=yOf d+1) (y' :=1900+d / 366) o6;omega
   .exact hge) o6 (by
   intro y ⟨hy1,hy2⟩
   try simp only
   rw[jr a4a,tN o6 o6,F5];by_cases hle:ys (y+1)<=d
   .refine .inl ⟨y+1,by rw[eQ (nV hle)],⟨o6,?_⟩,o6⟩;rcases VJ (yOf d) (y+1)with hlt|hge
    .have:=qN (y:=yOf d+1) (y' :=y+1) o6;omega
    .exact hge
   .refine .inr ⟨y,by rw[fD (rM o6)],?_⟩;rcases VJ y (yOf d)with hlt|hge
    .have:=qN (y:=y+1) (y' :=yOf d) o6;omega
    .omega)
 rw[hy,F5,hq,tN o6 o6,F5,jw a4a];have hs:=zy (yOf d);have hr:=Tu (yOf d);rcases Nz (f:=λ(x:Int×Int)=>o5 (J4 x.2 12) (l9 (cu (yOf d) (D5 IntKind.i64 x.2 1)) λ(x_1:Int)=>o5 (J4 x.1 x_1) (some (Out.rt (yOf d,D5 IntKind.i64 x.2 1,D5 IntKind.i64 x.1 1))) (some (Out.nx (I4 IntKind.i64 x.1 x_1,D5 IntKind.i64 x.2 1)))) (some (Out.ex PUnit.unit))) (s:=(d -ys (yOf d),0))
  (λs=>∃n:Nat,n<=12/\s.2=12 -n/\mo (yOf d) n s.1=mo (yOf d) 12 (d -ys (yOf d))/\0<=s.1/\s.1<rem (yOf d) n/\s.1<=400) (λ_=>False) (λr=>r=ymd d) (λs=>(12 -s.2).toNat)
  ⟨12,o6,o8,rfl,o6,by rw[hr];show d -ys (yOf d)<_;omega,by have:=FC (yOf d);show d -ys (yOf d)<=400;omega⟩ o8 (by
   rintro⟨r,i⟩ ⟨n,hn,hi,hm,hr0,hrn,hr4⟩;simp only at hi hm hr0 hrn hr4 ⊢;cases n with
   |zero=>simp[rem]at hrn;omega|succ n=>
    have ei:i+1=12 -n:=o6;rw[eQ (xR o6),jr a4a,ei,zB o6 o6,F5];have hb:=Jo (yOf d) (12 -n);rw[Py (yOf d) n r]at hm;by_cases hlt:r<dim (yOf d) (12 -n)
    .rw[if_pos hlt]at hm;refine .inr (.inr ⟨_,by rw[eQ (xR hlt)],?_⟩);rw[jr a4a];unfold ymd
     try simp only
     rw[←hm]
    .rw[if_neg hlt]at hm;refine .inl ⟨_,by rw[fD (II o6),jw a4a],⟨n,o6,o8,hm,?_,?_,?_⟩,?_⟩
     .simp;omega
     .simp only[rem]at hrn ⊢;omega
     .simp;omega
     .simp;omega)with⟨_,_,hf⟩|⟨r,he,hr⟩
 .exact hf.elim
 .rw[he,F5,Vj,hr]
theorem GI(h0:0<=d)(h:d<=109572):uj d=some (ymd d):=by
 obtain⟨y1,y2,y3,y4⟩:=Hu h0 h;have y0:=DK y1;unfold uj pM;rw[eQ (nV h0),F5,nV h,iJ,O8];obtain⟨⟨r,y⟩,hy,hq⟩:=rU (f:=λ(x:Int×Int)=>l9 (ed x.2) λ(x_1:Int)=>o5 (aN x_1 x.1) (l9 (ed x.2) λ(x_2:Int)=>some (Sum.inl (I4 IntKind.i64 x.1 x_2,D5 IntKind.i64 x.2 1))) (some (Sum.inr x))) (s:=(d,1900))
  (λs=>1900<=s.2/\s.2<=yOf d/\s.1=d -ys s.2) (λs=>s=(d -ys (yOf d),yOf d)) (λs=>(2200 -s.2).toNat)
  ⟨o8,by simpa using y1,by(have e:ys 1900=0:=by decide+kernel);simp[e]⟩ o8 (by
   rintro⟨r,y⟩ ⟨h1,h2,h3⟩;simp only at h1 h2 h3 ⊢;have hb:=FC y;have hs:=zy y;have hm:=qN h2;have hpos:0<=ys y:=by
     have:=qN (y:=1900) (y' :=y) h1;have e:ys 1900=0:=by decide+kernel
     omega
   rw[zC o6,F5];by_cases hle:diy y<=r
   .refine .inl ⟨(r -diy y,y+1),?_,⟨by simp;omega,?_,?_⟩,?_⟩
    .rw[eQ (nV hle),F5,jw a4a,jr a4a]
    .simp only;rcases VJ (yOf d) (y+1)with hlt|hge
     .have:=qN (y:=yOf d+1) (y' :=y+1) o6;omega
     .exact hge
    .simp only;omega
    .simp;omega
   .refine .inr ⟨_,by rw[fD (rM o6)],?_⟩;have e:y=yOf d:=QG (d:=d) o6 o6 y3 y4;subst e;rw[h3])
 rw[hy,F5,hq]
 try simp only
 have hs:=zy (yOf d);have hr:=Tu (yOf d);obtain⟨⟨r,m⟩,he,hq2⟩:=rU (f:=λ(x:Int×Int)=>l9 (dG (yOf d) x.2) λ(x_1:Int)=>o5 (aN x_1 x.1) (l9 (dG (yOf d) x.2) λ(x_2:Int)=>some (Sum.inl (I4 IntKind.i64 x.1 x_2,D5 IntKind.i64 x.2 1))) (some (Sum.inr x))) (s:=(d -ys (yOf d),1))
  (λs=>∃n:Nat,n<=12/\s.2=13 -n/\mo (yOf d) n s.1=mo (yOf d) 12 (d -ys (yOf d))/\0<=s.1/\s.1<rem (yOf d) n/\s.1<=400) (λs=>s=mo (yOf d) 12 (d -ys (yOf d))) (λs=>(13 -s.2).toNat)
  ⟨12,o6,o8,rfl,o6,by rw[hr];show d -ys (yOf d)<_;omega,by have:=FC (yOf d);show d -ys (yOf d)<=400;omega⟩ o8 (by
   rintro⟨r,i⟩ ⟨n,hn,hi,hm,hr0,hrn,hr4⟩;simp only at hi hm hr0 hrn hr4 ⊢;cases n with
   |zero=>simp[rem]at hrn;omega|succ n=>
    have ei:i=12 -n:=o6;subst ei;rw[yA o6 o6,F5];have hb:=Jo (yOf d) (12 -n);rw[Py (yOf d) n r]at hm;by_cases hlt:r<dim (yOf d) (12 -n)
    .rw[if_pos hlt]at hm;exact .inr ⟨_,by rw[fD (rM o6)],hm⟩
    .rw[if_neg hlt]at hm;refine .inl ⟨(r -dim (yOf d) (12 -n),12 -n+1),by rw[eQ (nV o6),F5,jw a4a,jr a4a],⟨n,o6,by simp;omega,hm,?_,?_,?_⟩,?_⟩
     .simp;omega
     .simp only[rem]at hrn ⊢;omega
     .simp;omega
     .simp;omega)
 rw[he,F5,hq2];have hb:=Rx (yOf d) 12 (d -ys (yOf d)) o6 o6 (by rw[hr];omega);have hb2:=Jo (yOf d) (mo (yOf d) 12 (d -ys (yOf d))).2;rw[jr a4a];rfl
theorem OB(h0:0<=d)(h:d<=109572):1900<=(ymd d).1/\(ymd d).1<=2199/\1<=(ymd d).2.1/\(ymd d).2.1<=12/\1<=(ymd d).2.2/\(ymd d).2.2<=31:=by
 obtain⟨y1,y2,y3,y4⟩:=Hu h0 h;have y0:=DK y1;have hs:=zy (yOf d);have hb:=Rx (yOf d) 12 (d -ys (yOf d)) o6 o6 (by rw[Tu];omega);have hb2:=Jo (yOf d) (mo (yOf d) 12 (d -ys (yOf d))).2;unfold ymd
 try simp only
 omega
end Gt
namespace Go.GP
open Gt
set_option maxRecDepth 100000
noncomputable def eqB {α:Type} (a b:α):Bool:=@decide (a=b) (Classical.propDecidable _)
variable {α:Type}{a:α}{b:α}
theorem EK :eqB a b=true↔a=b:=by unfold eqB;exact @decide_eq_true_iff _ (Classical.propDecidable _)
theorem OW(h:a=b):eqB a b=true:=EK.2 h
theorem OV(h:a≠b):eqB a b=false:=by
 cases he:eqB a b
 .rfl
 .exact absurd (EK.1 he) h
variable {β:Type}
theorem QZ{c d:β}(h:a=b↔c=d):eqB a b=eqB c d:=by rw[fA,EK,EK];exact h
theorem Vx(a b:List α):eqB (a.map λx=>x) (b.map λx=>x)=eqB a b:=o8
theorem Vq{α β:Type} :∀{a:List α} {b:List β} {i:Nat} {p:α×β},(a.zip b)[i]? =some p->a[i]? =some p.1/\b[i]? =some p.2
 |[],_,i,p,h=>by simp at h|_::_,[],i,p,h=>by simp at h|x::a,y::b,0,p,h=>by simp only[S9,Z4,D6]at h;subst h;exact⟨rfl,rfl⟩|x::a,y::b,i+1,p,h=>by simp only[S9,List.getElem?_cons_succ]at h ⊢;exact Vq h
noncomputable def eqG {α β:Type} (g:α->β) (_:Unit) (p:α×α):Unit⊕Bool:=o5 (eqB (g p.1) (g p.2)) (.inl ()) (.inr false)
theorem OX{α β:Type}(g:α->β):∀{a b:List α},a.length=b.length->zN (eqG g) (a.zip b) ()=o5 (eqB (a.map g) (b.map g)) (.inl ()) (.inr false)
 |[],[],_=>by rw[OW rfl];rfl|[],_::_,h=>by cases h|_::_,[],h=>by cases h|x::a,y::b,h=>by
  have ih:=OX g (a:=a) (b:=b) (by simpa using h);simp only[S9,aY];unfold zN;by_cases e:g x=g y
  .rw[show eqG g () (x,y)= .inl ()from by unfold eqG;rw[OW e];rfl];rw[QZ (show(g x::a.map g=g y::b.map g)↔a.map g=b.map g by rw[e];simp)];exact ih
  .rw[show eqG g () (x,y)= .inr false from by unfold eqG;rw[OV e];rfl];rw[OV (λh=>e (H6 h).1)];rfl
theorem Xj(g:α->β)(q:α->α->Bool)(hq:∀x y,q x y=true↔g x=g y){a b:List α}(hl:a.length<=1000000){f:Int->Option (Out Int PUnit Bool)}
  (hin:∀(i:Nat) x y,a[i]? =some x->b[i]? =some y->f (i:Int)=o5 (F8 (q x y)) (some (.rt false)) (some (.nx (D5 .i64 (i:Int) 1)))) (hend:f (a.length:Int)=some (.ex PUnit.unit)):
  (o5 (F8 (x8 (o9 a) (o9 b))) (some false) (l9 (aC f 0) λo=>az o (λ_=>some true) λr=>some r))=some (eqB (a.map g) (b.map g)):=by
 by_cases hab:a.length=b.length
 .rw[show x8 (o9 a) (o9 b)=true from zO (by simp[o9,hab]),iJ,O8];have hz:(a.zip b).length=a.length:=by simp[hab]
  refine Nw (a.zip b) (eqG g) (λ_ i=>i) (λ_=>PUnit.unit) (λ_ _=>True) () o6 trivial (λi p _ hp hi _=>⟨?_,λ_ _=>trivial⟩) (λ_ _=>?_) (λ_=>?_)
  .obtain⟨h1,h2⟩:=Vq hp;rw[hin i _ _ h1 h2];unfold eqG;cases hqp:q p.1 p.2
   .have:¬g p.1=g p.2:=λe=>by rw[(hq _ _).2 e]at hqp;cases hqp
    rw[OV this];rfl
   .have:=(hq _ _).1 hqp;rw[OW this,iJ,O8,IG (show i<=9000000000000000000 by omega)];rfl
  .rw[hz];exact hend
  .rw[OX g hab];cases eqB (a.map g) (b.map g)<;>rfl
 .rw[show x8 (o9 a) (o9 b)=false from jv (by simp only[o9];omega),ou,U9];rw[OV (λe=>hab (by simpa using congrArg List.length e))]
theorem xY{xs ys:List α}(h:xs.length+ys.length<=1073741824):bQ xs ys=some (xs++ys):=by unfold bQ;rw[if_pos h]
def icS(i:Z7):Bool:=o5 (x8 i.2.2.1 0) (o5 (x8 i.2.2.2.1 0) (F8 (Y2 (x8 i.1.1 i.2.1.1) (Y2 (x8 i.1.2.1 i.2.1.2.1) (x8 i.1.2.2 i.2.1.2.2)))) true) (x8 i.2.2.2.1 0)
theorem Ju(i:Z7):gB i=some (icS i):=by unfold gB icS;cases x8 i.2.2.1 0<;>cases x8 i.2.2.2.1 0<;>rfl
theorem Ij(i:Z7):lZ i=some (icS i):=by unfold lZ icS;cases x8 i.2.2.1 0<;>cases x8 i.2.2.2.1 0<;>rfl
theorem Vy(g:α->β)(q:α->α->Bool)(hq:∀x y,q x y=true↔g x=g y){a b:List α}(hl:a.length<=1000000){f:Int->Option (Out Int PUnit Bool)}
  (hin:∀(i:Nat) x y,a[i]? =some x->b[i]? =some y->f (i:Int)=o5 (J4 (i:Int) (o9 a)) (o5 (J4 (i:Int) (o9 b)) (o5 (F8 (q x y)) (some (.rt false)) (some (.nx (D5 .i64 (i:Int) 1)))) (some (.ex PUnit.unit))) (some (.ex PUnit.unit))) (hend:f (a.length:Int)=some (.ex PUnit.unit)):
  (o5 (F8 (x8 (o9 a) (o9 b))) (some false) (l9 (aC f 0) λo=>az o (λ_=>some true) λr=>some r))=some (eqB (a.map g) (b.map g)):=
 Xj g q hq hl (λi x y hx hy=>by rw[hin i x y hx hy,wu hx,U9,wu hy,U9]) hend
theorem Lu{a:List (List UInt8)}(b:List (List UInt8))(h:a.length<=1000000):qM a b=some (eqB a b):=by
 unfold qM;rw[←Vx];refine Vy (λx=>x) (λx y=>seq x y) (λx y=>Wu) h (λi x y hx hy=>?_) ?_
 .simp only[zl,hx,hy,F5]
 .simp only[zi];rfl
theorem QB{l:List α}{k i:Nat}(h:(l.take k)[i]? =some a):l[i]? =some a/\i<k:=by
 rw[J3]at h;split at h
 .exact⟨h,o6⟩
 .cases h
theorem Vk(l:List α)(k:Nat):(J4 (((l.take k).length:Nat):Int) (o9 l)=false)\/((l.take k).length=k):=by
 by_cases h:l.length<=k
 .left;rw[G8 h];exact zi l
 .right;rw[au];omega
theorem MM:pI=some true:=by decide+kernel
def Hf(L:List Z7):Bool:=bif (L.take 60).any (λx=> !(o5 (J4 60 (o9 x.2.2.2.2)) false (o5 (J4 1125899906842624 x.1.2.2) false (o5 (J4 x.1.2.2 (-1125899906842624)) false (o5 (J4 1125899906842624 x.2.1.2.2) false (F8 (J4 x.2.1.2.2 (-1125899906842624))))))))then false else aN (o9 L) 50
theorem Ug(L:List Z7):tZ L=some (Hf L):=by
 unfold tZ Hf;refine Gs (Vs (L.take 60) (λx=> !(o5 (J4 60 (o9 x.2.2.2.2)) false (o5 (J4 1125899906842624 x.1.2.2) false (o5 (J4 x.1.2.2 (-1125899906842624)) false (o5 (J4 1125899906842624 x.2.1.2.2) false (F8 (J4 x.2.1.2.2 (-1125899906842624)))))))) false PUnit.unit (by rw[au];omega) (λi x hx=>?_) ?_) ?_
 rotate_left 2
 .cases (L.take 60).any _<;>rfl
 .obtain⟨h1,h2⟩:=QB hx;simp only[wu h1,U9,xR (show(i:Int)<60 by omega),zl,h1,F5];cases J4 60 (o9 x.2.2.2.2)
  case true=>rfl
  cases J4 1125899906842624 x.1.2.2
  case true=>rfl
  cases J4 x.1.2.2 (-1125899906842624)
  case true=>rfl
  cases J4 1125899906842624 x.2.1.2.2
  case true=>rfl
  cases J4 x.2.1.2.2 (-1125899906842624)<;>rfl
 .rcases Vk L 60 with h|h
  .rw[h];rfl
  .rw[h];cases J4 ((60:Nat):Int) (o9 L)<;>rfl
theorem NZ{L:List Z7}(h:Hf L=true):L.length<=50/\∀x∈L,x.2.2.2.2.length<=60:=by
 unfold Hf at h;cases h1:(L.take 60).any (λx=> !(o5 (J4 60 (o9 x.2.2.2.2)) false (o5 (J4 1125899906842624 x.1.2.2) false (o5 (J4 x.1.2.2 (-1125899906842624)) false (o5 (J4 1125899906842624 x.2.1.2.2) false (F8 (J4 x.2.1.2.2 (-1125899906842624))))))))<;>rw[h1]at h
 case true=>cases h
 simp only[cond_false,Pg]at h;have hl:L.length<=50:=by simp only[o9]at h;omega
 refine⟨hl,λx hx=>?_⟩;rw[G8 o6]at h1;have:=nH.1 h1 x hx;cases h2:J4 60 (o9 x.2.2.2.2)
 .have h3:¬(60:Int)<o9 x.2.2.2.2:=λe=>by rw[xR e]at h2;cases h2
  simp only[o9]at h3;omega
 .rw[h2]at this;simp[o5]at this
end Go.GP
namespace Gt
open Go Go.GP
variable {n:Int}
theorem VD(h:I64 n):uM n=some (Lib.itoa n):=by unfold uM;rw[if_pos (show -9223372036854775808<=n/\n<=9223372036854775807 from h)]
theorem Ja{s:List UInt8}{c:Nat}(h:c<=1000000)(hs:s.length<=1000000):jH s (c:Int)=some (Lib.repeatL s c):=by
 unfold jH
 have:s.length*c<=1000000*1000000:=Nat.mul_le_mul hs h;rw[if_pos ⟨o6,o6,by rw[bD];omega⟩,bD]
theorem a0Y(x:UInt8)(c:Nat):Lib.repeatL [x] c=List.replicate c x:=by have:=Lib.repeatL_replicate x 1 c;simpa using this
theorem MC{d:Int}(h0:0<=d)(h:d<10):QD (wrap .u8 (D5 .u64 48 d))=UInt8.ofNat (48+d.toNat):=by
 rw[KD (by unfold U64;omega)];have e:wrap .u8 (48+d)=((48+d.toNat:Nat):Int):=by unfold wrap IntKind.wrap;simp[IntKind.signed,IntKind.bits];omega
 rw[e];unfold QD;rw[bD]
theorem WI(n:Int):Fb [n]=[QD n]:=rfl
theorem Ku:∀(k u:Nat),u<k->u<18446744073709551616->gG k (u:Int)=some (Lib.decDigits u)
 |0,u,h,_=>by omega|k+1,u,h,hu=>by
  show nK (gG k) (u:Int)=_;unfold nK;by_cases h10:u<10
  .try simp only[WI]
   rw[eQ (xR o6),MC o6 o6,Lib.decDigits,dif_pos h10,bD]
  .have e1:(u:Int).tdiv 10=((u / 10:Nat):Int):=by rw[Cc o6];omega
   have e2:kN (u:Int) 10=((u % 10:Nat):Int):=by rw[KE o6];omega
   try simp only[WI]
   rw[fD (II o6),Rn (by rw[e1];unfold U64;omega)];rw[e1,Ku k (u / 10) o6 o6,F5,e2,MC o6 o6,J5,F5,bD]
   .congr 1
    conv=>rhs;rw[Lib.decDigits,dif_neg h10]
   .have:=Lib.nDigits_le20 (u / 10) o6;rw[Lib.decDigits_length];simp;omega
theorem xk(h:U64 n):qG n=some (Lib.decDigits n.toNat):=by unfold U64 at h;have:=Ku mZ n.toNat (by unfold mZ;omega) o6;rw[Int.toNat_of_nonneg h.1]at this;exact this
theorem dM(h:I64 n):(Lib.itoa n).length<=21:=Lib.itoa_length_le n h.1 h.2
variable {u:Nat}
theorem oV(h:u<18446744073709551616):1<=(Lib.decDigits u).length/\(Lib.decDigits u).length<=20:=by rw[Lib.decDigits_length];exact⟨Lib.nDigits_pos u,Lib.nDigits_le20 u h⟩
theorem af(h:I64 n):Y0 n=some (Lib.itoa n):=by
 unfold I64 at h;unfold Y0 Lib.itoa;by_cases hn:n<0
 .rw[eQ (xR hn),if_pos hn,jr a4a,jw a4a];rw[show wrap .u64 (0 -(n+1))=0 -(n+1)from Cf (by unfold U64;omega),KD (by unfold U64;omega),xk (by unfold U64;omega),F5];have e:(0 -(n+1)+1).toNat=n.natAbs:=o6;rw[e,J5,F5]
  .rfl
  .have:=(oV (u:=n.natAbs) o6).2;simp;omega
 .rw[fD (II o6),if_neg hn,show wrap .u64 n=n from Cf (by unfold U64;omega),xk (by unfold U64;omega),F5]
theorem V5(h:I64 n):V6 n=some (Lib.itoa n):=by unfold V6;rw[VD h];rfl
def CW(u k:Nat):List UInt8:=
 let d:=List.replicate (k+1 -(Lib.decDigits u).length) 48++Lib.decDigits u
 d.take (d.length -k)++46::d.drop (d.length -k)
def Bh(n:Int)(k:Nat):List UInt8:=if n<0 then 45::CW n.natAbs k else CW n.natAbs k
variable {k:Nat}
theorem Nj(hu:u<18446744073709551616)(hk:k<=9):(CW u k).length<=31:=by have:=oV hu;unfold CW;simp;omega
theorem qP(h:I64 n)(hk:k<=9):(Bh n k).length<=32:=by unfold I64 at h;have:=Nj (u:=n.natAbs) (k:=k) o6 hk;unfold Bh;split<;>simp<;>omega
variable {d:List UInt8}
theorem QT(h1:k<d.length)(h2:d.length<=100):
  jD d 0 (I4 .i64 (o9 d) (k:Int))=some (d.take (d.length -k))/\jD d (I4 .i64 (o9 d) (k:Int)) (o9 d)=some (d.drop (d.length -k)):=by
 have e:I4 .i64 (o9 d) (k:Int)=((d.length -k:Nat):Int):=by rw[jw (by unfold I64 o9;omega)];unfold o9;omega
 rw[e];exact⟨by rw[VI o6 o6];simp,by rw[Df o6 o6];simp⟩
theorem PP{d p:List UInt8}(h1:k<d.length)(h2:d.length<=100)(hp:p.length<=100):
  (l9 (jD d 0 (I4 .i64 (o9 d) (k:Int))) λx=>l9 (X0 p x) λy=>l9 (X0 y [46]) λz=>l9 (jD d (I4 .i64 (o9 d) (k:Int)) (o9 d)) λt=>l9 (X0 z t) λx=>some x)
   =some (p++(d.take (d.length -k)++46::d.drop (d.length -k))):=by
 obtain⟨c1,c2⟩:=QT h1 h2;rw[c1,F5,J5 H7,F5,J5 H7,F5,c2,F5,J5 H7,F5];simp
theorem bF(h:I64 n)(hk:1<=k/\k<=9):Q4 n (k:Int)=some (Bh n k):=by
 have hI:=h;unfold I64 at h;have ek:oG 0 (wo (k:Int) 9)=(k:Int):=by unfold oG wo;split<;>split<;>omega
 unfold Q4 lJ;rw[F5,ek,V5 hI,F5,fD (jv o6)];have hd:=oV (u:=n.natAbs) o6;have rest:∀(d p:List UInt8),1<=d.length->d.length<=20->p.length<=1->
   o5 (aN (o9 d) (k:Int))
    (l9 (jH [48] (I4 .i64 (D5 .i64 (k:Int) 1) (o9 d))) λx3=>l9 (X0 x3 d) λx4=>l9 (jD x4 0 (I4 .i64 (o9 x4) (k:Int))) λx5=>l9 (X0 p x5) λx6=>l9 (X0 x6 [46]) λx7=>
     l9 (jD x4 (I4 .i64 (o9 x4) (k:Int)) (o9 x4)) λx=>l9 (X0 x7 x) λx=>some x)
    (l9 (jD d 0 (I4 .i64 (o9 d) (k:Int))) λx=>l9 (X0 p x) λy=>l9 (X0 y [46]) λz=>l9 (jD d (I4 .i64 (o9 d) (k:Int)) (o9 d)) λt=>l9 (X0 z t) λx=>some x)
   =some (p++(let e:=List.replicate (k+1 -d.length) 48++d;e.take (e.length -k)++46::e.drop (e.length -k))):=by
  intro d p h1 h2 h3;by_cases hle:d.length<=k
  .rw[eQ (nV (by unfold o9;omega))];have e:I4 .i64 (D5 .i64 (k:Int) 1) (o9 d)=((k+1 -d.length:Nat):Int):=by
    rw[jr a4a,jw (by unfold I64 o9;omega)];unfold o9;omega
   rw[e,Ja o6 o8,a0Y,F5,J5 H7,F5];exact PP H7 H7 o6
  .rw[fD (rM (by unfold o9;omega)),PP o6 o6 o6];have:k+1 -d.length=0:=o6;rw[this];simp
 unfold Lib.itoa Bh CW;by_cases hn:n<0
 .rw[if_pos hn,if_pos hn,eQ (xR hn)];have e:jD (45::Lib.decDigits n.natAbs) 1 (o9 (45::Lib.decDigits n.natAbs))=some (Lib.decDigits n.natAbs):=by
   rw[Df o6 H7];simp
  rw[e,F5];exact rest (Lib.decDigits n.natAbs) [45] hd.1 hd.2 o8
 .rw[if_neg hn,if_neg hn,fD (II o6)];have e:n.toNat=n.natAbs:=o6;rw[e];exact rest (Lib.decDigits n.natAbs) [] hd.1 hd.2 o8
theorem Vt :∀(h:d=Lib.decDigits u),∀c∈d,48<=c.toNat/\c.toNat<=57:=by intro h c hc;subst h;rw[Lib.decDigits_eq]at hc;obtain⟨t,_,rfl⟩:=iT.1 hc;unfold Lib.dg;have:u / 10^(Lib.nDigits u -1 -t) % 10<10:=Nat.mod_lt _ o6;generalize u / 10^(Lib.nDigits u -1 -t) % 10=r at this;simp;omega
theorem Fz{c:UInt8}(hc:c∈Lib.decDigits u):48<=c.toNat/\c.toNat<=57:=Vt rfl c hc
theorem GG(h:∀c∈d,48<=c.toNat/\c.toNat<=57)(h1:1<=d.length):oN d=some (d,false):=by
 unfold oN;rw[eQ (xR (by unfold o9;omega))];match d,h1 with
 |c::r,_=>have e:sat (c::r) 0=some (c.toNat:Int):=rfl;have:=h c o8;rw[e,F5,fD (jv o6)]
theorem GH :oN (45::d)=some (d,true):=by unfold oN;rw[eQ (xR (by unfold o9;simp))];have e:sat (45::d) 0=some (45:Int):=rfl;rw[e,F5,eQ (zO rfl),Df o6 H7,F5];simp
theorem VS(hk:k<=100)(hd:d.length<=100):
  Y5 (λ(x_3:List UInt8)=>o5 (aN (o9 x_3) (k:Int)) (l9 (X0 [48] x_3) λ(x:List UInt8)=>some (Sum.inl x)) (some (Sum.inr x_3))) d=some (List.replicate (k+1 -d.length) 48++d):=by
 obtain⟨e,h1,h2⟩:=rU (f:=λ(x_3:List UInt8)=>o5 (aN (o9 x_3) (k:Int)) (l9 (X0 [48] x_3) λ(x:List UInt8)=>some (Sum.inl x)) (some (Sum.inr x_3))) (s:=d)
  (λs=>s.length<=102/\List.replicate (k+1 -s.length) 48++s=List.replicate (k+1 -d.length) 48++d) (λe=>e=List.replicate (k+1 -d.length) 48++d) (λs=>k+1 -s.length) ⟨o6,rfl⟩ o6 (by
   intro s ⟨hs,he⟩;by_cases hle:s.length<=k
   .refine .inl ⟨48::s,?_,⟨by simp;omega,?_⟩,by simp;omega⟩
    .rw[eQ (nV (by unfold o9;omega)),J5 H7];rfl
    .rw[←he];have e1:k+1 -s.length=(k+1 -(48::s).length)+1:=by simp;omega
     rw[e1,iG];simp
   .refine .inr ⟨s,?_,?_⟩
    .rw[fD (rM (by unfold o9;omega))]
    .rw[←he,show k+1 -s.length=0 by omega];simp)
 rw[h1,h2]
theorem iY(h:I64 n)(hk:1<=k/\k<=9):Z9 n (k:Int)=some (Bh n k):=by
 have hI:=h;unfold I64 at h;have ek:wo (oG (k:Int) 0) 9=(k:Int):=by unfold oG wo;split<;>split<;>omega
 unfold Z9 yz;have hd:=oV (u:=n.natAbs) o6;rw[F5,ek,fD (jv o6),af hI,F5];have rest:∀(d:List UInt8) (b:Bool),1<=d.length->d.length<=20->
   (l9 (Y5 (λ(x_3:List UInt8)=>o5 (aN (o9 x_3) (k:Int)) (l9 (X0 [48] x_3) λ(x:List UInt8)=>some (Sum.inl x)) (some (Sum.inr x_3))) (d,b).1) λ(y:List UInt8)=>
    l9 (jD y 0 (I4 .i64 (o9 y) (k:Int))) λ(x_3:List UInt8)=>l9 (X0 x_3 [46]) λ(x_4:List UInt8)=>l9 (jD y (I4 .i64 (o9 y) (k:Int)) (o9 y)) λ(x:List UInt8)=>
     l9 (X0 x_4 x) λ(x:List UInt8)=>o5 (d,b).2 (l9 (X0 [45] x) λ(x:List UInt8)=>some x) (some x))
   =some ((if b then[45]else[])++(let e:=List.replicate (k+1 -d.length) 48++d;e.take (e.length -k)++46::e.drop (e.length -k))):=by
  intro d b h1 h2;rw[VS (d:=d) o6 o6,F5];generalize he:List.replicate (k+1 -d.length) 48++d=e;have hl:k<e.length/\e.length<=40:=by subst he;simp;omega
  obtain⟨c1,c2⟩:=QT hl.1 o6;rw[c1,F5,J5 H7,F5,c2,F5,J5 H7,F5];cases b
  .simp
  .show l9 (X0 [45] _) _=_;rw[J5 H7,F5];simp
 unfold Lib.itoa Bh CW;by_cases hn:n<0
 .rw[if_pos hn,if_pos hn,GH,F5];exact rest (Lib.decDigits n.natAbs) true hd.1 hd.2
 .rw[if_neg hn,if_neg hn];have e:n.toNat=n.natAbs:=o6;rw[e,GG (λc hc=>Fz hc) hd.1,F5];exact rest (Lib.decDigits n.natAbs) false hd.1 hd.2
def NJ(n:Int)(w:Nat):List UInt8:=List.replicate (w -(Lib.itoa n).length) 48++Lib.itoa n
variable {w:Nat}
theorem nJ(h:I64 n)(hw:w<=4):(NJ n w).length<=25:=by have:=dM h;unfold NJ;simp;omega
theorem xM(h:I64 n)(hw:w<=4):rq n (w:Int)=some (NJ n w):=by
 have hl:=dM h;unfold rq;rw[V5 h,F5];have e:oG 0 (I4 .i64 (w:Int) (o9 (Lib.itoa n)))=((w -(Lib.itoa n).length:Nat):Int):=by rw[jw (by unfold I64 o9;omega)];unfold oG o9;split<;>omega
 rw[e,Ja o6 o8,a0Y,F5,J5 H7,F5];rfl
theorem wF(h:I64 n)(hw:w<=4):oO n (w:Int)=some (NJ n w):=by
 have hl:=dM h;unfold oO;rw[af h,F5];show _=some (List.replicate (w -(Lib.itoa n).length) 48++Lib.itoa n);generalize Lib.itoa n=d at hl ⊢;obtain⟨e,h1,h2⟩:=rU (f:=λ(x:List UInt8)=>o5 (J4 (o9 x) (w:Int)) (l9 (X0 [48] x) λ(x:List UInt8)=>some (Sum.inl x)) (some (Sum.inr x))) (s:=d)
  (λs=>s.length<=30/\List.replicate (w -s.length) 48++s=List.replicate (w -d.length) 48++d) (λe=>e=List.replicate (w -d.length) 48++d) (λs=>w -s.length) ⟨o6,rfl⟩ o6 (by
   intro s ⟨hs,he⟩;by_cases hle:s.length<w
   .refine .inl ⟨48::s,?_,⟨by simp;omega,?_⟩,by simp;omega⟩
    .rw[eQ (xR (by unfold o9;omega)),J5 H7];rfl
    .rw[←he];have e1:w -s.length=(w -(48::s).length)+1:=by simp;omega
     rw[e1,iG];simp
   .refine .inr ⟨s,?_,?_⟩
    .rw[fD (II (by unfold o9;omega))]
    .rw[←he,show w -s.length=0 by omega];simp)
 rw[h1,F5,h2]
def uP(d:Int):List UInt8:=if 0<=d/\d<=109572 then NJ (ymd d).1 4++45::NJ (ymd d).2.1 2++45::NJ (ymd d).2.2 2 else[]
theorem WL{a b c:List UInt8}(ha:a.length<=100)(hb:b.length<=100)(hc:c.length<=100){A C B:Option (List UInt8)}(eb:B=some b)(ec:C=some c):
  (l9 (X0 a [45]) λx2=>l9 B λx3=>l9 (X0 x2 x3) λx4=>l9 (X0 x4 [45]) λx5=>l9 C λx=>l9 (X0 x5 x) λx=>some x)=some (a++45::b++45::c):=by
 rw[J5 H7,F5,eb,F5,J5 H7,F5,J5 H7,F5,ec,F5,J5 H7,F5];simp
theorem lg(h1:-1000000<=n)(h2:n<=1000000):I64 n:=by unfold I64;omega
theorem xJ(d:Int):tC d=some (uP d):=by
 unfold tC kH uP;by_cases h0:0<=d
 .rw[eQ (nV h0),F5];by_cases h:d<=109572
  .rw[nV h,iJ,O8,Ia h0 h,F5,if_pos ⟨h0,h⟩];have hb:=OB h0 h;have p1:=lg (n:=(ymd d).1) o6 o6;have p2:=lg (n:=(ymd d).2.1) o6 o6;have p3:=lg (n:=(ymd d).2.2) o6 o6;rw[show rq (ymd d).1 4=_ from xM (w:=4) p1 o6,F5];have l1:=nJ (w:=4) p1 o6;have l2:=nJ (w:=2) p2 o6;have l3:=nJ (w:=2) p3 o6;exact WL (A:=none) o6 o6 o6 (xM (w:=2) p2 o6) (xM (w:=2) p3 o6)
  .rw[rM o6,ou,U9,if_neg o6]
 .rw[fD (rM o6),F5,ou,U9,if_neg o6]
theorem EF(d:Int):qH d=some (uP d):=by
 unfold qH pM uP;by_cases h0:0<=d
 .rw[eQ (nV h0),F5];by_cases h:d<=109572
  .rw[nV h,iJ,O8,GI h0 h,F5,if_pos ⟨h0,h⟩];have hb:=OB h0 h;have p1:=lg (n:=(ymd d).1) o6 o6;have p2:=lg (n:=(ymd d).2.1) o6 o6;have p3:=lg (n:=(ymd d).2.2) o6 o6;rw[show oO (ymd d).1 4=_ from wF (w:=4) p1 o6,F5];have l1:=nJ (w:=4) p1 o6;have l2:=nJ (w:=2) p2 o6;have l3:=nJ (w:=2) p3 o6;exact WL (A:=none) o6 o6 o6 (wF (w:=2) p2 o6) (wF (w:=2) p3 o6)
  .rw[rM o6,ou,U9,if_neg o6]
 .rw[fD (rM o6),F5,ou,U9,if_neg o6]
theorem Jn(d:Int):(uP d).length<=100:=by
 unfold uP;split
 .rename_i h;have hb:=OB h.1 h.2;have l1:=nJ (w:=4) (lg (n:=(ymd d).1) o6 o6) o6;have l2:=nJ (w:=2) (lg (n:=(ymd d).2.1) o6 o6) o6;have l3:=nJ (w:=2) (lg (n:=(ymd d).2.2) o6 o6) o6;simp;omega
 .simp
theorem nS(t:Int×Int)(en:List dB):V9 t en=bz t en:=by
 unfold V9 bz;by_cases h1:t.1=1
 .simp[x8,h1,aN]
 by_cases h2:t.1=2
 .simp[x8,h2,aN]
 by_cases h3:t.1=3
 .simp[x8,h3,aN]
 by_cases h4:t.1=4
 .simp[x8,h4,aN]
 by_cases h5:t.1=5
 .simp[x8,h5,aN]
 by_cases h6:t.1=6
 .simp[x8,h6,aN]
 .simp only[x8,h1,h2,h3,h4,h5,h6,decide_false,O8,F5];by_cases h7:1<=t.1
  .rw[eQ (nV h7),fD (rM o6)]
  .rw[fD (rM o6)]
theorem Ir(t:Int×Int)(en:List dB):dJ t en=lh t en:=by unfold dJ lh;rw[nS]
theorem QF(n:Int)(t:Int×Int)(en:List dB):lw n t en=BL n t en:=by unfold lw BL;rw[Ir]
theorem EH{v:N8}(en:List dB)(h:I64 v.2.2):jM v en=nM v en:=by
 unfold jM nM oP;rw[F5,nS];cases hv:bz (v.1,v.2.1) en with
 |none=>rfl|some b=>
  rw[F5,F5];cases b with
  |false=>rfl|true=>
   rw[iJ,O8,O8];have e:uk v en=lw v.2.2 (v.1,v.2.1) en:=by unfold uk oP;rw[F5,hv,F5,U9,F5,RD,QF]
   rw[e,V5 h,af h,show Q4 v.2.2 2=_ from bF (k:=2) h o6,show Z9 v.2.2 2=_ from iY (k:=2) h o6,
    show Q4 v.2.2 4=_ from bF (k:=4) h o6,show Z9 v.2.2 4=_ from iY (k:=4) h o6,xJ,EF]
theorem EI{B:Nat}(hB:100<=B)(hB2:B<=200000000000000){v:Int×Int×Int}{en:List dB}(h:I64 v.2.2)(hm:∀e∈en,e.2.length<=B/\∀m∈e.2,m.length<=B):∃t,jM v en=some t/\t.1.length<=B:=by
 unfold jM
 cases hv:V9 (v.1,v.2.1) en with
 |none=>
  exfalso;rw[nS]at hv;unfold bz at hv;simp only[qX]at hv
  repeat' split at hv
  all_goals cases hv
 |some b=>
  rw[F5];cases b with
  |false=>exact⟨_,rfl,o8⟩|true=>
   rw[iJ,O8];unfold lw dJ;rw[hv];simp only[F5,iJ,O8];have f1:=dM h;have f2:=qP (k:=2) h o6;have f4:=qP (k:=4) h o6;have f5:=Jn v.2.2;rw[V5 h,show Q4 v.2.2 2=_ from bF (k:=2) h o6,show Q4 v.2.2 4=_ from bF (k:=4) h o6,xJ];simp only[F5];rw[J5 (a:=Bh v.2.2 4) H7];simp only[F5];by_cases h1:v.1=1
   .simp only[zO h1,U9,F5];simp only[bb,F5];simp only[qX];repeat' split
    all_goals exact⟨_,rfl,by first|omega|(simp<;>omega)⟩
   by_cases h2:v.1=2
   .simp only[jv h1,zO h2,U9,O8,F5];simp only[bb,F5];simp only[qX];repeat' split
    all_goals exact⟨_,rfl,by first|omega|(simp<;>omega)⟩
   by_cases h3:v.1=3
   .simp only[jv h1,jv h2,zO h3,U9,O8,F5];simp only[bb,F5];simp only[qX];repeat' split
    all_goals exact⟨_,rfl,by first|omega|(simp<;>omega)⟩
   by_cases h4:v.1=4
   .simp only[jv h1,jv h2,jv h3,zO h4,U9,O8,F5];simp only[bb,F5];simp only[qX];repeat' split
    all_goals exact⟨_,rfl,by first|omega|(simp<;>omega)⟩
   by_cases h5:v.1=5
   .simp only[jv h1,jv h2,jv h3,jv h4,zO h5,U9,O8,F5];simp only[bb,F5];simp only[qX];repeat' split
    all_goals exact⟨_,rfl,by first|omega|(simp<;>omega)⟩
   .simp only[jv h1,jv h2,jv h3,jv h4,jv h5,O8];have hk:v.1=6/\0<=v.2.1/\v.2.1<o9 en:=by
     unfold V9 at hv;simp only[jv h1,jv h2,jv h3,jv h4,jv h5,O8,F5]at hv;simp only[qX,VA,Pg]at hv;split at hv
     .split at hv
      .simp only[D6,VB]at hv;exact⟨by assumption,by assumption,hv⟩
      .cases hv
     .cases hv
    obtain⟨e,he,hmem⟩:=Rt hk.2.1 hk.2.2;rw[he];simp only[F5];have hle:=(hm e hmem).1;have hll:o9 e.2=(e.2.length:Int):=rfl;rw[jw a4a];by_cases hw0:0<=v.2.2
    .by_cases hw1:v.2.2<=o9 e.2 -1
     .rw[nV hw0,U9,nV hw1,F5,iJ,O8];obtain⟨m,hm1,hm2⟩:=Rt (l:=e.2) hw0 o6;rw[hm1];exact⟨_,rfl,(hm e hmem).2 m hm2⟩
     .rw[nV hw0,U9,rM (Int.not_le.1 hw1),F5,ou,U9];exact⟨_,rfl,o8⟩
    .rw[rM (Int.not_le.1 hw0),O8];exact⟨_,rfl,o8⟩
end Gt
namespace Go.GP
open Gt
set_option maxRecDepth 100000
theorem Oz(c:UInt8):QD (c.toNat:Int)=c:=by unfold QD;simp
theorem PX(s:List UInt8):Fb (oI s)=s:=by
 unfold Fb oI;rw[List.map_map]
 conv=>rhs;rw[←List.map_id s]
 apply List.map_congr_left;intro c _;exact Oz c
theorem KJ(a b:List UInt8):oI (a++b)=oI a++oI b:=by unfold oI;rw[iR]
theorem pK(a:List UInt8):(oI a).length=a.length:=by unfold oI;rw[Q8]
structure SmI (x:Z7) (B:Nat):Prop where
 io:I64 x.1.2.2
 ine:I64 x.2.1.2.2
 co:I64 x.2.2.1
 cne:I64 x.2.2.2.1
 rs:x.2.2.2.2.length<=60
 nm:∀r∈x.2.2.2.2,r.1.length<=B/\r.2.1.length<=B
def oh(v:N8)(c:Int)(en:List dB):List UInt8:=o5 (F8 (x8 c 0)) ([101,114,114,111,114,32]++Lib.itoa c) (match jM v en with|some t=>o5 (F8 (x8 t.2 0)) [63] t.1|none=>[])
def xx(b:List UInt8×Bool)(r:aJ):List UInt8×Bool:=(b.1++o5 b.2 [32,98,121,32] [44,32]++r.1++[46]++r.2.1,false)
theorem Lr{B:Nat}{x:Z7}(hx:SmI x B):∀(l:List aJ),(∀r∈l,r∈x.2.2.2.2)->∀(b:List UInt8×Bool),(l.foldl xx b).1.length<=b.1.length+l.length*(2*B+5)
 |[],_,b=>by simp|r::l,h,b=>by
  obtain⟨h1,h2⟩:=hx.nm r (h r o8);have:=Lr hx l (λq hq=>h q (by simp[hq])) (xx b r);have hl:(xx b r).1.length<=b.1.length+(2*B+5):=by unfold xx;cases b.2<;>simp[o5]<;>omega
  simp only[iQ,F9,E5,L6];omega
def JD(i:Nat):List UInt8:=[99,97,115,101,32]++Lib.itoa (i:Int)++[58,32]
theorem Ls(p:List UInt8):∀(l:List aJ) (b:List UInt8×Bool),l.foldl xx (p++b.1,b.2)=(p++(l.foldl xx b).1,(l.foldl xx b).2)
 |[],b=>rfl|r::l,b=>by rw[iQ,iQ,←Ls p l (xx b r)];congr 1;unfold xx;simp only[N9]
theorem Lc{i:Nat}(h:i<=1000):(JD i).length<=30:=by have:=dM (n:=(i:Int)) a4a;unfold JD;simp;omega
variable {L:List Z7}{t:U5}
section
variable {B:Nat} (hB:100<=B) (hB2:B<=2000000) {en:List dB} (hm:∀e∈en,e.2.length<=B/\∀m∈e.2,m.length<=B)
include hB hB2 hm
theorem zu{v:N8}{c:Int}(hv:I64 v.2.2)(hc:I64 c):jT v c en=some (oh v c en)/\sF v c en=some (oh v c en)/\(oh v c en).length<=B:=by
 have li:=dM hc;obtain⟨t,h1,h2⟩:=EI hB o6 hv hm;have h1' :nM v en=some t:=by rw[←EH en hv];exact h1
 unfold jT sF oh;rw[V5 hc,af hc,h1,h1',F5,F5,J5 H7];cases F8 (x8 c 0)
 .simp only[O8,F5];cases F8 (x8 t.2 0)
  .exact⟨rfl,rfl,h2⟩
  .exact⟨rfl,rfl,by simp[o5];omega⟩
 .exact⟨rfl,rfl,by simp[o5];omega⟩
def VG(x:Z7)(en:List dB):List UInt8:=(x.2.2.2.2.foldl xx (oh x.1 x.2.2.1 en++[32,45,62,32]++oh x.2.1 x.2.2.2.1 en,true)).1
theorem KL{x:Z7}(hx:SmI x B):(VG x en).length<=1000000000:=by obtain⟨_,_,s1⟩:=zu hB hB2 hm (v:=x.1) hx.io hx.co;obtain⟨_,_,s2⟩:=zu hB hB2 hm (v:=x.2.1) hx.ine hx.cne;have:=Lr hx x.2.2.2.2 (λr hr=>hr) (oh x.1 x.2.2.1 en++[32,45,62,32]++oh x.2.1 x.2.2.2.1 en,true);have hr:=hx.rs;have h60:x.2.2.2.2.length*(2*B+5)<=60*(2*B+5):=x9 _ hr;unfold VG;simp only[G7,F9,V3]at this;omega
theorem VH{x:Z7}(hx:SmI x B):mg x en=some (VG x en):=by
 obtain⟨e1,_,s1⟩:=zu hB hB2 hm (v:=x.1) hx.io hx.co;obtain⟨e2,_,s2⟩:=zu hB hB2 hm (v:=x.2.1) hx.ine hx.cne;have hr:=hx.rs;unfold mg;rw[e1,F5,J5 H7,F5,e2,F5,J5 H7,F5];refine FZ x.2.2.2.2 xx (λ(b:List UInt8×Bool) i=>(oI b.1,i)) (λb=>oI b.1) (λi b=>b.2=decide (i=0)/\b.1.length<=5000000+i*(2*B+5)) (oh x.1 x.2.2.1 en++[32,45,62,32]++oh x.2.1 x.2.2.2.1 en,true) o6 ⟨rfl,by simp;omega⟩ (λi r b hri hi hb=>?_) (λb _=>?_) (λ_=>?_)
 .obtain⟨h1,h2⟩:=hb;obtain⟨n1,n2⟩:=hx.nm r (CY hri);have hil:=(eY.1 hri).1;have h60:i*(2*B+5)<=60*(2*B+5):=x9 _ o6;have hl:(xx b r).1.length<=b.1.length+(2*B+5):=by
   unfold xx;cases b.2<;>simp[o5]<;>omega
  refine⟨?_,rfl,?_⟩
  rotate_left
  .rw[E5,L6];omega
  simp only[wu hri,U9,zl,hri,F5,IG (show i<=9000000000000000000 by omega)];unfold xx;rw[h1];by_cases hi0:i=0
  .subst hi0;rw[zO (show((0:Nat):Int)=0 from rfl)];simp only[U9,decide_true];rw[xY (by simp[pK];omega),F5,xY (by simp[pK];omega),F5,xY (by simp[pK];omega),F5,xY (by simp[pK];omega),F5];simp only[KJ];rfl
  .rw[jv (show ¬(i:Int)=0 by omega)];simp only[hi0,decide_false,O8];rw[xY (by simp[pK];omega),F5,xY (by simp[pK];omega),F5,xY (by simp[pK];omega),F5,xY (by simp[pK];omega),F5];simp only[KJ];rfl
 .simp only[zi];rfl
 .rw[PX];rfl
abbrev LS:=List (List UInt8)
def Jr(en:List dB)(acc:LS)(i:Nat)(x:Z7):LS:=o5 (icS x) (acc++[JD i++VG x en]) acc
def OY(t:U5):List UInt8:=[99,97,115,101,115,32]++Lib.itoa t.1++[32,99,104,97,110,103,101,100,32]++Lib.itoa t.2.1++[32,103,97,105,110,101,100,32]++Lib.itoa t.2.2.1++[32,114,101,100,117,99,101,100,32]++Lib.itoa t.2.2.2.1++[32,102,97,105,108,101,100,32]++Lib.itoa t.2.2.2.2.1
def PO(t:U5):List UInt8:=[111,108,100,32]++Bh t.2.2.2.2.2.1 2++[32,110,101,119,32]++Bh t.2.2.2.2.2.2 2
def Vz(L:List Z7)(t:U5)(en:List dB):LS:=Bi (Jr en) L 0 [OY t,PO t]
structure SmT (t:U5):Prop where
 a:I64 t.1
 b:I64 t.2.1
 c:I64 t.2.2.1
 d:I64 t.2.2.2.1
 e:I64 t.2.2.2.2.1
 f:I64 t.2.2.2.2.2.1
 g:I64 t.2.2.2.2.2.2
theorem Xl(ht:SmT t)(hl:L.length<=50)(hL:∀x∈L,SmI x B):ja L t en=some (Vz L t en):=by
 have l1:=dM ht.a;have l2:=dM ht.b;have l3:=dM ht.c;have l4:=dM ht.d;have l5:=dM ht.e;have l6:=qP (k:=2) ht.f o6;have l7:=qP (k:=2) ht.g o6;unfold ja
 rw[V5 ht.a,V5 ht.b,V5 ht.c,V5 ht.d,V5 ht.e,show Q4 t.2.2.2.2.2.1 2=_ from bF (k:=2) ht.f o6,show Q4 t.2.2.2.2.2.2 2=_ from bF (k:=2) ht.g o6];simp only[F5];rw[J5 H7,F5,J5 H7,F5,J5 H7,F5,J5 H7,F5,J5 H7,F5,J5 H7,F5,J5 H7,F5,J5 H7,F5,J5 H7,F5,J5 H7,F5,J5 H7,F5,J5 H7,F5];rw[show pR 2 (D5 .i64 2 (o9 L)) 1073741824=true from by rw[jr (show I64 (2+o9 L) by unfold I64 o9;omega)];unfold pR o9;rw[decide_eq_true_eq];omega,U9]
 rw[show qg 2 ([]:List UInt8)=some [[],[]]from by unfold qg;rw[if_pos o6];rfl,F5];refine Gs (Eb L (Jr en) (λb=>b) _ (λi b=>b.length<=2+i) (b:=[OY t,PO t]) o6 o8 (λb i x hx hb=>?_) (λb hb=>?_)).1 rfl
 .have hil:=(eY.1 hx).1;have hsx:=hL x (CY hx);have hp:=Lc (i:=i) o6;have hli:=KL hB hB2 hm hsx;have hii:=dM (n:=(i:Int)) a4a;simp only[wu hx,U9,zl,hx,F5,Ju,IG (show i<=9000000000000000000 by omega)];unfold Jr;cases icS x
  .exact⟨rfl,by simp only[O8];omega⟩
  .rw[V5 (show I64 (i:Int) by unfold I64;omega),VH hB hB2 hm hsx];simp only[U9,F5];rw[J5 H7,F5,J5 H7,F5,J5 (by unfold JD at hp;simp only[G7,F9,V3]at hp ⊢;omega),F5,xY (by simp only[F9,V3];omega),F5];exact⟨rfl,by simp only[G7,F9,V3];omega⟩
 .simp only[zi];rfl
theorem VV(ht:SmT t)(hl:L.length<=50)(hL:∀x∈L,SmI x B):qJ L t en=some (Vz L t en):=by
 have l1:=dM ht.a;have l2:=dM ht.b;have l3:=dM ht.c;have l4:=dM ht.d;have l5:=dM ht.e;have l6:=qP (k:=2) ht.f o6;have l7:=qP (k:=2) ht.g o6;unfold qJ
 rw[af ht.a,af ht.b,af ht.c,af ht.d,af ht.e,show Z9 t.2.2.2.2.2.1 2=_ from iY (k:=2) ht.f o6,show Z9 t.2.2.2.2.2.2 2=_ from iY (k:=2) ht.g o6];simp only[F5];rw[J5 H7,F5,J5 H7,F5,J5 H7,F5,J5 H7,F5,J5 H7,F5,J5 H7,F5,J5 H7,F5,J5 H7,F5,J5 H7,F5,J5 H7,F5,J5 H7,F5,J5 H7,F5,xY o8,F5];refine Gs (Eb L (Jr en) (λb=>b) _ (λi b=>b.length<=2+i) (b:=[OY t,PO t]) o6 o8 (λb i x hx hb=>?_) (λb hb=>?_)).1 rfl
 .have hil:=(eY.1 hx).1;have hsx:=hL x (CY hx);have hp:=Lc (i:=i) o6;have hli:=KL hB hB2 hm hsx;have hii:=dM (n:=(i:Int)) a4a;have hr:=hsx.rs;obtain⟨_,e1,s1⟩:=zu hB hB2 hm (v:=x.1) hsx.io hsx.co;obtain⟨_,e2,s2⟩:=zu hB hB2 hm (v:=x.2.1) hsx.ine hsx.cne;simp only[wu hx,U9,zl,hx,F5,Ij,IG (show i<=9000000000000000000 by omega)];unfold Jr;cases icS x
  .exact⟨rfl,by simp only[O8];omega⟩
  .rw[af (show I64 (i:Int) by unfold I64;omega),e1,e2];simp only[U9,iJ,O8,F5];refine⟨?_,by simp only[G7,F9,V3];omega⟩;rw[J5 H7,F5,J5 H7,F5,J5 H7,F5,J5 H7,F5,J5 H7,F5];have hst:JD i++oh x.1 x.2.2.1 en++[32,45,62,32]++oh x.2.1 x.2.2.2.1 en=JD i++(oh x.1 x.2.2.1 en++[32,45,62,32]++oh x.2.1 x.2.2.2.1 en):=by simp only[N9]
   rw[show([99,97,115,101,32]++Lib.itoa (i:Int)++[58,32]:List UInt8)=JD i from rfl,hst];refine FZ x.2.2.2.2 xx (λ(b:List UInt8×Bool) i=>(b.1,i)) (λb=>b.1) (λi b=>b.2=decide (i=0)/\b.1.length<=5000000+i*(2*B+5)) (JD i++(oh x.1 x.2.2.1 en++[32,45,62,32]++oh x.2.1 x.2.2.2.1 en),true) o6 ⟨rfl,by simp;omega⟩ (λj r c hrj hj hc=>?_) (λc _=>?_) (λ_=>?_)
   .obtain⟨h1,h2⟩:=hc;obtain⟨n1,n2⟩:=hsx.nm r (CY hrj);have hjl:=(eY.1 hrj).1;have h60:j*(2*B+5)<=60*(2*B+5):=x9 _ o6;have hl:(xx c r).1.length<=c.1.length+(2*B+5):=by
     unfold xx;cases c.2<;>simp[o5]<;>omega
    refine⟨?_,rfl,?_⟩
    rotate_left
    .rw[E5,L6];omega
    simp only[wu hrj,U9,zl,hrj,F5,IG (show j<=9000000000000000000 by omega)];unfold xx;rw[h1];by_cases hj0:j=0
    .subst hj0;rw[zO (show((0:Nat):Int)=0 from rfl)];simp only[U9,decide_true];rw[J5 H7,F5,J5 H7,F5,J5 H7,F5,J5 H7,F5]
    .rw[jv (show ¬(j:Int)=0 by omega)];simp only[hj0,decide_false,O8];rw[J5 H7,F5,J5 H7,F5,J5 H7,F5,J5 H7,F5]
   .simp only[zi];rfl
   .rw[Ls (JD i) x.2.2.2.2 (oh x.1 x.2.2.1 en++[32,45,62,32]++oh x.2.1 x.2.2.2.1 en,true)];rw[xY (by simp only[F9,V3];omega),F5];rfl
 .simp only[zi];rfl
end
theorem KA(en:List dB):∀(L:List Z7) (i:Nat) (b:LS),(Bi (Jr en) L i b).length<=b.length+L.length
 |[],i,b=>by simp[Bi]|x::L,i,b=>by
  have:=KA en L (i+1) (Jr en b i x);have h2:(Jr en b i x).length<=b.length+1:=by unfold Jr;cases icS x<;>simp[o5]
  simp only[Bi,F9];omega
theorem Nk{en:List dB}(ht:SmT t)(hI:∀x∈L,I64 x.1.2.2/\I64 x.2.1.2.2/\I64 x.2.2.1/\I64 x.2.2.2.1/\∀r∈x.2.2.2.2,r.1.length<=1048576/\r.2.1.length<=1048576)(hm:∀e∈en,e.2.length<=1048576/\∀m∈e.2,m.length<=1048576):jK L t en=some true:=by
 unfold jK
 rw[Ug,F5,MM];cases hf:Hf L
 .rfl
 simp only[iJ,O8];cases J4 20 (o9 en)
 case true=>rfl
 obtain⟨h1,h2⟩:=NZ hf;have hL:∀x∈L,SmI x 1048576:=λx hx=>by obtain⟨a,b,c,d,e⟩:=hI x hx;exact⟨a,b,c,d,h2 x hx,e⟩
 simp only[O8];rw[Xl (B:=1048576) o6 o6 hm ht h1 hL,VV (B:=1048576) o6 o6 hm ht h1 hL,F5,F5];have:=KA en L 0 [OY t,PO t];rw[Lu _ (show(Vz L t en).length<=1000000 by unfold Vz;simp at this;omega),OW rfl];rfl
end Go.GP
namespace Go.GP
open Gt
theorem xw:∀x,MF Gt.ps3 x->Fa 1048576 Gt.ps3 x->(Gt.s3.fn x:Option Bool)=some true:=λx h hb=>
 Nk (L:=x.1) (t:=x.2.1) (en:=x.2.2) ⟨sS h.2.1.1,sS h.2.1.2.1,sS h.2.1.2.2.1,sS h.2.1.2.2.2.1,sS h.2.1.2.2.2.2.1,sS h.2.1.2.2.2.2.2.1,sS h.2.1.2.2.2.2.2.2⟩
  (λy hy=>⟨sS (h.1.2 y hy).1.2.2,sS (h.1.2 y hy).2.1.2.2,sS (h.1.2 y hy).2.2.1,sS (h.1.2 y hy).2.2.2.1,λr hr=>⟨((hb.1.2 y hy).2.2.2.2.2 r hr).1,((hb.1.2 y hy).2.2.2.2.2 r hr).2.1⟩⟩)
  (λe he=>(hb.2.2.2 e he).2)
end Go.GP
