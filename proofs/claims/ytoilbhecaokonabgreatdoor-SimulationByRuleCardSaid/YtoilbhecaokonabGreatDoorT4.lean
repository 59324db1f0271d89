import Derived.Test.YtoilbhecaokonabGreatDoorT1
import Derived.Test.YtoilbhecaokonabGreatDoorT2
set_option linter.all false
namespace Go.GP
variable {a:Int}{b:Int}
section
variable {α β σ ε ρ:Type}
@[simp] theorem mD (x:α) (f:α->Option β):l7 (some x) f=f x:=rfl
@[simp] theorem We (f:α->Option β):l7 none f=none:=rfl
theorem Qx{o o' :Option α}(h:o=o'){K:α->Option β}{r:Option β}(h2:l7 o' K=r):l7 o K=r:=by rw[h];exact h2
@[simp] theorem V5 (x y:α):l9 true x y=x:=rfl
@[simp] theorem U6 (x y:α):l9 false x y=y:=rfl
@[simp] theorem a2k (s:σ) (f:σ->α) (g:ε->α):Y9 (.inl s) f g=f s:=rfl
@[simp] theorem Ua (s:ε) (f:σ->α) (g:ε->α):Y9 (.inr s) f g=g s:=rfl
@[simp] theorem ny:F5 true=false:=rfl
@[simp] theorem ql:F5 false=true:=rfl
theorem NI(h:a<b):J4 a b=true:=by simp[J4,h]
theorem Vl(h:b<=a):J4 a b=false:=by simp[J4];omega
theorem Yy(h:a<=b):bG a b=true:=by simp[bG,h]
theorem Yx(h:b<a):bG a b=false:=by simp[bG];omega
theorem Qo(h:a=b):o8 a b=true:=by simp[o8,h]
theorem Qn(h:a≠b):o8 a b=false:=by simp[o8,h]
theorem Ur :bG a b=true↔a<=b:=by simp[bG]
theorem Ap :o8 a b=true↔a=b:=by simp[o8]
theorem Og{a b:List UInt8} :seq a b=true↔a=b:=by simp[seq]
def I64(n:Int):Prop:=-9223372036854775808<=n/\n<=9223372036854775807
theorem Yp{p:Int}(h:I64 p:=by unfold I64;omega):I64 p:=h
theorem Ug{n:Int}(h:I64 n):IntKind.wrap .i64 n=n:=by unfold I64 at h;unfold IntKind.wrap;simp[IntKind.signed,IntKind.bits];omega
theorem Qm(h:I64 (a+b)):D5 .i64 a b=a+b:=Ug h
theorem nV(l:List α)(i:Nat):J3 l (i:Int)=l[i]?:=by simp[J3]
end
section
variable {σ ε ρ:Type}
end
section
variable {α β ε ρ:Type}
open Classical in
theorem OV(l:List α)(p:Nat->α->Bool)(r:ρ)(e:ε)(f:Int->Option (Out Int ε ρ))(hl:l.length<18446744073709551616)
  (hin:∀(i:Nat) (a:α),l[i]? =some a->f (i:Int)=if p i a=true then some (.nx ((i+1:Nat):Int))else some (.rt r))
  (hend:f (l.length:Int)=some (.ex e)):
  Z4 f 0=if(∀i a,l[i]? =some a->p i a=true)then some (.inl e)else some (.inr r):=by
 have key:∀(n i:Nat),i<=l.length->l.length -i<n->(∀j a,j<i->l[j]? =some a->p j a=true)->wu f n (i:Int)=if(∀i a,l[i]? =some a->p i a=true)then some (.inl e)else some (.inr r):=by
  intro n;induction n with
  |zero=>intro i _ h;omega|succ n ih=>
   intro i hi hn hp;unfold wu;by_cases h:i<l.length
   .have e' :=pR h;rw[hin i _ e'];by_cases hpi:p i l[i]=true
    .rw[if_pos hpi];exact ih (i+1) o5 o5 λj a hj ha=>by
      by_cases hji:j=i
      .subst hji;rw[e']at ha;cases ha;exact hpi
      .exact hp j a o5 ha
    .rw[if_neg hpi,if_neg];intro hall;exact hpi (hall i _ e')
   .have:i=l.length:=o5;subst this;rw[hend,if_pos];intro j a ha;exact hp j a (bD.1 ha).1 ha
 exact key _ 0 (aY _) hl λj a hj=>by omega
end
end Go.GP
namespace Go.GP
section
variable {α β α' β' σ τ ε ε' ρ ρ' :Type}
def Ag(R:α->β->Prop)(o:Option α)(p:Option β):Prop:=∃a b,o=some a/\p=some b/\R a b
theorem Ag.mk{R:α->β->Prop}{a:α}{b:β}(h:R a b):Ag R (some a) (some b):=⟨a,b,rfl,rfl,h⟩
theorem Ag.mono{R S:α->β->Prop}{o:Option α}{p:Option β}(h:Ag R o p)(hs:∀a b,o=some a->p=some b->R a b->S a b):Ag S o p:=by obtain⟨a,b,h1,h2,h3⟩:=h;exact⟨a,b,h1,h2,hs a b h1 h2 h3⟩
theorem Ag.bind{R:α->β->Prop}{S:α' ->β' ->Prop}{o:Option α}{p:Option β}{f:α->Option α'}{g:β->Option β'}(h:Ag R o p)
  (hk:∀a b,o=some a->p=some b->R a b->Ag S (f a) (g b)):Ag S (l7 o f) (l7 p g):=by
 obtain⟨a,b,h1,h2,h3⟩:=h;have:=hk a b h1 h2 h3;rw[h1,h2];exact this
theorem Ag.cond{S:α->β->Prop}{b c:Bool}{x y:Option α}{u v:Option β}(h:b=c)(h1:b=true->Ag S x u)(h2:b=false->Ag S y v):Ag S (l9 b x y) (l9 c u v):=by
 subst h;cases b
 .exact h2 rfl
 .exact h1 rfl
theorem JI{p:Nat->Option ρ}(n:Nat)(hn:n<18446744073709551616)(e:ε){f:Int->Option (Out Int ε ρ)}
  (h1:∀i,i<n->f (i:Int)=some (match p i with|some r=> .rt r|none=> .nx ((i+1:Nat):Int))) (h2:f (n:Int)=some (.ex e)):
  Z4 f 0=some (match(List.range n).findSome? p with|some r=> .inr r|none=> .inl e):=by
 have key:∀m i,i+m=n->∀k,m<k->wu f k (i:Int)=some (match(List.range' i m).findSome? p with|some r=> .inr r|none=> .inl e):=by
  intro m;induction m with
  |zero=>intro i hi k hk;obtain⟨k,rfl⟩:∃k',k=k' +1:=⟨k -1,o5⟩;have:i=n:=o5;subst this;unfold wu;rw[h2];rfl
  |succ m ih=>
   intro i hi k hk;obtain⟨k,rfl⟩:∃k',k=k' +1:=⟨k -1,o5⟩;unfold wu;rw[h1 i o5,dE,List.findSome?_cons];cases hp:p i with
   |some r=>rfl|none=>exact ih (i+1) o5 k o5
 have:=key n 0 o5 nK hn;rw[List.range_eq_range'];exact this
end
end Go.GP
namespace Go.GP
open Gt
set_option maxRecDepth 100000
section
theorem Am{i:Nat}(h:i<=9000000000000000000):D5 .i64 (i:Int) 1=((i+1:Nat):Int):=by rw[Qm Yp];omega
end
section
section
variable {α ε ρ:Type}
theorem Uj(l:List α)(p:α->Bool)(r:ρ)(e:ε){f:Int->Option (Out Int ε ρ)}(hl:l.length<=1000000)
  (hin:∀(i:Nat) (a:α),l[i]? =some a->f (i:Int)=some (bif p a then .rt r else .nx (D5 .i64 (i:Int) 1))) (hend:f (l.length:Int)=some (.ex e)):
  Z4 f 0=some (bif l.any p then .inr r else .inl e):=by
 rw[OV l (λi a=> !p a) r e f o5 (λi a ha=>?_) hend]
 .have hb:(∀(j:Nat) (a:α),l[j]? =some a->(!p a)=true)↔l.any p=false:=by
   rw[mf];constructor
   .intro h x hx;obtain⟨j,hj,rfl⟩:=kQ hx;have:=h j _ (pR hj);simpa using this
   .intro h j a hj;have:=h a (yH hj);simpa using this
  by_cases hv:l.any p=false
  .rw[if_pos (hb.2 hv),hv];rfl
  .rw[if_neg (λh=>hv (hb.1 h))];simp only[Bool.not_eq_false]at hv;rw[hv];rfl
 .have hi:=(bD.1 ha).1;rw[hin i a ha,Am o5];cases p a<;>rfl
theorem rV{i:Nat}{l:List α}{a:α}(h:l[i]? =some a):J4 (i:Int) (x9 l)=true:=NI (by have:=(bD.1 h).1;simp only[x9];omega)
theorem rP(l:List α):J4 (l.length:Int) (x9 l)=false:=Vl (by simp[x9])
end
end
section
def Aj{ρ:Type}(n:Nat)(p:Nat->Option ρ):Option ρ:=(List.range n).findSome? p
abbrev SI(l:List Int):Prop:=l.Pairwise (·< ·)
def ins(n:Int):List Int->List Int
 |[]=>[n]|a::l=>if n<=a then(if n<a then n::a::l else a::l)else a::ins n l
theorem NS(n x:Int):∀l,x∈ins n l↔x=n\/x∈l
 |[]=>by simp[ins]|a::l=>by
  unfold ins;by_cases h:n<=a
  .rw[if_pos h];by_cases h2:n<a
   .rw[if_pos h2];simp
   .rw[if_neg h2];have:n=a:=o5;subst this;simp
  .rw[if_neg h,o9,NS n x l,o9];constructor
   .rintro(h|h|h)<;>simp[h]
   .rintro(h|h|h)<;>simp[h]
theorem SE(n:Int):∀{l},SI l->SI (ins n l)
 |[],_=>List.pairwise_singleton _ _|a::l,h=>by
  have h' :=Z8.1 h;unfold ins;by_cases h1:n<=a
  .rw[if_pos h1];by_cases h2:n<a
   .rw[if_pos h2];refine Z8.2 ⟨λx hx=>?_,h⟩;rcases o9.1 hx with rfl|hx
    .exact h2
    .have:=h'.1 x hx;omega
   .rw[if_neg h2];exact h
  .rw[if_neg h1];refine Z8.2 ⟨λx hx=>?_,SE n h'.2⟩;rcases(NS n x l).1 hx with rfl|hx
   .omega
   .exact h'.1 x hx
def Yz(ns:List Int)(l:List Int):List Int:=ns.foldl (λacc n=>ins n acc) l
theorem Oh:∀ns {l},SI l->SI (Yz ns l)
 |[],_,h=>h|n::ns,_,h=>Oh ns (SE n h)
def TW(l:List Int):List Int:=Yz l []
theorem UR(l:List Int):SI (TW l):=Oh l List.Pairwise.nil
def hg(l:List Int)(i:Nat):Int:=l.getD i 0
theorem Uo{l:List Int}{i:Nat}(h:i<l.length):l[i]? =some (hg l i):=by unfold hg;rw[Qq,pR h];rfl
def VT(l:List Int)(n:Nat):Prop:=∀k,0<k->k<n->hg l ((k -1) / 2)<=hg l k
inductive XT where
 |l0 (n:Int×Int)|l1 (n:Int×Int) (a:XT)|l2 (n:Int×Int) (a b:XT)|l3 (n:Int×Int) (a b c:XT)
def XT.size:XT->Nat
 | .l0 _=>1| .l1 _ a=>a.size+1| .l2 _ a b=>a.size+b.size+1| .l3 _ a b c=>a.size+b.size+c.size+1
def XT.post:XT->List (Int×Int)
 | .l0 n=>[n]| .l1 n a=>a.post++[n]| .l2 n a b=>a.post++b.post++[n]| .l3 n a b c=>a.post++b.post++c.post++[n]
end
section
section
variable {α β σ ε ρ:Type}
theorem LJ(l:List α)(G:β->α->β)(mk:β->Int->σ)(fin:β->ε)(Inv:Nat->β->Prop){f:σ->Option (σ⊕ε)}{b:β}(hl:l.length<=1000000)(h0:Inv 0 b)
  (hin:∀(i:Nat) (a:α) (b:β),l[i]? =some a->i<=1000000->Inv i b->f (mk b (i:Int))=some (.inl (mk (G b a) ((i+1:Nat):Int)))/\Inv (i+1) (G b a))
  (hend:∀b,Inv l.length b->f (mk b (l.length:Int))=some (.inr (fin b))):
  af f (mk b 0)=some (fin (l.foldl G b))/\Inv l.length (l.foldl G b):=by
 have key:∀(n i:Nat) (b:β),i<=l.length->l.length -i<n->Inv i b->zC f n (mk b (i:Int))=some (fin ((l.drop i).foldl G b))/\Inv l.length ((l.drop i).foldl G b):=by
  intro n;induction n with
  |zero=>intro i b _ h _;omega|succ n ih=>
   intro i b hi hn hI;unfold zC;by_cases h:i<l.length
   .have e:=pR h;obtain⟨h1,h2⟩:=hin i _ b e o5 hI;rw[h1,X3 h];exact ih (i+1) _ o5 o5 h2
   .have:i=l.length:=o5;subst this;rw[hend b hI,mX];exact⟨rfl,hI⟩
 have:=key nK 0 b o5 (by unfold nK;omega) h0;exact this
theorem vk{γ:Type}(l:List α)(G:β->α->β)(mk:β->Int->σ)(fin:β->ε)(Inv:Nat->β->Prop)(b:β){f:σ->Option (σ⊕ε)}{K:ε->Option γ}{r:Option γ}(hl:l.length<=1000000)(h0:Inv 0 b)
  (hin:∀(i:Nat) (a:α) (b:β),l[i]? =some a->i<=1000000->Inv i b->f (mk b (i:Int))=some (.inl (mk (G b a) ((i+1:Nat):Int)))/\Inv (i+1) (G b a))
  (hend:∀b,Inv l.length b->f (mk b (l.length:Int))=some (.inr (fin b))) (hk:Inv l.length (l.foldl G b)->K (fin (l.foldl G b))=r):l7 (af f (mk b 0)) K=r:=by
 obtain⟨h1,h2⟩:=LJ l G mk fin Inv hl h0 hin hend;rw[h1];exact hk h2
def yQ(G:β->α->β⊕ρ):List α->β->β⊕ρ
 |[],b=> .inl b
 |a::l,b=>match G b a with| .inl b' =>yQ G l b'| .inr r=> .inr r
theorem LM(l:List α)(G:β->α->β⊕ρ)(mk:β->Int->σ)(fin:β->ε)(Inv:Nat->β->Prop){f:σ->Option (Out σ ε ρ)}{b:β}(hl:l.length<=1000000)(h0:Inv 0 b)
  (hin:∀(i:Nat) (a:α) (b:β),l[i]? =some a->i<=1000000->Inv i b->f (mk b (i:Int))=some (match G b a with| .inl b' => .nx (mk b' ((i+1:Nat):Int))| .inr r=> .rt r)/\∀b',G b a= .inl b' ->Inv (i+1) b')
  (hend:∀b,Inv l.length b->f (mk b (l.length:Int))=some (.ex (fin b))):
  Z4 f (mk b 0)=some (match yQ G l b with| .inl b' => .inl (fin b')| .inr r=> .inr r)/\∀b',yQ G l b= .inl b' ->Inv l.length b' :=by
 have key:∀(n i:Nat) (b:β),i<=l.length->l.length -i<n->Inv i b->wu f n (mk b (i:Int))=some (match yQ G (l.drop i) b with| .inl b' => .inl (fin b')| .inr r=> .inr r)/\∀b',yQ G (l.drop i) b= .inl b' ->Inv l.length b' :=by
  intro n;induction n with
  |zero=>intro i b _ h _;omega|succ n ih=>
   intro i b hi hn hI;unfold wu;by_cases h:i<l.length
   .have e:=pR h;obtain⟨h1,h2⟩:=hin i _ b e o5 hI;rw[h1,X3 h];unfold yQ;cases hg:G b l[i]with
    |inr r=>exact⟨rfl,λb' hb=>by cases hb⟩|inl b' =>exact ih (i+1) _ o5 o5 (h2 b' hg)
   .have:i=l.length:=o5;subst this;rw[hend b hI,mX];exact⟨rfl,λb' hb=>by cases hb;exact hI⟩
 have:=key nK 0 b o5 (by unfold nK;omega) h0;exact this
theorem LK{γ:Type}(l:List α)(G:β->α->β⊕ρ)(mk:β->Int->σ)(fin:β->ε)(Inv:Nat->β->Prop)(b:β){f:σ->Option (Out σ ε ρ)}{K:ε⊕ρ->Option γ}{r:Option γ}(hl:l.length<=1000000)(h0:Inv 0 b)
  (hin:∀(i:Nat) (a:α) (b:β),l[i]? =some a->i<=1000000->Inv i b->f (mk b (i:Int))=some (match G b a with| .inl b' => .nx (mk b' ((i+1:Nat):Int))| .inr r=> .rt r)/\∀b',G b a= .inl b' ->Inv (i+1) b')
  (hend:∀b,Inv l.length b->f (mk b (l.length:Int))=some (.ex (fin b)))
  (hk:(∀b',yQ G l b= .inl b' ->Inv l.length b')->K (match yQ G l b with| .inl b' => .inl (fin b')| .inr r=> .inr r)=r):l7 (Z4 f (mk b 0)) K=r:=by
 obtain⟨h1,h2⟩:=LM l G mk fin Inv hl h0 hin hend;rw[h1];exact hk h2
end
end
section
def isM(op:Int):Bool:=l9 (bG 36 op) (bG op 39) false
def VZ(p:Int->Bool)(e:List (Int×Int)):List Int:=(e.filter λn=>p n.1).map (·.2)
def Vy(e:List (Int×Int)):List Int×List Int×List Int:=(TW (VZ (λo=>o8 o 7) e),TW (VZ (λo=>o8 o 8) e),TW (VZ isM e))
def inD(n d:Int):Bool:=l9 (bG 0 d) (J4 d n) false
def M_(n:Int)(r:tX):List Int:=(Vy r.2.2.2.2.2.1).2.1.filter (inD n)++(Vy r.2.2.2.2.2.2.1).2.1.filter (inD n)
def nD(s:aJ):Int:=x9 s.2.2.2.1
def dl(n:Int)(rs:List tX)(d:Int):List Int:=rs.flatMap λr=>l9 (o8 r.2.1 d) (M_ n r) []
def jF(s:aJ)(d:Int):List Int:=l9 (inD (nD s) d) (TW (dl (nD s) s.2.2.2.2 d)) []
theorem OJ(s:aJ)(d:Int):SI (jF s d):=by
 unfold jF;cases inD (nD s) d
 .exact List.Pairwise.nil
 .exact UR _
end
section
section
variable {D:Int->List Int} {n:Nat} (hsi:∀x,SI (D x)) (hin:∀x,∀y∈D x,0<=y/\y<(n:Int))
include hsi hin
end
end
section
def mk(S:List Bool)(x:Int):Bool:=if 0<=x then S.getD x.toNat false else false
theorem OM{ε ρ:Type}{p:Nat->Option ρ}(n:Nat)(hn:n<=1000000)(e:ε){f:Int->Option (Out Int ε ρ)}
  (h1:∀i,i<n->f (i:Int)=some (match p i with|some r=> .rt r|none=> .nx (D5 .i64 (i:Int) 1))) (h2:f (n:Int)=some (.ex e)):
  Z4 f 0=some (match Aj n p with|some r=> .inr r|none=> .inl e):=
 JI n o5 e (λi hi=>by rw[h1 i hi,Am o5]<;>cases p i<;>rfl) h2
section
variable (on:Nat->Bool) (par:Nat->Int)
def onL(n:Nat):List Nat:=(List.range n).filter on
theorem Wj{n i:Nat}(h:i∈onL on n):i<n/\on i=true:=by unfold onL at h;obtain⟨h1,h2⟩:=jR.1 h;exact⟨fD.1 h1,h2⟩
end
def castL(l:List Nat):List Int:=l.map λ(i:Nat)=>(i:Int)
theorem Wl(on:Nat->Bool)(n:Nat):(onL on n).Pairwise (·< ·):=List.Pairwise.filter _ List.pairwise_lt_range
def yG(O:List Int)(x:Int):Bool:=O.any λy=>o8 y x
variable {O:List Int}
theorem wS{x:Int} :yG O x=true↔x∈O:=by
 unfold yG;rw[mW];constructor
 .rintro⟨y,hy,h⟩;rw[Ap]at h;exact h▸hy
 .exact λh=>⟨x,h,Qo rfl⟩
def Rt(s:aJ)(d:Int)(O:List Int):Bool:=(jF s d).all λx=>yG O x
def okN(s:aJ)(O:List Int)(d:Nat):Bool:=l9 (yG O (d:Int)) false (Rt s (d:Int) O)
def CY(s:aJ)(e:Int)(i:Nat):List Nat:=onL (λd=>decide (e∈jF s (d:Int))) i
def Ho(s:aJ)(O:List Int)(d:Int):List Int:=(jF s d).filter λx=> !yG O x
def hw(W:List Int)(d:Int):Int:=W.getD d.toNat 0
theorem Jw{l:List Int}(h:SI l){m:Int}(hm:m∉O):((l.filter λx=> !yG (O++[m]) x).length:Int)=((l.filter λx=> !yG O x).length:Int) -(if m∈l then 1 else 0):=by
 have hh:∀x,yG (O++[m]) x=(yG O x || o8 m x):=λx=>by unfold yG;rw[List.any_append];simp
 induction l with
 |nil=>simp|cons a l ih=>
  have h' :=Z8.1 h;have ih' :=ih h'.2;rw[gY,gY,hh];by_cases hma:m=a
  .subst hma;have hno:m∉l:=λhx=>by have:=h'.1 m hx;omega
   rw[if_neg hno]at ih';have h1:yG O m=false:=by
    cases hq:yG O m
    .rfl
    .exact absurd (wS.1 hq) hm
   have hA:(!(yG O m || o8 m m))=false:=by rw[Qo rfl];simp
   have hB:(!yG O m)=true:=by rw[h1];rfl
   rw[hA,hB,if_pos (show m∈m::l by simp)];simp only[U4,if_false,if_true,G8];omega
  .rw[Qn hma,Bool.or_false];have:(if m∈a::l then(1:Int)else 0)=if m∈l then 1 else 0:=by simp[hma]
   rw[this];cases yG O a
   .simp only[Bool.not_false,if_true,G8];omega
   .simp only[Bool.not_true,U4,if_false];exact ih'
structure KInv (s:aJ) (O W H:List Int):Prop where
 nd:O.Nodup
 rng:∀x∈O,0<=x/\x<nD s
 cl:∀u∈O,∀x∈jF s u,x∈O
 wl:W.length=s.2.2.2.1.length
 w:∀d,0<=d->d<nD s->hw W d=((Ho s O d).length:Int)
 hp:VT H H.length
 hnd:H.Nodup
 hm:∀d,d∈H↔0<=d/\d<nD s/\d∉O/\hw W d=0
variable {s:aJ}
theorem Wi{d:Nat} :okN s O d=true↔(d:Int)∉O/\Ho s O (d:Int)=[]:=by
 unfold okN Rt Ho;cases hq:yG O (d:Int)
 .have h1:(d:Int)∉O:=λh=>by rw[wS.2 h]at hq;cases hq
  simp only[U6,jC,fM,jB,Bool.not_eq_false'];exact⟨λh=>⟨h1,λa ha=>by rw[h a ha]⟩,λh a ha=>h.2 a ha⟩
 .have h1:=wS.1 hq;simp only[V5];exact⟨λh=>(by cases h),λh=>absurd h1 h.1⟩
theorem KInv.ready{O W H:List Int}(h:KInv s O W H){d:Nat}(hd:d<s.2.2.2.1.length):okN s O d=true↔(d:Int)∈H:=by
 have hn:nD s=((s.2.2.2.1.length:Nat):Int):=rfl;rw[Wi,h.hm];have:=h.w (d:Int) o5 o5;constructor
 .rintro⟨h1,h2⟩;exact⟨o5,o5,h1,by rw[this,h2];rfl⟩
 .rintro⟨_,_,h1,h2⟩;refine⟨h1,L6.1 ?_⟩;rw[this]at h2;omega
structure UInv (s:aJ) (W H0:List Int) (us:List Int) (W' H' :List Int):Prop where
 wl:W'.length=s.2.2.2.1.length
 w:∀d,0<=d->d<nD s->hw W' d=hw W d -(if d∈us then 1 else 0)
 hp:VT H' H'.length
 pm:∃P:List Int,H'.Perm (H0++P)/\P.Sublist us/\∀d,d∈P↔d∈us/\hw W d=1
theorem zQ{m:Int}{d:Int} :d∈castL (CY s m s.2.2.2.1.length)↔0<=d/\d<nD s/\m∈jF s d:=by
 have hn:nD s=((s.2.2.2.1.length:Nat):Int):=rfl;unfold castL;rw[mg];constructor
 .rintro⟨k,hk,rfl⟩;obtain⟨h1,h2⟩:=Wj _ hk;exact⟨o5,o5,by simpa using h2⟩
 .rintro⟨h1,h2,h3⟩;refine⟨d.toNat,?_,o5⟩;unfold CY onL;rw[jR,fD];exact⟨o5,by rw[Int.toNat_of_nonneg h1];simpa using h3⟩
theorem PY{l:List Nat}(h:l.Pairwise (·< ·)):SI (castL l):=List.Pairwise.map _ (λa b h=>by omega) h
theorem KInv.step{O W H:List Int}(h:KInv s O W H)(h0:0<H.length){m:Nat}(hm:hg H 0=(m:Int)){R:List Int}(hR:VT R R.length)(hRp:(R++[(m:Int)]).Perm H){W' H' :List Int}(hU:UInv s W R (castL (CY s (m:Int) s.2.2.2.1.length)) W' H'):KInv s (O++[(m:Int)]) W' H' :=by
 have hn:nD s=((s.2.2.2.1.length:Nat):Int):=rfl;have hmem:(m:Int)∈H:=by rw[←hm];have:=Uo h0;exact yH this
 have hmm:=(h.hm _).1 hmem;have hleft:Ho s O (m:Int)=[]:=by have:=h.w (m:Int) hmm.1 hmm.2.1;rw[hmm.2.2.2]at this;exact L6.1 o5
 have hdeps:∀x∈jF s (m:Int),x∈O:=λx hx=>by have hnil:=fM.1 hleft x hx;simp only[jB,Bool.not_eq_false']at hnil;exact wS.1 hnil
 have hndR:(R++[(m:Int)]).Nodup:=hRp.nodup_iff.2 h.hnd;have hmR:(m:Int)∉R:=λhx=>by have:=(G7.1 hndR).2.2 _ hx _ (eH.2 rfl);exact this rfl
 have hRm:∀d,d∈R↔d∈H/\d≠(m:Int):=λd=>by
  rw[←hRp.mem_iff,D9,eH];constructor
  .intro hx;exact⟨.inl hx,λhq=>hmR (hq▸hx)⟩
  .rintro⟨hx|hx,hq⟩
   .exact hx
   .exact absurd hx hq
 obtain⟨P,p1,p2,p3⟩:=hU.pm;have huO:∀u,(m:Int)∈jF s u->u∉O:=λu hu hx=>hmm.2.2.1 (h.cl u hx _ hu);refine⟨?_,?_,?_,hU.wl,λd d0 d1=>?_,hU.hp,?_,λd=>?_⟩
 .exact G7.2 ⟨h.nd,o7,λa ha b hb=>by simp at hb;subst hb;intro hq;subst hq;exact hmm.2.2.1 ha⟩
 .intro x hx;rcases D9.1 hx with hx|hx
  .exact h.rng x hx
  .simp at hx;subst hx;exact⟨hmm.1,hmm.2.1⟩
 .intro u hu x hx;rcases D9.1 hu with hu|hu
  .exact Q8 _ (h.cl u hu x hx)
  .simp at hu;subst hu;exact Q8 _ (hdeps x hx)
 .rw[hU.w d d0 d1,h.w d d0 d1];unfold Ho;rw[Jw (OJ s d) hmm.2.2.1];congr 1;have:(d∈castL (CY s (m:Int) s.2.2.2.1.length))↔((m:Int)∈jF s d):=by rw[zQ];exact⟨λh=>h.2.2,λh=>⟨d0,d1,h⟩⟩
  by_cases hq:(m:Int)∈jF s d
  .rw[if_pos (this.2 hq),if_pos hq]
  .rw[if_neg (λhx=>hq (this.1 hx)),if_neg hq]
 .rw[p1.nodup_iff];refine G7.2 ⟨(G7.1 hndR).1,?_,λa ha b hb hq=>?_⟩
  .have:(castL (CY s (m:Int) s.2.2.2.1.length)).Nodup:=(PY (Wl _ _)).imp λ{a b} h=>by omega
   exact p2.nodup this
  .subst hq;have h1:=(h.hm a).1 ((hRm a).1 ha).1;have h2:=(p3 a).1 hb;omega
 .rw[p1.mem_iff,D9,hRm,p3,zQ,h.hm];have hw' :=λd0 d1=>hU.w d d0 d1;have hmemU:d∈castL (CY s (m:Int) s.2.2.2.1.length)↔0<=d/\d<nD s/\(m:Int)∈jF s d:=zQ;constructor
  .rintro(⟨⟨d0,d1,dO,dw⟩,dm⟩|⟨⟨d0,d1,dd⟩,dw⟩)
   .refine⟨d0,d1,λhx=>?_,?_⟩
    .rcases D9.1 hx with hx|hx
     .exact dO hx
     .simp at hx;exact dm hx
    .have hnot:(m:Int)∉jF s d:=λhx=>by
      have h1:=h.w d d0 d1;rw[dw]at h1;have h2:Ho s O d=[]:=L6.1 o5;have h3:=fM.1 h2 _ hx;simp only[jB,Bool.not_eq_false']at h3;exact hmm.2.2.1 (wS.1 h3)
     rw[hw' d0 d1,dw,if_neg (λhx=>hnot (hmemU.1 hx).2.2)];rfl
   .refine⟨d0,d1,λhx=>?_,?_⟩
    .rcases D9.1 hx with hx|hx
     .exact huO d dd hx
     .simp at hx;rw[hx]at dd;exact hmm.2.2.1 (hdeps _ dd)
    .rw[hw' d0 d1,if_pos (hmemU.2 ⟨d0,d1,dd⟩)];omega
  .rintro⟨d0,d1,dO,dw⟩;rw[hw' d0 d1]at dw;have dO1:d∉O:=λhx=>dO (Q8 _ hx);have dm:d≠(m:Int):=λhx=>dO (by rw[hx];simp);by_cases hq:(m:Int)∈jF s d
   .rw[if_pos (hmemU.2 ⟨d0,d1,hq⟩)]at dw;exact .inr ⟨⟨d0,d1,hq⟩,o5⟩
   .rw[if_neg (λhx=>hq (hmemU.1 hx).2.2)]at dw;exact .inl ⟨⟨d0,d1,dO1,o5⟩,dm⟩
end
end Go.GP
namespace Gt
open Go Go.GP
def il(y:Int):Bool:=if y % 4=0 then(if y % 100≠0 then true else decide (y % 400=0))else false
def ys(y:Int):Int:=(y -1900)*365+((y -1) / 4 -(y -1) / 100+(y -1) / 400) -460
def dim(y m:Int):Int:=
 if m=2 then(if il y then 29 else 28)else if m=4\/m=6\/m=9\/m=11 then 30 else 31
def rem(y:Int):Nat->Int
 |0=>0|n+1=>dim y (12 -n)+rem y n
end Gt
namespace Go.GP
open Gt
set_option maxRecDepth 100000
def q1(q:Int)(u:Bool):Int:=l9 u (q+1) q
def sg(q:Int)(neg:Bool):Int:=l9 neg (-q) q
abbrev BB:Type:=List Bool×List Bool
structure Grows (B C:BB):Prop where
 g1:∀x,mk B.1 x=true->mk C.1 x=true
 g2:∀x,mk B.2 x=true->mk C.2 x=true
theorem Grows.refl(B:BB):Grows B B:=⟨λ_ h=>h,λ_ h=>h⟩
theorem Grows.trans{A B C:BB}(h:Grows A B)(k:Grows B C):Grows A C:=⟨λx hx=>k.g1 x (h.g1 x hx),λx hx=>k.g2 x (h.g2 x hx)⟩
variable {α:Type}{β:Type}
def rE(eq:α->α->Bool)(l:List (α×β))(f:α->Option β):Prop:=∀k,DZ eq l k=(f k).isSome/\∀z,lN eq l k z=(f k).getD z
theorem Hr(eq:α->α->Bool):rE eq ([]:List (α×β)) (λ_=>none):=λ_=>⟨rfl,λ_=>rfl⟩
theorem Hu{α β:Type}{eq:α->α->Bool}(hE:∀a b,eq a b=true↔a=b)(k:α)(x:β)(k' :α):∀(l:List (α×β)),xw eq (zf eq l k x) k' =(l9 (eq k' k) true (xw eq l k'))/\∀z,xu eq (zf eq l k x) k' z=l9 (eq k' k) x (xu eq l k' z)
 |[]=>by unfold zf;simp only[xw,xu];cases eq k' k<;>exact⟨rfl,λ_=>rfl⟩|p::r=>by
  have ih:=Hu hE k x k' r;unfold zf;cases hp:eq k p.1
  .simp only[cond_false,xw,xu];cases hq:eq k' p.1
   .simp only[cond_false];exact ih
   .simp only[cond_true];cases hk:eq k' k
    .exact⟨rfl,λ_=>rfl⟩
    .exfalso;have h1:=(hE _ _).1 hq;have h2:=(hE _ _).1 hk;rw[←h2,h1]at hp;rw[(hE p.1 p.1).2 rfl]at hp;cases hp
  .have hp' :=(hE _ _).1 hp;subst hp';simp only[cond_true,xw,xu];cases eq k' p.1<;>exact⟨rfl,λ_=>rfl⟩
variable {eq:α->α->Bool}{f:α->Option β}
theorem OW(hE:∀a b,eq a b=true↔a=b){l:List (α×β)}(h:rE eq l f)(k:α)(x:β):
  rE eq (zI eq l k x) (λk' =>l9 (eq k' k) (some x) (f k')):=λk' =>by
 obtain⟨h1,h2⟩:=Hu hE k x k' l;obtain⟨g1,g2⟩:=h k';refine⟨?_,λz=>?_⟩
 .show xw eq (zf eq l k x) k' =_;rw[h1,show xw eq l k' =_ from g1];show _=(l9 (eq k' k) (some x) (f k')).isSome;cases eq k' k<;>rfl
 .show xu eq (zf eq l k x) k' z=_;rw[h2 z,show xu eq l k' z=_ from g2 z];show _=(l9 (eq k' k) (some x) (f k')).getD z;cases eq k' k<;>rfl
theorem rE.has{l:List (α×β)}(h:rE eq l f)(k:α):DZ eq l k=(f k).isSome:=(h k).1
theorem rE.get{l:List (α×β)}(h:rE eq l f)(k:α)(z:β):lN eq l k z=(f k).getD z:=(h k).2 z
theorem rE.congr{l:List (α×β)}{f g:α->Option β}(h:rE eq l f)(e:∀k,f k=g k):rE eq l g:=λk=>by rw[←e k];exact h k
def nJ{α:Type}(p:α->Bool):List α->Nat->Option (α×Int)
 |[],_=>none|a::r,i=>l9 (p a) (some (a,(i:Int))) (nJ p r (i+1))
noncomputable def eqB {α:Type} (a b:α):Bool:=@decide (a=b) (Classical.propDecidable _)
variable {a:α}{b:α}
theorem Ec :eqB a b=true↔a=b:=by unfold eqB;exact @decide_eq_true_iff _ (Classical.propDecidable _)
theorem Jr(h:a=b):eqB a b=true:=Ec.2 h
theorem NE(h:a≠b):eqB a b=false:=by
 cases he:eqB a b
 .rfl
 .exact absurd (Ec.1 he) h
theorem Qi{c d:β}(h:a=b↔c=d):eqB a b=eqB c d:=by rw[bM,Ec,Ec];exact h
theorem Um(a b:List α):eqB (a.map λx=>x) (b.map λx=>x)=eqB a b:=o7
theorem Uh{α β:Type} :∀{a:List α} {b:List β} {i:Nat} {p:α×β},(a.zip b)[i]? =some p->a[i]? =some p.1/\b[i]? =some p.2
 |[],_,i,p,h=>by simp at h|_::_,[],i,p,h=>by simp at h|x::a,y::b,0,p,h=>by simp only[Q3,Y2,C9]at h;subst h;exact⟨rfl,rfl⟩|x::a,y::b,i+1,p,h=>by simp only[Q3,List.getElem?_cons_succ]at h ⊢;exact Uh h
noncomputable def eqG {α β:Type} (g:α->β) (_:Unit) (p:α×α):Unit⊕Bool:=l9 (eqB (g p.1) (g p.2)) (.inl ()) (.inr false)
theorem NG{α β:Type}(g:α->β):∀{a b:List α},a.length=b.length->yQ (eqG g) (a.zip b) ()=l9 (eqB (a.map g) (b.map g)) (.inl ()) (.inr false)
 |[],[],_=>by rw[Jr rfl];rfl|[],_::_,h=>by cases h|_::_,[],h=>by cases h|x::a,y::b,h=>by
  have ih:=NG g (a:=a) (b:=b) (by simpa using h);simp only[Q3,aP];unfold yQ;by_cases e:g x=g y
  .rw[show eqG g () (x,y)= .inl ()from by unfold eqG;rw[Jr e];rfl];rw[Qi (show(g x::a.map g=g y::b.map g)↔a.map g=b.map g by rw[e];simp)];exact ih
  .rw[show eqG g () (x,y)= .inr false from by unfold eqG;rw[NE e];rfl];rw[NE (λh=>e (H7 h).1)];rfl
theorem VV(g:α->β)(q:α->α->Bool)(hq:∀x y,q x y=true↔g x=g y){a b:List α}(hl:a.length<=1000000){f:Int->Option (Out Int PUnit Bool)}
  (hin:∀(i:Nat) x y,a[i]? =some x->b[i]? =some y->f (i:Int)=l9 (F5 (q x y)) (some (.rt false)) (some (.nx (D5 .i64 (i:Int) 1)))) (hend:f (a.length:Int)=some (.ex PUnit.unit)):
  (l9 (F5 (o8 (x9 a) (x9 b))) (some false) (l7 (Z4 f 0) λo=>Y9 o (λ_=>some true) λr=>some r))=some (eqB (a.map g) (b.map g)):=by
 by_cases hab:a.length=b.length
 .rw[show o8 (x9 a) (x9 b)=true from Qo (by simp[x9,hab]),ny,U6];have hz:(a.zip b).length=a.length:=by simp[hab]
  refine LK (a.zip b) (eqG g) (λ_ i=>i) (λ_=>PUnit.unit) (λ_ _=>True) () o5 trivial (λi p _ hp hi _=>⟨?_,λ_ _=>trivial⟩) (λ_ _=>?_) (λ_=>?_)
  .obtain⟨h1,h2⟩:=Uh hp;rw[hin i _ _ h1 h2];unfold eqG;cases hqp:q p.1 p.2
   .have:¬g p.1=g p.2:=λe=>by rw[(hq _ _).2 e]at hqp;cases hqp
    rw[NE this];rfl
   .have:=(hq _ _).1 hqp;rw[Jr this,ny,U6,Am (show i<=9000000000000000000 by omega)];rfl
  .rw[hz];exact hend
  .rw[NG g hab];cases eqB (a.map g) (b.map g)<;>rfl
 .rw[show o8 (x9 a) (x9 b)=false from Qn (by simp only[x9];omega),ql,V5];rw[NE (λe=>hab (by simpa using congrArg List.length e))]
theorem Jq{a b:Bool} :U2 a b=true↔a=true/\b=true:=by simp[U2]
theorem ES{α:Type}{p:α->Bool} :∀{l:List α} {k:Nat} {a:α} {i:Int},nJ p l k=some (a,i)->∃j:Nat,l[j]? =some a/\i=((k+j:Nat):Int)/\p a=true/\∀j' b,j' <j->l[j']? =some b->p b=false
 |[],_,_,_,h=>by cases h|b::r,k,a,i,h=>by
  unfold nJ at h;cases hp:p b<;>rw[hp]at h
  .simp only[U6]at h;obtain⟨j,h1,h2,h3,h4⟩:=ES h;refine⟨j+1,by simpa using h1,by rw[h2];congr 1;omega,h3,λj' c hj hc=>?_⟩;cases j' with
   |zero=>simp at hc;subst hc;exact hp|succ j' =>exact h4 j' c o5 (by simpa using hc)
  .simp only[V5,C9,aU]at h;obtain⟨rfl,rfl⟩:=h;exact⟨0,rfl,rfl,hp,λj' c hj=>by omega⟩
theorem Dq{α:Type}{p:α->Bool} :∀{l:List α} {k:Nat},nJ p l k=none->∀a∈l,p a=false
 |[],_,_,_,h=>by cases h|b::r,k,h,a,ha=>by
  unfold nJ at h;cases hp:p b<;>rw[hp]at h
  .rcases o9.1 ha with rfl|ha
   .exact hp
   .exact Dq (show nJ p r (k+1)=none from h) a ha
  .cases h
theorem EZ{xs ys:List α}(h:xs.length+ys.length<=1073741824):bi xs ys=some (xs++ys):=by unfold bi;rw[if_pos h]
def icS(i:U8):Bool:=l9 (o8 i.2.2.1 0) (l9 (o8 i.2.2.2.1 0) (F5 (U2 (o8 i.1.1 i.2.1.1) (U2 (o8 i.1.2.1 i.2.1.2.1) (o8 i.1.2.2 i.2.1.2.2)))) true) (o8 i.2.2.2.1 0)
theorem IG(i:U8):gm i=some (icS i):=by unfold gm icS;cases o8 i.2.2.1 0<;>cases o8 i.2.2.2.1 0<;>rfl
theorem GH(i:U8):kZ i=some (icS i):=by unfold kZ icS;cases o8 i.2.2.1 0<;>cases o8 i.2.2.2.1 0<;>rfl
theorem NF(g:α->β)(q:α->α->Bool)(hq:∀x y,q x y=true↔g x=g y){a b:List α}(hl:a.length<=1000000){f:Int->Option (Out Int PUnit Bool)}
  (hin:∀(i:Nat) x y,a[i]? =some x->b[i]? =some y->f (i:Int)=l9 (J4 (i:Int) (x9 a)) (l9 (J4 (i:Int) (x9 b)) (l9 (F5 (q x y)) (some (.rt false)) (some (.nx (D5 .i64 (i:Int) 1)))) (some (.ex PUnit.unit))) (some (.ex PUnit.unit))) (hend:f (a.length:Int)=some (.ex PUnit.unit)):
  (l9 (F5 (o8 (x9 a) (x9 b))) (some false) (l7 (Z4 f 0) λo=>Y9 o (λ_=>some true) λr=>some r))=some (eqB (a.map g) (b.map g)):=
 VV g q hq hl (λi x y hx hy=>by rw[hin i x y hx hy,rV hx,V5,rV hy,V5]) hend
def YE(o:Option (α×Int)):Int:=match o with|some x=>x.2|none=>-1
variable {l:List α}
theorem Un(hl:l.length<=1000000)(p:α->Bool){f:Int->Option (Out Int PUnit Int)} (hin:∀(i:Nat) x,l[i]? =some x->f (i:Int)=l9 (p x) (some (.rt (i:Int))) (some (.nx (D5 .i64 (i:Int) 1)))) (hend:f (l.length:Int)=some (.ex PUnit.unit)):
  (l7 (Z4 f 0) λ(o:PUnit⊕Int)=>Y9 o (λ(_:PUnit)=>some (-1)) λ(r:Int)=>some r)=some (YE (nJ p l 0)):=by
 have key:=OM (p:=λi=>match l[i]? with|some x=>l9 (p x) (some (i:Int)) none|none=>none) l.length hl PUnit.unit (f:=f) (λi hi=>by have hx:=pR hi;rw[hin i _ hx,hx];simp only;cases p l[i]<;>rfl) hend
 rw[key];cases hf:nJ p l 0 with
 |some x=>
  obtain⟨j,h1,h2,h3,h4⟩:=ES (a:=x.1) (i:=x.2) hf;have hj:=(bD.1 h1).1;have:Aj l.length (λi=>match l[i]? with|some x=>l9 (p x) (some (i:Int)) none|none=>none)=some (j:Int):=by
   unfold Aj;rw[List.findSome?_eq_some_iff];refine⟨List.range j,j,(List.range (l.length -j -1)).map (λi=>j+1+i),?_,by rw[h1];simp only[h3,V5],λi hi=>?_⟩
   .apply bn
    .simp;omega
    .intro n g1 g2;simp only[List.getElem_range];rcases Nat.lt_trichotomy n j with h|h|h
     .rw[dZ (by simpa using h)];simp
     .subst h;rw[List.getElem_append_right o7];simp
     .rw[List.getElem_append_right dN,List.getElem_cons];simp only[fP];rw[dif_neg o5];simp;omega
   .have hij:i<j:=by simpa using hi
    have hx:=pR (show i<l.length by omega);rw[hx];simp only[h4 i _ hij hx,U6]
  rw[this];simp only[mD,Ua,YE];rw[h2];congr 1;omega
 |none=>
  have hn:=Dq hf;have:Aj l.length (λi=>match l[i]? with|some x=>l9 (p x) (some (i:Int)) none|none=>none)=none:=by unfold Aj;rw[mO];intro i hi;have hx:=pR (show i<l.length by simpa using hi);rw[hx];simp only[hn _ (jD _),U6]
  rw[this];rfl
theorem Kt{a:List F8}(b:List F8)(h:a.length<=1000000):pY a b=some (eqB a b):=by
 unfold pY;rw[←Um];refine NF (λx=>x) (λ(x y:F8)=>U2 (seq x.1 y.1) (U2 (seq x.2.1 y.2.1) (o8 x.2.2 y.2.2)))
  (λx y=>by simp only[Jq,Ap,Og,rX]) h (λi x y hx hy=>?_) ?_
 .simp only[nV,hx,hy,mD]
 .simp only[rP];rfl
theorem PH{k i:Nat}(h:(l.take k)[i]? =some a):l[i]? =some a/\i<k:=by
 rw[I8]at h;split at h
 .exact⟨h,o5⟩
 .cases h
theorem Ub(l:List α)(k:Nat):(J4 (((l.take k).length:Nat):Int) (x9 l)=false)\/((l.take k).length=k):=by
 by_cases h:l.length<=k
 .left;rw[G9 h];exact rP l
 .right;rw[X8];omega
theorem KW:rY=some true:=by decide+kernel
abbrev jq:F8->F8->Bool:=λa b=>U2 (seq a.1 b.1) (U2 (seq a.2.1 b.2.1) (o8 a.2.2 b.2.2))
theorem uh(a b:F8):jq a b=true↔a=b:=by simp only[jq,Jq,Og,Ap,rX]
theorem yz(a:F8):jq a a=true:=(uh a a).2 rfl
def ixC:List F8->F8->Option Nat
 |[],_=>none|a::l,r=>l9 (jq a r) (some 0) ((ixC l r).map (·+1))
theorem wX:∀{l:List F8} {r:F8} {i:Nat},ixC l r=some i->l[i]? =some r
 |[],_,_,h=>by cases h|a::l,r,i,h=>by
  unfold ixC at h;cases he:jq a r<;>rw[he]at h
  .simp only[U6,aF]at h;obtain⟨j,h1,rfl⟩:=h;simpa using wX h1
  .simp only[V5,C9]at h;subst h;simp[(uh a r).1 he]
theorem JC:∀{l:List F8} {r:F8},ixC l r=none->r∉l
 |[],_,_=>by simp|a::l,r,h=>by
  unfold ixC at h;cases he:jq a r<;>rw[he]at h
  .simp only[U6,Option.map_eq_none_iff]at h;intro hm;rcases o9.1 hm with rfl|hm
   .rw[yz]at he;cases he
   .exact JC h hm
  .cases h
theorem NM:∀(l:List F8) (r:F8),(l.any λa=>jq a r)=(ixC l r).isSome
 |[],_=>rfl|a::l,r=>by rw[List.any_cons,NM l r];show(jq a r || (ixC l r).isSome)=(l9 (jq a r) (some 0) ((ixC l r).map (·+1))).isSome;cases jq a r<;>cases ixC l r<;>rfl
theorem Ed{l:List F8}{r:F8} :(l.any λa=>jq a r)=true↔r∈l:=by rw[mW];exact⟨λ⟨a,h1,h2⟩=>by rw[←(uh a r).1 h2];exact h1,λh=>⟨r,h,yz r⟩⟩
theorem NP:∀(l:List F8) (r k:F8),ixC (l++[r]) k=match ixC l k with|some i=>some i|none=>l9 (jq r k) (some l.length) none
 |[],r,k=>by simp only[I9,ixC];cases jq r k<;>rfl|a::l,r,k=>by
  simp only[aC,ixC,NP l r k];cases jq a k
  .simp only[U6];cases ixC l k with
   |some i=>rfl|none=>simp only[Option.map_none];cases jq r k<;>rfl
  .rfl
theorem Vk(r:F8):∀(l:List F8) (k:Nat),(nJ (λx=>jq x r) l k).map (·.2)=(ixC l r).map λi=>((k+i:Nat):Int)
 |[],k=>rfl|a::l,k=>by
  unfold nJ ixC;cases jq a r
  .simp only[U6];rw[show nJ (λx=>jq x r) l (k+1)=nJ (λx=>jq x r) l (k+1)from rfl,Vk r l (k+1),Option.map_map];congr 1;funext i;simp only[Function.comp_apply];congr 1;omega
  .rfl
def ixI(o:Option Nat):Int:=match o with|some i=>(i:Int)|none=>-1
theorem GZ{l:List F8}(hl:l.length<=1000000)(r:F8):qV l r=some (ixI (ixC l r)):=by
 unfold qV;refine Eq.trans (Un hl (λx=>jq x r) (λi x hx=>?_) ?_) ?_
 .simp only[rV hx,V5,nV,hx,mD]
 .simp only[rP];rfl
 .congr 1;have h:=Vk r l 0;cases h1:nJ (λx=>jq x r) l 0 with
  |none=>
   rw[h1]at h;cases h2:ixC l r with
   |none=>rfl|some i=>rw[h2]at h;cases h
  |some p=>
   rw[h1]at h;cases h2:ixC l r with
   |none=>rw[h2]at h;cases h|some i=>rw[h2]at h;simp only[bQ,C9,bf]at h;exact h
abbrev BR:=List F8×List Int×List Int
def lC(dlt:Int)(st:BR)(r:F8):BR:=match ixC st.1 r with
 |some i=>(st.1,Z9 st.2.1 i (D5 .i64 (st.2.1.getD i 0) 1),Z9 st.2.2 i (D5 .i64 (st.2.2.getD i 0) dlt))|none=>(st.1++[r],st.2.1++[1],st.2.2++[D5 .i64 0 dlt])
def oC(dlt:Int)(st:BR×List F8)(r:F8):BR×List F8:=(l9 (st.2.any λa=>jq a r) st.1 (lC dlt st.1 r),st.2++[r])
def qA(x:U8):Int:=l9 (F5 (o8 x.2.2.1 0)) 0 (l9 (F5 (o8 x.2.2.2.1 0)) 0 (l9 (F5 (o8 x.1.1 3)) 0 (l9 (F5 (o8 x.2.1.1 3)) 0 (J7 .i64 x.2.1.2.2 x.1.2.2))))
def Ar(st:BR)(x:U8):BR:=l9 (F5 (icS x)) st (x.2.2.2.2.foldl (oC (qA x)) (st,[])).1
def byS(L:List U8):BR:=L.foldl Ar ([],[],[])
theorem Qc(x:U8):dH x=some (qA x):=by unfold dH qA;cases F5 (o8 x.2.2.1 0)<;>cases F5 (o8 x.2.2.2.1 0)<;>cases F5 (o8 x.1.1 3)<;>cases F5 (o8 x.2.1.1 3)<;>rfl
theorem NZ(x:U8):jd x=some (qA x):=by unfold jd qA;cases F5 (o8 x.2.2.1 0)<;>cases F5 (o8 x.2.2.2.1 0)<;>cases F5 (o8 x.1.1 3)<;>cases F5 (o8 x.2.1.1 3)<;>rfl
variable {R:List β}
theorem Az(h:l.length=R.length):J3 (l++[a]) (x9 R)=some a:=by unfold x9;rw[nV,←h];simp
theorem xk(h:l.length=R.length):V7 (l++[a]) (V8 (x9 R))=some a:=by unfold V7 V8 x9;simp[←h]
theorem xm(h:l.length=R.length):Z9 (l++[a]) (V8 (x9 R)) b=l++[b]:=by unfold Z9 V8 x9;simp[←h]
variable {i:Nat}
theorem AA(h:i<l.length)(z:α):J3 l (i:Int)=some (l.getD i z):=by rw[nV,pR h];simp[List.getD,pR h]
theorem Qr(h:i<l.length)(z:α):V7 l (V8 (i:Int))=some (l.getD i z):=by unfold V7 V8;simp[List.getD,pR h]
theorem AB(h:i<l.length)(z:α):V7 l i=some (l.getD i z):=by unfold V7;simp[List.getD,pR h]
theorem Ot(i:Nat):V8 (i:Int)=i:=by unfold V8;simp
def ln3(st:BR):Prop:=st.2.1.length=st.1.length/\st.2.2.length=st.1.length
variable {st:BR}
theorem Iw(h:ln3 st)(d:Int)(r:F8):ln3 (lC d st r)/\(lC d st r).1.length<=st.1.length+1:=by
 unfold lC;cases ixC st.1 r with
 |some i=>exact⟨⟨by simpa[Z9]using h.1,by simpa[Z9]using h.2⟩,o7⟩|none=>exact⟨⟨by simp[h.1],by simp[h.2]⟩,o7⟩
theorem Ej{st:BR×List F8}(h:ln3 st.1)(d:Int)(r:F8):ln3 (oC d st r).1/\(oC d st r).1.1.length<=st.1.1.length+1:=by
 unfold oC;cases st.2.any λa=>jq a r
 .exact Iw h d r
 .exact⟨h,gp _⟩
theorem Py{x:U8}(h:ln3 st){n B:Nat}(hn:st.1.length<=n)(hB:x.2.2.2.2.length<=B)(hm:n+B<=1000000):
  ln3 (x.2.2.2.2.foldl (oC (qA x)) (st,[])).1/\(x.2.2.2.2.foldl (oC (qA x)) (st,[])).1.1.length<=n+x.2.2.2.2.length:=by
 have key:∀(l:List F8) (s:BR×List F8) (k:Nat),ln3 s.1->s.1.1.length<=k->ln3 (l.foldl (oC (qA x)) s).1/\(l.foldl (oC (qA x)) s).1.1.length<=k+l.length:=by
  intro l;induction l with
  |nil=>exact λs k h1 h2=>⟨h1,h2⟩|cons r l ih=>intro s k h1 h2;rw[ah];obtain⟨a1,a2⟩:=Ej h1 (qA x) r;obtain⟨b1,b2⟩:=ih (oC (qA x) s r) (k+1) a1 o5;exact⟨b1,by simp only[G8];omega⟩
 exact key _ _ n h hn
variable {B:Nat}{L:List U8}
theorem Ws(hl:L.length<=1000)(hr:∀x∈L,x.2.2.2.2.length<=B)(hB:L.length*B<=1000000):pV L=some (byS L):=by
 unfold pV byS;refine vk L Ar (λ(b:BR) i=>(b.1,b.2.1,b.2.2,i)) (λb=>(b.1,b.2.1,b.2.2)) (λi b=>ln3 b/\b.1.length<=i*B) ([],[],[]) o5 ⟨⟨rfl,rfl⟩,aY _⟩ (λi x b hx hi hb=>?_) (λb _=>?_) (λ_=>rfl)
 .obtain⟨h1,h2⟩:=hb;have hil:=(bD.1 hx).1;have hrx:=hr x (yH hx);have hiB:i*B+B<=1000000:=by
   have:(i+1)*B<=L.length*B:=x8 _ o5;rw[D7,I7]at this;omega
  obtain⟨g1,g2⟩:=Py (x:=x) h1 h2 hrx hiB;simp only[rV hx,V5,nV,hx,mD,GH];unfold Ar;cases hc:icS x
  .refine⟨?_,h1,by simp only[ql,V5];rw[D7];omega⟩;simp only[ql,V5,Am (show i<=9000000000000000000 by omega)]
  .refine⟨?_,g1,by simp only[ny,U6];rw[D7,I7];omega⟩;simp only[ny,U6];refine vk x.2.2.2.2 (oC (qA x)) (λ(s:BR×List F8) j=>(s.1.1,s.1.2.1,s.1.2.2,j)) (λs=>(s.1.1,s.1.2.1,s.1.2.2)) (λj s=>ln3 s.1/\s.1.1.length<=i*B+j/\s.2=x.2.2.2.2.take j) (b,[]) o5 ⟨h1,h2,rfl⟩ (λj r s hj hj2 hs=>?_) (λs _=>?_) (λ_=>?_)
   .obtain⟨s1,s2,s3⟩:=hs;have hjl:=(bD.1 hj).1;have hsub:oM x.2.2.2.2 0 (j:Int)=some s.2:=by
     unfold oM;rw[if_pos ⟨o5,o5,o5⟩,s3];simp
    have hlen2:s.2.length<=1000000:=by rw[s3,X8];omega
    obtain⟨a1,a2⟩:=Ej s1 (qA x) r;refine⟨?_,a1,o5,?_⟩
    rotate_left
    .show s.2++[r]=_;rw[s3,uY,hj];rfl
    simp only[rV hj,V5,nV,hj,mD,hsub,GZ hlen2,GZ (show s.1.1.length<=1000000 by omega),Am (show j<=9000000000000000000 by omega)];unfold oC;rw[NM];cases h3:ixC s.2 r with
    |some q=>simp only[lG,V5,ixI,Yy (show(0:Int)<=(q:Int) by omega)]|none=>
     simp only[ja,U6,ixI,Yx (show(-1:Int)<0 by omega)];unfold lC;obtain⟨l1,l2⟩:=s1;cases h4:ixC s.1.1 r with
     |some q=>have hq:=(bD.1 (wX h4)).1;simp only[Vl (show(0:Int)<=(q:Int) by omega),U6,AA (show q<s.1.2.1.length by omega) 0,AB (show q<s.1.2.1.length by omega) 0,AA (show q<s.1.2.2.length by omega) 0,AB (show q<s.1.2.2.length by omega) 0,mD,NZ,Ot]|none=>simp only[NI (show(-1:Int)<0 by omega),V5,EZ (show s.1.1.length+[r].length<=1073741824 by simp;omega),EZ (show s.1.2.1.length+[(0:Int)].length<=1073741824 by simp;omega),EZ (show s.1.2.2.length+[(0:Int)].length<=1073741824 by simp;omega),mD,Az l1,xk l1,Az l2,xk l2,xm l1,xm l2,NZ,show D5 .i64 0 1=1 from rfl]
   .simp only[hx,mD,rP];rfl
   .simp only[Am (show i<=9000000000000000000 by omega)]
 .simp only[rP];rfl
abbrev PB:=BR×List Int×List (F8×Int)×List F8
def oN(n d:Int)(s:PB)(r:F8):PB:=match ixC s.1.1 r with
 |none=>(lC d s.1 r,s.2.1++[n],zI jq s.2.2.1 r (x9 s.1.1),s.2.2.2++[r])|some i=>l9 (s.2.2.2.any λa=>jq a r) (s.1,s.2.1,s.2.2.1,s.2.2.2++[r]) (lC d s.1 r,Z9 s.2.1 i n,s.2.2.1,s.2.2.2++[r])
structure PO (n:Int) (st:BR) (last:List Int) (mp:List (F8×Int)):Prop where
 ln:ln3 st
 ll:last.length=st.1.length
 nd:st.1.Nodup
 mp:rE jq mp (λr=>(ixC st.1 r).map λi=>((i:Nat):Int))
 lt:∀v∈last,v<n
structure PI53 (n:Int) (s:PB):Prop where
 ln:ln3 s.1
 ll:s.2.1.length=s.1.1.length
 nd:s.1.1.Nodup
 mp:rE jq s.2.2.1 (λr=>(ixC s.1.1 r).map λi=>((i:Nat):Int))
 lt:∀v∈s.2.1,v<=n
 sub:∀a∈s.2.2.2,a∈s.1.1
 is:∀(i:Nat) a,s.1.1[i]? =some a->(s.2.1[i]? =some n↔a∈s.2.2.2)
variable {n:Int}
theorem PO.start{last:List Int}{mp:List (F8×Int)}(h:PO n st last mp):PI53 n (st,last,mp,[]):=
 ⟨h.ln,h.ll,h.nd,h.mp,λv hv=>Int.le_of_lt (h.lt v hv),λa ha=>(List.not_mem_nil ha).elim,λi a hi=>⟨λhn=>absurd (h.lt n (yH hn)) (Int.lt_irrefl n),λha=>(List.not_mem_nil ha).elim⟩⟩
theorem PI53.stop{s:PB}(h:PI53 n s):PO (n+1) s.1 s.2.1 s.2.2.1:=⟨h.ln,h.ll,h.nd,h.mp,λv hv=>by have:=h.lt v hv;omega⟩
theorem KY(d:Int)(st:BR)(r:F8):(lC d st r).1=match ixC st.1 r with|some _=>st.1|none=>st.1++[r]:=by unfold lC;cases ixC st.1 r<;>rfl
theorem PI53.step(hn:0<=n){s:PB}(h:PI53 n s)(d:Int)(r:F8):PI53 n (oN n d s r)/\((oN n d s r).1,(oN n d s r).2.2.2)=oC d (s.1,s.2.2.2) r:=by
 obtain⟨st,last,mp,done⟩:=s;unfold oN oC;have hbl:=Iw h.ln d r;have hbr:=KY d st r;cases hi:ixC st.1 r with
 |none=>
  rw[hi]at hbr;simp only at hbr;have hnr:=JC hi;have hdone:(done.any λa=>jq a r)=false:=by
   cases hq:done.any λa=>jq a r
   .rfl
   .exact absurd (h.sub r (Ed.1 hq)) hnr
  simp only;refine⟨⟨hbl.1,?_,?_,?_,?_,?_,?_⟩,by rw[hdone];rfl⟩
  .show(last++[n]).length=(lC d st r).1.length;rw[hbr];simp[h.ll]
  .show(lC d st r).1.Nodup;rw[hbr,G7];exact⟨h.nd,o7,λa ha b hb e=>by simp at hb;subst hb;subst e;exact hnr ha⟩
  .show rE jq (zI jq mp r (x9 st.1)) (λk=>(ixC (lC d st r).1 k).map λi=>((i:Nat):Int));refine(OW uh h.mp r (x9 st.1)).congr λk=>?_;rw[hbr,NP];cases hk:jq k r
   .simp only[U6];have hk' :jq r k=false:=by
     cases hq:jq r k
     .rfl
     .rw[(uh r k).1 hq,yz]at hk;cases hk
    rw[hk'];cases ixC st.1 k<;>rfl
   .have e:=(uh k r).1 hk;subst e;rw[hi,yz];rfl
  .intro v hv;rcases D9.1 hv with hv|hv
   .exact h.lt v hv
   .simp at hv;omega
  .intro a ha;show a∈(lC d st r).1;rw[hbr];rcases D9.1 ha with ha|ha
   .exact D9.2 (.inl (h.sub a ha))
   .exact D9.2 (.inr ha)
  .intro i a hia;have hia:(lC d st r).1[i]? =some a:=hia;rw[hbr]at hia;show(last++[n])[i]? =some n↔a∈done++[r];have hll:last.length=st.1.length:=h.ll;by_cases hlt:i<st.1.length
   .rw[G5 hlt]at hia;rw[G5 o5];have hne:a≠r:=λe=>hnr (e▸yH hia);rw[h.is i a hia];simp[hne]
   .have hlen:=(bD.1 hia).1;simp at hlen;have hi0:i=st.1.length:=o5;subst hi0;rw[G6 (A8 _)]at hia;simp at hia;subst hia;rw[G6 o5];simp[hll]
 |some q=>
  rw[hi]at hbr;simp only at hbr;have hq:=wX hi;simp only;cases hd:done.any λa=>jq a r
  .simp only[U6];have hrd:r∉done:=λe=>by rw[Ed.2 e]at hd;cases hd
   have hql:=(bD.1 hq).1;have hll:last.length=st.1.length:=h.ll;refine⟨⟨hbl.1,?_,?_,?_,?_,?_,?_⟩,trivial⟩
   .show(Z9 last q n).length=(lC d st r).1.length;rw[hbr];simp[Z9,hll]
   .show(lC d st r).1.Nodup;rw[hbr];exact h.nd
   .show rE jq mp (λk=>(ixC (lC d st r).1 k).map λi=>((i:Nat):Int));rw[hbr];exact h.mp
   .intro v hv;have hv:v∈last.set q n:=hv;rcases List.mem_or_eq_of_mem_set hv with hv|rfl
    .exact h.lt v hv
    .exact Int.le_refl _
   .intro a ha;show a∈(lC d st r).1;rw[hbr];rcases D9.1 ha with ha|ha
    .exact h.sub a ha
    .simp at ha;subst ha;exact yH hq
   .intro i a hia;have hia:(lC d st r).1[i]? =some a:=hia;rw[hbr]at hia;show(last.set q n)[i]? =some n↔a∈done++[r];have hil:=(bD.1 hia).1;rw[O0];by_cases e:q=i
    .subst e;rw[hq]at hia;cases hia;simp only[if_true,show q<last.length by omega];simp
    .simp only[e,if_false];rw[h.is i a hia];have hnd:st.1.Nodup:=h.nd;have hia2:st.1[i]? =some a:=hia;have hne:a≠r:=λe' =>by
      obtain⟨h1,e1⟩:=bD.1 hq;obtain⟨h2,e2⟩:=bD.1 hia2;exact e ((List.getElem_inj hnd).1 (e1.trans (e'.symm.trans e2.symm)))
     simp[hne]
  .simp only[V5];have hrd:=Ed.1 hd;refine⟨⟨h.ln,h.ll,h.nd,h.mp,h.lt,?_,?_⟩,trivial⟩
   .intro a ha;rcases D9.1 ha with ha|ha
    .exact h.sub a ha
    .simp at ha;subst ha;exact yH hq
   .intro i a hia;show last[i]? =some n↔a∈done++[r];rw[h.is i a hia];constructor
    .exact λha=>D9.2 (.inl ha)
    .intro ha;rcases D9.1 ha with ha|ha
     .exact ha
     .simp at ha;subst ha;exact hrd
theorem FI{n:Int}(hn:0<=n)(d:Int):∀(l:List F8) (s:PB),PI53 n s->PI53 n (l.foldl (oN n d) s)/\((l.foldl (oN n d) s).1,(l.foldl (oN n d) s).2.2.2)=l.foldl (oC d) (s.1,s.2.2.2)
 |[],s,h=>⟨h,rfl⟩|r::l,s,h=>by obtain⟨h1,h2⟩:=h.step hn d r;rw[ah,ah,←h2];exact FI hn d l _ h1
abbrev PS:=BR×List Int×List (F8×Int)
def Ba(n:Int)(s:PS)(x:U8):PS:=l9 (F5 (icS x)) s ((x.2.2.2.2.foldl (oN n (qA x)) (s.1,s.2.1,s.2.2,[])).1,(x.2.2.2.2.foldl (oN n (qA x)) (s.1,s.2.1,s.2.2,[])).2.1,(x.2.2.2.2.foldl (oN n (qA x)) (s.1,s.2.1,s.2.2,[])).2.2.1)
theorem PO.up{n m:Int}{last:List Int}{mp:List (F8×Int)}(h:PO n st last mp)(hm:n<=m):PO m st last mp:=⟨h.ln,h.ll,h.nd,h.mp,λv hv=>by have:=h.lt v hv;omega⟩
theorem NY(hn:0<=n){s:PS}(h:PO n s.1 s.2.1 s.2.2)(x:U8):PO (n+1) (Ba n s x).1 (Ba n s x).2.1 (Ba n s x).2.2/\(Ba n s x).1=Ar s.1 x:=by
 unfold Ba Ar;cases F5 (icS x)
 .obtain⟨h1,h2⟩:=FI hn (qA x) x.2.2.2.2 (s.1,s.2.1,s.2.2,[]) h.start;exact⟨h1.stop,congrArg (·.1) h2⟩
 .exact⟨h.up o5,rfl⟩
def pG2(b:PS×Int)(x:U8):PS×Int:=(Ba b.2 b.1 x,b.2+1)
theorem Jy:∀(L:List U8) (b:PS×Int),0<=b.2->PO b.2 b.1.1 b.1.2.1 b.1.2.2->(L.foldl pG2 b).1.1=L.foldl Ar b.1.1
 |[],_,_,_=>rfl|x::L,b,hn,h=>by obtain⟨h1,h2⟩:=NY hn h x;rw[ah,Jy L (pG2 b x) (by show 0<=b.2+1;omega) h1,ah];show L.foldl Ar (Ba b.2 b.1 x).1=_;rw[h2]
theorem JA(d:Int)(l:List F8):∀(q:BR×List F8),ln3 q.1->ln3 (l.foldl (oC d) q).1/\(l.foldl (oC d) q).1.1.length<=q.1.1.length+l.length:=by
 induction l with
 |nil=>exact λq h=>⟨h,o7⟩|cons r l ih=>intro q h;obtain⟨a1,a2⟩:=Ej h d r;obtain⟨b1,b2⟩:=ih (oC d q r) a1;exact⟨b1,by simp only[ah,G8];omega⟩
theorem NJ{x:U8}(h:ln3 st)(hx:x.2.2.2.2.length<=B):(Ar st x).1.length<=st.1.length+B:=by
 unfold Ar;cases F5 (icS x)
 .obtain⟨a1,a2⟩:=JA (qA x) x.2.2.2.2 (st,[]) h;have a2:_<=st.1.length+_:=a2;simp only[U6];omega
 .simp only[V5];omega
theorem Yv(hl:L.length<=1000)(hr:∀x∈L,x.2.2.2.2.length<=B)(hB:L.length*B<=1000000):iI L=some (byS L):=by
 unfold iI byS;refine vk L pG2 (λ(b:PS×Int) i=>(b.1.1.1,b.1.1.2.1,b.1.1.2.2,b.1.2.1,b.1.2.2,i)) (λb=>(b.1.1.1,b.1.1.2.1,b.1.1.2.2)) (λi b=>b.2=(i:Int)/\PO b.2 b.1.1 b.1.2.1 b.1.2.2/\b.1.1.1.length<=i*B) ((([],[],[]),[],[]),0) o5 ⟨rfl,⟨⟨rfl,rfl⟩,rfl,P7,Hr _,λv hv=>by cases hv⟩,aY _⟩ (λi x b hx hi hb=>?_) (λb _=>?_) (λ_=>?_)
 .obtain⟨h0,h1,h2⟩:=hb;have hil:=(bD.1 hx).1;have hrx:=hr x (yH hx);have hiB:i*B+B<=1000000:=by
   have:(i+1)*B<=L.length*B:=x8 _ o5;rw[D7,I7]at this;omega
  have hn:0<=b.2:=o5;obtain⟨p1,p2⟩:=NY hn h1 x;refine⟨?_,by show b.2+1=_;omega,p1,?_⟩
  rotate_left
  .show(Ba b.2 b.1 x).1.1.length<=_;rw[p2,D7,I7];have:=NJ h1.ln hrx;omega
  simp only[rV hx,V5,nV,hx,mD,IG];unfold pG2 Ba;cases hc:icS x
  .simp only[ql,V5,Am (show i<=9000000000000000000 by omega)]
  .simp only[ny,U6];refine vk x.2.2.2.2 (oN b.2 (qA x)) (λ(s:PB) j=>(s.1.1,s.1.2.1,s.1.2.2,s.2.1,s.2.2.1,j)) (λs=>(s.1.1,s.1.2.1,s.1.2.2,s.2.1,s.2.2.1)) (λj s=>PI53 b.2 s/\s.1.1.length<=i*B+j) (b.1.1,b.1.2.1,b.1.2.2,[]) o5 ⟨h1.start,h2⟩ (λj r s hj hj2 hs=>?_) (λs _=>?_) (λ_=>?_)
   .obtain⟨s1,s2⟩:=hs;have hjl:=(bD.1 hj).1;obtain⟨q1,q2⟩:=s1.step hn (qA x) r;have hbl:=Iw s1.ln (qA x) r;refine⟨?_,q1,?_⟩
    rotate_left
    .have:=(Ej (st:=(s.1,s.2.2.2)) s1.ln (qA x) r).2;rw[←q2]at this;exact rW this (by show s.1.1.length+1<=_;omega)
    have hhas:DZ (λ(a b:F8)=>U2 (seq a.1 b.1) (U2 (seq a.2.1 b.2.1) (o8 a.2.2 b.2.2))) s.2.2.1 r=(ixC s.1.1 r).isSome:=by have:=s1.mp.has r;rw[Option.isSome_map]at this;exact this
    have hget:lN (λ(a b:F8)=>U2 (seq a.1 b.1) (U2 (seq a.2.1 b.2.1) (o8 a.2.2 b.2.2))) s.2.2.1 r 0=((ixC s.1.1 r).map λi=>((i:Nat):Int)).getD 0:=s1.mp.get r 0;obtain⟨l1,l2⟩:=s1.ln;have l3:=s1.ll;simp only[rV hj,V5,nV,hj,mD,hhas,hget,Am (show j<=9000000000000000000 by omega)];unfold oN lC;cases h4:ixC s.1.1 r with
    |none=>simp only[ja,ql,V5,EZ (show s.1.1.length+[r].length<=1073741824 by simp;omega),EZ (show s.1.2.1.length+[(0:Int)].length<=1073741824 by simp;omega),EZ (show s.1.2.2.length+[(0:Int)].length<=1073741824 by simp;omega),EZ (show s.2.1.length+[(-1:Int)].length<=1073741824 by simp;omega),mD,Az l1,xk l1,Az l2,xk l2,xm l1,xm l2,Az l3,xk l3,xm l3,Qc,show D5 .i64 0 1=1 from rfl,Qn (show ¬(-1:Int)=(i:Int) by omega),U6,h0]|some q=>
     have hq:=(bD.1 (wX h4)).1;simp only[lG,ny,U6,bQ,dF,AA (show q<s.2.1.length by omega) 0,Qr (show q<s.2.1.length by omega) 0,mD];have hd:o8 (s.2.1.getD q 0) (i:Int)=(s.2.2.2.any λa=>jq a r):=by
      have hiff:=s1.is q r (wX h4);have hv:s.2.1[q]? =some (s.2.1.getD q 0):=by rw[pR o5];simp[List.getD,pR (show q<s.2.1.length by omega)]
      rw[hv]at hiff;rw[bM,Ap,Ed,←hiff,h0];simp
     rw[hd];cases s.2.2.2.any λa=>jq a r
     .simp only[U6,AA (show q<s.1.2.1.length by omega) 0,AB (show q<s.1.2.1.length by omega) 0,AA (show q<s.1.2.2.length by omega) 0,AB (show q<s.1.2.2.length by omega) 0,mD,Qc,Ot,h0]
     .simp only[V5]
   .simp only[rP];rfl
   .simp only[Am (show i<=9000000000000000000 by omega)]
 .simp only[rP];rfl
 .rw[Jy L _ (Int.le_refl 0) ⟨⟨rfl,rfl⟩,rfl,P7,Hr _,λv hv=>by cases hv⟩]
def Gg(L:List U8):Bool:=bif (L.take 60).any (λx=> !(l9 (J4 60 (x9 x.2.2.2.2)) false (l9 (J4 1125899906842624 x.1.2.2) false (l9 (J4 x.1.2.2 (-1125899906842624)) false (l9 (J4 1125899906842624 x.2.1.2.2) false (F5 (J4 x.2.1.2.2 (-1125899906842624))))))))then false else bG (x9 L) 50
theorem SC(L:List U8):rZ L=some (Gg L):=by
 unfold rZ Gg;refine Qx (Uj (L.take 60) (λx=> !(l9 (J4 60 (x9 x.2.2.2.2)) false (l9 (J4 1125899906842624 x.1.2.2) false (l9 (J4 x.1.2.2 (-1125899906842624)) false (l9 (J4 1125899906842624 x.2.1.2.2) false (F5 (J4 x.2.1.2.2 (-1125899906842624)))))))) false PUnit.unit (by rw[X8];omega) (λi x hx=>?_) ?_) ?_
 rotate_left 2
 .cases (L.take 60).any _<;>rfl
 .obtain⟨h1,h2⟩:=PH hx;simp only[rV h1,V5,NI (show(i:Int)<60 by omega),nV,h1,mD];cases J4 60 (x9 x.2.2.2.2)
  case true=>rfl
  cases J4 1125899906842624 x.1.2.2
  case true=>rfl
  cases J4 x.1.2.2 (-1125899906842624)
  case true=>rfl
  cases J4 1125899906842624 x.2.1.2.2
  case true=>rfl
  cases J4 x.2.1.2.2 (-1125899906842624)<;>rfl
 .rcases Ub L 60 with h|h
  .rw[h];rfl
  .rw[h];cases J4 ((60:Nat):Int) (x9 L)<;>rfl
theorem MK(h:Gg L=true):L.length<=50/\∀x∈L,x.2.2.2.2.length<=60:=by
 unfold Gg at h;cases h1:(L.take 60).any (λx=> !(l9 (J4 60 (x9 x.2.2.2.2)) false (l9 (J4 1125899906842624 x.1.2.2) false (l9 (J4 x.1.2.2 (-1125899906842624)) false (l9 (J4 1125899906842624 x.2.1.2.2) false (F5 (J4 x.2.1.2.2 (-1125899906842624))))))))<;>rw[h1]at h
 case true=>cases h
 simp only[cond_false,Ur]at h;have hl:L.length<=50:=by simp only[x9]at h;omega
 refine⟨hl,λx hx=>?_⟩;rw[G9 o5]at h1;have:=mf.1 h1 x hx;cases h2:J4 60 (x9 x.2.2.2.2)
 .have h3:¬(60:Int)<x9 x.2.2.2.2:=λe=>by rw[NI e]at h2;cases h2
  simp only[x9]at h3;omega
 .rw[h2]at this;simp[l9]at this
theorem Du{l:List Int}(h:l.length<=1000000):nS l l=some true:=by
 unfold nS;have:=NF (a:=l) (b:=l) (λ(x:Int)=>x) (λx y=>o8 x y) (λx y=>Ap) h (f:=λ(x:Int)=>
   l9 (J4 x (x9 l)) (l9 (J4 x (x9 l)) (l7 (J3 l x) λ(x_1:Int)=>l7 (J3 l x) λ(x_2:Int)=>l9 (F5 (o8 x_1 x_2)) (some (Out.rt false)) (some (Out.nx (D5 .i64 x 1)))) (some (Out.ex PUnit.unit))) (some (Out.ex PUnit.unit))) (λi x y hx hy=>by
  cases hx.symm.trans hy;simp only[nV,hx,mD]) (by simp only[rP];rfl)
 rw[Jr rfl]at this;exact this
theorem PX{B:Nat} :∀(L:List U8) (st:BR),(∀x∈L,x.2.2.2.2.length<=B)->ln3 st->ln3 (L.foldl Ar st)/\(L.foldl Ar st).1.length<=st.1.length+L.length*B
 |[],st,_,h=>⟨h,o7⟩|x::L,st,hx,h=>by
  have hxB:=hx x o7;have h1:ln3 (Ar st x):=by
   unfold Ar;cases F5 (icS x)
   .exact(JA (qA x) x.2.2.2.2 (st,[]) h).1
   .exact h
  obtain⟨g1,g2⟩:=PX L (Ar st x) (λy hy=>hx y (by simp[hy])) h1;have:=NJ h hxB;exact⟨g1,by simp only[ah,G8,D7,I7];omega⟩
theorem KZ(L:List U8):jk L=some true:=by
 unfold jk;rw[SC,mD,KW];cases hf:Gg L
 .rfl
 obtain⟨h1,h2⟩:=MK hf;have hB:L.length*60<=1000000:=o5;simp only[ny,U6,Yv o5 h2 hB,Ws o5 h2 hB,mD];obtain⟨⟨g1,g2⟩,g3⟩:=PX L ([],[],[]) h2 ⟨rfl,rfl⟩;have hl:(byS L).1.length<=1000000:=by unfold byS;simp at g3;omega
 have hl2:(byS L).2.1.length<=1000000:=by unfold byS at hl ⊢;omega
 have hl3:(byS L).2.2.length<=1000000:=by unfold byS at hl ⊢;omega
 rw[Kt _ hl,Jr rfl,mD,V5,Du hl2,mD,V5,Du hl3];rfl
end Go.GP
namespace Go.GP
open Gt
theorem wF:∀x,KO Gt.ps3 x->(Gt.s3.fn x:Option Bool)=some true:=λx h=>KZ x
end Go.GP
