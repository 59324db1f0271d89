import Derived.Test.YtoilbhecaokonabGreatDoorT1
import Derived.Test.YtoilbhecaokonabGreatDoorT2
set_option linter.all false
namespace Go.GP
variable {a:Int}{b:Int}
section
variable {α β σ ε ρ:Type}
@[simp] theorem iZ (x:α) (f:α->Option β):l9 (some x) f=f x:=rfl
@[simp] theorem a2c (f:α->Option β):l9 none f=none:=rfl
theorem Yh{o o' :Option α}(h:o=o'){K:α->Option β}{r:Option β}(h2:l9 o' K=r):l9 o K=r:=by rw[h];exact h2
@[simp] theorem F8 (x y:α):l7 true x y=x:=rfl
@[simp] theorem E9 (x y:α):l7 false x y=y:=rfl
theorem Y_{b:Bool}(h:b=true)(x y:α):l7 b x y=x:=by rw[h];rfl
theorem UC{b:Bool}(h:b=false)(x y:α):l7 b x y=y:=by rw[h];rfl
@[simp] theorem Rz (s:σ) (f:σ->α) (g:ε->α):aN (.inl s) f g=f s:=rfl
@[simp] theorem F_ (s:ε) (f:σ->α) (g:ε->α):aN (.inr s) f g=g s:=rfl
@[simp] theorem jU:G5 true=false:=rfl
@[simp] theorem qj:G5 false=true:=rfl
theorem Ec(h:a<b):I7 a b=true:=by simp[I7,h]
theorem yP(h:b<=a):I7 a b=false:=by simp[I7];omega
theorem Hl(h:a<=b):Y2 a b=true:=by simp[Y2,h]
theorem Eb(h:b<a):Y2 a b=false:=by simp[Y2];omega
theorem jX(h:a=b):x8 a b=true:=by simp[x8,h]
theorem uk(h:a≠b):x8 a b=false:=by simp[x8,h]
theorem Bv :I7 a b=true↔a<b:=by simp[I7]
theorem su :Y2 a b=true↔a<=b:=by simp[Y2]
theorem bJ :x8 a b=true↔a=b:=by simp[x8]
theorem Df :I7 a b=false↔b<=a:=by simp[I7]
theorem Dc :Y2 a b=false↔b<a:=by simp[Y2]
theorem JO :x8 a b=false↔a≠b:=by simp[x8]
theorem Pg{a b:List UInt8} :seq a b=true↔a=b:=by simp[seq]
def I64(n:Int):Prop:=-9223372036854775808<=n/\n<=9223372036854775807
theorem a4b{p:Int}(h:I64 p:=by unfold I64;omega):I64 p:=h
theorem R_{n:Int}(h:I64 n):IntKind.wrap .i64 n=n:=by unfold I64 at h;unfold IntKind.wrap;simp[IntKind.signed,IntKind.bits];omega
theorem XJ(h:I64 (a+b)):D7 .i64 a b=a+b:=R_ h
theorem jQ(l:List α)(i:Nat):H9 l (i:Int)=l[i]?:=by simp[H9]
theorem jr{l:List α}{i:Int}{x:α}(h:H9 l i=some x):0<=i/\i<x9 l/\x∈l/\l[i.toNat]? =some x:=by
 unfold H9 at h;split at h
 .rename_i h0;obtain⟨h1,h2⟩:=Z5.1 h;refine⟨h0,by simp[x9];omega,?_,h⟩;rw[←h2];exact af h1
 .cases h
theorem Ou{l:List α}{i:Int}(h0:0<=i)(h:i<x9 l):∃x,H9 l i=some x/\x∈l:=by
 unfold x9 at h;refine⟨l[i.toNat]'o5,?_,af _⟩;unfold H9
 rw[if_pos h0,kG]
end
section
variable {σ ε ρ:Type}
end
section
variable {α β ε ρ:Type}
open Classical in
theorem Wi(l:List α)(p:Nat->α->Bool)(r:ρ)(e:ε)(f:Int->Option (Out Int ε ρ))(hl:l.length<18446744073709551616)
  (hin:∀(i:Nat) (a:α),l[i]? =some a->f (i:Int)=if p i a=true then some (.nx ((i+1:Nat):Int))else some (.rt r))
  (hend:f (l.length:Int)=some (.ex e)):
  ak f 0=if(∀i a,l[i]? =some a->p i a=true)then some (.inl e)else some (.inr r):=by
 have key:∀(n i:Nat),i<=l.length->l.length -i<n->(∀j a,j<i->l[j]? =some a->p j a=true)->qh f n (i:Int)=if(∀i a,l[i]? =some a->p i a=true)then some (.inl e)else some (.inr r):=by
  intro n;induction n with
  |zero=>intro i _ h;omega|succ n ih=>
   intro i hi hn hp;unfold qh;by_cases h:i<l.length
   .have e' :=kG h;rw[hin i _ e'];by_cases hpi:p i l[i]=true
    .rw[if_pos hpi];exact ih (i+1) o5 o5 λj a hj ha=>by
      by_cases hji:j=i
      .subst hji;rw[e']at ha;cases ha;exact hpi
      .exact hp j a o5 ha
    .rw[if_neg hpi,if_neg];intro hall;exact hpi (hall i _ e')
   .have:i=l.length:=o5;subst this;rw[hend,if_pos];intro j a ha;exact hp j a (Z5.1 ha).1 ha
 exact key _ 0 (di _) hl λj a hj=>by omega
end
end Go.GP
namespace Go.GP
section
variable {α β α' β' σ τ ε ε' ρ ρ' :Type}
def Ag(R:α->β->Prop)(o:Option α)(p:Option β):Prop:=∃a b,o=some a/\p=some b/\R a b
theorem Ag.mk{R:α->β->Prop}{a:α}{b:β}(h:R a b):Ag R (some a) (some b):=⟨a,b,rfl,rfl,h⟩
theorem Ag.mono{R S:α->β->Prop}{o:Option α}{p:Option β}(h:Ag R o p)(hs:∀a b,o=some a->p=some b->R a b->S a b):Ag S o p:=by obtain⟨a,b,h1,h2,h3⟩:=h;exact⟨a,b,h1,h2,hs a b h1 h2 h3⟩
theorem Ag.bind{R:α->β->Prop}{S:α' ->β' ->Prop}{o:Option α}{p:Option β}{f:α->Option α'}{g:β->Option β'}(h:Ag R o p)
  (hk:∀a b,o=some a->p=some b->R a b->Ag S (f a) (g b)):Ag S (l9 o f) (l9 p g):=by
 obtain⟨a,b,h1,h2,h3⟩:=h;have:=hk a b h1 h2 h3;rw[h1,h2];exact this
theorem Ag.left{S:α' ->β->Prop}{o:Option α}{a:α}{f:α->Option α'}{p:Option β}(h:o=some a)(hk:Ag S (f a) p):Ag S (l9 o f) p:=by rw[h];exact hk
theorem Ag.right{S:α->β' ->Prop}{p:Option β}{b:β}{g:β->Option β'}{o:Option α}(h:p=some b)(hk:Ag S o (g b)):Ag S o (l9 p g):=by rw[h];exact hk
theorem Ag.cond{S:α->β->Prop}{b c:Bool}{x y:Option α}{u v:Option β}(h:b=c)(h1:b=true->Ag S x u)(h2:b=false->Ag S y v):Ag S (l7 b x y) (l7 c u v):=by
 subst h;cases b
 .exact h2 rfl
 .exact h1 rfl
theorem Ag.eq{o p:Option α}(h:Ag Eq o p):∃a,o=some a/\p=some a:=by obtain⟨a,b,h1,h2,rfl⟩:=h;exact⟨a,h1,h2⟩
def a9d(E:ε->ε' ->Prop)(Q:ρ->ρ' ->Prop):ε⊕ρ->ε' ⊕ρ' ->Prop
 | .inl a,.inl b=>E a b| .inr a,.inr b=>Q a b|_,_=>False
theorem Ag.sum{E:ε->ε' ->Prop}{Q:ρ->ρ' ->Prop}{S:α->β->Prop}{o:ε⊕ρ}{p:ε' ⊕ρ'}{f:ε->Option α}{g:ρ->Option α}{f' :ε' ->Option β}{g' :ρ' ->Option β}(h:a9d E Q o p)
  (h1:∀a b,E a b->Ag S (f a) (f' b)) (h2:∀a b,Q a b->Ag S (g a) (g' b)):Ag S (aN o f g) (aN p f' g'):=by
 cases o<;>cases p<;>first|exact h1 _ _ h|exact h2 _ _ h|exact h.elim
theorem Qv{p:Nat->Option ρ}(n:Nat)(hn:n<18446744073709551616)(e:ε){f:Int->Option (Out Int ε ρ)}
  (h1:∀i,i<n->f (i:Int)=some (match p i with|some r=> .rt r|none=> .nx ((i+1:Nat):Int))) (h2:f (n:Int)=some (.ex e)):
  ak f 0=some (match(List.range n).findSome? p with|some r=> .inr r|none=> .inl e):=by
 have key:∀m i,i+m=n->∀k,m<k->qh f k (i:Int)=some (match(List.range' i m).findSome? p with|some r=> .inr r|none=> .inl e):=by
  intro m;induction m with
  |zero=>intro i hi k hk;obtain⟨k,rfl⟩:∃k',k=k' +1:=⟨k -1,o5⟩;have:i=n:=o5;subst this;unfold qh;rw[h2];rfl
  |succ m ih=>
   intro i hi k hk;obtain⟨k,rfl⟩:∃k',k=k' +1:=⟨k -1,o5⟩;unfold qh;rw[h1 i o5,fG,List.findSome?_cons];cases hp:p i with
   |some r=>rfl|none=>exact ih (i+1) o5 k o5
 have:=key n 0 o5 lF hn;rw[List.range_eq_range'];exact this
end
end Go.GP
namespace Go.GP
open Gt
set_option maxRecDepth 100000
theorem BP{i:Nat}(h:i<=9000000000000000000):D7 .i64 (i:Int) 1=((i+1:Nat):Int):=by rw[XJ a4b];omega
def a4w(c:UInt8):Bool:=decide (97<=c.toNat)&&decide (c.toNat<=122)
def a9b(c:UInt8):Bool:=a4w c || (decide (48<=c.toNat)&&decide (c.toNat<=57)) || decide (c.toNat=95)
def a9p:List (List UInt8):=ref08_Reserved.getD []
def LW(s:List UInt8):Bool:=match s with|[]=>false|c::r=>decide (s.length<=16)&&a4w c&&s.all a9b&&!(a9p.any λw=>seq s w)
theorem PD(t:Int×Int)(en:List iI):aS t en=ref09_ValidType t en:=by
 unfold aS ref09_ValidType;by_cases h1:t.1=1
 .simp[x8,h1,Y2]
 by_cases h2:t.1=2
 .simp[x8,h2,Y2]
 by_cases h3:t.1=3
 .simp[x8,h3,Y2]
 by_cases h4:t.1=4
 .simp[x8,h4,Y2]
 by_cases h5:t.1=5
 .simp[x8,h5,Y2]
 by_cases h6:t.1=6
 .simp[x8,h6,Y2]
 .simp only[x8,h1,h2,h3,h4,h5,h6,decide_false,E9,iZ];by_cases h7:1<=t.1
  .rw[Y_ (Hl h7),UC (Eb o5)]
  .rw[UC (Eb o5)]
def vty(t:Int×Int)(en:List iI):Bool:=l7 (x8 t.1 6) (l7 (Y2 0 t.2) (I7 t.2 (x9 en)) false) (l7 (Y2 1 t.1) (l7 (Y2 t.1 5) (x8 t.2 0) false) false)
theorem Mc(t:Int×Int)(en:List iI):ref09_ValidType t en=some (vty t en):=by unfold ref09_ValidType vty;cases x8 t.1 6<;>cases Y2 0 t.2<;>cases Y2 1 t.1<;>cases Y2 t.1 5<;>rfl
theorem PE(t:Int×Int)(en:List iI):aS t en=some (vty t en):=(PD t en).trans (Mc t en)
def bnd(t:Int×Int)(en:List iI):Int×Int:=(ref09_Bounds t en).getD (0,0)
def inB(n:Int)(b:Int×Int):Bool:=l7 (Y2 b.1 n) (Y2 n b.2) false
def PY(r:Int×Int):Bool:=l7 (Y2 0 r.1) (l7 (Y2 r.1 r.2) (Y2 r.2 109573) false) false
def a4n(a b:Int×Int):(Int×Int)×Bool:=l7 (PY a) (l7 (PY b) (l7 (Y2 (zG a.2 b.2) (ul a.1 b.1)) ((0,0),false) ((ul a.1 b.1,zG a.2 b.2),true)) ((0,0),false)) ((0,0),false)
def a4k(a b:EY):Bool:=l7 (a4n a.1 b.1).2 (I7 (ul a.2.1 b.2.1) (zG a.2.2.1 b.2.2.1)) false
def a4d(x:EY)(bl br:Int×Int):Bool:=
 l7 (PY x.1) (l7 (x8 x.1.1 x.1.2) true (l7 (Y2 x.2.2.1 x.2.1) true (l7 (inB x.2.1 bl) (l7 (inB (O0 .i64 x.2.2.1 1) bl) (G5 (inB x.2.2.2 br)) true) true))) true
def a9q(t:kK)(en:List iI)(i:Nat):Option (Int×Int):=match t.2.2.2[i]? with
 |some x=>l7 (a4d x (bnd t.2.1 en) (bnd t.2.2.1 en)) (some ((i:Int),3)) (l7 ((t.2.2.2.take i).any λy=>a4k y x) (some ((i:Int),11)) none)|none=>none
def a0W(t:kK)(en:List iI):Int×Int:=
 l7 (I7 64 (x9 t.2.2.2)) (64,4) (l7 (vty t.2.1 en) (l7 (vty t.2.2.1 en) (match(List.range t.2.2.2.length).findSome? (a9q t en)with|some r=>r|none=>(0,0)) (-1,8)) (-1,8))
theorem Oo(a b:Int):I7 a b= !Y2 b a:=by simp only[I7,Y2];rw[←decide_not];congr 1;simp
end Go.GP
namespace Go.GP
open Gt
set_option maxRecDepth 100000
section
variable {α ε ρ:Type}
theorem X_(l:List α)(p:α->Bool)(r:ρ)(e:ε){f:Int->Option (Out Int ε ρ)}(hl:l.length<=1000000)
  (hin:∀(i:Nat) (a:α),l[i]? =some a->f (i:Int)=some (bif p a then .rt r else .nx (D7 .i64 (i:Int) 1))) (hend:f (l.length:Int)=some (.ex e)):
  ak f 0=some (bif l.any p then .inr r else .inl e):=by
 rw[Wi l (λi a=> !p a) r e f o5 (λi a ha=>?_) hend]
 .have hb:(∀(j:Nat) (a:α),l[j]? =some a->(!p a)=true)↔l.any p=false:=by
   rw[kN];constructor
   .intro h x hx;obtain⟨j,hj,rfl⟩:=gm hx;have:=h j _ (kG hj);simpa using this
   .intro h j a hj;have:=h a (BH hj);simpa using this
  by_cases hv:l.any p=false
  .rw[if_pos (hb.2 hv),hv];rfl
  .rw[if_neg (λh=>hv (hb.1 h))];simp only[yf]at hv;rw[hv];rfl
 .have hi:=(Z5.1 ha).1;rw[hin i a ha,BP o5];cases p a<;>rfl
theorem vK{i:Nat}{l:List α}{a:α}(h:l[i]? =some a):I7 (i:Int) (x9 l)=true:=Ec (by have:=(Z5.1 h).1;simp only[x9];omega)
theorem vH(l:List α):I7 (l.length:Int) (x9 l)=false:=yP (by simp[x9])
end
end Go.GP
namespace Go.GP
open Gt
set_option maxRecDepth 100000
section
variable {α ε ρ:Type}
end
def VA(l:ay)(kind:Nat)(k:Nat)(n:List UInt8):Bool:=
 match kind with
 |1=>(l.1.take k).any λx=>seq x.1 n|2=>(l.1.any λx=>seq x.1 n) || ((l.2.1.take k).any λx=>seq x.1 n)|_=>(l.1.any λx=>seq x.1 n) || (l.2.1.any λx=>seq x.1 n) || ((l.2.2.take k).any λx=>seq x.1 n)
def Few(l:ay):Prop:=l.1.length<=1000/\l.2.1.length<=1000/\l.2.2.length<=1000
def a9i(ms:List (List UInt8))(i:Nat):Option (Int×Int):=match ms[i]? with
 |some m=>l7 (LW m) (l7 ((ms.take i).any λx=>seq m x) (some (7,((100+i:Nat):Int))) none) (some (2,((100+i:Nat):Int)))|none=>none
def a4p(l:ay)(i:Nat)(e:iI):Int×Int:=
 l7 (LW e.1) (l7 (VA l 1 i e.1) (7,0) (l7 (x8 (x9 e.2) 0) (5,0) (l7 (I7 16 (x9 e.2)) (4,116) (match(List.range e.2.length).findSome? (a9i e.2)with|some r=>r|none=>(0,0))))) (2,0)
def dh{ρ:Type}(n:Nat)(p:Nat->Option ρ):Option ρ:=(List.range n).findSome? p
def XC(kind i:Int)(r:Int×Int):Option (Int×Int×Int×Int):=l7 (x8 r.1 0) none (some (r.1,kind,i,r.2))
def a4o(l:ay)(i:Nat):Option (Int×Int×Int×Int):=match l.1[i]? with|some e=>XC 1 i (a4p l i e)|none=>none
def SK(l:ay):Int×Int×Int×Int:=l7 (I7 8 (x9 l.1)) (4,1,8,0) (match dh l.1.length (a4o l)with|some r=>r|none=>(0,0,0,0))
def T_(l:ay):Prop:=∀e∈l.1,e.1.length<=1000000/\∀m∈e.2,m.length<=1000000
theorem jA{ρ:Type}{n:Nat}{p:Nat->Option ρ}{r:ρ}(h:dh n p=some r):∃i,i<n/\p i=some r:=by unfold dh at h;obtain⟨i,hi,hp⟩:=List.exists_of_findSome?_eq_some h;exact⟨i,O6.1 hi,hp⟩
def a4a(l:ay)(i:Nat)(t:kK):Int×Int:=
 l7 (LW t.1) (l7 (VA l 2 i t.1) (7,0) (l7 (x8 (a0W t l.1).2 0) (0,0) ((a0W t l.1).2,l7 (Y2 0 (a0W t l.1).1) (D7 .i64 100 (a0W t l.1).1) 0))) (2,0)
def a3Z(l:ay)(i:Nat):Option (Int×Int×Int×Int):=match l.2.1[i]? with|some t=>XC 2 i (a4a l i t)|none=>none
def Pv(l:ay):Int×Int×Int×Int:=l7 (I7 8 (x9 l.2.1)) (4,2,8,0) (match dh l.2.1.length (a3Z l)with|some r=>r|none=>(0,0,0,0))
def Xh(l:ay):Prop:=∀t∈l.2.1,t.1.length<=1000000
def Gp(l:ay)(s:A8):List iI×List kK×List (Int×Int)×List (Int×Int)×List (Int×Int)×Bool:=
 match(if 0<=s.2.1 then l.2.2[s.2.1.toNat]? else none)with
 |some k=>(l.1,l.2.1,s.2.2.1.map (·.2),s.2.2.2.1.map (·.2),k.2.2.2.1.map (·.2),true)|none=>(l.1,l.2.1,s.2.2.1.map (·.2),s.2.2.2.1.map (·.2),[],false)
abbrev SI(l:List Int):Prop:=l.Pairwise (·< ·)
def ins(n:Int):List Int->List Int
 |[]=>[n]|a::l=>if n<=a then(if n<a then n::a::l else a::l)else a::ins n l
theorem En(n x:Int):∀l,x∈ins n l↔x=n\/x∈l
 |[]=>by simp[ins]|a::l=>by
  unfold ins;by_cases h:n<=a
  .rw[if_pos h];by_cases h2:n<a
   .rw[if_pos h2];simp
   .rw[if_neg h2];have:n=a:=o5;subst this;simp
  .rw[if_neg h,o9,En n x l,o9];constructor
   .rintro(h|h|h)<;>simp[h]
   .rintro(h|h|h)<;>simp[h]
theorem ZH(n:Int):∀{l},SI l->SI (ins n l)
 |[],_=>List.pairwise_singleton _ _|a::l,h=>by
  have h' :=U7.1 h;unfold ins;by_cases h1:n<=a
  .rw[if_pos h1];by_cases h2:n<a
   .rw[if_pos h2];refine U7.2 ⟨λx hx=>?_,h⟩;rcases o9.1 hx with rfl|hx
    .exact h2
    .have:=h'.1 x hx;omega
   .rw[if_neg h2];exact h
  .rw[if_neg h1];refine U7.2 ⟨λx hx=>?_,ZH n h'.2⟩;rcases(En n x l).1 hx with rfl|hx
   .omega
   .exact h'.1 x hx
def JQ(ns:List Int)(l:List Int):List Int:=ns.foldl (λacc n=>ins n acc) l
theorem Kr(x:Int):∀ns l,x∈JQ ns l↔x∈ns\/x∈l
 |[],l=>by simp[JQ]|n::ns,l=>by
  show x∈JQ ns (ins n l)↔_;rw[Kr x ns,En,o9];constructor
  .rintro(h|h|h)<;>simp[h]
  .rintro((h|h)|h)<;>simp[h]
theorem Pi:∀ns {l},SI l->SI (JQ ns l)
 |[],_,h=>h|n::ns,_,h=>Pi ns (ZH n h)
def Gv(l:List Int):List Int:=JQ l []
theorem pI(x:Int)(l:List Int):x∈Gv l↔x∈l:=by unfold Gv;rw[Kr];simp
theorem Vs(l:List Int):SI (Gv l):=Pi l List.Pairwise.nil
theorem JX(n:Int):∀l,(ins n l).length<=l.length+1
 |[]=>by simp[ins]|a::l=>by
  unfold ins;by_cases h1:n<=a
  .rw[if_pos h1];by_cases h2:n<a
   .rw[if_pos h2];simp
   .rw[if_neg h2];simp
  .rw[if_neg h1];have:=JX n l;simp only[G6];omega
theorem Hq:∀ns l,(JQ ns l).length<=l.length+ns.length
 |[],l=>by simp[JQ]|n::ns,l=>by have h1:=Hq ns (ins n l);have h2:=JX n l;show(JQ ns (ins n l)).length<=_;simp only[G6];omega
theorem Qq(l:List Int):(Gv l).length<=l.length:=by have:=Hq l [];unfold Gv;simpa using this
theorem ZI{l:List Int}(n:Nat)(h:SI l)(h2:∀x∈l,0<=x/\x<n):l.length<=n:=by
 have key:∀(l:List Int) (lo:Int),SI l->(∀x∈l,lo<=x/\x<n)->lo<=n->(l.length:Int)<=n -lo:=by
  intro l;induction l with
  |nil=>intro lo _ _ hlo;simp;omega|cons a l ih=>intro lo hs hb hlo;have h' :=U7.1 hs;have ha:=hb a o7;have:=ih (a+1) h'.2 (λx hx=>⟨by have:=h'.1 x hx;omega,(hb x (by simp[hx])).2⟩) o5;simp only[G6];omega
 have:=key l 0 h (λx hx=>h2 x hx) o5;omega
def hg(l:List Int)(i:Nat):Int:=l.getD i 0
theorem a0f{l:List Int}{i:Nat}(h:i<l.length):l[i]? =some (hg l i):=by unfold hg;rw[zi,kG h];rfl
def U_(l:List Int)(n:Nat):Prop:=∀k,0<k->k<n->hg l ((k -1) / 2)<=hg l k
def XG(en:List iI)(f:jS)(a b:List jS):Int:=
 l7 (LW f.1) (l7 (a.any λx=>seq x.1 f.1) 7 (l7 (b.any λx=>seq x.1 f.1) 7 (l7 (vty f.2 en) 0 8))) 2
def VV(c e:Int):Option (Int×Int):=l7 (x8 c 0) none (some (c,e))
def inP(l:ay)(s:A8)(i:Nat):Option (Int×Int):=match s.2.2.1[i]? with|some f=>VV (XG l.1 f (s.2.2.1.take i) []) (100+i:Nat)|none=>none
def a4m(l:ay)(s:A8)(i:Nat):Option (Int×Int):=match s.2.2.2.1[i]? with|some f=>VV (XG l.1 f s.2.2.1 (s.2.2.2.1.take i)) (200+i:Nat)|none=>none
def Xc(s:A8):Prop:=(∀f∈s.2.2.1,f.1.length<=1000000)/\(∀f∈s.2.2.2.1,f.1.length<=1000000)
def DY(l:ay)(s:A8):Option (Int×Int):=match dh s.2.2.1.length (inP l s)with|some r=>some r|none=>dh s.2.2.2.1.length (a4m l s)
def arF(op:Int):Int:=(ref10_Arity op).getD 0
inductive XT where
 |l0 (n:Int×Int)|l1 (n:Int×Int) (a:XT)|l2 (n:Int×Int) (a b:XT)|l3 (n:Int×Int) (a b c:XT)
def XT.size:XT->Nat
 | .l0 _=>1| .l1 _ a=>a.size+1| .l2 _ a b=>a.size+b.size+1| .l3 _ a b c=>a.size+b.size+c.size+1
def XT.post:XT->List (Int×Int)
 | .l0 n=>[n]| .l1 n a=>a.post++[n]| .l2 n a b=>a.post++b.post++[n]| .l3 n a b c=>a.post++b.post++c.post++[n]
def ED:List XT->List (Int×Int)
 |[]=>[]|t::r=>ED r++t.post
def push(n:Int×Int)(ts:List XT):Int⊕List XT:=
 if arF n.1=0 then .inr (.l0 n::ts)
 else if arF n.1=1 then(match ts with|a::r=> .inr (.l1 n a::r)|_=> .inl 5)
 else if arF n.1=2 then(match ts with|b::a::r=> .inr (.l2 n a b::r)|_=> .inl 5)
 else if arF n.1=3 then(match ts with|c::b::a::r=> .inr (.l3 n a b c::r)|_=> .inl 5)
 else .inl 2
def Ah:Nat->List (Int×Int)->List XT->(Int×Int)⊕List XT
 |_,[],ts=> .inr ts
 |i,n::es,ts=>match push n ts with
  | .inl c=> .inl ((i:Int),c)| .inr ts' =>if 12<ts'.length then .inl ((i:Int),16)else Ah (i+1) es ts'
def qK(e:List (Int×Int)):(Int×Int)⊕XT:=
 if 48<e.length then .inl (0,4)else if e.length=0 then .inl (0,5)else
  match Ah 0 e []with
  | .inl x=> .inl x| .inr [t]=> .inr t| .inr _=> .inl ((e.length:Int),4)
theorem WH{n:Int×Int}{ts ts' :List XT}(h:push n ts= .inr ts'):ED ts' =ED ts++[n]/\ts' ≠[]:=by
 unfold push at h;split at h
 .cases h;exact⟨rfl,o7⟩
 split at h
 .split at h
  .cases h;exact⟨by simp[ED,XT.post],o7⟩
  .cases h
 split at h
 .split at h
  .cases h;exact⟨by simp[ED,XT.post],o7⟩
  .cases h
 split at h
 .split at h
  .cases h;exact⟨by simp[ED,XT.post],o7⟩
  .cases h
 .cases h
theorem KG:∀(es:List (Int×Int)) (i:Nat) (ts ts' :List XT),Ah i es ts= .inr ts' ->ED ts' =ED ts++es/\(ts≠[]\/es≠[]->ts' ≠[])
 |[],i,ts,ts',h=>by cases h;exact⟨o7,o7⟩|n::es,i,ts,ts',h=>by
  unfold Ah at h;cases hp:push n ts with
  |inl c=>rw[hp]at h;cases h|inr t2=>
   rw[hp]at h;simp only at h;split at h
   .cases h
   .obtain⟨h1,h2⟩:=KG es (i+1) t2 ts' h;obtain⟨h3,h4⟩:=WH hp;exact⟨by rw[h1,h3];simp,λ_=>h2 (.inl h4)⟩
theorem Iq{e:List (Int×Int)}{t:XT}(h:qK e= .inr t):e=t.post/\e.length<=48:=by
 unfold qK at h;split at h
 .cases h
 split at h
 .cases h
 split at h
 .cases h
 .rename_i t' hp;cases h;have:=(KG e 0 [] [t] hp).1;exact⟨by simpa[ED]using this.symm,o5⟩
 .cases h
def pd(l:List Int)(k:Nat):List Int:=l++List.replicate k 0
end Go.GP
namespace Go.GP
open Gt
set_option maxRecDepth 100000
def VT(t:Int×Int):Prop:=t=(1,0)\/t=(2,0)\/t=(3,0)\/t=(4,0)\/t=(5,0)\/∃e,t=(6,e)
theorem VT.lit{k:Int}(h:1<=k/\k<=5):VT (k,0):=by have:k=1\/k=2\/k=3\/k=4\/k=5:=o5;rcases this with rfl|rfl|rfl|rfl|rfl<;>simp[VT]
theorem a0g(a b:Int):Y2 a b= !I7 b a:=by simp only[I7,Y2];rw[←decide_not];congr 1;simp
def RR(a0:Int×Int)(a1:List (Int×Int))(a2:L6):Option ((Int×Int)×Int):=
 l9 (ref10_ranged a0 a2) λ(x:Bool)=>l7 (G5 x) (some ((0,0),3)) (l9 (ref10_found a0 a2) λ(x:Bool)=>l7 (G5 x) (some ((0,0),6))
  (l7 (x8 (x9 a1) 0) (l9 (ref10_leaf a0 a2) λ(x:zo×Bool)=>l7 (G5 x.2) (some ((0,0),8)) (some (x.1,0)))
  (l7 (x8 (x9 a1) 1) (l9 (H9 a1 0) λ(x:zo)=>l9 (ref10_single a0 x a2) λ(x:zo×Bool)=>l7 (G5 x.2) (some ((0,0),8)) (some (x.1,0)))
  (l7 (x8 (x9 a1) 2) (l9 (H9 a1 0) λ(x:zo)=>l9 (H9 a1 1) λ(x_1:zo)=>l9 (ref10_double a0.1 x x_1) λ(x:zo×Bool)=>l7 (G5 x.2) (some ((0,0),8)) (some (x.1,0)))
  (l9 (H9 a1 1) λ(x:zo)=>l9 (H9 a1 0) λ(x_1:zo)=>l7 (x8 x_1.1 1) (l9 (H9 a1 1) λ(x_2:zo)=>l9 (H9 a1 2) λ(x_3:zo)=>
   l7 (G5 (V7 (x8 x_2.1 x_3.1) (x8 x_2.2 x_3.2))) (some ((0,0),8)) (some (x,0))) (l7 (G5 false) (some ((0,0),8)) (some (x,0))))))))
theorem a9c(n:Int×Int)(ops:List (Int×Int))(sg:L6):ref10_Result n ops sg=l7 (G5 (x8 n.2 0)) (l9 (ref10_meaning n.1) λx=>l7 x (RR n ops sg) (some ((0,0),2))) (RR n ops sg):=by
 unfold ref10_Result;cases x8 n.2 0
 .simp only[qj,F8];cases ref10_meaning n.1 with
  |none=>rfl|some b=>cases b<;>rfl
 .rfl
section
variable (N:Int) (sg:L6)
theorem uy(ts:List (Int×Int))(en:L6):(∃x,H9 ts N=some x/\Y2 0 N=true/\I7 N (x9 ts)=true/\iq N ts en=some (l7 (vty x en.1) (x,0) ((0,0),8)))\/((Y2 0 N=false\/Y2 0 N=true/\I7 N (x9 ts)=false)/\iq N ts en=some ((0,0),6)):=by
 unfold iq;rw[Oo N 0,a0g (x9 ts) N];cases h0:Y2 0 N
 .exact .inr ⟨.inl o7,rfl⟩
 cases h1:I7 N (x9 ts)
 .exact .inr ⟨.inr o7,rfl⟩
 rw[su]at h0;rw[Bv]at h1;obtain⟨x,hx,_⟩:=Ou h0 h1;rw[hx];simp only[uo,Bool.not_false,E9,F8,iZ,PE];exact .inl ⟨x,rfl,o7,o7,by cases vty x en.1<;>rfl⟩
end
end Go.GP
namespace Go.GP
open Gt
set_option maxRecDepth 100000
section
variable (N:Int) (sg:L6)
end
end Go.GP
namespace Go.GP
open Gt
set_option maxRecDepth 100000
def XT.wf:XT->Prop
 | .l0 n=>arF n.1=0| .l1 n a=>arF n.1=1/\a.wf| .l2 n a b=>arF n.1=2/\a.wf/\b.wf| .l3 n a b c=>arF n.1=3/\a.wf/\b.wf/\c.wf
theorem a0u{n:Int×Int}{ts ts' :List XT}(h:push n ts= .inr ts')(hw:∀t∈ts,t.wf):∀t∈ts',t.wf:=by
 unfold push at h;split at h
 .cases h;intro t ht;rcases o9.1 ht with rfl|ht
  .assumption
  .exact hw t ht
 split at h
 .split at h
  .cases h;intro t ht;rcases o9.1 ht with rfl|ht
   .exact⟨by assumption,hw _ o7⟩
   .exact hw t (by simp[ht])
  .cases h
 split at h
 .split at h
  .cases h;intro t ht;rcases o9.1 ht with rfl|ht
   .exact⟨by assumption,hw _ o7,hw _ o7⟩
   .exact hw t (by simp[ht])
  .cases h
 split at h
 .split at h
  .cases h;intro t ht;rcases o9.1 ht with rfl|ht
   .exact⟨by assumption,hw _ o7,hw _ o7,hw _ o7⟩
   .exact hw t (by simp[ht])
  .cases h
 .cases h
theorem QI:∀(es:List (Int×Int)) (i:Nat) (ts ts' :List XT),Ah i es ts= .inr ts' ->(∀t∈ts,t.wf)->∀t∈ts',t.wf
 |[],i,ts,ts',h,hw=>by cases h;exact hw|n::es,i,ts,ts',h,hw=>by
  unfold Ah at h;cases hp:push n ts with
  |inl c=>rw[hp]at h;cases h|inr t2=>
   rw[hp]at h;simp only at h;split at h
   .cases h
   .exact QI es (i+1) t2 ts' h (a0u hp hw)
theorem WR{e:List (Int×Int)}{t:XT}(h:qK e= .inr t):t.wf:=by
 unfold qK at h;split at h
 .cases h
 split at h
 .cases h
 split at h
 .cases h
 .rename_i t' hp;cases h;exact QI e 0 [] [t] hp o7 t o7
 .cases h
def TN(n:Int×Int)(ops:List (Int×Int))(sg:L6):(Int×Int)×Int:=(ref10_Result n ops sg).getD ((0,0),0)
def Hu(sg:L6)(n:Int×Int)(ops:List (Int×Int))(i:Nat):(Int×Int)⊕(Int×Int):=if(TN n ops sg).2=0 then .inr (TN n ops sg).1 else .inl ((i:Int),(TN n ops sg).2)
def jD(sg:L6):XT->Nat->(Int×Int)⊕(Int×Int)
 | .l0 n,o=>Hu sg n [] o
 | .l1 n a,o=>match jD sg a o with
  | .inl x=> .inl x| .inr ta=>Hu sg n [ta] (o+a.size)
 | .l2 n a b,o=>match jD sg a o with
  | .inl x=> .inl x
  | .inr ta=>match jD sg b (o+a.size)with
   | .inl x=> .inl x| .inr tb=>Hu sg n [ta,tb] (o+a.size+b.size)
 | .l3 n a b c,o=>match jD sg a o with
  | .inl x=> .inl x
  | .inr ta=>match jD sg b (o+a.size)with
   | .inl x=> .inl x
   | .inr tb=>match jD sg c (o+a.size+b.size)with
    | .inl x=> .inl x| .inr tc=>Hu sg n [ta,tb,tc] (o+a.size+b.size+c.size)
section
variable (e:List (Int×Int)) (sg:L6) (z:Int×Int)
end
def pR(e:List (Int×Int))(sg:L6):(Int×Int)×Int×Int:=match qK e with
 | .inl x=>((0,0),x)
 | .inr t=>match jD sg t 0 with
  | .inl x=>((0,0),x)| .inr r=>(r,0,0)
theorem Rx{e:List (Int×Int)}{x:Int×Int}(h:qK e= .inl x):x.2≠0:=by
 have key:∀(es:List (Int×Int)) (i:Nat) (ts:List XT) (x:Int×Int),Ah i es ts= .inl x->x.2≠0:=by
  intro es;induction es with
  |nil=>intro i ts x h;cases h|cons n es ih=>
   intro i ts x h;unfold Ah at h;cases hp:push n ts with
   |inl c=>
    rw[hp]at h;cases h;show c≠0;unfold push at hp
    (repeat' split at hp)<;>first|(cases hp;done)|(cases hp;decide)
   |inr t2=>
    rw[hp]at h;simp only at h;split at h
    .cases h;show(16:Int)≠0;decide
    .exact ih _ _ _ h
 unfold qK at h;split at h
 .cases h;show(4:Int)≠0;decide
 split at h
 .cases h;show(5:Int)≠0;decide
 split at h
 .rename_i y hp;cases h;exact key _ _ _ _ hp
 .cases h
 .cases h;show(4:Int)≠0;decide
section
variable {α β σ ε ρ:Type}
theorem Ti(l:List α)(G:β->α->β)(mk:β->Int->σ)(fin:β->ε)(Inv:Nat->β->Prop){f:σ->Option (σ⊕ε)}{b:β}(hl:l.length<=1000000)(h0:Inv 0 b)
  (hin:∀(i:Nat) (a:α) (b:β),l[i]? =some a->i<=1000000->Inv i b->f (mk b (i:Int))=some (.inl (mk (G b a) ((i+1:Nat):Int)))/\Inv (i+1) (G b a))
  (hend:∀b,Inv l.length b->f (mk b (l.length:Int))=some (.inr (fin b))):
  aX f (mk b 0)=some (fin (l.foldl G b))/\Inv l.length (l.foldl G b):=by
 have key:∀(n i:Nat) (b:β),i<=l.length->l.length -i<n->Inv i b->Dk f n (mk b (i:Int))=some (fin ((l.drop i).foldl G b))/\Inv l.length ((l.drop i).foldl G b):=by
  intro n;induction n with
  |zero=>intro i b _ h _;omega|succ n ih=>
   intro i b hi hn hI;unfold Dk;by_cases h:i<l.length
   .have e:=kG h;obtain⟨h1,h2⟩:=hin i _ b e o5 hI;rw[h1,Y9 h];exact ih (i+1) _ o5 o5 h2
   .have:i=l.length:=o5;subst this;rw[hend b hI,pY];exact⟨rfl,hI⟩
 have:=key lF 0 b o5 (by unfold lF;omega) h0;exact this
theorem yw{γ:Type}(l:List α)(G:β->α->β)(mk:β->Int->σ)(fin:β->ε)(Inv:Nat->β->Prop)(b:β){f:σ->Option (σ⊕ε)}{K:ε->Option γ}{r:Option γ}(hl:l.length<=1000000)(h0:Inv 0 b)
  (hin:∀(i:Nat) (a:α) (b:β),l[i]? =some a->i<=1000000->Inv i b->f (mk b (i:Int))=some (.inl (mk (G b a) ((i+1:Nat):Int)))/\Inv (i+1) (G b a))
  (hend:∀b,Inv l.length b->f (mk b (l.length:Int))=some (.inr (fin b))) (hk:Inv l.length (l.foldl G b)->K (fin (l.foldl G b))=r):l9 (aX f (mk b 0)) K=r:=by
 obtain⟨h1,h2⟩:=Ti l G mk fin Inv hl h0 hin hend;rw[h1];exact hk h2
def bD(G:β->α->β⊕ρ):List α->β->β⊕ρ
 |[],b=> .inl b
 |a::l,b=>match G b a with| .inl b' =>bD G l b'| .inr r=> .inr r
theorem Tj(l:List α)(G:β->α->β⊕ρ)(mk:β->Int->σ)(fin:β->ε)(Inv:Nat->β->Prop){f:σ->Option (Out σ ε ρ)}{b:β}(hl:l.length<=1000000)(h0:Inv 0 b)
  (hin:∀(i:Nat) (a:α) (b:β),l[i]? =some a->i<=1000000->Inv i b->f (mk b (i:Int))=some (match G b a with| .inl b' => .nx (mk b' ((i+1:Nat):Int))| .inr r=> .rt r)/\∀b',G b a= .inl b' ->Inv (i+1) b')
  (hend:∀b,Inv l.length b->f (mk b (l.length:Int))=some (.ex (fin b))):
  ak f (mk b 0)=some (match bD G l b with| .inl b' => .inl (fin b')| .inr r=> .inr r)/\∀b',bD G l b= .inl b' ->Inv l.length b' :=by
 have key:∀(n i:Nat) (b:β),i<=l.length->l.length -i<n->Inv i b->qh f n (mk b (i:Int))=some (match bD G (l.drop i) b with| .inl b' => .inl (fin b')| .inr r=> .inr r)/\∀b',bD G (l.drop i) b= .inl b' ->Inv l.length b' :=by
  intro n;induction n with
  |zero=>intro i b _ h _;omega|succ n ih=>
   intro i b hi hn hI;unfold qh;by_cases h:i<l.length
   .have e:=kG h;obtain⟨h1,h2⟩:=hin i _ b e o5 hI;rw[h1,Y9 h];unfold bD;cases hg:G b l[i]with
    |inr r=>exact⟨rfl,λb' hb=>by cases hb⟩|inl b' =>exact ih (i+1) _ o5 o5 (h2 b' hg)
   .have:i=l.length:=o5;subst this;rw[hend b hI,pY];exact⟨rfl,λb' hb=>by cases hb;exact hI⟩
 have:=key lF 0 b o5 (by unfold lF;omega) h0;exact this
theorem JZ{γ:Type}(l:List α)(G:β->α->β⊕ρ)(mk:β->Int->σ)(fin:β->ε)(Inv:Nat->β->Prop)(b:β){f:σ->Option (Out σ ε ρ)}{K:ε⊕ρ->Option γ}{r:Option γ}(hl:l.length<=1000000)(h0:Inv 0 b)
  (hin:∀(i:Nat) (a:α) (b:β),l[i]? =some a->i<=1000000->Inv i b->f (mk b (i:Int))=some (match G b a with| .inl b' => .nx (mk b' ((i+1:Nat):Int))| .inr r=> .rt r)/\∀b',G b a= .inl b' ->Inv (i+1) b')
  (hend:∀b,Inv l.length b->f (mk b (l.length:Int))=some (.ex (fin b)))
  (hk:(∀b',bD G l b= .inl b' ->Inv l.length b')->K (match bD G l b with| .inl b' => .inl (fin b')| .inr r=> .inr r)=r):l9 (ak f (mk b 0)) K=r:=by
 obtain⟨h1,h2⟩:=Tj l G mk fin Inv hl h0 hin hend;rw[h1];exact hk h2
end
def a9w(c:UInt8):Bool:=decide (32<=c.toNat)&&decide (c.toNat<=126)&&decide (c.toNat≠34)
def a0V(s:List UInt8):Bool:=decide (s.length<=64)&&s.all a9w
def EU(e:List (Int×Int))(sg:L6)(t:Int×Int):Int:=l7 (x8 (pR e sg).2.2 0) (l7 (V7 (x8 (pR e sg).1.1 t.1) (x8 (pR e sg).1.2 t.2)) 0 8) (pR e sg).2.2
def a1O(r:bW):Prop:=r.1.length<=1000000/\r.2.2.2.2.2.2.2.length<=1000000/\(∀n∈r.2.2.2.2.2.1,I64 n.2)/\(∀n∈r.2.2.2.2.2.2.1,I64 n.2)
def LM(rs:List bW)(d:Int):Nat:=rs.countP λo=>x8 o.2.1 d
def Oj(r:bW)(sg:L6)(t:Int×Int):Int:=
 l7 (I7 0 (x9 r.2.2.2.2.2.1)) (l7 (x8 (EU r.2.2.2.2.2.1 sg (1,0)) 0) (EU r.2.2.2.2.2.2.1 sg t) (EU r.2.2.2.2.2.1 sg (1,0))) (EU r.2.2.2.2.2.2.1 sg t)
def EL(s:A8)(sg:L6)(k:Nat)(r:bW):Int:=
 l7 (LW r.1) (l7 ((s.2.2.2.2.take k).any λx=>seq x.1 r.1) 7 (match H9 s.2.2.2.1 r.2.1 with
  |none=>6|some d=>l7 (l7 (x8 r.2.2.1 (-1)) false (l7 (I7 r.2.2.1 0) true (l7 (Y2 k r.2.2.1) true (match H9 s.2.2.2.2 r.2.2.1 with|some q=>G5 (x8 q.2.1 r.2.1)|none=>true)))) 9
   (l7 (I7 r.2.2.2.1 0) 3 (l7 (I7 9 r.2.2.2.1) 3 (l7 (PY r.2.2.2.2.1) (l7 (x8 r.2.2.2.2.1.1 r.2.2.2.2.1.2) 3
    (l7 (Y2 8 (LM (s.2.2.2.2.take k) r.2.1)) 4 (l7 (a0V r.2.2.2.2.2.2.2) (Oj r sg d.2) 2))) 3))))) 2
theorem XM{α:Type}{l:List α}{i:Int}(h:Y2 0 i=false\/I7 i (x9 l)=false):H9 l i=none:=by
 unfold H9
 split
 .rename_i h0;rcases h with h|h
  .rw[Dc]at h;omega
  .rw[Df]at h;simp only[x9]at h;exact eH o5
 .rfl
structure SmS (s:A8):Prop where
 nm:s.1.length<=1000000
 ni:s.2.2.1.length<=14
 nd:s.2.2.2.1.length<=14
 nr:s.2.2.2.2.length<=60
 fo:Xc s
 ro:∀r∈s.2.2.2.2,a1O r/\r.2.2.2.2.2.1.length<=50/\r.2.2.2.2.2.2.1.length<=50
def isM(op:Int):Bool:=l7 (Y2 36 op) (Y2 op 39) false
def Yg(p:Int->Bool)(e:List (Int×Int)):List Int:=(e.filter λn=>p n.1).map (·.2)
def vX(e:List (Int×Int)):List Int×List Int×List Int:=(Gv (Yg (λo=>x8 o 7) e),Gv (Yg (λo=>x8 o 8) e),Gv (Yg isM e))
def inD(n d:Int):Bool:=l7 (Y2 0 d) (I7 d n) false
def QN(n:Int)(r:bW):List Int:=(vX r.2.2.2.2.2.1).2.1.filter (inD n)++(vX r.2.2.2.2.2.2.1).2.1.filter (inD n)
def nD(s:A8):Int:=x9 s.2.2.2.1
def dl(n:Int)(rs:List bW)(d:Int):List Int:=rs.flatMap λr=>l7 (x8 r.2.1 d) (QN n r) []
def X4(s:A8)(d:Int):List Int:=l7 (inD (nD s) d) (Gv (dl (nD s) s.2.2.2.2 d)) []
variable {d:Int}{x:Int}
theorem XW{n:Int}{rs:List bW} :x∈dl n rs d↔∃r∈rs,r.2.1=d/\x∈QN n r:=by
 unfold dl;rw[qc];constructor
 .rintro⟨r,hr,hx⟩;cases hq:x8 r.2.1 d<;>rw[hq]at hx
  .simp at hx
  .exact⟨r,hr,bJ.1 hq,hx⟩
 .rintro⟨r,hr,hq,hx⟩;exact⟨r,hr,by rw[jX hq];exact hx⟩
theorem YW{n:Int}{r:bW}(h:x∈QN n r):0<=x/\x<n:=by
 have key:inD n x=true:=by unfold QN at h;rcases o8.1 h with h|h<;>exact(J4.1 h).2
 unfold inD at key;cases h0:Y2 0 x<;>rw[h0]at key
 .cases key
 .exact⟨su.1 h0,Bv.1 key⟩
theorem FB(s:A8)(d:Int):SI (X4 s d):=by
 unfold X4;cases inD (nD s) d
 .exact List.Pairwise.nil
 .exact Vs _
variable {s:A8}
theorem Fz(h:x∈X4 s d):0<=x/\x<nD s:=by
 unfold X4 at h;cases hq:inD (nD s) d<;>rw[hq]at h
 .simp at h
 .obtain⟨r,_,_,hx⟩:=XW.1 ((pI _ _).1 h);exact YW hx
def Rch(D:Int->List Int)(d:Int)(L:List Int):Prop:=SI L/\(∀x∈D d,x∈L)/\(∀x∈L,∀y∈D x,y∈L)/\∀C:Int->Prop,(∀x∈D d,C x)->(∀x,C x->∀y∈D x,C y)->∀x∈L,C x
theorem EP:∀{B A:List Int},SI A->SI B->(∀x∈A,x∈B)->A=B\/A.length<B.length
 |[],A,_,_,h=>by
  cases A with
  |nil=>exact .inl rfl|cons a A=>exact absurd (h a o7) o7
 |b::B,[],_,_,_=> .inr o7|b::B,a::A,hA,hB,h=>by
  have hA' :=U7.1 hA;have hB' :=U7.1 hB;rcases o9.1 (h a o7)with hab|hab
  .subst hab;rcases EP (B:=B) (A:=A) hA'.2 hB'.2 (λx hx=>by
    rcases o9.1 (h x (by simp[hx]))with h1|h1
    .have:=hA'.1 x hx;omega
    .exact h1)with h1|h1
   .exact .inl (by rw[h1])
   .exact .inr (by simp only[G6];omega)
  .have hab2:=hB'.1 a hab;rcases EP (B:=B) (A:=a::A) hA hB'.2 (λx hx=>by
    rcases o9.1 (h x hx)with h1|h1
    .rcases o9.1 hx with h2|h2
     .omega
     .have:=hA'.1 x h2;omega
    .exact h1)with h1|h1
   .exact .inr (by rw[h1];simp)
   .exact .inr (by simp only[G6]at*;omega)
def Ae(D:Int->List Int)(L:List Int):List Int:=L.foldl (λacc x=>JQ (D x) acc) L
theorem xA(D:Int->List Int)(x:Int):∀(l acc:List Int),x∈l.foldl (λacc x=>JQ (D x) acc) acc↔x∈acc\/∃y∈l,x∈D y
 |[],acc=>by simp|a::l,acc=>by
  rw[U6,xA D x l,Kr];constructor
  .rintro((h|h)|⟨y,hy,h⟩)
   .exact .inr ⟨a,o7,h⟩
   .exact .inl h
   .exact .inr ⟨y,by simp[hy],h⟩
  .rintro(h|⟨y,hy,h⟩)
   .exact .inl (.inr h)
   .rcases o9.1 hy with rfl|hy
    .exact .inl (.inl h)
    .exact .inr ⟨y,hy,h⟩
theorem Vf(D:Int->List Int):∀(l:List Int) {acc:List Int},SI acc->SI (l.foldl (λacc x=>JQ (D x) acc) acc)
 |[],_,h=>h|a::l,_,h=>by rw[U6];exact Vf D l (Pi _ h)
theorem KA(D:Int->List Int){L:List Int}(h:SI L):SI (Ae D L):=Vf D L h
def itS(D:Int->List Int)(d:Int):Nat->List Int
 |0=>D d|k+1=>Ae D (itS D d k)
section
variable {D:Int->List Int} {n:Nat} (hsi:∀x,SI (D x)) (hin:∀x,∀y∈D x,0<=y/\y<(n:Int))
include hsi hin
theorem Ql(d:Int):∀k,SI (itS D d k)
 |0=>hsi d|k+1=>KA D (Ql d k)
theorem XK(d:Int):∀k,∀x∈itS D d k,0<=x/\x<(n:Int)
 |0,x,hx=>hin d x hx|k+1,x,hx=>by
  rcases(xA D x _ _).1 hx with h|⟨y,_,h⟩
  .exact XK d k x h
  .exact hin y x h
theorem UQ(d:Int)(k:Nat):Ae D (itS D d k)=itS D d k\/(itS D d k).length<(Ae D (itS D d k)).length:=by
 rcases EP (Ql hsi hin d k) (KA D (Ql hsi hin d k)) (λx hx=>(xA D x _ _).2 (.inl hx))with h|h
 .exact .inl h.symm
 .exact .inr h
theorem Nc(d:Int):∀k,Ae D (itS D d k)=itS D d k\/k<(Ae D (itS D d k)).length
 |0=>by
  rcases UQ hsi hin d 0 with h|h
  .exact .inl h
  .exact .inr o5
 |k+1=>by
  rcases Nc d k with h|h
  .exact .inl (by show Ae D (Ae D (itS D d k))=Ae D (itS D d k);rw[h,h])
  .rcases UQ hsi hin d (k+1)with h2|h2
   .exact .inl h2
   .exact .inr (by have:(itS D d (k+1)).length=(Ae D (itS D d k)).length:=rfl;omega)
theorem a1W(d:Int):Rch D d (itS D d n):=by
 have hst:Ae D (itS D d n)=itS D d n:=by
  rcases Nc hsi hin d n with h|h
  .exact h
  .have:=ZI n (KA D (Ql hsi hin d n)) (XK hsi hin d (n+1));omega
 refine⟨Ql hsi hin d n,?_,?_,?_⟩
 .intro x hx;have:∀k,x∈itS D d k:=by
   intro k;induction k with
   |zero=>exact hx|succ k ih=>exact(xA D x _ _).2 (.inl ih)
  exact this n
 .intro x hx y hy;rw[←hst];exact(xA D y _ _).2 (.inr ⟨x,hx,hy⟩)
 .intro C h1 h2;have:∀k,∀x∈itS D d k,C x:=by
   intro k;induction k with
   |zero=>exact h1|succ k ih=>
    intro x hx;rcases(xA D x _ _).1 hx with h|⟨y,hy,h⟩
    .exact ih x h
    .exact h2 y (ih y hy) x h
  exact this n
end
def jM(s:A8)(d:Int):List Int:=itS (X4 s) d s.2.2.2.1.length
theorem tq(s:A8)(d:Int):Rch (X4 s) d (jM s d):=
 a1W (n:=s.2.2.2.1.length) (FB s) (λx y hy=>Fz hy) d
theorem RI(h:x∈jM s d):0<=x/\x<nD s:=XK (n:=s.2.2.2.1.length) (FB s) (λx y hy=>Fz hy) d _ x h
def mk(S:List Bool)(x:Int):Bool:=if 0<=x then S.getD x.toNat false else false
def unm(S:List Bool):Nat:=S.count false
theorem Ya{S:List Bool}{e:Int}(h0:0<=e)(h1:e<x9 S)(x:Int):mk (S.set e.toNat true) x=l7 (x8 x e) true (mk S x):=by
 unfold mk;have hl:e.toNat<S.length:=by simp only[x9]at h1;omega
 by_cases hx:0<=x
 .rw[if_pos hx,if_pos hx,zi,zi,P5];by_cases hq:x=e
  .subst hq;rw[if_pos rfl,if_pos hl,jX rfl];rfl
  .rw[if_neg o5,uk hq];rfl
 .rw[if_neg hx,if_neg hx,uk o5];rfl
structure RInv (n:Nat) (S:List Bool) (Q:List Int) (l:List Int) (S' :List Bool) (Q' :List Int):Prop where
 len:S'.length=n
 seen:∀x:Int,0<=x->x<(n:Int)->(mk S' x=true↔mk S x=true\/x∈l)
 sum:Q'.length+unm S' =Q.length+unm S
 le:unm S' <=unm S
 old:∀x∈Q,x∈Q'
 new:∀x∈Q',x∈Q\/x∈l
 got:∀x,mk S' x=true->mk S x=true\/x∈Q'
structure SmL (l:ay):Prop where
 few:Few l
 en:T_ l
 tb:Xh l
 sc:∀s∈l.2.2,SmS s
theorem VW{ε ρ:Type}{p:Nat->Option ρ}(n:Nat)(hn:n<=1000000)(e:ε){f:Int->Option (Out Int ε ρ)}
  (h1:∀i,i<n->f (i:Int)=some (match p i with|some r=> .rt r|none=> .nx (D7 .i64 (i:Int) 1))) (h2:f (n:Int)=some (.ex e)):
  ak f 0=some (match dh n p with|some r=> .inr r|none=> .inl e):=
 Qv n o5 e (λi hi=>by rw[h1 i hi,BP o5]<;>cases p i<;>rfl) h2
def NK(l:ay)(s:A8)(k:Nat):Option (Int×Int):=match s.2.2.2.2[k]? with|some r=>VV (EL s (Gp l s) k r) (300+k:Nat)|none=>none
def Xt(s:A8)(d:Nat):Option (Int×Int):=l7 ((jM s d).any λx=>x8 (d:Int) x) (some (9,((200+d:Nat):Int))) none
def FP(l:ay)(i:Nat)(m:Int):Bool:=l7 (x8 m (-1)) false (l7 (I7 m 0) true (l7 (Y2 (i:Int) m) true (match H9 l.2.2 m with|some q=>G5 (x8 q.2.1 (-1))|none=>true)))
def OL(l:ay)(s:A8):Int×Int:=match DY l s with
 |some r=>r
 |none=>match dh s.2.2.2.2.length (NK l s)with
  |some r=>r
  |none=>match dh s.2.2.2.1.length (Xt s)with
   |some r=>r|none=>(0,0)
def Le(l:ay)(i:Nat)(s:A8):Int×Int:=
 l7 (LW s.1) (l7 (VA l 3 i s.1) (7,0) (l7 (FP l i s.2.1) (6,0) (l7 (I7 12 (x9 s.2.2.1)) (4,112) (l7 (I7 12 (x9 s.2.2.2.1)) (4,212) (OL l s))))) (2,0)
theorem Bq{c e:Int}{r:Int×Int}(h:VV c e=some r):r.1≠0:=by
 unfold VV at h;cases hc:x8 c 0<;>rw[hc]at h
 .cases h;exact JO.1 hc
 .cases h
theorem Ha{l:ay}{r:Int×Int}(h:DY l s=some r):r.1≠0:=by
 unfold DY at h;split at h
 .rename_i q hq;cases h;obtain⟨k,_,hk⟩:=jA hq;unfold inP at hk;split at hk
  .exact Bq hk
  .cases hk
 .obtain⟨k,_,hk⟩:=jA h;unfold a4m at hk;split at hk
  .exact Bq hk
  .cases hk
def OZ(l:ay)(i:Nat):Option (Int×Int×Int×Int):=match l.2.2[i]? with|some s=>XC 3 i (Le l i s)|none=>none
def Vr(l:ay):Int×Int×Int×Int:=l7 (I7 4 (x9 l.2.2)) (4,3,4,0) (match dh l.2.2.length (OZ l)with|some r=>r|none=>(0,0,0,0))
def jg(l:ay):Int×Int×Int×Int:=l7 (x8 (SK l).1 0) (l7 (x8 (Pv l).1 0) (Vr l) (Pv l)) (SK l)
structure SmC (c:jO):Prop where
 ni:c.2.1.length<=1000
 nm:c.2.2.length<=1000
 nv:∀v∈c.2.2,v.length<=1000
def a9y(en:List iI)(fs:List jS)(vs:List P6)(i:Nat):Option (Int×Int):=match vs[i]?,fs[i]? with
 |some v,some f=>l7 (x8 v.1 f.2.1) (l7 (x8 v.2.1 f.2.2) (l7 (inB v.2.2 (bnd f.2 en)) none (some ((i:Int),3))) (some ((i:Int),8))) (some ((i:Int),8))|_,_=>none
def VC(en:List iI)(fs:List jS)(vs:List P6):Int×Int:=
 l7 (I7 (x9 vs) (x9 fs)) (x9 vs,5) (l7 (I7 (x9 fs) (x9 vs)) (x9 fs,4) (match dh vs.length (a9y en fs vs)with|some r=>r|none=>(0,0)))
def Tn(l:ay)(s:A8):List jS×Int:=match H9 l.2.2 s.2.1 with|some q=>(q.2.2.1,8)|none=>([],0)
def a9h(en:List iI)(fs:List jS)(ms:List (List P6))(i:Nat):Option (Int×Int×Int):=match ms[i]? with
 |some vs=>l7 (x8 (VC en fs vs).2 0) none (some ((i:Int),VC en fs vs))|none=>none
def Xn(l:ay)(k:Int)(c:jO):Int×Int×Int:=match H9 l.2.2 k with
 |none=>(-1,-1,6)
 |some s=>l7 (I7 c.1 0) (-1,-1,3) (l7 (I7 109572 c.1) (-1,-1,3) (l7 (x8 (VC l.1 s.2.2.1 c.2.1).2 0)
   (l7 (I7 (Tn l s).2 (x9 c.2.2)) ((Tn l s).2,-1,4) (match dh c.2.2.length (a9h l.1 (Tn l s).1 c.2.2)with|some r=>r|none=>(0,0,0))) (-1,VC l.1 s.2.2.1 c.2.1)))
def a4l(r:Int×Int)(t:Int):Bool:=l7 (PY r) (l7 (Y2 r.1 t) (I7 t r.2) false) false
section
variable (on:Nat->Bool) (par:Nat->Int)
def iR(i:Nat):Nat:=((List.range i).filter on).length
def a0l(i:Nat):Int:=if on i=true then(iR on i:Int)else if h:0<=par i/\par i<(i:Int)then a0l (par i).toNat else -1
termination_by i
decreasing_by omega
def anc(i:Nat):Int:=if 0<=par i/\par i<(i:Int)then a0l on par (par i).toNat else -1
theorem OD(i:Nat):a0l on par i=if on i=true then(iR on i:Int)else anc on par i:=by
 rw[a0l];unfold anc;by_cases h:on i=true
 .rw[if_pos h,if_pos h]
 .rw[if_neg h,if_neg h];by_cases h2:0<=par i/\par i<(i:Int)
  .rw[dif_pos h2,if_pos h2]
  .rw[dif_neg h2,if_neg h2]
def onL(n:Nat):List Nat:=(List.range n).filter on
theorem QE(i:Nat):onL on (i+1)=onL on i++(bif on i then[i]else[]):=by unfold onL;rw[dV,jY];rw[show List.filter on [i]=bif on i then[i]else[] by rw[fE];cases on i<;>rfl]
theorem a0m(i:Nat):(onL on i).length<=i:=by have:=lS on (List.range i);unfold onL;simpa using this
theorem OE{n p:Nat}(hp:p<n)(h:on p=true):(onL on n)[iR on p]? =some p:=by
 induction n with
 |zero=>omega|succ n ih=>
  rw[QE];by_cases hq:p=n
  .subst hq;rw[h,H6 (by unfold iR onL;omega)];unfold iR onL;simp
  .have:=ih o5;rw[G9 (Z5.1 this).1];exact this
theorem TB{n i:Nat}(h:i∈onL on n):i<n/\on i=true:=by unfold onL at h;obtain⟨h1,h2⟩:=J4.1 h;exact⟨O6.1 h1,h2⟩
end
def castL(l:List Nat):List Int:=l.map λ(i:Nat)=>(i:Int)
theorem MI{l:List Nat}{i a:Nat}(h:l[i]? =some a):(castL l)[i]? =some (a:Int):=by unfold castL;rw[O9,h];rfl
def onR(s:A8)(d t:Int)(i:Nat):Bool:=match s.2.2.2.2[i]? with|some r=>l7 (x8 r.2.1 d) (a4l r.2.2.2.2.1 t) false|none=>false
def sG(s:A8)(i:Nat):Int:=match s.2.2.2.2[i]? with|some r=>r.2.2.1|none=>-1
def U4(s:A8)(d t:Int):List Nat:=onL (onR s d t) s.2.2.2.2.length
def Ai(s:A8)(i:Nat):Int:=match s.2.2.2.2[i]? with|some r=>r.2.2.2.1|none=>0
def jf(s:A8)(d t:Int):List Int×List Int×List Int:=(castL (U4 s d t),(U4 s d t).map (anc (onR s d t) (sG s)),(U4 s d t).map (Ai s))
variable {i:Nat}
theorem kF{d t:Int}(h:i∈U4 s d t):i<s.2.2.2.2.length/\onR s d t i=true:=TB _ h
theorem Nr{l:List Nat}(hl:l.Pairwise (·< ·)){i j a:Nat}(hi:l[i]? =some a)(hj:l[j]? =some a):i=j:=by
 obtain⟨h1,h2⟩:=Z5.1 hi;obtain⟨h3,h4⟩:=Z5.1 hj;rcases Nat.lt_trichotomy i j with h|h|h
 .have:=jZ.1 hl i j h1 h3 h;omega
 .exact h
 .have:=jZ.1 hl j i h3 h1 h;omega
theorem TC(on:Nat->Bool)(n:Nat):(onL on n).Pairwise (·< ·):=List.Pairwise.filter _ lC
end Go.GP
namespace Go.GP
open Gt
set_option maxRecDepth 100000
def NR(par prio:List Int)(i:Nat):Option Int:=match par[i]?,prio[i]? with
 |some p,some q=>l7 (I7 p (-1)) (some 9) (l7 (Y2 (i:Int) p) (some 9) (l7 (I7 q 0) (some 3) (l7 (I7 9 q) (some 3) none)))|_,_=>none
def xG(par prio:List Int):Int:=l7 (G5 (x8 (x9 par) (x9 prio))) 2 (l7 (I7 8 (x9 par)) 4 (match dh par.length (NR par prio)with|some r=>r|none=>0))
theorem oZ{ρ:Type}{n:Nat}{p:Nat->Option ρ}(h:dh n p=none):∀i,i<n->p i=none:=by unfold dh at h;intro i hi;exact fD.1 h i (O6.2 hi)
theorem WV{par prio:List Int}(h:xG par prio=0):par.length=prio.length/\par.length<=8/\∀(i:Nat) (p:Int),par[i]? =some p->-1<=p/\p<(i:Int):=by
 unfold xG at h;cases h1:x8 (x9 par) (x9 prio)<;>rw[h1]at h
 .cases h
 simp only[jU,E9]at h;cases h2:I7 8 (x9 par)<;>rw[h2]at h
 case true=>cases h
 simp only[E9]at h;have hl:par.length=prio.length:=by rw[bJ]at h1;simp only[x9]at h1;omega
 refine⟨hl,by rw[Df]at h2;simp only[x9]at h2;omega,λi p hp=>?_⟩;have hi:=(Z5.1 hp).1;cases hf:dh par.length (NR par prio)with
 |some r=>
  rw[hf]at h;simp only at h;obtain⟨k,hk,hr⟩:=jA hf;unfold NR at hr;split at hr
  .subst h;rename_i a b _ _;cases c1:I7 a (-1)<;>rw[c1]at hr<;>try (cases hr;done)
   cases c2:Y2 (k:Int) a<;>rw[c2]at hr<;>try (cases hr;done)
   cases c3:I7 b 0<;>rw[c3]at hr<;>try (cases hr;done)
   cases c4:I7 9 b<;>rw[c4]at hr<;>cases hr
  .cases hr
 |none=>
  have:=oZ hf i hi;unfold NR at this;rw[hp,kG (show i<prio.length by omega)]at this;simp only at this;cases c1:I7 p (-1)<;>rw[c1]at this
  case true=>cases this
  cases c2:Y2 (i:Int) p<;>rw[c2]at this
  case true=>cases this
  rw[Df]at c1;rw[Dc]at c2;exact⟨c1,c2⟩
def a1Y(par:List Int)(at' :Int)(i:Nat):Bool:=match par[i]? with|some p=>x8 p at'|none=>false
def mF(par:List Int)(at' :Int):List Nat:=onL (a1Y par at') par.length
theorem IU{par:List Int}{at' :Int}{i:Nat}(h:i∈mF par at'):i<par.length/\par[i]? =some at' :=by obtain⟨h1,h2⟩:=TB _ h;refine⟨h1,?_⟩;unfold a1Y at h2;rw[kG h1]at h2 ⊢;simp only[bJ]at h2;rw[h2]
def bG(oc pr:Int->Int)(acc:List Int)(a:Int):List Int:=l7 (x8 (oc a) (-1)) acc (match acc with
 |[]=>[a]
 |b::r=>l7 (I7 (pr b) (pr a)) [a] (l7 (x8 (pr a) (pr b)) (b::r++[a]) (b::r)))
theorem a1S(oc pr:Int->Int){acc:List Int}{a x:Int}(h:x∈bG oc pr acc a):x∈acc\/x=a:=by
 unfold bG at h;cases h1:x8 (oc a) (-1)<;>rw[h1]at h
 case true=>exact .inl h
 simp only[E9]at h;cases acc with
 |nil=>exact .inr (by simpa using h)|cons b r=>
  simp only at h;cases h2:I7 (pr b) (pr a)<;>rw[h2]at h
  .simp only[E9]at h;cases h3:x8 (pr a) (pr b)<;>rw[h3]at h
   .exact .inl h
   .simp only[F8]at h;rcases o8.1 h with h|h
    .exact .inl h
    .exact .inr (by simpa using h)
  .exact .inr (by simpa using h)
def pV(oc pr:Int->Int)(l:List Int):List Int:=l.foldl (bG oc pr) []
theorem PT(oc pr:Int->Int):∀(l acc:List Int) (x:Int),x∈l.foldl (bG oc pr) acc->x∈acc\/x∈l
 |[],acc,x,h=> .inl h|a::l,acc,x,h=>by
  rcases PT oc pr l _ x h with h|h
  .rcases a1S oc pr h with h|h
   .exact .inl h
   .exact .inr (by simp[h])
  .exact .inr (by simp[h])
variable {x:Int}
theorem Fg{oc pr:Int->Int}{l:List Int}(h:x∈pV oc pr l):x∈l:=by
 rcases PT oc pr l [] x h with h|h
 .cases h
 .exact h
theorem Jm{oc oc' pr:Int->Int} :∀(l acc:List Int),(∀x∈l,oc x=oc' x)->l.foldl (bG oc pr) acc=l.foldl (bG oc' pr) acc
 |[],acc,_=>rfl|a::l,acc,h=>by rw[U6,U6,Jm l _ λx hx=>h x (by simp[hx])];congr 1;unfold bG;rw[h a o7]
def chF(oc pr:Int->Int)(l:List Int):Int:=match pV oc pr l with|[]=>-1|[b]=>oc b|_=>-2
theorem MK{oc oc' pr:Int->Int}{l:List Int}(h:∀x∈l,oc x=oc' x):chF oc pr l=chF oc' pr l:=by
 have e:pV oc pr l=pV oc' pr l:=Jm l [] h;unfold chF;rw[e];cases hb:pV oc' pr l with
 |nil=>rfl|cons b r=>
  cases r with
  |nil=>exact h b (Fg (oc:=oc') (pr:=pr) (by rw[hb];simp))|cons c r=>rfl
section
variable (par prio:List Int) (ap:List Bool)
def prF(i:Int):Int:=prio.getD i.toNat 0
def apF(i:Int):Bool:=ap.getD i.toNat false
def ocF:Nat->Int->Int
 |0,_=>-1|k+1,i=>l7 (x8 (chF (ocF k) (prF prio) (castL (mF par i))) (-1)) (l7 (apF ap i) i (-1)) (chF (ocF k) (prF prio) (castL (mF par i)))
variable (hv:xG par prio=0)
include hv
theorem Td{i x:Int}(h:x∈castL (mF par i)):i<x/\x<(par.length:Int)/\0<=x:=by unfold castL at h;obtain⟨k,hk,rfl⟩:=U1.1 h;obtain⟨h1,h2⟩:=IU hk;have:=(WV hv).2.2 k i h2;omega
theorem Nu:∀(k k' :Nat) (i:Int),(par.length:Int) -i<=k->(par.length:Int) -i<=k' ->i<par.length->ocF par prio ap k i=ocF par prio ap k' i
 |0,_,i,h,_,h2=>by omega|_+1,0,i,_,h,h2=>by omega|k+1,k' +1,i,h,h',h2=>by
  unfold ocF;have:chF (ocF par prio ap k) (prF prio) (castL (mF par i))=chF (ocF par prio ap k') (prF prio) (castL (mF par i)):=
   MK λx hx=>by have:=Td par prio hv hx;exact Nu k k' x o5 o5 o5
  rw[this]
end
end Go.GP
namespace Go.GP
open Gt
set_option maxRecDepth 100000
section
variable (par prio:List Int) (ap:List Bool) (hv:xG par prio=0) (hap:ap.length=par.length)
def OC(i:Int):Int:=ocF par prio ap (par.length+1) i
def chS(at' :Int):Int:=chF (OC par prio ap) (prF prio) (castL (mF par at'))
include hv in
theorem a1c{i:Int}(h0:-1<=i)(h:i<par.length):OC par prio ap i=l7 (x8 (chS par prio ap i) (-1)) (l7 (apF ap i) i (-1)) (chS par prio ap i):=by
 unfold OC chS;rw[ocF];have:chF (ocF par prio ap par.length) (prF prio) (castL (mF par i))=chF (OC par prio ap) (prF prio) (castL (mF par i)):=
  MK λx hx=>by have:=Td par prio hv hx;exact Nu par prio ap hv _ _ x o5 o5 o5
 rw[this]
include hv in
include hv in
include hv in
include hv in
include hv hap in
end
def Lh(par prio:List Int)(ap:List Bool):Int:=l7 (x8 (xG par prio) 0) (l7 (x8 (x9 ap) (x9 par)) (chS par prio ap (-1)) (-1)) (-1)
section
variable (par prio:List Int) (ap:List Bool) (hv:xG par prio=0) (hap:ap.length=par.length)
include hv hap in
end
end Go.GP
namespace Go.GP
open Gt
set_option maxRecDepth 100000
def xh(O:List Int)(x:Int):Bool:=O.any λy=>x8 y x
variable {O:List Int}
theorem pq{x:Int} :xh O x=true↔x∈O:=by
 unfold xh;rw[lq];constructor
 .rintro⟨y,hy,h⟩;rw[bJ]at h;exact h▸hy
 .exact λh=>⟨x,h,jX rfl⟩
def YX(s:A8)(d:Int)(O:List Int):Bool:=(X4 s d).all λx=>xh O x
def okN(s:A8)(O:List Int)(d:Nat):Bool:=l7 (xh O (d:Int)) false (YX s (d:Int) O)
def Ve(s:A8)(O:List Int)(d:Nat):Option Nat:=l7 (okN s O d) (some d) none
def Yd(s:A8)(O:List Int):Option Nat:=dh s.2.2.2.1.length (Ve s O)
variable {s:A8}
theorem Yc{d r:Nat}(h:Ve s O d=some r):r=d/\okN s O d=true:=by
 unfold Ve at h;cases hq:okN s O d<;>rw[hq]at h
 .cases h
 .cases h;exact⟨rfl,rfl⟩
variable {d:Nat}
theorem Tu(h:Yd s O=some d):d<s.2.2.2.1.length/\okN s O d=true:=by obtain⟨i,hi,hp⟩:=jA h;obtain⟨rfl,ho⟩:=Yc hp;exact⟨hi,ho⟩
def a0s(s:A8):Nat->List Int->List Int⊕(List Int×Int)
 |0,O=> .inl O|k+1,O=>if O.length<s.2.2.2.1.length then(match Yd s O with|none=> .inr ([],9)|some d=>a0s s k (O++[(d:Int)]))else .inl O
def jI(s:A8):List Int×Int:=match a0s s 100 []with| .inl O=>(O,0)| .inr x=>x
def Dz(s:A8)(e:Int)(i:Nat):List Nat:=onL (λd=>decide (e∈X4 s (d:Int))) i
def JW(s:A8)(O:List Int)(d:Int):List Int:=(X4 s d).filter λx=> !xh O x
def hw(W:List Int)(d:Int):Int:=W.getD d.toNat 0
theorem Wx{l:List Int}{n:Nat}(hd:l.Nodup)(hr:∀x∈l,0<=x/\x<(n:Int)):l.length<=n:=by
 have hp:=Dh l;have hs:=xZ l;have hnd:(Ho l).Nodup:=hp.nodup_iff.2 hd;have hsi:SI (Ho l):=by have:=List.Pairwise.and hs hnd;exact this.imp λ{a b} ⟨h1,h2⟩=>by omega
 have:=ZI n hsi λx hx=>hr x (hp.mem_iff.1 hx);rw[hp.length_eq]at this;exact this
theorem Qe{l:List Int}(h:SI l){m:Int}(hm:m∉O):((l.filter λx=> !xh (O++[m]) x).length:Int)=((l.filter λx=> !xh O x).length:Int) -(if m∈l then 1 else 0):=by
 have hh:∀x,xh (O++[m]) x=(xh O x || x8 m x):=λx=>by unfold xh;rw[zM];simp
 induction l with
 |nil=>simp|cons a l ih=>
  have h' :=U7.1 h;have ih' :=ih h'.2;rw[fE,fE,hh];by_cases hma:m=a
  .subst hma;have hno:m∉l:=λhx=>by have:=h'.1 m hx;omega
   rw[if_neg hno]at ih';have h1:xh O m=false:=by
    cases hq:xh O m
    .rfl
    .exact absurd (pq.1 hq) hm
   have hA:(!(xh O m || x8 m m))=false:=by rw[jX rfl];simp
   have hB:(!xh O m)=true:=by rw[h1];rfl
   rw[hA,hB,if_pos (show m∈m::l by simp)];simp only[X5,if_false,if_true,G6];omega
  .rw[uk hma,Bool.or_false];have:(if m∈a::l then(1:Int)else 0)=if m∈l then 1 else 0:=by simp[hma]
   rw[this];cases xh O a
   .simp only[Bool.not_false,if_true,G6];omega
   .simp only[uo,X5,if_false];exact ih'
structure KInv (s:A8) (O W H:List Int):Prop where
 nd:O.Nodup
 rng:∀x∈O,0<=x/\x<nD s
 cl:∀u∈O,∀x∈X4 s u,x∈O
 wl:W.length=s.2.2.2.1.length
 w:∀d,0<=d->d<nD s->hw W d=((JW s O d).length:Int)
 hp:U_ H H.length
 hnd:H.Nodup
 hm:∀d,d∈H↔0<=d/\d<nD s/\d∉O/\hw W d=0
theorem TA :okN s O d=true↔(d:Int)∉O/\JW s O (d:Int)=[]:=by
 unfold okN YX JW;cases hq:xh O (d:Int)
 .have h1:(d:Int)∉O:=λh=>by rw[pq.2 h]at hq;cases hq
  simp only[E9,lm,dX,lh,Bool.not_eq_false'];exact⟨λh=>⟨h1,λa ha=>by rw[h a ha]⟩,λh a ha=>h.2 a ha⟩
 .have h1:=pq.1 hq;simp only[F8];exact⟨λh=>(by cases h),λh=>absurd h1 h.1⟩
theorem KInv.ready{O W H:List Int}(h:KInv s O W H)(hd:d<s.2.2.2.1.length):okN s O d=true↔(d:Int)∈H:=by
 have hn:nD s=((s.2.2.2.1.length:Nat):Int):=rfl;rw[TA,h.hm];have:=h.w (d:Int) o5 o5;constructor
 .rintro⟨h1,h2⟩;exact⟨o5,o5,h1,by rw[this,h2];rfl⟩
 .rintro⟨_,_,h1,h2⟩;refine⟨h1,J6.1 ?_⟩;rw[this]at h2;omega
structure UInv (s:A8) (W H0:List Int) (us:List Int) (W' H' :List Int):Prop where
 wl:W'.length=s.2.2.2.1.length
 w:∀d,0<=d->d<nD s->hw W' d=hw W d -(if d∈us then 1 else 0)
 hp:U_ H' H'.length
 pm:∃P:List Int,H'.Perm (H0++P)/\P.Sublist us/\∀d,d∈P↔d∈us/\hw W d=1
theorem DC{m:Int}{d:Int} :d∈castL (Dz s m s.2.2.2.1.length)↔0<=d/\d<nD s/\m∈X4 s d:=by
 have hn:nD s=((s.2.2.2.1.length:Nat):Int):=rfl;unfold castL;rw[U1];constructor
 .rintro⟨k,hk,rfl⟩;obtain⟨h1,h2⟩:=TB _ hk;exact⟨o5,o5,by simpa using h2⟩
 .rintro⟨h1,h2,h3⟩;refine⟨d.toNat,?_,o5⟩;unfold Dz onL;rw[J4,O6];exact⟨o5,by rw[dJ h1];simpa using h3⟩
theorem PU{l:List Nat}(h:l.Pairwise (·< ·)):SI (castL l):=List.Pairwise.map _ (λa b h=>by omega) h
theorem KInv.step{O W H:List Int}(h:KInv s O W H)(h0:0<H.length){m:Nat}(hm:hg H 0=(m:Int)){R:List Int}(hR:U_ R R.length)(hRp:(R++[(m:Int)]).Perm H){W' H' :List Int}(hU:UInv s W R (castL (Dz s (m:Int) s.2.2.2.1.length)) W' H'):KInv s (O++[(m:Int)]) W' H' :=by
 have hn:nD s=((s.2.2.2.1.length:Nat):Int):=rfl;have hmem:(m:Int)∈H:=by rw[←hm];have:=a0f h0;exact BH this
 have hmm:=(h.hm _).1 hmem;have hleft:JW s O (m:Int)=[]:=by have:=h.w (m:Int) hmm.1 hmm.2.1;rw[hmm.2.2.2]at this;exact J6.1 o5
 have hdeps:∀x∈X4 s (m:Int),x∈O:=λx hx=>by have hnil:=dX.1 hleft x hx;simp only[lh,Bool.not_eq_false']at hnil;exact pq.1 hnil
 have hndR:(R++[(m:Int)]).Nodup:=hRp.nodup_iff.2 h.hnd;have hmR:(m:Int)∉R:=λhx=>by have:=(F9.1 hndR).2.2 _ hx _ (E5.2 rfl);exact this rfl
 have hRm:∀d,d∈R↔d∈H/\d≠(m:Int):=λd=>by
  rw[←hRp.mem_iff,o8,E5];constructor
  .intro hx;exact⟨.inl hx,λhq=>hmR (hq▸hx)⟩
  .rintro⟨hx|hx,hq⟩
   .exact hx
   .exact absurd hx hq
 obtain⟨P,p1,p2,p3⟩:=hU.pm;have huO:∀u,(m:Int)∈X4 s u->u∉O:=λu hu hx=>hmm.2.2.1 (h.cl u hx _ hu);refine⟨?_,?_,?_,hU.wl,λd d0 d1=>?_,hU.hp,?_,λd=>?_⟩
 .exact F9.2 ⟨h.nd,o7,λa ha b hb=>by simp at hb;subst hb;intro hq;subst hq;exact hmm.2.2.1 ha⟩
 .intro x hx;rcases o8.1 hx with hx|hx
  .exact h.rng x hx
  .simp at hx;subst hx;exact⟨hmm.1,hmm.2.1⟩
 .intro u hu x hx;rcases o8.1 hu with hu|hu
  .exact G7 _ (h.cl u hu x hx)
  .simp at hu;subst hu;exact G7 _ (hdeps x hx)
 .rw[hU.w d d0 d1,h.w d d0 d1];unfold JW;rw[Qe (FB s d) hmm.2.2.1];congr 1;have:(d∈castL (Dz s (m:Int) s.2.2.2.1.length))↔((m:Int)∈X4 s d):=by rw[DC];exact⟨λh=>h.2.2,λh=>⟨d0,d1,h⟩⟩
  by_cases hq:(m:Int)∈X4 s d
  .rw[if_pos (this.2 hq),if_pos hq]
  .rw[if_neg (λhx=>hq (this.1 hx)),if_neg hq]
 .rw[p1.nodup_iff];refine F9.2 ⟨(F9.1 hndR).1,?_,λa ha b hb hq=>?_⟩
  .have:(castL (Dz s (m:Int) s.2.2.2.1.length)).Nodup:=(PU (TC _ _)).imp λ{a b} h=>by omega
   exact p2.nodup this
  .subst hq;have h1:=(h.hm a).1 ((hRm a).1 ha).1;have h2:=(p3 a).1 hb;omega
 .rw[p1.mem_iff,o8,hRm,p3,DC,h.hm];have hw' :=λd0 d1=>hU.w d d0 d1;have hmemU:d∈castL (Dz s (m:Int) s.2.2.2.1.length)↔0<=d/\d<nD s/\(m:Int)∈X4 s d:=DC;constructor
  .rintro(⟨⟨d0,d1,dO,dw⟩,dm⟩|⟨⟨d0,d1,dd⟩,dw⟩)
   .refine⟨d0,d1,λhx=>?_,?_⟩
    .rcases o8.1 hx with hx|hx
     .exact dO hx
     .simp at hx;exact dm hx
    .have hnot:(m:Int)∉X4 s d:=λhx=>by
      have h1:=h.w d d0 d1;rw[dw]at h1;have h2:JW s O d=[]:=J6.1 o5;have h3:=dX.1 h2 _ hx;simp only[lh,Bool.not_eq_false']at h3;exact hmm.2.2.1 (pq.1 h3)
     rw[hw' d0 d1,dw,if_neg (λhx=>hnot (hmemU.1 hx).2.2)];rfl
   .refine⟨d0,d1,λhx=>?_,?_⟩
    .rcases o8.1 hx with hx|hx
     .exact huO d dd hx
     .simp at hx;rw[hx]at dd;exact hmm.2.2.1 (hdeps _ dd)
    .rw[hw' d0 d1,if_pos (hmemU.2 ⟨d0,d1,dd⟩)];omega
  .rintro⟨d0,d1,dO,dw⟩;rw[hw' d0 d1]at dw;have dO1:d∉O:=λhx=>dO (G7 _ hx);have dm:d≠(m:Int):=λhx=>dO (by rw[hx];simp);by_cases hq:(m:Int)∈X4 s d
   .rw[if_pos (hmemU.2 ⟨d0,d1,hq⟩)]at dw;exact .inr ⟨⟨d0,d1,hq⟩,o5⟩
   .rw[if_neg (λhx=>hq (hmemU.1 hx).2.2)]at dw;exact .inl ⟨⟨d0,d1,dO1,o5⟩,dm⟩
def a4c(s:A8)(i:Nat):List (List Int):=(List.range s.2.2.2.1.length).map λ(e:Nat)=>castL (Dz s (e:Int) i)
theorem Fh(l:List Nat):(castL l).length=l.length:=by unfold castL;rw[I9]
structure IInv (s:A8) (i:Nat) (U:List (List Int)) (W H:List Int):Prop where
 u:U=a4c s i
 w:W=pd ((List.range i).map λ(d:Nat)=>((X4 s (d:Int)).length:Int)) (s.2.2.2.1.length -i)
 hp:U_ H H.length
 hnd:H.Nodup
 hm:∀d,d∈H↔0<=d/\d<(i:Int)/\X4 s d=[]
 hl:H.length<=i
end Go.GP
namespace Gt
open Go Go.GP
def il(y:Int):Bool:=if y % 4=0 then(if y % 100≠0 then true else decide (y % 400=0))else false
def ys(y:Int):Int:=(y -1900)*365+((y -1) / 4 -(y -1) / 100+(y -1) / 400) -460
def dim(y m:Int):Int:=
 if m=2 then(if il y then 29 else 28)else if m=4\/m=6\/m=9\/m=11 then 30 else 31
def rem(y:Int):Nat->Int
 |0=>0|n+1=>dim y (12 -n)+rem y n
end Gt
namespace Go.GP
open Gt
set_option maxRecDepth 100000
def a1N(n:Int)(k:Nat):Prop:=n<2^k/\(0<n->0<k/\2^(k -1)<=n)
theorem a1N.shift{n:Int}{j k:Nat}(h:a1N (n / 2^j) k)(hn:2^j<=n):a1N n (j+k):=by
 have hp:(0:Int)<2^j:=Int.pow_pos o5;have h1:0<n / 2^j:=by have:=uq hp (show 1*2^j<=n by omega);omega
 obtain⟨a,b⟩:=h;obtain⟨b1,b2⟩:=b h1;have hdm:=Int.mul_ediv_add_emod n (2^j);have hm:=xm n hp;have hm0:=zK n (show(2:Int)^j≠0 by omega);refine⟨?_,λ_=>⟨o5,?_⟩⟩
 .have:(2:Int)^j*(n / 2^j+1)<=2^j*2^k:=Int.mul_le_mul_of_nonneg_left o5 o5;rw[Int.mul_add,Int.mul_one]at this;rw[Int.pow_add];omega
 .have:(2:Int)^j*2^(k -1)<=2^j*(n / 2^j):=Int.mul_le_mul_of_nonneg_left b2 o5;rw[show j+k -1=j+(k -1) by omega,Int.pow_add];omega
def q1(q:Int)(u:Bool):Int:=l7 u (q+1) q
def sg(q:Int)(neg:Bool):Int:=l7 neg (-q) q
def a1d(r:EY):Prop:=I64 r.2.1/\I64 r.2.2.1/\I64 r.2.2.2
def Jf(t:kK):Prop:=t.2.2.2.length<=200/\∀r∈t.2.2.2,a1d r
abbrev V3:Type:=Int×Int×Int
def VM(k:Int):Int×Int:=l7 (x8 k 1) (0,1) (l7 (x8 k 2) (-1000000000000,1000000000000) (l7 (x8 k 3) (-1000000000000000,1000000000000000) (l7 (x8 k 4) (-1000000000,1000000000) (l7 (x8 k 5) (0,109572) (l7 (x8 k 6) (0,15) (0,-1))))))
theorem Z_(k:Int):ref13_bounds k=some (VM k):=by unfold ref13_bounds VM;cases x8 k 1<;>cases x8 k 2<;>cases x8 k 3<;>cases x8 k 4<;>cases x8 k 5<;>cases x8 k 6<;>rfl
def plB(v:V3):Bool:=l7 (Y2 (VM v.1).1 v.2.2) (l7 (Y2 v.2.2 (VM v.1).2) (l7 (x8 v.1 6) (l7 (Y2 0 v.2.1) (I7 v.2.1 8) false) (x8 v.2.1 0)) false) false
theorem Cm(v:V3):ref13_Plausible v=some (plB v):=by
 unfold ref13_Plausible plB;rw[Z_,iZ,Oo,Oo];cases Y2 (VM v.1).1 v.2.2
 .rfl
 cases Y2 v.2.2 (VM v.1).2
 .rfl
 cases x8 v.1 6
 .rfl
 cases Y2 0 v.2.1<;>rfl
def XP(v:V3):V3×Int:=l7 (plB v) (v,0) ((0,0,0),3)
theorem UX(k n:Int):ref13_made k n=some (XP (k,0,n)):=by unfold ref13_made XP;rw[Cm,iZ];cases plB (k,0,n)<;>rfl
def a0j(k:Int)(t:Int×Int):Bool:=l7 (x8 t.2 0) (l7 (x8 k 36) (l7 (x8 t.1 2) true (x8 t.1 3)) (l7 (x8 k 39) (l7 (Y2 2 t.1) (Y2 t.1 5) false) (x8 t.1 1))) false
theorem OO(k:Int)(t:Int×Int):ref13_allowed k t=some (a0j k t):=by unfold ref13_allowed a0j;cases x8 t.2 0<;>cases x8 k 36<;>cases x8 k 39<;>cases x8 t.1 2<;>cases Y2 2 t.1<;>rfl
def XI(v:V3)(t:Int×Int):Bool:=l7 (plB v) (l7 (x8 v.1 t.1) (x8 v.2.1 t.2) false) false
theorem YV(v:V3)(t:Int×Int):ref13_Has v t=some (XI v t):=by unfold ref13_Has XI;rw[Cm,iZ];cases plB v<;>cases x8 v.1 t.1<;>rfl
def Qg(k a b:Int)(first:Bool):Int:=l7 (x8 k 36) (D7 .i64 a b) (l7 (x8 k 37) (ji .i64 a b) (l7 (x8 k 38) (l7 (I7 a b) b a) (l7 first b (l7 (I7 a b) b a))))
theorem YU(k a b:Int)(f:Bool):ref13_fold k a b f=some (Qg k a b f):=by unfold ref13_fold Qg;cases x8 k 36<;>cases x8 k 37<;>cases x8 k 38<;>cases f<;>cases I7 a b<;>rfl
def a2a(m:List V3)(N:Int)(t:Int×Int):V3⊕Int:=
 match H9 m N with
 |none=> .inr 6|some x=>l7 (x8 x.1 0) (.inr 6) (l7 (XI x t) (.inl x) (.inr 8))
def Wl(k N:Int)(t:Int×Int)(b:Int×Bool)(m:List V3):(Int×Bool)⊕(V3×Int):=
 match a2a m N t with
 | .inr c=> .inr ((0,0,0),c)| .inl x=>l7 (plB (t.1,0,Qg k b.1 x.2.2 b.2)) (.inl (Qg k b.1 x.2.2 b.2,false)) (.inr ((0,0,0),3))
def XX(k N:Int)(t:Int×Int)(ms:List (List V3)):V3×Int:=
 l7 (a0j k t) (match bD (Wl k N t) ms (l7 (x8 k 37) 1 0,true)with
  | .inr c=>c
  | .inl a=>l7 (x8 k 39) (l7 (x8 (x9 ms) 0) ((0,0,0),6) (XP (t.1,0,a.1))) (XP (t.1,0,a.1))) ((0,0,0),8)
theorem Ic(k N:Int)(env:fA)(t:Int×Int)(ht:H9 env.2.2.2.2.1 N=some t)(h0:0<=N)(hl:env.2.2.2.1.length<=1000000):ref13_members (k,N) env=some (XX k N t env.2.2.2.1):=by
 unfold ref13_members XX;simp only[ht,iZ,OO];cases a0j k t
 .rfl
 simp only[jU,E9,F8];rw[show l7 (x8 k 37) (some (1:Int)) (some 0)=some (l7 (x8 k 37) 1 0) by cases x8 k 37<;>rfl,iZ];apply JZ env.2.2.2.1 (Wl k N t) (λb i=>(((0,0,0),b.1,i):V3×Int×Int)) (λb=>(((0,0,0),b.1):V3×Int)) (λi b=>b.2=decide (i=0)) (l7 (x8 k 37) 1 0,true) hl rfl
 .intro i m b hi hi' hb;have hm:=jQ env.2.2.2.1 i;rw[hi]at hm;have hlt:(i:Int)<x9 env.2.2.2.1:=by
   have:=Z5.1 hi;obtain⟨h,_⟩:=this;unfold x9;omega
  simp only[Ec hlt,F8,hm,iZ];refine⟨?_,?_⟩
  .unfold Wl a2a;by_cases g:x9 m<=N
   .rw[Hl g,XM (.inr (yP g))];rfl
   .rw[Eb o5];obtain⟨x,hx,_⟩:=Ou h0 (show N<x9 m by omega);simp only[E9,hx,iZ];cases x8 x.1 0
    case true=>rfl
    simp only[E9,iZ,Rz,YV];cases XI x t
    .rfl
    simp only[jU,E9,F8,YU,iZ,UX];have hz:x8 (i:Int) 0=b.2:=by rw[hb];unfold x8;congr 1;simp
    rw[hz];unfold XP;cases plB (t.1,0,Qg k b.1 x.2.2 b.2)
    .rfl
    .rw[BP o5];rfl
  .intro b' hb';unfold Wl at hb';cases hf:a2a m N t with
   |inr c=>rw[hf]at hb';cases hb'|inl x=>rw[hf]at hb';simp only at hb';cases hp:plB (t.1,0,Qg k b.1 x.2.2 b.2)<;>rw[hp]at hb'<;>cases hb';simp
 .intro b hb;rw[yP (show x9 env.2.2.2.1<=(env.2.2.2.1.length:Int)from bF _)];rfl
 .intro _;cases bD (Wl k N t) env.2.2.2.1 (l7 (x8 k 37) 1 0,true)with
  |inr c=>rfl|inl a=>simp only[Rz,UX,iZ];cases x8 k 39<;>cases x8 (x9 env.2.2.2.1) 0<;>rfl
theorem MS{α β ρ:Type}(G:β->α->β⊕ρ)(P:ρ->Prop)(hG:∀b a r,G b a= .inr r->P r):∀(l:List α) (b:β) (r:ρ),bD G l b= .inr r->P r
 |[],b,r,h=>by cases h|a::l,b,r,h=>by
  unfold bD at h;cases hg:G b a with
  |inr r' =>rw[hg]at h;simp only at h;cases h;exact hG _ _ _ hg|inl b' =>rw[hg]at h;exact MS G P hG l b' r h
structure EvOk (env:fA):Prop where
 ms:env.2.2.2.1.length<=1000000
 tb:∀t∈env.2.2.2.2.2,Jf t
structure OStep (S:List Int) (f:List Int×Int×Int->Option ((List Int×Int×Int)⊕List Int)):Prop where
 step:∀(l:List Int) (c:Nat) (j:Nat) (x:Nat),j<l.length->l.length<=3->S[c]? =some ((x:Nat):Int)->x<=100->f (l,(c:Int),(j:Int))=some (.inl (l.set j (c:Int),(x:Int) -1,(j:Int) -1))
 stop:∀(l:List Int) (c:Int),f (l,c,-1)=some (.inr l)
end Go.GP
namespace Go.GP
open Gt
set_option maxRecDepth 100000
def Fa(n:Int×Int)(args:List V3)(env:fA):V3×Int:=(ref13_Apply n args env).getD ((0,0,0),0)
def lzB(k:Int):Bool:=l7 (x8 k 23) true (l7 (x8 k 24) true (x8 k 26))
def GI(r:V3×Int):V3×Int:=l7 (x8 r.2 0) (l7 (x8 r.1.1 1) (l7 (plB r.1) (r.1,0) ((0,0,0),8)) ((0,0,0),8)) ((0,0,0),r.2)
def a4t(n:Int×Int)(ra rb:V3×Int):V3×Int:=l7 (x8 n.2 0) (l7 (x8 (GI ra).2 0) (l7 (qY (x8 n.1 23) (x8 (GI ra).1.2.2 0)) ((GI ra).1,0) (GI rb)) ((0,0,0),(GI ra).2)) ((0,0,0),2)
def a4u(n:Int×Int)(ra rb rc:V3×Int):V3×Int:=l7 (x8 n.2 0) (l7 (x8 (GI ra).2 0) (l7 (x8 (GI ra).1.2.2 1) rb rc) ((0,0,0),(GI ra).2)) ((0,0,0),2)
def evT(env:fA):XT->V3×Int
 | .l0 n=>Fa n [] env| .l1 n a=>l7 (x8 (evT env a).2 0) (Fa n [(evT env a).1] env) ((0,0,0),(evT env a).2)| .l2 n a b=>l7 (lzB n.1) (a4t n (evT env a) (evT env b)) (l7 (x8 (evT env a).2 0) (l7 (x8 (evT env b).2 0) (Fa n [(evT env a).1,(evT env b).1] env) ((0,0,0),(evT env b).2)) ((0,0,0),(evT env a).2))| .l3 n a b c=>a4u n (evT env a) (evT env b) (evT env c)
abbrev VSt:Type:=V3×List V3×Int
structure VStep (ops:List Int) (ev:Int->Option (V3×Int)) (pad:List V3->List V3) (f:VSt->Option (Out VSt (V3×List V3) (V3×Int))):Prop where
 step:∀(l:List V3) (c:Int) (r:V3×Int),ops[l.length]? =some c->ev c=some r->f ((0,0,0),pad l,(l.length:Int))=some (l7 (x8 r.2 0) (.nx ((0,0,0),pad (l++[r.1]),((l.length+1:Nat):Int))) (.rt ((0,0,0),r.2)))
 stop:∀(l:List V3),l.length=ops.length->f ((0,0,0),pad l,(l.length:Int))=some (.ex ((0,0,0),l))
section
variable {ev:Int->Option (V3×Int)} {pad:List V3->List V3} {f:VSt->Option (Out VSt (V3×List V3) (V3×Int))}
theorem v0(h:VStep [] ev pad f):ak f ((0,0,0),pad [],0)=some (.inl ((0,0,0),[])):=by obtain⟨k,hk⟩:∃k,lF=k+1:=⟨lF -1,by unfold lF;omega⟩;unfold ak;rw[hk,qh,show f ((0,0,0),pad [],0)=some (.ex ((0,0,0),[]))from h.stop [] rfl]
theorem v1{c:Int}{r:V3×Int}(h:VStep [c] ev pad f)(h1:ev c=some r):ak f ((0,0,0),pad [],0)=some (l7 (x8 r.2 0) (.inl ((0,0,0),[r.1])) (.inr ((0,0,0),r.2))):=by
 obtain⟨k,hk⟩:∃k,lF=k+1+1:=⟨lF -2,by unfold lF;omega⟩;unfold ak;rw[hk,qh,show f ((0,0,0),pad [],0)=_ from h.step [] c r rfl h1];cases x8 r.2 0
 .rfl
 .simp only[F8];rw[qh,show f ((0,0,0),pad ([]++[r.1]),(([].length+1:Nat):Int))=_ from h.stop [r.1] rfl]
theorem v2{c d:Int}{r q:V3×Int}(h:VStep [c,d] ev pad f)(h1:ev c=some r)(h2:ev d=some q):ak f ((0,0,0),pad [],0)=some (l7 (x8 r.2 0) (l7 (x8 q.2 0) (.inl ((0,0,0),[r.1,q.1])) (.inr ((0,0,0),q.2))) (.inr ((0,0,0),r.2))):=by
 obtain⟨k,hk⟩:∃k,lF=k+1+1+1:=⟨lF -3,by unfold lF;omega⟩;unfold ak;rw[hk,qh,show f ((0,0,0),pad [],0)=_ from h.step [] c r rfl h1];cases x8 r.2 0
 .rfl
 .simp only[F8];rw[qh,show f ((0,0,0),pad ([]++[r.1]),(([].length+1:Nat):Int))=_ from h.step [r.1] d q rfl h2];cases x8 q.2 0
  .rfl
  .simp only[F8];rw[qh,show f ((0,0,0),pad ([r.1]++[q.1]),(([r.1].length+1:Nat):Int))=_ from h.stop [r.1,q.1] rfl]
end
end Go.GP
namespace Go.GP
open Gt
set_option maxRecDepth 100000
def uf(e:List (Int×Int))(env:fA):V3×Int:=match qK e with
 | .inl x=>((0,0,0),x.2)| .inr t=>evT env t
abbrev E4:Type:=Int×Int×Int×Int
def IB(s:A8)(env:fA)(m d:Int)(ap:List Bool)(i:Int):List Bool⊕(Int×E4):=
 match H9 s.2.2.2.2 i with
 |none=> .inl ap|some r=>l7 (x8 (x9 r.2.2.2.2.2.1) 0) (.inl (ap++[true])) (l7 (x8 (uf r.2.2.2.2.2.1 env).2 0) (.inl (ap++[x8 (uf r.2.2.2.2.2.1 env).1.2.2 1])) (.inr (0,(uf r.2.2.2.2.2.1 env).2,m,d,i)))
def bn(s:A8)(env:fA)(m d:Int):Int×E4:=
 match bD (IB s env m d) (jf s d env.1).1 []with
 | .inr e=>e| .inl ap=>l7 (I7 (Lh (jf s d env.1).2.1 (jf s d env.1).2.2 ap) 0) (Lh (jf s d env.1).2.1 (jf s d env.1).2.2 ap,0,0,0,0) (((jf s d env.1).1.getD (Lh (jf s d env.1).2.1 (jf s d env.1).2.2 ap).toNat 0),0,0,0,0)
theorem L_(s:A8)(d t:Int):(jf s d t).1.length<=s.2.2.2.2.length/\(jf s d t).2.1.length=(jf s d t).1.length:=by
 refine⟨?_,?_⟩
 .show(castL (U4 s d t)).length<=_;rw[Fh];exact a0m _ _
 .show((U4 s d t).map _).length=(castL (U4 s d t)).length;rw[Fh,I9]
theorem Xp{oc pr:Int->Int}{l:List Int}{n:Int}(hn:0<=n)(h:∀x∈l,oc x<n):chF oc pr l<n:=by
 unfold chF;cases hb:pV oc pr l with
 |nil=>show(-1:Int)<n;omega|cons b r=>
  cases r with
  |nil=>exact h b (Fg (oc:=oc) (pr:=pr) (by rw[hb];simp))|cons c r=>show(-2:Int)<n;omega
theorem Yi(par prio:List Int)(ap:List Bool):∀(k:Nat) (i:Int),i<par.length->ocF par prio ap k i<par.length
 |0,i,h=>by show(-1:Int)<_;omega|k+1,i,h=>by
  unfold ocF;have hb:chF (ocF par prio ap k) (prF prio) (castL (mF par i))<(par.length:Int):=Xp o5 λx hx=>by unfold castL at hx;obtain⟨j,hj,rfl⟩:=U1.1 hx;have:=(IU hj).1;exact Yi par prio ap k _ o5
  cases x8 (chF (ocF par prio ap k) (prF prio) (castL (mF par i))) (-1)
  .exact hb
  .cases apF ap i
   .show(-1:Int)<_;omega
   .exact h
theorem a0K(par prio:List Int)(ap:List Bool):Lh par prio ap<par.length:=by
 unfold Lh;cases x8 (xG par prio) 0
 .show(-1:Int)<_;omega
 cases x8 (x9 ap) (x9 par)
 .show(-1:Int)<_;omega
 show chS par prio ap (-1)<_;unfold chS;refine Xp o5 λx hx=>?_;unfold castL at hx;obtain⟨j,hj,rfl⟩:=U1.1 hx;have:=(IU hj).1;unfold OC;exact Yi par prio ap _ _ o5
theorem Xq{oc pr:Int->Int}{l:List Int}(h:∀x∈l,-2<=oc x):-2<=chF oc pr l:=by
 unfold chF;cases hb:pV oc pr l with
 |nil=>show -2<=(-1:Int);omega|cons b r=>
  cases r with
  |nil=>exact h b (Fg (oc:=oc) (pr:=pr) (by rw[hb];simp))|cons c r=>show -2<=(-2:Int);omega
theorem Yj(par prio:List Int)(ap:List Bool):∀(k:Nat) (i:Int),0<=i->-2<=ocF par prio ap k i
 |0,i,h=>by show -2<=(-1:Int);omega|k+1,i,h=>by
  unfold ocF;have hb:-2<=chF (ocF par prio ap k) (prF prio) (castL (mF par i)):=Xq λx hx=>by unfold castL at hx;obtain⟨j,hj,rfl⟩:=U1.1 hx;exact Yj par prio ap k _ o5
  cases x8 (chF (ocF par prio ap k) (prF prio) (castL (mF par i))) (-1)
  .exact hb
  .cases apF ap i
   .show -2<=(-1:Int);omega
   .show -2<=i;omega
theorem a0L(par prio:List Int)(ap:List Bool):-2<=Lh par prio ap:=by
 unfold Lh;cases x8 (xG par prio) 0
 .show -2<=(-1:Int);omega
 cases x8 (x9 ap) (x9 par)
 .show -2<=(-1:Int);omega
 show -2<=chS par prio ap (-1);unfold chS;refine Xq λx hx=>?_;unfold castL at hx;obtain⟨j,hj,rfl⟩:=U1.1 hx;unfold OC;exact Yj par prio ap _ _ o5
variable {s:A8}{d:Int}{env:fA}{m:Int}
theorem XH(b:List Bool)(i:Int)(r:Int×E4)(h:IB s env m d b i= .inr r):r.2.1≠0:=by
 unfold IB at h;cases hl:H9 s.2.2.2.2 i with
 |none=>rw[hl]at h;cases h|some q=>
  rw[hl]at h;simp only at h;cases h1:x8 (x9 q.2.2.2.2.2.1) 0<;>rw[h1]at h
  .cases h2:x8 (uf q.2.2.2.2.2.1 env).2 0<;>rw[h2]at h<;>cases h;simp only;intro h3;rw[jX h3]at h2;cases h2
  .cases h
def zA(s:A8)(env:fA)(m d:Int):(V3×Int)⊕E4:=
 l7 (x8 (bn s env m d).2.1 0) (l7 (x8 (bn s env m d).1 (-1)) (.inr (10,m,d,-1)) (l7 (x8 (bn s env m d).1 (-2)) (.inr (11,m,d,-1))
  (match H9 s.2.2.2.2 (bn s env m d).1 with
  |none=> .inr (1,0,0,0)
  |some r=>l7 (x8 (uf r.2.2.2.2.2.2.1 env).2 0) (.inl ((uf r.2.2.2.2.2.2.1 env).1,(bn s env m d).1)) (.inr ((uf r.2.2.2.2.2.2.1 env).2,m,d,(bn s env m d).1))))) (.inr (bn s env m d).2)
abbrev DB:Type:=List V3×List Int
def CY(env:fA)(ds:List V3):fA:=(env.1,env.2.1,ds,env.2.2.2)
theorem Bl(h:EvOk env)(ds:List V3):EvOk (CY env ds):=⟨h.ms,h.tb⟩
def scG(s:A8)(env:fA)(m:Int)(need:List Bool)(b:DB)(d:Int):DB⊕(E4×List V3):=
 l7 ((H9 need d).getD false) (match zA s (CY env b.1) m d with
  | .inl v=> .inl (b.1.set d.toNat v.1,b.2.set d.toNat v.2)
  | .inr e=> .inr (e,b.1)) (.inl b)
def scS(s:A8)(env:fA)(m:Int)(need:List Bool):DB⊕(E4×List V3):=bD (scG s env m need) (jI s).1 (List.replicate s.2.2.2.1.length (0,0,0),List.replicate s.2.2.2.1.length 0)
def Iy(l:ay)(k:Int)(c:jO)(ex:Bool)(d:Int):E4:=
 l7 (x8 (jg l).1 0) (match H9 l.2.2 k with
  |none=>(6,-1,-1,-1)
  |some s=>l7 (l7 ex (l7 (I7 d 0) true (Y2 (x9 s.2.2.2.1) d)) false) (6,-1,-1,-1) (l7 (x8 (Xn l k c).2.2 0) (0,0,0,0) ((Xn l k c).2.2,(Xn l k c).1,-1,-1))) (1,-1,-1,-1)
def nP:A8:=([],0,[],[],[])
def aV(l:ay)(s:A8):A8:=l7 (Y2 0 s.2.1) ((H9 l.2.2 s.2.1).getD nP) nP
def wO(n:Nat):List Bool:=List.replicate n false
variable {l:ay}{k:Int}{c:jO}
theorem VK{ex:Bool}(h:(Iy l k c ex d).1=0):(jg l).1=0/\∃s,H9 l.2.2 k=some s:=by
 unfold Iy at h;cases h0:x8 (jg l).1 0<;>rw[h0]at h
 .exact absurd (show(1:Int)=0 from h) aT
 refine⟨bJ.1 h0,?_⟩;cases h1:H9 l.2.2 k with
 |none=>rw[h1]at h;exact absurd (show(6:Int)=0 from h) aT|some s=>exact⟨s,rfl⟩
variable {i:Nat}
theorem O_(h:(jg l).1=0)(hs:l.2.2[i]? =some s):(Le l i s).1=0:=by
 unfold jg at h;cases h1:x8 (SK l).1 0<;>rw[h1]at h
 .simp only[E9]at h;rw[jX h]at h1;cases h1
 cases h2:x8 (Pv l).1 0<;>rw[h2]at h
 .simp only[F8,E9]at h;rw[jX h]at h2;cases h2
 simp only[F8]at h;unfold Vr at h;cases h3:I7 4 (x9 l.2.2)<;>rw[h3]at h
 case true=>exact absurd (show(4:Int)=0 from h) aT
 simp only[E9]at h;have hi:=(Z5.1 hs).1;cases hf:dh l.2.2.length (OZ l)with
 |some r=>
  rw[hf]at h;simp only at h;obtain⟨j,hj,hp⟩:=jA hf;unfold OZ at hp;cases hq:l.2.2[j]? with
  |none=>rw[hq]at hp;cases hp|some q=>
   rw[hq]at hp;simp only at hp;unfold XC at hp;exact absurd h (by cases he:x8 (Le l j q).1 0<;>rw[he]at hp<;>cases hp;simp only;intro h4;rw[jX h4]at he;cases he)
 |none=>
  have hn:=oZ hf i hi;unfold OZ at hn;rw[hs]at hn;simp only at hn;unfold XC at hn;cases he:x8 (Le l i s).1 0<;>rw[he]at hn
  .cases hn
  exact bJ.1 he
theorem GG(h:(jg l).1=0)(hs:l.2.2[i]? =some s):FP l i s.2.1=false/\(OL l s).1=0:=by
 have he:=O_ h hs;unfold Le at he;cases g1:LW s.1<;>rw[g1]at he
 .exact absurd (show(2:Int)=0 from he) aT
 cases g2:VA l 3 i s.1<;>rw[g2]at he
 case true=>exact absurd (show(7:Int)=0 from he) aT
 cases g3:FP l i s.2.1<;>rw[g3]at he
 case true=>exact absurd (show(6:Int)=0 from he) aT
 cases g4:I7 12 (x9 s.2.2.1)<;>rw[g4]at he
 case true=>exact absurd (show(4:Int)=0 from he) aT
 cases g5:I7 12 (x9 s.2.2.2.1)<;>rw[g5]at he
 case true=>exact absurd (show(4:Int)=0 from he) aT
 exact⟨rfl,he⟩
theorem NT(h:(jg l).1=0)(hs:l.2.2[i]? =some s):FP l i s.2.1=false:=(GG h hs).1
theorem wH(h:(jg l).1=0)(hs:H9 l.2.2 k=some s):(Y2 0 s.2.1=false/\I7 s.2.1 0=true/\aV l s=nP)\/(Y2 0 s.2.1=true/\I7 s.2.1 0=false/\Y2 (x9 l.2.2) s.2.1=false/\H9 l.2.2 s.2.1=some (aV l s)/\aV l s∈l.2.2):=by
 obtain⟨k0,k1,k2,k3⟩:=jr hs;have hm:=NT h k3;unfold FP at hm;by_cases g:0<=s.2.1
 .right;rw[uk (show s.2.1≠-1 by intro e;rw[e]at g;exact absurd g aT),yP g]at hm;simp only[E9]at hm;cases g2:Y2 ((k.toNat:Nat):Int) s.2.1<;>rw[g2]at hm
  case true=>cases hm
  rw[Dc]at g2;have hlt:s.2.1<x9 l.2.2:=by have:((k.toNat:Nat):Int)=k:=dJ k0;rw[this]at g2;exact Int.lt_trans g2 k1
  obtain⟨q,hq,hqm⟩:=Ou g hlt;have e:aV l s=q:=by unfold aV;rw[Hl g,hq];rfl
  rw[e];exact⟨Hl g,yP g,Eb hlt,hq,hqm⟩
 .left;have g' :=IC.1 g;refine⟨Eb g',Ec g',?_⟩;unfold aV;rw[Eb g'];rfl
theorem Tv:SmS nP:=⟨by simp[nP],by simp[nP],by simp[nP],by simp[nP],⟨by simp[nP],by simp[nP]⟩,by simp[nP]⟩
def IG(l:ay)(c:jO)(v:List V3):fA:=(c.1,v,[],[],[],l.2.1)
def mG(l:ay)(c:jO)(ms:A8)(need:List Bool)(b:List DB)(a:List V3×Nat):List DB⊕E4:=
 match scS ms (IG l c a.1) (a.2:Int) need with
 | .inl x=> .inl (b++[x])| .inr e=> .inr e.1
def mS(l:ay)(c:jO)(ms:A8)(need:List Bool):List DB⊕E4:=bD (mG l c ms need) c.2.2.zipIdx []
theorem UW(hT:∀t∈l.2.1,Jf t)(c:jO)(v:List V3):EvOk (IG l c v):=⟨by simp[IG],hT⟩
def vW(l:ay)(s:A8)(c:jO)(b:List DB):fA:=(c.1,c.2.1,[],b.map (·.1),(aV l s).2.2.2.1.map (·.2),l.2.1)
theorem XU(hL:SmL l)(h:(jg l).1=0)(hs:H9 l.2.2 k=some s):SmS (aV l s):=by
 rcases wH h hs with⟨_,_,g3⟩|⟨_,_,_,_,g5⟩
 .rw[g3];exact Tv
 .exact hL.sc _ g5
variable {need:List Bool}
theorem a1Z{ms:A8}{b:List DB}(h:mS l c ms need= .inl b):b.length=c.2.2.length:=by
 have key:∀(L:List (List V3×Nat)) (b0 b:List DB),bD (mG l c ms need) L b0= .inl b->b.length=b0.length+L.length:=by
  intro L;induction L with
  |nil=>intro b0 b h;cases h;simp|cons a L ih=>
   intro b0 b h;unfold bD at h;cases hg:mG l c ms need b0 a with
   |inr e=>rw[hg]at h;cases h|inl b1=>
    rw[hg]at h;have:=ih b1 b h;have h1:b1.length=b0.length+1:=by
     unfold mG at hg;cases hs:scS ms (IG l c a.1) (a.2:Int) need with
     |inr e=>rw[hs]at hg;cases hg|inl x=>rw[hs]at hg;cases hg;simp
    simp only[G6];omega
 have:=key _ _ _ h;simpa using this
theorem QL(hT:∀t∈l.2.1,Jf t)(s:A8)(c:jO){b:List DB}(hb:b.length<=1000):EvOk (vW l s c b):=⟨by simp[vW];omega,hT⟩
def a0d(l:ay)(s:A8)(c:jO)(nS nM:List Bool):DB×List DB⊕E4:=
 match mS l c (aV l s) nM with
 | .inr e=> .inr e
 | .inl b=>match scS s (vW l s c b) (-1) nS with
  | .inl x=> .inl (x,b)| .inr r=> .inr r.1
def ScI(s:A8):Prop:=∀r∈s.2.2.2.2,(∀n∈r.2.2.2.2.2.1,I64 n.2)/\∀n∈r.2.2.2.2.2.2.1,I64 n.2
theorem FI{α β ρ:Type}(G:β->α->β⊕ρ)(Inv:β->Prop)(hG:∀b a b',Inv b->G b a= .inl b' ->Inv b'):∀(l:List α) (b b' :β),Inv b->bD G l b= .inl b' ->Inv b'
 |[],b,b',hi,h=>by cases h;exact hi|a::l,b,b',hi,h=>by
  unfold bD at h;cases hg:G b a with
  |inr r=>rw[hg]at h;cases h|inl b1=>rw[hg]at h;exact FI G Inv hG l b1 b' (hG b a b1 hi hg) h
theorem Ja{b:DB}(h:scS s env m need= .inl b):b.1.length=s.2.2.2.1.length/\b.2.length=s.2.2.2.1.length:=by
 refine FI (scG s env m need) (λb=>b.1.length=s.2.2.2.1.length/\b.2.length=s.2.2.2.1.length) (λb a b' hi h=>?_) _ _ _ ⟨o7,o7⟩ h;unfold scG at h;cases hb:(H9 need a).getD false<;>rw[hb]at h
 .cases h;exact hi
 simp only[F8]at h;cases hd:zA s (CY env b.1) m a with
 |inr e=>rw[hd]at h;cases h|inl v=>rw[hd]at h;cases h;exact⟨by simp[hi.1],by simp[hi.2]⟩
structure WfL (l:ay):Prop where
 rl:∀t∈l.2.1,t.2.2.2.length<=4611686018427387904
 ri:∀t∈l.2.1,∀r∈t.2.2.2,a1d r
 sl:∀s∈l.2.2,s.2.2.2.2.length<=4611686018427387904
 si:∀s∈l.2.2,ScI s
def WO(w:List Bool)(L:List Int):List Bool:=L.foldl (λw x=>w.set x.toNat true) w
theorem QY:∀(L:List Int) (w:List Bool),(WO w L).length=w.length
 |[],w=>rfl|x::L,w=>(QY L (w.set x.toNat true)).trans o7
def OY(s:A8)(w:List Bool)(d:Int):List Bool:=WO (w.set d.toNat true) (jM s d)
theorem Zc(s:A8)(w:List Bool)(d:Int):(OY s w d).length=w.length:=by unfold OY;rw[QY];simp
def Qx(r:bW):List Int:=(vX r.2.2.2.2.2.1).2.2++(vX r.2.2.2.2.2.2.1).2.2
def mdl(rs:List bW)(C:List Int):List Int:=rs.flatMap λr=>l7 (xh C r.2.1) (Qx r) []
def mbS(s:A8)(d:Int):List Int:=l7 (inD (nD s) d) (Gv (mdl s.2.2.2.2 (ins d (jM s d)))) []
variable {x:Int}
theorem UZ{rs:List bW}{C:List Int} :x∈mdl rs C↔∃r∈rs,xh C r.2.1=true/\x∈Qx r:=by
 unfold mdl;rw[qc];constructor
 .rintro⟨r,h1,h2⟩;cases h:xh C r.2.1<;>rw[h]at h2
  .simp at h2
  .exact⟨r,h1,h,h2⟩
 .rintro⟨r,h1,h2,h3⟩;exact⟨r,h1,by rw[h2];exact h3⟩
theorem Vd:∀(L:List Int) (w:List Bool),(∀x∈L,0<=x/\x<x9 w)->∀x,mk (WO w L) x=true↔mk w x=true\/x∈L
 |[],w,_,x=>by simp[WO]|y::L,w,h,x=>by
  have hy:=h y o7;have ih:=Vd L (w.set y.toNat true) (λz hz=>by have:=h z (by simp[hz]);simp only[x9,lT]at this ⊢;exact this) x;rw[show WO w (y::L)=WO (w.set y.toNat true) L from rfl,ih,Ya hy.1 hy.2];cases hq:x8 x y
  .have:x≠y:=λe=>by rw[jX e]at hq;cases hq
   simp[this]
  .rw[bJ]at hq;simp[hq]
theorem Np(n:Nat)(x:Int):mk (List.replicate n false) x=false:=by
 unfold mk;split
 .rw[zi,rC];split<;>rfl
 .rfl
def Dn(m:A8)(w:List Bool)(L:List Int):List Bool:=L.foldl (OY m) w
variable {sg:L6}{N:Int}
theorem a1t(hk:ref10_meaning k=some true)(h:(TN (k,N) [] sg).2=0):((RR (k,N) [] sg).getD ((0,0),0)).2=0:=by
 unfold TN at h;rw[a9c]at h;revert h;cases G5 (x8 N 0)
 .exact id
 .rw[show ref10_meaning (k,N).1=some true from hk];exact id
theorem a0z(h:(TN (8,N) [] sg).2=0):0<=N/\N<x9 sg.2.2.2.1:=by
 have h:=a1t rfl h;have hf:ref10_found (8,N) sg=l7 (Y2 0 N) (some (I7 N (x9 sg.2.2.2.1))) (some false):=rfl;unfold RR at h;rw[hf,show ref10_ranged (8,N) sg=some true from rfl]at h;cases h1:Y2 0 N<;>rw[h1]at h
 .exact absurd (show(6:Int)=0 from h) aT
 cases h2:I7 N (x9 sg.2.2.2.1)<;>rw[h2]at h
 .exact absurd (show(6:Int)=0 from h) aT
 exact⟨su.1 h1,Bv.1 h2⟩
theorem a0A(hk:k=36\/k=37\/k=38\/k=39)(h:(TN (k,N) [] sg).2=0):0<=N/\N<x9 sg.2.2.2.2.1/\sg.2.2.2.2.2=true:=by
 have h:=a1t (by rcases hk with rfl|rfl|rfl|rfl<;>rfl) h;have hr:RR (k,N) [] sg=l9 (l7 sg.2.2.2.2.2 (l7 (Y2 0 N) (some (I7 N (x9 sg.2.2.2.2.1))) (some false)) (some false)) λ(x:Bool)=>l7 (G5 x) (some ((0,0),6))
   (l9 (ref10_leaf (k,N) sg) λ(x:zo×Bool)=>l7 (G5 x.2) (some ((0,0),8)) (some (x.1,0))):=by rcases hk with rfl|rfl|rfl|rfl<;>rfl
 rw[hr]at h;cases h0:sg.2.2.2.2.2<;>rw[h0]at h
 .exact absurd (show(6:Int)=0 from h) aT
 cases h1:Y2 0 N<;>rw[h1]at h
 .exact absurd (show(6:Int)=0 from h) aT
 cases h2:I7 N (x9 sg.2.2.2.2.1)<;>rw[h2]at h
 .exact absurd (show(6:Int)=0 from h) aT
 exact⟨su.1 h1,Bv.1 h2,rfl⟩
def Je(sg:L6)(n:Int×Int):Prop:=(x8 n.1 8=true->0<=n.2/\n.2<x9 sg.2.2.2.1)/\(isM n.1=true->0<=n.2/\n.2<x9 sg.2.2.2.2.1/\sg.2.2.2.2.2=true)
theorem Nb(h:isM k=true):k=36\/k=37\/k=38\/k=39:=by
 unfold isM at h;cases h1:Y2 36 k<;>rw[h1]at h
 .cases h
 have h2:=su.1 h1;have h3:=su.1 (show Y2 k 39=true from h);omega
variable {n:Int×Int}
theorem Yf{t:Int×Int}(h:Hu sg n [] i= .inr t):Je sg n:=by
 unfold Hu at h;split at h
 .rename_i h0;obtain⟨k,N⟩:=n;refine⟨λhk=>?_,λhk=>a0A (Nb hk) h0⟩;have hk:k=8:=bJ.1 hk;subst hk;exact a0z h0
 .cases h
theorem KC(h:arF n.1≠0):Je sg n:=by
 refine⟨λhk=>absurd ?_ h,λhk=>absurd ?_ h⟩
 .rw[bJ.1 hk];rfl
 .rcases Nb hk with e|e|e|e<;>rw[e]<;>rfl
theorem yH{sg:L6} :∀(t:XT) (o:Nat) {r:Int×Int},t.wf->jD sg t o= .inr r->∀n∈t.post,Je sg n
 | .l0 n,o,r,hw,h,x,hx=>by unfold XT.post at hx;rw[E5.1 hx];unfold jD at h;exact Yf h| .l1 n a,o,r,hw,h,x,hx=>by
  unfold XT.wf at hw;unfold XT.post at hx;unfold jD at h;cases ha:jD sg a o with
  |inl e=>rw[ha]at h;cases h|inr ta=>
   rcases o8.1 hx with hx|hx
   .exact yH a o hw.2 ha x hx
   .rw[E5.1 hx];exact KC (by rw[hw.1];decide)
 | .l2 n a b,o,r,hw,h,x,hx=>by
  unfold XT.wf at hw;unfold XT.post at hx;unfold jD at h;cases ha:jD sg a o with
  |inl e=>rw[ha]at h;cases h|inr ta=>
   rw[ha]at h;simp only at h;cases hb:jD sg b (o+a.size)with
   |inl e=>rw[hb]at h;cases h|inr tb=>
    rcases o8.1 hx with hx|hx
    .rcases o8.1 hx with hx|hx
     .exact yH a o hw.2.1 ha x hx
     .exact yH b _ hw.2.2 hb x hx
    .rw[E5.1 hx];exact KC (by rw[hw.1];decide)
 | .l3 n a b c,o,r,hw,h,x,hx=>by
  unfold XT.wf at hw;unfold XT.post at hx;unfold jD at h;cases ha:jD sg a o with
  |inl e=>rw[ha]at h;cases h|inr ta=>
   rw[ha]at h;simp only at h;cases hb:jD sg b (o+a.size)with
   |inl e=>rw[hb]at h;cases h|inr tb=>
    rw[hb]at h;simp only at h;cases hc:jD sg c (o+a.size+b.size)with
    |inl e=>rw[hc]at h;cases h|inr tc=>
     rcases o8.1 hx with hx|hx
     .rcases o8.1 hx with hx|hx
      .rcases o8.1 hx with hx|hx
       .exact yH a o hw.2.1 ha x hx
       .exact yH b _ hw.2.2.1 hb x hx
      .exact yH c _ hw.2.2.2 hc x hx
     .rw[E5.1 hx];exact KC (by rw[hw.1];decide)
theorem yz{ops:List (Int×Int)}{x:Int×Int}(h:Hu sg n ops i= .inl x):x.2≠0:=by
 unfold Hu at h;split at h
 .cases h
 .rename_i h0;cases h;exact h0
theorem qG{sg:L6} :∀(t:XT) (o:Nat) {x:Int×Int},jD sg t o= .inl x->x.2≠0
 | .l0 n,o,x,h=>yz h| .l1 n a,o,x,h=>by
  unfold jD at h;cases ha:jD sg a o with
  |inl e=>rw[ha]at h;cases h;exact qG a o ha|inr ta=>rw[ha]at h;exact yz h
 | .l2 n a b,o,x,h=>by
  unfold jD at h;cases ha:jD sg a o with
  |inl e=>rw[ha]at h;cases h;exact qG a o ha|inr ta=>
   rw[ha]at h;simp only at h;cases hb:jD sg b (o+a.size)with
   |inl e=>rw[hb]at h;cases h;exact qG b _ hb|inr tb=>rw[hb]at h;exact yz h
 | .l3 n a b c,o,x,h=>by
  unfold jD at h;cases ha:jD sg a o with
  |inl e=>rw[ha]at h;cases h;exact qG a o ha|inr ta=>
   rw[ha]at h;simp only at h;cases hb:jD sg b (o+a.size)with
   |inl e=>rw[hb]at h;cases h;exact qG b _ hb|inr tb=>
    rw[hb]at h;simp only at h;cases hc:jD sg c (o+a.size+b.size)with
    |inl e=>rw[hc]at h;cases h;exact qG c _ hc|inr tc=>rw[hc]at h;exact yz h
variable {e:List (Int×Int)}
theorem NS(h:(pR e sg).2.2=0):∀n∈e,Je sg n:=by
 unfold pR at h;cases hs:qK e with
 |inl x=>rw[hs]at h;exact absurd h (Rx hs)|inr t=>
  rw[hs]at h;simp only at h;cases ht:jD sg t 0 with
  |inl x=>rw[ht]at h;exact absurd h (qG t 0 ht)|inr r=>intro n hn;rw[(Iq hs).1]at hn;exact yH t 0 (WR hs) ht n hn
theorem NV{t:Int×Int}(h:EU e sg t=0):pR e sg=(t,(pR e sg).2.1,0):=by
 unfold EU at h;cases h1:x8 (pR e sg).2.2 0<;>rw[h1]at h
 .simp only[E9]at h;rw[jX h]at h1;cases h1
 cases h2:x8 (pR e sg).1.1 t.1<;>rw[h2]at h
 .exact absurd (show(8:Int)=0 from h) aT
 cases h3:x8 (pR e sg).1.2 t.2<;>rw[h3]at h
 .exact absurd (show(8:Int)=0 from h) aT
 rw[bJ]at h1 h2 h3;exact iK (iK h2 h3) (iK rfl h1)
variable {r:bW}
theorem LG(h:(jg l).1=0)(hs:l.2.2[i]? =some s){k:Nat}(hr:s.2.2.2.2[k]? =some r):EL s (Gp l s) k r=0:=by
 have hp:=(GG h hs).2;unfold OL at hp;cases h1:DY l s with
 |some q=>rw[h1]at hp;exact absurd hp (Ha h1)|none=>
  rw[h1]at hp;simp only at hp;cases h2:dh s.2.2.2.2.length (NK l s)with
  |some q=>
   rw[h2]at hp;obtain⟨j,hj,hq⟩:=jA h2;unfold NK at hq;cases h3:s.2.2.2.2[j]? with
   |none=>rw[h3]at hq;cases hq|some q2=>rw[h3]at hq;exact absurd hp (Bq hq)
  |none=>
   have hn:=oZ h2 k (Z5.1 hr).1;unfold NK at hn;rw[hr]at hn;simp only at hn;unfold VV at hn;cases he:x8 (EL s (Gp l s) k r) 0<;>rw[he]at hn
   .cases hn
   .exact bJ.1 he
theorem KY{k:Nat}(h:EL s sg k r=0):∃d,H9 s.2.2.2.1 r.2.1=some d/\Oj r sg d.2=0:=by
 unfold EL at h;cases g1:LW r.1<;>rw[g1]at h
 .exact absurd (show(2:Int)=0 from h) aT
 cases g2:(s.2.2.2.2.take k).any λx=>seq x.1 r.1<;>rw[g2]at h
 case true=>exact absurd (show(7:Int)=0 from h) aT
 cases g3:H9 s.2.2.2.1 r.2.1 with
 |none=>rw[g3]at h;exact absurd (show(6:Int)=0 from h) aT|some d=>
  rw[g3]at h;refine⟨d,rfl,?_⟩;simp only[F8,E9]at h;revert h;generalize l7 (x8 r.2.2.1 (-1)) false (l7 (I7 r.2.2.1 0) true (l7 (Y2 k r.2.2.1) true (match H9 s.2.2.2.2 r.2.2.1 with|some q=>G5 (x8 q.2.1 r.2.1)|none=>true)))=b1;generalize I7 r.2.2.2.1 0=b2;generalize I7 9 r.2.2.2.1=b3;generalize PY r.2.2.2.2.1=b4;generalize x8 r.2.2.2.2.1.1 r.2.2.2.2.1.2=b5;generalize Y2 8 (LM (s.2.2.2.2.take k) r.2.1)=b6;generalize a0V r.2.2.2.2.2.2.2=b7;intro h;cases b1
  case true=>exact absurd (show(9:Int)=0 from h) aT
  cases b2
  case true=>exact absurd (show(3:Int)=0 from h) aT
  cases b3
  case true=>exact absurd (show(3:Int)=0 from h) aT
  cases b4
  case false=>exact absurd (show(3:Int)=0 from h) aT
  cases b5
  case true=>exact absurd (show(3:Int)=0 from h) aT
  cases b6
  case true=>exact absurd (show(4:Int)=0 from h) aT
  cases b7
  case false=>exact absurd (show(2:Int)=0 from h) aT
  exact h
theorem Ir(h:(jg l).1=0)(hs:l.2.2[i]? =some s)(hr:r∈s.2.2.2.2):
  (r.2.2.2.2.2.1=[]\/EU r.2.2.2.2.2.1 (Gp l s) (1,0)=0)/\∃d,H9 s.2.2.2.1 r.2.1=some d/\EU r.2.2.2.2.2.2.1 (Gp l s) d.2=0:=by
 obtain⟨k,hk,e⟩:=gm hr;obtain⟨d,h1,h2⟩:=KY (LG h hs (r:=r) (k:=k) (by rw[kG hk,e]));unfold Oj at h2;cases h3:I7 0 (x9 r.2.2.2.2.2.1)<;>rw[h3]at h2
 .refine⟨.inl ?_,d,h1,h2⟩;rw[Df]at h3;exact J6.1 (by simp only[x9]at h3;omega)
 .simp only[F8]at h2;cases h4:x8 (EU r.2.2.2.2.2.1 (Gp l s) (1,0)) 0<;>rw[h4]at h2
  .simp only[E9]at h2;rw[jX h2]at h4;cases h4
  .exact⟨.inr (bJ.1 h4),d,h1,h2⟩
theorem ZJ(l:ay)(s:A8):(Gp l s).2.2.2.1=s.2.2.2.1.map (·.2):=by unfold Gp;split<;>rfl
theorem a0M(h:(Gp l s).2.2.2.2.2=true):(Gp l s).2.2.2.2.1=(aV l s).2.2.2.1.map (·.2):=by
 unfold Gp at h ⊢;unfold aV H9
 by_cases g:0<=s.2.1
 .rw[if_pos g]at h ⊢;rw[Hl g];cases hq:l.2.2[s.2.1.toNat]? with
  |none=>rw[hq]at h;cases h|some q=>rfl
 .rw[if_neg g]at h;cases h
theorem Gm(h:(jg l).1=0)(hs:l.2.2[i]? =some s)(hr:r∈s.2.2.2.2)(he:e=r.2.2.2.2.2.1\/e=r.2.2.2.2.2.2.1):
  (∀x∈(vX e).2.1,0<=x/\x<nD s)/\∀x∈(vX e).2.2,0<=x/\x<nD (aV l s):=by
 obtain⟨h1,d,h2,h3⟩:=Ir h hs hr;have hn:∀n∈e,Je (Gp l s) n:=by
  rcases he with rfl|rfl
  .rcases h1 with h1|h1
   .rw[h1];simp
   .exact NS (by rw[NV h1])
  .exact NS (by rw[NV h3])
 constructor
 .intro x hx;have hx:=(pI x _).1 (show x∈Gv (Yg (λo=>x8 o 8) e)from hx);obtain⟨n,hn1,rfl⟩:=U1.1 hx;obtain⟨hn2,hn3⟩:=J4.1 hn1;have:=(hn n hn2).1 hn3;rw[ZJ]at this;simpa[x9,nD]using this
 .intro x hx;have hx:=(pI x _).1 (show x∈Gv (Yg isM e)from hx);obtain⟨n,hn1,rfl⟩:=U1.1 hx;obtain⟨hn2,hn3⟩:=J4.1 hn1;have:=(hn n hn2).2 hn3;rw[a0M this.2.2]at this;refine⟨this.1,?_⟩;have h2:=this.2.1;simpa[x9,nD]using h2
theorem XR(h:(jg l).1=0)(hs:l.2.2[i]? =some s)(d:Int):∀x∈mbS s d,0<=x/\x<nD (aV l s):=by
 intro x hx;unfold mbS at hx;cases hq:inD (nD s) d<;>rw[hq]at hx
 .simp at hx
 .obtain⟨r,hr,_,h3⟩:=UZ.1 ((pI x _).1 hx);rcases o8.1 h3 with h3|h3
  .exact(Gm h hs hr (.inl rfl)).2 x h3
  .exact(Gm h hs hr (.inr rfl)).2 x h3
theorem Xj(h:(Iy l k c true d).1=0)(hs:H9 l.2.2 k=some s):0<=d/\d<nD s:=by
 unfold Iy at h;cases h0:x8 (jg l).1 0<;>rw[h0]at h
 .exact absurd (show(1:Int)=0 from h) aT
 rw[hs]at h;simp only[F8]at h;cases h1:I7 d 0<;>rw[h1]at h
 case true=>exact absurd (show(6:Int)=0 from h) aT
 cases h2:Y2 (x9 s.2.2.2.1) d<;>rw[h2]at h
 case true=>exact absurd (show(6:Int)=0 from h) aT
 rw[Df]at h1;rw[Dc]at h2;exact⟨h1,h2⟩
def a9l(d:Int)(r:DB×List DB⊕E4):V3×Int×E4:=match r with
 | .inr e=>((0,0,0),0,e)| .inl x=>(x.1.1.getD d.toNat (0,0,0),x.1.2.getD d.toNat 0,0,0,0,0)
def a4q(l:ay)(s:A8)(c:jO)(d:Int):V3×Int×E4:=
 a9l d (a0d l s c (OY s (wO s.2.2.2.1.length) d) (Dn (aV l s) (wO (aV l s).2.2.2.1.length) (mbS s d)))
theorem JF(n:Nat):(wO n).length=n:=by simp[wO]
abbrev BB:Type:=List Bool×List Bool
def BOk(s m:A8)(b:BB):Prop:=b.1.length=s.2.2.2.1.length/\b.2.length=m.2.2.2.1.length
structure Sim (P Q:Int->Prop) (a b:fA):Prop where
 e1:a.1=b.1
 e2:a.2.1=b.2.1
 e3:a.2.2.2.2=b.2.2.2.2
 dl:a.2.2.1.length=b.2.2.1.length
 d:∀x,P x->H9 a.2.2.1 x=H9 b.2.2.1 x
 ml:a.2.2.2.1.length=b.2.2.2.1.length
 m:∀x,Q x->a.2.2.2.1.map (λv=>H9 v x)=b.2.2.2.1.map (λv=>H9 v x)
def PK(P Q:Int->Prop)(n:Int×Int):Prop:=(n.1=8->P n.2)/\(isM n.1=true->Q n.2)
theorem OA{α β:Type}{a:List α}{b:List β}(h:a.length=b.length):x9 a=x9 b:=congrArg (λ(n:Nat)=>(n:Int)) h
variable {Q:Int->Prop}{P:Int->Prop}{a:fA}{b:fA}
theorem VY(h:Sim P Q a b)(hn:PK P Q n):ref13_found n a=ref13_found n b:=by
 obtain⟨d,i,D,M,T,B⟩:=a;obtain⟨d',i',D',M',T',B'⟩:=b;obtain⟨e1,e2,e3,dl,hd,ml,hm⟩:=h;cases e1;cases e2;cases e3;have hD:=OA dl;unfold ref13_found;simp only at hD hd ⊢;rw[hD];cases hk:x8 n.1 8
 .rfl
 .rw[hd _ (hn.1 (bJ.1 hk))]
theorem Qr(h:Sim P Q a b)(hn:PK P Q n):ref13_literal n a=ref13_literal n b:=by
 obtain⟨d,i,D,M,T,B⟩:=a;obtain⟨d',i',D',M',T',B'⟩:=b;obtain⟨e1,e2,e3,dl,hd,ml,hm⟩:=h;cases e1;cases e2;cases e3;have hM:=OA ml;unfold ref13_literal;simp only at hM hd ⊢;rw[hM];cases hk:x8 n.1 8
 .rfl
 .rw[hd _ (hn.1 (bJ.1 hk))]
theorem JJ{α γ β ρ:Type}(f:α->γ)(g:β->γ->β⊕ρ):∀(l:List α) (b:β),bD (λb a=>g b (f a)) l b=bD g (l.map f) b
 |[],b=>rfl|a::l,b=>by
  rw[bz];unfold bD;cases g b (f a)with
  |inl b' =>exact JJ f g l b'|inr r=>rfl
def a4z(k:Int)(t:Int×Int)(b:Int×Bool)(o:Option V3):(Int×Bool)⊕(V3×Int):=
 match(match o with|none=>(.inr 6:V3⊕Int)|some x=>l7 (x8 x.1 0) (.inr 6) (l7 (XI x t) (.inl x) (.inr 8)))with
 | .inr c=> .inr ((0,0,0),c)| .inl x=>l7 (plB (t.1,0,Qg k b.1 x.2.2 b.2)) (.inl (Qg k b.1 x.2.2 b.2,false)) (.inr ((0,0,0),3))
theorem UY(k N:Int)(t:Int×Int)(ms:List (List V3))(b:Int×Bool):bD (Wl k N t) ms b=bD (a4z k t) (ms.map λv=>H9 v N) b:=JJ (λv=>H9 v N) (a4z k t) ms b
theorem Qz(h:Sim P Q a b)(hn:Q n.2)(ha:EvOk a)(hb:EvOk b):ref13_members n a=ref13_members n b:=by
 obtain⟨k,N⟩:=n;have h3:a.2.2.2.2.1=b.2.2.2.2.1:=by rw[h.e3]
 cases hl:H9 a.2.2.2.2.1 N with
 |none=>
  have hl2:H9 b.2.2.2.2.1 N=none:=by rw[←h3];exact hl
  unfold ref13_members;simp only;rw[hl,hl2];rfl
 |some t=>
  have hl2:H9 b.2.2.2.2.1 N=some t:=by rw[←h3];exact hl
  have h0:=(jr hl).1;rw[Ic k N a t hl h0 ha.ms,Ic k N b t hl2 h0 hb.ms];unfold XX;rw[UY,UY,h.m N hn,OA h.ml]
theorem TY(h:Sim P Q a b)(n:Int×Int)(x:V3):ref13_single n x a=ref13_single n x b:=by obtain⟨d,i,D,M,T,B⟩:=a;obtain⟨d',i',D',M',T',B'⟩:=b;obtain⟨e1,e2,e3,dl,hd,ml,hm⟩:=h;cases e1;cases e2;cases e3;rfl
theorem Fb(h:Sim P Q a b)(hn:PK P Q n)(ha:EvOk a)(hb:EvOk b)(args:List V3):Fa n args a=Fa n args b:=by
 unfold Fa ref13_Apply;simp only[VY h hn,Qr h hn,TY h];cases h1:Y2 36 n.1
 .rfl
 cases h2:Y2 n.1 39
 .rfl
 rw[Qz h (hn.2 (by unfold isM;rw[h1];exact h2)) ha hb]
theorem xQ{P Q:Int->Prop}{a b:fA}(h:Sim P Q a b)(ha:EvOk a)(hb:EvOk b):∀(t:XT),(∀n∈t.post,PK P Q n)->evT a t=evT b t
 | .l0 n,hn=>Fb h (hn n (by simp[XT.post])) ha hb []| .l1 n x,hn=>by unfold evT;rw[xQ h ha hb x (λm hm=>hn m (by simp[XT.post,hm])),Fb h (hn n (by simp[XT.post])) ha hb]| .l2 n x y,hn=>by unfold evT;rw[xQ h ha hb x (λm hm=>hn m (by simp[XT.post,hm])),xQ h ha hb y (λm hm=>hn m (by simp[XT.post,hm])),Fb h (hn n (by simp[XT.post])) ha hb]| .l3 n x y z,hn=>by unfold evT;rw[xQ h ha hb x (λm hm=>hn m (by simp[XT.post,hm])),xQ h ha hb y (λm hm=>hn m (by simp[XT.post,hm])),xQ h ha hb z (λm hm=>hn m (by simp[XT.post,hm]))]
theorem WL(h1:∀x∈(vX e).2.1,P x)(h2:∀x∈(vX e).2.2,Q x):∀n∈e,PK P Q n:=λn hn=>by
 refine⟨λhk=>h1 _ ?_,λhk=>h2 _ ?_⟩
 .exact(pI _ _).2 (U1.2 ⟨n,J4.2 ⟨hn,by simp[hk,x8]⟩,rfl⟩)
 .exact(pI _ _).2 (U1.2 ⟨n,J4.2 ⟨hn,hk⟩,rfl⟩)
theorem MN(h:Sim P Q a b)(ha:EvOk a)(hb:EvOk b)(h1:∀x∈(vX e).2.1,P x)(h2:∀x∈(vX e).2.2,Q x):uf e a=uf e b:=by
 unfold uf;cases hs:qK e with
 |inl x=>rfl|inr t=>simp only;exact xQ h ha hb t (λn hn=>WL h1 h2 n (by rw[(Iq hs).1];exact hn))
def EX(s:A8)(P Q:Int->Prop)(d:Int):Prop:=∀r∈s.2.2.2.2,r.2.1=d->∀e,e=r.2.2.2.2.2.1\/e=r.2.2.2.2.2.2.1->(∀x∈(vX e).2.1,P x)/\∀x∈(vX e).2.2,Q x
theorem Gx{d t i:Int}(h:i∈(jf s d t).1):∃r,H9 s.2.2.2.2 i=some r/\r∈s.2.2.2.2/\r.2.1=d:=by
 have h:i∈castL (U4 s d t):=h;obtain⟨k,hk,rfl⟩:=U1.1 h;obtain⟨h1,h2⟩:=kF hk;obtain⟨r,hr,hm⟩:=Ou (l:=s.2.2.2.2) (i:=(k:Int)) o5 (by unfold x9;omega);refine⟨r,hr,hm,?_⟩;unfold onR at h2;rw[jQ]at hr;rw[hr]at h2;simp only at h2;cases h3:x8 r.2.1 d<;>rw[h3]at h2
 .cases h2
 .exact bJ.1 h3
theorem Hf{α β ρ:Type}{G H:β->α->β⊕ρ} :∀(l:List α) (b:β),(∀a∈l,∀b,G b a=H b a)->bD G l b=bD H l b
 |[],b,h=>rfl|a::l,b,h=>by
  unfold bD;rw[h a o7];cases H b a with
  |inl b' =>exact Hf l b' (λx hx=>h x (by simp[hx]))|inr r=>rfl
theorem PW(h:Sim P Q a b)(ha:EvOk a)(hb:EvOk b)(hr:∀i∈(jf s d b.1).1,∀r,H9 s.2.2.2.2 i=some r->(∀x∈(vX r.2.2.2.2.2.1).2.1,P x)/\∀x∈(vX r.2.2.2.2.2.1).2.2,Q x)(m:Int):bn s a m d=bn s b m d:=by unfold bn;rw[h.e1,Hf (G:=IB s a m d) (H:=IB s b m d) (jf s d b.1).1 [] (λi hi ap=>?_)];obtain⟨r,h1,h2,h3⟩:=Gx hi;obtain⟨p1,p2⟩:=hr i hi r h1;unfold IB;rw[h1];simp only;rw[MN h ha hb p1 p2]
theorem Su(h:Sim P Q a b)(ha:EvOk a)(hb:EvOk b)(hr:EX s P Q d)(m:Int):bn s a m d=bn s b m d:=
 PW h ha hb (λi hi r hl=>by obtain⟨q,h1,h2,h3⟩:=Gx hi;rw[h1]at hl;cases hl;exact hr r h2 h3 _ (.inl rfl)) m
theorem VQ(h0:(bn s env m d).2.1=0)(h1:(bn s env m d).1≠-1)(h2:(bn s env m d).1≠-2):(bn s env m d).1∈(jf s d env.1).1:=by
 unfold bn at h0 h1 h2 ⊢;cases hf:bD (IB s env m d) (jf s d env.1).1 []with
 |inr e=>rw[hf]at h0;exact absurd h0 (MS (IB s env m d) (λr=>r.2.1≠0) (λb i r h=>XH b i r h) _ _ _ hf)|inl ap=>
  rw[hf]at h1 h2;simp only at h1 h2 ⊢;have hb:=a0K (jf s d env.1).2.1 (jf s d env.1).2.2 ap;have hlo:=a0L (jf s d env.1).2.1 (jf s d env.1).2.2 ap;have hl:=(L_ s d env.1).2;generalize Lh (jf s d env.1).2.1 (jf s d env.1).2.2 ap=q at h1 h2 hb hlo ⊢;by_cases g:q<0
  .rw[Ec g]at h1 h2;simp only[F8]at h1 h2;omega
  rw[yP (IE.1 g)];have hi:q.toNat<(jf s d env.1).1.length:=o5;simp only[E9,zi,kG hi,dH];exact af hi
theorem Jw(h:Sim P Q a b)(ha:EvOk a)(hb:EvOk b)(hr:EX s P Q d)(m:Int):zA s a m d=zA s b m d:=by
 unfold zA;rw[Su h ha hb hr m];cases h0:x8 (bn s b m d).2.1 0
 .simp only[E9]
 cases h1:x8 (bn s b m d).1 (-1)
 case true=>simp only[F8]
 cases h2:x8 (bn s b m d).1 (-2)
 case true=>simp only[F8,E9]
 have hin:=VQ (bJ.1 h0) (λe=>by rw[jX e]at h1;cases h1) (λe=>by rw[jX e]at h2;cases h2);obtain⟨r,r1,r2,r3⟩:=Gx hin;obtain⟨p1,p2⟩:=hr r r2 r3 _ (.inr rfl);rw[r1];simp only;rw[MN h ha hb p1 p2]
def Iw(s:A8)(O:List Int):Prop:=O.Nodup/\(∀d∈O,0<=d/\d<nD s)/\∀(pre:List Int) (d:Int) (suf:List Int),O=pre++d::suf->∀x∈X4 s d,x∈pre
theorem Uh{O pre suf:List Int}{d e:Int}(h:O++[e]=pre++d::suf):(suf=[]/\pre=O/\d=e)\/∃suf',suf=suf' ++[e]/\O=pre++d::suf' :=by
 rcases List.eq_nil_or_concat suf with rfl|⟨suf',z,rfl⟩
 .have h:O++[e]=pre++[d]:=h;obtain⟨h1,h2⟩:=List.append_inj' h rfl;cases h2;exact .inl ⟨rfl,h1.symm,rfl⟩
 .rw[List.concat_eq_append,←ae,←O8]at h;obtain⟨h1,h2⟩:=List.append_inj' h rfl;cases h2;exact .inr ⟨suf',o7,h1⟩
variable {O:List Int}
theorem WU{d:Nat}(h:Iw s O)(hd:d<s.2.2.2.1.length)(ho:okN s O d=true):Iw s (O++[(d:Int)]):=by
 obtain⟨h1,h2⟩:=TA.1 ho;refine⟨?_,λx hx=>?_,λpre e suf he x hx=>?_⟩
 .exact F9.2 ⟨h.1,o7,λa ha b hb hab=>by simp at hb;subst hb;exact h1 (hab▸ha)⟩
 .rcases o8.1 hx with hx|hx
  .exact h.2.1 x hx
  .simp at hx;subst hx;unfold nD x9;omega
 .rcases Uh he with⟨_,rfl,rfl⟩|⟨suf',_,e2⟩
  .cases hq:xh pre x
   .have:x∈JW s pre (d:Int):=J4.2 ⟨hx,by simp[hq]⟩;rw[h2]at this;cases this
   .exact pq.1 hq
  .exact h.2.2 pre e suf' e2 x hx
theorem K_(hx:x∈X4 s d)(hn:x∉jM s x):(jM s x).length<(jM s d).length:=by
 obtain⟨a1,a2,a3,a4⟩:=tq s d;obtain⟨b1,b2,b3,b4⟩:=tq s x;have hxd:=a2 x hx;rcases EP b1 a1 (λy hy=>b4 (λz=>z∈jM s d) (a3 x hxd) (λz hz=>a3 z hz) y hy)with h|h
 .rw[←h]at hxd;exact absurd hxd hn
 .exact h
theorem YY(hac:∀d,0<=d->d<nD s->d∉jM s d)(O:List Int):∀(n:Nat) (d:Int),0<=d->d<nD s->d∉O->(jM s d).length<=n->∃e,0<=e/\e<nD s/\e∉O/\∀x∈X4 s e,x∈O:=by
 intro n;induction n with
 |zero=>intro d h0 h1 h2 hl;refine⟨d,h0,h1,h2,λx hx=>?_⟩;have:=(tq s d).2.1 x hx;rw[J6.1 (Nat.le_zero.1 hl)]at this;cases this|succ n ih=>
  intro d h0 h1 h2 hl;by_cases hq:∀x∈X4 s d,x∈O
  .exact⟨d,h0,h1,h2,hq⟩
  .obtain⟨x,hx⟩:=Classical.not_forall.1 hq;obtain⟨hx,hxO⟩:=Classical.not_imp.1 hx;obtain⟨q0,q1⟩:=Fz hx;have:=K_ hx (hac x q0 q1);exact ih x q0 q1 hxO o5
theorem a2h(hl:O.length<s.2.2.2.1.length):∃d:Int,0<=d/\d<nD s/\d∉O:=by
 refine Y8 λhq=>?_;have h1:∀x∈castL (List.range s.2.2.2.1.length),x∈Gv O:=λx hx=>by obtain⟨j,hj,rfl⟩:=U1.1 hx;have:=O6.1 hj;exact(pI _ _).2 (Y8 λhn=>hq ⟨(j:Int),o5,by unfold nD x9;omega,hn⟩)
 have h2:=Qq O;have h3:(castL (List.range s.2.2.2.1.length)).length=s.2.2.2.1.length:=by rw[Fh,eP]
 rcases EP (PU lC) (Vs O) h1 with h|h
 .rw[←h]at h2;omega
 .omega
theorem NC{s:A8}(hac:∀d,0<=d->d<nD s->d∉jM s d):∀(k:Nat) (O:List Int),Iw s O->O.length<=s.2.2.2.1.length->s.2.2.2.1.length -O.length<=k->∃O',a0s s k O= .inl O' /\Iw s O' /\O'.length=s.2.2.2.1.length
 |0,O,h,hl,hk=>⟨O,rfl,h,o5⟩|k+1,O,h,hl,hk=>by
  unfold a0s;by_cases hq:O.length<s.2.2.2.1.length
  .rw[if_pos hq];cases hn:Yd s O with
   |none=>
    obtain⟨d,d0,d1,d2⟩:=a2h hq;obtain⟨e,e0,e1,e2,e3⟩:=YY hac O _ d d0 d1 d2 (A7 _);have hlt:e.toNat<s.2.2.2.1.length:=by unfold nD x9 at e1;omega
    have:=oZ hn e.toNat hlt;have hok:okN s O e.toNat=true:=TA.2 (by rw[dJ e0];refine⟨e2,dX.2 λx hx=>by simp[pq.2 (e3 x hx)]⟩)
    unfold Ve at this;rw[hok]at this;cases this
   |some d=>obtain⟨n1,n2⟩:=Tu hn;exact NC hac k (O++[(d:Int)]) (WU h n1 n2) dZ dZ
  .rw[if_neg hq];exact⟨O,rfl,h,o5⟩
theorem KF(hs:SmS s)(hac:∀d,0<=d->d<nD s->d∉jM s d):Iw s (jI s).1/\∀d,0<=d->d<nD s->d∈(jI s).1:=by
 have hnd:=hs.nd;obtain⟨O,h1,h2,h3⟩:=NC hac 100 [] ⟨o7,o7,λpre d suf h=>by simp at h⟩ o7 dZ;have e:(jI s).1=O:=by unfold jI;rw[h1]
 rw[e];refine⟨h2,λd d0 d1=>?_⟩;refine Y8 λhn=>?_;have:=Wx (l:=d::O) (n:=s.2.2.2.1.length) (aH.2 ⟨hn,h2.1⟩) (λx hx=>by
  rcases o9.1 hx with rfl|hx
  .exact⟨d0,d1⟩
  .exact h2.2.1 x hx)
 simp at this;omega
theorem LD(h:(jg l).1=0)(hs:l.2.2[i]? =some s):∀d,0<=d->d<nD s->d∉jM s d:=by
 intro d d0 d1 hd;have hp:=(GG h hs).2;unfold OL at hp;cases h1:DY l s with
 |some q=>rw[h1]at hp;exact absurd hp (Ha h1)|none=>
  rw[h1]at hp;simp only at hp;cases h2:dh s.2.2.2.2.length (NK l s)with
  |some q=>
   rw[h2]at hp;obtain⟨j,hj,hq⟩:=jA h2;unfold NK at hq;cases h3:s.2.2.2.2[j]? with
   |none=>rw[h3]at hq;cases hq|some q2=>rw[h3]at hq;exact absurd hp (Bq hq)
  |none=>
   rw[h2]at hp;simp only at hp;have key:Xt s d.toNat=some (9,((200+d.toNat:Nat):Int)):=by unfold Xt;rw[show((jM s d.toNat).any λx=>x8 (d.toNat:Int) x)=true from ?_];rfl;rw[dJ d0];exact lq.2 ⟨d,hd,jX rfl⟩
   cases h3:dh s.2.2.2.1.length (Xt s)with
   |none=>have:=oZ h3 d.toNat (by unfold nD x9 at d1;omega);rw[key]at this;cases this|some q=>
    rw[h3]at hp;obtain⟨j,hj,hq⟩:=jA h3;unfold Xt at hq;cases h4:(jM s (j:Int)).any λx=>x8 (j:Int) x<;>rw[h4]at hq
    .cases hq
    .cases hq;exact absurd (show(9:Int)=0 from hp) aT
theorem XV(h:(jg l).1=0)(hs:H9 l.2.2 k=some s):∀d,0<=d->d<nD (aV l s)->d∉jM (aV l s) d:=by
 rcases wH h hs with⟨_,_,g⟩|⟨_,_,_,g,_⟩
 .rw[g];intro d d0 d1;exact absurd d1 (by show ¬d<(0:Int);omega)
 .exact LD h (jr g).2.2.2
theorem MR{α β ρ:Type}(G:β->α->β⊕ρ):∀(l m:List α) (b:β),bD G (l++m) b=match bD G l b with| .inl b' =>bD G m b'| .inr r=> .inr r
 |[],m,b=>rfl|a::l,m,b=>by
  rw[ae];simp only[bD];cases G b a with
  |inl b' =>exact MR G l m b'|inr r=>rfl
variable {α:Type}
theorem yj{l:List α}(v:α)(h0:0<=d)(h:x≠d):H9 (l.set d.toNat v) x=H9 l x:=by
 unfold H9
 split
 .rw[List.getElem?_set_ne o5]
 .rfl
theorem JU{l:List α}(v:α)(h0:0<=d)(h:d<x9 l):H9 (l.set d.toNat v) d=some v:=by
 unfold H9
 rw[if_pos h0,sD (by unfold x9 at h;omega)]
theorem Ld{s:A8}{env:fA}{m:Int}{need:List Bool}{x:Int} :∀(L:List Int) {B X:DB},(∀d∈L,0<=d)->x∉L->bD (scG s env m need) L B= .inl X->H9 X.1 x=H9 B.1 x/\H9 X.2 x=H9 B.2 x
 |[],B,X,_,_,h=>by cases h;exact⟨rfl,rfl⟩|d::L,B,X,hL,hx,h=>by
  unfold bD at h;cases hg:scG s env m need B d with
  |inr e=>rw[hg]at h;cases h|inl B' =>
   rw[hg]at h;obtain⟨k1,k2⟩:=Ld L (λy hy=>hL y (by simp[hy])) (λhm:x∈L=>hx (I4 _ hm)) h;have hd:x≠d:=λe=>hx (by simp[e]);unfold scG at hg;cases h1:(H9 need d).getD false<;>rw[h1]at hg
   .cases hg;exact⟨k1,k2⟩
   simp only[F8]at hg;cases h2:zA s (CY env B.1) m d with
   |inr e=>rw[h2]at hg;cases hg|inl v=>rw[h2]at hg;cases hg;rw[k1,k2,yj _ (hL d o7) hd,yj _ (hL d o7) hd];exact⟨rfl,rfl⟩
theorem a0J{n:Nat}(L:List Int){B X:DB}(hB:B.1.length=n/\B.2.length=n)(h:bD (scG s env m need) L B= .inl X):X.1.length=n/\X.2.length=n:=by
 refine FI (scG s env m need) (λx=>x.1.length=n/\x.2.length=n) (λb d b' hb hg=>?_) _ _ _ hB h;unfold scG at hg;cases h1:(H9 need d).getD false<;>rw[h1]at hg
 .cases hg;exact hb
 simp only[F8]at hg;cases hd:zA s (CY env b.1) m d with
 |inr e=>rw[hd]at hg;cases hg|inl v=>rw[hd]at hg;cases hg;simp[hb]
theorem CW(h:(jg l).1=0)(hs:l.2.2[i]? =some s)(d:Int):EX s (λx=>x∈X4 s d) (λx=>0<=x/\x<nD (aV l s)) d:=by
 intro r hr hd e he;obtain⟨p1,p2⟩:=Gm h hs hr he;refine⟨λx hx=>?_,p2⟩;obtain⟨q,hq,_⟩:=(Ir h hs hr).2;obtain⟨q0,q1,_⟩:=jr hq;have hin:inD (nD s) d=true:=by rw[←hd];unfold inD;rw[Hl q0];exact Ec q1
 unfold X4;rw[hin];refine(pI _ _).2 (XW.2 ⟨r,hr,hd,?_⟩);obtain⟨x0,x1⟩:=p1 x hx;have hxi:inD (nD s) x=true:=by unfold inD;rw[Hl x0];exact Ec x1
 unfold QN;rcases he with rfl|rfl
 .exact o8.2 (.inl (J4.2 ⟨hx,hxi⟩))
 .exact o8.2 (.inr (J4.2 ⟨hx,hxi⟩))
theorem Wn(l:ay)(s:A8)(h:(aV l s).2.1=-1):aV l (aV l s)=nP:=by unfold aV at h ⊢;rw[h];rfl
theorem GN(h:(jg l).1=0)(hs:H9 l.2.2 k=some s)(d:Int):EX (aV l s) (λx=>x∈X4 (aV l s) d) (λx=>False) d:=by
 rcases wH h hs with⟨_,_,g⟩|⟨g1,g2,g3,g,_⟩
 .rw[g];intro r hr;cases hr
 .intro r hr hd e he;have h2:=CW h (jr g).2.2.2 d r hr hd e he;refine⟨h2.1,λx hx=>?_⟩;have hm:=NT h (jr hs).2.2.2;unfold FP at hm;have hne:x8 s.2.1 (-1)=false:=uk (by rw[su]at g1;omega);rw[hne,g2,g]at hm;simp only[E9]at hm;have hm1:(aV l s).2.1=-1:=by
   cases hq:Y2 (((k.toNat:Nat)):Int) s.2.1<;>rw[hq]at hm
   case true=>cases hm
   cases hq2:x8 (aV l s).2.1 (-1)<;>rw[hq2]at hm
   .cases hm
   .exact bJ.1 hq2
  have:=h2.2 x hx;rw[Wn l s hm1]at this;exact absurd this.2 (by show ¬x<(0:Int);omega)
theorem SV{X:DB}(hE:EvOk env)(ht:Iw s (jI s).1)(hX:scS s env m need= .inl X)(hd:d∈(jI s).1)(hn:(H9 need d).getD false=true)(hr:EX s (λx=>x∈X4 s d) Q d):
  ∃v r,H9 X.1 d=some v/\H9 X.2 d=some r/\zA s (CY env X.1) m d= .inl (v,r):=by
 obtain⟨pre,suf,he⟩:=List.append_of_mem hd;have hlen:=Ja hX;unfold scS at hX;rw[he,MR]at hX;cases hB:bD (scG s env m need) pre (List.replicate s.2.2.2.1.length (0,0,0),List.replicate s.2.2.2.1.length 0)with
 |inr r=>rw[hB]at hX;cases hX|inl B=>
  rw[hB]at hX;simp only at hX;have hBl:=a0J (n:=s.2.2.2.1.length) pre o7 hB;unfold bD at hX;cases hg:scG s env m need B d with
  |inr r=>rw[hg]at hX;cases hX|inl B' =>
   rw[hg]at hX;simp only at hX;obtain⟨d0,d1⟩:=ht.2.1 d hd;have hnd:=ht.1;rw[he]at hnd;obtain⟨n1,n2,n3⟩:=F9.1 hnd;obtain⟨n4,n5⟩:=aH.1 n2;have hpos:∀y∈suf,0<=y:=λy hy=>(ht.2.1 y (by rw[he];simp[hy])).1;unfold scG at hg;rw[hn]at hg;simp only[F8]at hg;cases hv:zA s (CY env B.1) m d with
   |inr e=>rw[hv]at hg;cases hg
   |inl v=>rw[hv]at hg;cases hg;obtain⟨k1,k2⟩:=Ld (x:=d) suf hpos n4 hX;rw[JU _ d0 (by unfold nD at d1;unfold x9 at d1 ⊢;omega)]at k1 k2;refine⟨v.1,v.2,k1,k2,?_⟩;rw[←hv];refine Jw (a:=CY env X.1) (b:=CY env B.1) (P:=λx=>x∈X4 s d) (Q:=Q) ⟨rfl,rfl,rfl,by show X.1.length=B.1.length;omega,λx hx=>?_,rfl,λ_ _=>rfl⟩ (Bl hE _) (Bl hE _) hr m;have hxp:=ht.2.2 pre d suf he x hx;have hxs:x∉suf:=λhy=>n3 x hxp x (by simp[hy]) rfl;have hxd:x≠d:=λhy=>n3 x hxp d o7 hy;have:=(Ld (x:=x) suf hpos hxs hX).1;rw[yj _ d0 hxd]at this;exact this
structure SimE (Q:Int->Prop) (a b:fA):Prop where
 e1:a.1=b.1
 e2:a.2.1=b.2.1
 e3:a.2.2.2.2=b.2.2.2.2
 ml:a.2.2.2.1.length=b.2.2.2.1.length
 m:∀x,Q x->a.2.2.2.1.map (λv=>H9 v x)=b.2.2.2.1.map (λv=>H9 v x)
theorem SimE.at(h:SimE Q a b){D D' :List V3}(hl:D.length=D'.length)(hd:∀x,P x->H9 D x=H9 D' x):Sim P Q (CY a D) (CY b D'):=⟨h.e1,h.e2,h.e3,hl,hd,h.ml,h.m⟩
abbrev ND(w:List Bool)(x:Int):Prop:=(H9 w x).getD false=true
structure DInv (n:Nat) (need:List Bool) (B B' :DB):Prop where
 l1:B.1.length=n/\B.2.length=n
 l2:B'.1.length=n/\B'.2.length=n
 eq:∀x,ND need x->H9 B.1 x=H9 B'.1 x/\H9 B.2 x=H9 B'.2 x
structure MInv (need:List Bool) (b b' :List DB):Prop where
 l:b.length=b'.length
 eq:∀x,ND need x->b.map (λv=>H9 v.1 x)=b'.map (λv=>H9 v.1 x)
theorem a1j(w:List Bool)(x:Int):ND w x↔mk w x=true:=by
 unfold ND mk H9
 split
 .rw[zi]
 .simp
theorem XZ{w:List Bool}(hw:w.length=s.2.2.2.1.length)(h0:0<=d)(h1:d<nD s)(x:Int):mk (OY s w d) x=true↔mk w x=true\/x=d\/x∈jM s d:=by
 unfold OY;rw[Vd _ _ (λy hy=>by have:=RI hy;unfold nD at this;simp only[x9,lT]at this ⊢;omega),Ya h0 (by unfold nD at h1;unfold x9 at h1 ⊢;omega)];cases hq:x8 x d
 .have:x≠d:=λe=>by rw[jX e]at hq;cases hq
  simp[this]
 .rw[bJ]at hq;simp[hq]
theorem XY{m:A8} :∀(L:List Int) {w:List Bool},w.length=m.2.2.2.1.length->(∀x∈L,0<=x/\x<nD m)->∀x,mk (Dn m w L) x=true↔mk w x=true\/∃z∈L,x=z\/x∈jM m z
 |[],w,hw,h,x=>by simp[Dn]|z::L,w,hw,h,x=>by
  obtain⟨z0,z1⟩:=h z o7;rw[show Dn m w (z::L)=Dn m (OY m w z) L from rfl,XY L ((Zc m w z).trans hw) (λy hy=>h y (by simp[hy])) x,XZ hw z0 z1];constructor
  .rintro((h1|h1)|⟨y,hy,h1⟩)
   .exact .inl h1
   .exact .inr ⟨z,o7,h1⟩
   .exact .inr ⟨y,by simp[hy],h1⟩
  .rintro(h1|⟨y,hy,h1⟩)
   .exact .inl (.inl h1)
   .rcases o9.1 hy with rfl|hy
    .exact .inl (.inr h1)
    .exact .inr ⟨y,hy,h1⟩
def Xa(s:A8)(w:List Bool):Prop:=∀d,mk w d=true->∀x∈X4 s d,mk w x=true
structure NI (l:ay) (s:A8) (B:BB):Prop where
 ok:BOk s (aV l s) B
 c1:Xa s B.1
 c2:Xa (aV l s) B.2
 hr:∀e,mk B.1 e=true->EX s (λx=>x∈X4 s e) (λx=>mk B.2 x=true) e
structure Grows (B C:BB):Prop where
 g1:∀x,mk B.1 x=true->mk C.1 x=true
 g2:∀x,mk B.2 x=true->mk C.2 x=true
theorem Grows.refl(B:BB):Grows B B:=⟨λ_ h=>h,λ_ h=>h⟩
theorem Grows.trans{A B C:BB}(h:Grows A B)(k:Grows B C):Grows A C:=⟨λx hx=>k.g1 x (h.g1 x hx),λx hx=>k.g2 x (h.g2 x hx)⟩
theorem a4x{l:ay}{c:jO}{ms:A8}{need:List Bool} :∀(L:List (List V3×Nat)) (b X:List DB),bD (mG l c ms need) L b= .inl X->∃Y,X=b++Y/\Y.length=L.length/\∀(i:Nat) (a:List V3×Nat),L[i]? =some a->∃x,Y[i]? =some x/\scS ms (IG l c a.1) (a.2:Int) need= .inl x
 |[],b,X,h=>by cases h;exact⟨[],o7,rfl,λi a ha=>by simp at ha⟩|a::L,b,X,h=>by
  unfold bD at h;cases hg:mG l c ms need b a with
  |inr e=>rw[hg]at h;cases h|inl b1=>
   rw[hg]at h;simp only at h;obtain⟨Y,e1,e2,e3⟩:=a4x L b1 X h;unfold mG at hg;cases hs:scS ms (IG l c a.1) (a.2:Int) need with
   |inr e=>rw[hs]at hg;cases hg|inl x=>
    rw[hs]at hg;cases hg;refine⟨x::Y,by rw[e1];simp,by simp[e2],λi q hq=>?_⟩;cases i with
    |zero=>simp at hq;subst hq;exact⟨x,rfl,hs⟩|succ i=>exact e3 i q (by simpa using hq)
theorem VJ(h:(Iy l k c false 0).1=0)(hs:H9 l.2.2 k=some s)(d0:0<=d)(d1:d<nD s):(Iy l k c true d).1=0:=by
 unfold Iy at h ⊢;cases h0:x8 (jg l).1 0<;>rw[h0]at h
 .exact absurd (show(1:Int)=0 from h) aT
 rw[hs]at h ⊢;simp only[F8,E9]at h ⊢;rw[yP d0,show Y2 (x9 s.2.2.2.1) d=false from Eb d1];exact h
end Go.GP
namespace Go.GP
open Gt
set_option maxRecDepth 100000
section
variable {en:List iI} {t:Int×Int}
end
end Go.GP
namespace Go.GP
open Gt
set_option maxRecDepth 100000
def PVW(en:List iI)(t:Int×Int)(v:V3):Prop:=v.1=t.1/\v.2.1=t.2/\(v.1=6->inB v.2.2 (bnd t en)=true)
structure TOk (sg:L6) (env:fA):Prop where
 inp:∀i t v,H9 sg.2.2.1 i=some t->H9 env.2.1 i=some v->PVW sg.1 t v
 dfs:∀i t v,H9 sg.2.2.2.1 i=some t->H9 env.2.2.1 i=some v->v.1≠0->PVW sg.1 t v
 mty:∀i t u,H9 sg.2.2.2.2.1 i=some t->H9 env.2.2.2.2.1 i=some u->u=t
 tbs:env.2.2.2.2.2=sg.2.1
 row:∀t∈sg.2.1,∀r∈t.2.2.2,inB r.2.2.2 (bnd t.2.2.1 sg.1)=true
end Go.GP
namespace Go.GP
open Gt
set_option maxRecDepth 100000
section
variable {sg:L6} {env:fA}
end
end Go.GP
namespace Go.GP
open Gt
set_option maxRecDepth 100000
abbrev a4e:Int×Int:=(0,109573)
def onA(s:A8)(T:Int)(i:Nat):Bool:=match s.2.2.2.2[i]? with|some r=>a4l r.2.2.2.2.1 T|none=>false
def a4s(s:A8)(T:Int):List Nat:=onL (onA s T) s.2.2.2.2.length
def rOn(s:A8)(T:Int)(i:Nat):bW:=match s.2.2.2.2[i]? with
 |some r=>(r.1,r.2.1,anc (onA s T) (sG s) i,r.2.2.2.1,a4e,r.2.2.2.2.2.1,r.2.2.2.2.2.2.1,r.2.2.2.2.2.2.2)|none=>([],0,0,0,a4e,[],[],[])
def sOn(T:Int)(s:A8):A8:=(s.1,s.2.1,s.2.2.1,s.2.2.2.1,(a4s s T).map (rOn s T))
end Go.GP
namespace Go.GP
open Gt
set_option maxRecDepth 100000
theorem Jt(on:Nat->Bool)(i:Nat):iR on (i+1)=iR on i+(if on i=true then 1 else 0):=by unfold iR;rw[dV,jY,J8];cases h:on i<;>simp[h]
theorem PX(on:Nat->Bool){i j:Nat}(h:i<=j):iR on i<=iR on j:=by
 induction j with
 |zero=>have:i=0:=o5;subst this;omega|succ j ih=>
  rw[Jt];by_cases e:i=j+1
  .subst e;rw[Jt];omega
  .have:=ih o5;omega
theorem a1T{on:Nat->Bool}{a i:Nat}(h:a<i)(ha:on a=true):iR on a<iR on i:=by have h1:=Jt on a;rw[if_pos ha]at h1;have h2:=PX on (show a+1<=i from h);omega
section
variable {A R R' :Nat->Bool} {par par' :Nat->Int} {n:Nat} (hRA:∀i,i<n->R i=true->A i=true) (hR:∀i,i<n->A i=true->R' (iR A i)=R i) (hp:∀i,i<n->A i=true->par' (iR A i)=anc A par i)
include hRA hR
omit hR in
omit hR in
include hp
end
end Go.GP
namespace Go.GP
open Gt
set_option maxRecDepth 100000
section
variable {s:A8} {T:Int} (h0:0<=T) (h1:T<=109572)
include h0 h1
omit h0 h1 in
omit h0 h1 in
end
end Go.GP
namespace Go.GP
open Gt
set_option maxRecDepth 100000
structure OnOk (s:A8) (T:Int):Prop where
 h0:0<=T
 h1:T<=109572
 t1:Iw s (jI s).1
 f1:∀d,0<=d->d<nD s->d∈(jI s).1
 t2:Iw (sOn T s) (jI (sOn T s)).1
 f2:∀d,0<=d->d<nD s->d∈(jI (sOn T s)).1
 r1:∀d,EX s (λx=>x∈X4 s d) (λ_=>True) d
 r2:∀d,EX (sOn T s) (λx=>x∈X4 (sOn T s) d) (λ_=>True) d
def Jl(s:A8)(k:Nat)(r:bW):Bool:=l7 (x8 r.2.2.1 (-1)) false (l7 (I7 r.2.2.1 0) true (l7 (Y2 k r.2.2.1) true (match H9 s.2.2.2.2 r.2.2.1 with|some q=>G5 (x8 q.2.1 r.2.1)|none=>true)))
structure RuleV (s:A8) (sg:L6) (k:Nat) (r:bW):Prop where
 id:LW r.1=true
 nm:((s.2.2.2.2.take k).any λx=>seq x.1 r.1)=false
 df:∃d,H9 s.2.2.2.1 r.2.1=some d/\Oj r sg d.2=0
 pa:Jl s k r=false
 p0:I7 r.2.2.2.1 0=false
 p9:I7 9 r.2.2.2.1=false
 dv:PY r.2.2.2.2.1=true
 ne:x8 r.2.2.2.2.1.1 r.2.2.2.2.1.2=false
 ct:Y2 8 (LM (s.2.2.2.2.take k) r.2.1)=false
 sr:a0V r.2.2.2.2.2.2.2=true
theorem RuleV.zero{s:A8}{sg:L6}{k:Nat}{r:bW}(h:RuleV s sg k r):EL s sg k r=0:=by obtain⟨d,h1,h2⟩:=h.df;unfold EL;rw[h.id,h.nm,h1];simp only[F8,E9];change l7 (Jl s k r) (9:Int) _=0;rw[h.pa,h.p0,h.p9,h.dv,h.ne,h.ct,h.sr,h2];rfl
theorem a2l{s:A8}{sg:L6}{k:Nat}{r:bW}(h:EL s sg k r=0):RuleV s sg k r:=by
 obtain⟨d,hd,hx⟩:=KY h;unfold EL at h;cases g1:LW r.1<;>rw[g1]at h
 .exact absurd (show(2:Int)=0 from h) aT
 cases g2:(s.2.2.2.2.take k).any λx=>seq x.1 r.1<;>rw[g2]at h
 case true=>exact absurd (show(7:Int)=0 from h) aT
 rw[hd]at h;simp only[F8,E9]at h;change l7 (Jl s k r) (9:Int) _=0 at h;cases b1:Jl s k r<;>rw[b1]at h
 case true=>exact absurd (show(9:Int)=0 from h) aT
 cases b2:I7 r.2.2.2.1 0<;>rw[b2]at h
 case true=>exact absurd (show(3:Int)=0 from h) aT
 cases b3:I7 9 r.2.2.2.1<;>rw[b3]at h
 case true=>exact absurd (show(3:Int)=0 from h) aT
 cases b4:PY r.2.2.2.2.1<;>rw[b4]at h
 case false=>exact absurd (show(3:Int)=0 from h) aT
 cases b5:x8 r.2.2.2.2.1.1 r.2.2.2.2.1.2<;>rw[b5]at h
 case true=>exact absurd (show(3:Int)=0 from h) aT
 cases b6:Y2 8 (LM (s.2.2.2.2.take k) r.2.1)<;>rw[b6]at h
 case true=>exact absurd (show(4:Int)=0 from h) aT
 cases b7:a0V r.2.2.2.2.2.2.2<;>rw[b7]at h
 case false=>exact absurd (show(2:Int)=0 from h) aT
 exact⟨g1,g2,⟨d,hd,hx⟩,b1,b2,b3,b4,b5,b6,b7⟩
variable {α:Type}{β:Type}
def uZ(eq:α->α->Bool)(l:List (α×β))(f:α->Option β):Prop:=∀k,IJ eq l k=(f k).isSome/\∀z,oM eq l k z=(f k).getD z
theorem Nj(eq:α->α->Bool):uZ eq ([]:List (α×β)) (λ_=>none):=λ_=>⟨rfl,λ_=>rfl⟩
theorem Nl{α β:Type}{eq:α->α->Bool}(hE:∀a b,eq a b=true↔a=b)(k:α)(x:β)(k' :α):∀(l:List (α×β)),Ad eq (Cf eq l k x) k' =(l7 (eq k' k) true (Ad eq l k'))/\∀z,Ac eq (Cf eq l k x) k' z=l7 (eq k' k) x (Ac eq l k' z)
 |[]=>by unfold Cf;simp only[Ad,Ac];cases eq k' k<;>exact⟨rfl,λ_=>rfl⟩|p::r=>by
  have ih:=Nl hE k x k' r;unfold Cf;cases hp:eq k p.1
  .simp only[cond_false,Ad,Ac];cases hq:eq k' p.1
   .simp only[cond_false];exact ih
   .simp only[cond_true];cases hk:eq k' k
    .exact⟨rfl,λ_=>rfl⟩
    .exfalso;have h1:=(hE _ _).1 hq;have h2:=(hE _ _).1 hk;rw[←h2,h1]at hp;rw[(hE p.1 p.1).2 rfl]at hp;cases hp
  .have hp' :=(hE _ _).1 hp;subst hp';simp only[cond_true,Ad,Ac];cases eq k' p.1<;>exact⟨rfl,λ_=>rfl⟩
variable {eq:α->α->Bool}{l:List (α×β)}{f:α->Option β}
theorem Wj(hE:∀a b,eq a b=true↔a=b)(h:uZ eq l f)(k:α)(x:β):
  uZ eq (Du eq l k x) (λk' =>l7 (eq k' k) (some x) (f k')):=λk' =>by
 obtain⟨h1,h2⟩:=Nl hE k x k' l;obtain⟨g1,g2⟩:=h k';refine⟨?_,λz=>?_⟩
 .show Ad eq (Cf eq l k x) k' =_;rw[h1,show Ad eq l k' =_ from g1];show _=(l7 (eq k' k) (some x) (f k')).isSome;cases eq k' k<;>rfl
 .show Ac eq (Cf eq l k x) k' z=_;rw[h2 z,show Ac eq l k' z=_ from g2 z];show _=(l7 (eq k' k) (some x) (f k')).getD z;cases eq k' k<;>rfl
theorem uZ.has(h:uZ eq l f)(k:α):IJ eq l k=(f k).isSome:=(h k).1
theorem uZ.get(h:uZ eq l f)(k:α)(z:β):oM eq l k z=(f k).getD z:=(h k).2 z
theorem uZ.congr{f g:α->Option β}(h:uZ eq l f)(e:∀k,f k=g k):uZ eq l g:=λk=>by rw[←e k];exact h k
def qx{α:Type}(p:α->Bool):List α->Nat->Option (α×Int)
 |[],_=>none|a::r,i=>l7 (p a) (some (a,(i:Int))) (qx p r (i+1))
noncomputable def eqB {α:Type} (a b:α):Bool:=@decide (a=b) (Classical.propDecidable _)
variable {a:α}{b:α}
theorem IM :eqB a b=true↔a=b:=by unfold eqB;exact @decide_eq_true_iff _ (Classical.propDecidable _)
theorem PZ(h:a=b):eqB a b=true:=IM.2 h
theorem UI(h:a≠b):eqB a b=false:=by
 cases he:eqB a b
 .rfl
 .exact absurd (IM.1 he) h
theorem XB{c d:β}(h:a=b↔c=d):eqB a b=eqB c d:=by rw[dP,IM,IM];exact h
theorem a0c(a b:List α):eqB (a.map λx=>x) (b.map λx=>x)=eqB a b:=o7
theorem S_{α β:Type} :∀{a:List α} {b:List β} {i:Nat} {p:α×β},(a.zip b)[i]? =some p->a[i]? =some p.1/\b[i]? =some p.2
 |[],_,i,p,h=>by simp at h|_::_,[],i,p,h=>by simp at h|x::a,y::b,0,p,h=>by simp only[aj,aC,D6]at h;subst h;exact⟨rfl,rfl⟩|x::a,y::b,i+1,p,h=>by simp only[aj,List.getElem?_cons_succ]at h ⊢;exact S_ h
noncomputable def eqG {α β:Type} (g:α->β) (_:Unit) (p:α×α):Unit⊕Bool:=l7 (eqB (g p.1) (g p.2)) (.inl ()) (.inr false)
theorem UK{α β:Type}(g:α->β):∀{a b:List α},a.length=b.length->bD (eqG g) (a.zip b) ()=l7 (eqB (a.map g) (b.map g)) (.inl ()) (.inr false)
 |[],[],_=>by rw[PZ rfl];rfl|[],_::_,h=>by cases h|_::_,[],h=>by cases h|x::a,y::b,h=>by
  have ih:=UK g (a:=a) (b:=b) (by simpa using h);simp only[aj,bz];unfold bD;by_cases e:g x=g y
  .rw[show eqG g () (x,y)= .inl ()from by unfold eqG;rw[PZ e];rfl];rw[XB (show(g x::a.map g=g y::b.map g)↔a.map g=b.map g by rw[e];simp)];exact ih
  .rw[show eqG g () (x,y)= .inr false from by unfold eqG;rw[UI e];rfl];rw[UI (λh=>e (J3 h).1)];rfl
theorem a1U(g:α->β)(q:α->α->Bool)(hq:∀x y,q x y=true↔g x=g y){a b:List α}(hl:a.length<=1000000){f:Int->Option (Out Int PUnit Bool)}
  (hin:∀(i:Nat) x y,a[i]? =some x->b[i]? =some y->f (i:Int)=l7 (G5 (q x y)) (some (.rt false)) (some (.nx (D7 .i64 (i:Int) 1)))) (hend:f (a.length:Int)=some (.ex PUnit.unit)):
  (l7 (G5 (x8 (x9 a) (x9 b))) (some false) (l9 (ak f 0) λo=>aN o (λ_=>some true) λr=>some r))=some (eqB (a.map g) (b.map g)):=by
 by_cases hab:a.length=b.length
 .rw[show x8 (x9 a) (x9 b)=true from jX (by simp[x9,hab]),jU,E9];have hz:(a.zip b).length=a.length:=by simp[hab]
  refine JZ (a.zip b) (eqG g) (λ_ i=>i) (λ_=>PUnit.unit) (λ_ _=>True) () o5 trivial (λi p _ hp hi _=>⟨?_,λ_ _=>trivial⟩) (λ_ _=>?_) (λ_=>?_)
  .obtain⟨h1,h2⟩:=S_ hp;rw[hin i _ _ h1 h2];unfold eqG;cases hqp:q p.1 p.2
   .have:¬g p.1=g p.2:=λe=>by rw[(hq _ _).2 e]at hqp;cases hqp
    rw[UI this];rfl
   .have:=(hq _ _).1 hqp;rw[PZ this,jU,E9,BP (show i<=9000000000000000000 by omega)];rfl
  .rw[hz];exact hend
  .rw[UK g hab];cases eqB (a.map g) (b.map g)<;>rfl
 .rw[show x8 (x9 a) (x9 b)=false from uk (by simp only[x9];omega),qj,F8];rw[UI (λe=>hab (by simpa using congrArg List.length e))]
theorem PQ{a b:Bool} :V7 a b=true↔a=true/\b=true:=by simp[V7]
theorem JI{α:Type}{p:α->Bool} :∀{l:List α} {k:Nat} {a:α} {i:Int},qx p l k=some (a,i)->∃j:Nat,l[j]? =some a/\i=((k+j:Nat):Int)/\p a=true/\∀j' b,j' <j->l[j']? =some b->p b=false
 |[],_,_,_,h=>by cases h|b::r,k,a,i,h=>by
  unfold qx at h;cases hp:p b<;>rw[hp]at h
  .simp only[E9]at h;obtain⟨j,h1,h2,h3,h4⟩:=JI h;refine⟨j+1,by simpa using h1,by rw[h2];congr 1;omega,h3,λj' c hj hc=>?_⟩;cases j' with
   |zero=>simp at hc;subst hc;exact hp|succ j' =>exact h4 j' c o5 (by simpa using hc)
  .simp only[F8,D6,cu]at h;obtain⟨rfl,rfl⟩:=h;exact⟨0,rfl,rfl,hp,λj' c hj=>by omega⟩
theorem He{α:Type}{p:α->Bool} :∀{l:List α} {k:Nat},qx p l k=none->∀a∈l,p a=false
 |[],_,_,_,h=>by cases h|b::r,k,h,a,ha=>by
  unfold qx at h;cases hp:p b<;>rw[hp]at h
  .rcases o9.1 ha with rfl|ha
   .exact hp
   .exact He (show qx p r (k+1)=none from h) a ha
  .cases h
theorem JS{xs ys:List α}(h:xs.length+ys.length<=1073741824):dD xs ys=some (xs++ys):=by unfold dD;rw[if_pos h]
def icS(i:X9):Bool:=l7 (x8 i.2.2.1 0) (l7 (x8 i.2.2.2.1 0) (G5 (V7 (x8 i.1.1 i.2.1.1) (V7 (x8 i.1.2.1 i.2.1.2.1) (x8 i.1.2.2 i.2.1.2.2)))) true) (x8 i.2.2.2.1 0)
theorem Ot(i:X9):iM i=some (icS i):=by unfold iM icS;cases x8 i.2.2.1 0<;>cases x8 i.2.2.2.1 0<;>rfl
theorem LZ(i:X9):nR i=some (icS i):=by unfold nR icS;cases x8 i.2.2.1 0<;>cases x8 i.2.2.2.1 0<;>rfl
end Go.GP
namespace Go.GP
open Gt
set_option maxRecDepth 100000
def Ur(oc pr:Int->Int)(seen acc:List Int):Prop:=acc.Nodup/\∀x,x∈acc↔x∈seen/\oc x≠-1/\∀y∈seen,oc y≠-1->pr y<=pr x
variable {a:Int}
theorem a1R{oc pr:Int->Int}{seen acc:List Int}(h:Ur oc pr seen acc)(ha:a∉seen):Ur oc pr (seen++[a]) (bG oc pr acc a):=by
 obtain⟨hn,hi⟩:=h;unfold bG;cases h1:x8 (oc a) (-1)
 case true=>
  have e:=bJ.1 h1;refine⟨hn,λx=>?_⟩;rw[F8,hi];constructor
  .rintro⟨g1,g2,g3⟩;refine⟨G7 _ g1,g2,λy hy hy2=>?_⟩;rcases o8.1 hy with hy|hy
   .exact g3 y hy hy2
   .rw[E5.1 hy]at hy2;exact absurd e hy2
  .rintro⟨g1,g2,g3⟩;rcases o8.1 g1 with g1|g1
   .exact⟨g1,g2,λy hy=>g3 y (G7 _ hy)⟩
   .rw[E5.1 g1]at g2;exact absurd e g2
 have na:oc a≠-1:=JO.1 h1;rw[E9];have hmax:∀b,b∈acc->∀y∈seen,oc y≠-1->pr y<=pr b:=λb hb=>((hi b).1 hb).2.2;cases acc with
 |nil=>
  have hnone:∀y∈seen,oc y=-1:=by
   refine λy hy=>Y8 λhne=>?_;have:∀(L:List Int),(∀z∈L,z∈seen)->(∃z∈L,oc z≠-1)->∃z∈L,oc z≠-1/\∀w∈L,oc w≠-1->pr w<=pr z:=by
    intro L;induction L with
    |nil=>rintro _ ⟨z,hz,_⟩;cases hz
    |cons c L ih=>
     intro hL _;by_cases hc:∃z∈L,oc z≠-1
     .obtain⟨z,hz,z1,z2⟩:=ih (λw hw=>hL w (I4 _ hw)) hc;by_cases hcc:oc c≠-1/\pr z<pr c
      .refine⟨c,o7,hcc.1,λw hw w1=>?_⟩;rcases o9.1 hw with rfl|hw
       .exact bF _
       .have:=z2 w hw w1;omega
      .refine⟨z,I4 _ hz,z1,λw hw w1=>?_⟩;rcases o9.1 hw with rfl|hw
       .have:=not_and.1 hcc w1;omega
       .exact z2 w hw w1
     .rename_i hex;obtain⟨z,hz,hz1⟩:=hex;rcases o9.1 hz with rfl|hz
      .refine⟨z,o7,hz1,λw hw w1=>?_⟩;rcases o9.1 hw with rfl|hw
       .exact bF _
       .exact absurd ⟨w,hw,w1⟩ hc
      .exact absurd ⟨z,hz,hz1⟩ hc
   obtain⟨z,hz,z1,z2⟩:=this seen (λ_ h=>h) ⟨y,hy,hne⟩;have:=(hi z).2 ⟨hz,z1,z2⟩;cases this
  refine⟨o7,λx=>?_⟩;simp only[E5];constructor
  .rintro rfl;refine⟨o7,na,λy hy hy2=>?_⟩;rcases o8.1 hy with hy|hy
   .exact absurd (hnone y hy) hy2
   .rw[E5.1 hy];exact bF _
  .rintro⟨g1,g2,g3⟩;rcases o8.1 g1 with g1|g1
   .exact absurd (hnone x g1) g2
   .exact E5.1 g1
 |cons b r=>
  have hb:=(hi b).1 o7;simp only;cases h2:I7 (pr b) (pr a)
  .rw[E9];have g2:=Df.1 h2;cases h3:x8 (pr a) (pr b)
   .rw[E9];have g3:=JO.1 h3;refine⟨hn,λx=>?_⟩;rw[hi];constructor
    .rintro⟨k1,k2,k3⟩;refine⟨G7 _ k1,k2,λy hy hy2=>?_⟩;rcases o8.1 hy with hy|hy
     .exact k3 y hy hy2
     .rw[E5.1 hy];have:=k3 b hb.1 hb.2.1;omega
    .rintro⟨k1,k2,k3⟩;rcases o8.1 k1 with k1|k1
     .exact⟨k1,k2,λy hy=>k3 y (G7 _ hy)⟩
     .rw[E5.1 k1]at k3;have:=k3 b (G7 _ hb.1) hb.2.1;omega
   .rw[F8];have g3:=bJ.1 h3;have hna:a∉b::r:=λh=>ha ((hi a).1 h).1;refine⟨F9.2 ⟨hn,o7,λx hx y hy hxy=>by simp at hy;subst hy;exact hna (hxy▸hx)⟩,λx=>?_⟩;constructor
    .intro hx;rcases o8.1 hx with hx|hx
     .obtain⟨k1,k2,k3⟩:=(hi x).1 hx;refine⟨G7 _ k1,k2,λy hy hy2=>?_⟩;rcases o8.1 hy with hy|hy
      .exact k3 y hy hy2
      .rw[E5.1 hy,g3];exact k3 b hb.1 hb.2.1
     .rw[E5.1 hx];refine⟨o7,na,λy hy hy2=>?_⟩;rcases o8.1 hy with hy|hy
      .rw[g3];exact hb.2.2 y hy hy2
      .rw[E5.1 hy];exact bF _
    .rintro⟨k1,k2,k3⟩;rcases o8.1 k1 with k1|k1
     .exact G7 _ ((hi x).2 ⟨k1,k2,λy hy=>k3 y (G7 _ hy)⟩)
     .exact W9 _ k1
  .rw[F8];have g2:=Bv.1 h2;refine⟨o7,λx=>?_⟩;simp only[E5];constructor
   .rintro rfl;refine⟨o7,na,λy hy hy2=>?_⟩;rcases o8.1 hy with hy|hy
    .have:=hb.2.2 y hy hy2;omega
    .rw[E5.1 hy];exact bF _
   .rintro⟨k1,k2,k3⟩;rcases o8.1 k1 with k1|k1
    .have h4:=k3 a o7 na;have h5:=hb.2.2 x k1 k2;omega
    .exact E5.1 k1
theorem PR{oc pr:Int->Int} :∀(l seen acc:List Int),Ur oc pr seen acc->(seen++l).Nodup->Ur oc pr (seen++l) (l.foldl (bG oc pr) acc)
 |[],seen,acc,h,_=>by rw[F7];exact h|a::l,seen,acc,h,hn=>by
  have hn' :(seen++[a]++l).Nodup:=by rw[O8];exact hn
  have ha:a∉seen:=λhs=>by have:=(F9.1 hn).2.2 a hs a o7;exact this rfl
  have:=PR l (seen++[a]) (bG oc pr acc a) (a1R h ha) hn';rw[O8]at this;exact this
theorem Qy{oc pr:Int->Int}{l:List Int}(hn:l.Nodup):(pV oc pr l).Nodup/\∀x,x∈pV oc pr l↔x∈l/\oc x≠-1/\∀y∈l,oc y≠-1->pr y<=pr x:=
 PR l [] [] ⟨o7,λx=>by simp⟩ (by simpa using hn)
structure TreeR (nA nB:Nat) (par prio:List Int) (ap:List Bool) (par' prio' :List Int) (ap' :List Bool) (R:Int->Int->Prop):Prop where
 v:xG par prio=0
 v' :xG par' prio' =0
 n:par.length=nA
 n' :par'.length=nB
 rng:∀x y,R x y->(0<=x/\x<(nA:Int))/\0<=y/\y<(nB:Int)
 dom:∀x,0<=x->x<(nA:Int)->∃y,R x y
 cod:∀y,0<=y->y<(nB:Int)->∃x,R x y
 fn:∀x y z,R x y->R x z->y=z
 inj:∀x y z,R x z->R y z->x=y
 pr:∀x y,R x y->prF prio x=prF prio' y
 ap:∀x y,R x y->apF ap x=apF ap' y
 pa:∀(x y:Nat) (p q:Int),R (x:Int) (y:Int)->par[x]? =some p->par'[y]? =some q->(p=-1/\q=-1)\/R p q
def RO(R:Int->Int->Prop)(a b:Int):Prop:=(a=-1/\b=-1)\/R a b
def RX(R:Int->Int->Prop)(a b:Int):Prop:=(a=-1/\b=-1)\/(a=-2/\b=-2)\/R a b
variable {b:Int}
section
variable {n n' :Nat} {par prio par' prio' :List Int} {ap ap' :List Bool} {R:Int->Int->Prop}
theorem IR{par:List Int}{at' x:Int} :x∈castL (mF par at')↔∃i:Nat,x=(i:Int)/\par[i]? =some at' :=by
 unfold castL;constructor
 .intro h;obtain⟨i,hi,rfl⟩:=U1.1 h;exact⟨i,rfl,(IU hi).2⟩
 .rintro⟨i,rfl,h⟩;refine U1.2 ⟨i,?_,rfl⟩;unfold mF onL;refine J4.2 ⟨O6.2 (Z5.1 h).1,?_⟩;unfold a1Y;rw[h];exact jX rfl
theorem JR(par:List Int)(at' :Int):(castL (mF par at')).Nodup:=by unfold castL mF onL;refine List.Pairwise.map _ (λa b h=>?_) ((List.nodup_range (n:=par.length)).filter _);omega
theorem TreeR.kid(T:TreeR n n' par prio ap par' prio' ap' R){a b x y:Int}(hab:RO R a b)(hxy:R x y):x∈castL (mF par a)↔y∈castL (mF par' b):=by
 obtain⟨⟨x0,x1⟩,y0,y1⟩:=T.rng x y hxy;obtain⟨i,rfl⟩:∃i:Nat,x=(i:Int):=⟨x.toNat,o5⟩;obtain⟨j,rfl⟩:∃j:Nat,y=(j:Int):=⟨y.toNat,o5⟩;have hi:par[i]? =some (par[i]'(by rw[T.n];omega)):=kG _;have hj:par'[j]? =some (par'[j]'(by rw[T.n'];omega)):=kG _;have hp:=T.pa i j _ _ hxy hi hj;rw[IR,IR];constructor
 .rintro⟨k,hk,h⟩;have ek:k=i:=o5;subst ek;rw[hi]at h;have h:=gJ h;refine⟨j,rfl,?_⟩;rw[hj];congr 1;rw[h]at hp;rcases hp with⟨p1,p2⟩|hp<;>rcases hab with⟨q1,q2⟩|hab
  .rw[p2,q2]
  .have:=(T.rng _ _ hab).1.1;omega
  .have:=(T.rng _ _ hp).1.1;omega
  .exact T.fn _ _ _ hp hab
 .rintro⟨k,hk,h⟩;have ek:k=j:=o5;subst ek;rw[hj]at h;have h:=gJ h;refine⟨i,rfl,?_⟩;rw[hi];congr 1;rw[h]at hp;rcases hp with⟨p1,p2⟩|hp<;>rcases hab with⟨q1,q2⟩|hab
  .rw[p1,q1]
  .have:=(T.rng _ _ hab).2.1;omega
  .have:=(T.rng _ _ hp).2.1;omega
  .exact T.inj _ _ _ hp hab
theorem RX.neg(T:TreeR n n' par prio ap par' prio' ap' R)(h:RX R a b):a=-1↔b=-1:=by
 rcases h with⟨h1,h2⟩|⟨h1,h2⟩|h
 .omega
 .omega
 .have:=T.rng _ _ h;omega
theorem TreeR.ch(T:TreeR n n' par prio ap par' prio' ap' R){oc oc' :Int->Int}(hab:RO R a b)(ho:∀x y,R x y->x∈castL (mF par a)->RX R (oc x) (oc' y)):
  RX R (chF oc (prF prio) (castL (mF par a))) (chF oc' (prF prio') (castL (mF par' b))):=by
 obtain⟨n1,m1⟩:=Qy (oc:=oc) (pr:=prF prio) (JR par a);obtain⟨n2,m2⟩:=Qy (oc:=oc') (pr:=prF prio') (JR par' b);have rg:∀x,x∈castL (mF par a)->∃y,R x y:=λx hx=>by obtain⟨i,rfl,h⟩:=IR.1 hx;have:=(Z5.1 h).1;rw[T.n]at this;exact T.dom _ o5 o5
 have rg' :∀y,y∈castL (mF par' b)->∃x,R x y:=λy hy=>by obtain⟨i,rfl,h⟩:=IR.1 hy;have:=(Z5.1 h).1;rw[T.n']at this;exact T.cod _ o5 o5
 have key:∀x y,R x y->(x∈pV oc (prF prio) (castL (mF par a))↔y∈pV oc' (prF prio') (castL (mF par' b))):=λx y hxy=>by
  rw[m1,m2];have hk:=T.kid hab hxy;constructor
  .rintro⟨g1,g2,g3⟩;have gy:=hk.1 g1;refine⟨gy,λh=>g2 (((ho x y hxy g1).neg T).2 h),λz hz hz2=>?_⟩;obtain⟨w,hw⟩:=rg' z hz;have gw:=(T.kid hab hw).2 hz;have:=g3 w gw (λh=>hz2 (((ho w z hw gw).neg T).1 h));rw[←T.pr w z hw,←T.pr x y hxy];exact this
  .rintro⟨g1,g2,g3⟩;have gx:=hk.2 g1;refine⟨gx,λh=>g2 (((ho x y hxy gx).neg T).1 h),λw hw hw2=>?_⟩;obtain⟨z,hz⟩:=rg w hw;have:=g3 z ((T.kid hab hz).1 hw) (λh=>hw2 (((ho w z hz hw).neg T).2 h));rw[T.pr w z hz,T.pr x y hxy];exact this
 have sub1:∀x,x∈pV oc (prF prio) (castL (mF par a))->∃y,R x y/\y∈pV oc' (prF prio') (castL (mF par' b)):=λx hx=>by obtain⟨y,hy⟩:=rg x ((m1 x).1 hx).1;exact⟨y,hy,(key x y hy).1 hx⟩
 have sub2:∀y,y∈pV oc' (prF prio') (castL (mF par' b))->∃x,R x y/\x∈pV oc (prF prio) (castL (mF par a)):=λy hy=>by obtain⟨x,hx⟩:=rg' y ((m2 y).1 hy).1;exact⟨x,hx,(key x y hx).2 hy⟩
 have hin:∀x,x∈pV oc (prF prio) (castL (mF par a))->x∈castL (mF par a):=λx hx=>((m1 x).1 hx).1;unfold chF;revert n1 n2 sub1 sub2 hin;generalize pV oc (prF prio) (castL (mF par a))=B;generalize pV oc' (prF prio') (castL (mF par' b))=B';intro n1 n2 sub1 sub2 hin;match B,B' with
 |[],[]=>exact .inl ⟨rfl,rfl⟩|[],y::_=>obtain⟨x,_,hx⟩:=sub2 y o7;cases hx
 |x::_,[]=>obtain⟨y,_,hy⟩:=sub1 x o7;cases hy
 |[x],[y]=>obtain⟨z,hz,hz2⟩:=sub1 x o7;have:=E5.1 hz2;subst this;exact ho x z hz (hin x o7)
 |[x],y::z::r=>obtain⟨w,hw,hw2⟩:=sub2 y o7;obtain⟨u,hu,hu2⟩:=sub2 z o7;have e1:=E5.1 hw2;have e2:=E5.1 hu2;subst e1;subst e2;have e3:=T.fn _ _ _ hw hu;rw[e3]at n2;simp at n2
 |x::z::r,[y]=>obtain⟨w,hw,hw2⟩:=sub1 x o7;obtain⟨u,hu,hu2⟩:=sub1 z o7;have e1:=E5.1 hw2;have e2:=E5.1 hu2;subst e1;subst e2;have e3:=T.inj _ _ _ hw hu;rw[e3]at n1;simp at n1
 |x::z::r,y::w::r' =>exact .inr (.inl ⟨rfl,rfl⟩)
theorem TreeR.oc(T:TreeR n n' par prio ap par' prio' ap' R):∀(k:Nat) (x y:Int),(n:Int) -x<=k->R x y->RX R (OC par prio ap x) (OC par' prio' ap' y):=by
 intro k;induction k with
 |zero=>intro x y hk h;have:=T.rng x y h;omega|succ k ih=>
  intro x y hk h;obtain⟨⟨x0,x1⟩,y0,y1⟩:=T.rng x y h;rw[a1c par prio ap T.v o5 (by rw[T.n];exact x1),a1c par' prio' ap' T.v' o5 (by rw[T.n'];exact y1)];have hc:RX R (chS par prio ap x) (chS par' prio' ap' y):=T.ch (.inr h) λu w hu hm=>ih u w (by have:=Td par prio T.v hm;omega) hu;have hneg:=hc.neg T;cases h1:x8 (chS par prio ap x) (-1)
  .have:x8 (chS par' prio' ap' y) (-1)=false:=uk λe=>(JO.1 h1) (hneg.2 e);rw[this,E9,E9];exact hc
  .have:x8 (chS par' prio' ap' y) (-1)=true:=jX (hneg.1 (bJ.1 h1));rw[this,F8,F8,T.ap x y h];cases apF ap' y
   .exact .inl ⟨rfl,rfl⟩
   .exact .inr (.inr h)
theorem TreeR.sel(T:TreeR n n' par prio ap par' prio' ap' R)(ha:ap.length=n)(ha' :ap'.length=n'):RX R (Lh par prio ap) (Lh par' prio' ap'):=by unfold Lh;rw[jX T.v,jX T.v',jX (show x9 ap=x9 par by unfold x9;rw[ha,T.n]),jX (show x9 ap' =x9 par' by unfold x9;rw[ha',T.n'])];rw[F8,F8,F8,F8];exact T.ch (.inl ⟨rfl,rfl⟩) λx y h _=>T.oc ((n:Int) -x).toNat x y o5 h
end
end Go.GP
namespace Go.GP
open Gt
set_option maxRecDepth 100000
def VR(s:A8):Prop:=∃sg,∀(j:Nat) (r:bW),s.2.2.2.2[j]? =some r->RuleV s sg j r
variable {i:Nat}{s:A8}{j:Nat}
theorem VR.uniq(h:VR s){r q:bW}(hr:s.2.2.2.2[i]? =some r)(hq:s.2.2.2.2[j]? =some q)(e:r.1=q.1):i=j:=by
 obtain⟨sg,h⟩:=h;have key:∀(a b:Nat) (x y:bW),s.2.2.2.2[a]? =some x->s.2.2.2.2[b]? =some y->x.1=y.1->¬a<b:=λa b x y hx hy he hlt=>by have:=kN.1 (h b y hy).nm x (qy.2 ⟨a,by have:=(Z5.1 hx).1;have:=(Z5.1 hy).1;omega,(Z5.1 hx).2⟩);exact this (Pg.2 he)
 have h1:=key i j r q hr hq e;have h2:=key j i q r hq hr e.symm;omega
variable {r:bW}
theorem VR.par(h:VR s)(hr:s.2.2.2.2[i]? =some r):sG s i=-1\/∃(p:Nat) (q:bW),sG s i=(p:Int)/\p<i/\s.2.2.2.2[p]? =some q/\q.2.1=r.2.1:=by
 obtain⟨sg,h⟩:=h;have hb:=(h i r hr).pa;have e:sG s i=r.2.2.1:=by unfold sG;rw[hr]
 unfold Jl at hb;rw[←e]at hb;generalize sG s i=z at*;cases h1:x8 z (-1)<;>rw[h1]at hb
 .rw[E9]at hb;cases h2:I7 z 0<;>rw[h2]at hb
  case true=>cases hb
  rw[E9]at hb;cases h3:Y2 (i:Int) z<;>rw[h3]at hb
  case true=>cases hb
  rw[E9]at hb;have g2:=Df.1 h2;have g3:=Dc.1 h3;right;obtain⟨p,rfl⟩:∃p:Nat,z=(p:Int):=⟨z.toNat,o5⟩;rw[jQ]at hb;cases hq:s.2.2.2.2[p]? with
  |none=>rw[hq]at hb;cases hb|some q=>
   rw[hq]at hb;simp only at hb;refine⟨p,q,rfl,o5,hq,?_⟩;cases g:x8 q.2.1 r.2.1<;>rw[g]at hb
   .cases hb
   .exact bJ.1 g
 .exact .inl (bJ.1 h1)
def PaR(s t:A8)(p p' :Int):Prop:=(p=-1/\p' =-1)\/∃(i j:Nat) (r q:bW),p=(i:Int)/\p' =(j:Int)/\s.2.2.2.2[i]? =some r/\t.2.2.2.2[j]? =some q/\r.1=q.1
structure EqR (s t:A8) (r q:bW):Prop where
 nm:r.1=q.1
 df:r.2.1=q.2.1
 rest:r.2.2.2=q.2.2.2
 pa:PaR s t r.2.2.1 q.2.2.1
structure SameR (s t:A8) (d:Int):Prop where
 fwd:∀(i:Nat) (r:bW),s.2.2.2.2[i]? =some r->r.2.1=d->∃(j:Nat) (q:bW),t.2.2.2.2[j]? =some q/\EqR s t r q
 bwd:∀(j:Nat) (q:bW),t.2.2.2.2[j]? =some q->q.2.1=d->∃(i:Nat) (r:bW),s.2.2.2.2[i]? =some r/\EqR s t r q
def Rn(s t:A8)(d:Int)(i j:Nat):Prop:=∃r q,s.2.2.2.2[i]? =some r/\t.2.2.2.2[j]? =some q/\r.1=q.1/\r.2.1=d/\q.2.1=d
section
variable {s t:A8} {d:Int} (hs:VR s) (ht:VR t) (hR:SameR s t d)
include hs ht hR
omit hs in
theorem QT{r q:bW}(h:Rn s t d i j)(hr:s.2.2.2.2[i]? =some r)(hq:t.2.2.2.2[j]? =some q):EqR s t r q:=by obtain⟨r',q',h1,h2,h3,h4,h5⟩:=h;rw[hr]at h1;cases h1;rw[hq]at h2;cases h2;obtain⟨j',q'',g1,g2⟩:=hR.fwd i _ hr h4;have:j' =j:=ht.uniq g1 hq (g2.nm.symm.trans h3);subst this;rw[hq]at g1;cases g1;exact g2
omit hs in
theorem QU(h:Rn s t d i j)(T:Int):onR s d T i=onR t d T j:=by obtain⟨r,q,h1,h2,h3,h4,h5⟩:=id h;have e:=QT ht hR h h1 h2;unfold onR;rw[h1,h2];simp only;rw[jX h4,jX h5,e.rest]
def RP' (s t:A8) (d T:Int) (x y:Int):Prop:=∃i j,Rn s t d i j/\onR s d T i=true/\x=(iR (onR s d T) i:Int)/\y=(iR (onR t d T) j:Int)
theorem W_(T:Int):∀i j,Rn s t d i j->RO (RP' s t d T) (anc (onR s d T) (sG s) i) (anc (onR t d T) (sG t) j):=by
 intro i;induction i using Nat.strongRecOn with
 |ind i ih=>
  intro j h;obtain⟨r,q,h1,h2,h3,h4,h5⟩:=id h;have e:=QT ht hR h h1 h2;have ep:sG s i=r.2.2.1:=by unfold sG;rw[h1]
  have ep' :sG t j=q.2.2.1:=by unfold sG;rw[h2]
  have hpa:=e.pa;rw[←ep,←ep']at hpa;unfold anc;rcases hpa with⟨p1,p2⟩|⟨i',j',r',q',p1,p2,p3,p4,p5⟩
  .rw[if_neg o5,if_neg o5];exact .inl ⟨rfl,rfl⟩
  .rcases hs.par h1 with g|⟨a,ra,a1,a2,a3,a4⟩
   .omega
   rcases ht.par h2 with g|⟨b,rb,b1,b2,b3,b4⟩
   .omega
   have ea:a=i' :=o5;have eb:b=j' :=o5;subst ea;subst eb;rw[p3]at a3;cases a3;rw[p4]at b3;cases b3;have hn:Rn s t d a b:=⟨r',q',p3,p4,p5,a4.trans h4,b4.trans h5⟩;rw[if_pos o5,if_pos o5,a1,b1,Y5,Y5,OD,OD,←QU ht hR hn T];cases ho:onR s d T a
   .rw[if_neg o7,if_neg o7];exact ih a a2 b hn
   .rw[if_pos rfl,if_pos rfl];exact .inr ⟨a,b,hn,ho,rfl,rfl⟩
end
theorem UF{s:A8}(h:VR s)(d:Int):∀n,n<=s.2.2.2.2.length->LM (s.2.2.2.2.take n) d<=8
 |0,_=>by simp[LM]|n+1,hn=>by
  have ih:=UF h d n o5;have hlt:n<s.2.2.2.2.length:=o5;have hr:s.2.2.2.2[n]? =some s.2.2.2.2[n]:=kG hlt;obtain⟨sg,h⟩:=h;have hc:=(h n _ hr).ct;rw[gV hlt];unfold LM at ih hc ⊢;rw[oC];rw[Dc]at hc;by_cases e:s.2.2.2.2[n].2.1=d
  .rw[e]at hc;have h1:List.countP (λ(o:bW)=>x8 o.2.1 d) [s.2.2.2.2[n]]<=1:=ut;omega
  .have h1:List.countP (λ(o:bW)=>x8 o.2.1 d) [s.2.2.2.2[n]]=0:=by
    rw[List.countP_eq_zero];intro x hx;rw[E5.1 hx,uk e];simp
   omega
theorem Yl(s:A8)(d T:Int):∀n,n<=s.2.2.2.2.length->(onL (onR s d T) n).length<=LM (s.2.2.2.2.take n) d
 |0,_=>by simp[onL,LM]|n+1,hn=>by
  have ih:=Yl s d T n o5;have hlt:n<s.2.2.2.2.length:=o5;have hr:s.2.2.2.2[n]? =some s.2.2.2.2[n]:=kG hlt;rw[QE,J8,gV hlt];unfold LM at ih ⊢;rw[oC];cases ho:onR s d T n
  .simp only[cond_false,dR];omega
  .have hd:x8 s.2.2.2.2[n].2.1 d=true:=by
    unfold onR at ho;rw[hr]at ho;simp only at ho;cases g:x8 s.2.2.2.2[n].2.1 d
    .rw[g]at ho;cases ho
    .rfl
   have h1:List.countP (λ(o:bW)=>x8 o.2.1 d) [s.2.2.2.2[n]]=1:=by simp[hd]
   rw[h1];show _+1<=_+1;omega
theorem a1Q(on:Nat->Bool)(par:Nat->Int):∀i,-1<=anc on par i/\anc on par i<(iR on i:Int)\/anc on par i=-1:=by
 intro i;induction i using Nat.strongRecOn with
 |ind i ih=>
  unfold anc;by_cases h:0<=par i/\par i<(i:Int)
  .rw[if_pos h,OD];have hlt:(par i).toNat<i:=o5;cases ho:on (par i).toNat
   .rw[if_neg o7];rcases ih _ hlt with g|g
    .have:=PX on (Nat.le_of_lt hlt);exact .inl ⟨g.1,o5⟩
    .exact .inr g
   .rw[if_pos rfl];have:=a1T hlt ho;exact .inl ⟨o5,o5⟩
  .rw[if_neg h];exact .inr rfl
theorem Lu(h:VR s)(d T:Int):xG (jf s d T).2.1 (jf s d T).2.2=0:=by
 have hlen:(U4 s d T).length<=8:=by have h1:=Yl s d T s.2.2.2.2.length (A7 _);have h2:=UF h d s.2.2.2.2.length (A7 _);unfold U4;omega
 show xG ((U4 s d T).map (anc (onR s d T) (sG s))) ((U4 s d T).map (Ai s))=0;unfold xG;have l1:x9 ((U4 s d T).map (anc (onR s d T) (sG s)))=((U4 s d T).length:Int):=by unfold x9;rw[I9]
 have l2:x9 ((U4 s d T).map (Ai s))=((U4 s d T).length:Int):=by unfold x9;rw[I9]
 rw[l1,l2,jX rfl,jU,E9,yP o5,E9];have:dh ((U4 s d T).map (anc (onR s d T) (sG s))).length (NR ((U4 s d T).map (anc (onR s d T) (sG s))) ((U4 s d T).map (Ai s)))=none:=by
  unfold dh;rw[fD];intro k hk;have hk:k<(U4 s d T).length:=by have:=O6.1 hk;rwa[I9]at this
  have e:=kG hk;unfold NR;rw[O9,O9,e];simp only[bZ];obtain⟨i1,i2⟩:=kF (af hk);generalize hi:(U4 s d T)[k]=i at*;have hcnt:iR (onR s d T) i=k:=Nr (TC _ _) (OE _ i1 i2) e;have hr:s.2.2.2.2[i]? =some s.2.2.2.2[i]:=kG i1;obtain⟨sg,h⟩:=h;have hv:=h i _ hr;have hpr:Ai s i=s.2.2.2.2[i].2.2.2.1:=by unfold Ai;rw[hr]
  have p0:=hv.p0;have p9:=hv.p9;rw[←hpr]at p0 p9;have ha:=a1Q (onR s d T) (sG s) i;rw[hcnt]at ha;rw[yP (show -1<=anc (onR s d T) (sG s) i by omega),Eb (show anc (onR s d T) (sG s) i<(k:Int) by omega),p0,p9];rfl
 rw[this]
end Go.GP
namespace Go.GP
open Gt
set_option maxRecDepth 100000
def gOk(s:A8)(env:fA)(i:Nat):Bool:=match s.2.2.2.2[i]? with|some r=>l7 (x8 (x9 r.2.2.2.2.2.1) 0) true (x8 (uf r.2.2.2.2.2.1 env).2 0)|none=>true
def gAp(s:A8)(env:fA)(i:Nat):Bool:=match s.2.2.2.2[i]? with|some r=>l7 (x8 (x9 r.2.2.2.2.2.1) 0) true (x8 (uf r.2.2.2.2.2.1 env).1.2.2 1)|none=>true
theorem DZ(s:A8)(env:fA)(m d:Int):∀(L:List Nat) (ap:List Bool),(∀i∈L,i<s.2.2.2.2.length)->
  ((∀i∈L,gOk s env i=true)/\bD (IB s env m d) (castL L) ap= .inl (ap++L.map (gAp s env)))\/((∃i∈L,gOk s env i=false)/\∃e:Int×E4,bD (IB s env m d) (castL L) ap= .inr e/\e.2.1≠0)
 |[],ap,_=> .inl ⟨λi hi=>by(cases hi),by simp[castL,bD]⟩|i::L,ap,h=>by
  have hr:s.2.2.2.2[i]? =some (s.2.2.2.2[i]'(h i o7)):=kG _;have hc:castL (i::L)=(i:Int)::castL L:=rfl;rw[hc];unfold bD;have hg:IB s env m d ap (i:Int)=l7 (gOk s env i) (.inl (ap++[gAp s env i])) (.inr (0,(uf (s.2.2.2.2[i]'(h i o7)).2.2.2.2.2.1 env).2,m,d,(i:Int))):=by
   unfold IB gOk gAp;rw[jQ,hr];simp only;cases x8 (x9 (s.2.2.2.2[i]'(h i o7)).2.2.2.2.2.1) 0
   .cases x8 (uf (s.2.2.2.2[i]'(h i o7)).2.2.2.2.2.1 env).2 0<;>rfl
   .rfl
  rw[hg];cases ho:gOk s env i
  .refine .inr ⟨⟨i,o7,ho⟩,_,rfl,?_⟩;unfold gOk at ho;rw[hr]at ho;simp only at ho;cases h1:x8 (x9 (s.2.2.2.2[i]'(h i o7)).2.2.2.2.2.1) 0<;>rw[h1]at ho
   .exact JO.1 ho
   .cases ho
  .simp only[F8];rcases DZ s env m d L (ap++[gAp s env i]) (λj hj=>h j (by simp[hj]))with⟨g1,g2⟩|⟨⟨j,g1,g2⟩,g3⟩
   .refine .inl ⟨λj hj=>?_,by rw[g2];simp⟩;rcases o9.1 hj with rfl|hj
    .exact ho
    .exact g1 j hj
   .exact .inr ⟨⟨j,by simp[g1],g2⟩,g3⟩
variable {i:Nat}{T:Int}
section
variable {s t:A8} {d:Int} (hs:VR s) (ht:VR t) (hR:SameR s t d)
include ht hR
theorem a2k{i j:Nat}(h:Rn s t d i j)(env:fA):gOk s env i=gOk t env j/\gAp s env i=gAp t env j:=by obtain⟨r,q,h1,h2,_⟩:=id h;have e:=QT ht hR h h1 h2;unfold gOk gAp;rw[h1,h2];simp only;rw[e.rest];exact⟨rfl,rfl⟩
theorem Zf(hi:i∈U4 s d T):∃j,Rn s t d i j/\j∈U4 t d T:=by
 obtain⟨i1,i2⟩:=kF hi;have hr:s.2.2.2.2[i]? =some s.2.2.2.2[i]:=kG i1;have hd:s.2.2.2.2[i].2.1=d:=by
  have ho:=i2;unfold onR at ho;rw[hr]at ho;simp only at ho;cases g:x8 s.2.2.2.2[i].2.1 d
  .rw[g]at ho;cases ho
  .exact bJ.1 g
 obtain⟨j,q,g1,g2⟩:=hR.fwd i _ hr hd;have hn:Rn s t d i j:=⟨_,q,hr,g1,g2.nm,hd,g2.df.symm.trans hd⟩;refine⟨j,hn,?_⟩;unfold U4 onL;refine J4.2 ⟨O6.2 (Z5.1 g1).1,?_⟩;rw[←QU ht hR hn T];exact i2
include hs
theorem Ze{j:Nat}(hj:j∈U4 t d T):∃i,Rn s t d i j/\i∈U4 s d T:=by
 obtain⟨i1,i2⟩:=kF hj;have hr:t.2.2.2.2[j]? =some t.2.2.2.2[j]:=kG i1;have hd:t.2.2.2.2[j].2.1=d:=by
  have ho:=i2;unfold onR at ho;rw[hr]at ho;simp only at ho;cases g:x8 t.2.2.2.2[j].2.1 d
  .rw[g]at ho;cases ho
  .exact bJ.1 g
 obtain⟨i,q,g1,g2⟩:=hR.bwd j _ hr hd;have hn:Rn s t d i j:=⟨q,_,g1,hr,g2.nm,g2.df.trans hd,hd⟩;refine⟨i,hn,?_⟩;unfold U4 onL;refine J4.2 ⟨O6.2 (Z5.1 g1).1,?_⟩;rw[QU ht hR hn T];exact i2
theorem uI{s:A8}{d T:Int}(h:i∈U4 s d T):(U4 s d T)[iR (onR s d T) i]? =some i:=by obtain⟨i1,i2⟩:=kF h;exact OE _ i1 i2
theorem M_(T:Int)(env:fA):TreeR (U4 s d T).length (U4 t d T).length (jf s d T).2.1 (jf s d T).2.2 ((U4 s d T).map (gAp s env)) (jf t d T).2.1 (jf t d T).2.2 ((U4 t d T).map (gAp t env)) (RP' s t d T):=by
 have mem:∀{i j:Nat},Rn s t d i j->onR s d T i=true->i∈U4 s d T/\j∈U4 t d T:=λ{i j} h ho=>by obtain⟨r,q,h1,h2,_⟩:=id h;unfold U4 onL;exact⟨J4.2 ⟨O6.2 (Z5.1 h1).1,ho⟩,J4.2 ⟨O6.2 (Z5.1 h2).1,by rw[←QU ht hR h T];exact ho⟩⟩
 have at1:∀{s:A8} {i:Nat},i∈U4 s d T->iR (onR s d T) i<(U4 s d T).length:=λ{s i} h=>by have:=uI hs ht hR h;exact(Z5.1 this).1
 have eqi:∀{s:A8} {i j:Nat},i∈U4 s d T->j∈U4 s d T->iR (onR s d T) i=iR (onR s d T) j->i=j:=λ{s i j} hi hj e=>by have h1:=uI hs ht hR hi;have h2:=uI hs ht hR hj;rw[e,h2]at h1;exact(gJ h1).symm
 have posn:∀{s:A8} (x:Nat),x<(U4 s d T).length->∃i,i∈U4 s d T/\iR (onR s d T) i=x:=λ{s} x hx=>by have e:=kG hx;obtain⟨i1,i2⟩:=kF (af hx);exact⟨_,af hx,Nr (TC _ _) (OE _ i1 i2) e⟩
 have uniqL:∀{i j j' :Nat},Rn s t d i j->Rn s t d i j' ->j=j' :=λ{i j j'} h h' =>by obtain⟨r,q,h1,h2,h3,_⟩:=h;obtain⟨r',q',g1,g2,g3,_⟩:=h';rw[h1]at g1;cases g1;exact ht.uniq h2 g2 (h3.symm.trans g3)
 have uniqR:∀{i i' j:Nat},Rn s t d i j->Rn s t d i' j->i=i' :=λ{i i' j} h h' =>by obtain⟨r,q,h1,h2,h3,_⟩:=h;obtain⟨r',q',g1,g2,g3,_⟩:=h';rw[h2]at g2;cases g2;exact hs.uniq h1 g1 (h3.trans g3.symm)
 refine⟨Lu hs d T,Lu ht d T,?_,?_,?_,?_,?_,?_,?_,?_,?_,?_⟩
 .show((U4 s d T).map _).length=_;rw[I9]
 .show((U4 t d T).map _).length=_;rw[I9]
 .rintro x y ⟨i,j,h,ho,rfl,rfl⟩;obtain⟨m1,m2⟩:=mem h ho;have:=at1 m1;have:=at1 m2;omega
 .intro x h0 h1;obtain⟨a,rfl⟩:∃a:Nat,x=(a:Int):=⟨x.toNat,o5⟩;obtain⟨i,hi,rfl⟩:=posn (s:=s) a o5;obtain⟨j,hj,_⟩:=Zf ht hR hi;exact⟨_,i,j,hj,(kF hi).2,rfl,rfl⟩
 .intro y h0 h1;obtain⟨a,rfl⟩:∃a:Nat,y=(a:Int):=⟨y.toNat,o5⟩;obtain⟨j,hj,rfl⟩:=posn (s:=t) a o5;obtain⟨i,hi,him⟩:=Ze hs ht hR hj;exact⟨_,i,j,hi,(kF him).2,rfl,rfl⟩
 .rintro x y z ⟨i,j,h,ho,rfl,rfl⟩ ⟨i',j',h',ho',e,rfl⟩;have ei:=eqi (mem h ho).1 (mem h' ho').1 o5;subst ei;rw[uniqL h h']
 .rintro x y z ⟨i,j,h,ho,rfl,rfl⟩ ⟨i',j',h',ho',rfl,e⟩;have ej:=eqi (mem h ho).2 (mem h' ho').2 o5;subst ej;rw[uniqR h h']
 .rintro x y ⟨i,j,h,ho,rfl,rfl⟩;obtain⟨m1,m2⟩:=mem h ho;have p1:=uI hs ht hR m1;have p2:=uI hs ht hR m2;show((U4 s d T).map (Ai s)).getD ((iR (onR s d T) i:Nat):Int).toNat 0=((U4 t d T).map (Ai t)).getD ((iR (onR t d T) j:Nat):Int).toNat 0;rw[Y5,Y5,zi,zi,O9,O9,p1,p2];obtain⟨r,q,h1,h2,_⟩:=id h;have e:=QT ht hR h h1 h2;show Ai s i=Ai t j;unfold Ai;rw[h1,h2];simp only;rw[e.rest]
 .rintro x y ⟨i,j,h,ho,rfl,rfl⟩;obtain⟨m1,m2⟩:=mem h ho;have p1:=uI hs ht hR m1;have p2:=uI hs ht hR m2;unfold apF;rw[Y5,Y5,zi,zi,O9,O9,p1,p2];show gAp s env i=gAp t env j;exact(a2k ht hR h env).2
 .rintro x y p q ⟨i,j,h,ho,ex,ey⟩ hp hq;have ex:x=iR (onR s d T) i:=o5;have ey:y=iR (onR t d T) j:=o5;subst ex;subst ey;obtain⟨m1,m2⟩:=mem h ho;have p1:=uI hs ht hR m1;have p2:=uI hs ht hR m2;have hp:((U4 s d T).map (anc (onR s d T) (sG s)))[iR (onR s d T) i]? =some p:=hp;have hq:((U4 t d T).map (anc (onR t d T) (sG t)))[iR (onR t d T) j]? =some q:=hq;rw[O9,p1]at hp;rw[O9,p2]at hq;have hp:=gJ hp;have hq:=gJ hq;rw[←hp,←hq];exact W_ hs ht hR T i j h
theorem PV(env:fA)(m:Int):((bn s env m d).2.1≠0/\(bn t env m d).2.1≠0)\/
  ((bn s env m d).2.1=0/\(bn t env m d).2.1=0/\(((bn s env m d).1=-1/\(bn t env m d).1=-1)\/((bn s env m d).1=-2/\(bn t env m d).1=-2)\/∃i j,Rn s t d i j/\(bn s env m d).1=(i:Int)/\(bn t env m d).1=(j:Int))):=by
 have T:=M_ hs ht hR env.1 env;have hsel:=T.sel (by rw[I9]) (by rw[I9]);have e1:(jf s d env.1).1=castL (U4 s d env.1):=rfl;have e2:(jf t d env.1).1=castL (U4 t d env.1):=rfl;unfold bn;rw[e1,e2];rcases DZ s env m d (U4 s d env.1) [] (λi hi=>(kF hi).1)with⟨g1,g2⟩|⟨⟨i,g1,g2⟩,e,g3,g4⟩
 .rcases DZ t env m d (U4 t d env.1) [] (λi hi=>(kF hi).1)with⟨k1,k2⟩|⟨⟨j,k1,k2⟩,_⟩
  .rw[g2,k2];simp only[J5];right;rcases hsel with⟨q1,q2⟩|⟨q1,q2⟩|⟨i,j,q1,q2,q3,q4⟩
   .rw[q1,q2];exact⟨rfl,rfl,.inl ⟨rfl,rfl⟩⟩
   .rw[q1,q2];exact⟨rfl,rfl,.inr (.inl ⟨rfl,rfl⟩)⟩
   .obtain⟨r,q,h1,h2,_⟩:=id q1;have m1:i∈U4 s d env.1:=by unfold U4 onL;exact J4.2 ⟨O6.2 (Z5.1 h1).1,q2⟩
    have m2:j∈U4 t d env.1:=by unfold U4 onL;exact J4.2 ⟨O6.2 (Z5.1 h2).1,by rw[←QU ht hR q1 env.1];exact q2⟩
    rw[q3,q4,yP (show(0:Int)<=(iR (onR s d env.1) i:Nat) by omega),yP (show(0:Int)<=(iR (onR t d env.1) j:Nat) by omega),E9,E9,Y5,Y5];refine⟨rfl,rfl,.inr (.inr ⟨i,j,q1,?_,?_⟩)⟩
    .show(castL (U4 s d env.1)).getD _ 0=_;rw[zi,MI (uI hs ht hR m1)];rfl
    .show(castL (U4 t d env.1)).getD _ 0=_;rw[zi,MI (uI hs ht hR m2)];rfl
  .obtain⟨i,hi,him⟩:=Ze hs ht hR k1;have:=g1 i him;rw[(a2k ht hR hi env).1,k2]at this;cases this
 .left;obtain⟨j,hj,hjm⟩:=Zf ht hR g1;rcases DZ t env m d (U4 t d env.1) [] (λi hi=>(kF hi).1)with⟨k1,k2⟩|⟨_,e',k3,k4⟩
  .have:=k1 j hjm;rw[←(a2k ht hR hj env).1,g2]at this;cases this
  .rw[g3,k3];exact⟨g4,k4⟩
theorem Xv(env:fA)(m:Int):(∃v i j,zA s env m d= .inl (v,i)/\zA t env m d= .inl (v,j))\/(∃e e',zA s env m d= .inr e/\zA t env m d= .inr e'):=by
 unfold zA;rcases PV hs ht hR env m with⟨h1,h2⟩|⟨h1,h2,h3⟩
 .rw[uk h1,uk h2];exact .inr ⟨_,_,rfl,rfl⟩
 .rw[jX h1,jX h2,F8,F8];rcases h3 with⟨k1,k2⟩|⟨k1,k2⟩|⟨i,j,q1,k1,k2⟩
  .rw[k1,k2];exact .inr ⟨_,_,rfl,rfl⟩
  .rw[k1,k2];exact .inr ⟨_,_,rfl,rfl⟩
  .rw[k1,k2,uk (show(i:Int)≠-1 by omega),uk (show(i:Int)≠-2 by omega),uk (show(j:Int)≠-1 by omega),uk (show(j:Int)≠-2 by omega),jQ,jQ];obtain⟨r,q,h1,h2,_⟩:=id q1;have e:=QT ht hR q1 h1 h2;rw[h1,h2];simp only[E9];rw[e.rest];cases x8 (uf q.2.2.2.2.2.2.1 env).2 0
   .exact .inr ⟨_,_,rfl,rfl⟩
   .exact .inl ⟨_,_,_,rfl,rfl⟩
end
end Go.GP
namespace Go.GP
open Gt
set_option maxRecDepth 100000
structure Two (s t:A8) (nS nT:List Bool) (Q:Int->Prop):Prop where
 n:t.2.2.2.1.length=s.2.2.2.1.length
 vs:VR s
 vt:VR t
 os:Iw s (jI s).1/\∀d,0<=d->d<nD s->d∈(jI s).1
 ot:Iw t (jI t).1/\∀d,0<=d->d<nD t->d∈(jI t).1
 at' :∀d,ND nT d->(0<=d/\d<nD s)/\ND nS d/\SameR s t d/\(∀x∈X4 t d,ND nT x)/\EX t (λx=>x∈X4 t d) Q d/\EX s (λx=>x∈X4 s d) Q d
theorem a6D{s t:A8}{a b:fA}{m:Int}{nS nT:List Bool}{Q:Int->Prop}{X:DB}(hT:Two s t nS nT Q)(hE:SimE Q a b)(ha:EvOk a)(hb:EvOk b)(hX:scS s a m nS= .inl X):
  ∃Y,scS t b m nT= .inl Y/\∀x,ND nT x->H9 Y.1 x=H9 X.1 x:=by
 have hXl:=Ja hX;have key:∀(suf pre:List Int) (B:DB),(jI t).1=pre++suf->B.1.length=s.2.2.2.1.length/\B.2.length=s.2.2.2.1.length->(∀x∈pre,ND nT x->H9 B.1 x=H9 X.1 x)->
   ∃Y,bD (scG t b m nT) suf B= .inl Y/\∀x∈pre++suf,ND nT x->H9 Y.1 x=H9 X.1 x:=by
  intro suf;induction suf with
  |nil=>intro pre B he hl hi;exact⟨B,rfl,λx hx=>hi x (by simpa using hx)⟩|cons d suf ih=>
   intro pre B he hl hi;have hdr:=hT.ot.1.2.1 d (by rw[he];simp);have hnn:nD t=nD s:=by unfold nD x9;rw[hT.n]
   have step:∃B2,scG t b m nT B d= .inl B2/\(B2.1.length=s.2.2.2.1.length/\B2.2.length=s.2.2.2.1.length)/\∀x∈pre++[d],ND nT x->H9 B2.1 x=H9 X.1 x:=by
    unfold scG;cases hn:(H9 nT d).getD false
    .refine⟨B,rfl,hl,λx hx hxn=>?_⟩;rcases o8.1 hx with hx|hx
     .exact hi x hx hxn
     .rw[E5.1 hx]at hxn;unfold ND at hxn;rw[hn]at hxn;cases hxn
    .obtain⟨_,k2,k3,k4,k5,k6⟩:=hT.at' d hn;obtain⟨v,r,f1,f2,f3⟩:=SV ha hT.os.1 hX (hT.os.2 d hdr.1 o5) k2 k6;have hd:∃j,zA t (CY a X.1) m d= .inl (v,j):=by
      rcases Xv hT.vs hT.vt k3 (CY a X.1) m with⟨v',i,j,g1,g2⟩|⟨e,e',g1,g2⟩
      .rw[f3]at g1;cases g1;exact⟨j,g2⟩
      .rw[f3]at g1;cases g1
     obtain⟨j,hd⟩:=hd;have hsim:=Jw (s:=t) (hE.at (P:=λx=>x∈X4 t d) (D:=X.1) (D' :=B.1) (by rw[hXl.1,hl.1]) (λx hx=>(hi x (hT.ot.1.2.2 pre d suf he x hx) (k4 x hx)).symm)) (Bl ha _) (Bl hb _) k5 m;rw[hd]at hsim;simp only[F8];rw[←hsim];refine⟨_,rfl,⟨by simp[hl.1],by simp[hl.2]⟩,λx hx hxn=>?_⟩;show H9 (B.1.set d.toNat v) x=_;by_cases e:x=d
     .subst e;rw[JU _ hdr.1 (by unfold x9;unfold nD x9 at hdr hnn;omega),f1]
     .rw[yj _ hdr.1 e];rcases o8.1 hx with hx|hx
      .exact hi x hx hxn
      .exact absurd (E5.1 hx) e
   obtain⟨B2,h1,h2,h3⟩:=step;obtain⟨Y,h4,h5⟩:=ih (pre++[d]) B2 (by rw[he];simp) h2 h3;refine⟨Y,?_,λx hx=>h5 x (by simpa using hx)⟩;unfold bD;rw[h1];exact h4
 obtain⟨Y,h1,h2⟩:=key (jI t).1 [] (List.replicate t.2.2.2.1.length (0,0,0),List.replicate t.2.2.2.1.length 0) rfl ⟨by simp[hT.n],by simp[hT.n]⟩ (λx hx=>by cases hx);refine⟨Y,h1,λx hx=>h2 x ?_ hx⟩;have hr:=(hT.at' x hx).1;have hnn:nD t=nD s:=by unfold nD x9;rw[hT.n]
 exact hT.ot.2 x hr.1 o5
theorem a4y{l l' :ay}{c:jO}{ms mt:A8}{nM nN:List Bool}(htb:l'.2.1=l.2.1)(hTb:∀t∈l.2.1,Jf t)(hT:Two ms mt nM nN (λ_=>False)):
  ∀(L:List (List V3×Nat)) (b b' X:List DB),(b.length=b'.length/\∀x,ND nN x->b.map (λv=>H9 v.1 x)=b'.map (λv=>H9 v.1 x))->bD (mG l c ms nM) L b= .inl X->
   ∃Y,bD (mG l' c mt nN) L b' = .inl Y/\X.length=Y.length/\∀x,ND nN x->X.map (λv=>H9 v.1 x)=Y.map (λv=>H9 v.1 x)
 |[],b,b',X,hb,h=>by cases h;exact⟨b',rfl,hb.1,hb.2⟩|a::L,b,b',X,hb,h=>by
  unfold bD at h;cases hg:mG l c ms nM b a with
  |inr e=>rw[hg]at h;cases h|inl b1=>
   rw[hg]at h;simp only at h;unfold mG at hg;cases hs:scS ms (IG l c a.1) (a.2:Int) nM with
   |inr e=>rw[hs]at hg;cases hg|inl x=>
    rw[hs]at hg;cases hg;have he:IG l' c a.1=IG l c a.1:=by unfold IG;rw[htb]
    obtain⟨y,y1,y2⟩:=a6D hT (b:=IG l c a.1) ⟨rfl,rfl,rfl,rfl,λ_ _=>rfl⟩ (UW hTb c a.1) (UW hTb c a.1) hs;obtain⟨Y,h3,h4,h5⟩:=a4y htb hTb hT L (b++[x]) (b' ++[y]) X ⟨by simp[hb.1],λz hz=>by rw[gI,gI,hb.2 z hz];exact congrArg (λq=>_++[q]) (y2 z hz).symm⟩ h;refine⟨Y,?_,h4,h5⟩;unfold bD mG;rw[he,y1];exact h3
end Go.GP
namespace Go.GP
open Gt
set_option maxRecDepth 100000
variable {s:A8}
theorem a0Y{l:ay}(h:(jg l).1=0)(hs:s∈l.2.2):VR s:=by obtain⟨i,hi,rfl⟩:=gm hs;exact⟨_,λj r hr=>a2l (LG h (kG hi) hr)⟩
theorem P_{l:ay}(h:(jg l).1=0){k:Int}(hs:H9 l.2.2 k=some s):VR (aV l s):=by
 rcases wH h hs with⟨_,_,g⟩|⟨_,_,_,_,g⟩
 .rw[g];exact⟨Gp l s,λj r hr=>by cases hr⟩
 .exact a0Y h g
def DpS(s:A8)(d x:Int):Prop:=x=d\/x∈jM s d
def DpM(s m:A8)(d x:Int):Prop:=∃z∈mbS s d,DpS m z x
abbrev wS(s:A8)(d:Int):List Bool:=OY s (wO s.2.2.2.1.length) d
abbrev wM(s m:A8)(d:Int):List Bool:=Dn m (wO m.2.2.2.1.length) (mbS s d)
variable {d:Int}
theorem WX(h0:0<=d)(h1:d<nD s)(x:Int):ND (wS s d) x↔DpS s d x:=by
 rw[a1j,XZ (JF _) h0 h1];unfold DpS;constructor
 .rintro(h|h|h)
  .unfold wO at h;rw[Np]at h;cases h
  .exact .inl h
  .exact .inr h
 .rintro(h|h)
  .exact .inr (.inl h)
  .exact .inr (.inr h)
variable {m:A8}
theorem Q_(hr:∀x∈mbS s d,0<=x/\x<nD m)(x:Int):ND (wM s m d) x↔DpM s m d x:=by
 rw[a1j,XY _ (JF _) hr];unfold DpM DpS;constructor
 .rintro(h|h)
  .unfold wO at h;rw[Np]at h;cases h
  .exact h
 .exact λh=> .inr h
variable {x:Int}
theorem OB :x∈mbS s d↔inD (nD s) d=true/\∃r∈s.2.2.2.2,DpS s d r.2.1/\x∈Qx r:=by
 unfold mbS;cases hq:inD (nD s) d
 .simp
 .rw[F8,pI,UZ];constructor
  .rintro⟨r,hr,h1,h2⟩;exact⟨rfl,r,hr,(En _ _ _).1 (pq.1 h1),h2⟩
  .rintro⟨_,r,hr,h1,h2⟩;exact⟨r,hr,pq.2 ((En _ _ _).2 h1),h2⟩
variable {y:Int}
theorem DpS.trans(h:DpS s d x)(k:DpS s x y):DpS s d y:=by
 rcases k with rfl|k
 .exact h
 .obtain⟨_,t1,t2,_⟩:=tq s d;obtain⟨_,_,_,u⟩:=tq s x;refine .inr (u (λz=>z∈jM s d) (λz hz=>?_) (λz hz w hw=>t2 z hz w hw) y k);rcases h with rfl|h
  .exact t1 z hz
  .exact t2 x h z hz
theorem DpS.dir(h:DpS s d x)(k:y∈X4 s x):DpS s d y:=h.trans (.inr ((tq s x).2.1 y k))
theorem DpS.bd(h:DpS s d x)(h0:0<=d)(h1:d<nD s):0<=x/\x<nD s:=by
 rcases h with rfl|h
 .exact⟨h0,h1⟩
 .exact RI h
theorem Oq{n d:Int} :inD n d=true↔0<=d/\d<n:=by
 unfold inD;cases h:Y2 0 d
 .rw[Dc]at h;simp only[E9];constructor
  .intro x;cases x
  .intro x;omega
 .rw[su]at h;simp only[F8];rw[Bv];omega
theorem DpM.up(h0:0<=d)(h1:d<nD s)(h:DpS s d x)(k:DpM s m x y):DpM s m d y:=by obtain⟨z,hz,hy⟩:=k;obtain⟨_,r,hr,h2,h3⟩:=OB.1 hz;exact⟨z,OB.2 ⟨Oq.2 ⟨h0,h1⟩,r,hr,h.trans h2,h3⟩,hy⟩
theorem DpM.bd(hr:∀x∈mbS s d,0<=x/\x<nD m)(h:DpM s m d x):0<=x/\x<nD m:=by obtain⟨z,hz,hx⟩:=h;exact hx.bd (hr z hz).1 (hr z hz).2
theorem Lc(h:VR s)(d:Int):SameR s s d:=by
 have key:∀(i:Nat) (r:bW),s.2.2.2.2[i]? =some r->EqR s s r r:=λi r hr=>by
  refine⟨rfl,rfl,rfl,?_⟩;rcases h.par hr with e|⟨p,q,e,_,hq,_⟩
  .have:r.2.2.1=-1:=by rw[←e];unfold sG;rw[hr]
   exact .inl ⟨this,this⟩
  .have:r.2.2.1=(p:Int):=by rw[←e];unfold sG;rw[hr]
   exact .inr ⟨p,p,q,q,this,this,hq,hq,rfl⟩
 exact⟨λi r hr _=>⟨i,r,hr,key i r hr⟩,λj q hq _=>⟨j,q,hq,key j q hq⟩⟩
structure EvC (l:ay) (k:Int) (s:A8) (c:jO) (d:Int) (X:DB) (b:List DB):Prop where
 hL:SmL l
 hC:SmC c
 hT:∀t∈l.2.1,Jf t
 hs:H9 l.2.2 k=some s
 ha:(Iy l k c true d).1=0
 ev:a0d l s c (wS s d) (wM s (aV l s) d)= .inl (X,b)
section
variable {l:ay} {k:Int} {s:A8} {c:jO} {d:Int} {X:DB} {b:List DB} (h:EvC l k s c d X b)
include h
theorem EvC.hv:(jg l).1=0:=(VK h.ha).1
theorem EvC.dd:0<=d/\d<nD s:=Xj h.ha h.hs
theorem EvC.sm:SmS s:=h.hL.sc s (jr h.hs).2.2.1
theorem EvC.smm:SmS (aV l s):=XU h.hL h.hv h.hs
theorem EvC.mb:∀x∈mbS s d,0<=x/\x<nD (aV l s):=XR h.hv (jr h.hs).2.2.2 d
theorem EvC.mb2(x:Int):∀y∈mbS s x,0<=y/\y<nD (aV l s):=XR h.hv (jr h.hs).2.2.2 x
theorem EvC.os:Iw s (jI s).1/\∀d,0<=d->d<nD s->d∈(jI s).1:=KF h.sm (LD h.hv (jr h.hs).2.2.2)
theorem EvC.om:Iw (aV l s) (jI (aV l s)).1/\∀d,0<=d->d<nD (aV l s)->d∈(jI (aV l s)).1:=KF h.smm (XV h.hv h.hs)
theorem EvC.refp(hx:DpS s d x):EX s (λy=>y∈X4 s x) (λy=>ND (wM s (aV l s) d) y) x:=λr hr hd e he=>
 ⟨(CW h.hv (jr h.hs).2.2.2 x r hr hd e he).1,λy hy=>(Q_ h.mb y).2 ⟨y,OB.2 ⟨Oq.2 h.dd,r,hr,by rw[hd];exact hx,by
  unfold Qx;rcases he with rfl|rfl
  .exact G7 _ hy
  .exact W9 _ hy⟩,.inl rfl⟩⟩
theorem EvC.mS' :mS l c (aV l s) (wM s (aV l s) d)= .inl b/\scS s (vW l s c b) (-1) (wS s d)= .inl X:=by
 have he:=h.ev;unfold a0d at he;cases hb:mS l c (aV l s) (wM s (aV l s) d)with
 |inr e=>rw[hb]at he;cases he|inl b0=>
  rw[hb]at he;simp only at he;cases hx:scS s (vW l s c b0) (-1) (wS s d)with
  |inr e=>rw[hx]at he;cases he|inl X0=>rw[hx]at he;cases he;exact⟨rfl,hx⟩
theorem EvC.bl:b.length=c.2.2.length:=a1Z h.mS'.1
theorem EvC.eo:EvOk (vW l s c b):=QL h.hT s c (by have:=h.bl;have:=h.hC.nm;omega)
theorem EvC.fix(hx:DpS s d x):∃v r,H9 X.1 x=some v/\H9 X.2 x=some r/\zA s (CY (vW l s c b) X.1) (-1) x= .inl (v,r):=by have hb:=hx.bd h.dd.1 h.dd.2;exact SV h.eo h.os.1 h.mS'.2 (h.os.2 x hb.1 hb.2) ((WX h.dd.1 h.dd.2 x).2 hx) (h.refp hx)
theorem EvC.mem{j:Nat}{v:List V3}(hj:c.2.2[j]? =some v):∃x,b[j]? =some x/\scS (aV l s) (IG l c v) (j:Int) (wM s (aV l s) d)= .inl x:=by obtain⟨Y,e1,e2,e3⟩:=a4x c.2.2.zipIdx [] b h.mS'.1;rw[J5]at e1;subst e1;exact e3 j (v,j) (by rw[uV,hj];simp)
theorem EvC.two(hx:DpS s d x):Two s s (wS s d) (wS s x) (λy=>ND (wM s (aV l s) x) y):=by
 have hb:=hx.bd h.dd.1 h.dd.2;have hk:=jr h.hs;refine⟨rfl,a0Y h.hv hk.2.2.1,a0Y h.hv hk.2.2.1,h.os,h.os,λy hy=>?_⟩;have hy' :=(WX hb.1 hb.2 y).1 hy;have hr:EX s (λz=>z∈X4 s y) (λz=>ND (wM s (aV l s) x) z) y:=λr hr hd e he=>
  ⟨(CW h.hv hk.2.2.2 y r hr hd e he).1,λz hz=>(Q_ (h.mb2 x) z).2 ⟨z,OB.2 ⟨Oq.2 hb,r,hr,by rw[hd];exact hy',by
   unfold Qx;rcases he with rfl|rfl
   .exact G7 _ hz
   .exact W9 _ hz⟩,.inl rfl⟩⟩
 exact⟨hy'.bd hb.1 hb.2,(WX h.dd.1 h.dd.2 y).2 (hx.trans hy'),Lc (a0Y h.hv hk.2.2.1) y,λz hz=>(WX hb.1 hb.2 z).2 (hy'.dir hz),hr,hr⟩
theorem EvC.twoM(hx:DpS s d x):Two (aV l s) (aV l s) (wM s (aV l s) d) (wM s (aV l s) x) (λ_=>False):=by refine⟨rfl,P_ h.hv h.hs,P_ h.hv h.hs,h.om,h.om,λy hy=>?_⟩;have hy' :=(Q_ (h.mb2 x) y).1 hy;refine⟨hy'.bd (h.mb2 x),(Q_ h.mb y).2 (hy'.up h.dd.1 h.dd.2 hx),Lc (P_ h.hv h.hs) y,λz hz=>(Q_ (h.mb2 x) z).2 ?_,GN h.hv h.hs y,GN h.hv h.hs y⟩;obtain⟨w,hw,hyw⟩:=hy';exact⟨w,hw,hyw.dir hz⟩
theorem EvC.at(hx:DpS s d x):∃v r,H9 X.1 x=some v/\H9 X.2 x=some r/\a4q l s c x=(v,r,0,0,0,0)/\zA s (CY (vW l s c b) X.1) (-1) x= .inl (v,r):=by
 have hb:=hx.bd h.dd.1 h.dd.2;obtain⟨v,r,f1,f2,f3⟩:=h.fix hx;obtain⟨m1,m2⟩:=h.mS';obtain⟨b',g1,g2,g3⟩:=a4y rfl h.hT (h.twoM hx) c.2.2.zipIdx [] [] b ⟨rfl,λ_ _=>rfl⟩ m1;have hE:SimE (λz=>ND (wM s (aV l s) x) z) (vW l s c b) (vW l s c b'):=by refine⟨rfl,rfl,rfl,by simp[vW,g2],λz hz=>?_⟩;have:=g3 z hz;simp only[vW,lw];exact this
 have hbl:=h.bl;have hcm:=h.hC.nm;have hb' :EvOk (vW l s c b'):=QL h.hT s c o5;obtain⟨Y,y1,y2⟩:=a6D (h.two hx) hE h.eo hb' m2;have hself:DpS s x x:=.inl rfl;have hnx:=(WX hb.1 hb.2 x).2 hself;have hrx:EX s (λz=>z∈X4 s x) (λz=>ND (wM s (aV l s) x) z) x:=(h.two hx).at' x hnx |>.2.2.2.2.1;obtain⟨v',r',f1',f2',f3'⟩:=SV hb' h.os.1 y1 (h.os.2 x hb.1 hb.2) hnx hrx;have hsim:=Jw (s:=s) (hE.at (P:=λz=>z∈X4 s x) (D:=X.1) (D' :=Y.1) (by rw[(Ja m2).1,(Ja y1).1]) (λz hz=>(y2 z ((WX hb.1 hb.2 z).2 (hself.dir hz))).symm)) (Bl h.eo _) (Bl hb' _) hrx (-1);rw[f3,f3']at hsim;cases hsim;refine⟨v,r,f1,f2,?_,f3⟩;unfold a4q a0d;rw[show mS l c (aV l s) (Dn (aV l s) (wO (aV l s).2.2.2.1.length) (mbS s x))= .inl b' from g1];simp only;rw[show scS s (vW l s c b') (-1) (OY s (wO s.2.2.2.1.length) x)= .inl Y from y1];have e1:Y.1.getD x.toNat (0,0,0)=v:=by unfold H9 at f1';rw[if_pos hb.1]at f1';rw[zi,f1'];rfl
 have e2:Y.2.getD x.toNat 0=r:=by unfold H9 at f2';rw[if_pos hb.1]at f2';rw[zi,f2'];rfl
 show(Y.1.getD x.toNat (0,0,0),Y.2.getD x.toNat 0,(0:Int),(0:Int),(0:Int),(0:Int))=_;rw[e1,e2]
end
end Go.GP
namespace Go.GP
open Gt
set_option maxRecDepth 100000
theorem RY{l:ay}{k:Int}{c:jO}{d:Int}(h:(Iy l k c true d).1=0):(Iy l k c false 0).1=0:=by
 unfold Iy at h ⊢;cases h0:x8 (jg l).1 0<;>rw[h0]at h
 .exact h
 cases hs:H9 l.2.2 k with
 |none=>rw[hs]at h;exact h|some s=>
  rw[hs]at h;simp only[F8,E9]at h ⊢;cases h1:(l7 (I7 d 0) true (Y2 (x9 s.2.2.2.1) d))<;>rw[h1]at h
  .exact h
  .exact absurd (show(6:Int)=0 from h) aT
section
variable {l:ay} {k:Int} {s:A8} {c:jO} {d:Int} {X:DB} {b:List DB} (h:EvC l k s c d X b)
include h
theorem EvC.args{x:Int}(hx:DpS s d x):(Iy l k c true x).1=0:=by have hb:=hx.bd h.dd.1 h.dd.2;exact VJ (RY h.ha) h.hs hb.1 hb.2
end
end Go.GP
namespace Go.GP
open Gt
set_option maxRecDepth 100000
variable {α:Type}{β:Type}
theorem UJ(g:α->β)(q:α->α->Bool)(hq:∀x y,q x y=true↔g x=g y){a b:List α}(hl:a.length<=1000000){f:Int->Option (Out Int PUnit Bool)}
  (hin:∀(i:Nat) x y,a[i]? =some x->b[i]? =some y->f (i:Int)=l7 (I7 (i:Int) (x9 a)) (l7 (I7 (i:Int) (x9 b)) (l7 (G5 (q x y)) (some (.rt false)) (some (.nx (D7 .i64 (i:Int) 1)))) (some (.ex PUnit.unit))) (some (.ex PUnit.unit))) (hend:f (a.length:Int)=some (.ex PUnit.unit)):
  (l7 (G5 (x8 (x9 a) (x9 b))) (some false) (l9 (ak f 0) λo=>aN o (λ_=>some true) λr=>some r))=some (eqB (a.map g) (b.map g)):=
 a1U g q hq hl (λi x y hx hy=>by rw[hin i x y hx hy,vK hx,F8,vK hy,F8]) hend
def a4C(o:Option (α×Int)):Int:=match o with|some x=>x.2|none=>-1
variable {l:List α}
theorem a0e(hl:l.length<=1000000)(p:α->Bool){f:Int->Option (Out Int PUnit Int)} (hin:∀(i:Nat) x,l[i]? =some x->f (i:Int)=l7 (p x) (some (.rt (i:Int))) (some (.nx (D7 .i64 (i:Int) 1)))) (hend:f (l.length:Int)=some (.ex PUnit.unit)):
  (l9 (ak f 0) λ(o:PUnit⊕Int)=>aN o (λ(_:PUnit)=>some (-1)) λ(r:Int)=>some r)=some (a4C (qx p l 0)):=by
 have key:=VW (p:=λi=>match l[i]? with|some x=>l7 (p x) (some (i:Int)) none|none=>none) l.length hl PUnit.unit (f:=f) (λi hi=>by have hx:=kG hi;rw[hin i _ hx,hx];simp only;cases p l[i]<;>rfl) hend
 rw[key];cases hf:qx p l 0 with
 |some x=>
  obtain⟨j,h1,h2,h3,h4⟩:=JI (a:=x.1) (i:=x.2) hf;have hj:=(Z5.1 h1).1;have:dh l.length (λi=>match l[i]? with|some x=>l7 (p x) (some (i:Int)) none|none=>none)=some (j:Int):=by
   unfold dh;rw[List.findSome?_eq_some_iff];refine⟨List.range j,j,(List.range (l.length -j -1)).map (λi=>j+1+i),?_,by rw[h1];simp only[h3,F8],λi hi=>?_⟩
   .apply dE
    .simp;omega
    .intro n g1 g2;simp only[List.getElem_range];rcases Nat.lt_trichotomy n j with h|h|h
     .rw[gG (by simpa using h)];simp
     .subst h;rw[List.getElem_append_right o7];simp
     .rw[List.getElem_append_right dZ,List.getElem_cons];simp only[eP];rw[dif_neg o5];simp;omega
   .have hij:i<j:=by simpa using hi
    have hx:=kG (show i<l.length by omega);rw[hx];simp only[h4 i _ hij hx,E9]
  rw[this];simp only[iZ,F_,a4C];rw[h2];congr 1;omega
 |none=>
  have hn:=He hf;have:dh l.length (λi=>match l[i]? with|some x=>l7 (p x) (some (i:Int)) none|none=>none)=none:=by unfold dh;rw[fD];intro i hi;have hx:=kG (show i<l.length by simpa using hi);rw[hx];simp only[hn _ (af _),E9]
  rw[this];rfl
theorem QX{a:List H7}(b:List H7)(h:a.length<=1000000):sO a b=some (eqB a b):=by
 unfold sO;rw[←a0c];refine UJ (λx=>x) (λ(x y:H7)=>V7 (seq x.1 y.1) (V7 (seq x.2.1 y.2.1) (x8 x.2.2 y.2.2)))
  (λx y=>by simp only[PQ,bJ,Pg,vN]) h (λi x y hx hy=>?_) ?_
 .simp only[jQ,hx,hy,iZ]
 .simp only[vH];rfl
variable {a:α}
theorem WS{k i:Nat}(h:(l.take k)[i]? =some a):l[i]? =some a/\i<k:=by
 rw[N7]at h;split at h
 .exact⟨h,o5⟩
 .cases h
theorem G_(l:List α)(k:Nat):(I7 (((l.take k).length:Nat):Int) (x9 l)=false)\/((l.take k).length=k):=by
 by_cases h:l.length<=k
 .left;rw[I5 h];exact vH l
 .right;rw[ah];omega
theorem RZ:vO=some true:=by decide+kernel
abbrev kU:H7->H7->Bool:=λa b=>V7 (seq a.1 b.1) (V7 (seq a.2.1 b.2.1) (x8 a.2.2 b.2.2))
theorem wY(a b:H7):kU a b=true↔a=b:=by simp only[kU,PQ,Pg,bJ,vN]
theorem Bo(a:H7):kU a a=true:=(wY a a).2 rfl
def ixC:List H7->H7->Option Nat
 |[],_=>none|a::l,r=>l7 (kU a r) (some 0) ((ixC l r).map (·+1))
theorem zJ:∀{l:List H7} {r:H7} {i:Nat},ixC l r=some i->l[i]? =some r
 |[],_,_,h=>by cases h|a::l,r,i,h=>by
  unfold ixC at h;cases he:kU a r<;>rw[he]at h
  .simp only[E9,bK]at h;obtain⟨j,h1,rfl⟩:=h;simpa using zJ h1
  .simp only[F8,D6]at h;subst h;simp[(wY a r).1 he]
theorem Qm:∀{l:List H7} {r:H7},ixC l r=none->r∉l
 |[],_,_=>by simp|a::l,r,h=>by
  unfold ixC at h;cases he:kU a r<;>rw[he]at h
  .simp only[E9,Option.map_eq_none_iff]at h;intro hm;rcases o9.1 hm with rfl|hm
   .rw[Bo]at he;cases he
   .exact Qm h hm
  .cases h
theorem UR:∀(l:List H7) (r:H7),(l.any λa=>kU a r)=(ixC l r).isSome
 |[],_=>rfl|a::l,r=>by rw[Dj,UR l r];show(kU a r || (ixC l r).isSome)=(l7 (kU a r) (some 0) ((ixC l r).map (·+1))).isSome;cases kU a r<;>cases ixC l r<;>rfl
theorem IP{l:List H7}{r:H7} :(l.any λa=>kU a r)=true↔r∈l:=by rw[lq];exact⟨λ⟨a,h1,h2⟩=>by rw[←(wY a r).1 h2];exact h1,λh=>⟨r,h,Bo r⟩⟩
theorem UT:∀(l:List H7) (r k:H7),ixC (l++[r]) k=match ixC l k with|some i=>some i|none=>l7 (kU r k) (some l.length) none
 |[],r,k=>by simp only[J5,ixC];cases kU r k<;>rfl|a::l,r,k=>by
  simp only[ae,ixC,UT l r k];cases kU a k
  .simp only[E9];cases ixC l k with
   |some i=>rfl|none=>simp only[zN];cases kU r k<;>rfl
  .rfl
theorem a1h(r:H7):∀(l:List H7) (k:Nat),(qx (λx=>kU x r) l k).map (·.2)=(ixC l r).map λi=>((k+i:Nat):Int)
 |[],k=>rfl|a::l,k=>by
  unfold qx ixC;cases kU a r
  .simp only[E9];rw[show qx (λx=>kU x r) l (k+1)=qx (λx=>kU x r) l (k+1)from rfl,a1h r l (k+1),Option.map_map];congr 1;funext i;simp only[Function.comp_apply];congr 1;omega
  .rfl
def ixI(o:Option Nat):Int:=match o with|some i=>(i:Int)|none=>-1
theorem MQ{l:List H7}(hl:l.length<=1000000)(r:H7):uK l r=some (ixI (ixC l r)):=by
 unfold uK;refine Eq.trans (a0e hl (λx=>kU x r) (λi x hx=>?_) ?_) ?_
 .simp only[vK hx,F8,jQ,hx,iZ]
 .simp only[vH];rfl
 .congr 1;have h:=a1h r l 0;cases h1:qx (λx=>kU x r) l 0 with
  |none=>
   rw[h1]at h;cases h2:ixC l r with
   |none=>rfl|some i=>rw[h2]at h;cases h
  |some p=>
   rw[h1]at h;cases h2:ixC l r with
   |none=>rw[h2]at h;cases h|some i=>rw[h2]at h;simp only[bZ,D6,dB]at h;exact h
abbrev BR:=List H7×List Int×List Int
def oq(dlt:Int)(st:BR)(r:H7):BR:=match ixC st.1 r with
 |some i=>(st.1,aU st.2.1 i (D7 .i64 (st.2.1.getD i 0) 1),aU st.2.2 i (D7 .i64 (st.2.2.getD i 0) dlt))|none=>(st.1++[r],st.2.1++[1],st.2.2++[D7 .i64 0 dlt])
def qU(dlt:Int)(st:BR×List H7)(r:H7):BR×List H7:=(l7 (st.2.any λa=>kU a r) st.1 (oq dlt st.1 r),st.2++[r])
def tX(x:X9):Int:=l7 (G5 (x8 x.2.2.1 0)) 0 (l7 (G5 (x8 x.2.2.2.1 0)) 0 (l7 (G5 (x8 x.1.1 3)) 0 (l7 (G5 (x8 x.2.1.1 3)) 0 (O0 .i64 x.2.1.2.2 x.1.2.2))))
def Ed(st:BR)(x:X9):BR:=l7 (G5 (icS x)) st (x.2.2.2.2.foldl (qU (tX x)) (st,[])).1
def byS(L:List X9):BR:=L.foldl Ed ([],[],[])
theorem Xw(x:X9):fJ x=some (tX x):=by unfold fJ tX;cases G5 (x8 x.2.2.1 0)<;>cases G5 (x8 x.2.2.2.1 0)<;>cases G5 (x8 x.1.1 3)<;>cases G5 (x8 x.2.1.1 3)<;>rfl
theorem Vk(x:X9):kD x=some (tX x):=by unfold kD tX;cases G5 (x8 x.2.2.1 0)<;>cases G5 (x8 x.2.2.2.1 0)<;>cases G5 (x8 x.1.1 3)<;>cases G5 (x8 x.2.1.1 3)<;>rfl
variable {R:List β}
theorem Eg(h:l.length=R.length):H9 (l++[a]) (x9 R)=some a:=by unfold x9;rw[jQ,←h];simp
theorem zX(h:l.length=R.length):Y6 (l++[a]) (Y7 (x9 R))=some a:=by unfold Y6 Y7 x9;simp[←h]
theorem zY{a b:α}(h:l.length=R.length):aU (l++[a]) (Y7 (x9 R)) b=l++[b]:=by unfold aU Y7 x9;simp[←h]
variable {i:Nat}
theorem Eh(h:i<l.length)(z:α):H9 l (i:Int)=some (l.getD i z):=by rw[jQ,kG h];simp[List.getD,kG h]
theorem XN(h:i<l.length)(z:α):Y6 l (Y7 (i:Int))=some (l.getD i z):=by unfold Y6 Y7;simp[List.getD,kG h]
theorem Ei(h:i<l.length)(z:α):Y6 l i=some (l.getD i z):=by unfold Y6;simp[List.getD,kG h]
theorem VB(i:Nat):Y7 (i:Int)=i:=by unfold Y7;simp
def ln3(st:BR):Prop:=st.2.1.length=st.1.length/\st.2.2.length=st.1.length
variable {st:BR}
theorem Oc(h:ln3 st)(d:Int)(r:H7):ln3 (oq d st r)/\(oq d st r).1.length<=st.1.length+1:=by
 unfold oq;cases ixC st.1 r with
 |some i=>exact⟨⟨by simpa[aU]using h.1,by simpa[aU]using h.2⟩,o7⟩|none=>exact⟨⟨by simp[h.1],by simp[h.2]⟩,o7⟩
theorem IZ{st:BR×List H7}(h:ln3 st.1)(d:Int)(r:H7):ln3 (qU d st r).1/\(qU d st r).1.1.length<=st.1.1.length+1:=by
 unfold qU;cases st.2.any λa=>kU a r
 .exact Oc h d r
 .exact⟨h,iO _⟩
theorem WJ{x:X9}(h:ln3 st){n B:Nat}(hn:st.1.length<=n)(hB:x.2.2.2.2.length<=B)(hm:n+B<=1000000):
  ln3 (x.2.2.2.2.foldl (qU (tX x)) (st,[])).1/\(x.2.2.2.2.foldl (qU (tX x)) (st,[])).1.1.length<=n+x.2.2.2.2.length:=by
 have key:∀(l:List H7) (s:BR×List H7) (k:Nat),ln3 s.1->s.1.1.length<=k->ln3 (l.foldl (qU (tX x)) s).1/\(l.foldl (qU (tX x)) s).1.1.length<=k+l.length:=by
  intro l;induction l with
  |nil=>exact λs k h1 h2=>⟨h1,h2⟩|cons r l ih=>intro s k h1 h2;rw[U6];obtain⟨a1,a2⟩:=IZ h1 (tX x) r;obtain⟨b1,b2⟩:=ih (qU (tX x) s r) (k+1) a1 o5;exact⟨b1,by simp only[G6];omega⟩
 exact key _ _ n h hn
variable {B:Nat}{L:List X9}
theorem a2i(hl:L.length<=1000)(hr:∀x∈L,x.2.2.2.2.length<=B)(hB:L.length*B<=1000000):sH L=some (byS L):=by
 unfold sH byS;refine yw L Ed (λ(b:BR) i=>(b.1,b.2.1,b.2.2,i)) (λb=>(b.1,b.2.1,b.2.2)) (λi b=>ln3 b/\b.1.length<=i*B) ([],[],[]) o5 ⟨⟨rfl,rfl⟩,di _⟩ (λi x b hx hi hb=>?_) (λb _=>?_) (λ_=>rfl)
 .obtain⟨h1,h2⟩:=hb;have hil:=(Z5.1 hx).1;have hrx:=hr x (BH hx);have hiB:i*B+B<=1000000:=by
   have:(i+1)*B<=L.length*B:=C9 _ o5;rw[D8,L9]at this;omega
  obtain⟨g1,g2⟩:=WJ (x:=x) h1 h2 hrx hiB;simp only[vK hx,F8,jQ,hx,iZ,LZ];unfold Ed;cases hc:icS x
  .refine⟨?_,h1,by simp only[qj,F8];rw[D8];omega⟩;simp only[qj,F8,BP (show i<=9000000000000000000 by omega)]
  .refine⟨?_,g1,by simp only[jU,E9];rw[D8,L9];omega⟩;simp only[jU,E9];refine yw x.2.2.2.2 (qU (tX x)) (λ(s:BR×List H7) j=>(s.1.1,s.1.2.1,s.1.2.2,j)) (λs=>(s.1.1,s.1.2.1,s.1.2.2)) (λj s=>ln3 s.1/\s.1.1.length<=i*B+j/\s.2=x.2.2.2.2.take j) (b,[]) o5 ⟨h1,h2,rfl⟩ (λj r s hj hj2 hs=>?_) (λs _=>?_) (λ_=>?_)
   .obtain⟨s1,s2,s3⟩:=hs;have hjl:=(Z5.1 hj).1;have hsub:rD x.2.2.2.2 0 (j:Int)=some s.2:=by
     unfold rD;rw[if_pos ⟨o5,o5,o5⟩,s3];simp
    have hlen2:s.2.length<=1000000:=by rw[s3,ah];omega
    obtain⟨a1,a2⟩:=IZ s1 (tX x) r;refine⟨?_,a1,o5,?_⟩
    rotate_left
    .show s.2++[r]=_;rw[s3,yh,hj];rfl
    simp only[vK hj,F8,jQ,hj,iZ,hsub,MQ hlen2,MQ (show s.1.1.length<=1000000 by omega),BP (show j<=9000000000000000000 by omega)];unfold qU;rw[UR];cases h3:ixC s.2 r with
    |some q=>simp only[oD,F8,ixI,Hl (show(0:Int)<=(q:Int) by omega)]|none=>
     simp only[kw,E9,ixI,Eb (show(-1:Int)<0 by omega)];unfold oq;obtain⟨l1,l2⟩:=s1;cases h4:ixC s.1.1 r with
     |some q=>have hq:=(Z5.1 (zJ h4)).1;simp only[yP (show(0:Int)<=(q:Int) by omega),E9,Eh (show q<s.1.2.1.length by omega) 0,Ei (show q<s.1.2.1.length by omega) 0,Eh (show q<s.1.2.2.length by omega) 0,Ei (show q<s.1.2.2.length by omega) 0,iZ,Vk,VB]|none=>simp only[Ec (show(-1:Int)<0 by omega),F8,JS (show s.1.1.length+[r].length<=1073741824 by simp;omega),JS (show s.1.2.1.length+[(0:Int)].length<=1073741824 by simp;omega),JS (show s.1.2.2.length+[(0:Int)].length<=1073741824 by simp;omega),iZ,Eg l1,zX l1,Eg l2,zX l2,zY l1,zY l2,Vk,show D7 .i64 0 1=1 from rfl]
   .simp only[hx,iZ,vH];rfl
   .simp only[BP (show i<=9000000000000000000 by omega)]
 .simp only[vH];rfl
abbrev PB:=BR×List Int×List (H7×Int)×List H7
def rE(n d:Int)(s:PB)(r:H7):PB:=match ixC s.1.1 r with
 |none=>(oq d s.1 r,s.2.1++[n],Du kU s.2.2.1 r (x9 s.1.1),s.2.2.2++[r])|some i=>l7 (s.2.2.2.any λa=>kU a r) (s.1,s.2.1,s.2.2.1,s.2.2.2++[r]) (oq d s.1 r,aU s.2.1 i n,s.2.2.1,s.2.2.2++[r])
structure PO (n:Int) (st:BR) (last:List Int) (mp:List (H7×Int)):Prop where
 ln:ln3 st
 ll:last.length=st.1.length
 nd:st.1.Nodup
 mp:uZ kU mp (λr=>(ixC st.1 r).map λi=>((i:Nat):Int))
 lt:∀v∈last,v<n
structure PI53 (n:Int) (s:PB):Prop where
 ln:ln3 s.1
 ll:s.2.1.length=s.1.1.length
 nd:s.1.1.Nodup
 mp:uZ kU s.2.2.1 (λr=>(ixC s.1.1 r).map λi=>((i:Nat):Int))
 lt:∀v∈s.2.1,v<=n
 sub:∀a∈s.2.2.2,a∈s.1.1
 is:∀(i:Nat) a,s.1.1[i]? =some a->(s.2.1[i]? =some n↔a∈s.2.2.2)
variable {n:Int}
theorem PO.start{last:List Int}{mp:List (H7×Int)}(h:PO n st last mp):PI53 n (st,last,mp,[]):=
 ⟨h.ln,h.ll,h.nd,h.mp,λv hv=>Int.le_of_lt (h.lt v hv),λa ha=>(lu ha).elim,λi a hi=>⟨λhn=>absurd (h.lt n (BH hn)) (Int.lt_irrefl n),λha=>(lu ha).elim⟩⟩
theorem PI53.stop{s:PB}(h:PI53 n s):PO (n+1) s.1 s.2.1 s.2.2.1:=⟨h.ln,h.ll,h.nd,h.mp,λv hv=>by have:=h.lt v hv;omega⟩
theorem Sj(d:Int)(st:BR)(r:H7):(oq d st r).1=match ixC st.1 r with|some _=>st.1|none=>st.1++[r]:=by unfold oq;cases ixC st.1 r<;>rfl
theorem PI53.step(hn:0<=n){s:PB}(h:PI53 n s)(d:Int)(r:H7):PI53 n (rE n d s r)/\((rE n d s r).1,(rE n d s r).2.2.2)=qU d (s.1,s.2.2.2) r:=by
 obtain⟨st,last,mp,done⟩:=s;unfold rE qU;have hbl:=Oc h.ln d r;have hbr:=Sj d st r;cases hi:ixC st.1 r with
 |none=>
  rw[hi]at hbr;simp only at hbr;have hnr:=Qm hi;have hdone:(done.any λa=>kU a r)=false:=by
   cases hq:done.any λa=>kU a r
   .rfl
   .exact absurd (h.sub r (IP.1 hq)) hnr
  simp only;refine⟨⟨hbl.1,?_,?_,?_,?_,?_,?_⟩,by rw[hdone];rfl⟩
  .show(last++[n]).length=(oq d st r).1.length;rw[hbr];simp[h.ll]
  .show(oq d st r).1.Nodup;rw[hbr,F9];exact⟨h.nd,o7,λa ha b hb e=>by simp at hb;subst hb;subst e;exact hnr ha⟩
  .show uZ kU (Du kU mp r (x9 st.1)) (λk=>(ixC (oq d st r).1 k).map λi=>((i:Nat):Int));refine(Wj wY h.mp r (x9 st.1)).congr λk=>?_;rw[hbr,UT];cases hk:kU k r
   .simp only[E9];have hk' :kU r k=false:=by
     cases hq:kU r k
     .rfl
     .rw[(wY r k).1 hq,Bo]at hk;cases hk
    rw[hk'];cases ixC st.1 k<;>rfl
   .have e:=(wY k r).1 hk;subst e;rw[hi,Bo];rfl
  .intro v hv;rcases o8.1 hv with hv|hv
   .exact h.lt v hv
   .simp at hv;omega
  .intro a ha;show a∈(oq d st r).1;rw[hbr];rcases o8.1 ha with ha|ha
   .exact o8.2 (.inl (h.sub a ha))
   .exact o8.2 (.inr ha)
  .intro i a hia;have hia:(oq d st r).1[i]? =some a:=hia;rw[hbr]at hia;show(last++[n])[i]? =some n↔a∈done++[r];have hll:last.length=st.1.length:=h.ll;by_cases hlt:i<st.1.length
   .rw[G9 hlt]at hia;rw[G9 o5];have hne:a≠r:=λe=>hnr (e▸BH hia);rw[h.is i a hia];simp[hne]
   .have hlen:=(Z5.1 hia).1;simp at hlen;have hi0:i=st.1.length:=o5;subst hi0;rw[H6 (A7 _)]at hia;simp at hia;subst hia;rw[H6 o5];simp[hll]
 |some q=>
  rw[hi]at hbr;simp only at hbr;have hq:=zJ hi;simp only;cases hd:done.any λa=>kU a r
  .simp only[E9];have hrd:r∉done:=λe=>by rw[IP.2 e]at hd;cases hd
   have hql:=(Z5.1 hq).1;have hll:last.length=st.1.length:=h.ll;refine⟨⟨hbl.1,?_,?_,?_,?_,?_,?_⟩,trivial⟩
   .show(aU last q n).length=(oq d st r).1.length;rw[hbr];simp[aU,hll]
   .show(oq d st r).1.Nodup;rw[hbr];exact h.nd
   .show uZ kU mp (λk=>(ixC (oq d st r).1 k).map λi=>((i:Nat):Int));rw[hbr];exact h.mp
   .intro v hv;have hv:v∈last.set q n:=hv;rcases List.mem_or_eq_of_mem_set hv with hv|rfl
    .exact h.lt v hv
    .exact bF _
   .intro a ha;show a∈(oq d st r).1;rw[hbr];rcases o8.1 ha with ha|ha
    .exact h.sub a ha
    .simp at ha;subst ha;exact BH hq
   .intro i a hia;have hia:(oq d st r).1[i]? =some a:=hia;rw[hbr]at hia;show(last.set q n)[i]? =some n↔a∈done++[r];have hil:=(Z5.1 hia).1;rw[P5];by_cases e:q=i
    .subst e;rw[hq]at hia;cases hia;simp only[if_true,show q<last.length by omega];simp
    .simp only[e,if_false];rw[h.is i a hia];have hnd:st.1.Nodup:=h.nd;have hia2:st.1[i]? =some a:=hia;have hne:a≠r:=λe' =>by
      obtain⟨h1,e1⟩:=Z5.1 hq;obtain⟨h2,e2⟩:=Z5.1 hia2;exact e ((List.getElem_inj hnd).1 (e1.trans (e'.symm.trans e2.symm)))
     simp[hne]
  .simp only[F8];have hrd:=IP.1 hd;refine⟨⟨h.ln,h.ll,h.nd,h.mp,h.lt,?_,?_⟩,trivial⟩
   .intro a ha;rcases o8.1 ha with ha|ha
    .exact h.sub a ha
    .simp at ha;subst ha;exact BH hq
   .intro i a hia;show last[i]? =some n↔a∈done++[r];rw[h.is i a hia];constructor
    .exact λha=>o8.2 (.inl ha)
    .intro ha;rcases o8.1 ha with ha|ha
     .exact ha
     .simp at ha;subst ha;exact hrd
theorem KL{n:Int}(hn:0<=n)(d:Int):∀(l:List H7) (s:PB),PI53 n s->PI53 n (l.foldl (rE n d) s)/\((l.foldl (rE n d) s).1,(l.foldl (rE n d) s).2.2.2)=l.foldl (qU d) (s.1,s.2.2.2)
 |[],s,h=>⟨h,rfl⟩|r::l,s,h=>by obtain⟨h1,h2⟩:=h.step hn d r;rw[U6,U6,←h2];exact KL hn d l _ h1
abbrev PS:=BR×List Int×List (H7×Int)
def Ez(n:Int)(s:PS)(x:X9):PS:=l7 (G5 (icS x)) s ((x.2.2.2.2.foldl (rE n (tX x)) (s.1,s.2.1,s.2.2,[])).1,(x.2.2.2.2.foldl (rE n (tX x)) (s.1,s.2.1,s.2.2,[])).2.1,(x.2.2.2.2.foldl (rE n (tX x)) (s.1,s.2.1,s.2.2,[])).2.2.1)
theorem PO.up{n m:Int}{last:List Int}{mp:List (H7×Int)}(h:PO n st last mp)(hm:n<=m):PO m st last mp:=⟨h.ln,h.ll,h.nd,h.mp,λv hv=>by have:=h.lt v hv;omega⟩
theorem Vj(hn:0<=n){s:PS}(h:PO n s.1 s.2.1 s.2.2)(x:X9):PO (n+1) (Ez n s x).1 (Ez n s x).2.1 (Ez n s x).2.2/\(Ez n s x).1=Ed s.1 x:=by
 unfold Ez Ed;cases G5 (icS x)
 .obtain⟨h1,h2⟩:=KL hn (tX x) x.2.2.2.2 (s.1,s.2.1,s.2.2,[]) h.start;exact⟨h1.stop,congrArg (·.1) h2⟩
 .exact⟨h.up o5,rfl⟩
def pG2(b:PS×Int)(x:X9):PS×Int:=(Ez b.2 b.1 x,b.2+1)
theorem Qh:∀(L:List X9) (b:PS×Int),0<=b.2->PO b.2 b.1.1 b.1.2.1 b.1.2.2->(L.foldl pG2 b).1.1=L.foldl Ed b.1.1
 |[],_,_,_=>rfl|x::L,b,hn,h=>by obtain⟨h1,h2⟩:=Vj hn h x;rw[U6,Qh L (pG2 b x) (by show 0<=b.2+1;omega) h1,U6];show L.foldl Ed (Ez b.2 b.1 x).1=_;rw[h2]
theorem Qj(d:Int)(l:List H7):∀(q:BR×List H7),ln3 q.1->ln3 (l.foldl (qU d) q).1/\(l.foldl (qU d) q).1.1.length<=q.1.1.length+l.length:=by
 induction l with
 |nil=>exact λq h=>⟨h,o7⟩|cons r l ih=>intro q h;obtain⟨a1,a2⟩:=IZ h d r;obtain⟨b1,b2⟩:=ih (qU d q r) a1;exact⟨b1,by simp only[U6,G6];omega⟩
theorem UM{x:X9}(h:ln3 st)(hx:x.2.2.2.2.length<=B):(Ed st x).1.length<=st.1.length+B:=by
 unfold Ed;cases G5 (icS x)
 .obtain⟨a1,a2⟩:=Qj (tX x) x.2.2.2.2 (st,[]) h;have a2:_<=st.1.length+_:=a2;simp only[E9];omega
 .simp only[F8];omega
theorem a4i(hl:L.length<=1000)(hr:∀x∈L,x.2.2.2.2.length<=B)(hB:L.length*B<=1000000):jC L=some (byS L):=by
 unfold jC byS;refine yw L pG2 (λ(b:PS×Int) i=>(b.1.1.1,b.1.1.2.1,b.1.1.2.2,b.1.2.1,b.1.2.2,i)) (λb=>(b.1.1.1,b.1.1.2.1,b.1.1.2.2)) (λi b=>b.2=(i:Int)/\PO b.2 b.1.1 b.1.2.1 b.1.2.2/\b.1.1.1.length<=i*B) ((([],[],[]),[],[]),0) o5 ⟨rfl,⟨⟨rfl,rfl⟩,rfl,U5,Nj _,λv hv=>by cases hv⟩,di _⟩ (λi x b hx hi hb=>?_) (λb _=>?_) (λ_=>?_)
 .obtain⟨h0,h1,h2⟩:=hb;have hil:=(Z5.1 hx).1;have hrx:=hr x (BH hx);have hiB:i*B+B<=1000000:=by
   have:(i+1)*B<=L.length*B:=C9 _ o5;rw[D8,L9]at this;omega
  have hn:0<=b.2:=o5;obtain⟨p1,p2⟩:=Vj hn h1 x;refine⟨?_,by show b.2+1=_;omega,p1,?_⟩
  rotate_left
  .show(Ez b.2 b.1 x).1.1.length<=_;rw[p2,D8,L9];have:=UM h1.ln hrx;omega
  simp only[vK hx,F8,jQ,hx,iZ,Ot];unfold pG2 Ez;cases hc:icS x
  .simp only[qj,F8,BP (show i<=9000000000000000000 by omega)]
  .simp only[jU,E9];refine yw x.2.2.2.2 (rE b.2 (tX x)) (λ(s:PB) j=>(s.1.1,s.1.2.1,s.1.2.2,s.2.1,s.2.2.1,j)) (λs=>(s.1.1,s.1.2.1,s.1.2.2,s.2.1,s.2.2.1)) (λj s=>PI53 b.2 s/\s.1.1.length<=i*B+j) (b.1.1,b.1.2.1,b.1.2.2,[]) o5 ⟨h1.start,h2⟩ (λj r s hj hj2 hs=>?_) (λs _=>?_) (λ_=>?_)
   .obtain⟨s1,s2⟩:=hs;have hjl:=(Z5.1 hj).1;obtain⟨q1,q2⟩:=s1.step hn (tX x) r;have hbl:=Oc s1.ln (tX x) r;refine⟨?_,q1,?_⟩
    rotate_left
    .have:=(IZ (st:=(s.1,s.2.2.2)) s1.ln (tX x) r).2;rw[←q2]at this;exact vM this (by show s.1.1.length+1<=_;omega)
    have hhas:IJ (λ(a b:H7)=>V7 (seq a.1 b.1) (V7 (seq a.2.1 b.2.1) (x8 a.2.2 b.2.2))) s.2.2.1 r=(ixC s.1.1 r).isSome:=by have:=s1.mp.has r;rw[Option.isSome_map]at this;exact this
    have hget:oM (λ(a b:H7)=>V7 (seq a.1 b.1) (V7 (seq a.2.1 b.2.1) (x8 a.2.2 b.2.2))) s.2.2.1 r 0=((ixC s.1.1 r).map λi=>((i:Nat):Int)).getD 0:=s1.mp.get r 0;obtain⟨l1,l2⟩:=s1.ln;have l3:=s1.ll;simp only[vK hj,F8,jQ,hj,iZ,hhas,hget,BP (show j<=9000000000000000000 by omega)];unfold rE oq;cases h4:ixC s.1.1 r with
    |none=>simp only[kw,qj,F8,JS (show s.1.1.length+[r].length<=1073741824 by simp;omega),JS (show s.1.2.1.length+[(0:Int)].length<=1073741824 by simp;omega),JS (show s.1.2.2.length+[(0:Int)].length<=1073741824 by simp;omega),JS (show s.2.1.length+[(-1:Int)].length<=1073741824 by simp;omega),iZ,Eg l1,zX l1,Eg l2,zX l2,zY l1,zY l2,Eg l3,zX l3,zY l3,Xw,show D7 .i64 0 1=1 from rfl,uk (show ¬(-1:Int)=(i:Int) by omega),E9,h0]|some q=>
     have hq:=(Z5.1 (zJ h4)).1;simp only[oD,jU,E9,bZ,dH,Eh (show q<s.2.1.length by omega) 0,XN (show q<s.2.1.length by omega) 0,iZ];have hd:x8 (s.2.1.getD q 0) (i:Int)=(s.2.2.2.any λa=>kU a r):=by
      have hiff:=s1.is q r (zJ h4);have hv:s.2.1[q]? =some (s.2.1.getD q 0):=by rw[kG o5];simp[List.getD,kG (show q<s.2.1.length by omega)]
      rw[hv]at hiff;rw[dP,bJ,IP,←hiff,h0];simp
     rw[hd];cases s.2.2.2.any λa=>kU a r
     .simp only[E9,Eh (show q<s.1.2.1.length by omega) 0,Ei (show q<s.1.2.1.length by omega) 0,Eh (show q<s.1.2.2.length by omega) 0,Ei (show q<s.1.2.2.length by omega) 0,iZ,Xw,VB,h0]
     .simp only[F8]
   .simp only[vH];rfl
   .simp only[BP (show i<=9000000000000000000 by omega)]
 .simp only[vH];rfl
 .rw[Qh L _ (bF 0) ⟨⟨rfl,rfl⟩,rfl,U5,Nj _,λv hv=>by cases hv⟩]
def Ll(L:List X9):Bool:=bif (L.take 60).any (λx=> !(l7 (I7 60 (x9 x.2.2.2.2)) false (l7 (I7 1125899906842624 x.1.2.2) false (l7 (I7 x.1.2.2 (-1125899906842624)) false (l7 (I7 1125899906842624 x.2.1.2.2) false (G5 (I7 x.2.1.2.2 (-1125899906842624))))))))then false else Y2 (x9 L) 50
theorem ZG(L:List X9):vP L=some (Ll L):=by
 unfold vP Ll;refine Yh (X_ (L.take 60) (λx=> !(l7 (I7 60 (x9 x.2.2.2.2)) false (l7 (I7 1125899906842624 x.1.2.2) false (l7 (I7 x.1.2.2 (-1125899906842624)) false (l7 (I7 1125899906842624 x.2.1.2.2) false (G5 (I7 x.2.1.2.2 (-1125899906842624)))))))) false PUnit.unit (by rw[ah];omega) (λi x hx=>?_) ?_) ?_
 rotate_left 2
 .cases (L.take 60).any _<;>rfl
 .obtain⟨h1,h2⟩:=WS hx;simp only[vK h1,F8,Ec (show(i:Int)<60 by omega),jQ,h1,iZ];cases I7 60 (x9 x.2.2.2.2)
  case true=>rfl
  cases I7 1125899906842624 x.1.2.2
  case true=>rfl
  cases I7 x.1.2.2 (-1125899906842624)
  case true=>rfl
  cases I7 1125899906842624 x.2.1.2.2
  case true=>rfl
  cases I7 x.2.1.2.2 (-1125899906842624)<;>rfl
 .rcases G_ L 60 with h|h
  .rw[h];rfl
  .rw[h];cases I7 ((60:Nat):Int) (x9 L)<;>rfl
theorem TW(h:Ll L=true):L.length<=50/\∀x∈L,x.2.2.2.2.length<=60:=by
 unfold Ll at h;cases h1:(L.take 60).any (λx=> !(l7 (I7 60 (x9 x.2.2.2.2)) false (l7 (I7 1125899906842624 x.1.2.2) false (l7 (I7 x.1.2.2 (-1125899906842624)) false (l7 (I7 1125899906842624 x.2.1.2.2) false (G5 (I7 x.2.1.2.2 (-1125899906842624))))))))<;>rw[h1]at h
 case true=>cases h
 simp only[cond_false,su]at h;have hl:L.length<=50:=by simp only[x9]at h;omega
 refine⟨hl,λx hx=>?_⟩;rw[I5 o5]at h1;have:=kN.1 h1 x hx;cases h2:I7 60 (x9 x.2.2.2.2)
 .have h3:¬(60:Int)<x9 x.2.2.2.2:=λe=>by rw[Ec e]at h2;cases h2
  simp only[x9]at h3;omega
 .rw[h2]at this;simp[l7]at this
theorem Hm{l:List Int}(h:l.length<=1000000):qF l l=some true:=by
 unfold qF;have:=UJ (a:=l) (b:=l) (λ(x:Int)=>x) (λx y=>x8 x y) (λx y=>bJ) h (f:=λ(x:Int)=>
   l7 (I7 x (x9 l)) (l7 (I7 x (x9 l)) (l9 (H9 l x) λ(x_1:Int)=>l9 (H9 l x) λ(x_2:Int)=>l7 (G5 (x8 x_1 x_2)) (some (Out.rt false)) (some (Out.nx (D7 .i64 x 1)))) (some (Out.ex PUnit.unit))) (some (Out.ex PUnit.unit))) (λi x y hx hy=>by
  cases hx.symm.trans hy;simp only[jQ,hx,iZ]) (by simp only[vH];rfl)
 rw[PZ rfl]at this;exact this
theorem Xm{B:Nat} :∀(L:List X9) (st:BR),(∀x∈L,x.2.2.2.2.length<=B)->ln3 st->ln3 (L.foldl Ed st)/\(L.foldl Ed st).1.length<=st.1.length+L.length*B
 |[],st,_,h=>⟨h,o7⟩|x::L,st,hx,h=>by
  have hxB:=hx x o7;have h1:ln3 (Ed st x):=by
   unfold Ed;cases G5 (icS x)
   .exact(Qj (tX x) x.2.2.2.2 (st,[]) h).1
   .exact h
  obtain⟨g1,g2⟩:=Xm L (Ed st x) (λy hy=>hx y (by simp[hy])) h1;have:=UM h hxB;exact⟨g1,by simp only[U6,G6,D8,L9];omega⟩
theorem Sl(L:List X9):kP L=some true:=by
 unfold kP;rw[ZG,iZ,RZ];cases hf:Ll L
 .rfl
 obtain⟨h1,h2⟩:=TW hf;have hB:L.length*60<=1000000:=o5;simp only[jU,E9,a4i o5 h2 hB,a2i o5 h2 hB,iZ];obtain⟨⟨g1,g2⟩,g3⟩:=Xm L ([],[],[]) h2 ⟨rfl,rfl⟩;have hl:(byS L).1.length<=1000000:=by unfold byS;simp at g3;omega
 have hl2:(byS L).2.1.length<=1000000:=by unfold byS at hl ⊢;omega
 have hl3:(byS L).2.2.length<=1000000:=by unfold byS at hl ⊢;omega
 rw[QX _ hl,PZ rfl,iZ,F8,Hm hl2,iZ,F8,Hm hl3];rfl
end Go.GP
namespace Go.GP
open Gt
theorem zk:∀x,RN Gt.ps3 x->(Gt.s3.fn x:Option Bool)=some true:=λx h=>Sl x
end Go.GP
