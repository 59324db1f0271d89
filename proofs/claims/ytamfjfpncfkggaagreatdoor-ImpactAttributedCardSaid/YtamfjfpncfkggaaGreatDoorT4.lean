import Derived.Test.YtamfjfpncfkggaaGreatDoorT1
import Derived.Test.YtamfjfpncfkggaaGreatDoorT2
set_option linter.all false
namespace Go.GP
section
variable {α β σ ε ρ:Type}
@[simp] theorem o7 (x:α) (f:α→Option β):o6 (some x) f=f x:=rfl
@[simp] theorem b4f (f:α→Option β):o6 none f=none:=rfl
theorem jf {o:Option α} {x:α} (h:o=some x) (f:α→Option β):o6 o f=f x:=by rw[h];rfl
theorem ak {o o' :Option α} (h:o=o') {K:α→Option β} {r:Option β} (h2:o6 o' K=r):o6 o K=r:=by rw[h];exact h2
theorem bb (a b:Bool):l7 a (some b) (some false)=some (a&&b):=by cases a <;> rfl
theorem bT (o:Option α):o6 o (fun x=>some x)=o:=by cases o <;> rfl
@[simp] theorem o5 (x y:α):l7 true x y=x:=rfl
@[simp] theorem l9 (x y:α):l7 false x y=y:=rfl
theorem ut {b:Bool} (h:b=true) (x y:α):l7 b x y=x:=by rw[h];rfl
theorem yw {b:Bool} (h:b=false) (x y:α):l7 b x y=y:=by rw[h];rfl
@[simp] theorem D7 (s:σ) (f:σ→α) (g:ε→α):X6 (.inl s) f g=f s:=rfl
@[simp] theorem G5 (s:ε) (f:σ→α) (g:ε→α):X6 (.inr s) f g=g s:=rfl
@[simp] theorem o9:E5 true=false:=rfl
@[simp] theorem D6:E5 false=true:=rfl
theorem E8 {a b:Int} (h:a<b):ilt a b=true:=by simp[ilt,h]
theorem D9 {a b:Int} (h:b≤a):ilt a b=false:=by simp[ilt];omega
theorem F7 {a b:Int} (h:a≤b):ile a b=true:=by simp[ile,h]
theorem F9 {a b:Int} (h:b<a):ile a b=false:=by simp[ile];omega
theorem E9 {a b:Int} (h:a=b):ieq a b=true:=by simp[ieq,h]
theorem D8 {a b:Int} (h:a≠b):ieq a b=false:=by simp[ieq,h]
theorem bW {a b:Int} :ilt a b=true↔a<b:=by simp[ilt]
theorem iI {a b:Int} :ile a b=true↔a≤b:=by simp[ile]
theorem I9 {a b:Int} :ieq a b=true↔a=b:=by simp[ieq]
theorem aT {a b:Int} :ilt a b=false↔b≤a:=by simp[ilt]
theorem uf {a b:Int} :ile a b=false↔b<a:=by simp[ile]
theorem lG {a b:Int} :ieq a b=false↔a≠b:=by simp[ieq]
theorem bg {a b:List UInt8} :seq a b=true↔a=b:=by simp[seq]
theorem OH {a b:List UInt8} :seq a b=false↔a≠b:=by simp[seq]
theorem bu {a b:Int} (h:0≤a):a.tdiv b=a / b:=Int.tdiv_eq_ediv_of_nonneg h
theorem oJ {a b:Int} (h:0≤a):dV a b=a % b:=Int.tmod_eq_emod_of_nonneg h
def I64 (n:Int):Prop:=-9223372036854775808≤n∧n≤9223372036854775807
def U64 (n:Int):Prop:=0≤n∧n≤18446744073709551615
theorem dM {n:Int} (h:I64 n):IntKind.wrap .i64 n=n:=by
 unfold I64 at h
 unfold IntKind.wrap
 simp[IntKind.signed,IntKind.bits]
 omega
theorem a7n {n:Int} (h:U64 n):IntKind.wrap .u64 n=n:=by
 unfold U64 at h
 unfold IntKind.wrap
 simp[IntKind.signed,IntKind.bits]
 omega
theorem J5 {a b:Int} (h:I64 (a+b)):A7 .i64 a b=a+b:=dM h
theorem H8 {a b:Int} (h:I64 (a -b)):G8 .i64 a b=a -b:=dM h
theorem dI {a b:Int} (h:I64 (a*b)):W9 .i64 a b=a*b:=dM h
theorem qN {a b:Int} (h:I64 (a.tdiv b)):aN .i64 a b=a.tdiv b:=dM h
theorem OY {n:Int} (h:(Lit.int .i64 n).wf=true):I64 n:=by
 simp[Lit.wf,IntKind.min,IntKind.max,IntKind.signed,IntKind.bits]at h
 unfold I64;omega
theorem Vl (l:List α):0≤o8 l:=by simp[o8]
theorem F6 (l:List α) (i:Nat):lat l (i:Int)=l[i]?:=by simp[lat]
theorem Z7 {l:List α} {i:Int} {x:α} (h:lat l i=some x):0≤i∧i<o8 l∧x∈l∧l[i.toNat]? =some x:=by
 unfold lat at h
 split at h
 ·rename_i h0
  obtain⟨h1,h2⟩:=J7.1 h
  refine⟨h0,by simp[o8];omega,?_,h⟩
  rw[←h2];exact List.getElem_mem h1
 ·cases h
theorem fU {l:List α} {i:Int} (h0:0≤i) (h:i<o8 l):∃x,lat l i=some x∧x∈l:=by
 unfold o8 at h
 refine⟨l[i.toNat]'(by omega),?_,List.getElem_mem _⟩
 unfold lat
 rw[if_pos h0,Y6]
theorem a0R (l:List UInt8) (i:Nat):sat l (i:Int)=(l[i]?).map fun c=>(c.toNat:Int):=by simp[sat]
theorem Fv {a b:List α} (h:a.length+b.length≤1073741824):dE a b=some (a++b):=by simp[dE,h]
theorem a8d {l:List α} {lo hi:Int} (h0:0≤lo) (h1:lo≤hi) (h2:hi≤l.length):AU l lo hi=some ((l.take hi.toNat).drop lo.toNat):=by simp[AU,h0,h1,h2]
theorem a8e {l:List α} {hi:Int} (h1:0≤hi) (h2:hi≤l.length):AU l 0 hi=some (l.take hi.toNat):=by rw[a8d (by omega) h1 h2];simp
end
section
variable {σ ε ρ:Type}
theorem Jp {f:σ→Option (σ⊕ε)} (Inv:σ→Prop) (Q:ε→Prop) (meas:σ→Nat)
  (h:∀s,Inv s→(∃s',f s=some (.inl s')∧Inv s' ∧meas s' <meas s)∨(∃e,f s=some (.inr e)∧Q e)):
  ∀n s,Inv s→meas s<n→∃e,iC f n s=some e∧Q e
 | 0,_,_,h=>by omega
 | n+1,s,hi,hm=>by
  unfold iC
  rcases h s hi with⟨s',e,hi',hm'⟩ | ⟨x,e,hx⟩
  ·rw[e];exact Jp Inv Q meas h n s' hi' (by omega)
  ·rw[e];exact⟨x,rfl,hx⟩
theorem aC {f:σ→Option (σ⊕ε)} {s:σ} (Inv:σ→Prop) (Q:ε→Prop) (meas:σ→Nat) (hi:Inv s) (hm:meas s<18446744073709551616)
  (h:∀s,Inv s→(∃s',f s=some (.inl s')∧Inv s' ∧meas s' <meas s)∨(∃e,f s=some (.inr e)∧Q e)):∃e,X5 f s=some e∧Q e:=
 Jp Inv Q meas h _ s hi hm
theorem Np {f:σ→Option (Out σ ε ρ)} (Inv:σ→Prop) (Q:ε→Prop) (Qr:ρ→Prop) (meas:σ→Nat)
  (h:∀s,Inv s→(∃s',f s=some (.nx s')∧Inv s' ∧meas s' <meas s)∨(∃e,f s=some (.ex e)∧Q e)∨(∃r,f s=some (.rt r)∧Qr r)):
  ∀n s,Inv s→meas s<n→(∃e,iD f n s=some (.inl e)∧Q e)∨(∃r,iD f n s=some (.inr r)∧Qr r)
 | 0,_,_,h=>by omega
 | n+1,s,hi,hm=>by
  unfold iD
  rcases h s hi with⟨s',e,hi',hm'⟩ | ⟨x,e,hx⟩ | ⟨x,e,hx⟩
  ·rw[e];exact Np Inv Q Qr meas h n s' hi' (by omega)
  ·rw[e];exact .inl ⟨x,rfl,hx⟩
  ·rw[e];exact .inr ⟨x,rfl,hx⟩
theorem vC {f:σ→Option (Out σ ε ρ)} {s:σ} (Inv:σ→Prop) (Q:ε→Prop) (Qr:ρ→Prop) (meas:σ→Nat) (hi:Inv s) (hm:meas s<18446744073709551616)
  (h:∀s,Inv s→(∃s',f s=some (.nx s')∧Inv s' ∧meas s' <meas s)∨(∃e,f s=some (.ex e)∧Q e)∨(∃r,f s=some (.rt r)∧Qr r)):
  (∃e,U2 f s=some (.inl e)∧Q e)∨(∃r,U2 f s=some (.inr r)∧Qr r):=
 Np Inv Q Qr meas h _ s hi hm
end
section
variable {α β ε ρ:Type}
open Classical in
theorem QE (l:List α) (p:Nat→α→Bool) (r:ρ) (e:ε) (f:Int→Option (Out Int ε ρ)) (hl:l.length<18446744073709551616)
  (hin:∀(i:Nat) (a:α),l[i]? =some a→f (i:Int)=if p i a=true then some (.nx ((i+1:Nat):Int))else some (.rt r))
  (hend:f (l.length:Int)=some (.ex e)):
  U2 f 0=if(∀i a,l[i]? =some a→p i a=true)then some (.inl e)else some (.inr r):=by
 have key:∀(n i:Nat),i≤l.length→l.length -i<n→(∀j a,j<i→l[j]? =some a→p j a=true)→iD f n (i:Int)=if(∀i a,l[i]? =some a→p i a=true)then some (.inl e)else some (.inr r):=by
  intro n
  induction n with
  | zero=>intro i _ h;omega
  | succ n ih=>
   intro i hi hn hp
   unfold iD
   by_cases h:i<l.length
   ·have e' :=Y6 h
    rw[hin i _ e']
    by_cases hpi:p i l[i]=true
    ·rw[if_pos hpi]
     exact ih (i+1) (by omega) (by omega) fun j a hj ha=>by
      by_cases hji:j=i
      ·subst hji;rw[e']at ha;cases ha;exact hpi
      ·exact hp j a (by omega) ha
    ·rw[if_neg hpi,if_neg]
     intro hall
     exact hpi (hall i _ e')
   ·have:i=l.length:=by omega
    subst this
    rw[hend,if_pos]
    intro j a ha
    exact hp j a (J7.1 ha).1 ha
 exact key _ 0 (Nat.zero_le _) hl fun j a hj=>by omega
end
end Go.GP
namespace Go.GP
section
variable {α β α' β' σ τ ε ε' ρ ρ' :Type}
def Ag (R:α→β→Prop) (o:Option α) (p:Option β):Prop:=∃a b,o=some a∧p=some b∧R a b
theorem Ag.mk {R:α→β→Prop} {a:α} {b:β} (h:R a b):Ag R (some a) (some b):=⟨a,b,rfl,rfl,h⟩
theorem Ag.mono {R S:α→β→Prop} {o:Option α} {p:Option β} (h:Ag R o p) (hs:∀a b,o=some a→p=some b→R a b→S a b):Ag S o p:=by
 obtain⟨a,b,h1,h2,h3⟩:=h
 exact⟨a,b,h1,h2,hs a b h1 h2 h3⟩
theorem Ag.bind {R:α→β→Prop} {S:α' →β' →Prop} {o:Option α} {p:Option β} {f:α→Option α'} {g:β→Option β'} (h:Ag R o p)
  (hk:∀a b,o=some a→p=some b→R a b→Ag S (f a) (g b)):Ag S (o6 o f) (o6 p g):=by
 obtain⟨a,b,h1,h2,h3⟩:=h
 have:=hk a b h1 h2 h3
 rw[h1,h2];exact this
theorem Ag.left {S:α' →β→Prop} {o:Option α} {a:α} {f:α→Option α'} {p:Option β} (h:o=some a) (hk:Ag S (f a) p):Ag S (o6 o f) p:=by rw[h];exact hk
theorem Ag.right {S:α→β' →Prop} {p:Option β} {b:β} {g:β→Option β'} {o:Option α} (h:p=some b) (hk:Ag S o (g b)):Ag S o (o6 p g):=by rw[h];exact hk
theorem Ag.cond {S:α→β→Prop} {b c:Bool} {x y:Option α} {u v:Option β} (h:b=c) (h1:b=true→Ag S x u) (h2:b=false→Ag S y v):Ag S (l7 b x y) (l7 c u v):=by
 subst h
 cases b
 ·exact h2 rfl
 ·exact h1 rfl
theorem Ag.eq {o p:Option α} (h:Ag Eq o p):∃a,o=some a∧p=some a:=by
 obtain⟨a,b,h1,h2,rfl⟩:=h
 exact⟨a,h1,h2⟩
def c3s (E:ε→ε' →Prop) (Q:ρ→ρ' →Prop):ε⊕ρ→ε' ⊕ρ' →Prop
 | .inl a,.inl b=>E a b
 | .inr a,.inr b=>Q a b
 | _,_=>False
theorem Ag.sum {E:ε→ε' →Prop} {Q:ρ→ρ' →Prop} {S:α→β→Prop} {o:ε⊕ρ} {p:ε' ⊕ρ'} {f:ε→Option α} {g:ρ→Option α} {f' :ε' →Option β} {g' :ρ' →Option β} (h:c3s E Q o p)
  (h1:∀a b,E a b→Ag S (f a) (f' b)) (h2:∀a b,Q a b→Ag S (g a) (g' b)):Ag S (X6 o f g) (X6 p f' g'):=by
 cases o <;> cases p <;> first | exact h1 _ _ h | exact h2 _ _ h | exact h.elim
theorem AQ {p:Nat→Option ρ} (n:Nat) (hn:n<18446744073709551616) (e:ε) {f:Int→Option (Out Int ε ρ)}
  (h1:∀i,i<n→f (i:Int)=some (match p i with | some r=> .rt r | none=> .nx ((i+1:Nat):Int))) (h2:f (n:Int)=some (.ex e)):
  U2 f 0=some (match(List.range n).findSome? p with | some r=> .inr r | none=> .inl e):=by
 have key:∀m i,i+m=n→∀k,m<k→iD f k (i:Int)=some (match(List.range' i m).findSome? p with | some r=> .inr r | none=> .inl e):=by
  intro m
  induction m with
  | zero=>
   intro i hi k hk
   obtain⟨k,rfl⟩:∃k',k=k' +1:=⟨k -1,by omega⟩
   have:i=n:=by omega
   subst this
   unfold iD
   rw[h2]
   rfl
  | succ m ih=>
   intro i hi k hk
   obtain⟨k,rfl⟩:∃k',k=k' +1:=⟨k -1,by omega⟩
   unfold iD
   rw[h1 i (by omega),List.range'_succ,List.findSome?_cons]
   cases hp:p i with
   | some r=>rfl
   | none=>exact ih (i+1) (by omega) k (by omega)
 have:=key n 0 (by omega) dN hn
 rw[List.range_eq_range']
 exact this
end
end Go.GP
namespace Go.GP
open Gt
set_option maxRecDepth 100000
theorem X3 {i:Nat} (h:i≤9000000000000000000):A7 .i64 (i:Int) 1=((i+1:Nat):Int):=by
 rw[J5 (by unfold I64;omega)];omega
def SA (c:UInt8):Bool:=decide (97≤c.toNat)&&decide (c.toNat≤122)
def zS (c:UInt8):Bool:=SA c || (decide (48≤c.toNat)&&decide (c.toNat≤57)) || decide (c.toNat=95)
def PN:List (List UInt8):=c7H.getD []
def vg (s:List UInt8):Bool:=match s with | []=>false | c::r=>decide (s.length≤16)&&SA c&&s.all zS&&!(PN.any fun w=>seq s w)
theorem a1H (c:UInt8) (r:List UInt8):vg (c::r)=(decide ((c::r).length≤16)&&SA c&&(c::r).all zS&&!(PN.any fun w=>seq (c::r) w)):=rfl
theorem Vq (c:UInt8):lC (c.toNat:Int)=some (SA c):=by
 unfold lC SA
 cases h:decide (97≤c.toNat) <;> simp only[decide_eq_true_eq,decide_eq_false_iff_not]at h
 ·rw[F9 (by omega)];rfl
 ·rw[F7 (by omega)]
  simp only[o5,Bool.true_and,ile]
  congr 1
  by_cases h2:c.toNat≤122 <;> simp[h2] <;> omega
def a3p (c:UInt8):Bool:=decide (48≤c.toNat)&&decide (c.toNat≤57)
theorem a3q (c:UInt8):oK (c.toNat:Int)=some (a3p c):=by
 unfold oK a3p
 cases h:decide (48≤c.toNat) <;> simp only[decide_eq_true_eq,decide_eq_false_iff_not]at h
 ·rw[F9 (by omega)];rfl
 ·rw[F7 (by omega)]
  simp only[o5,Bool.true_and,ile]
  congr 1
  by_cases h2:c.toNat≤57 <;> simp[h2] <;> omega
theorem b7I (c:UInt8):ieq (c.toNat:Int) 95=decide (c.toNat=95):=by
 unfold ieq
 by_cases h:c.toNat=95 <;> simp[h] <;> omega
theorem PE {s:List UInt8} (h:s.length≤1000000):∃k,nY s=some k∧(k=o8 s↔s.all zS=true):=by
 unfold nY
 have:=aC (f:=fun(x:Int)=>l7 (ilt x (o8 s)) (o6 (sat s x) fun x_1=>o6 (lC x_1) fun x_2=>l7 x_2 (some (Sum.inl (A7 IntKind.i64 x 1)))
   (o6 (sat s x) fun x_3=>o6 (oK x_3) fun x_4=>l7 x_4 (some (Sum.inl (A7 IntKind.i64 x 1))) (o6 (sat s x) fun x_5=>l7 (ieq x_5 95) (some (Sum.inl (A7 IntKind.i64 x 1))) (some (Sum.inr x))))) (some (Sum.inr x)))
  (s:=0) (fun x=>∃i:Nat,x=i∧i≤s.length∧(s.take i).all zS=true) (fun k=>k=o8 s↔s.all zS=true) (fun x=>s.length -x.toNat) ⟨0,rfl,by omega,rfl⟩ (by simp;omega) ?_
 ·obtain⟨k,h1,h2⟩:=this
  refine⟨k,?_,h2⟩
  rw[bT];exact h1
 ·rintro x ⟨i,rfl,hi,hall⟩
  by_cases hl:i<s.length
  ·have e:=Y6 hl
   simp only[E8 (show(i:Int)<o8 s by simp[o8];omega),o5,a0R,e,Option.map_some,o7,Vq,a3q,b7I]
   have hst:(s.take (i+1)).all zS=((s.take i).all zS&&zS s[i]):=by rw[List.take_succ_eq_append_getElem hl,List.all_append];simp
   have hw:zS s[i]=(SA s[i] || a3p s[i] || decide (s[i].toNat=95)):=rfl
   cases hwb:zS s[i]with
   | true=>
    left
    refine⟨((i+1:Nat):Int),?_,⟨i+1,rfl,hl,by rw[hst,hall,hwb];rfl⟩,by simp;omega⟩
    rw[X3 (by omega)]
    rw[hw]at hwb
    cases h1:SA s[i] <;> cases h2:a3p s[i] <;> cases h3:decide (s[i].toNat=95) <;> rw[h1,h2,h3]at hwb <;> first | rfl | cases hwb
   | false=>
    right
    refine⟨(i:Int),?_,?_⟩
    ·rw[hw]at hwb
     cases h1:SA s[i] <;> cases h2:a3p s[i] <;> cases h3:decide (s[i].toNat=95) <;> rw[h1,h2,h3]at hwb <;> first | rfl | cases hwb
    ·constructor
     ·intro h;simp[o8]at h;omega
     ·intro h
      have:=List.all_eq_true.1 h s[i] (List.getElem_mem hl)
      rw[hwb]at this;cases this
  ·right
   have:i=s.length:=by omega
   subst this
   rw[List.take_length]at hall
   exact⟨_,by rw[D9 (by simp[o8])];rfl,by simp[o8,hall]⟩
theorem a2s {a:List UInt8} {w:List UInt8} {r:Option Bool} {x:Bool} (h:r=some x):l7 (seq a w) (some (seq a w)) r=some (seq a w || x):=by
 rw[h];cases seq a w <;> rfl
theorem Wh (s:List UInt8):qR s=some (PN.any fun w=>seq s w):=by
 unfold qR
 refine ak (o' :=some (PN.any fun w=>seq s w)) ?_ (by cases PN.any fun w=>seq s w <;> rfl)
 have hr:PN=(c7H).getD []:=rfl
 rw[show(PN.any fun w=>seq s w)=List.foldr (fun w b=>seq s w || b) false PN from by induction PN with | nil=>rfl | cons w l ih=>simp[List.any_cons,ih]]
 unfold PN c7H
 simp only[Option.getD_some,List.foldr]
 repeat (refine a2s ?_)
 simp
theorem iP {s:List UInt8} (h:s.length≤1000000):aB s=some (vg s):=by
 unfold aB
 cases s with
 | nil=>rfl
 | cons c r=>
  have h1:seq (c::r) []=false:=by simp[seq]
  obtain⟨k,h2,h3⟩:=PE h
  rw[h1]
  simp only[D6,o5]
  rw[show sat (c::r) 0=some (c.toNat:Int)from rfl,o7,Vq,o7,h2,o7,Wh,o7]
  have h4:ieq k (o8 (c::r))=(c::r).all zS:=by
   rw[Bool.eq_iff_iff,I9];exact h3
  have h5:ile (o8 (c::r)) 16=decide ((c::r).length≤16):=by simp only[ile,o8];congr 1;simp;omega
  rw[h4,h5,a1H]
  cases SA c <;> cases (c::r).all zS <;> cases decide ((c::r).length≤16) <;> rfl
theorem GN (t:Int×Int) (en:List bP):aG t en=c6P t en:=by
 unfold aG c6P
 by_cases h1:t.1=1
 ·simp[ieq,h1,ile]
 by_cases h2:t.1=2
 ·simp[ieq,h2,ile]
 by_cases h3:t.1=3
 ·simp[ieq,h3,ile]
 by_cases h4:t.1=4
 ·simp[ieq,h4,ile]
 by_cases h5:t.1=5
 ·simp[ieq,h5,ile]
 by_cases h6:t.1=6
 ·simp[ieq,h6,ile]
 ·simp only[ieq,h1,h2,h3,h4,h5,h6,decide_false,l9,o7]
  by_cases h7:1≤t.1
  ·rw[ut (F7 h7),yw (F9 (by omega))]
  ·rw[yw (F9 (by omega))]
theorem a1m (t:Int×Int) (en:List bP):jl t en=c7a t en:=by
 unfold jl c7a
 rw[GN]
def vty (t:Int×Int) (en:List bP):Bool:=l7 (ieq t.1 6) (l7 (ile 0 t.2) (ilt t.2 (o8 en)) false) (l7 (ile 1 t.1) (l7 (ile t.1 5) (ieq t.2 0) false) false)
theorem gU (t:Int×Int) (en:List bP):c6P t en=some (vty t en):=by
 unfold c6P vty
 cases ieq t.1 6 <;> cases ile 0 t.2 <;> cases ile 1 t.1 <;> cases ile t.1 5 <;> rfl
theorem ou (t:Int×Int) (en:List bP):aG t en=some (vty t en):=(GN t en).trans (gU t en)
theorem Tq (t:Int×Int) (en:List bP):∃b:Int×Int,c7a t en=some b:=by
 unfold c7a
 rw[gU,o7]
 cases hv:vty t en
 ·exact⟨_,rfl⟩
 simp only[o9,l9]
 cases h1:ieq t.1 1 <;> simp only[o5,l9]
 ·cases h2:ieq t.1 2 <;> simp only[o5,l9]
  ·cases h3:ieq t.1 3 <;> simp only[o5,l9]
   ·cases h4:ieq t.1 4 <;> simp only[o5,l9]
    ·cases h5:ieq t.1 5 <;> simp only[o5,l9]
     ·have h6:ieq t.1 6=true∧ile 0 t.2=true∧ilt t.2 (o8 en)=true:=by
       unfold vty at hv
       rw[lG]at h1 h2 h3 h4 h5
       cases h6:ieq t.1 6 <;> rw[h6]at hv
       ·rw[lG]at h6
        cases h7:ile 1 t.1 <;> rw[h7]at hv
        ·cases hv
        cases h8:ile t.1 5 <;> rw[h8]at hv
        ·cases hv
        rw[iI]at h7 h8
        omega
       ·cases h7:ile 0 t.2 <;> rw[h7]at hv
        ·cases hv
        ·exact⟨rfl,rfl,hv⟩
      obtain⟨x,hx,_⟩:=fU (iI.1 h6.2.1) (bW.1 h6.2.2)
      rw[hx];exact⟨_,rfl⟩
     ·exact⟨_,rfl⟩
    ·exact⟨_,rfl⟩
   ·exact⟨_,rfl⟩
  ·exact⟨_,rfl⟩
 ·exact⟨_,rfl⟩
def bnd (t:Int×Int) (en:List bP):Int×Int:=(c7a t en).getD (0,0)
theorem Oh (t:Int×Int) (en:List bP):c7a t en=some (bnd t en):=by
 obtain⟨b,h⟩:=Tq t en
 unfold bnd;rw[h];rfl
theorem Hg (t:Int×Int) (en:List bP):jl t en=some (bnd t en):=(a1m t en).trans (Oh t en)
def inB (n:Int) (b:Int×Int):Bool:=l7 (ile b.1 n) (ile n b.2) false
def zU (r:Int×Int):Bool:=l7 (ile 0 r.1) (l7 (ile r.1 r.2) (ile r.2 109573) false) false
theorem Cj (r:Int×Int):iQ r=some (zU r):=by
 unfold iQ zU
 cases ile 0 r.1 <;> cases ile r.1 r.2 <;> rfl
def ZA (a b:Int×Int):(Int×Int)×Bool:=l7 (zU a) (l7 (zU b) (l7 (ile (kG a.2 b.2) (gV a.1 b.1)) ((0,0),false) ((gV a.1 b.1,kG a.2 b.2),true)) ((0,0),false)) ((0,0),false)
theorem a8Q (a b:Int×Int):jK a b=some (ZA a b):=by
 unfold jK lJ ZA
 rw[Cj,o7,Cj,o7]
 cases zU a
 ·rfl
 simp only[o5]
 cases h1:ilt a.1 a.2
 ·rw[aT]at h1
  rw[F7 (show kG a.2 b.2≤gV a.1 b.1 by unfold kG gV;omega)]
  cases zU b <;> rfl
 simp only[o7,o9,l9]
 cases zU b
 ·rfl
 simp only[o5]
 cases h2:ilt b.1 b.2
 ·rw[aT]at h2
  rw[F7 (show kG a.2 b.2≤gV a.1 b.1 by unfold kG gV;omega)]
  rfl
 ·cases ile (kG a.2 b.2) (gV a.1 b.1) <;> rfl
def wF (a b:tH):Bool:=l7 (ZA a.1 b.1).2 (ilt (gV a.2.1 b.2.1) (kG a.2.2.1 b.2.2.1)) false
theorem UB (a b:tH):rD a b=some (wF a b):=by
 unfold rD wF
 rw[a8Q,o7]
 cases (ZA a.1 b.1).2 <;> rfl
theorem a3F {l:List tH} (r:tH) (h:l.length≤1000000):∃k:Int,jP l r=some (k,l.any fun y=>wF y r):=by
 unfold jP
 have key:=vC (f:=fun(x:Int)=>l7 (ilt x (o8 l)) (o6 (lat l x) fun x_1=>o6 (kF x_1 r) fun x_2=>l7 x_2 (some (Out.rt (x,true))) (some (Out.nx (A7 IntKind.i64 x 1)))) (some (Out.ex PUnit.unit)))
   (s:=0) (fun x=>∃i:Nat,x=i∧i≤l.length∧(l.take i).any (fun y=>wF y r)=false) (fun _=>(l.any fun y=>wF y r)=false) (fun k=>k.2=true∧(l.any fun y=>wF y r)=true) (fun x=>l.length -x.toNat) ⟨0,rfl,by omega,rfl⟩ (by simp;omega) ?_
 ·rcases key with⟨e,h1,h2⟩ | ⟨k,h1,h2,h3⟩
  ·exact⟨0,by rw[h1,h2];rfl⟩
  ·refine⟨k.1,?_⟩
   rw[h1,h3,←h2];rfl
 ·rintro x ⟨i,rfl,hi,hall⟩
  by_cases hl:i<l.length
  ·have e:=Y6 hl
   have hst:(l.take (i+1)).any (fun y=>wF y r)=((l.take i).any (fun y=>wF y r) || wF l[i] r):=by rw[List.take_succ_eq_append_getElem hl,List.any_append];simp
   have hv:kF l[i] r=some (wF l[i] r):=by unfold kF;rw[UB];rfl
   simp only[E8 (show(i:Int)<o8 l by simp[o8];omega),o5,F6,e,o7,hv]
   cases hc:wF l[i] r with
   | true=>exact .inr (.inr ⟨_,rfl,rfl,List.any_eq_true.2 ⟨l[i],List.getElem_mem hl,hc⟩⟩)
   | false=>exact .inl ⟨((i+1:Nat):Int),by rw[X3 (by omega)];rfl,⟨i+1,rfl,hl,by rw[hst,hall,hc];rfl⟩,by simp;omega⟩
  ·have:i=l.length:=by omega
   subst this
   rw[List.take_length]at hall
   exact .inr (.inl ⟨_,by rw[D9 (by simp[o8])];rfl,hall⟩)
def Za (x:tH) (bl br:Int×Int):Bool:=
 l7 (zU x.1) (l7 (ieq x.1.1 x.1.2) true (l7 (ile x.2.2.1 x.2.1) true (l7 (inB x.2.1 bl) (l7 (inB (G8 .i64 x.2.2.1 1) bl) (E5 (inB x.2.2.2 br)) true) true))) true
def Yo (t:ai) (en:List bP) (i:Nat):Option (Int×Int):=match t.2.2.2[i]? with
 | some x=>l7 (Za x (bnd t.2.1 en) (bnd t.2.2.1 en)) (some ((i:Int),3)) (l7 ((t.2.2.2.take i).any fun y=>wF y x) (some ((i:Int),11)) none)
 | none=>none
def Kt (t:ai) (en:List bP):Int×Int:=
 l7 (ilt 64 (o8 t.2.2.2)) (64,4) (l7 (vty t.2.1 en) (l7 (vty t.2.2.1 en) (match(List.range t.2.2.2.length).findSome? (Yo t en)with | some r=>r | none=>(0,0)) (-1,8)) (-1,8))
theorem jb (a b:Int):ilt a b= !ile b a:=by
 simp only[ilt,ile];rw[←decide_not];congr 1;simp
theorem qw {α:Type} {l:List α} {i:Nat} (h:i≤l.length):AU l 0 (i:Int)=some (l.take i):=by rw[a8e (by omega) (by omega)];simp
theorem a7d (t:ai) (en:List bP):rC t en=some (Kt t en):=by
 unfold rC Kt
 rw[ou,o7,ou,o7]
 cases h64:ilt 64 (o8 t.2.2.2)
 case true=>rfl
 simp only[l9]
 cases vty t.2.1 en
 ·rfl
 cases vty t.2.2.1 en
 ·rfl
 simp only[o9,l9,o7,D7,o5,Hg]
 have hlen:t.2.2.2.length≤64:=by rw[aT]at h64;simp only[o8]at h64;omega
 refine ak (AQ (p:=Yo t en) t.2.2.2.length (by omega) PUnit.unit (fun i hi=>?_) ?_) ?_
 rotate_left 2
 ·cases (List.range t.2.2.2.length).findSome? (Yo t en) <;> rfl
 ·have e:=Y6 hi
  simp only[E8 (show(i:Int)<o8 t.2.2.2 by simp only[o8];omega),o5,F6,e,o7,Yo,Cj,qw (show i≤t.2.2.2.length by omega)]
  obtain⟨k,hk⟩:=a3F (l:=t.2.2.2.take i) t.2.2.2[i] (by simp;omega)
  rw[hk,X3 (by omega)]
  unfold Za inB
  simp only[jb]
  generalize bnd t.2.1 en=bl
  generalize bnd t.2.2.1 en=br
  cases zU t.2.2.2[i].1
  ·rfl
  cases ieq t.2.2.2[i].1.1 t.2.2.2[i].1.2
  case true=>rfl
  cases ile t.2.2.2[i].2.2.1 t.2.2.2[i].2.1
  case true=>rfl
  cases ile bl.1 t.2.2.2[i].2.1
  ·rfl
  cases ile t.2.2.2[i].2.1 bl.2
  ·rfl
  cases ile bl.1 (G8 IntKind.i64 t.2.2.2[i].2.2.1 1)
  ·rfl
  cases ile (G8 IntKind.i64 t.2.2.2[i].2.2.1 1) bl.2
  ·rfl
  cases ile br.1 t.2.2.2[i].2.2.2
  ·rfl
  cases ile t.2.2.2[i].2.2.2 br.2
  ·rfl
  cases (t.2.2.2.take i).any fun y=>wF y t.2.2.2[i] <;> rfl
 ·rw[D9 (by simp[o8])];rfl
section
variable {α ε ρ:Type}
theorem BZ (l:List α) (p:α→Bool) (r:ρ) (e:ε) {f:Int→Option (Out Int ε ρ)} (hl:l.length≤1000000)
  (hin:∀(i:Nat) (a:α),l[i]? =some a→f (i:Int)=some (bif p a then .rt r else .nx (A7 .i64 (i:Int) 1))) (hend:f (l.length:Int)=some (.ex e)):
  U2 f 0=some (bif l.any p then .inr r else .inl e):=by
 rw[QE l (fun i a=> !p a) r e f (by omega) (fun i a ha=>?_) hend]
 ·have hb:(∀(j:Nat) (a:α),l[j]? =some a→(!p a)=true)↔l.any p=false:=by
   rw[List.any_eq_false]
   constructor
   ·intro h x hx
    obtain⟨j,hj,rfl⟩:=List.getElem_of_mem hx
    have:=h j _ (Y6 hj)
    simpa using this
   ·intro h j a hj
    have:=h a (dG hj)
    simpa using this
  by_cases hv:l.any p=false
  ·rw[if_pos (hb.2 hv),hv];rfl
  ·rw[if_neg (fun h=>hv (hb.1 h))]
   simp only[Bool.not_eq_false]at hv
   rw[hv];rfl
 ·have hi:=(J7.1 ha).1
  rw[hin i a ha,X3 (by omega)]
  cases p a <;> rfl
theorem rX (l:List α) (p:α→Bool) {f:Int→Option (Out Int PUnit Int)} (hl:l.length≤1000000)
  (hin:∀(i:Nat) (a:α),l[i]? =some a→f (i:Int)=some (bif p a then .rt (i:Int)else .nx (A7 .i64 (i:Int) 1))) (hend:f (l.length:Int)=some (.ex PUnit.unit)):
  o6 (o6 (U2 f 0) fun o=>X6 o (fun _=>some (-1)) fun r=>some r) (fun x=>some (ile 0 x))=some (l.any p):=by
 have key:=vC (f:=f) (s:=0) (fun x=>∃i:Nat,x=i∧i≤l.length∧(l.take i).any p=false) (fun _=>l.any p=false) (fun k=>0≤k∧l.any p=true) (fun x=>l.length -x.toNat) ⟨0,rfl,by omega,rfl⟩ (by simp;omega) ?_
 ·rcases key with⟨e,h1,h2⟩ | ⟨k,h1,h2,h3⟩
  ·rw[h1,h2];rfl
  ·rw[h1,h3,o7,G5,o7,F7 h2]
 ·rintro x ⟨i,rfl,hi,hall⟩
  by_cases h:i<l.length
  ·have e:=Y6 h
   have hst:(l.take (i+1)).any p=((l.take i).any p || p l[i]):=by rw[List.take_succ_eq_append_getElem h,List.any_append];simp
   rw[hin i _ e]
   cases hc:p l[i]with
   | true=>exact .inr (.inr ⟨_,rfl,by omega,List.any_eq_true.2 ⟨l[i],List.getElem_mem h,hc⟩⟩)
   | false=>exact .inl ⟨((i+1:Nat):Int),by rw[X3 (by omega)];rfl,⟨i+1,rfl,h,by rw[hst,hall,hc];rfl⟩,by simp;omega⟩
  ·have:i=l.length:=by omega
   subst this
   rw[List.take_length]at hall
   exact .inr (.inl ⟨_,hend,hall⟩)
theorem H9 {i:Nat} {l:List α} {a:α} (h:l[i]? =some a):ilt (i:Int) (o8 l)=true:=E8 (by have:=(J7.1 h).1;simp only[o8];omega)
theorem I4 (l:List α):ilt (l.length:Int) (o8 l)=false:=D9 (by simp[o8])
end
theorem Eh {l:List bP} (n:List UInt8) (h:l.length≤1000000):qp l n=some (l.any fun x=>seq x.1 n):=by
 unfold qp bi cO
 rw[bT]
 refine rX l (fun x=>seq x.1 n) h (fun i a ha=>?_) (by rw[I4];rfl)
 rw[H9 ha,o5,F6,ha,o7]
 unfold xC
 rw[o7]
 cases seq a.1 n <;> rfl
theorem Jm {l:List ai} (n:List UInt8) (h:l.length≤1000000):qQ l n=some (l.any fun x=>seq x.1 n):=by
 unfold qQ aO bF
 rw[bT]
 refine rX l (fun x=>seq x.1 n) h (fun i a ha=>?_) (by rw[I4];rfl)
 rw[H9 ha,o5,F6,ha,o7]
 unfold vz
 rw[o7]
 cases seq a.1 n <;> rfl
theorem UW {l:List x9} (s:x9) (h:l.length≤1000000):Y5 l s=some (l.any fun x=>seq x.1 s.1):=by
 unfold Y5 bD
 refine rX l (fun x=>seq x.1 s.1) h (fun i a ha=>?_) (by rw[I4];rfl)
 rw[H9 ha,o5,F6,ha,o7]
 unfold rZ
 rw[o7]
 cases seq a.1 s.1 <;> rfl
theorem XC {l:List J6} (s:J6) (h:l.length≤1000000):Z8 l s=some (l.any fun x=>seq x.1 s.1):=by
 unfold Z8 cZ
 refine rX l (fun x=>seq x.1 s.1) h (fun i a ha=>?_) (by rw[I4];rfl)
 rw[H9 ha,o5,F6,ha,o7]
 unfold ug
 rw[o7]
 cases seq a.1 s.1 <;> rfl
theorem Jl {l:List Y9} (s:Y9) (h:l.length≤1000000):U7 l s=some (l.any fun x=>seq x.1 s.1):=by
 unfold U7 bC
 refine rX l (fun x=>seq x.1 s.1) h (fun i a ha=>?_) (by rw[I4];rfl)
 rw[H9 ha,o5,F6,ha,o7]
 unfold rY
 rw[o7]
 cases seq a.1 s.1 <;> rfl
theorem a1B {l:List (List UInt8)} (s:List UInt8) (h:l.length≤1000000):bJ l s=some (l.any fun x=>seq s x):=by
 unfold bJ iG
 refine rX l (fun x=>seq s x) h (fun i a ha=>?_) (by rw[I4];rfl)
 rw[H9 ha,o5,F6,ha,o7]
 cases seq s a <;> rfl
theorem a1A {l:List Int} (s:Int) (h:l.length≤1000000):fJ l s=some (l.any fun x=>ieq s x):=by
 unfold fJ ny
 refine rX l (fun x=>ieq s x) h (fun i a ha=>?_) (by rw[I4];rfl)
 rw[H9 ha,o5,F6,ha,o7]
 cases ieq s a <;> rfl
section
variable {α ε ρ:Type}
end
theorem ZK (i k:Nat):ilt (i:Int) (k:Int)=decide (i<k):=by
 unfold ilt;by_cases h:i<k <;> simp[h] <;> omega
def DU (l:J3) (kind:Nat) (k:Nat) (n:List UInt8):Bool:=
 match kind with
 | 1=>(l.1.take k).any fun x=>seq x.1 n
 | 2=>(l.1.any fun x=>seq x.1 n) || ((l.2.1.take k).any fun x=>seq x.1 n)
 | _=>(l.1.any fun x=>seq x.1 n) || (l.2.1.any fun x=>seq x.1 n) || ((l.2.2.take k).any fun x=>seq x.1 n)
def Few (l:J3):Prop:=l.1.length≤1000∧l.2.1.length≤1000∧l.2.2.length≤1000
def a8h (ms:List (List UInt8)) (i:Nat):Option (Int×Int):=match ms[i]? with
 | some m=>l7 (vg m) (l7 ((ms.take i).any fun x=>seq m x) (some (7,((100+i:Nat):Int))) none) (some (2,((100+i:Nat):Int)))
 | none=>none
def UG (l:J3) (i:Nat) (e:bP):Int×Int:=
 l7 (vg e.1) (l7 (DU l 1 i e.1) (7,0) (l7 (ieq (o8 e.2) 0) (5,0) (l7 (ilt 16 (o8 e.2)) (4,116) (match(List.range e.2.length).findSome? (a8h e.2)with | some r=>r | none=>(0,0))))) (2,0)
theorem a7Y {i:Nat} (h:i≤1000000):A7 .i64 100 (i:Int)=((100+i:Nat):Int):=by
 rw[J5 (by unfold I64;omega)];omega
theorem RH {l:J3} (h:Few l) {i:Nat} (hi:i≤l.1.length) (e:bP) (h1:e.1.length≤1000000) (h2:∀m∈e.2,m.length≤1000000):
  sV l (i:Int) e=some (UG l i e):=by
 unfold sV UG DU
 rw[iP h1,o7,qw hi,o7,Eh _ (by have:=h.1;simp;omega),o7]
 cases vg e.1
 ·rfl
 simp only[o9,l9,o5]
 cases (l.1.take i).any fun x=>seq x.1 e.1
 case true=>rfl
 cases ieq (o8 e.2) 0
 case true=>rfl
 cases h16:ilt 16 (o8 e.2)
 case true=>rfl
 simp only[l9]
 have hlen:e.2.length≤16:=by rw[aT]at h16;simp only[o8]at h16;omega
 refine ak (AQ (p:=a8h e.2) e.2.length (by omega) PUnit.unit (fun j hj=>?_) ?_) ?_
 rotate_left 2
 ·cases (List.range e.2.length).findSome? (a8h e.2) <;> rfl
 ·have e' :=Y6 hj
  rw[H9 e',o5,F6,e',o7,iP (h2 _ (List.getElem_mem hj)),o7,qw (by omega),o7,a1B _ (by simp;omega),o7,a7Y (by omega),X3 (by omega)]
  simp only[a8h,e']
  cases vg e.2[j]
  ·rfl
  cases (e.2.take j).any fun x=>seq e.2[j] x <;> rfl
 ·rw[I4];rfl
theorem UU {β:Type} {p:Nat→Option β} {n j:Nat} {c:β} (h0:(List.range j).findSome? p=none) (h1:p j=some c) (hj:j<n):(List.range n).findSome? p=some c:=by
 induction n with
 | zero=>omega
 | succ n ih=>
  rw[List.range_succ,List.findSome?_append]
  by_cases h:j<n
  ·rw[ih h];rfl
  ·have:j=n:=by omega
   subst this;rw[h0];simp[h1]
theorem a7X {β:Type} {p:Nat→Option β} {j:Nat} (h0:(List.range j).findSome? p=none) (h1:p j=none):(List.range (j+1)).findSome? p=none:=by
 rw[List.range_succ,List.findSome?_append,h0];simp[h1]
def P7 {ρ:Type} (n:Nat) (p:Nat→Option ρ):Option ρ:=(List.range n).findSome? p
theorem Az {σ ε ρ:Type} {p:Nat→Option ρ} (n:Nat) (hn:n≤1000000) (a:σ) (e:ε) {f:σ×Int→Option (Out (σ×Int) ε ρ)}
  (h1:∀i,i<n→f (a,(i:Int))=some (match p i with | some r=> .rt r | none=> .nx (a,A7 .i64 (i:Int) 1))) (h2:f (a,(n:Int))=some (.ex e)):
  U2 f (a,0)=some (match P7 n p with | some r=> .inr r | none=> .inl e):=by
 have key:=vC (f:=f) (s:=(a,0)) (fun x=>∃i:Nat,x=(a,(i:Int))∧i≤n∧P7 i p=none) (fun x=>x=e∧P7 n p=none) (fun r=>P7 n p=some r) (fun x=>n -x.2.toNat) ⟨0,rfl,by omega,rfl⟩ (by simp;omega) ?_
 ·rcases key with⟨x,k1,rfl,k2⟩ | ⟨r,k1,k2⟩
  ·rw[k1,k2]
  ·rw[k1,k2]
 ·rintro x ⟨i,rfl,hi,hnone⟩
  by_cases h:i<n
  ·rw[h1 i h]
   cases hp:p i with
   | some r=>exact .inr (.inr ⟨_,rfl,UU hnone hp h⟩)
   | none=>exact .inl ⟨(a,((i+1:Nat):Int)),by rw[X3 (by omega)],⟨i+1,rfl,h,a7X hnone hp⟩,by simp;omega⟩
  ·have:i=n:=by omega
   subst this
   exact .inr (.inl ⟨_,h2,rfl,hnone⟩)
def JZ (kind i:Int) (r:Int×Int):Option (Int×Int×Int×Int):=l7 (ieq r.1 0) none (some (r.1,kind,i,r.2))
def MC (l:J3) (i:Nat):Option (Int×Int×Int×Int):=match l.1[i]? with | some e=>JZ 1 i (UG l i e) | none=>none
def yH (l:J3):Int×Int×Int×Int:=l7 (ilt 8 (o8 l.1)) (4,1,8,0) (match P7 l.1.length (MC l)with | some r=>r | none=>(0,0,0,0))
def Ze (l:J3):Prop:=∀e∈l.1,e.1.length≤1000000∧∀m∈e.2,m.length≤1000000
theorem Pn {l:J3} (h:Few l) (hE:Ze l):qO l=some (yH l):=by
 unfold qO yH
 cases ilt 8 (o8 l.1)
 case true=>rfl
 simp only[l9]
 refine ak (Az (p:=MC l) l.1.length (by have:=h.1;omega) _ (0,0,0,0) (fun i hi=>?_) ?_) ?_
 rotate_left 2
 ·cases P7 l.1.length (MC l) <;> rfl
 ·have e:=Y6 hi
  have hm:=hE _ (List.getElem_mem hi)
  simp only[H9 e,o5,F6,e,o7,RH h (show i≤l.1.length by omega) _ hm.1 hm.2,MC,JZ]
  cases ieq (UG l i l.1[i]).1 0 <;> rfl
 ·rw[I4];rfl
theorem bV {ρ:Type} {n:Nat} {p:Nat→Option ρ} {r:ρ} (h:P7 n p=some r):∃i,i<n∧p i=some r:=by
 unfold P7 at h
 obtain⟨i,hi,hp⟩:=List.exists_of_findSome?_eq_some h
 exact⟨i,List.mem_range.1 hi,hp⟩
theorem a7b (t:ai) (en:List bP):(Kt t en).1=-1∨0≤(Kt t en).1:=by
 unfold Kt
 cases ilt 64 (o8 t.2.2.2)
 case true=>right;simp only[o5];decide
 cases vty t.2.1 en
 ·left;rfl
 cases vty t.2.2.1 en
 ·left;rfl
 right
 simp only[o5,l9]
 cases hf:(List.range t.2.2.2.length).findSome? (Yo t en)with
 | none=>exact Int.le_refl _
 | some r=>
  obtain⟨i,hi,hp⟩:=bV (p:=Yo t en) hf
  unfold Yo at hp
  split at hp
  ·rename_i x hx
   cases hw:Za x (bnd t.2.1 en) (bnd t.2.2.1 en) <;> rw[hw]at hp
   ·cases ha:(t.2.2.2.take i).any fun y=>wF y x <;> rw[ha]at hp
    ·cases hp
    ·cases hp;show(0:Int)≤(i:Int);omega
   ·cases hp;show(0:Int)≤(i:Int);omega
  ·cases hp
def a7c (l:J3) (i:Nat) (t:ai):Int×Int:=
 l7 (vg t.1) (l7 (DU l 2 i t.1) (7,0) (l7 (ieq (Kt t l.1).2 0) (0,0) ((Kt t l.1).2,l7 (ile 0 (Kt t l.1).1) (A7 .i64 100 (Kt t l.1).1) 0))) (2,0)
def TV (l:J3) (i:Nat):Option (Int×Int×Int×Int):=match l.2.1[i]? with | some t=>JZ 2 i (a7c l i t) | none=>none
def zt (l:J3):Int×Int×Int×Int:=l7 (ilt 8 (o8 l.2.1)) (4,2,8,0) (match P7 l.2.1.length (TV l)with | some r=>r | none=>(0,0,0,0))
def Ui (l:J3):Prop:=∀t∈l.2.1,t.1.length≤1000000
theorem LH {l:J3} (h:Few l) (hT:Ui l):pJ l=some (zt l):=by
 unfold pJ zt
 cases ilt 8 (o8 l.2.1)
 case true=>rfl
 simp only[l9]
 refine ak (Az (p:=TV l) l.2.1.length (by have:=h.2.1;omega) _ (0,0,0,0) (fun i hi=>?_) ?_) ?_
 rotate_left 2
 ·cases P7 l.2.1.length (TV l) <;> rfl
 ·have e:=Y6 hi
  have hm:=hT _ (List.getElem_mem hi)
  simp only[H9 e,o5,F6,e,o7,a7d,iP hm,Eh _ (show l.1.length≤1000000 by have:=h.1;omega),qw (show i≤l.2.1.length by omega),
   Jm _ (show(l.2.1.take i).length≤1000000 by have:=h.2.1;simp;omega),TV,a7c,DU]
  cases vg l.2.1[i].1
  ·rfl
  cases l.1.any fun x=>seq x.1 l.2.1[i].1
  case true=>rfl
  cases (l.2.1.take i).any fun x=>seq x.1 l.2.1[i].1
  case true=>rfl
  simp only[o9,l9,o5,o7,Bool.or_false]
  cases hz:ieq (Kt l.2.1[i] l.1).2 0
  case true=>rfl
  simp only[D6,o5,l9,JZ,hz]
  rcases a7b l.2.1[i] l.1 with hr | hr
  ·rw[E9 hr,F9 (show(Kt l.2.1[i] l.1).1<0 by omega)]
   simp only[o9,l9,o7,hz,D6,o5]
  ·rw[D8 (show(Kt l.2.1[i] l.1).1≠-1 by omega),F7 hr]
   simp only[D6,o5,o7,hz]
 ·rw[I4];rfl
theorem a3G {α β ε:Type} (l:List α) (g:α→β) (hl:l.length≤1000000) {f:List β×Int→Option ((List β×Int)⊕ε)} {F:List β→ε}
  (hin:∀(i:Nat) (a:α) (acc:List β),l[i]? =some a→acc.length=i→f (acc,(i:Int))=some (.inl (acc++[g a],A7 .i64 (i:Int) 1))) (hend:∀acc,f (acc,(l.length:Int))=some (.inr (F acc))):
  X5 f ([],0)=some (F (l.map g)):=by
 obtain⟨e,h1,h2⟩:=aC (f:=f) (s:=([],0)) (fun x=>∃i:Nat,x=((l.take i).map g,(i:Int))∧i≤l.length) (fun e=>e=F (l.map g)) (fun x=>l.length -x.2.toNat) ⟨0,rfl,by omega⟩ (by simp;omega) (by
  rintro x ⟨i,rfl,hi⟩
  by_cases h:i<l.length
  ·have e:=Y6 h
   refine .inl ⟨((l.take (i+1)).map g,((i+1:Nat):Int)),?_,⟨i+1,rfl,h⟩,by simp;omega⟩
   rw[hin i _ _ e (by simp;omega),X3 (by omega),List.take_succ_eq_append_getElem h,List.map_append]
   rfl
  ·have:i=l.length:=by omega
   subst this
   refine .inr ⟨_,hend _,?_⟩
   rw[List.take_length])
 rw[h1,h2]
theorem xy {l:List Y9} (h:l.length≤1000000):ku l=some (l.map (·.2)):=by
 unfold ku
 rw[bT]
 refine a3G (F:=id) l (fun x=>x.2) h (fun i a acc ha hacc=>?_) (fun acc=>?_)
 ·have hi:=(J7.1 ha).1
  simp only[H9 ha,o5,F6,ha,o7]
  rw[Fv (by simp[hacc];omega)];rfl
 ·simp only[I4];rfl
def Uh (l:J3):Prop:=∀s∈l.2.2,s.1.length≤1000000∧s.2.2.1.length≤1000∧s.2.2.2.1.length≤1000∧s.2.2.2.2.length≤1000
def Dp (l:J3) (s:x9):List bP×List ai×List (Int×Int)×List (Int×Int)×List (Int×Int)×Bool:=
 match(if 0≤s.2.1 then l.2.2[s.2.1.toNat]? else none)with
 | some k=>(l.1,l.2.1,s.2.2.1.map (·.2),s.2.2.2.1.map (·.2),k.2.2.2.1.map (·.2),true)
 | none=>(l.1,l.2.1,s.2.2.1.map (·.2),s.2.2.2.1.map (·.2),[],false)
theorem EG {l:J3} (h:Uh l) {i:Nat} {s:x9} (hs:l.2.2[i]? =some s):jO l (i:Int)=some (Dp l s):=by
 have hm:=h s (dG hs)
 unfold jO Dp
 rw[F6,hs,o7,xy (by omega),o7,xy (by omega),o7]
 by_cases h0:0≤s.2.1
 ·rw[F7 h0,if_pos h0,o5]
  by_cases h1:s.2.1<o8 l.2.2
  ·obtain⟨k,hk,hkm⟩:=fU h0 h1
   have hk' :l.2.2[s.2.1.toNat]? =some k:=(Z7 hk).2.2.2
   rw[E8 h1,o5,hk,o7,xy (by have:=h k hkm;omega),o7,hk']
  ·have h1' :o8 l.2.2≤s.2.1:=Int.not_lt.1 h1
   rw[D9 h1',l9,List.getElem?_eq_none (by simp only[o8]at h1';exact Int.le_toNat h0 |>.2 h1')]
 ·have h0' :s.2.1<(0:Int):=Int.not_le.1 h0
  rw[F9 h0',if_neg h0];rfl
abbrev SI (l:List Int):Prop:=l.Pairwise (·< ·)
theorem Yx:∀{a b:List Int},SI a→SI b→(∀x,x∈a↔x∈b)→a=b
 | [],[],_,_,_=>rfl
 | [],y::b,_,_,h=>absurd ((h y).2 (by simp)) (by simp)
 | x::a,[],_,_,h=>absurd ((h x).1 (by simp)) (by simp)
 | x::a,y::b,ha,hb,h=>by
  have ha' :=List.pairwise_cons.1 ha
  have hb' :=List.pairwise_cons.1 hb
  have hxy:x=y:=by
   rcases List.mem_cons.1 ((h x).1 (by simp))with h1 | h1
   ·exact h1
   ·rcases List.mem_cons.1 ((h y).2 (by simp))with h2 | h2
    ·exact h2.symm
    ·have:=hb'.1 _ h1;have:=ha'.1 _ h2;omega
  subst hxy
  congr 1
  refine Yx ha'.2 hb'.2 fun z=>⟨fun hz=>?_,fun hz=>?_⟩
  ·rcases List.mem_cons.1 ((h z).1 (by simp[hz]))with h1 | h1
   ·have:=ha'.1 _ hz;omega
   ·exact h1
  ·rcases List.mem_cons.1 ((h z).2 (by simp[hz]))with h1 | h1
   ·have:=hb'.1 _ hz;omega
   ·exact h1
def ins (n:Int):List Int→List Int
 | []=>[n]
 | a::l=>if n≤a then(if n<a then n::a::l else a::l)else a::ins n l
theorem yS (n x:Int):∀l,x∈ins n l↔x=n∨x∈l
 | []=>by simp[ins]
 | a::l=>by
  unfold ins
  by_cases h:n≤a
  ·rw[if_pos h]
   by_cases h2:n<a
   ·rw[if_pos h2];simp
   ·rw[if_neg h2]
    have:n=a:=by omega
    subst this;simp
  ·rw[if_neg h,List.mem_cons,yS n x l,List.mem_cons]
   constructor
   ·rintro(h | h | h) <;> simp[h]
   ·rintro(h | h | h) <;> simp[h]
theorem a6l (n:Int):∀{l},SI l→SI (ins n l)
 | [],_=>List.pairwise_singleton _ _
 | a::l,h=>by
  have h' :=List.pairwise_cons.1 h
  unfold ins
  by_cases h1:n≤a
  ·rw[if_pos h1]
   by_cases h2:n<a
   ·rw[if_pos h2]
    refine List.pairwise_cons.2 ⟨fun x hx=>?_,h⟩
    rcases List.mem_cons.1 hx with rfl | hx
    ·exact h2
    ·have:=h'.1 x hx;omega
   ·rw[if_neg h2];exact h
  ·rw[if_neg h1]
   refine List.pairwise_cons.2 ⟨fun x hx=>?_,a6l n h'.2⟩
   rcases(yS n x l).1 hx with rfl | hx
   ·omega
   ·exact h'.1 x hx
def MZ (ns:List Int) (l:List Int):List Int:=ns.foldl (fun acc n=>ins n acc) l
theorem NC (x:Int):∀ns l,x∈MZ ns l↔x∈ns∨x∈l
 | [],l=>by simp[MZ]
 | n::ns,l=>by
  show x∈MZ ns (ins n l)↔_
  rw[NC x ns,yS,List.mem_cons]
  constructor
  ·rintro(h | h | h) <;> simp[h]
  ·rintro((h | h) | h) <;> simp[h]
theorem TM:∀ns {l},SI l→SI (MZ ns l)
 | [],_,h=>h
 | n::ns,_,h=>TM ns (a6l n h)
def zn (l:List Int):List Int:=MZ l []
theorem jd (x:Int) (l:List Int):x∈zn l↔x∈l:=by unfold zn;rw[NC];simp
theorem TN (l:List Int):SI (zn l):=TM l List.Pairwise.nil
theorem Nj (n:Int):∀l,(ins n l).length≤l.length+1
 | []=>by simp[ins]
 | a::l=>by
  unfold ins
  by_cases h1:n≤a
  ·rw[if_pos h1];by_cases h2:n<a
   ·rw[if_pos h2];simp
   ·rw[if_neg h2];simp
  ·rw[if_neg h1];have:=Nj n l;simp only[List.length_cons];omega
theorem Jn:∀ns l,(MZ ns l).length≤l.length+ns.length
 | [],l=>by simp[MZ]
 | n::ns,l=>by
  have h1:=Jn ns (ins n l)
  have h2:=Nj n l
  show(MZ ns (ins n l)).length≤_
  simp only[List.length_cons];omega
theorem wR (l:List Int):(zn l).length≤l.length:=by have:=Jn l [];unfold zn;simpa using this
theorem OL {l:List Int} (n:Nat) (h:SI l) (h2:∀x∈l,0≤x∧x<n):l.length≤n:=by
 have key:∀(l:List Int) (lo:Int),SI l→(∀x∈l,lo≤x∧x<n)→lo≤n→(l.length:Int)≤n -lo:=by
  intro l
  induction l with
  | nil=>intro lo _ _ hlo;simp;omega
  | cons a l ih=>
   intro lo hs hb hlo
   have h' :=List.pairwise_cons.1 hs
   have ha:=hb a (by simp)
   have:=ih (a+1) h'.2 (fun x hx=>⟨by have:=h'.1 x hx;omega,(hb x (by simp[hx])).2⟩) (by omega)
   simp only[List.length_cons];omega
 have:=key l 0 h (fun x hx=>h2 x hx) (by omega)
 omega
theorem LU (x:Int):∀(l:List Int) (p:Int),(p::l).Pairwise (·≤·)→SI (p::ddp p l)∧(x∈p::ddp p l↔x∈p::l)
 | [],p,_=>⟨List.pairwise_singleton _ _,Iff.rfl⟩
 | a::l,p,h=>by
  have h1:=List.pairwise_cons.1 h
  obtain⟨i1,i2⟩:=LU x l a h1.2
  have h2:=List.pairwise_cons.1 h1.2
  have hpa:=h1.1 a (by simp)
  unfold ddp
  cases hq:ieq a p
  ·rw[lG]at hq
   simp only[cond_false]
   refine⟨List.pairwise_cons.2 ⟨fun y hy=>?_,i1⟩,?_⟩
   ·rcases List.mem_cons.1 hy with rfl | hy
    ·omega
    ·have:=(List.pairwise_cons.1 i1).1 y hy;omega
   ·rw[List.mem_cons,i2,List.mem_cons (a:=x) (b:=p)]
  ·rw[I9]at hq
   subst hq
   simp only[cond_true]
   refine⟨i1,?_⟩
   rw[i2];simp
theorem a3m (l:List Int):dd (xQ l)=zn l:=by
 have hs:=uA l
 have hp:=vk l
 refine Yx ?_ (TN l) fun x=>?_
 ·cases he:xQ l with
  | nil=>exact List.Pairwise.nil
  | cons a r=>rw[he]at hs;exact(LU a r a hs).1
 ·rw[jd,←hp.mem_iff]
  cases he:xQ l with
  | nil=>exact Iff.rfl
  | cons a r=>rw[he]at hs;exact(LU x r a hs).2
theorem a1I (l:List Int):(xQ l).length=l.length:=(vk l).length_eq
theorem a9e {l:List Int} (h:l.length≤1000000):o6 (uP l) (fun x=>iW x)=some (zn l):=by
 unfold uP iW
 rw[show Nat.blt l.length 4611686018427387904=true from by simp[Nat.blt];omega]
 simp only[cond_true,o7]
 rw[show Nat.blt (xQ l).length 4611686018427387904=true from by rw[a1I];simp[Nat.blt];omega]
 rw[cond_true,a3m]
def hg (l:List Int) (i:Nat):Int:=l.getD i 0
def swp (l:List Int) (i j:Nat):List Int:=(l.set i (hg l j)).set j (hg l i)
theorem nP {l:List Int} {i:Nat} (h:i<l.length):l[i]? =some (hg l i):=by
 unfold hg;rw[jZ,Y6 h];rfl
theorem zq (l:List Int) (i j:Nat):(swp l i j).length=l.length:=by simp[swp]
theorem Si {l:List Int} {i j:Nat} (hi:i<l.length) (hj:j<l.length) (k:Nat):hg (swp l i j) k=if k=j then hg l i else if k=i then hg l j else hg l k:=by
 unfold hg swp
 simp only[jZ,List.getElem?_set,List.length_set]
 by_cases h1:k=j
 ·subst h1;simp[hj,hg,jZ]
 ·rw[if_neg (fun h=>h1 h.symm),if_neg h1]
  by_cases h2:k=i
  ·subst h2;simp[hi,hg,jZ]
  ·rw[if_neg (fun h=>h2 h.symm),if_neg h2]
theorem BK {l:List Int} {i j:Nat} (hi:i<l.length) (hj:j<l.length):(swp l i j).Perm l:=by
 have e1:hg l i=l[i]:=by have:=nP hi;rw[Y6 hi]at this;exact(Option.some.inj this).symm
 have e2:hg l j=l[j]:=by have:=nP hj;rw[Y6 hj]at this;exact(Option.some.inj this).symm
 unfold swp
 rw[e1,e2]
 exact List.set_set_perm hi hj
def zY (l:List Int) (n:Nat):Prop:=∀k,0<k→k<n→hg l ((k -1) / 2)≤hg l k
def GY (l:List Int) (j:Nat):Prop:=(∀k,0<k→k<l.length→k≠j→hg l ((k -1) / 2)≤hg l k)∧(0<j→∀k,0<k→k<l.length→(k -1) / 2=j→hg l ((j -1) / 2)≤hg l k)
def xF (l:List Int) (n i:Nat):Prop:=(∀k,0<k→k<n→(k -1) / 2≠i→hg l ((k -1) / 2)≤hg l k)∧(0<i→∀k,0<k→k<n→(k -1) / 2=i→hg l ((i -1) / 2)≤hg l k)
theorem UX {l:List Int} {j:Nat} (h:GY l j) (h0:0<j) (hj:j<l.length) (hlt:hg l j<hg l ((j -1) / 2)):GY (swp l ((j -1) / 2) j) ((j -1) / 2):=by
 have hi:(j -1) / 2<l.length:=by omega
 have hij:(j -1) / 2<j:=by omega
 generalize hp:(j -1) / 2=i at*
 have G:=Si hi hj
 refine⟨fun k k0 k1 k2=>?_,fun i0 k k0 k1 k2=>?_⟩
 ·rw[zq]at k1
  rw[G k,G]
  by_cases a:k=j
  ·subst a
   rw[if_pos rfl,hp,if_neg (by omega),if_pos rfl];omega
  rw[if_neg a,if_neg k2]
  by_cases b:(k -1) / 2=j
  ·rw[if_pos b]
   have:=h.2 h0 k k0 k1 b
   rw[hp]at this;exact this
  rw[if_neg b]
  by_cases c:(k -1) / 2=i
  ·rw[if_pos c]
   have:=h.1 k k0 k1 a
   rw[c]at this;omega
  rw[if_neg c]
  exact h.1 k k0 k1 a
 ·rw[zq]at k1
  rw[G,G,if_neg (by omega),if_neg (by omega)]
  have e1:=h.1 i i0 hi (by omega)
  by_cases a:k=j
  ·rw[if_pos a];exact e1
  ·rw[if_neg a,if_neg (by omega)]
   have:=h.1 k k0 k1 a
   rw[k2]at this;omega
theorem MR {l:List Int} {j:Nat} (h:GY l j) (he:j=0∨hg l ((j -1) / 2)≤hg l j):zY l l.length:=fun k k0 k1=>by
 by_cases a:k=j
 ·subst a
  rcases he with he | he
  ·omega
  ·exact he
 ·exact h.1 k k0 k1 a
theorem xB {l:List Int} {n i j:Nat} (h:xF l n i) (hn:n≤l.length) (hj:(j -1) / 2=i) (hj0:0<j) (hjn:j<n) (hmin:∀k,0<k→k<n→(k -1) / 2=i→hg l j≤hg l k) (hlt:hg l j<hg l i):xF (swp l i j) n j:=by
 have G:=Si (l:=l) (i:=i) (j:=j) (by omega) (by omega)
 refine⟨fun k k0 k1 k2=>?_,fun j0 k k0 k1 k2=>?_⟩
 ·rw[G k,G,if_neg k2]
  by_cases a:k=j
  ·rw[if_pos a,if_pos (by omega)];omega
  rw[if_neg a]
  by_cases b:k=i
  ·rw[if_pos b,if_neg (by omega)]
   rw[b]
   exact h.2 (by omega) j hj0 hjn hj
  rw[if_neg b]
  by_cases c:(k -1) / 2=i
  ·rw[if_pos c];exact hmin k k0 k1 c
  ·rw[if_neg c];exact h.1 k k0 k1 c
 ·rw[G,G,if_neg (by omega),if_pos hj,if_neg (by omega),if_neg (by omega)]
  have:=h.1 k k0 k1 (by omega)
  rw[k2]at this;exact this
theorem uy {l:List Int} {n i:Nat} (h:xF l n i) (he:∀k,0<k→k<n→(k -1) / 2=i→hg l i≤hg l k):zY l n:=fun k k0 k1=>by
 by_cases a:(k -1) / 2=i
 ·rw[a];exact he k k0 k1 a
 ·exact h.1 k k0 k1 a
theorem a3I {l:List Int} {n:Nat} (h:zY l n):∀k,k<n→hg l 0≤hg l k:=by
 intro k
 induction k using Nat.strongRecOn with
 | ind k ih=>
  intro hk
  by_cases h0:k=0
  ·subst h0;exact Int.le_refl _
  ·have h1:=h k (by omega) hk
   have h2:=ih ((k -1) / 2) (by omega) (by omega)
   omega
theorem XE {l:List Int} {n:Nat} (h:zY l l.length) (hn:n+1=l.length):xF (swp l 0 n) n 0:=by
 have G:=Si (l:=l) (i:=0) (j:=n) (by omega) (by omega)
 refine⟨fun k k0 k1 k2=>?_,fun h0=>by omega⟩
 rw[G k,G,if_neg (by omega),if_neg k2,if_neg (by omega),if_neg (by omega)]
 exact h k k0 (by omega)
theorem WP {α:Type} {l:List α} {n i:Nat} {a:α} (h:(l.take n)[i]? =some a):i<n∧l[i]? =some a:=by
 rw[List.getElem?_take]at h
 split at h
 ·exact⟨by assumption,h⟩
 ·cases h
def Ar (en:List bP) (f:Y9) (a b:List Y9):Int:=
 l7 (vg f.1) (l7 (a.any fun x=>seq x.1 f.1) 7 (l7 (b.any fun x=>seq x.1 f.1) 7 (l7 (vty f.2 en) 0 8))) 2
theorem Dw {l:J3} {f:Y9} {a b:List Y9} (h:f.1.length≤1000000) (ha:a.length≤1000000) (hb:b.length≤1000000):mM l f a b=some (Ar l.1 f a b):=by
 unfold mM Ar
 rw[iP h,o7,Jl _ ha,o7,Jl _ hb,o7,ou,o7]
 cases vg f.1
 ·rfl
 cases a.any fun x=>seq x.1 f.1
 case true=>rfl
 cases b.any fun x=>seq x.1 f.1
 case true=>rfl
 cases vty f.2 l.1 <;> rfl
def Pv (c e:Int):Option (Int×Int):=l7 (ieq c 0) none (some (c,e))
def inP (l:J3) (s:x9) (i:Nat):Option (Int×Int):=match s.2.2.1[i]? with | some f=>Pv (Ar l.1 f (s.2.2.1.take i) []) (100+i:Nat) | none=>none
def a1r (l:J3) (s:x9) (i:Nat):Option (Int×Int):=match s.2.2.2.1[i]? with | some f=>Pv (Ar l.1 f s.2.2.1 (s.2.2.2.1.take i)) (200+i:Nat) | none=>none
def a2K (s:x9):Prop:=(∀f∈s.2.2.1,f.1.length≤1000000)∧(∀f∈s.2.2.2.1,f.1.length≤1000000)
theorem ZG {c i:Nat} (hc:c≤1000) (h:i≤1000000):A7 .i64 (c:Int) (i:Int)=((c+i:Nat):Int):=by
 rw[J5 (by unfold I64;omega)];omega
def wO (l:J3) (s:x9):Option (Int×Int):=match P7 s.2.2.1.length (inP l s)with | some r=>some r | none=>P7 s.2.2.2.1.length (a1r l s)
def arF (op:Int):Int:=(c6V op).getD 0
theorem b4k {op:Int} (h:1≤op∧op≤39):∃k:Fin 40,op=(k.val:Int):=⟨⟨op.toNat,by omega⟩,by simp;omega⟩
theorem b7r:∀k:Fin 40,1≤k.val→(fO (k.val:Int)=c6V (k.val:Int))∧(c6V (k.val:Int)=some 0∨c6V (k.val:Int)=some 1∨c6V (k.val:Int)=some 2∨c6V (k.val:Int)=some 3):=by decide+kernel
theorem Sl {op:Int} (h:¬(1≤op∧op≤39)) (k:Int) (h1:1≤k) (h2:k≤39):ieq op k=false:=D8 (by omega)
theorem a0w {op:Int} (h:¬(1≤op∧op≤39)):c6V op=some (-1):=by
 unfold c6V
 by_cases h1:1≤op
 ·rw[F7 h1,o5,F9 (show(9:Int)<op by omega),l9,F9 (show(39:Int)<op by omega),F9 (show(30:Int)<op by omega)]
  simp[Sl h]
  cases ile 35 op <;> cases ile 11 op <;> rfl
 ·rw[F9 (show op<1 by omega),l9,F9 (show op<35 by omega),F9 (show op<11 by omega)]
  simp[Sl h]
theorem b3E {op:Int} (h:¬(1≤op∧op≤39)):fO op=some (-1):=by
 unfold fO
 simp[Sl h]
theorem Ac (op:Int):fO op=some (arF op)∧c6V op=some (arF op)∧(arF op=-1∨arF op=0∨arF op=1∨arF op=2∨arF op=3):=by
 unfold arF
 by_cases h:1≤op∧op≤39
 ·obtain⟨k,rfl⟩:=b4k h
  obtain⟨h1,h2⟩:=b7r k (by omega)
  rcases h2 with h2 | h2 | h2 | h2 <;> rw[h1,h2] <;> simp
 ·rw[b3E h,a0w h];simp
theorem Ld (op:Int):fO op=some (arF op):=(Ac op).1
theorem a5j (op:Int):c6V op=some (arF op):=(Ac op).2.1
inductive XT where
 | l0 (n:Int×Int) | l1 (n:Int×Int) (a:XT) | l2 (n:Int×Int) (a b:XT) | l3 (n:Int×Int) (a b c:XT)
def XT.size:XT→Nat
 | .l0 _=>1 | .l1 _ a=>a.size+1 | .l2 _ a b=>a.size+b.size+1 | .l3 _ a b c=>a.size+b.size+c.size+1
def XT.post:XT→List (Int×Int)
 | .l0 n=>[n] | .l1 n a=>a.post++[n] | .l2 n a b=>a.post++b.post++[n] | .l3 n a b c=>a.post++b.post++c.post++[n]
def XT.sts (o:Nat):XT→List Int
 | .l0 _=>[(o:Int)]
 | .l1 _ a=>a.sts o++[(o:Int)]
 | .l2 _ a b=>a.sts o++b.sts (o+a.size)++[(o:Int)]
 | .l3 _ a b c=>a.sts o++b.sts (o+a.size)++c.sts (o+a.size+b.size)++[(o:Int)]
theorem XT.size_pos (t:XT):0<t.size:=by cases t <;> simp[XT.size]
theorem XT.post_len (t:XT):t.post.length=t.size:=by
 induction t with
 | l0 n=>rfl
 | l1 n a ha=>simp[XT.post,XT.size,ha]
 | l2 n a b ha hb=>simp[XT.post,XT.size,ha,hb];try omega
 | l3 n a b c ha hb hc=>simp[XT.post,XT.size,ha,hb,hc];try omega
theorem XT.sts_len (t:XT):∀o,(t.sts o).length=t.size:=by
 induction t with
 | l0 n=>intro o;rfl
 | l1 n a ha=>intro o;simp[XT.sts,XT.size,ha]
 | l2 n a b ha hb=>intro o;simp[XT.sts,XT.size,ha,hb];try omega
 | l3 n a b c ha hb hc=>intro o;simp[XT.sts,XT.size,ha,hb,hc];try omega
def dF:List XT→Nat
 | []=>0
 | t::r=>dF r+t.size
def zK:List XT→List (Int×Int)
 | []=>[]
 | t::r=>zK r++t.post
def stR:List XT→List Int
 | []=>[]
 | t::r=>stR r++t.sts (dF r)
def kH:List XT→List Int
 | []=>[]
 | t::r=>kH r++[(dF r:Int)]
theorem kC:∀ts,(kH ts).length=ts.length
 | []=>rfl
 | t::r=>by simp[kH,kC r]
theorem GG:∀ts,(stR ts).length=dF ts
 | []=>rfl
 | t::r=>by simp[stR,dF,GG r,XT.sts_len]
theorem CY:∀ts,(zK ts).length=dF ts
 | []=>rfl
 | t::r=>by simp[zK,dF,CY r,XT.post_len]
def push (n:Int×Int) (ts:List XT):Int⊕List XT:=
 if arF n.1=0 then .inr (.l0 n::ts)
 else if arF n.1=1 then(match ts with | a::r=> .inr (.l1 n a::r) | _=> .inl 5)
 else if arF n.1=2 then(match ts with | b::a::r=> .inr (.l2 n a b::r) | _=> .inl 5)
 else if arF n.1=3 then(match ts with | c::b::a::r=> .inr (.l3 n a b c::r) | _=> .inl 5)
 else .inl 2
def oG:Nat→List (Int×Int)→List XT→(Int×Int)⊕List XT
 | _,[],ts=> .inr ts
 | i,n::es,ts=>match push n ts with
  | .inl c=> .inl ((i:Int),c)
  | .inr ts' =>if 12<ts'.length then .inl ((i:Int),16)else oG (i+1) es ts'
def iL (e:List (Int×Int)):(Int×Int)⊕XT:=
 if 48<e.length then .inl (0,4)else if e.length=0 then .inl (0,5)else
  match oG 0 e []with
  | .inl x=> .inl x
  | .inr [t]=> .inr t
  | .inr _=> .inl ((e.length:Int),4)
theorem QV {n:Int×Int} {ts ts' :List XT} (h:push n ts= .inr ts'):zK ts' =zK ts++[n]∧ts' ≠[]:=by
 unfold push at h
 split at h
 ·cases h;exact⟨rfl,by simp⟩
 split at h
 ·split at h
  ·cases h;exact⟨by simp[zK,XT.post],by simp⟩
  ·cases h
 split at h
 ·split at h
  ·cases h;exact⟨by simp[zK,XT.post],by simp⟩
  ·cases h
 split at h
 ·split at h
  ·cases h;exact⟨by simp[zK,XT.post],by simp⟩
  ·cases h
 ·cases h
theorem Dc {n:Int×Int} {ts ts' :List XT} (h:push n ts= .inr ts'):dF ts' =dF ts+1:=by
 rw[←CY,←CY,(QV h).1];simp
theorem yY:∀(es:List (Int×Int)) (i:Nat) (ts ts' :List XT),oG i es ts= .inr ts' →zK ts' =zK ts++es∧(ts≠[]∨es≠[]→ts' ≠[])
 | [],i,ts,ts',h=>by cases h;exact⟨by simp,by simp⟩
 | n::es,i,ts,ts',h=>by
  unfold oG at h
  cases hp:push n ts with
  | inl c=>rw[hp]at h;cases h
  | inr t2=>
   rw[hp]at h
   simp only at h
   split at h
   ·cases h
   ·obtain⟨h1,h2⟩:=yY es (i+1) t2 ts' h
    obtain⟨h3,h4⟩:=QV hp
    exact⟨by rw[h1,h3];simp,fun _=>h2 (.inl h4)⟩
theorem xk {e:List (Int×Int)} {t:XT} (h:iL e= .inr t):e=t.post∧e.length≤48:=by
 unfold iL at h
 split at h
 ·cases h
 split at h
 ·cases h
 split at h
 ·cases h
 ·rename_i t' hp
  cases h
  have:=(yY e 0 [] [t] hp).1
  exact⟨by simpa[zK]using this.symm,by omega⟩
 ·cases h
theorem WL {σ ε ρ:Type} (e:List (Int×Int)) (he:e.length≤48) (g:List XT→σ) (fin:List XT→ε) (rt:Int×Int→ρ) {f:σ→Option (Out σ ε ρ)}
  (hs:∀(i:Nat) (n:Int×Int) (ts:List XT),e[i]? =some n→i=dF ts→ts.length≤12→f (g ts)=some (match push n ts with
   | .inl c=> .rt (rt ((i:Int),c))
   | .inr ts' =>if 12<ts'.length then .rt (rt ((i:Int),16))else .nx (g ts')))
  (hend:∀ts,dF ts=e.length→f (g ts)=some (.ex (fin ts))):
  U2 f (g [])=some (match oG 0 e []with | .inl x=> .inr (rt x) | .inr ts=> .inl (fin ts)):=by
 have key:∀(es:List (Int×Int)) (i:Nat) (ts:List XT) (k:Nat),e.drop i=es→i=dF ts→ts.length≤12→i≤e.length→es.length<k→
   iD f k (g ts)=some (match oG i es ts with | .inl x=> .inr (rt x) | .inr ts=> .inl (fin ts)):=by
  intro es
  induction es with
  | nil=>
   intro i ts k hd hi hl hle hk
   obtain⟨k,rfl⟩:∃k',k=k' +1:=⟨k -1,by omega⟩
   have:i=e.length:=by have:=congrArg List.length hd;simp at this;omega
   unfold iD
   rw[hend ts (by omega)];rfl
  | cons n es ih=>
   intro i ts k hd hi hl hle hk
   obtain⟨k,rfl⟩:∃k',k=k' +1:=⟨k -1,by omega⟩
   have hn:e[i]? =some n:=by
    have:(e.drop i)[0]? =some n:=by rw[hd];rfl
    simpa using this
   have hlt:=(J7.1 hn).1
   unfold iD
   rw[hs i n ts hn hi hl]
   unfold oG
   cases hp:push n ts with
   | inl c=>rfl
   | inr ts' =>
    simp only
    by_cases h12:12<ts'.length
    ·rw[if_pos h12,if_pos h12]
    ·rw[if_neg h12,if_neg h12]
     exact ih (i+1) ts' k (by rw[←List.drop_drop,hd];rfl) (by rw[Dc hp,hi]) (by omega) (by omega) (by simp at hk;omega)
 exact key e 0 [] dN rfl rfl (by simp) (by omega) (by unfold dN;omega)
theorem VI:∀(p r:List XT),∃X,kH (p++r)=kH r++X∧X.length=p.length∧(p≠[]→X.head?=some (dF r:Int))
 | [],r=>⟨[],by simp,rfl,fun h=>absurd rfl h⟩
 | a::p,r=>by
  obtain⟨X,h1,h2,h3⟩:=VI p r
  refine⟨X++[(dF (p++r):Int)],?_,by simp[h2],fun _=>?_⟩
  ·show kH (p++r)++[(dF (p++r):Int)]=_
   rw[h1,List.append_assoc]
  ·cases p with
   | nil=>simp at h2;subst h2;rfl
   | cons b p=>rw[List.head?_append,h3 (by simp)];rfl
theorem Yf (p r:List XT) (k:Int) (hk:k=(p.length:Int)) (h:p.length+r.length≤100) (hp:p≠[]):
  G8 .i64 (o8 (kH (p++r))) k=(r.length:Int)∧lat (kH (p++r)) (r.length:Int)=some (dF r:Int)∧L8 (kH (p++r)) (toN (r.length:Int))=some (dF r:Int)
  ∧jG 0 (r.length:Int) (o8 (kH (p++r)))=true∧gQ (kH (p++r)) (toN 0) (toN (r.length:Int))=kH r:=by
 obtain⟨X,h1,h2,h3⟩:=VI p r
 have hl:(kH (p++r)).length=r.length+p.length:=by rw[kC];simp;omega
 have hg:(kH (p++r))[r.length]? =some (dF r:Int):=by
  rw[h1,List.getElem?_append_right (by rw[kC];omega),kC,Nat.sub_self,←List.head?_eq_getElem?]
  exact h3 hp
 refine⟨?_,?_,?_,?_,?_⟩
 ·simp only[o8,hl]
  rw[H8 (by unfold I64;omega)];omega
 ·rw[F6];exact hg
 ·exact hg
 ·simp only[jG,o8,hl,decide_eq_true_eq];omega
 ·show((kH (p++r)).take r.length).drop 0=_
  rw[h1,List.drop_zero,List.take_append_of_le_length (by rw[kC];omega),List.take_of_length_le (by rw[kC];omega)]
theorem ZJ (ts:List XT):ilt 12 (o8 (kH ts))=decide (12<ts.length):=by
 rw[show o8 (kH ts)=((ts.length:Nat):Int) by simp[o8,kC]]
 exact ZK 12 ts.length
theorem lh {α:Type} {l:List α} (x:α) (h:l.length≤1000000):dE l [x]=some (l++[x]):=Fv (by simp;omega)
theorem MW (ts:List XT) (k:Nat):ilt (o8 (kH ts)) (k:Int)=decide (ts.length<k):=by
 rw[show o8 (kH ts)=((ts.length:Nat):Int) by simp[o8,kC]]
 exact ZK _ _
def uG (e:List (Int×Int)):List Int×Int×Int:=match iL e with | .inl x=>([],x) | .inr t=>(t.sts 0,0,0)
theorem a2i {e:List (Int×Int)} (h0:e.length≠0) {K:List Int×Int×Int→List Int×Int×Int} (h48:¬48<e.length)
  {r:List Int×Int×Int} (h:∀ts,oG 0 e []= .inr ts→r=l7 (ilt 1 (o8 (kH ts))) ([],o8 e,4) (stR ts,0,0)) (hi:∀x,oG 0 e []= .inl x→r=([],x)):r=uG e:=by
 unfold uG iL
 rw[if_neg h48,if_neg h0]
 cases hp:oG 0 e []with
 | inl x=>exact hi x hp
 | inr ts=>
  rw[h ts hp]
  have:=(yY e 0 [] ts hp).2 (.inr (by intro he;subst he;exact h0 rfl))
  match ts,this with
  | [t],_=>simp[kH,o8,ilt,stR,dF]
  | a::b::ts,_=>
   rw[E8 (by simp[o8,kC];omega)];rfl
def pd (l:List Int) (k:Nat):List Int:=l++List.replicate k 0
theorem Td (l:List Int) (m:Nat):lat (pd l (m+1)) (l.length:Int)=some 0:=by
 rw[F6];unfold pd
 rw[List.getElem?_append_right (by omega),Nat.sub_self];rfl
theorem Tf (l:List Int) (m:Nat):L8 (pd l (m+1)) (toN (l.length:Int))=some 0:=by
 have:=Td l m;rw[F6]at this;exact this
theorem Yc (l:List Int) (m:Nat) (v:Int):U5 (pd l (m+1)) (toN (l.length:Int)) v=pd (l++[v]) m:=by
 show(l++List.replicate (m+1) 0).set l.length v=_
 rw[List.set_append_right _ _ (by omega),Nat.sub_self,List.replicate_succ]
 simp[pd]
theorem FW (l:List Int) (m:Nat) (v w:Int):U5 (pd (l++[v]) m) (toN (l.length:Int)) w=pd (l++[w]) m:=by
 show(l++[v]++List.replicate m 0).set l.length w=_
 rw[List.append_assoc,List.set_append_right _ _ (by omega),Nat.sub_self]
 simp[pd]
theorem CW (l:List Int) (m:Nat) (v:Int):lat (pd (l++[v]) m) (l.length:Int)=some v:=by
 rw[F6];unfold pd
 rw[List.append_assoc,List.getElem?_append_right (by omega),Nat.sub_self];rfl
theorem Bf (l:List Int) (m:Nat) (v:Int):L8 (pd (l++[v]) m) (toN (l.length:Int))=some v:=by
 have:=CW l m v;rw[F6]at this;exact this
theorem GH (e:List (Int×Int)):mD e=some (uG e):=by
 unfold mD
 by_cases h48:48<e.length
 ·rw[E8 (by simp[o8];omega),o5]
  unfold uG iL
  rw[if_pos h48]
 by_cases h0:e.length=0
 ·rw[D9 (by simp[o8];omega),l9,E9 (by simp[o8,h0]),o5]
  unfold uG iL
  rw[if_neg h48,if_pos h0]
 rw[D9 (by simp[o8];omega),l9,D8 (by simp[o8];intro h;exact h0 (by simp[h])),l9]
 rw[show jH (o8 e) (0:Int)=some (pd (stR []) (e.length -dF [])) by simp[jH,o8,pd,stR,dF];omega,o7]
 refine ak (WL e (by omega) (fun ts=>(pd (stR ts) (e.length -dF ts),kH ts,(dF ts:Int))) (fun ts=>(pd (stR ts) (e.length -dF ts),kH ts)) (fun x=>(([]:List Int),x)) (fun i n ts hn hi hl=>?_) (fun ts hsz=>?_)) ?_
 rotate_left 2
 ·rw[←a2i h0 h48 (K:=id) (r:=match oG 0 e []with | .inl x=>([],x) | .inr ts=>l7 (ilt 1 (o8 (kH ts))) ([],o8 e,4) (stR ts,0,0)) (fun ts h=>by rw[h]) (fun x h=>by rw[h])]
  cases hp:oG 0 e []with
  | inl x=>rfl
  | inr ts=>
   have:=(yY e 0 [] ts hp).1
   have hz:e.length -dF ts=0:=by
    have:=congrArg List.length this
    rw[CY]at this
    simp[zK]at this;omega
   simp only[o7,D7,hz,pd,List.replicate_zero,List.append_nil];cases ilt 1 (o8 (kH ts)) <;> rfl
 ·subst hi
  have hlt:=(J7.1 hn).1
  have hst:=GG ts
  have hof:=kC ts
  obtain⟨m,hm⟩:∃m,e.length -dF ts=m+1:=⟨e.length -dF ts -1,by omega⟩
  simp only[H9 hn,o5,F6 e,hn,o7,Ld,hm]
  rw[←hst]
  simp only[Td,Tf,o7,Yc,CW,Bf,FW]
  rw[hst]
  rcases(Ac n.1).2.2 with h | h | h | h | h
  ·rw[show push n ts= .inl 2 by simp[push,h],h];rfl
  ·have e0:G8 .i64 (o8 (kH ts)) 0=((kH ts).length:Int):=by rw[H8 (by unfold I64 o8;omega)];simp[o8]
   rw[show push n ts= .inr (.l0 n::ts) by simp[push,h],h,D9 (by omega),l9,D9 (Vl _),l9,l9,e0,show jG 0 ((kH ts).length:Int) (o8 (kH ts))=true by simp[jG,o8],o5,
    show gQ (kH ts) (toN 0) (toN ((kH ts).length:Int))=kH ts by simp[gQ,toN],lh _ (by omega),o7,X3 (by omega)]
   rw[show kH ts++[(dF ts:Int)]=kH (.l0 n::ts)from rfl,ZJ]
   by_cases hc:12<(XT.l0 n::ts).length
   ·simp only[hc,decide_true,if_true,o5]
   ·simp only[hc,decide_false,if_false,l9,dF,XT.size,stR,XT.sts,show e.length -(dF ts+1)=m by omega]
  ·match ts with
   | []=>rw[show push n []= .inl 5 by simp[push,h],h];rfl
   | a::r=>
    obtain⟨p1,p2,p3,p4,p5⟩:=Yf [a] r 1 rfl (by simp at hl ⊢;omega) (by simp)
    simp only[List.cons_append,List.nil_append]at p1 p2 p3 p4 p5
    have:=GG (a::r);have:=kC r
    simp only[List.length_cons]at hl
    rw[show push n (a::r)= .inr (.l1 n a::r) by simp[push,h],h,D9 (by omega),l9,show(1:Int)=((1:Nat):Int)from rfl,MW,show decide ((a::r).length<1)=false by simp]
    simp only[Int.natCast_one]at p1 ⊢
    rw[l9,E8 (by omega),o5,p1,p2,o7,p3,o7,p4,o5,p5]
    rw[←hst]
    try simp only[FW,CW,Bf,o7]
    rw[hst,lh _ (by omega),o7,X3 (by omega)]
    rw[show kH r++[(dF r:Int)]=kH (.l1 n a::r)from rfl,ZJ]
    have hz:=Dc (show push n (a::r)= .inr (.l1 n a::r) by simp[push,h])
    by_cases hc:12<(XT.l1 n a::r).length
    ·simp only[hc,decide_true,if_true,o5]
    ·simp only[hc,decide_false,if_false,l9,hz,show e.length -(dF (a::r)+1)=m by omega,stR,XT.sts,List.append_assoc]
  ·match ts with
   | []=>rw[show push n []= .inl 5 by simp[push,h],h];rfl
   | [a]=>rw[show push n [a]= .inl 5 by simp[push,h],h];rfl
   | b::a::r=>
    obtain⟨p1,p2,p3,p4,p5⟩:=Yf [b,a] r 2 rfl (by simp at hl ⊢;omega) (by simp)
    simp only[List.cons_append,List.nil_append]at p1 p2 p3 p4 p5
    have:=GG (b::a::r);have:=kC r
    simp only[List.length_cons]at hl
    rw[show push n (b::a::r)= .inr (.l2 n a b::r) by simp[push,h],h,D9 (by omega),l9,show(2:Int)=((2:Nat):Int)from rfl,MW,show decide ((b::a::r).length<2)=false by simp]
    rw[l9,E8 (by omega),o5,show((2:Nat):Int)=2 from rfl,p1,p2,o7,p3,o7,p4,o5,p5]
    rw[←hst]
    try simp only[FW,CW,Bf,o7]
    rw[hst,lh _ (by omega),o7,X3 (by omega)]
    rw[show kH r++[(dF r:Int)]=kH (.l2 n a b::r)from rfl,ZJ]
    have hz:=Dc (show push n (b::a::r)= .inr (.l2 n a b::r) by simp[push,h])
    by_cases hc:12<(XT.l2 n a b::r).length
    ·simp only[hc,decide_true,if_true,o5]
    ·rw[hz,show e.length -(dF (b::a::r)+1)=m by omega,show stR (.l2 n a b::r)=stR (b::a::r)++[(dF r:Int)] by simp only[stR,XT.sts,List.append_assoc,dF]];simp only[hc,decide_false,if_false,l9]
  ·match ts with
   | []=>rw[show push n []= .inl 5 by simp[push,h],h];rfl
   | [a]=>rw[show push n [a]= .inl 5 by simp[push,h],h];rfl
   | [b,a]=>rw[show push n [b,a]= .inl 5 by simp[push,h],h];rfl
   | c::b::a::r=>
    obtain⟨p1,p2,p3,p4,p5⟩:=Yf [c,b,a] r 3 rfl (by simp at hl ⊢;omega) (by simp)
    simp only[List.cons_append,List.nil_append]at p1 p2 p3 p4 p5
    have:=GG (c::b::a::r);have:=kC r
    simp only[List.length_cons]at hl
    rw[show push n (c::b::a::r)= .inr (.l3 n a b c::r) by simp[push,h],h,D9 (by omega),l9,show(3:Int)=((3:Nat):Int)from rfl,MW,show decide ((c::b::a::r).length<3)=false by simp]
    rw[l9,E8 (by omega),o5,show((3:Nat):Int)=3 from rfl,p1,p2,o7,p3,o7,p4,o5,p5]
    rw[←hst]
    try simp only[FW,CW,Bf,o7]
    rw[hst,lh _ (by omega),o7,X3 (by omega)]
    rw[show kH r++[(dF r:Int)]=kH (.l3 n a b c::r)from rfl,ZJ]
    have hz:=Dc (show push n (c::b::a::r)= .inr (.l3 n a b c::r) by simp[push,h])
    by_cases hc:12<(XT.l3 n a b c::r).length
    ·simp only[hc,decide_true,if_true,o5]
    ·rw[hz,show e.length -(dF (c::b::a::r)+1)=m by omega,show stR (.l3 n a b c::r)=stR (c::b::a::r)++[(dF r:Int)] by simp only[stR,XT.sts,List.append_assoc,dF]];simp only[hc,decide_false,if_false,l9]
 ·simp only[hsz,I4];rfl
end Go.GP
namespace Go.GP
open Gt
set_option maxRecDepth 100000
def VT (t:Int×Int):Prop:=t=(1,0)∨t=(2,0)∨t=(3,0)∨t=(4,0)∨t=(5,0)∨∃e,t=(6,e)
theorem BO {t:Int×Int} {en:List bP} (h:vty t en=true):VT t:=by
 obtain⟨k,e⟩:=t
 unfold vty at h
 simp only at h
 cases h6:ieq k 6
 ·rw[h6,l9]at h
  cases h1:ile 1 k <;> rw[h1]at h
  ·cases h
  cases h5:ile k 5 <;> rw[h5]at h
  ·cases h
  simp only[o5,I9]at h
  rw[iI]at h1 h5
  subst h
  have:k=1∨k=2∨k=3∨k=4∨k=5:=by omega
  rcases this with rfl | rfl | rfl | rfl | rfl <;> simp[VT]
 ·rw[I9]at h6;subst h6
  exact .inr (.inr (.inr (.inr (.inr ⟨e,rfl⟩))))
def EN (n:Int×Int) (ops:List (Int×Int)) (sg:H7):Option ((Int×Int)×Int):=
 l7 (E5 (ieq n.2 0)) (o6 (cu n.1) fun u=>l7 (E5 u) (some ((0,0),2)) (U0 n ops sg)) (U0 n ops sg)
def kJ (n:Int×Int) (ops:List (Int×Int)) (sg:H7):Prop:=∃r:(Int×Int)×Int,c7C n ops sg=some r∧EN n ops sg=some r∧(r.2=0→VT r.1)
theorem VT.lit {k:Int} (h:1≤k∧k≤5):VT (k,0):=by
 have:k=1∨k=2∨k=3∨k=4∨k=5:=by omega
 rcases this with rfl | rfl | rfl | rfl | rfl <;> simp[VT]
theorem wP (a b:Int):ile a b= !ilt b a:=by
 simp only[ilt,ile];rw[←decide_not];congr 1;simp
theorem xf {α β:Type} (o:Option β) (f:α→Option β):o6 (o6 o fun x=>some (Sum.inr x)) (fun q=>X6 q f fun r=>some r)=o:=by cases o <;> rfl
theorem VT.enum (e:Int):VT (6,e):=.inr (.inr (.inr (.inr (.inr ⟨e,rfl⟩))))
theorem je {R E:Option ((Int×Int)×Int)} {c:Int} (hc:c≠0) (h1:R=some ((0,0),c)) (h2:E=some ((0,0),c)):∃r:(Int×Int)×Int,R=some r∧E=some r∧(r.2=0→VT r.1):=⟨_,h1,h2,fun h=>absurd h hc⟩
theorem nok {R E:Option ((Int×Int)×Int)} {t:Int×Int} (hv:VT t) (h1:R=some (t,0)) (h2:E=some (t,0)):∃r:(Int×Int)×Int,R=some r∧E=some r∧(r.2=0→VT r.1):=⟨_,h1,h2,fun _=>hv⟩
def RR (a0:Int×Int) (a1:List (Int×Int)) (a2:H7):Option ((Int×Int)×Int):=
 o6 (c7g a0 a2) fun(x:Bool)=>l7 (E5 x) (some ((0,0),3)) (o6 (c7k a0 a2) fun(x:Bool)=>l7 (E5 x) (some ((0,0),6))
  (l7 (ieq (o8 a1) 0) (o6 (c6W a0 a2) fun(x:qE×Bool)=>l7 (E5 x.2) (some ((0,0),8)) (some (x.1,0)))
  (l7 (ieq (o8 a1) 1) (o6 (lat a1 0) fun(x:qE)=>o6 (c7m a0 x a2) fun(x:qE×Bool)=>l7 (E5 x.2) (some ((0,0),8)) (some (x.1,0)))
  (l7 (ieq (o8 a1) 2) (o6 (lat a1 0) fun(x:qE)=>o6 (lat a1 1) fun(x_1:qE)=>o6 (c7v a0.1 x x_1) fun(x:qE×Bool)=>l7 (E5 x.2) (some ((0,0),8)) (some (x.1,0)))
  (o6 (lat a1 1) fun(x:qE)=>o6 (lat a1 0) fun(x_1:qE)=>l7 (ieq x_1.1 1) (o6 (lat a1 1) fun(x_2:qE)=>o6 (lat a1 2) fun(x_3:qE)=>
   l7 (E5 (V8 (ieq x_2.1 x_3.1) (ieq x_2.2 x_3.2))) (some ((0,0),8)) (some (x,0))) (l7 (E5 false) (some ((0,0),8)) (some (x,0))))))))
theorem b2V (n:Int×Int) (ops:List (Int×Int)) (sg:H7):c7C n ops sg=l7 (E5 (ieq n.2 0)) (o6 (c6M n.1) fun x=>l7 x (RR n ops sg) (some ((0,0),2))) (RR n ops sg):=by
 unfold c7C
 cases ieq n.2 0
 ·simp only[D6,o5]
  cases c6M n.1 with
  | none=>rfl
  | some b=>cases b <;> rfl
 ·rfl
theorem Bc {op N:Int} {ops:List (Int×Int)} {sg:H7} (h1:cu op=some true) (h2:c6M op=some true)
  (h:∃r:(Int×Int)×Int,RR (op,N) ops sg=some r∧U0 (op,N) ops sg=some r∧(r.2=0→VT r.1)):kJ (op,N) ops sg:=by
 unfold kJ
 rw[b2V];unfold EN
 dsimp only
 rw[h1,h2]
 cases ieq N 0 <;> exact h
theorem Ir {op N:Int} {ops:List (Int×Int)} {sg:H7} (h1:cu op=some false) (h2:c6M op=some false)
  (h:∃r:(Int×Int)×Int,RR (op,0) ops sg=some r∧U0 (op,0) ops sg=some r∧(r.2=0→VT r.1)):kJ (op,N) ops sg:=by
 unfold kJ
 rw[b2V];unfold EN
 dsimp only
 rw[h1,h2]
 cases hz:ieq N 0
 ·exact je (c:=2) (by decide) rfl rfl
 ·rw[I9]at hz;subst hz;exact h
section
variable (N:Int) (sg:H7)
theorem a4r {k:Int} (hk:k=1∨k=2∨k=3∨k=4∨k=5):kJ (k,N) [] sg:=by
 have hv:vty (k,0) sg.1=true:=by rcases hk with rfl | rfl | rfl | rfl | rfl <;> rfl
 have hm:cu k=some true∧c6M k=some true:=by rcases hk with rfl | rfl | rfl | rfl | rfl <;> exact⟨rfl,rfl⟩
 refine Bc hm.1 hm.2 ?_
 have key:U0 (k,N) [] sg=dA N k sg:=by rcases hk with rfl | rfl | rfl | rfl | rfl <;> exact xf _ _
 have key2:RR (k,N) [] sg=o6 (o6 (c7a (k,0) sg.1) fun(x:qE)=>l7 (ile x.1 N) (some (ile N x.2)) (some false)) fun(x:Bool)=>l7 (E5 x) (some ((0,0),3)) (some ((k,0),0)):=by
  rcases hk with rfl | rfl | rfl | rfl | rfl <;> rfl
 rw[key,key2]
 unfold dA
 rw[Hg,Oh,o7,o7,jb,jb]
 cases ile (bnd (k,0) sg.1).1 N
 ·exact je (c:=3) (by decide) rfl rfl
 cases ile N (bnd (k,0) sg.1).2
 ·exact je (c:=3) (by decide) rfl rfl
 ·exact nok (BO hv) rfl rfl
theorem a1V (hN:I64 N):kJ (6,N) [] sg:=by
 have hq:0≤N→aN .i64 N 16=N / 16:=fun h=>by rw[qN (by rw[bu h];unfold I64 at*;omega),bu h]
 refine Bc rfl rfl ?_
 have hf:c7k (6,N) sg=l7 (ilt (aN .i64 N 16) (o8 sg.1)) (o6 (lat sg.1 (aN .i64 N 16)) fun(x:bP)=>some (ilt (dV N 16) (o8 x.2))) (some false):=rfl
 have hl:c6W (6,N) sg=some ((6,aN .i64 N 16),vty (6,aN .i64 N 16) sg.1):=by
  unfold c6W;simp only[gU];rfl
 rw[show U0 (6,N) [] sg=sU N sg from xf _ _]
 unfold RR sU
 rw[hf,show c7g (6,N) sg=some (ile 0 N)from rfl,hl]
 by_cases h0:0≤N
 ·rw[D9 h0,F7 h0,hq h0]
  by_cases h1:N / 16<o8 sg.1
  ·obtain⟨x,hx,_⟩:=fU (show 0≤N / 16 by omega) h1
   rw[E8 h1,F9 h1,hx,show vty (6,N / 16) sg.1=true by unfold vty;simp only[F7 (show 0≤N / 16 by omega),E8 h1];rfl]
   simp only[o7,jb]
   cases ile (o8 x.2) (dV N 16)
   ·exact nok (VT.enum (N / 16)) rfl rfl
   ·exact je (c:=6) (by decide) rfl rfl
  ·have h1' :o8 sg.1≤N / 16:=by omega
   rw[D9 h1',F7 h1']
   exact je (c:=6) (by decide) rfl rfl
 ·rw[E8 (show N<0 by omega),F9 (show N<0 by omega)]
  exact je (c:=3) (by decide) rfl rfl
theorem qU (ts:List (Int×Int)) (en:H7):(∃x,lat ts N=some x∧ile 0 N=true∧ilt N (o8 ts)=true∧bU N ts en=some (l7 (vty x en.1) (x,0) ((0,0),8)))∨((ile 0 N=false∨ile 0 N=true∧ilt N (o8 ts)=false)∧bU N ts en=some ((0,0),6)):=by
 unfold bU
 rw[jb N 0,wP (o8 ts) N]
 cases h0:ile 0 N
 ·exact .inr ⟨.inl (by simp),rfl⟩
 cases h1:ilt N (o8 ts)
 ·exact .inr ⟨.inr (by simp),rfl⟩
 rw[iI]at h0;rw[bW]at h1
 obtain⟨x,hx,_⟩:=fU h0 h1
 rw[hx]
 simp only[Bool.not_true,Bool.not_false,l9,o5,o7,ou]
 exact .inl ⟨x,rfl,by simp,by simp,by cases vty x en.1 <;> rfl⟩
theorem a8n:kJ (7,N) [] sg:=by
 refine Bc rfl rfl ?_
 rw[show U0 (7,N) [] sg=bU N sg.2.2.1 sg from xf _ _]
 have hf:c7k (7,N) sg=l7 (ile 0 N) (some (ilt N (o8 sg.2.2.1))) (some false):=rfl
 unfold RR
 rw[hf,show c7g (7,N) sg=some true from rfl]
 rcases qU N sg.2.2.1 sg with⟨x,h1,h2,h3,h4⟩ | ⟨h1 | ⟨h1,h2⟩,h4⟩
 ·have hl:c6W (7,N) sg=some (x,vty x sg.1):=by
   unfold c6W;dsimp only;rw[h1];simp only[gU];rfl
  rw[h2,h3,h4,hl]
  cases hv:vty x sg.1
  ·exact je (c:=8) (by decide) rfl rfl
  ·exact nok (BO hv) rfl rfl
 ·rw[h1,h4];exact je (c:=6) (by decide) rfl rfl
 ·rw[h1,h2,h4];exact je (c:=6) (by decide) rfl rfl
theorem a4p:kJ (8,N) [] sg:=by
 refine Bc rfl rfl ?_
 rw[show U0 (8,N) [] sg=bU N sg.2.2.2.1 sg from xf _ _]
 have hf:c7k (8,N) sg=l7 (ile 0 N) (some (ilt N (o8 sg.2.2.2.1))) (some false):=rfl
 unfold RR
 rw[hf,show c7g (8,N) sg=some true from rfl]
 rcases qU N sg.2.2.2.1 sg with⟨x,h1,h2,h3,h4⟩ | ⟨h1 | ⟨h1,h2⟩,h4⟩
 ·have hl:c6W (8,N) sg=some (x,vty x sg.1):=by
   unfold c6W;dsimp only;rw[h1];simp only[gU];rfl
  rw[h2,h3,h4,hl]
  cases hv:vty x sg.1
  ·exact je (c:=8) (by decide) rfl rfl
  ·exact nok (BO hv) rfl rfl
 ·rw[h1,h4];exact je (c:=6) (by decide) rfl rfl
 ·rw[h1,h2,h4];exact je (c:=6) (by decide) rfl rfl
theorem a1U:kJ (9,N) [] sg:=Ir rfl rfl (nok (VT.lit (k:=5) (by omega)) rfl rfl)
theorem XQ:kJ (35,N) [] sg:=by
 refine Ir rfl rfl ?_
 rw[show U0 (35,0) [] sg=iT (35,0) sg from xf _ _]
 unfold RR iT
 simp only[c7g,c7k,c6W,gU,o7]
 cases sg.2.2.2.2.2
 ·exact je (c:=6) (by decide) rfl rfl
 ·exact nok (VT.lit (k:=2) (by omega)) rfl rfl
theorem a4s {k:Int} (hk:k=36∨k=37∨k=38∨k=39):kJ (k,N) [] sg:=by
 have hm:cu k=some true∧c6M k=some true∧ieq k 35=false:=by rcases hk with rfl | rfl | rfl | rfl <;> exact⟨rfl,rfl,rfl⟩
 refine Bc hm.1 hm.2.1 ?_
 rw[show U0 (k,N) [] sg=iT (k,N) sg by rcases hk with rfl | rfl | rfl | rfl <;> exact xf _ _]
 have hr:RR (k,N) [] sg=o6 (l7 sg.2.2.2.2.2 (l7 (ile 0 N) (some (ilt N (o8 sg.2.2.2.2.1))) (some false)) (some false)) fun(x:Bool)=>l7 (E5 x) (some ((0,0),6))
   (o6 (c6W (k,N) sg) fun(x:qE×Bool)=>l7 (E5 x.2) (some ((0,0),8)) (some (x.1,0))):=by rcases hk with rfl | rfl | rfl | rfl <;> rfl
 rw[hr]
 unfold iT
 rw[hm.2.2,l9]
 cases sg.2.2.2.2.2
 ·exact je (c:=6) (by decide) rfl rfl
 simp only[o5,o9,l9]
 rcases qU N sg.2.2.2.2.1 sg with⟨x,h1,h2,h3,h4⟩ | ⟨h1 | ⟨h1,h2⟩,h4⟩
 ·rw[h2,h3,h4]
  have hl:c6W (k,N) sg=o6 (some (l7 (ieq k 36) (l7 (vty x sg.1) (l7 (ieq x.1 2) true (ieq x.1 3)) false) (l7 (ieq k 39) (l7 (vty x sg.1) (l7 (ieq x.1 2) true (l7 (ieq x.1 3) true (l7 (ieq x.1 4) true (ieq x.1 5)))) false) (l7 (vty x sg.1) (ieq x.1 1) false)))) fun b=>some (x,b):=by
   unfold c6W
   simp only[gU,c7h,c7w]
   rcases hk with rfl | rfl | rfl | rfl <;> (rw[h1];simp only[ieq,Int.reduceEq,decide_true,decide_false,o5,l9,o7];cases vty x sg.1 <;> cases decide (x.1=2) <;> cases decide (x.1=3) <;> cases decide (x.1=4) <;> rfl)
  rw[hl]
  simp only[o7,ed]
  cases hv:vty x sg.1
  ·rcases hk with rfl | rfl | rfl | rfl <;> exact je (c:=8) (by decide) rfl rfl
  ·have hx:=BO hv
   rcases hk with rfl | rfl | rfl | rfl <;> rcases hx with rfl | rfl | rfl | rfl | rfl | ⟨e,rfl⟩ <;>
    first
    | exact nok (BO hv) rfl rfl
    | exact je (c:=8) (by decide) rfl rfl
 ·rw[h1,h4];exact je (c:=6) (by decide) rfl rfl
 ·rw[h1,h2,h4];exact je (c:=6) (by decide) rfl rfl
end
end Go.GP
namespace Go.GP
open Gt
set_option maxRecDepth 100000
section
variable (N:Int) (sg:H7)
theorem a8o {k:Int} (hk:k=10∨k=25∨k=31∨k=32) {a:Int×Int} (ha:VT a):kJ (k,N) [a] sg:=by
 have hm:cu k=some false∧c6M k=some false:=by rcases hk with rfl | rfl | rfl | rfl <;> exact⟨rfl,rfl⟩
 refine Ir hm.1 hm.2 ?_
 rcases hk with rfl | rfl | rfl | rfl <;> rcases ha with rfl | rfl | rfl | rfl | rfl | ⟨e,rfl⟩ <;>
  first
  | exact nok (VT.lit (k:=1) (by omega)) rfl rfl
  | exact nok (VT.lit (k:=2) (by omega)) rfl rfl
  | exact nok (VT.lit (k:=3) (by omega)) rfl rfl
  | exact nok (VT.lit (k:=4) (by omega)) rfl rfl
  | exact je (c:=8) (by decide) rfl rfl
theorem a4o {k:Int} (hk:k=13∨k=23∨k=24∨k=27∨k=28∨k=29∨k=30) {a b:Int×Int} (ha:VT a) (hb:VT b):kJ (k,N) [a,b] sg:=by
 have hm:cu k=some false∧c6M k=some false:=by rcases hk with rfl | rfl | rfl | rfl | rfl | rfl | rfl <;> exact⟨rfl,rfl⟩
 refine Ir hm.1 hm.2 ?_
 rcases hk with rfl | rfl | rfl | rfl | rfl | rfl | rfl <;> rcases ha with rfl | rfl | rfl | rfl | rfl | ⟨e,rfl⟩ <;> rcases hb with rfl | rfl | rfl | rfl | rfl | ⟨f,rfl⟩ <;>
  first
  | exact je (c:=8) (by decide) rfl rfl
  | exact nok (VT.lit (k:=1) (by omega)) rfl rfl
  | exact nok (VT.lit (k:=2) (by omega)) rfl rfl
  | exact nok (VT.lit (k:=3) (by omega)) rfl rfl
  | exact nok (VT.lit (k:=4) (by omega)) rfl rfl
  | exact nok (VT.lit (k:=5) (by omega)) rfl rfl
theorem a1W {k:Int} (hk:k=14∨k=15∨k=16) {a b:Int×Int} (ha:VT a) (hb:VT b):kJ (k,N) [a,b] sg:=by
 have hm:cu k=some true∧c6M k=some true:=by rcases hk with rfl | rfl | rfl <;> exact⟨rfl,rfl⟩
 refine Bc hm.1 hm.2 ?_
 have hr:RR (k,N) [a,b] sg=o6 (l7 (ile 0 N) (some (ile N 5)) (some false)) fun x=>l7 (E5 x) (some ((0,0),3)) (o6 (c7v k a b) fun x=>l7 (E5 x.2) (some ((0,0),8)) (some (x.1,0))):=by
  rcases hk with rfl | rfl | rfl <;> rfl
 have he:U0 (k,N) [a,b] sg=o6 (l7 (ile 0 N) (some (ile N 5)) (some false)) fun x=>l7 (E5 x) (some ((0,0),3)) (o6 (fQ k [a,b]) fun x=>l7 (E5 x.2) (some ((0,0),8)) (some (x.1,0))):=by
  rcases hk with rfl | rfl | rfl <;>
   (show o6 (o6 (eP N) fun x=>l7 (E5 x) (some (Sum.inr (((0:Int),(0:Int)),(3:Int)))) (some (.inl ((0:Int),(0:Int))))) _=_
    unfold eP
    cases ile 0 N <;> cases ile N 5 <;> rfl)
 rw[hr,he]
 cases ile 0 N
 ·exact je (c:=3) (by decide) rfl rfl
 cases ile N 5
 ·exact je (c:=3) (by decide) rfl rfl
 rcases hk with rfl | rfl | rfl <;> rcases ha with rfl | rfl | rfl | rfl | rfl | ⟨e,rfl⟩ <;> rcases hb with rfl | rfl | rfl | rfl | rfl | ⟨f,rfl⟩ <;>
  first
  | exact je (c:=8) (by decide) rfl rfl
  | exact nok (VT.lit (k:=2) (by omega)) rfl rfl
  | exact nok (VT.lit (k:=3) (by omega)) rfl rfl
  | exact nok (VT.lit (k:=4) (by omega)) rfl rfl
theorem a1X {k:Int} (hk:k=11∨k=12∨k=17∨k=18∨k=19∨k=20∨k=21∨k=22) {a b:Int×Int} (ha:VT a):kJ (k,N) [a,b] sg:=by
 have hm:cu k=some false∧c6M k=some false:=by rcases hk with rfl | rfl | rfl | rfl | rfl | rfl | rfl | rfl <;> exact⟨rfl,rfl⟩
 refine Ir hm.1 hm.2 ?_
 have hr:RR (k,0) [a,b] sg=o6 (c7v k a b) fun x=>l7 (E5 x.2) (some ((0,0),8)) (some (x.1,0)):=by
  rcases hk with rfl | rfl | rfl | rfl | rfl | rfl | rfl | rfl <;> rfl
 have he:U0 (k,0) [a,b] sg=o6 (fQ k [a,b]) fun x=>l7 (E5 x.2) (some ((0,0),8)) (some (x.1,0)):=by
  rcases hk with rfl | rfl | rfl | rfl | rfl | rfl | rfl | rfl <;> rfl
 rw[hr,he]
 unfold c7v fQ
 simp only[show lat [a,b] 0=some a from rfl,show lat [a,b] 1=some b from rfl,o7,c7w,c7h,c6S,ed]
 cases h1:ieq a.1 b.1
 ·rcases hk with rfl | rfl | rfl | rfl | rfl | rfl | rfl | rfl <;> exact je (c:=8) (by decide) rfl rfl
 cases h2:ieq a.2 b.2
 ·rcases hk with rfl | rfl | rfl | rfl | rfl | rfl | rfl | rfl <;> exact je (c:=8) (by decide) rfl rfl
 have ha' :=ha
 rcases hk with rfl | rfl | rfl | rfl | rfl | rfl | rfl | rfl <;> rcases ha with rfl | rfl | rfl | rfl | rfl | ⟨e,rfl⟩ <;>
  first
  | exact nok ha' rfl rfl
  | exact nok (VT.lit (k:=1) (by omega)) rfl rfl
  | exact je (c:=8) (by decide) rfl rfl
theorem a8m {a b c:Int×Int} (ha:VT a) (hb:VT b):kJ (26,N) [a,b,c] sg:=by
 refine Ir rfl rfl ?_
 have hr:RR (26,0) [a,b,c] sg=l7 (ieq a.1 1) (l7 (E5 (V8 (ieq b.1 c.1) (ieq b.2 c.2))) (some ((0,0),8)) (some (b,0))) (some ((0,0),8)):=rfl
 have he:U0 (26,0) [a,b,c] sg=o6 (fQ 26 [a,b,c]) fun x=>l7 (E5 x.2) (some ((0,0),8)) (some (x.1,0)):=rfl
 have he2:fQ 26 [a,b,c]=o6 (l7 (ieq a.1 1) (some (Sum.inr (b,V8 (ieq b.1 c.1) (ieq b.2 c.2)))) (some (Sum.inr (b,false)))) fun(o:qE⊕qE×Bool)=>X6 o (fun(x:qE)=>some ((0,0),false)) fun(r:qE×Bool)=>some r:=rfl
 rw[hr,he,he2]
 cases ieq a.1 1
 ·exact je (c:=8) (by decide) rfl rfl
 cases ieq b.1 c.1
 ·exact je (c:=8) (by decide) rfl rfl
 cases ieq b.2 c.2
 ·exact je (c:=8) (by decide) rfl rfl
 ·exact nok hb rfl rfl
theorem VG {a:Int×Int} (ha:VT a):kJ (33,N) [a] sg:=by
 refine Bc rfl rfl ?_
 have he:U0 (33,N) [a] sg=jV (33,N) a sg:=xf _ _
 have hr:RR (33,N) [a] sg=o6 (l7 (ile 0 N) (some (ilt N (o8 sg.2.1))) (some false)) fun x=>l7 (E5 x) (some ((0,0),6)) (o6 (c7m (33,N) a sg) fun x=>l7 (E5 x.2) (some ((0,0),8)) (some (x.1,0))):=rfl
 have hs:c7m (33,N) a sg=o6 (lat sg.2.1 N) fun(x:ai)=>o6 (c6P x.2.1 sg.1) fun(x_1:Bool)=>l7 x_1 (o6 (c6P x.2.2.1 sg.1) fun(x_2:Bool)=>l7 x_2 (some (x.2.2.1,V8 (ieq a.1 x.2.1.1) (ieq a.2 x.2.1.2))) (some (x.2.2.1,false))) (some (x.2.2.1,false)):=rfl
 rw[he,hr,hs]
 unfold jV
 simp only[ieq,Int.reduceEq,decide_false,l9,o7,D7,jb N 0,wP (o8 sg.2.1) N]
 cases h0:ile 0 N
 ·exact je (c:=6) (by decide) rfl rfl
 cases h1:ilt N (o8 sg.2.1)
 ·exact je (c:=6) (by decide) rfl rfl
 rw[iI]at h0;rw[bW]at h1
 obtain⟨x,hx,_⟩:=fU h0 h1
 simp only[o7,D7,Bool.not_true,l9,hx,ou,gU,D6,o5]
 cases vty x.2.1 sg.1
 ·exact je (c:=8) (by decide) rfl rfl
 cases hv:vty x.2.2.1 sg.1
 ·exact je (c:=8) (by decide) rfl rfl
 simp only[o9,l9,o5,o7]
 cases V8 (decide (a.1=x.2.1.1)) (decide (a.2=x.2.1.2))
 ·exact je (c:=8) (by decide) rfl rfl
 ·exact nok (BO hv) rfl rfl
theorem PG (hN:I64 N) {a:Int×Int} (ha:VT a):kJ (34,N) [a] sg:=by
 refine Bc rfl rfl ?_
 have he:U0 (34,N) [a] sg=jV (34,N) a sg:=xf _ _
 have hr:RR (34,N) [a] sg=o6 (l7 (ile 0 N) (some (ile (dV N 8) 5)) (some false)) fun x=>l7 (E5 x) (some ((0,0),3)) (l7 (E5 (ilt (aN .i64 N 8) (o8 sg.2.1))) (some ((0,0),6)) (o6 (c7m (34,N) a sg) fun x=>l7 (E5 x.2) (some ((0,0),8)) (some (x.1,0)))):=rfl
 have hs:c7m (34,N) a sg=o6 (lat sg.2.1 (aN .i64 N 8)) fun(x:ai)=>l7 (ieq a.1 3) (l7 (V8 (ieq x.2.1.1 3) (ieq x.2.1.2 0)) (some (a,V8 (ieq x.2.2.1.1 4) (ieq x.2.2.1.2 0))) (some (a,false))) (some (a,false)):=rfl
 rw[he,hr,hs]
 unfold jV eP
 by_cases h0:0≤N
 case neg=>
  rw[F9 (show N<0 by omega),E8 (show N<0 by omega)]
  exact je (c:=3) (by decide) rfl rfl
 have hq:aN .i64 N 8=N / 8:=by rw[qN (by rw[bu h0];unfold I64 at*;omega),bu h0]
 rw[F7 h0,D9 h0,hq,oJ h0]
 simp only[ieq,Int.reduceEq,decide_true,o5,l9,F7 (show 0≤N % 8 by omega),o7]
 cases ile (N % 8) 5
 ·exact je (c:=3) (by decide) rfl rfl
 simp only[o9,l9,o7,D7,D9 (show 0≤N / 8 by omega),wP]
 cases h1:ilt (N / 8) (o8 sg.2.1)
 ·exact je (c:=6) (by decide) rfl rfl
 rw[bW]at h1
 obtain⟨x,hx,_⟩:=fU (show 0≤N / 8 by omega) h1
 simp only[hx,Bool.not_true,l9,o7,D7,ou,o9]
 obtain⟨nm,⟨k1,k2⟩,⟨v1,v2⟩,rows⟩:=x
 dsimp only
 by_cases hK:k1=3∧k2=0
 ·obtain⟨rfl,rfl⟩:=hK
  by_cases hV:v1=4∧v2=0
  ·obtain⟨rfl,rfl⟩:=hV
   rcases ha with rfl | rfl | rfl | rfl | rfl | ⟨e,rfl⟩ <;>
    first
    | exact nok (VT.lit (k:=3) (by omega)) rfl rfl
    | exact je (c:=8) (by decide) rfl rfl
  ·have hE:vty (v1,v2) sg.1=true→v1≠4:=fun hv h=>by
    subst h
    rcases BO hv with h | h | h | h | h | ⟨e,h⟩ <;> cases h
    exact hV ⟨rfl,rfl⟩
   have hR:V8 (decide (v1=4)) (decide (v2=0))=false:=by
    by_cases h1:v1=4
    ·have:v2≠0:=fun h2=>hV ⟨h1,h2⟩
     simp[V8,h1,this]
    ·simp[V8,h1]
   rw[hR]
   cases hv:vty (v1,v2) sg.1
   ·rcases ha with rfl | rfl | rfl | rfl | rfl | ⟨e,rfl⟩ <;> exact je (c:=8) (by decide) rfl rfl
   ·have h4:=hE hv
    rw[show decide (v1=4)=false by simp[h4]]
    rcases ha with rfl | rfl | rfl | rfl | rfl | ⟨e,rfl⟩ <;> exact je (c:=8) (by decide) rfl rfl
 ·have hR:V8 (decide (k1=3)) (decide (k2=0))=false:=by
   by_cases h1:k1=3
   ·have:k2≠0:=fun h2=>hK ⟨h1,h2⟩
    simp[V8,h1,this]
   ·simp[V8,h1]
  rw[hR]
  cases hv:vty (k1,k2) sg.1
  ·rcases ha with rfl | rfl | rfl | rfl | rfl | ⟨e,rfl⟩ <;> exact je (c:=8) (by decide) rfl rfl
  cases hw:vty (v1,v2) sg.1
  ·rcases ha with rfl | rfl | rfl | rfl | rfl | ⟨e,rfl⟩ <;> exact je (c:=8) (by decide) rfl rfl
  have h3:k1≠3:=fun h=>by
   subst h
   rcases BO hv with h | h | h | h | h | ⟨e,h⟩ <;> cases h
   exact hK ⟨rfl,rfl⟩
  simp only[show decide (k1=3)=false by simp[h3],o9,l9,o5,o7]
  cases V8 (decide (a.1=k1)) (decide (a.2=k2))
  ·cases decide (a.1=3) <;> exact je (c:=8) (by decide) rfl rfl
  ·cases decide (a.1=3) <;> exact je (c:=8) (by decide) rfl rfl
theorem a0b (n:Int×Int) (hN:I64 n.2) (ops:List (Int×Int)) (hv:∀t∈ops,VT t) (hl:o8 ops=arF n.1):kJ n ops sg:=by
 obtain⟨op,N⟩:=n
 dsimp only at hN hl
 have hr:1≤op∧op≤39:=by
  by_cases h:1≤op∧op≤39
  ·exact h
  ·have:arF op=-1:=by unfold arF;rw[a0w h];rfl
   rw[this]at hl;simp[o8]at hl
 have hc:op=1∨op=2∨op=3∨op=4∨op=5∨op=6∨op=7∨op=8∨op=9∨op=10∨op=11∨op=12∨op=13∨op=14∨op=15∨op=16∨op=17∨op=18∨op=19∨op=20∨op=21∨op=22∨op=23∨op=24∨op=25∨op=26∨op=27∨op=28∨op=29∨op=30∨op=31∨op=32∨op=33∨op=34∨op=35∨op=36∨op=37∨op=38∨op=39:=by omega
 have L0:arF op=0→ops=[]:=fun h=>by rw[h]at hl;simp only[o8]at hl;exact List.length_eq_zero_iff.1 (by omega)
 have L1:arF op=1→∃a,ops=[a]∧VT a:=fun h=>by
  rw[h]at hl;simp only[o8]at hl
  match ops,hl,hv with
  | [a],_,hv=>exact⟨a,rfl,hv a (by simp)⟩
  | [],hl,_=>simp at hl
  | a::b::r,hl,_=>simp at hl;omega
 have L2:arF op=2→∃a b,ops=[a,b]∧VT a∧VT b:=fun h=>by
  rw[h]at hl;simp only[o8]at hl
  match ops,hl,hv with
  | [a,b],_,hv=>exact⟨a,b,rfl,hv a (by simp),hv b (by simp)⟩
  | [],hl,_=>simp at hl
  | [a],hl,_=>simp at hl
  | a::b::c::r,hl,_=>simp at hl;omega
 have L3:arF op=3→∃a b c,ops=[a,b,c]∧VT a∧VT b:=fun h=>by
  rw[h]at hl;simp only[o8]at hl
  match ops,hl,hv with
  | [a,b,c],_,hv=>exact⟨a,b,c,rfl,hv a (by simp),hv b (by simp)⟩
  | [],hl,_=>simp at hl
  | [a],hl,_=>simp at hl
  | [a,b],hl,_=>simp at hl
  | a::b::c::d::r,hl,_=>simp at hl;omega
 rcases hc with rfl | rfl | rfl | rfl | rfl | rfl | rfl | rfl | rfl | rfl | rfl | rfl | rfl | rfl | rfl | rfl | rfl | rfl | rfl | rfl | rfl | rfl | rfl | rfl | rfl | rfl | rfl | rfl | rfl | rfl | rfl | rfl | rfl | rfl | rfl | rfl | rfl | rfl | rfl <;>
  first
  | (rw[L0 rfl];first | exact a4r N sg (by omega) | exact a1V N sg hN | exact a8n N sg | exact a4p N sg | exact a1U N sg | exact XQ N sg | exact a4s N sg (by omega))
  | (obtain⟨a,rfl,ha⟩:=L1 rfl;first | exact a8o N sg (by omega) ha | exact VG N sg ha | exact PG N sg hN ha)
  | (obtain⟨a,b,rfl,ha,hb⟩:=L2 rfl;first | exact a4o N sg (by omega) ha hb | exact a1W N sg (by omega) ha hb | exact a1X N sg (by omega) ha)
  | (obtain⟨a,b,c,rfl,ha,hb⟩:=L3 rfl;exact a8m N sg ha hb)
end
end Go.GP
namespace Go.GP
open Gt
set_option maxRecDepth 100000
def XT.wf:XT→Prop
 | .l0 n=>arF n.1=0
 | .l1 n a=>arF n.1=1∧a.wf
 | .l2 n a b=>arF n.1=2∧a.wf∧b.wf
 | .l3 n a b c=>arF n.1=3∧a.wf∧b.wf∧c.wf
theorem a8t {n:Int×Int} {ts ts' :List XT} (h:push n ts= .inr ts') (hw:∀t∈ts,t.wf):∀t∈ts',t.wf:=by
 unfold push at h
 split at h
 ·cases h;intro t ht
  rcases List.mem_cons.1 ht with rfl | ht
  ·assumption
  ·exact hw t ht
 split at h
 ·split at h
  ·cases h;intro t ht
   rcases List.mem_cons.1 ht with rfl | ht
   ·exact⟨by assumption,hw _ (by simp)⟩
   ·exact hw t (by simp[ht])
  ·cases h
 split at h
 ·split at h
  ·cases h;intro t ht
   rcases List.mem_cons.1 ht with rfl | ht
   ·exact⟨by assumption,hw _ (by simp),hw _ (by simp)⟩
   ·exact hw t (by simp[ht])
  ·cases h
 split at h
 ·split at h
  ·cases h;intro t ht
   rcases List.mem_cons.1 ht with rfl | ht
   ·exact⟨by assumption,hw _ (by simp),hw _ (by simp),hw _ (by simp)⟩
   ·exact hw t (by simp[ht])
  ·cases h
 ·cases h
theorem VO:∀(es:List (Int×Int)) (i:Nat) (ts ts' :List XT),oG i es ts= .inr ts' →(∀t∈ts,t.wf)→∀t∈ts',t.wf
 | [],i,ts,ts',h,hw=>by cases h;exact hw
 | n::es,i,ts,ts',h,hw=>by
  unfold oG at h
  cases hp:push n ts with
  | inl c=>rw[hp]at h;cases h
  | inr t2=>
   rw[hp]at h
   simp only at h
   split at h
   ·cases h
   ·exact VO es (i+1) t2 ts' h (a8t hp hw)
theorem IY {e:List (Int×Int)} {t:XT} (h:iL e= .inr t):t.wf:=by
 unfold iL at h
 split at h
 ·cases h
 split at h
 ·cases h
 split at h
 ·cases h
 ·rename_i t' hp
  cases h
  exact VO e 0 [] [t] hp (by simp) t (by simp)
 ·cases h
def Ov (n:Int×Int) (ops:List (Int×Int)) (sg:H7):(Int×Int)×Int:=(c7C n ops sg).getD ((0,0),0)
def wU (sg:H7) (n:Int×Int) (ops:List (Int×Int)) (i:Nat):(Int×Int)⊕(Int×Int):=if(Ov n ops sg).2=0 then .inr (Ov n ops sg).1 else .inl ((i:Int),(Ov n ops sg).2)
def dD (sg:H7):XT→Nat→(Int×Int)⊕(Int×Int)
 | .l0 n,o=>wU sg n [] o
 | .l1 n a,o=>match dD sg a o with
  | .inl x=> .inl x
  | .inr ta=>wU sg n [ta] (o+a.size)
 | .l2 n a b,o=>match dD sg a o with
  | .inl x=> .inl x
  | .inr ta=>match dD sg b (o+a.size)with
   | .inl x=> .inl x
   | .inr tb=>wU sg n [ta,tb] (o+a.size+b.size)
 | .l3 n a b c,o=>match dD sg a o with
  | .inl x=> .inl x
  | .inr ta=>match dD sg b (o+a.size)with
   | .inl x=> .inl x
   | .inr tb=>match dD sg c (o+a.size+b.size)with
    | .inl x=> .inl x
    | .inr tc=>wU sg n [ta,tb,tc] (o+a.size+b.size+c.size)
theorem FK {sg:H7} {n:Int×Int} {ops:List (Int×Int)} {i:Nat} {t:Int×Int} (hN:I64 n.2) (hv:∀t∈ops,VT t) (hl:o8 ops=arF n.1) (h:wU sg n ops i= .inr t):VT t:=by
 obtain⟨r,h1,h2,h3⟩:=a0b sg n hN ops hv hl
 unfold wU at h
 split at h
 ·rename_i h0
  cases h
  have e:Ov n ops sg=r:=by unfold Ov;rw[h1];rfl
  rw[e]at h0 ⊢
  exact h3 h0
 ·cases h
section
variable (e:List (Int×Int)) (sg:H7) (z:Int×Int)
def a9n (f:(Int×Int)×List (Int×Int)×Int→Option (Out ((Int×Int)×List (Int×Int)×Int) ((Int×Int)×List (Int×Int)) ((Int×Int)×Int×Int))):Prop:=
 ∀(i:Nat) (n:Int×Int) (s ops:List (Int×Int)),e[i]? =some n→i≤100→o8 ops=arF n.1→(∀t∈ops,VT t)→s.length+ops.length≤100→
  f (z,s++ops,(i:Int))=some (match wU sg n ops i with | .inl x=> .rt ((0,0),x) | .inr t=> .nx (z,s++[t],((i+1:Nat):Int)))
theorem a2C {f:(Int×Int)×List (Int×Int)×Int→Option (Out ((Int×Int)×List (Int×Int)×Int) ((Int×Int)×List (Int×Int)) ((Int×Int)×Int×Int))}
  (he:e.length≤48) (hI:∀n∈e,I64 n.2) (hs:a9n e sg z f):∀(t:XT),t.wf→∀(pre suf s:List (Int×Int)) (k:Nat),e=pre++t.post++suf→s.length≤pre.length→
  iD f (k+t.size) (z,s,(pre.length:Int))=(match dD sg t pre.length with | .inl x=>some (.inr ((0,0),x)) | .inr r=>iD f k (z,s++[r],((pre.length+t.size:Nat):Int)))∧∀r,dD sg t pre.length= .inr r→VT r:=by
 intro t
 have step:∀(i k:Nat) (n:Int×Int) (s ops:List (Int×Int)),e[i]? =some n→o8 ops=arF n.1→(∀t∈ops,VT t)→s.length+ops.length≤100→
   iD f (k+1) (z,s++ops,(i:Int))=(match wU sg n ops i with | .inl x=>some (.inr ((0,0),x)) | .inr r=>iD f k (z,s++[r],((i+1:Nat):Int))):=by
  intro i k n s ops h1 h2 h3 h4
  rw[iD,hs i n s ops h1 (by have:=(J7.1 h1).1;omega) h2 h3 h4]
  cases wU sg n ops i <;> rfl
 have getn:∀(pre suf:List (Int×Int)) (n:Int×Int),e=pre++[n]++suf→e[pre.length]? =some n:=by
  intro pre suf n h
  rw[h,List.append_assoc,List.getElem?_append_right (by omega),Nat.sub_self];rfl
 have mem:∀(i:Nat) (n:Int×Int),e[i]? =some n→I64 n.2:=fun i n h=>hI n (dG h)
 induction t with
 | l0 n=>
  intro hw pre suf s k hd hl
  have hn:=getn pre suf n hd
  have hlen:pre.length<e.length:=(J7.1 hn).1
  have hz:o8 ([]:List (Int×Int))=arF n.1:=by rw[show arF n.1=0 from hw];rfl
  have h:=step pre.length k n s [] hn hz (by simp) (by simp;omega)
  rw[List.append_nil]at h
  exact⟨h,fun r hr=>FK (mem _ n hn) (by simp) hz hr⟩
 | l1 n a iha=>
  intro hw pre suf s k hd hl
  simp only[XT.post,List.append_assoc]at hd
  have hpa:(pre++a.post).length=pre.length+a.size:=by simp[XT.post_len]
  have hn:=getn (pre++a.post) suf n (by simpa using hd)
  rw[hpa]at hn
  have hlen:=(J7.1 hn).1
  obtain⟨i1,i2⟩:=iha hw.2 pre ([n]++suf) s (k+1) (by simpa using hd) hl
  simp only[XT.size,dD]
  rw[show k+(a.size+1)=(k+1)+a.size by omega,i1]
  cases ht:dD sg a pre.length with
  | inl x=>exact⟨rfl,fun r hr=>by cases hr⟩
  | inr ta=>
   have hz:o8 [ta]=arF n.1:=by rw[show arF n.1=1 from hw.1];rfl
   have hv:∀t∈[ta],VT t:=by simpa using i2 ta ht
   exact⟨step _ k n s [ta] hn hz hv (by simp;omega),fun r hr=>FK (mem _ n hn) hv hz hr⟩
 | l2 n a b iha ihb=>
  intro hw pre suf s k hd hl
  simp only[XT.post,List.append_assoc]at hd
  have hpa:(pre++a.post).length=pre.length+a.size:=by simp[XT.post_len]
  have hpb:(pre++a.post++b.post).length=pre.length+a.size+b.size:=by simp[XT.post_len];omega
  have hn:=getn (pre++a.post++b.post) suf n (by simpa using hd)
  rw[hpb]at hn
  have hlen:=(J7.1 hn).1
  obtain⟨i1,i2⟩:=iha hw.2.1 pre (b.post++[n]++suf) s (k+1+b.size) (by simpa using hd) hl
  simp only[XT.size,dD]
  rw[show k+(a.size+b.size+1)=(k+1+b.size)+a.size by omega,i1]
  cases ht:dD sg a pre.length with
  | inl x=>exact⟨rfl,fun r hr=>by cases hr⟩
  | inr ta=>
   have hsa:=a.size_pos
   obtain⟨j1,j2⟩:=ihb hw.2.2 (pre++a.post) ([n]++suf) (s++[ta]) (k+1) (by simpa using hd) (by simp[XT.post_len];omega)
   rw[hpa]at j1 j2
   simp only
   rw[j1]
   cases hu:dD sg b (pre.length+a.size)with
   | inl x=>exact⟨rfl,fun r hr=>by cases hr⟩
   | inr tb=>
    have hz:o8 [ta,tb]=arF n.1:=by rw[show arF n.1=2 from hw.1];rfl
    have hv:∀t∈[ta,tb],VT t:=by simpa using ⟨i2 ta ht,j2 tb hu⟩
    have:=step _ k n s [ta,tb] hn hz hv (by simp;omega)
    simp only[List.append_assoc,List.cons_append,List.nil_append]
    rw[show pre.length+(a.size+b.size+1)=pre.length+a.size+b.size+1 by omega]
    exact⟨this,fun r hr=>FK (mem _ n hn) hv hz hr⟩
 | l3 n a b c iha ihb ihc=>
  intro hw pre suf s k hd hl
  simp only[XT.post,List.append_assoc]at hd
  have hpa:(pre++a.post).length=pre.length+a.size:=by simp[XT.post_len]
  have hpb:(pre++a.post++b.post).length=pre.length+a.size+b.size:=by simp[XT.post_len];omega
  have hpc:(pre++a.post++b.post++c.post).length=pre.length+a.size+b.size+c.size:=by simp[XT.post_len];omega
  have hn:=getn (pre++a.post++b.post++c.post) suf n (by simpa using hd)
  rw[hpc]at hn
  have hlen:=(J7.1 hn).1
  obtain⟨i1,i2⟩:=iha hw.2.1 pre (b.post++(c.post++([n]++suf))) s (k+1+c.size+b.size) (by simpa using hd) hl
  simp only[XT.size,dD]
  rw[show k+(a.size+b.size+c.size+1)=(k+1+c.size+b.size)+a.size by omega,i1]
  have hsa:=a.size_pos
  have hsb:=b.size_pos
  cases ht:dD sg a pre.length with
  | inl x=>exact⟨rfl,fun r hr=>by cases hr⟩
  | inr ta=>
   obtain⟨j1,j2⟩:=ihb hw.2.2.1 (pre++a.post) (c.post++([n]++suf)) (s++[ta]) (k+1+c.size) (by simpa using hd) (by simp[XT.post_len];omega)
   rw[hpa]at j1 j2
   simp only
   rw[j1]
   cases hu:dD sg b (pre.length+a.size)with
   | inl x=>exact⟨rfl,fun r hr=>by cases hr⟩
   | inr tb=>
    obtain⟨q1,q2⟩:=ihc hw.2.2.2 (pre++a.post++b.post) ([n]++suf) (s++[ta]++[tb]) (k+1) (by simpa using hd) (by simp[XT.post_len];omega)
    rw[hpb]at q1 q2
    simp only
    rw[q1]
    cases hc:dD sg c (pre.length+a.size+b.size)with
    | inl x=>exact⟨rfl,fun r hr=>by cases hr⟩
    | inr tc=>
     have hz:o8 [ta,tb,tc]=arF n.1:=by rw[show arF n.1=3 from hw.1];rfl
     have hv:∀t∈[ta,tb,tc],VT t:=by simpa using ⟨i2 ta ht,j2 tb hu,q2 tc hc⟩
     have:=step _ k n s [ta,tb,tc] hn hz hv (by simp;omega)
     simp only[List.append_assoc,List.cons_append,List.nil_append]
     rw[show pre.length+(a.size+b.size+c.size+1)=pre.length+a.size+b.size+c.size+1 by omega]
     exact⟨this,fun r hr=>FK (mem _ n hn) hv hz hr⟩
end
def jk (e:List (Int×Int)) (sg:H7):(Int×Int)×Int×Int:=match iL e with
 | .inl x=>((0,0),x)
 | .inr t=>match dD sg t 0 with
  | .inl x=>((0,0),x)
  | .inr r=>(r,0,0)
theorem YT {α:Type} (s ops:List α) (k:Int) (hk:o8 ops=k) (h:s.length+ops.length≤100):
  G8 .i64 (o8 (s++ops)) k=(s.length:Int)∧jG (s.length:Int) (o8 (s++ops)) (o8 (s++ops))=true∧gQ (s++ops) (toN (s.length:Int)) (toN (o8 (s++ops)))=ops
  ∧jG 0 (s.length:Int) (o8 (s++ops))=true∧gQ (s++ops) (toN 0) (toN (s.length:Int))=s:=by
 subst hk
 refine⟨?_,?_,?_,?_,?_⟩
 ·rw[H8 (by unfold I64;simp[o8];omega)];simp[o8]
 ·simp[jG,o8];omega
 ·show((s++ops).take (((s++ops).length:Nat):Int).toNat).drop s.length=ops
  rw[Int.toNat_natCast,List.take_length,List.drop_left]
 ·simp[jG,o8];omega
 ·simp[gQ,toN]
theorem YS {e:List (Int×Int)} {sg:H7} {f:(Int×Int)×List (Int×Int)×Int→Option (Out ((Int×Int)×List (Int×Int)×Int) ((Int×Int)×List (Int×Int)) ((Int×Int)×Int×Int))}
  (hI:∀n∈e,I64 n.2) (hs:a9n e sg (0,0) f) (hend:∀s,f ((0,0),s,(e.length:Int))=some (.ex ((0,0),s))) (hcode:∀x,iL e= .inl x→x.2≠0):
  l7 (E5 (ieq (uG e).2.2 0)) (some ((((0:Int),(0:Int)),(uG e).2):(Int×Int)×Int×Int)) (o6 (U2 f (((0:Int),(0:Int)),([]:List (Int×Int)),(0:Int))) fun(o:(Int×Int)×List (Int×Int)⊕(Int×Int)×Int×Int)=>
   X6 o (fun(y:(Int×Int)×List (Int×Int))=>o6 (lat y.2 0) fun(x:Int×Int)=>o6 (L8 y.2 (toN 0)) fun(x:Int×Int)=>some (x,0,0)) fun(r:(Int×Int)×Int×Int)=>some r)=some (jk e sg):=by
 unfold uG jk
 cases h:iL e with
 | inl x=>simp only[D8 (hcode x h),D6,o5]
 | inr t=>
  obtain⟨hp,h48⟩:=xk h
  have hw:=IY h
  obtain⟨l1,_⟩:=a2C e sg (0,0) h48 hI hs t hw [] [] [] (dN -t.size) (by simpa using hp) (by simp)
  have hsz:e.length=t.size:=by rw[hp,XT.post_len]
  have hlo:U2 f (((0:Int),(0:Int)),([]:List (Int×Int)),(0:Int))=iD f (dN -t.size+t.size) ((0,0),[],(([]:List (Int×Int)).length:Int)):=by
   unfold U2
   rw[Nat.sub_add_cancel (by unfold dN;omega)];rfl
  simp only[E9 (rfl:(0:Int)=0),o9,l9]
  rw[hlo,l1]
  simp only[List.length_nil,Nat.zero_add]
  cases dD sg t 0 with
  | inl x=>rfl
  | inr r=>
   obtain⟨k,hk⟩:∃k,dN -t.size=k+1:=⟨dN -t.size -1,by unfold dN;omega⟩
   simp only[List.nil_append]
   rw[hk,iD,←hsz,hend]
   rfl
theorem BJ {e:List (Int×Int)} {x:Int×Int} (h:iL e= .inl x):x.2≠0:=by
 have key:∀(es:List (Int×Int)) (i:Nat) (ts:List XT) (x:Int×Int),oG i es ts= .inl x→x.2≠0:=by
  intro es
  induction es with
  | nil=>intro i ts x h;cases h
  | cons n es ih=>
   intro i ts x h
   unfold oG at h
   cases hp:push n ts with
   | inl c=>
    rw[hp]at h;cases h
    show c≠0
    unfold push at hp
    (repeat' split at hp) <;> first | (cases hp;done) | (cases hp;decide)
   | inr t2=>
    rw[hp]at h
    simp only at h
    split at h
    ·cases h;show(16:Int)≠0;decide
    ·exact ih _ _ _ h
 unfold iL at h
 split at h
 ·cases h;show(4:Int)≠0;decide
 split at h
 ·cases h;show(5:Int)≠0;decide
 split at h
 ·rename_i y hp;cases h;exact key _ _ _ _ hp
 ·cases h
 ·cases h;show(4:Int)≠0;decide
theorem a2B {e:List (Int×Int)} (sg:H7) (hI:∀n∈e,I64 n.2):wM e sg=some (jk e sg):=by
 unfold wM
 rw[GH,o7]
 refine YS hI (fun i n s ops hn hi2 hl hv hlen=>?_) (fun s=>?_) (fun x h=>BJ h)
 ·obtain⟨r,h1,h2,h3⟩:=a0b sg n (hI n (dG hn)) ops hv hl
  obtain⟨v1,v2,v3,v4,v5⟩:=YT s ops _ hl hlen
  have e' :Ov n ops sg=r:=by unfold Ov;rw[h1];rfl
  have hi:=(J7.1 hn).1
  simp only[H9 hn,o5,F6,hn,o7,Ld,v1,v2,v3,v4,v5]
  unfold wU
  rw[e']
  unfold EN at h2
  have fin:U0 n ops sg=some r→(o6 (U0 n ops sg) fun(x_3:qE×Int)=>l7 (E5 (ieq x_3.2 0)) (some (Out.rt ((((0:Int),(0:Int)),((i:Int),x_3.2)):(Int×Int)×Int×Int)))
    (o6 (dE s [x_3.1]) fun(x_4:List qE)=>some (Out.nx (((0:Int),(0:Int)),x_4,A7 .i64 (i:Int) 1))))=
    some (match if r.2=0 then(.inr r.1:(Int×Int)⊕(Int×Int))else .inl ((i:Int),r.2)with | .inl x=>Out.rt ((0,0),x) | .inr t=>(Out.nx ((0,0),s++[t],((i+1:Nat):Int)):Out ((Int×Int)×List (Int×Int)×Int) ((Int×Int)×List (Int×Int)) ((Int×Int)×Int×Int))):=by
   intro hr
   rw[hr,o7]
   by_cases h0:r.2=0
   ·rw[if_pos h0,E9 h0]
    simp only[o9,l9]
    rw[lh _ (by omega),o7,X3 (by omega)]
   ·rw[if_neg h0,D8 h0];rfl
  cases hz:ieq n.2 0
  ·rw[hz]at h2
   simp only[D6,o5]at h2 ⊢
   cases hu:cu n.1 with
   | none=>rw[hu]at h2;cases h2
   | some u=>
    rw[hu]at h2
    simp only[o7]at h2 ⊢
    cases u
    ·simp only[D6,o5]at h2 ⊢
     cases h2
     rfl
    ·exact fin h2
  ·rw[hz]at h2
   exact fin h2
 ·rw[I4];rfl
section
variable {α β σ ε ρ:Type}
theorem jB (l:List α) (G:β→α→β) (mk:β→Int→σ) (fin:β→ε) (Inv:Nat→β→Prop) {f:σ→Option (σ⊕ε)} {b:β} (hl:l.length≤1000000) (h0:Inv 0 b)
  (hin:∀(i:Nat) (a:α) (b:β),l[i]? =some a→i≤1000000→Inv i b→f (mk b (i:Int))=some (.inl (mk (G b a) ((i+1:Nat):Int)))∧Inv (i+1) (G b a))
  (hend:∀b,Inv l.length b→f (mk b (l.length:Int))=some (.inr (fin b))):
  X5 f (mk b 0)=some (fin (l.foldl G b))∧Inv l.length (l.foldl G b):=by
 have key:∀(n i:Nat) (b:β),i≤l.length→l.length -i<n→Inv i b→iC f n (mk b (i:Int))=some (fin ((l.drop i).foldl G b))∧Inv l.length ((l.drop i).foldl G b):=by
  intro n
  induction n with
  | zero=>intro i b _ h _;omega
  | succ n ih=>
   intro i b hi hn hI
   unfold iC
   by_cases h:i<l.length
   ·have e:=Y6 h
    obtain⟨h1,h2⟩:=hin i _ b e (by omega) hI
    rw[h1,List.drop_eq_getElem_cons h]
    exact ih (i+1) _ (by omega) (by omega) h2
   ·have:i=l.length:=by omega
    subst this
    rw[hend b hI,List.drop_length]
    exact⟨rfl,hI⟩
 have:=key dN 0 b (by omega) (by unfold dN;omega) h0
 exact this
theorem aJ {γ:Type} (l:List α) (G:β→α→β) (mk:β→Int→σ) (fin:β→ε) (Inv:Nat→β→Prop) (b:β) {f:σ→Option (σ⊕ε)} {K:ε→Option γ} {r:Option γ} (hl:l.length≤1000000) (h0:Inv 0 b)
  (hin:∀(i:Nat) (a:α) (b:β),l[i]? =some a→i≤1000000→Inv i b→f (mk b (i:Int))=some (.inl (mk (G b a) ((i+1:Nat):Int)))∧Inv (i+1) (G b a))
  (hend:∀b,Inv l.length b→f (mk b (l.length:Int))=some (.inr (fin b))) (hk:Inv l.length (l.foldl G b)→K (fin (l.foldl G b))=r):o6 (X5 f (mk b 0)) K=r:=by
 obtain⟨h1,h2⟩:=jB l G mk fin Inv hl h0 hin hend
 rw[h1];exact hk h2
def U1 (G:β→α→β⊕ρ):List α→β→β⊕ρ
 | [],b=> .inl b
 | a::l,b=>match G b a with | .inl b' =>U1 G l b' | .inr r=> .inr r
theorem XI (l:List α) (G:β→α→β⊕ρ) (mk:β→Int→σ) (fin:β→ε) (Inv:Nat→β→Prop) {f:σ→Option (Out σ ε ρ)} {b:β} (hl:l.length≤1000000) (h0:Inv 0 b)
  (hin:∀(i:Nat) (a:α) (b:β),l[i]? =some a→i≤1000000→Inv i b→f (mk b (i:Int))=some (match G b a with | .inl b' => .nx (mk b' ((i+1:Nat):Int)) | .inr r=> .rt r)∧∀b',G b a= .inl b' →Inv (i+1) b')
  (hend:∀b,Inv l.length b→f (mk b (l.length:Int))=some (.ex (fin b))):
  U2 f (mk b 0)=some (match U1 G l b with | .inl b' => .inl (fin b') | .inr r=> .inr r)∧∀b',U1 G l b= .inl b' →Inv l.length b' :=by
 have key:∀(n i:Nat) (b:β),i≤l.length→l.length -i<n→Inv i b→iD f n (mk b (i:Int))=some (match U1 G (l.drop i) b with | .inl b' => .inl (fin b') | .inr r=> .inr r)∧∀b',U1 G (l.drop i) b= .inl b' →Inv l.length b' :=by
  intro n
  induction n with
  | zero=>intro i b _ h _;omega
  | succ n ih=>
   intro i b hi hn hI
   unfold iD
   by_cases h:i<l.length
   ·have e:=Y6 h
    obtain⟨h1,h2⟩:=hin i _ b e (by omega) hI
    rw[h1,List.drop_eq_getElem_cons h]
    unfold U1
    cases hg:G b l[i]with
    | inr r=>exact⟨rfl,fun b' hb=>by cases hb⟩
    | inl b' =>exact ih (i+1) _ (by omega) (by omega) (h2 b' hg)
   ·have:i=l.length:=by omega
    subst this
    rw[hend b hI,List.drop_length]
    exact⟨rfl,fun b' hb=>by cases hb;exact hI⟩
 have:=key dN 0 b (by omega) (by unfold dN;omega) h0
 exact this
theorem fV {γ:Type} (l:List α) (G:β→α→β⊕ρ) (mk:β→Int→σ) (fin:β→ε) (Inv:Nat→β→Prop) (b:β) {f:σ→Option (Out σ ε ρ)} {K:ε⊕ρ→Option γ} {r:Option γ} (hl:l.length≤1000000) (h0:Inv 0 b)
  (hin:∀(i:Nat) (a:α) (b:β),l[i]? =some a→i≤1000000→Inv i b→f (mk b (i:Int))=some (match G b a with | .inl b' => .nx (mk b' ((i+1:Nat):Int)) | .inr r=> .rt r)∧∀b',G b a= .inl b' →Inv (i+1) b')
  (hend:∀b,Inv l.length b→f (mk b (l.length:Int))=some (.ex (fin b)))
  (hk:(∀b',U1 G l b= .inl b' →Inv l.length b')→K (match U1 G l b with | .inl b' => .inl (fin b') | .inr r=> .inr r)=r):o6 (U2 f (mk b 0)) K=r:=by
 obtain⟨h1,h2⟩:=XI l G mk fin Inv hl h0 hin hend
 rw[h1];exact hk h2
end
def TT (c:UInt8):Bool:=decide (32≤c.toNat)&&decide (c.toNat≤126)&&decide (c.toNat≠34)
def YO (s:List UInt8):Bool:=decide (s.length≤64)&&s.all TT
theorem ZI (c:UInt8):∀s:List UInt8,decide (0≤Lib.indexByte s c)=s.any fun x=>decide (x.toNat=c.toNat)
 | []=>by simp[Lib.indexByte]
 | b::l=>by
  have ih:=ZI c l
  have hge:=Lib.indexByte_ge l c
  rw[List.any_cons,←ih]
  have e:Lib.indexByte (b::l) c=if b=c then 0 else if Lib.indexByte l c=-1 then -1 else Lib.indexByte l c+1:=by
   rw[Lib.indexByte];simp
  rw[e]
  by_cases h:b=c
  ·subst h;simp
  ·have h2:b.toNat≠c.toNat:=fun hh=>h (UInt8.toNat_inj.1 hh)
   rw[if_neg h,show decide (b.toNat=c.toNat)=false by simp[h2],Bool.false_or]
   by_cases h3:Lib.indexByte l c=-1
   ·rw[h3];rfl
   ·rw[if_neg h3];simp;omega
theorem a6V (c:UInt8):TT c=(!ilt (c.toNat:Int) 32&&!ilt 126 (c.toNat:Int)&&!ieq (c.toNat:Int) 34):=by
 unfold TT ilt ieq
 rw[Bool.eq_iff_iff];simp;omega
theorem Zl (s:List UInt8) (p:UInt8→Bool):(∀(i:Nat) (a:UInt8),s[i]? =some a→p a=true)↔s.all p=true:=by
 rw[List.all_eq_true]
 exact⟨fun h x hx=>by obtain⟨i,hi,rfl⟩:=List.getElem_of_mem hx;exact h i _ (Y6 hi),fun h i a hi=>h a (dG hi)⟩
theorem OW {s:List UInt8} (h:s.length≤1000000):pK s=some (YO s):=by
 unfold pK
 have h5:ilt 64 (o8 s)= !decide (s.length≤64):=by simp only[ilt,o8];rw[←decide_not];congr 1;simp;omega
 rw[h5,show oH s [34]=some (s.any fun x=>decide (x.toNat=(34:UInt8).toNat))from congrArg some (ZI 34 s)]
 unfold YO
 cases decide (s.length≤64)
 ·rfl
 simp only[Bool.not_true,l9,o7,Bool.true_and]
 cases h34:s.any fun x=>decide (x.toNat=(34:UInt8).toNat)
 case true=>
  obtain⟨x,hx,hx2⟩:=List.any_eq_true.1 h34
  simp only[decide_eq_true_eq]at hx2
  have:s.all TT=false:=by
   rw[List.all_eq_false]
   refine⟨x,hx,?_⟩
   unfold TT;rw[hx2];decide
  rw[this];rfl
 simp only[l9]
 refine ak (QE s (fun i a=>TT a) false PUnit.unit _ (by omega) (fun i x hx=>?_) ?_) ?_
 rotate_left 2
 ·by_cases hw:s.all TT=true
  ·rw[if_pos ((Zl s TT).2 hw),hw];rfl
  ·rw[if_neg (fun h=>hw ((Zl s TT).1 h))]
   simp only[Bool.not_eq_true]at hw
   rw[hw];rfl
 ·have hi:=(J7.1 hx).1
  have hne:ieq (x.toNat:Int) 34=false:=by
   have:=(List.any_eq_false.1 h34) x (dG hx)
   simp only[decide_eq_true_eq]at this
   exact D8 (by
     have h:(34:UInt8).toNat=34:=rfl
     omega)
  simp only[H9 hx,o5,a0R,hx,Option.map_some,o7]
  rw[X3 (by omega),a6V,hne]
  cases ilt (x.toNat:Int) 32 <;> cases ilt 126 (x.toNat:Int) <;> rfl
 ·rw[I4];rfl
def zQ (e:List (Int×Int)) (sg:H7) (t:Int×Int):Int:=l7 (ieq (jk e sg).2.2 0) (l7 (V8 (ieq (jk e sg).1.1 t.1) (ieq (jk e sg).1.2 t.2)) 0 8) (jk e sg).2.2
theorem ET {e:List (Int×Int)} (sg:H7) (t:Int×Int) (hI:∀n∈e,I64 n.2):lw e sg t=some (zQ e sg t):=by
 unfold lw zQ
 rw[a2B sg hI,o7]
 cases ieq (jk e sg).2.2 0
 ·rfl
 simp only[o9,l9,o5]
 cases V8 (ieq (jk e sg).1.1 t.1) (ieq (jk e sg).1.2 t.2) <;> rfl
def a2P (r:J6):Prop:=r.1.length≤1000000∧r.2.2.2.2.2.2.2.length≤1000000∧(∀n∈r.2.2.2.2.2.1,I64 n.2)∧(∀n∈r.2.2.2.2.2.2.1,I64 n.2)
def Eb (rs:List J6) (d:Int):Nat:=rs.countP fun o=>ieq o.2.1 d
def MI (r:J6) (sg:H7) (t:Int×Int):Int:=
 l7 (ilt 0 (o8 r.2.2.2.2.2.1)) (l7 (ieq (zQ r.2.2.2.2.2.1 sg (1,0)) 0) (zQ r.2.2.2.2.2.2.1 sg t) (zQ r.2.2.2.2.2.1 sg (1,0))) (zQ r.2.2.2.2.2.2.1 sg t)
def yf (s:x9) (sg:H7) (k:Nat) (r:J6):Int:=
 l7 (vg r.1) (l7 ((s.2.2.2.2.take k).any fun x=>seq x.1 r.1) 7 (match lat s.2.2.2.1 r.2.1 with
  | none=>6
  | some d=>l7 (l7 (ieq r.2.2.1 (-1)) false (l7 (ilt r.2.2.1 0) true (l7 (ile k r.2.2.1) true (match lat s.2.2.2.2 r.2.2.1 with | some q=>E5 (ieq q.2.1 r.2.1) | none=>true)))) 9
   (l7 (ilt r.2.2.2.1 0) 3 (l7 (ilt 9 r.2.2.2.1) 3 (l7 (zU r.2.2.2.2.1) (l7 (ieq r.2.2.2.2.1.1 r.2.2.2.2.1.2) 3
    (l7 (ile 8 (Eb (s.2.2.2.2.take k) r.2.1)) 4 (l7 (YO r.2.2.2.2.2.2.2) (MI r sg d.2) 2))) 3))))) 2
theorem jc {α:Type} {l:List α} {i:Int} (h:ile 0 i=false∨ilt i (o8 l)=false):lat l i=none:=by
 unfold lat
 split
 ·rename_i h0
  rcases h with h | h
  ·rw[uf]at h;omega
  ·rw[aT]at h;simp only[o8]at h
   exact List.getElem?_eq_none (by omega)
 ·rfl
theorem RI {s:x9} (sg:H7) {k:Nat} {r:J6} (hr:s.2.2.2.2[k]? =some r) (hl:s.2.2.2.2.length≤1000) (h:a2P r):sW s (k:Int) sg=some (yf s sg k r):=by
 have hk:=(J7.1 hr).1
 have hcnt:Eb (s.2.2.2.2.take k) r.2.1≤1000:=by
  have:=List.countP_le_length (l:=s.2.2.2.2.take k) (p:=fun(o:J6)=>ieq o.2.1 r.2.1)
  unfold Eb;simp at this;omega
 unfold sW
 rw[F6,hr,o7,qw (by omega),o7]
 refine ak (jB (s.2.2.2.2.take k) (fun(c:Nat) (o:J6)=>l7 (ieq o.2.1 r.2.1) (c+1) c) (fun c i=>((c:Int),i)) (fun c=>(c:Int)) (fun i c=>c≤i) (b:=0) (by simp;omega) (by omega) (fun i a c ha hi hc=>?_) (fun c hc=>?_)).1 ?_
 rotate_left 2
 ·have hf:∀(l:List J6) (c:Nat),l.foldl (fun(c:Nat) (o:J6)=>l7 (ieq o.2.1 r.2.1) (c+1) c) c=c+Eb l r.2.1:=by
   intro l
   induction l with
   | nil=>intro c;rfl
   | cons a l ih=>
    intro c
    rw[List.foldl_cons,ih]
    unfold Eb
    rw[List.countP_cons]
    cases ieq a.2.1 r.2.1 <;> simp <;> omega
  rw[hf,Nat.zero_add,o7,iP h.1,o7,o7,XC _ (by simp;omega),o7]
  unfold yf
  cases vg r.1
  ·rfl
  simp only[o9,l9,o5,o7]
  cases (s.2.2.2.2.take k).any fun x=>seq x.1 r.1
  case true=>rfl
  simp only[l9]
  rw[jb r.2.1 0,wP (o8 s.2.2.2.1) r.2.1]
  cases h0:ile 0 r.2.1
  ·rw[jc (.inl h0)];rfl
  cases h1:ilt r.2.1 (o8 s.2.2.2.1)
  ·rw[jc (.inr h1)];rfl
  obtain⟨d,hd,_⟩:=fU (iI.1 h0) (bW.1 h1)
  rw[hd]
  simp only[Bool.not_true,l9,o7,OW h.2.1]
  have hpar:(l7 (E5 (ieq r.2.2.1 (-1))) (l7 (ilt r.2.2.1 0) (some true) (l7 (ile (k:Int) r.2.2.1) (some true) (o6 (lat s.2.2.2.2 r.2.2.1) fun(x_6:J6)=>some (E5 (ieq x_6.2.1 r.2.1))))) (some false))=
    some (l7 (ieq r.2.2.1 (-1)) false (l7 (ilt r.2.2.1 0) true (l7 (ile k r.2.2.1) true (match lat s.2.2.2.2 r.2.2.1 with | some q=>E5 (ieq q.2.1 r.2.1) | none=>true)))):=by
   cases ieq r.2.2.1 (-1)
   case true=>rfl
   simp only[D6,o5,l9]
   cases hp0:ilt r.2.2.1 0
   case true=>rfl
   cases hp1:ile (k:Int) r.2.2.1
   case true=>rfl
   rw[aT]at hp0;rw[uf]at hp1
   obtain⟨q,hq,_⟩:=fU (l:=s.2.2.2.2) hp0 (by simp only[o8];omega)
   rw[hq];rfl
  rw[hpar,o7]
  cases (l7 (ieq r.2.2.1 (-1)) false (l7 (ilt r.2.2.1 0) true (l7 (ile k r.2.2.1) true (match lat s.2.2.2.2 r.2.2.1 with | some q=>E5 (ieq q.2.1 r.2.1) | none=>true))))
  case true=>rfl
  simp only[l9]
  cases ilt r.2.2.2.1 0
  case true=>rfl
  simp only[l9,o7]
  cases ilt 9 r.2.2.2.1
  case true=>rfl
  simp only[l9]
  have hval:∀(A B:Option (J6⊕Int)),l7 (ilt r.2.2.2.2.1.1 0) A (l7 (ile r.2.2.2.2.1.2 r.2.2.2.2.1.1) A (l7 (ilt 109573 r.2.2.2.2.1.2) A B))=l7 (zU r.2.2.2.2.1) (l7 (ieq r.2.2.2.2.1.1 r.2.2.2.2.1.2) A B) A:=by
   intro A B
   unfold zU
   by_cases v0:r.2.2.2.2.1.1<(0:Int)
   ·rw[E8 v0,F9 (show r.2.2.2.2.1.1<(0:Int)from v0)];rfl
   rw[D9 (Int.not_lt.1 v0),F7 (Int.not_lt.1 v0)]
   by_cases v1:(r.2.2.2.2.1.2:Int)≤r.2.2.2.2.1.1
   ·rw[F7 v1]
    by_cases v2:(r.2.2.2.2.1.1:Int)≤r.2.2.2.2.1.2
    ·rw[F7 v2,E9 (Int.le_antisymm v2 v1)]
     cases ile r.2.2.2.2.1.2 109573 <;> rfl
    ·rw[F9 (Int.not_le.1 v2)];rfl
   ·have v1' :=Int.not_le.1 v1
    rw[F9 v1',F7 (Int.le_of_lt v1'),D8 (fun hh=>by rw[hh]at v1';exact Int.lt_irrefl _ v1'),jb]
    cases ile r.2.2.2.2.1.2 109573 <;> rfl
  rw[hval]
  cases zU r.2.2.2.2.1
  ·rfl
  cases ieq r.2.2.2.2.1.1 r.2.2.2.2.1.2
  case true=>rfl
  simp only[o5,l9]
  cases ile 8 ((Eb (s.2.2.2.2.take k) r.2.1:Nat):Int)
  case true=>rfl
  cases YO r.2.2.2.2.2.2.2
  ·rfl
  simp only[o9,l9,o5,o7,D7,MI,hd,ET sg _ h.2.2.1,ET sg _ h.2.2.2]
  cases ilt 0 (o8 r.2.2.2.2.2.1)
  ·rfl
  simp only[o5]
  cases ieq (zQ r.2.2.2.2.2.1 sg (1,0)) 0 <;> rfl
 ·have hc' :c≤1000000:=by omega
  obtain⟨ha1,ha2⟩:=WP ha
  simp only[H9 ha,o5,F6,ha,o7]
  rw[X3 (show i≤9000000000000000000 by omega),X3 (show c≤9000000000000000000 by omega)]
  cases ieq a.2.1 r.2.1
  ·exact⟨rfl,by show c≤i+1;omega⟩
  ·exact⟨rfl,by show c+1≤i+1;omega⟩
 ·simp only[I4];rfl
structure SmS (s:x9):Prop where
 nm:s.1.length≤1000000
 ni:s.2.2.1.length≤14
 nd:s.2.2.2.1.length≤14
 nr:s.2.2.2.2.length≤60
 fo:a2K s
 ro:∀r∈s.2.2.2.2,a2P r∧r.2.2.2.2.2.1.length≤50∧r.2.2.2.2.2.2.1.length≤50
def isM (op:Int):Bool:=l7 (ile 36 op) (ile op 39) false
theorem b3Z (op:Int):isM op=l7 (ieq op 36) true (l7 (ieq op 37) true (l7 (ieq op 38) true (ieq op 39))):=by
 unfold isM
 by_cases h1:36≤op
 ·rw[F7 h1,o5]
  by_cases h2:op≤39
  ·rw[F7 h2]
   have:op=36∨op=37∨op=38∨op=39:=by omega
   rcases this with rfl | rfl | rfl | rfl <;> rfl
  ·rw[F9 (by omega),D8 (by omega),D8 (by omega),D8 (by omega),D8 (by omega)];rfl
 ·rw[F9 (by omega),D8 (by omega),D8 (by omega),D8 (by omega),D8 (by omega)];rfl
def FM (p:Int→Bool) (e:List (Int×Int)):List Int:=(e.filter fun n=>p n.1).map (·.2)
def lN (e:List (Int×Int)):List Int×List Int×List Int:=(zn (FM (fun o=>ieq o 7) e),zn (FM (fun o=>ieq o 8) e),zn (FM isM e))
def a8v (g:List Int→Int→List Int) (b:List Int×List Int×List Int) (n:Int×Int):List Int×List Int×List Int:=
 (l7 (ieq n.1 7) (g b.1 n.2) b.1,l7 (ieq n.1 8) (g b.2.1 n.2) b.2.1,l7 (isM n.1) (g b.2.2 n.2) b.2.2)
theorem QY (g:List Int→Int→List Int):∀(e:List (Int×Int)) (b:List Int×List Int×List Int),e.foldl (a8v g) b=((FM (fun o=>ieq o 7) e).foldl g b.1,(FM (fun o=>ieq o 8) e).foldl g b.2.1,(FM isM e).foldl g b.2.2)
 | [],b=>rfl
 | n::e,b=>by
  have hn:∀p:Int→Bool,FM p (n::e)=l7 (p n.1) (n.2::FM p e) (FM p e):=fun p=>by
   unfold FM;rw[List.filter_cons];cases p n.1 <;> rfl
  rw[List.foldl_cons,QY g e,hn,hn,hn]
  unfold a8v
  simp only
  cases ieq n.1 7 <;> cases ieq n.1 8 <;> cases isM n.1 <;> rfl
theorem Qs:∀(l b:List Int),l.foldl (fun acc n=>acc++[n]) b=b++l
 | [],b=>by simp
 | a::l,b=>by rw[List.foldl_cons,Qs l];simp
theorem yO {a k:Int} (h:a=k) (m:Int) (hm:k≠m):ieq a m=false:=D8 (by omega)
theorem wJ {l:List Int} (hl:l.length≤1000000):lq l=some (zn l):=by
 unfold lq
 have:=a9e (l:=l) hl
 rw[show(fun x=>o6 (iW x) fun(x:List Int)=>some x)=fun x=>iW x from funext fun x=>bT _]
 exact this
theorem tq {e:List (Int×Int)} (h:e.length≤1000000):fP e=some (lN e):=by
 unfold fP
 refine aJ e (a8v (fun acc n=>acc++[n])) (fun b i=>(b.1,b.2.1,b.2.2,i)) (fun b=>b) (fun i b=>b.1.length≤i∧b.2.1.length≤i∧b.2.2.length≤i) (([],[],[]):List Int×List Int×List Int) h (by simp) (fun i a b ha hi hI=>?_) (fun b hI=>?_) (fun h2=>?_)
 ·obtain⟨b1,b2,b3⟩:=b
  simp only at hI
  simp only[H9 ha,o5,F6,ha,o7,lh a.2 (show b1.length≤1000000 by omega),lh a.2 (show b2.length≤1000000 by omega),lh a.2 (show b3.length≤1000000 by omega),a8v,b3Z]
  rw[X3 (by omega)]
  by_cases h7:a.1=7
  ·rw[E9 h7,yO h7 8 (by decide),yO h7 36 (by decide),yO h7 37 (by decide),yO h7 38 (by decide),yO h7 39 (by decide)]
   exact⟨rfl,by simp <;> omega,by simp <;> omega,by simp <;> omega⟩
  rw[D8 h7]
  by_cases h8:a.1=8
  ·rw[E9 h8,yO h8 36 (by decide),yO h8 37 (by decide),yO h8 38 (by decide),yO h8 39 (by decide)]
   exact⟨rfl,by simp <;> omega,by simp <;> omega,by simp <;> omega⟩
  rw[D8 h8]
  cases ieq a.1 36 <;> cases ieq a.1 37 <;> cases ieq a.1 38 <;> cases ieq a.1 39 <;> exact⟨rfl,by simp <;> omega,by simp <;> omega,by simp <;> omega⟩
 ·simp only[I4];rfl
 ·rw[QY]at h2 ⊢
  simp only[Qs,List.nil_append]at h2 ⊢
  rw[wJ (by omega),o7,wJ (by omega),o7,wJ (by omega)]
  rfl
theorem VH (p:Int→Bool) (e:List (Int×Int)):(FM p e).length≤e.length:=by
 unfold FM;rw[List.length_map];exact List.length_filter_le _ _
theorem Dh (e:List (Int×Int)):(lN e).2.1.length≤e.length:=Nat.le_trans (wR _) (VH _ e)
theorem Di (e:List (Int×Int)):(lN e).2.2.length≤e.length:=Nat.le_trans (wR _) (VH _ e)
def inD (n d:Int):Bool:=l7 (ile 0 d) (ilt d n) false
def wY (n:Int) (r:J6):List Int:=(lN r.2.2.2.2.2.1).2.1.filter (inD n)++(lN r.2.2.2.2.2.2.1).2.1.filter (inD n)
theorem MO (p:Int→Bool):∀(l b:List Int),l.foldl (fun acc x=>l7 (p x) (acc++[x]) acc) b=b++l.filter p
 | [],b=>by simp
 | a::l,b=>by
  rw[List.foldl_cons,MO p l,List.filter_cons]
  cases p a <;> simp
theorem Qp {f:List Int×Int→Option ((List Int×Int)⊕List Int)} (l b:List Int) (n:Int) (hl:l.length≤1000) (hb:b.length≤1000)
  (hin:∀(i:Nat) (a:Int) (acc:List Int),l[i]? =some a→i≤1000000→f (acc,(i:Int))=l7 (ile 0 a) (l7 (ilt a n) (o6 (dE acc [a]) fun x=>some (.inl (x,A7 .i64 (i:Int) 1))) (some (.inl (acc,A7 .i64 (i:Int) 1)))) (some (.inl (acc,A7 .i64 (i:Int) 1))))
  (hend:∀acc,f (acc,(l.length:Int))=some (.inr acc)):X5 f (b,0)=some (b++l.filter (inD n)):=by
 have key:=jB l (fun(acc:List Int) x=>l7 (inD n x) (acc++[x]) acc) (fun b i=>(b,i)) (fun b=>b) (fun i acc=>acc.length≤1000+i) (f:=f) (b:=b) (by omega) (by omega) ?_ ?_
 ·rw[key.1,MO]
 ·intro i a acc ha hi hI
  have:=(J7.1 ha).1
  rw[hin i a acc ha hi,X3 (by omega),lh _ (by omega)]
  unfold inD
  cases ile 0 a
  ·exact⟨rfl,by show acc.length≤_;omega⟩
  cases ilt a n
  ·exact⟨rfl,by show acc.length≤_;omega⟩
  ·exact⟨rfl,by simp;omega⟩
 ·intro acc hI
  rw[hend]
theorem Hu {r:J6} (n:Int) (h1:r.2.2.2.2.2.1.length≤50) (h2:r.2.2.2.2.2.2.1.length≤50):kL r n=some (wY n r):=by
 have g1:=Dh r.2.2.2.2.2.1
 have g2:=Dh r.2.2.2.2.2.2.1
 unfold kL wY
 rw[tq (by omega),o7,tq (by omega),o7]
 refine ak (Qp (lN r.2.2.2.2.2.1).2.1 [] n (by omega) (by simp) (fun i a acc ha hi=>?_) (fun acc=>?_)) ?_
 rotate_left 2
 ·rw[o7,bT,List.nil_append]
  have:=List.length_filter_le (inD n) (lN r.2.2.2.2.2.1).2.1
  refine Qp (lN r.2.2.2.2.2.2.1).2.1 _ n (by omega) (by omega) (fun i a acc ha hi=>?_) (fun acc=>?_)
  ·simp only[H9 ha,o5,F6,ha,o7]
   rw[show L8 (lN r.2.2.2.2.2.2.1).2.1 (toN (i:Int))=some a from ha,o7]
  ·simp only[I4];rfl
 ·simp only[H9 ha,o5,F6,ha,o7]
  rw[show L8 (lN r.2.2.2.2.2.1).2.1 (toN (i:Int))=some a from ha,o7]
 ·simp only[I4];rfl
def nD (s:x9):Int:=o8 s.2.2.2.1
def dl (n:Int) (rs:List J6) (d:Int):List Int:=rs.flatMap fun r=>l7 (ieq r.2.1 d) (wY n r) []
def G9 (s:x9) (d:Int):List Int:=l7 (inD (nD s) d) (zn (dl (nD s) s.2.2.2.2 d)) []
theorem QW {s:x9} (h:SmS s) {r:J6} (hr:r∈s.2.2.2.2) (n:Int):(wY n r).length≤100:=by
 obtain⟨_,h1,h2⟩:=h.ro r hr
 have a1:=Dh r.2.2.2.2.2.1
 have a2:=Dh r.2.2.2.2.2.2.1
 have b1:=List.length_filter_le (inD n) (lN r.2.2.2.2.2.1).2.1
 have b2:=List.length_filter_le (inD n) (lN r.2.2.2.2.2.2.1).2.1
 unfold wY;rw[List.length_append];omega
theorem Zy (n:Int) (rs:List J6) (r:J6) (d:Int):dl n (rs++[r]) d=dl n rs d++l7 (ieq r.2.1 d) (wY n r) []:=by
 unfold dl;rw[List.flatMap_append];simp
theorem a7S (n:Int) (rs:List J6) (r:J6) (d:Int):dl n (r::rs) d=l7 (ieq r.2.1 d) (wY n r) []++dl n rs d:=rfl
theorem Xm {s:x9} (h:SmS s) (n d:Int):∀(rs:List J6),(∀r∈rs,r∈s.2.2.2.2)→(dl n rs d).length≤100*rs.length
 | [],_=>by simp[dl]
 | r::rs,hm=>by
  have ih:=Xm h n d rs fun r hr=>hm r (by simp[hr])
  have h1:=QW h (hm r (by simp)) n
  rw[a7S,List.length_append,List.length_cons]
  cases ieq r.2.1 d
  ·simp only[l9,List.length_nil];omega
  ·simp only[o5];omega
theorem Il {n:Int} {rs:List J6} {d x:Int} :x∈dl n rs d↔∃r∈rs,r.2.1=d∧x∈wY n r:=by
 unfold dl
 rw[List.mem_flatMap]
 constructor
 ·rintro⟨r,hr,hx⟩
  cases hq:ieq r.2.1 d <;> rw[hq]at hx
  ·simp at hx
  ·exact⟨r,hr,I9.1 hq,hx⟩
 ·rintro⟨r,hr,hq,hx⟩
  exact⟨r,hr,by rw[E9 hq];exact hx⟩
theorem a5k {n:Int} {r:J6} {x:Int} (h:x∈wY n r):0≤x∧x<n:=by
 have key:inD n x=true:=by
  unfold wY at h
  rcases List.mem_append.1 h with h | h <;> exact(List.mem_filter.1 h).2
 unfold inD at key
 cases h0:ile 0 x <;> rw[h0]at key
 ·cases key
 ·exact⟨iI.1 h0,bW.1 key⟩
theorem rQ (s:x9) (d:Int):SI (G9 s d):=by
 unfold G9;cases inD (nD s) d
 ·exact List.Pairwise.nil
 ·exact TN _
theorem qh {s:x9} {d x:Int} (h:x∈G9 s d):0≤x∧x<nD s:=by
 unfold G9 at h
 cases hq:inD (nD s) d <;> rw[hq]at h
 ·simp at h
 ·obtain⟨r,_,_,hx⟩:=Il.1 ((jd _ _).1 h)
  exact a5k hx
theorem KE {α:Type} (m k:Nat) (f:Nat→α) (v:α):((List.range m).map f).set k v=(List.range m).map fun d=>if d=k then v else f d:=by
 apply List.ext_getElem?
 intro i
 rw[List.getElem?_set,List.getElem?_map,List.getElem?_map,List.length_map,List.length_range]
 by_cases hi:i<m
 ·rw[List.getElem?_range hi]
  by_cases h:k=i
  ·subst h;simp[hi]
  ·simp[h,Ne.symm h]
 ·have:(List.range m)[i]? =none:=by simp;omega
  rw[this]
  by_cases h:k=i
  ·subst h;simp[hi]
  ·simp[h]
def Le (m:Nat) (rs:List J6):List (List Int):=(List.range m).map fun(d:Nat)=>dl (m:Int) rs (d:Int)
theorem Gz {l:List Int} (hl:l.length≤1000000):qH l=some (zn l):=wJ hl
theorem uB {α:Type} (m:Nat) (f:Nat→α) {k:Nat} (h:k<m):((List.range m).map f)[k]? =some (f k):=by
 rw[List.getElem?_map,List.getElem?_range h];rfl
theorem yl {s:x9} (h:SmS s):jT s=some ((List.range s.2.2.2.1.length).map fun(d:Nat)=>G9 s (d:Int)):=by
 have hnr:=h.nr
 have hnd:=h.nd
 unfold jT
 generalize hm:s.2.2.2.1.length=m at*
 have hn:nD s=(m:Int):=by unfold nD o8;rw[hm]
 rw[show o8 s.2.2.2.1=(m:Int)from hn,show jH (m:Int) ([]:List Int)=some (Le m []) by unfold jH Le dl;rw[if_pos (by omega)];simp[List.map_const'],o7]
 refine aJ s.2.2.2.2 (fun(b:List (List Int)) r=>l7 (inD m r.2.1) (b.set r.2.1.toNat ((b.getD r.2.1.toNat [])++wY m r)) b) (fun b i=>(b,i)) (fun b=>b) (fun i b=>b=Le m (s.2.2.2.2.take i)) (Le m []) (by omega) (by simp) (fun i r b ha hi hI=>?_) (fun b hI=>?_) (fun h2=>?_)
 ·have hlt:=(J7.1 ha).1
  obtain⟨_,h1,h2⟩:=h.ro r (dG ha)
  have hst:s.2.2.2.2.take (i+1)=s.2.2.2.2.take i++[r]:=by
   rw[List.take_succ_eq_append_getElem hlt,(J7.1 ha).2]
  have hlb:o8 b=(m:Int):=by rw[hI];simp[o8,Le]
  obtain⟨rd,hrd⟩:∃rd:Int,r.2.1=rd:=⟨r.2.1,rfl⟩
  simp only[H9 ha,o5,F6,ha,o7,hlb,hrd]
  rw[X3 (by omega),hst]
  by_cases hd:0≤rd∧rd<(m:Int)
  ·obtain⟨d0,d1⟩:=hd
   have hk:rd.toNat<m:=by omega
   have hkk:((rd.toNat:Nat):Int)=rd:=by omega
   have hg:b[rd.toNat]? =some (dl m (s.2.2.2.2.take i) rd):=by rw[hI];unfold Le;rw[uB m _ hk,hkk]
   have hll:=Xm h m rd (s.2.2.2.2.take i) fun r hr=>List.mem_of_mem_take hr
   have hrl:=QW h (dG ha) m
   have htl:(s.2.2.2.2.take i).length≤60:=by simp;omega
   rw[F7 d0,E8 d1,show inb rd (m:Int)=true by unfold inb;simp;omega,show L8 b (toN rd)=some (dl m (s.2.2.2.2.take i) rd)from hg,Hu _ h1 h2]
   simp only[o5,o7]
   rw[Fv (by omega),show Et (toN rd) (toN rd)=true by simp[Et]]
   simp only[o5,o7]
   have hin:inD m rd=true:=by unfold inD;rw[F7 d0,E8 d1];rfl
   rw[hin,show b.getD rd.toNat []=dl m (s.2.2.2.2.take i) rd by rw[jZ,hg];rfl]
   refine⟨rfl,?_⟩
   show b.set rd.toNat _=_
   rw[hI];unfold Le
   rw[KE]
   apply List.map_congr_left
   intro d hdm
   rw[Zy,hrd]
   by_cases hq:d=rd.toNat
   ·subst hq;rw[if_pos rfl,hkk,E9 rfl];rfl
   ·rw[if_neg hq,D8 (by omega)];simp
  ·have hin:inD m rd=false:=by
    unfold inD
    by_cases d0:0≤rd
    ·rw[F7 d0,D9 (by omega)];rfl
    ·rw[F9 (by omega)];rfl
   rw[hin]
   refine⟨?_,?_⟩
   ·unfold inD at hin
    cases q0:ile 0 rd
    ·rfl
    ·rw[q0]at hin;simp only[o5]at hin ⊢;rw[hin];rfl
   ·show b=_
    rw[hI];unfold Le
    apply List.map_congr_left
    intro d hdm
    have:=List.mem_range.1 hdm
    rw[Zy,hrd,D8 (by omega)];simp
 ·simp only[I4];rfl
 ·rw[List.take_length]at h2
  rw[h2]
  generalize hA:Le m s.2.2.2.2=A
  have hAl:o8 A=(m:Int):=by rw[←hA];simp[o8,Le]
  refine aJ (List.range m) (fun(b:List (List Int)) d=>b.set d (zn (b.getD d []))) (fun b i=>(b,i)) (fun b=>b) (fun i b=>b=(List.range m).map fun(d:Nat)=>if d<i then zn (dl m s.2.2.2.2 (d:Int))else dl m s.2.2.2.2 (d:Int)) A (by simp;omega) (by rw[←hA];unfold Le;simp) (fun i d b ha hi hI=>?_) (fun b hI=>?_) (fun h3=>?_)
  ·have hlt:=(J7.1 ha).1
   simp only[List.length_range]at hlt
   have hdi:d=i:=by rw[List.getElem?_range hlt]at ha;exact(Option.some.inj ha).symm
   subst hdi
   have hlb:o8 b=(m:Int):=by rw[hI];simp[o8]
   have hg:b[d]? =some (dl m s.2.2.2.2 (d:Int)):=by rw[hI,uB m _ hlt,if_neg (by omega)]
   have hll:=Xm h m d s.2.2.2.2 fun r hr=>hr
   simp only[hAl,hlb]
   rw[E8 (show(d:Int)<(m:Int) by omega),show inb (d:Int) (m:Int)=true by unfold inb;simp;omega,show L8 b (toN (d:Int))=some (dl m s.2.2.2.2 (d:Int))from hg]
   simp only[o5,o7]
   rw[Gz (by omega),show Et (toN (d:Int)) (toN (d:Int))=true by simp[Et],X3 (by omega)]
   simp only[o5,o7]
   rw[show b.getD d []=dl m s.2.2.2.2 (d:Int) by rw[jZ,hg];rfl]
   refine⟨rfl,?_⟩
   rw[hI,KE]
   apply List.map_congr_left
   intro e he
   by_cases hq:e=d
   ·subst hq;rw[if_pos rfl,if_pos (by omega)]
   ·rw[if_neg hq]
    by_cases hq2:e<d
    ·rw[if_pos hq2,if_pos (by omega)]
    ·rw[if_neg hq2,if_neg (by omega)]
  ·simp only[List.length_range,hAl,D9 (show(m:Int)≤(m:Int) by omega)];rfl
  ·rw[h3]
   apply congrArg some
   apply List.map_congr_left
   intro d hd
   have:=List.mem_range.1 hd
   simp only[List.length_range]
   rw[if_pos this]
   unfold G9
   rw[hn,show inD (m:Int) (d:Int)=true by unfold inD;rw[F7 (by omega),E8 (by omega)];rfl];rfl
def Rch (D:Int→List Int) (d:Int) (L:List Int):Prop:=SI L∧(∀x∈D d,x∈L)∧(∀x∈L,∀y∈D x,y∈L)∧∀C:Int→Prop,(∀x∈D d,C x)→(∀x,C x→∀y∈D x,C y)→∀x∈L,C x
theorem Rch.unique {D:Int→List Int} {d:Int} {L M:List Int} (h:Rch D d L) (k:Rch D d M):L=M:=
 Yx h.1 k.1 fun x=>⟨fun hx=>h.2.2.2 (fun y=>y∈M) k.2.1 k.2.2.1 x hx,fun hx=>k.2.2.2 (fun y=>y∈L) h.2.1 h.2.2.1 x hx⟩
theorem GI:∀{B A:List Int},SI A→SI B→(∀x∈A,x∈B)→A=B∨A.length<B.length
 | [],A,_,_,h=>by
  cases A with
  | nil=>exact .inl rfl
  | cons a A=>exact absurd (h a (by simp)) (by simp)
 | b::B,[],_,_,_=> .inr (by simp)
 | b::B,a::A,hA,hB,h=>by
  have hA' :=List.pairwise_cons.1 hA
  have hB' :=List.pairwise_cons.1 hB
  rcases List.mem_cons.1 (h a (by simp))with hab | hab
  ·subst hab
   rcases GI (B:=B) (A:=A) hA'.2 hB'.2 (fun x hx=>by
    rcases List.mem_cons.1 (h x (by simp[hx]))with h1 | h1
    ·have:=hA'.1 x hx;omega
    ·exact h1)with h1 | h1
   ·exact .inl (by rw[h1])
   ·exact .inr (by simp only[List.length_cons];omega)
  ·have hab2:=hB'.1 a hab
   rcases GI (B:=B) (A:=a::A) hA hB'.2 (fun x hx=>by
    rcases List.mem_cons.1 (h x hx)with h1 | h1
    ·rcases List.mem_cons.1 hx with h2 | h2
     ·omega
     ·have:=hA'.1 x h2;omega
    ·exact h1)with h1 | h1
   ·exact .inr (by rw[h1];simp)
   ·exact .inr (by simp only[List.length_cons]at*;omega)
def Ba (D:Int→List Int) (L:List Int):List Int:=L.foldl (fun acc x=>MZ (D x) acc) L
theorem xX (D:Int→List Int) (x:Int):∀(l acc:List Int),x∈l.foldl (fun acc x=>MZ (D x) acc) acc↔x∈acc∨∃y∈l,x∈D y
 | [],acc=>by simp
 | a::l,acc=>by
  rw[List.foldl_cons,xX D x l,NC]
  constructor
  ·rintro((h | h) | ⟨y,hy,h⟩)
   ·exact .inr ⟨a,by simp,h⟩
   ·exact .inl h
   ·exact .inr ⟨y,by simp[hy],h⟩
  ·rintro(h | ⟨y,hy,h⟩)
   ·exact .inl (.inr h)
   ·rcases List.mem_cons.1 hy with rfl | hy
    ·exact .inl (.inl h)
    ·exact .inr ⟨y,hy,h⟩
theorem ZZ (D:Int→List Int):∀(l:List Int) {acc:List Int},SI acc→SI (l.foldl (fun acc x=>MZ (D x) acc) acc)
 | [],_,h=>h
 | a::l,_,h=>by rw[List.foldl_cons];exact ZZ D l (TM _ h)
theorem NQ (D:Int→List Int) {L:List Int} (h:SI L):SI (Ba D L):=ZZ D L h
def itS (D:Int→List Int) (d:Int):Nat→List Int
 | 0=>D d
 | k+1=>Ba D (itS D d k)
section
variable {D:Int→List Int} {n:Nat} (hsi:∀x,SI (D x)) (hin:∀x,∀y∈D x,0≤y∧y<(n:Int))
include hsi hin
theorem Vb (d:Int):∀k,SI (itS D d k)
 | 0=>hsi d
 | k+1=>NQ D (Vb d k)
theorem a3N (d:Int):∀k,∀x∈itS D d k,0≤x∧x<(n:Int)
 | 0,x,hx=>hin d x hx
 | k+1,x,hx=>by
  rcases(xX D x _ _).1 hx with h | ⟨y,_,h⟩
  ·exact a3N d k x h
  ·exact hin y x h
theorem ZL (d:Int) (k:Nat):Ba D (itS D d k)=itS D d k∨(itS D d k).length<(Ba D (itS D d k)).length:=by
 rcases GI (Vb hsi hin d k) (NQ D (Vb hsi hin d k)) (fun x hx=>(xX D x _ _).2 (.inl hx))with h | h
 ·exact .inl h.symm
 ·exact .inr h
theorem QD (d:Int):∀k,Ba D (itS D d k)=itS D d k∨k<(Ba D (itS D d k)).length
 | 0=>by
  rcases ZL hsi hin d 0 with h | h
  ·exact .inl h
  ·exact .inr (by omega)
 | k+1=>by
  rcases QD d k with h | h
  ·exact .inl (by show Ba D (Ba D (itS D d k))=Ba D (itS D d k);rw[h,h])
  ·rcases ZL hsi hin d (k+1)with h2 | h2
   ·exact .inl h2
   ·exact .inr (by
     have:(itS D d (k+1)).length=(Ba D (itS D d k)).length:=rfl
     omega)
theorem b4a (d:Int):Rch D d (itS D d n):=by
 have hst:Ba D (itS D d n)=itS D d n:=by
  rcases QD hsi hin d n with h | h
  ·exact h
  ·have:=OL n (NQ D (Vb hsi hin d n)) (a3N hsi hin d (n+1))
   omega
 refine⟨Vb hsi hin d n,?_,?_,?_⟩
 ·intro x hx
  have:∀k,x∈itS D d k:=by
   intro k
   induction k with
   | zero=>exact hx
   | succ k ih=>exact(xX D x _ _).2 (.inl ih)
  exact this n
 ·intro x hx y hy
  rw[←hst]
  exact(xX D y _ _).2 (.inr ⟨x,hx,hy⟩)
 ·intro C h1 h2
  have:∀k,∀x∈itS D d k,C x:=by
   intro k
   induction k with
   | zero=>exact h1
   | succ k ih=>
    intro x hx
    rcases(xX D x _ _).1 hx with h | ⟨y,hy,h⟩
    ·exact ih x h
    ·exact h2 y (ih y hy) x h
  exact this n
end
def N8 (s:x9) (d:Int):List Int:=itS (G9 s) d s.2.2.2.1.length
theorem gY (s:x9) (d:Int):Rch (G9 s) d (N8 s d):=
 b4a (n:=s.2.2.2.1.length) (rQ s) (fun x y hy=>qh hy) d
theorem oU {s:x9} {d x:Int} (h:x∈N8 s d):0≤x∧x<nD s:=a3N (n:=s.2.2.2.1.length) (rQ s) (fun x y hy=>qh hy) d _ x h
theorem LZ {s:x9} (h:SmS s) (d:Int):(G9 s d).length≤14:=
 Nat.le_trans (OL s.2.2.2.1.length (rQ s d) (fun x hx=>qh hx)) h.nd
theorem Ei {s:x9} (h:SmS s) {l:List Int} (hs:SI l) (hi:∀x∈l,0≤x∧x<nD s):l.length≤14:=Nat.le_trans (OL s.2.2.2.1.length hs hi) h.nd
def mk (S:List Bool) (x:Int):Bool:=if 0≤x then S.getD x.toNat false else false
def unm (S:List Bool):Nat:=S.count false
def rG (b:List Bool×List Int) (e:Int):List Bool×List Int:=l7 (mk b.1 e) b (b.1.set e.toNat true,b.2++[e])
theorem XM {S:List Bool} {x:Int} (h0:0≤x) (h1:x<o8 S):S[x.toNat]? =some (mk S x):=by
 unfold mk;rw[if_pos h0,jZ]
 have:x.toNat<S.length:=by simp only[o8]at h1;omega
 rw[Y6 this];rfl
theorem NJ {S:List Bool} {e:Int} (h0:0≤e) (h1:e<o8 S) (x:Int):mk (S.set e.toNat true) x=l7 (ieq x e) true (mk S x):=by
 unfold mk
 have hl:e.toNat<S.length:=by simp only[o8]at h1;omega
 by_cases hx:0≤x
 ·rw[if_pos hx,if_pos hx,jZ,jZ,List.getElem?_set]
  by_cases hq:x=e
  ·subst hq;rw[if_pos rfl,if_pos hl,E9 rfl];rfl
  ·rw[if_neg (by omega),D8 hq];rfl
 ·rw[if_neg hx,if_neg hx,D8 (by omega)];rfl
theorem a9f {S:List Bool} {e:Int} (h0:0≤e) (h1:e<o8 S) (hm:mk S e=false):unm (S.set e.toNat true)+1=unm S:=by
 have hl:e.toNat<S.length:=by simp only[o8]at h1;omega
 have hg:=XM h0 h1
 rw[hm,Y6 hl]at hg
 have hg' :S[e.toNat]=false:=Option.some.inj hg
 unfold unm
 rw[List.count_set hl,hg']
 have:0<S.count false:=List.count_pos_iff.2 (by rw[←hg'];exact List.getElem_mem hl)
 simp;omega
structure RInv (n:Nat) (S:List Bool) (Q:List Int) (l:List Int) (S' :List Bool) (Q' :List Int):Prop where
 len:S'.length=n
 seen:∀x:Int,0≤x→x<(n:Int)→(mk S' x=true↔mk S x=true∨x∈l)
 sum:Q'.length+unm S' =Q.length+unm S
 le:unm S' ≤unm S
 old:∀x∈Q,x∈Q'
 new:∀x∈Q',x∈Q∨x∈l
 got:∀x,mk S' x=true→mk S x=true∨x∈Q'
theorem a5t {n:Nat} :∀(l:List Int) (S:List Bool) (Q:List Int),S.length=n→(∀x∈l,0≤x∧x<(n:Int))→RInv n S Q l (l.foldl rG (S,Q)).1 (l.foldl rG (S,Q)).2
 | [],S,Q,hl,_=>⟨hl,fun x _ _=>by simp,rfl,Nat.le_refl _,fun x hx=>hx,fun x hx=> .inl hx,fun x hx=> .inl hx⟩
 | e::l,S,Q,hl,hi=>by
  have he:=hi e (by simp)
  have hel:e<o8 S:=by simp only[o8];omega
  rw[List.foldl_cons]
  cases hm:mk S e with
  | true=>
   rw[show rG (S,Q) e=(S,Q) by unfold rG;rw[hm];rfl]
   have ih:=a5t l S Q hl fun x hx=>hi x (by simp[hx])
   refine⟨ih.len,fun x h0 h1=>?_,ih.sum,ih.le,ih.old,fun x hx=>?_,ih.got⟩
   ·rw[ih.seen x h0 h1,List.mem_cons]
    constructor
    ·rintro(h | h)
     ·exact .inl h
     ·exact .inr (.inr h)
    ·rintro(h | h | h)
     ·exact .inl h
     ·subst h;exact .inl hm
     ·exact .inr h
   ·rcases ih.new x hx with h | h
    ·exact .inl h
    ·exact .inr (by simp[h])
  | false=>
   rw[show rG (S,Q) e=(S.set e.toNat true,Q++[e]) by unfold rG;rw[hm];rfl]
   have ih:=a5t l (S.set e.toNat true) (Q++[e]) (by simp[hl]) fun x hx=>hi x (by simp[hx])
   have hu:=a9f he.1 hel hm
   refine⟨ih.len,fun x h0 h1=>?_,?_,?_,fun x hx=>ih.old x (by simp[hx]),fun x hx=>?_,fun x hx=>?_⟩
   ·rw[ih.seen x h0 h1,NJ he.1 hel,List.mem_cons]
    cases hq:ieq x e
    ·rw[lG]at hq;simp[hq]
    ·rw[I9]at hq;simp[hq]
   ·have:=ih.sum;simp only[List.length_append,List.length_cons,List.length_nil]at this;omega
   ·have:=ih.le;omega
   ·rcases ih.new x hx with h | h
    ·rcases List.mem_append.1 h with h | h
     ·exact .inl h
     ·exact .inr (by simp at h;simp[h])
    ·exact .inr (by simp[h])
   ·rcases ih.got x hx with h | h
    ·rw[NJ he.1 hel]at h
     cases hq:ieq x e
     ·rw[hq]at h;exact .inl h
     ·rw[I9]at hq;subst hq
      exact .inr (ih.old _ (by simp))
    ·exact .inr h
def Jq (S:List Bool):List Int:=((List.range S.length).filter fun i=>S.getD i false).map fun(i:Nat)=>(i:Int)
theorem CS {S:List Bool} (x:Int):x∈Jq S↔mk S x=true:=by
 unfold Jq mk
 rw[List.mem_map]
 constructor
 ·rintro⟨i,hi,rfl⟩
  rw[if_pos (by omega)]
  exact(List.mem_filter.1 hi).2
 ·intro h
  split at h
  ·refine⟨x.toNat,List.mem_filter.2 ⟨List.mem_range.2 ?_,h⟩,by omega⟩
   rw[jZ]at h
   cases hg:S[x.toNat]? with
   | none=>rw[hg]at h;cases h
   | some b=>exact(J7.1 hg).1
  ·cases h
theorem a4d (S:List Bool):SI (Jq S):=by
 unfold Jq
 refine List.Pairwise.map _ (R:=(·< ·)) (fun a b h=>by omega) (List.Pairwise.filter _ List.pairwise_lt_range)
theorem XK {f:List Int×Int→Option ((List Int×Int)⊕List Int)} (S:List Bool) (hS:S.length≤100)
  (hin:∀(i:Nat) (a:Bool) (acc:List Int),S[i]? =some a→i≤1000000→acc.length≤i→f (acc,(i:Int))=l7 a (o6 (dE acc [(i:Int)]) fun x=>some (.inl (x,A7 .i64 (i:Int) 1))) (some (.inl (acc,A7 .i64 (i:Int) 1))))
  (hend:∀acc,f (acc,(S.length:Int))=some (.inr acc)):X5 f ([],0)=some (Jq S):=by
 have mk2:∀i,i≤S.length→((List.range i).filter fun i=>S.getD i false).length≤i:=fun i _=>by
  have:=List.length_filter_le (fun i=>S.getD i false) (List.range i);simpa using this
 obtain⟨e,h1,h2⟩:=aC (f:=f) (s:=([],0)) (fun x=>∃i:Nat,x=(((List.range i).filter fun i=>S.getD i false).map fun(i:Nat)=>(i:Int),(i:Int))∧i≤S.length) (fun e=>e=Jq S) (fun x=>S.length -x.2.toNat) ⟨0,rfl,by omega⟩ (by simp;omega) (by
  rintro x ⟨i,rfl,hi⟩
  by_cases h:i<S.length
  ·have e:=Y6 h
   have hst:(List.range (i+1)).filter (fun i=>S.getD i false)=(List.range i).filter (fun i=>S.getD i false)++l7 S[i] [i] []:=by
    rw[List.range_succ,List.filter_append]
    congr 1
    rw[List.filter_cons,jZ,e]
    cases S[i] <;> rfl
   have hl:=mk2 i hi
   refine .inl ⟨(((List.range (i+1)).filter fun i=>S.getD i false).map fun(i:Nat)=>(i:Int),((i+1:Nat):Int)),?_,⟨i+1,rfl,h⟩,by simp;omega⟩
   rw[hin i _ _ e (by omega) (by simpa using hl),X3 (by omega),hst,List.map_append,lh _ (by rw[List.length_map];omega)]
   cases S[i]
   ·simp
   ·rfl
  ·have:i=S.length:=by omega
   subst this
   exact .inr ⟨_,hend _,rfl⟩)
 rw[h1,h2]
theorem Oi {D:Int→List Int} {n:Nat} (hn:n≤14) (hsi:∀x,SI (D x)) (hin:∀x,∀y∈D x,0≤y∧y<(n:Int)) {d:Int} (h0:0≤d) (h1:d<(n:Int)):
  ∃L,nG ((List.range n).map fun(x:Nat)=>D (x:Int)) d=some L∧Rch D d L:=by
 have hA:o8 ((List.range n).map fun(x:Nat)=>D (x:Int))=(n:Int):=by simp[o8]
 have hget:∀x:Int,0≤x→x<n→lat ((List.range n).map fun(x:Nat)=>D (x:Int)) x=some (D x):=fun x a b=>by
  have:x.toNat<n:=by omega
  unfold lat
  rw[if_pos a,uB n _ this,Int.toNat_of_nonneg a]
 unfold nG
 generalize (List.range n).map (fun(x:Nat)=>D (x:Int))=A at*
 rw[hA,show jH (n:Int) false=some (List.replicate n false) by unfold jH;rw[if_pos (by omega)];simp,o7]
 have hD14:∀x,(D x).length≤14:=fun x=>Nat.le_trans (OL n (hsi x) (hin x)) hn
 have key:=aC (f:=fun(x:List Bool×List Int)=>l7 (ilt 0 (o8 x.2)) (o6 (lat x.2 0) fun(x_1:Int)=>o6 (L8 x.2 (toN 0)) fun(x_2:Int)=>l7 (jG 1 (o8 x.2) (o8 x.2)) (o6 (lat A x_2) fun(x_3:List Int)=>
   o6 (X5 (fun(x:List Bool×List Int×Int)=>l7 (ilt x.2.2 (o8 x_3)) (o6 (lat x_3 x.2.2) fun(x_4:Int)=>o6 (lat x.1 x_4) fun(x_5:Bool)=>o6 (L8 x.1 (toN x_4)) fun(x_6:Bool)=>
     l7 (E5 x_6) (o6 (lat x.1 x_4) fun(x_7:Bool)=>o6 (L8 x.1 (toN x_4)) fun(x_8:Bool)=>o6 (dE x.2.1 [x_4]) fun(x_9:List Int)=>some (.inl (U5 x.1 (toN x_4) true,x_9,A7 .i64 x.2.2 1)))
      (some (.inl (x.1,x.2.1,A7 .i64 x.2.2 1)))) (some (.inr (x.1,x.2.1)))) (x.1,gQ x.2 (toN 1) (toN (o8 x.2)),0)) fun(y:List Bool×List Int)=>some (.inl y)) none) (some (.inr x.1)))
  (s:=(List.replicate n false,[d]))
  (fun x=>x.1.length=n∧(∀q∈x.2,0≤q∧q<(n:Int))∧x.2.length+unm x.1≤n+1∧(∀q∈x.2,q=d∨mk x.1 q=true)∧(∀v,v=d∨mk x.1 v=true→v∈x.2∨∀y∈D v,mk x.1 y=true)∧
   (∀C:Int→Prop,(∀x∈D d,C x)→(∀x,C x→∀y∈D x,C y)→∀v,mk x.1 v=true→C v)∧(∀v,mk x.1 v=true→0≤v∧v<(n:Int)))
  (fun S=>S.length=n∧Rch D d (Jq S)) (fun x=>2*unm x.1+x.2.length) ?_ ?_ ?_
 ·obtain⟨S,k1,k2,k3⟩:=key
  refine⟨Jq S,?_,k3⟩
  refine(jf k1 _).trans ?_
  rw[bT]
  refine XK S (by omega) (fun i a acc ha hi hacc=>?_) (fun acc=>?_)
  ·simp only[H9 ha,o5,F6,ha,o7]
   rw[show L8 S (toN (i:Int))=some a from ha,o7]
  ·simp only[I4];rfl
 ·have hnone:∀v,mk (List.replicate n false) v=false:=fun v=>by
   unfold mk
   split
   ·rw[jZ,List.getElem?_replicate];split <;> rfl
   ·rfl
  refine⟨by simp,fun q hq=>by simp at hq;omega,?_,fun q hq=> .inl (by simpa using hq),fun v hv=>?_,fun C _ _ v hv=>(by rw[hnone]at hv;cases hv),fun v hv=>(by rw[hnone]at hv;cases hv)⟩
  ·simp[unm,List.count_replicate];omega
  ·rcases hv with rfl | hv
   ·exact .inl (by simp)
   ·rw[hnone]at hv;cases hv
 ·simp[unm,List.count_replicate];omega
 ·rintro⟨S,Q⟩ ⟨i1,i2,i3,i4,i5,i6,i7⟩
  simp only at i1 i2 i3 i4 i5 i6 i7
  cases Q with
  | nil=>
   right
   refine⟨S,rfl,i1,a4d S,fun x hx=>?_,fun x hx y hy=>?_,fun C c1 c2 x hx=>i6 C c1 c2 x ((CS x).1 hx)⟩
   ·rcases i5 d (.inl rfl)with h | h
    ·cases h
    ·exact(CS x).2 (h x hx)
   ·rcases i5 x (.inr ((CS x).1 hx))with h | h
    ·cases h
    ·exact(CS y).2 (h y hy)
  | cons q Q=>
   left
   have hq:=i2 q (by simp)
   have hfold:=a5t (n:=n) (D q) S Q i1 (fun x hx=>hin q x hx)
   refine⟨(D q).foldl rG (S,Q),?_,?_,?_⟩
   ·simp only[E8 (show(0:Int)<o8 (q::Q) by simp[o8] <;> omega),o5,show lat (q::Q) 0=some q from rfl,show L8 (q::Q) (toN 0)=some q from rfl,o7,hget q hq.1 hq.2,
     show jG 1 (o8 (q::Q)) (o8 (q::Q))=true by simp[jG,o8] <;> omega,show gQ (q::Q) (toN 1) (toN (o8 (q::Q)))=Q by simp[gQ,toN,o8]]
    refine aJ (D q) rG (fun b i=>(b.1,b.2,i)) (fun b=>b) (fun i b=>b.1.length=n∧b.2.length≤100+i) (S,Q) (by have:=hD14 q;omega) ⟨i1,by simp at i3;show Q.length≤100+0;omega⟩ (fun i e b he hi hI=>?_) (fun b hI=>?_) (fun h2=>rfl)
    ·obtain⟨S1,Q1⟩:=b
     simp only at hI
     have hee:=hin q e (dG he)
     have hlt:=(J7.1 he).1
     have hdl:=hD14 q
     have hg:=XM (S:=S1) hee.1 (by simp only[o8];omega)
     have hla:lat S1 e=some (mk S1 e):=by unfold lat;rw[if_pos hee.1];exact hg
     have hlg:L8 S1 (toN e)=some (mk S1 e):=hg
     simp only[H9 he,o5,F6 (D q),he,o7,hla,hlg]
     rw[X3 (by omega),lh _ (by omega)]
     unfold rG
     simp only
     cases mk S1 e
     ·exact⟨rfl,by simp[hI.1],by simp <;> omega⟩
     ·exact⟨rfl,hI.1,by show Q1.length≤_;omega⟩
    ·simp only[I4];rfl
   ·obtain⟨j1,j2,j3,j4,j5,j6,j7⟩:=hfold
    generalize (D q).foldl rG (S,Q)=b at*
    obtain⟨S',Q'⟩:=b
    simp only at j1 j2 j3 j4 j5 j6 j7 ⊢
    have hrange:∀v,mk S' v=true→0≤v∧v<(n:Int):=fun v hv=>by
     rcases j7 v hv with h | h
     ·exact i7 v h
     ·rcases j6 v h with h | h
      ·exact i2 v (by simp[h])
      ·exact hin q v h
    refine⟨j1,fun x hx=>?_,?_,fun x hx=>?_,fun v hv=>?_,fun C c1 c2 v hv=>?_,hrange⟩
    ·rcases j6 x hx with h | h
     ·exact i2 x (by simp[h])
     ·exact hin q x h
    ·simp only[List.length_cons]at i3;omega
    ·rcases j6 x hx with h | h
     ·rcases i4 x (by simp[h])with h2 | h2
      ·exact .inl h2
      ·have hr:=i7 x h2
       exact .inr ((j2 x hr.1 hr.2).2 (.inl h2))
     ·have hr:=hin q x h
      exact .inr ((j2 x hr.1 hr.2).2 (.inr h))
    ·have up:∀y,mk S y=true→mk S' y=true:=fun y hy=>by
      have hr:=i7 y hy
      exact(j2 y hr.1 hr.2).2 (.inl hy)
     by_cases hvq:v=q
     ·subst hvq
      right
      intro y hy
      have hr:=hin v y hy
      exact(j2 y hr.1 hr.2).2 (.inr hy)
     ·by_cases hold:v=d∨mk S v=true
      ·rcases i5 v hold with h | h
       ·rcases List.mem_cons.1 h with h | h
        ·exact absurd h hvq
        ·exact .inl (j5 v h)
       ·exact .inr fun y hy=>up y (h y hy)
      ·rcases hv with h | h
       ·exact absurd (.inl h) hold
       ·rcases j7 v h with h2 | h2
        ·exact absurd (.inr h2) hold
        ·exact .inl h2
    ·by_cases hS:mk S v=true
     ·exact i6 C c1 c2 v hS
     ·have hr:=hrange v hv
      rcases(j2 v hr.1 hr.2).1 hv with h | h
      ·exact absurd h hS
      ·rcases i4 q (by simp)with h2 | h2
       ·subst h2;exact c1 v h
       ·exact c2 q (i6 C c1 c2 q h2) v h
   ·have:=hfold.sum;have:=hfold.le
    simp only[List.length_cons];omega
theorem jF {s:x9} (h:SmS s) {d:Int} (h0:0≤d) (h1:d<nD s):dP s d=some (N8 s d):=by
 have hn:nD s=((s.2.2.2.1.length:Nat):Int):=rfl
 unfold dP
 change l7 (ilt d 0) _ (l7 (ile (nD s) d) _ _)=_
 rw[D9 h0,l9,F9 h1,l9,yl h,o7,bT]
 obtain⟨L,k1,k2⟩:=Oi (D:=G9 s) h.nd (rQ s) (fun x y hy=>qh hy) h0 (show d<((s.2.2.2.1.length:Nat):Int) by omega)
 rw[k1,Rch.unique k2 (gY s d)]
structure SmL (l:J3):Prop where
 few:Few l
 en:Ze l
 tb:Ui l
 sc:∀s∈l.2.2,SmS s
theorem SmL.scopes {l:J3} (h:SmL l):Uh l:=fun s hs=>by
 have hm:=h.sc s hs
 exact⟨hm.nm,by have:=hm.ni;omega,by have:=hm.nd;omega,by have:=hm.nr;omega⟩
theorem nK {ε ρ:Type} {p:Nat→Option ρ} (n:Nat) (hn:n≤1000000) (e:ε) {f:Int→Option (Out Int ε ρ)}
  (h1:∀i,i<n→f (i:Int)=some (match p i with | some r=> .rt r | none=> .nx (A7 .i64 (i:Int) 1))) (h2:f (n:Int)=some (.ex e)):
  U2 f 0=some (match P7 n p with | some r=> .inr r | none=> .inl e):=
 AQ n (by omega) e (fun i hi=>by rw[h1 i hi,X3 (by omega)] <;> cases p i <;> rfl) h2
def Gs (l:J3) (s:x9) (k:Nat):Option (Int×Int):=match s.2.2.2.2[k]? with | some r=>Pv (yf s (Dp l s) k r) (300+k:Nat) | none=>none
def UC (s:x9) (d:Nat):Option (Int×Int):=l7 ((N8 s d).any fun x=>ieq (d:Int) x) (some (9,((200+d:Nat):Int))) none
def yR (l:J3) (i:Nat) (m:Int):Bool:=l7 (ieq m (-1)) false (l7 (ilt m 0) true (l7 (ile (i:Int) m) true (match lat l.2.2 m with | some q=>E5 (ieq q.2.1 (-1)) | none=>true)))
def Iz (l:J3) (s:x9):Int×Int:=match wO l s with
 | some r=>r
 | none=>match P7 s.2.2.2.2.length (Gs l s)with
  | some r=>r
  | none=>match P7 s.2.2.2.1.length (UC s)with
   | some r=>r
   | none=>(0,0)
def vT (l:J3) (i:Nat) (s:x9):Int×Int:=
 l7 (vg s.1) (l7 (DU l 3 i s.1) (7,0) (l7 (yR l i s.2.1) (6,0) (l7 (ilt 12 (o8 s.2.2.1)) (4,112) (l7 (ilt 12 (o8 s.2.2.2.1)) (4,212) (Iz l s))))) (2,0)
theorem Po {l:J3} (hL:SmL l) {i:Nat} {s:x9} (hs:l.2.2[i]? =some s):qP l (i:Int)=some (vT l i s):=by
 have hi:=(J7.1 hs).1
 have hS:=hL.sc s (dG hs)
 have hf:=hL.few
 have hf1:=hf.1;have hf2:=hf.2.1;have hf3:=hf.2.2
 have n1:=hS.ni;have n2:=hS.nd;have n3:=hS.nr
 unfold qP vT DU
 rw[F6,hs,o7,qw (by omega),o7,Eh _ (by omega),o7,Jm _ (by omega),o7,UW _ (by simp;omega),o7]
 have hb:(l7 (l.1.any fun x=>seq x.1 s.1) (some (s,true)) (l7 (l.2.1.any fun x=>seq x.1 s.1) (some (s,true)) (some (s,(l.2.2.take i).any fun x=>seq x.1 s.1))))=
   some (s,(l.1.any fun x=>seq x.1 s.1) || (l.2.1.any fun x=>seq x.1 s.1) || (l.2.2.take i).any fun x=>seq x.1 s.1):=by
  cases l.1.any fun x=>seq x.1 s.1
  ·cases l.2.1.any fun x=>seq x.1 s.1 <;> rfl
  ·rfl
 rw[hb,o7]
 simp only
 rw[iP hS.nm,o7]
 cases vg s.1
 ·rfl
 simp only[o9,l9,o5]
 cases (l.1.any fun x=>seq x.1 s.1) || (l.2.1.any fun x=>seq x.1 s.1) || (l.2.2.take i).any fun x=>seq x.1 s.1
 case true=>rfl
 simp only[l9]
 have hm:(l7 (E5 (ieq s.2.1 (-1))) (l7 (ilt s.2.1 0) (some true) (l7 (ile (i:Int) s.2.1) (some true) (o6 (lat (l.2.2.take i) s.2.1) fun(x:x9)=>some (E5 (ieq x.2.1 (-1)))))) (some false))=some (yR l i s.2.1):=by
  unfold yR
  cases ieq s.2.1 (-1)
  case true=>rfl
  simp only[D6,o5,l9]
  cases h0:ilt s.2.1 0
  case true=>rfl
  cases h1:ile (i:Int) s.2.1
  case true=>rfl
  rw[aT]at h0;rw[uf]at h1
  obtain⟨q,hq,_⟩:=fU (l:=l.2.2.take i) h0 (by simp only[o8,List.length_take];omega)
  have hq2:lat l.2.2 s.2.1=some q:=by
   have:=(Z7 hq).2.2.2
   unfold lat;rw[if_pos h0];exact(WP this).2
  rw[hq,hq2];rfl
 rw[hm,o7]
 cases yR l i s.2.1
 case true=>rfl
 simp only[l9]
 cases ilt 12 (o8 s.2.2.1)
 case true=>rfl
 cases ilt 12 (o8 s.2.2.2.1)
 case true=>rfl
 simp only[l9,o7,D7]
 unfold Iz wO
 refine ak (nK (p:=inP l s) s.2.2.1.length (by omega) PUnit.unit (fun k hk=>?_) ?_) ?_
 rotate_left 2
 ·cases P7 s.2.2.1.length (inP l s)
  case some r=>rfl
  simp only[o7,D7]
  refine ak (nK (p:=a1r l s) s.2.2.2.1.length (by omega) PUnit.unit (fun k hk=>?_) ?_) ?_
  rotate_left 2
  ·cases P7 s.2.2.2.1.length (a1r l s)
   case some r=>rfl
   simp only[o7,D7]
   rw[EG hL.scopes hs,o7]
   refine ak (nK (p:=Gs l s) s.2.2.2.2.length (by omega) PUnit.unit (fun k hk=>?_) ?_) ?_
   rotate_left 2
   ·cases P7 s.2.2.2.2.length (Gs l s)
    case some r=>rfl
    simp only[o7,D7]
    refine ak (nK (p:=UC s) s.2.2.2.1.length (by omega) PUnit.unit (fun k hk=>?_) ?_) ?_
    rotate_left 2
    ·cases P7 s.2.2.2.1.length (UC s) <;> rfl
    ·have e:=Y6 hk
     simp only[H9 e,o5]
     rw[jF hS (by omega) (by show(k:Int)<o8 s.2.2.2.1;simp only[o8];omega),o7,a1A _ (by
      have:=Ei hS (gY s (k:Int)).1 (fun x hx=>oU hx)
      omega),o7,show(200:Int)=((200:Nat):Int)from rfl,ZG (by omega) (by omega)]
     unfold UC
     cases (N8 s (k:Int)).any fun x=>ieq (k:Int) x <;> rfl
    ·rw[I4];rfl
   ·have e:=Y6 hk
    have hr:=(hS.ro _ (List.getElem_mem hk)).1
    simp only[H9 e,o5]
    rw[RI _ e (by omega) hr,o7,show(300:Int)=((300:Nat):Int)from rfl,ZG (by omega) (by omega)]
    simp only[Gs,e,Pv]
    cases ieq (yf s (Dp l s) k s.2.2.2.2[k]) 0 <;> rfl
   ·rw[I4];rfl
  ·have e:=Y6 hk
   have hm:=hS.fo.2 _ (List.getElem_mem hk)
   simp only[H9 e,o5,F6,e,o7]
   rw[qw (by omega),o7,Dw hm (by omega) (by simp;omega),o7,show(200:Int)=((200:Nat):Int)from rfl,ZG (by omega) (by omega)]
   simp only[a1r,e,Pv]
   cases ieq (Ar l.1 s.2.2.2.1[k] s.2.2.1 (s.2.2.2.1.take k)) 0 <;> rfl
  ·rw[I4];rfl
 ·have e:=Y6 hk
  have hm:=hS.fo.1 _ (List.getElem_mem hk)
  simp only[H9 e,o5,F6,e,o7]
  rw[qw (by omega),o7,Dw hm (by simp;omega) (by simp),o7,show(100:Int)=((100:Nat):Int)from rfl,ZG (by omega) (by omega)]
  simp only[inP,e,Pv]
  cases ieq (Ar l.1 s.2.2.1[k] (s.2.2.1.take k) []) 0 <;> rfl
 ·rw[I4];rfl
theorem CJ {c e:Int} {r:Int×Int} (h:Pv c e=some r):r.1≠0:=by
 unfold Pv at h
 cases hc:ieq c 0 <;> rw[hc]at h
 ·cases h;exact lG.1 hc
 ·cases h
theorem Au {l:J3} {s:x9} {r:Int×Int} (h:wO l s=some r):r.1≠0:=by
 unfold wO at h
 split at h
 ·rename_i q hq
  cases h
  obtain⟨k,_,hk⟩:=bV hq
  unfold inP at hk
  split at hk
  ·exact CJ hk
  ·cases hk
 ·obtain⟨k,_,hk⟩:=bV h
  unfold a1r at hk
  split at hk
  ·exact CJ hk
  ·cases hk
def BH (l:J3) (i:Nat):Option (Int×Int×Int×Int):=match l.2.2[i]? with | some s=>JZ 3 i (vT l i s) | none=>none
def Gx (l:J3):Int×Int×Int×Int:=l7 (ilt 4 (o8 l.2.2)) (4,3,4,0) (match P7 l.2.2.length (BH l)with | some r=>r | none=>(0,0,0,0))
def P5 (l:J3):Int×Int×Int×Int:=l7 (ieq (yH l).1 0) (l7 (ieq (zt l).1 0) (Gx l) (zt l)) (yH l)
theorem LG {l:J3} (hL:SmL l):pI l=some (Gx l):=by
 have hf:=hL.few.2.2
 unfold pI Gx
 cases ilt 4 (o8 l.2.2)
 case true=>rfl
 simp only[l9]
 refine ak (Az (p:=BH l) l.2.2.length (by omega) _ (0,0,0,0) (fun i hi=>?_) ?_) ?_
 rotate_left 2
 ·cases P7 l.2.2.length (BH l) <;> rfl
 ·have e:=Y6 hi
  simp only[H9 e,o5,Po hL e,o7,BH,e,JZ]
  cases ieq (vT l i l.2.2[i]).1 0 <;> rfl
 ·rw[I4];rfl
theorem BN {l:J3} (hL:SmL l):nU l=some (P5 l):=by
 unfold nU P5
 rw[Pn hL.few hL.en,o7]
 cases ieq (yH l).1 0
 ·rfl
 simp only[o9,l9,o5]
 rw[LH hL.few hL.tb,o7]
 cases ieq (zt l).1 0
 ·rfl
 simp only[o9,l9,o5]
 rw[LG hL];rfl
theorem Ql {k i:Int} {c:Int×Int} {r:Int×Int×Int×Int} (h:JZ k i c=some r):r.1≠0:=by
 unfold JZ at h
 cases hc:ieq c.1 0 <;> rw[hc]at h
 ·cases h;exact lG.1 hc
 ·cases h
structure SmC (c:aQ):Prop where
 ni:c.2.1.length≤1000
 nm:c.2.2.length≤1000
 nv:∀v∈c.2.2,v.length≤1000
def a9g (en:List bP) (fs:List Y9) (vs:List L6) (i:Nat):Option (Int×Int):=match vs[i]?,fs[i]? with
 | some v,some f=>l7 (ieq v.1 f.2.1) (l7 (ieq v.2.1 f.2.2) (l7 (inB v.2.2 (bnd f.2 en)) none (some ((i:Int),3))) (some ((i:Int),8))) (some ((i:Int),8))
 | _,_=>none
def JU (en:List bP) (fs:List Y9) (vs:List L6):Int×Int:=
 l7 (ilt (o8 vs) (o8 fs)) (o8 vs,5) (l7 (ilt (o8 fs) (o8 vs)) (o8 fs,4) (match P7 vs.length (a9g en fs vs)with | some r=>r | none=>(0,0)))
theorem Ai (l:J3) {vs:List L6} {fs:List Y9} (hv:vs.length≤1000000):eH l vs fs=some (JU l.1 fs vs):=by
 unfold eH JU
 cases h1:ilt (o8 vs) (o8 fs)
 case true=>rfl
 cases h2:ilt (o8 fs) (o8 vs)
 case true=>rfl
 simp only[l9]
 have hl:vs.length=fs.length:=by rw[aT]at h1 h2;simp only[o8]at h1 h2;omega
 refine ak (nK (p:=a9g l.1 fs vs) vs.length hv PUnit.unit (fun k hk=>?_) ?_) ?_
 rotate_left 2
 ·cases P7 vs.length (a9g l.1 fs vs) <;> rfl
 ·have e:=Y6 hk
  have e2:=Y6 (show k<fs.length by omega)
  simp only[H9 e,o5,F6,e,e2,o7,Hg,a9g,inB,jb]
  cases ieq vs[k].1 fs[k].2.1
  ·rfl
  cases ieq vs[k].2.1 fs[k].2.2
  ·rfl
  cases ile (bnd fs[k].2 l.1).1 vs[k].2.2
  ·rfl
  cases ile vs[k].2.2 (bnd fs[k].2 l.1).2 <;> rfl
 ·rw[I4];rfl
def ui (l:J3) (s:x9):List Y9×Int:=match lat l.2.2 s.2.1 with | some q=>(q.2.2.1,8) | none=>([],0)
def a8g (en:List bP) (fs:List Y9) (ms:List (List L6)) (i:Nat):Option (Int×Int×Int):=match ms[i]? with
 | some vs=>l7 (ieq (JU en fs vs).2 0) none (some ((i:Int),JU en fs vs))
 | none=>none
def Dv (l:J3) (k:Int) (c:aQ):Int×Int×Int:=match lat l.2.2 k with
 | none=>(-1,-1,6)
 | some s=>l7 (ilt c.1 0) (-1,-1,3) (l7 (ilt 109572 c.1) (-1,-1,3) (l7 (ieq (JU l.1 s.2.2.1 c.2.1).2 0)
   (l7 (ilt (ui l s).2 (o8 c.2.2)) ((ui l s).2,-1,4) (match P7 c.2.2.length (a8g l.1 (ui l s).1 c.2.2)with | some r=>r | none=>(0,0,0))) (-1,JU l.1 s.2.2.1 c.2.1)))
theorem a6h {l:J3} {k:Int} {A B:Option (PUnit⊕(Int×Int×Int))} :(∃s,lat l.2.2 k=some s∧l7 (ilt k 0) A (l7 (ile (o8 l.2.2) k) A B)=B∧s∈l.2.2)∨(lat l.2.2 k=none∧l7 (ilt k 0) A (l7 (ile (o8 l.2.2) k) A B)=A):=by
 rw[jb k 0,wP (o8 l.2.2) k]
 cases h0:ile 0 k
 ·exact .inr ⟨jc (.inl h0),rfl⟩
 cases h1:ilt k (o8 l.2.2)
 ·exact .inr ⟨jc (.inr h1),rfl⟩
 obtain⟨s,hs,hm⟩:=fU (iI.1 h0) (bW.1 h1)
 exact .inl ⟨s,hs,rfl,hm⟩
theorem a7O (l:J3) (k:Int) {c:aQ} (hc:SmC c):lH l k c=some (Dv l k c):=by
 unfold lH Dv
 rcases a6h (l:=l) (k:=k) (A:=some (.inr ((-1:Int),(-1:Int),(6:Int)))) (B:=some (.inl PUnit.unit))with⟨s,hs,hb,_⟩ | ⟨hs,hb⟩
 ·rw[hb,hs]
  simp only[o7,D7]
  cases ilt c.1 0
  case true=>rfl
  cases ilt 109572 c.1
  case true=>rfl
  simp only[l9,o7,D7]
  rw[Ai l (by have:=hc.ni;omega),o7]
  cases ieq (JU l.1 s.2.2.1 c.2.1).2 0
  ·rfl
  simp only[o9,l9,o5]
  have hm:iH l k=some (ui l s):=by
   unfold iH ui
   rw[hs,o7,jb s.2.1 0,wP (o8 l.2.2) s.2.1]
   cases h0:ile 0 s.2.1
   ·rw[jc (.inl h0)];rfl
   cases h1:ilt s.2.1 (o8 l.2.2)
   ·rw[jc (.inr h1)];rfl
   obtain⟨q,hq,_⟩:=fU (iI.1 h0) (bW.1 h1)
   rw[hq];rfl
  rw[hm,o7]
  cases ilt (ui l s).2 (o8 c.2.2)
  case true=>rfl
  simp only[l9]
  refine ak (nK (p:=a8g l.1 (ui l s).1 c.2.2) c.2.2.length (by have:=hc.nm;omega) PUnit.unit (fun j hj=>?_) ?_) ?_
  rotate_left 2
  ·cases P7 c.2.2.length (a8g l.1 (ui l s).1 c.2.2) <;> rfl
  ·have e:=Y6 hj
   simp only[H9 e,o5,F6,e,o7]
   rw[Ai l (by have:=hc.nv _ (List.getElem_mem hj);omega),o7]
   simp only[a8g,e]
   cases ieq (JU l.1 (ui l s).1 c.2.2[j]).2 0 <;> rfl
  ·rw[I4];rfl
 ·rw[hb,hs];rfl
def Ho (r:Int×Int) (t:Int):Bool:=l7 (zU r) (l7 (ile r.1 t) (ilt t r.2) false) false
theorem wG (r:Int×Int) (t:Int):dY r t=some (Ho r t):=by
 unfold dY Ho
 rw[Cj,o7]
 cases zU r
 ·rfl
 cases ile r.1 t <;> rfl
theorem FY (r:Int×Int) (t:Int):c7G r t=some (Ho r t):=wG r t
section
variable (on:Nat→Bool) (par:Nat→Int)
def gq (i:Nat):Nat:=((List.range i).filter on).length
def vI (i:Nat):Int:=if on i=true then(gq on i:Int)else if h:0≤par i∧par i<(i:Int)then vI (par i).toNat else -1
termination_by i
decreasing_by omega
def anc (i:Nat):Int:=if 0≤par i∧par i<(i:Int)then vI on par (par i).toNat else -1
theorem KF (i:Nat):vI on par i=if on i=true then(gq on i:Int)else anc on par i:=by
 rw[vI];unfold anc
 by_cases h:on i=true
 ·rw[if_pos h,if_pos h]
 ·rw[if_neg h,if_neg h]
  by_cases h2:0≤par i∧par i<(i:Int)
  ·rw[dif_pos h2,if_pos h2]
  ·rw[dif_neg h2,if_neg h2]
def onL (n:Nat):List Nat:=(List.range n).filter on
theorem Be (i:Nat):onL on (i+1)=onL on i++(bif on i then[i]else[]):=by
 unfold onL;rw[List.range_succ,List.filter_append]
 rw[show List.filter on [i]=bif on i then[i]else[] by rw[List.filter_cons];cases on i <;> rfl]
theorem yU (i:Nat):(onL on i).length≤i:=by
 have:=List.length_filter_le on (List.range i);unfold onL;simpa using this
theorem SL {n p:Nat} (hp:p<n) (h:on p=true):(onL on n)[gq on p]? =some p:=by
 induction n with
 | zero=>omega
 | succ n ih=>
  rw[Be]
  by_cases hq:p=n
  ·subst hq
   rw[h,List.getElem?_append_right (by unfold gq onL;omega)]
   unfold gq onL;simp
  ·have:=ih (by omega)
   rw[List.getElem?_append_left (J7.1 this).1]
   exact this
theorem XV {n i:Nat} (h:i∈onL on n):i<n∧on i=true:=by
 unfold onL at h
 obtain⟨h1,h2⟩:=List.mem_filter.1 h
 exact⟨List.mem_range.1 h1,h2⟩
end
def castL (l:List Nat):List Int:=l.map fun(i:Nat)=>(i:Int)
theorem Qe {l:List Nat} {i a:Nat} (h:l[i]? =some a):(castL l)[i]? =some (a:Int):=by unfold castL;rw[List.getElem?_map,h];rfl
theorem a2r {rs:List J6} {on:Nat→Bool} {f:List Int×List Int×List Int×Int→Option ((List Int×List Int×List Int×Int)⊕(List Int×List Int))} (hl:rs.length≤1000)
  (hin:∀(i:Nat) (r:J6) (A B C:List Int),rs[i]? =some r→f (A,B,C,(i:Int))=o6 (l7 (ile 0 r.2.2.1) (l7 (ilt r.2.2.1 (i:Int)) (o6 (lat C r.2.2.1) fun(x_2:Int)=>o6 (L8 C (toN r.2.2.1)) fun(x:Int)=>some x) (some (-1))) (some (-1))) fun(x_2:Int)=>
   o6 (lat C (i:Int)) fun(x_3:Int)=>o6 (L8 C (toN (i:Int))) fun(x_4:Int)=>l7 (on i) (o6 (lat (U5 C (toN (i:Int)) x_2) (i:Int)) fun(x_6:Int)=>o6 (L8 (U5 C (toN (i:Int)) x_2) (toN (i:Int))) fun(x_7:Int)=>o6 (dE A [(i:Int)]) fun(x_8:List Int)=>o6 (dE B [x_2]) fun(x_9:List Int)=>
     some (.inl (x_8,x_9,U5 (U5 C (toN (i:Int)) x_2) (toN (i:Int)) (o8 A),A7 .i64 (i:Int) 1))) (some (.inl (A,B,U5 C (toN (i:Int)) x_2,A7 .i64 (i:Int) 1))))
  (hend:∀(A B C:List Int),f (A,B,C,(rs.length:Int))=some (.inr (A,B))):
  X5 f ([],[],List.replicate rs.length 0,0)=some (castL (onL on rs.length),(onL on rs.length).map (anc on fun i=>match rs[i]? with | some r=>r.2.2.1 | none=>-1)):=by
 obtain⟨par,hpar⟩:∃par:Nat→Int,par=fun i=>match rs[i]? with | some r=>r.2.2.1 | none=>-1:=⟨_,rfl⟩
 rw[←hpar]
 obtain⟨e,h1,h2⟩:=aC (f:=f) (s:=([],[],List.replicate rs.length 0,0)) (fun x=>∃i:Nat,x=(castL (onL on i),(onL on i).map (anc on par),pd ((List.range i).map (vI on par)) (rs.length -i),(i:Int))∧i≤rs.length)
  (fun e=>e=(castL (onL on rs.length),(onL on rs.length).map (anc on par))) (fun x=>rs.length -x.2.2.2.toNat) ⟨0,by simp[onL,castL,pd],by omega⟩ (by simp;omega) (by
  rintro x ⟨i,rfl,hi⟩
  by_cases h:i<rs.length
  ·left
   have e:=Y6 h
   have hp:par i=rs[i].2.2.1:=by rw[hpar];simp only[e]
   obtain⟨p,hpp⟩:∃p:Int,p=par i:=⟨_,rfl⟩
   have hp' :rs[i].2.2.1=p:=by rw[hpp,hp]
   have hlen:((List.range i).map (vI on par)).length=i:=by simp
   have hol:=yU on i
   obtain⟨m,hm⟩:∃m,rs.length -i=m+1:=⟨rs.length -i -1,by omega⟩
   have hanc:o6 (l7 (ile 0 p) (l7 (ilt p (i:Int)) (o6 (lat (pd ((List.range i).map (vI on par)) (m+1)) p) fun(x_2:Int)=>o6 (L8 (pd ((List.range i).map (vI on par)) (m+1)) (toN p)) fun(x:Int)=>some x) (some (-1))) (some (-1))) (fun x=>some x)=some (anc on par i):=by
    unfold anc
    rw[←hpp]
    by_cases h0:0≤p
    ·rw[F7 h0]
     by_cases h1:p<(i:Int)
     ·have hk:p.toNat<i:=by omega
      have hg:(pd ((List.range i).map (vI on par)) (m+1))[p.toNat]? =some (vI on par p.toNat):=by
       unfold pd
       rw[List.getElem?_append_left (by simp;omega),uB _ _ hk]
      rw[E8 h1,if_pos ⟨h0,h1⟩]
      simp only[o5]
      rw[show lat (pd ((List.range i).map (vI on par)) (m+1)) p=some (vI on par p.toNat) by unfold lat;rw[if_pos h0];exact hg,o7,show L8 (pd ((List.range i).map (vI on par)) (m+1)) (toN p)=some (vI on par p.toNat)from hg];rfl
     ·rw[D9 (by omega),if_neg (by omega)];rfl
    ·rw[F9 (by omega),if_neg (by omega)];rfl
   rw[bT]at hanc
   refine⟨(castL (onL on (i+1)),(onL on (i+1)).map (anc on par),pd ((List.range (i+1)).map (vI on par)) (rs.length -(i+1)),((i+1:Nat):Int)),?_,⟨i+1,rfl,h⟩,by simp;omega⟩
   rw[hin i _ _ _ _ e,hm,hp',hanc,o7,X3 (by omega),show rs.length -(i+1)=m by omega,Be,List.range_succ,List.map_append]
   have q1:=Td ((List.range i).map (vI on par)) m
   have q2:=Tf ((List.range i).map (vI on par)) m
   have q3:=Yc ((List.range i).map (vI on par)) m (anc on par i)
   have q4:=CW ((List.range i).map (vI on par)) m (anc on par i)
   have q5:=Bf ((List.range i).map (vI on par)) m (anc on par i)
   have q6:=FW ((List.range i).map (vI on par)) m (anc on par i) (o8 (castL (onL on i)))
   rw[hlen]at q1 q2 q3 q4 q5 q6
   rw[q1,o7,q2,o7,q3]
   have hna:(List.map (vI on par) (List.range i++[i]))=(List.range i).map (vI on par)++[if on i=true then(gq on i:Int)else anc on par i]:=by rw[List.map_append,List.map_singleton,KF]
   rw[hna]
   cases hon:on i
   ·simp[castL]
   ·simp only[o5,cond_true]
    rw[q4,o7,q5,o7,lh _ (by simp[castL];omega),o7,lh _ (by simp;omega),o7,q6]
    simp[castL,o8,gq,onL]
  ·right
   have:i=rs.length:=by omega
   subst this
   exact⟨_,hend _ _ _,rfl⟩)
 rw[h1,h2]
def onR (s:x9) (d t:Int) (i:Nat):Bool:=match s.2.2.2.2[i]? with | some r=>l7 (ieq r.2.1 d) (Ho r.2.2.2.2.1 t) false | none=>false
def uj (s:x9) (i:Nat):Int:=match s.2.2.2.2[i]? with | some r=>r.2.2.1 | none=>-1
def N9 (s:x9) (d t:Int):List Nat:=onL (onR s d t) s.2.2.2.2.length
def xZ (s:x9) (i:Nat):Int:=match s.2.2.2.2[i]? with | some r=>r.2.2.2.1 | none=>0
def V4 (s:x9) (d t:Int):List Int×List Int×List Int:=(castL (N9 s d t),(N9 s d t).map (anc (onR s d t) (uj s)),(N9 s d t).map (xZ s))
theorem b4h {s:x9} {i:Nat} {r:J6} (h:s.2.2.2.2[i]? =some r) (d t:Int):kM r d t=some (onR s d t i):=by
 unfold kM onR
 rw[h,wG]
 simp only
 cases ieq r.2.1 d <;> rfl
theorem TB {s:x9} (h:s.2.2.2.2.length≤1000) (d t:Int):jL s.2.2.2.2 (d,t)=some (castL (N9 s d t),(N9 s d t).map (anc (onR s d t) (uj s))):=by
 unfold jL
 rw[show jH (o8 s.2.2.2.2) (0:Int)=some (List.replicate s.2.2.2.2.length 0) by unfold jH;rw[if_pos (by simp[o8];omega)];simp[o8],o7,bT]
 refine a2r h (fun i r A B C hr=>?_) (fun A B C=>?_)
 ·simp only[H9 hr,o5,F6,hr,o7]
  rw[b4h hr];rfl
 ·simp only[I4];rfl
theorem gW {s:x9} {d t:Int} {i:Nat} (h:i∈N9 s d t):i<s.2.2.2.2.length∧onR s d t i=true:=XV _ h
theorem a2A {s:x9} (h:s.2.2.2.2.length≤1000) (d t:Int):nH s d t=some (V4 s d t):=by
 have hl:=yU (onR s d t) s.2.2.2.2.length
 unfold nH
 rw[TB h,o7]
 refine ak (a3G (castL (N9 s d t)) (fun(k:Int)=>xZ s k.toNat) (F:=id) (by unfold castL N9;simp;omega) (fun i a acc ha hacc=>?_) (fun acc=>?_)) ?_
 rotate_left 2
 ·rw[o7];unfold V4 castL;rw[List.map_map];rfl
 ·simp only[H9 ha,o5,F6 (castL (N9 s d t)),ha,o7]
  rw[show L8 (castL (N9 s d t)) (toN (i:Int))=some a from ha,o7]
  obtain⟨k,hk,rfl⟩:∃k,k∈N9 s d t∧(k:Int)=a:=by
   have:=dG ha
   unfold castL at this
   exact List.mem_map.1 this
  have hlt:=gW hk
  have e:=Y6 hlt.1
  have hil:=(J7.1 ha).1
  simp only[castL,List.length_map]at hil
  rw[F6,e,o7,lh _ (by unfold N9 at hil;omega),o7]
  simp only[xZ,Int.toNat_natCast,e]
 ·simp only[I4];rfl
theorem QN {l:List Nat} (hl:l.Pairwise (·< ·)) {i j a:Nat} (hi:l[i]? =some a) (hj:l[j]? =some a):i=j:=by
 obtain⟨h1,h2⟩:=J7.1 hi
 obtain⟨h3,h4⟩:=J7.1 hj
 rcases Nat.lt_trichotomy i j with h | h | h
 ·have:=List.pairwise_iff_getElem.1 hl i j h1 h3 h;omega
 ·exact h
 ·have:=List.pairwise_iff_getElem.1 hl j i h3 h1 h;omega
theorem SN (on:Nat→Bool) (n:Nat):(onL on n).Pairwise (·< ·):=List.Pairwise.filter _ List.pairwise_lt_range
end Go.GP
namespace Go.GP
open Gt
set_option maxRecDepth 100000
def GK (par prio:List Int) (i:Nat):Option Int:=match par[i]?,prio[i]? with
 | some p,some q=>l7 (ilt p (-1)) (some 9) (l7 (ile (i:Int) p) (some 9) (l7 (ilt q 0) (some 3) (l7 (ilt 9 q) (some 3) none)))
 | _,_=>none
def uq (par prio:List Int):Int:=l7 (E5 (ieq (o8 par) (o8 prio))) 2 (l7 (ilt 8 (o8 par)) 4 (match P7 par.length (GK par prio)with | some r=>r | none=>0))
theorem a7j (par prio:List Int):lS par prio=some (uq par prio):=by
 unfold lS uq
 cases h1:ieq (o8 par) (o8 prio)
 ·rfl
 simp only[o9,l9]
 cases h2:ilt 8 (o8 par)
 case true=>rfl
 simp only[l9]
 have hl:par.length=prio.length:=by rw[I9]at h1;simp only[o8]at h1;omega
 refine ak (nK (p:=GK par prio) par.length (by rw[aT]at h2;simp only[o8]at h2;omega) PUnit.unit (fun k hk=>?_) ?_) ?_
 rotate_left 2
 ·cases P7 par.length (GK par prio) <;> rfl
 ·have e:=Y6 hk
  have e2:=Y6 (show k<prio.length by omega)
  simp only[H9 e,o5,F6,e,e2,o7,GK]
  cases ilt par[k] (-1)
  case true=>rfl
  cases ile (k:Int) par[k]
  case true=>rfl
  cases ilt prio[k] 0
  case true=>rfl
  cases ilt 9 prio[k] <;> rfl
 ·rw[I4];rfl
theorem kP {ρ:Type} {n:Nat} {p:Nat→Option ρ} (h:P7 n p=none):∀i,i<n→p i=none:=by
 unfold P7 at h
 intro i hi
 exact List.findSome?_eq_none_iff.1 h i (List.mem_range.2 hi)
theorem yj {par prio:List Int} (h:uq par prio=0):par.length=prio.length∧par.length≤8∧∀(i:Nat) (p:Int),par[i]? =some p→-1≤p∧p<(i:Int):=by
 unfold uq at h
 cases h1:ieq (o8 par) (o8 prio) <;> rw[h1]at h
 ·cases h
 simp only[o9,l9]at h
 cases h2:ilt 8 (o8 par) <;> rw[h2]at h
 case true=>cases h
 simp only[l9]at h
 have hl:par.length=prio.length:=by rw[I9]at h1;simp only[o8]at h1;omega
 refine⟨hl,by rw[aT]at h2;simp only[o8]at h2;omega,fun i p hp=>?_⟩
 have hi:=(J7.1 hp).1
 cases hf:P7 par.length (GK par prio)with
 | some r=>
  rw[hf]at h
  simp only at h
  obtain⟨k,hk,hr⟩:=bV hf
  unfold GK at hr
  split at hr
  ·subst h
   rename_i a b _ _
   cases c1:ilt a (-1) <;> rw[c1]at hr <;> try (cases hr;done)
   cases c2:ile (k:Int) a <;> rw[c2]at hr <;> try (cases hr;done)
   cases c3:ilt b 0 <;> rw[c3]at hr <;> try (cases hr;done)
   cases c4:ilt 9 b <;> rw[c4]at hr <;> cases hr
  ·cases hr
 | none=>
  have:=kP hf i hi
  unfold GK at this
  rw[hp,Y6 (show i<prio.length by omega)]at this
  simp only at this
  cases c1:ilt p (-1) <;> rw[c1]at this
  case true=>cases this
  cases c2:ile (i:Int) p <;> rw[c2]at this
  case true=>cases this
  rw[aT]at c1;rw[uf]at c2
  exact⟨c1,c2⟩
def Sr (par:List Int) (at' :Int) (i:Nat):Bool:=match par[i]? with | some p=>ieq p at' | none=>false
def iM (par:List Int) (at' :Int):List Nat:=onL (Sr par at') par.length
theorem Uw {par:List Int} (h:par.length≤1000) (at' :Int):lQ par at' =some (castL (iM par at')):=by
 unfold lQ
 rw[bT]
 obtain⟨e,h1,h2⟩:=aC (f:=fun(x:List Int×Int)=>l7 (ilt x.2 (o8 par)) (o6 (lat par x.2) fun(x_1:Int)=>l7 (ieq x_1 at') (o6 (dE x.1 [x.2]) fun(x_2:List Int)=>some (.inl (x_2,A7 .i64 x.2 1))) (some (.inl (x.1,A7 .i64 x.2 1)))) (some (.inr x.1)))
  (s:=([],0)) (fun x=>∃i:Nat,x=(castL (onL (Sr par at') i),(i:Int))∧i≤par.length) (fun e=>e=castL (iM par at')) (fun x=>par.length -x.2.toNat) ⟨0,rfl,by omega⟩ (by simp;omega) (by
  rintro x ⟨i,rfl,hi⟩
  by_cases hlt:i<par.length
  ·left
   have e:=Y6 hlt
   have hol:=yU (Sr par at') i
   refine⟨(castL (onL (Sr par at') (i+1)),((i+1:Nat):Int)),?_,⟨i+1,rfl,hlt⟩,by simp;omega⟩
   simp only[H9 e,o5,F6,e,o7]
   rw[X3 (by omega),lh _ (by simp[castL];omega),Be]
   have hon:Sr par at' i=ieq par[i] at' :=by unfold Sr;rw[e]
   rw[hon]
   cases ieq par[i] at' <;> simp[castL]
  ·right
   have:i=par.length:=by omega
   subst this
   exact⟨_,by rw[I4];rfl,rfl⟩)
 rw[h1,h2]
theorem KC {par:List Int} {at' :Int} {i:Nat} (h:i∈iM par at'):i<par.length∧par[i]? =some at' :=by
 obtain⟨h1,h2⟩:=XV _ h
 refine⟨h1,?_⟩
 unfold Sr at h2
 rw[Y6 h1]at h2 ⊢
 simp only[I9]at h2
 rw[h2]
def bG (oc pr:Int→Int) (acc:List Int) (a:Int):List Int:=l7 (ieq (oc a) (-1)) acc (match acc with
 | []=>[a]
 | b::r=>l7 (ilt (pr b) (pr a)) [a] (l7 (ieq (pr a) (pr b)) (b::r++[a]) (b::r)))
theorem a3b (oc pr:Int→Int) {acc:List Int} {a x:Int} (h:x∈bG oc pr acc a):x∈acc∨x=a:=by
 unfold bG at h
 cases h1:ieq (oc a) (-1) <;> rw[h1]at h
 case true=>exact .inl h
 simp only[l9]at h
 cases acc with
 | nil=>exact .inr (by simpa using h)
 | cons b r=>
  simp only at h
  cases h2:ilt (pr b) (pr a) <;> rw[h2]at h
  ·simp only[l9]at h
   cases h3:ieq (pr a) (pr b) <;> rw[h3]at h
   ·exact .inl h
   ·simp only[o5]at h
    rcases List.mem_append.1 h with h | h
    ·exact .inl h
    ·exact .inr (by simpa using h)
  ·exact .inr (by simpa using h)
theorem b3G (oc pr:Int→Int) (acc:List Int) (a:Int):(bG oc pr acc a).length≤acc.length+1:=by
 unfold bG
 cases ieq (oc a) (-1)
 case true=>simp
 simp only[l9]
 cases acc with
 | nil=>simp
 | cons b r=>
  simp only
  cases ilt (pr b) (pr a)
  ·cases ieq (pr a) (pr b) <;> simp
  ·simp
def oz (oc pr:Int→Int) (l:List Int):List Int:=l.foldl (bG oc pr) []
theorem Us (oc pr:Int→Int):∀(l acc:List Int) (x:Int),x∈l.foldl (bG oc pr) acc→x∈acc∨x∈l
 | [],acc,x,h=> .inl h
 | a::l,acc,x,h=>by
  rcases Us oc pr l _ x h with h | h
  ·rcases a3b oc pr h with h | h
   ·exact .inl h
   ·exact .inr (by simp[h])
  ·exact .inr (by simp[h])
theorem Cb {oc pr:Int→Int} {l:List Int} {x:Int} (h:x∈oz oc pr l):x∈l:=by
 rcases Us oc pr l [] x h with h | h
 ·cases h
 ·exact h
theorem Ll {oc oc' pr:Int→Int} :∀(l acc:List Int),(∀x∈l,oc x=oc' x)→l.foldl (bG oc pr) acc=l.foldl (bG oc' pr) acc
 | [],acc,_=>rfl
 | a::l,acc,h=>by
  rw[List.foldl_cons,List.foldl_cons,Ll l _ fun x hx=>h x (by simp[hx])]
  congr 1
  unfold bG;rw[h a (by simp)]
def chF (oc pr:Int→Int) (l:List Int):Int:=match oz oc pr l with | []=>-1 | [b]=>oc b | _=>-2
theorem Qh {oc oc' pr:Int→Int} {l:List Int} (h:∀x∈l,oc x=oc' x):chF oc pr l=chF oc' pr l:=by
 have e:oz oc pr l=oz oc' pr l:=Ll l [] h
 unfold chF
 rw[e]
 cases hb:oz oc' pr l with
 | nil=>rfl
 | cons b r=>
  cases r with
  | nil=>exact h b (Cb (oc:=oc') (pr:=pr) (by rw[hb];simp))
  | cons c r=>rfl
section
variable (par prio:List Int) (ap:List Bool)
def prF (i:Int):Int:=prio.getD i.toNat 0
def apF (i:Int):Bool:=ap.getD i.toNat false
def ocF:Nat→Int→Int
 | 0,_=>-1
 | k+1,i=>l7 (ieq (chF (ocF k) (prF prio) (castL (iM par i))) (-1)) (l7 (apF ap i) i (-1)) (chF (ocF k) (prF prio) (castL (iM par i)))
variable (hv:uq par prio=0)
include hv
theorem Ig {i x:Int} (h:x∈castL (iM par i)):i<x∧x<(par.length:Int)∧0≤x:=by
 unfold castL at h
 obtain⟨k,hk,rfl⟩:=List.mem_map.1 h
 obtain⟨h1,h2⟩:=KC hk
 have:=(yj hv).2.2 k i h2
 omega
theorem QO:∀(k k' :Nat) (i:Int),(par.length:Int) -i≤k→(par.length:Int) -i≤k' →i<par.length→ocF par prio ap k i=ocF par prio ap k' i
 | 0,_,i,h,_,h2=>by omega
 | _+1,0,i,_,h,h2=>by omega
 | k+1,k' +1,i,h,h',h2=>by
  unfold ocF
  have:chF (ocF par prio ap k) (prF prio) (castL (iM par i))=chF (ocF par prio ap k') (prF prio) (castL (iM par i)):=
   Qh fun x hx=>by
    have:=Ig par prio hv hx
    exact QO k k' x (by omega) (by omega) (by omega)
  rw[this]
end
end Go.GP
namespace Go.GP
open Gt
set_option maxRecDepth 100000
theorem KI {prio:List Int} {i:Int} (h0:0≤i) (h:i<o8 prio):lat prio i=some (prF prio i):=by
 obtain⟨x,hx,_⟩:=fU h0 h
 rw[hx]
 have:=(Z7 hx).2.2.2
 unfold prF;rw[jZ,this];rfl
theorem a1k {f:List Int×Int→Option ((List Int×Int)⊕List Int)} (oc:Int→Int) (prio:List Int) (l:List Int) (hl:l.length≤1000) (hr:∀x∈l,0≤x∧x<o8 prio)
  (hin:∀(i:Nat) (a:Int) (acc:List Int),l[i]? =some a→acc.length≤1000→(∀x∈acc,0≤x∧x<o8 prio)→0≤a→a<o8 prio→f (acc,(i:Int))=some (.inl (bG oc (prF prio) acc a,A7 .i64 (i:Int) 1)))
  (hend:∀acc,f (acc,(l.length:Int))=some (.inr acc)):X5 f ([],0)=some (oz oc (prF prio) l):=by
 refine(jB l (bG oc (prF prio)) (fun b i=>(b,i)) (fun b=>b) (fun i acc=>acc.length≤i∧∀x∈acc,0≤x∧x<o8 prio) (b:=[]) (by omega) ⟨by simp,by simp⟩ (fun i a acc ha hi hI=>?_) (fun acc hI=>hend acc)).1
 have hlt:=(J7.1 ha).1
 have ham:=hr a (dG ha)
 rw[hin i a acc ha (by omega) hI.2 ham.1 ham.2,X3 (by omega)]
 refine⟨rfl,by have:=b3G oc (prF prio) acc a;omega,fun x hx=>?_⟩
 rcases a3b _ _ hx with h | h
 ·exact hI.2 x h
 ·rw[h];exact ham
section
variable (par prio:List Int) (ap:List Bool) (hv:uq par prio=0) (hap:ap.length=par.length)
def OC (i:Int):Int:=ocF par prio ap (par.length+1) i
def chS (at' :Int):Int:=chF (OC par prio ap) (prF prio) (castL (iM par at'))
include hv in
theorem a2M {i:Int} (h0:-1≤i) (h:i<par.length):OC par prio ap i=l7 (ieq (chS par prio ap i) (-1)) (l7 (apF ap i) i (-1)) (chS par prio ap i):=by
 unfold OC chS
 rw[ocF]
 have:chF (ocF par prio ap par.length) (prF prio) (castL (iM par i))=chF (OC par prio ap) (prF prio) (castL (iM par i)):=
  Qh fun x hx=>by
   have:=Ig par prio hv hx
   exact QO par prio ap hv _ _ x (by omega) (by omega) (by omega)
 rw[this]
include hv in
theorem a3P (i:Int):(castL (iM par i)).length≤8:=by
 have h1:=yU (Sr par i) par.length
 have h2:=(yj hv).2.1
 unfold castL iM;rw[List.length_map];omega
include hv in
theorem a1J {i x:Int} (h:x∈castL (iM par i)):0≤x∧x<o8 prio:=by
 have:=Ig par prio hv h
 have h2:=(yj hv).1
 simp only[o8];omega
include hv in
theorem a7e (arr:List Int) (i:Int) (hA:∀x∈castL (iM par i),lat arr x=some (OC par prio ap x)):kT (par,prio,arr) i=some (oz (OC par prio ap) (prF prio) (castL (iM par i))):=by
 unfold kT
 rw[Uw (by have:=(yj hv).2.1;simp only;omega),o7,bT]
 refine a1k (OC par prio ap) prio _ (by have:=a3P par prio hv i;omega) (fun x hx=>a1J par prio hv hx) (fun k a acc ha hl hacc h0 h1=>?_) (fun acc=>?_)
 ·simp only[H9 ha,o5,F6 (castL (iM par i)),ha,o7]
  rw[show L8 (castL (iM par i)) (toN (k:Int))=some a from ha,o7,hA a (dG ha),o7]
  unfold bG
  cases ieq (OC par prio ap a) (-1)
  case true=>rfl
  simp only[l9,KI h0 h1,o7]
  cases acc with
  | nil=>simp only[D9 (show o8 ([]:List Int)≤0 by simp[o8]),l9,o7,E9 (show o8 ([]:List Int)=0 from rfl),o5,lh a (show([]:List Int).length≤1000000 by simp)];rfl
  | cons b r=>
   have hb:=hacc b (by simp)
   simp only[E8 (show(0:Int)<o8 (b::r) by simp[o8] <;> omega),o5,show lat (b::r) 0=some b from rfl,show L8 (b::r) (toN 0)=some b from rfl,o7,KI hb.1 hb.2]
   cases ilt (prF prio b) (prF prio a)
   ·simp only[l9,o7,D8 (show o8 (b::r)≠0 by simp[o8] <;> omega),show lat (b::r) 0=some b from rfl,show L8 (b::r) (toN 0)=some b from rfl,KI hb.1 hb.2]
    cases ieq (prF prio a) (prF prio b)
    ·rfl
    ·rw[o5,o5,lh _ (by omega)];rfl
   ·simp only[o5,show jG 0 0 (o8 (b::r))=true by simp[jG,o8] <;> omega,show gQ (b::r) (toN 0) (toN 0)=[]from rfl,o7,E9 (show o8 ([]:List Int)=0 from rfl),lh a (show([]:List Int).length≤1000000 by simp)];rfl
 ·simp only[I4];rfl
include hv in
theorem a0c (arr:List Int) (i:Int) (hA:∀x∈castL (iM par i),lat arr x=some (OC par prio ap x)):aH (par,prio,arr) i=some (chS par prio ap i):=by
 unfold aH chS chF
 rw[a7e par prio ap hv arr i hA,o7]
 have hsub:∀x∈oz (OC par prio ap) (prF prio) (castL (iM par i)),lat arr x=some (OC par prio ap x):=fun x hx=>hA x (Cb hx)
 generalize oz (OC par prio ap) (prF prio) (castL (iM par i))=b at*
 match b,hsub with
 | [],_=>rfl
 | [x],hsub=>
  simp only[D8 (show o8 [x]≠0 by simp[o8]),E9 (show o8 [x]=1 from rfl),l9,o5,show lat [x] 0=some x from rfl,show L8 [x] (toN 0)=some x from rfl,o7,hsub x (by simp)]
 | x::y::r,_=>
  rw[D8 (by simp[o8];omega),D8 (by simp[o8];omega)];rfl
include hv hap in
theorem VN:∃arr,lT par prio ap=some arr∧∀x,0≤x→x<(par.length:Int)→lat arr x=some (OC par prio ap x):=by
 have h8:=(yj hv).2.1
 unfold lT
 rw[show jH (o8 par) (0:Int)=some (List.replicate par.length 0) by unfold jH;rw[if_pos (by simp[o8];omega)];simp[o8],o7]
 have key:=aC (f:=fun(x:dH×Int)=>l7 (ile 0 x.2) (o6 (aH x.1 x.2) fun(x_1:Int)=>o6 (lat x.1.2.2 x.2) fun(x_2:Int)=>o6 (L8 x.1.2.2 (toN x.2)) fun(x_3:Int)=>
   o6 (lat (U5 x.1.2.2 (toN x.2) x_1) x.2) fun(x_4:Int)=>o6 (L8 (U5 x.1.2.2 (toN x.2) x_1) (toN x.2)) fun(x_5:Int)=>l7 (ieq x_5 (-1)) (o6 (lat ap x.2) fun(x_6:Bool)=>l7 x_6 (o6 (lat (U5 x.1.2.2 (toN x.2) x_1) x.2) fun(x_7:Int)=>
    o6 (L8 (U5 x.1.2.2 (toN x.2) x_1) (toN x.2)) fun(x_8:Int)=>some (.inl ((x.1.1,x.1.2.1,U5 (U5 x.1.2.2 (toN x.2) x_1) (toN x.2) x.2),G8 .i64 x.2 1))) (some (.inl ((x.1.1,x.1.2.1,U5 x.1.2.2 (toN x.2) x_1),G8 .i64 x.2 1))))
     (some (.inl ((x.1.1,x.1.2.1,U5 x.1.2.2 (toN x.2) x_1),G8 .i64 x.2 1)))) (some (.inr x.1)))
  (s:=((par,prio,List.replicate par.length 0),G8 .i64 (o8 par) 1)) (fun x=>∃(arr:List Int) (i:Int),x=((par,prio,arr),i)∧-1≤i∧i<par.length∧arr.length=par.length∧∀x,i<x→x<(par.length:Int)→lat arr x=some (OC par prio ap x))
  (fun y=>∃arr:List Int,y=(par,prio,arr)∧∀x,0≤x→x<(par.length:Int)→lat arr x=some (OC par prio ap x)) (fun x=>(x.2+1).toNat) ?_ ?_ ?_
 ·obtain⟨y,k1,arr,rfl,k3⟩:=key
  refine⟨arr,(jf k1 _).trans rfl,k3⟩
 ·exact⟨_,_,rfl,by rw[H8 (by unfold I64 o8;omega)];simp[o8];omega,by rw[H8 (by unfold I64 o8;omega)];simp only[o8];omega,by simp,fun x h1 h2=>by
   rw[H8 (by unfold I64 o8;omega)]at h1;simp only[o8]at h1;omega⟩
 ·rw[H8 (by unfold I64 o8;omega)];simp[o8];omega
 ·rintro x ⟨arr,i,rfl,h1,h2,hlen,hA⟩
  by_cases h0:0≤i
  ·left
   obtain⟨k,rfl⟩:∃k:Nat,i=(k:Int):=⟨i.toNat,by omega⟩
   have hk:k<arr.length:=by omega
   have hka:k<ap.length:=by omega
   have e:=Y6 hk
   have ea:=Y6 hka
   have hch:=a0c par prio ap hv arr (k:Int) (fun x hx=>by
    have:=Ig par prio hv hx
    exact hA x this.1 this.2.1)
   have hs:∀v:Int,lat (U5 arr (toN (k:Int)) v) (k:Int)=some v:=fun v=>by
    rw[F6];show(arr.set k v)[k]? =some v
    rw[List.getElem?_set_self hk]
   have hs2:∀v:Int,L8 (U5 arr (toN (k:Int)) v) (toN (k:Int))=some v:=fun v=>by
    have:=hs v;rw[F6]at this;exact this
   have hsub:G8 .i64 (k:Int) 1=(k:Int) -1:=H8 (by unfold I64;omega)
   have hoc:=a2M par prio ap hv (i:=(k:Int)) (by omega) (by omega)
   have hapk:apF ap (k:Int)=ap[k]:=by unfold apF;rw[Int.toNat_natCast,jZ,ea];rfl
   rw[hapk]at hoc
   refine⟨((par,prio,arr.set k (OC par prio ap (k:Int))),(k:Int) -1),?_,⟨_,_,rfl,by omega,by omega,by simp[hlen],fun x hx1 hx2=>?_⟩,by simp <;> omega⟩
   ·simp only[F7 h0,o5,hch,o7,F6 arr,e,show L8 arr (toN (k:Int))=some arr[k]from e,hs,hs2,F6 ap,ea,hsub]
    rw[hoc]
    cases hq:ieq (chS par prio ap (k:Int)) (-1)
    ·simp only[l9];rfl
    ·simp only[o5]
     cases ap[k]
     ·rw[I9.1 hq];rfl
     ·simp only[o5]
      show some (Sum.inl ((par,prio,(arr.set k _).set k _),_))=_
      rw[List.set_set]
   ·unfold lat
    rw[if_pos (by omega)]
    by_cases hxk:x=(k:Int)
    ·rw[hxk,Int.toNat_natCast,List.getElem?_set_self hk]
    ·have:=hA x (by omega) hx2
     unfold lat at this
     rw[if_pos (by omega)]at this
     rw[List.getElem?_set,if_neg (by omega)]
     exact this
  ·right
   exact⟨(par,prio,arr),by rw[F9 (by omega)];rfl,arr,rfl,fun x hx1 hx2=>hA x (by omega) hx2⟩
end
def vY (par prio:List Int) (ap:List Bool):Int:=l7 (ieq (uq par prio) 0) (l7 (ieq (o8 ap) (o8 par)) (chS par prio ap (-1)) (-1)) (-1)
theorem a2v (par prio:List Int) (ap:List Bool):pR par prio ap=some (vY par prio ap):=by
 unfold pR vY
 rw[a7j,o7]
 cases hv:ieq (uq par prio) 0
 ·rfl
 simp only[o9,l9,o5]
 cases hl:ieq (o8 ap) (o8 par)
 ·rfl
 simp only[o9,l9,o5]
 have hv' :=I9.1 hv
 have hl' :ap.length=par.length:=by rw[I9]at hl;simp only[o8]at hl;omega
 obtain⟨arr,h1,h2⟩:=VN par prio ap hv' hl'
 rw[h1,o7,bT]
 exact a0c par prio ap hv' arr (-1) fun x hx=>by
  have:=Ig par prio hv' hx
  exact h2 x this.2.2 this.2.1
section
variable (par prio:List Int) (ap:List Bool) (hv:uq par prio=0) (hap:ap.length=par.length)
include hv hap in
end
end Go.GP
namespace Go.GP
open Gt
set_option maxRecDepth 100000
theorem a1C {l:List Int} {i:Nat} (h:i<l.length):lat l (i:Int)=some (hg l i):=by rw[F6];exact nP h
theorem UY {l:List Int} {i j:Nat} (hi:i<l.length) (hj:j<l.length):V9 l (i:Int) (j:Int)=some (ilt (hg l i) (hg l j)):=by
 unfold V9
 rw[a1C hi,o7,a1C hj,o7]
theorem UZ {l:List Int} {i j:Nat} (hi:i<l.length) (hj:j<l.length):X7 l (i:Int) (j:Int)=some (swp l i j):=by
 unfold X7
 have e1:L8 l (toN (i:Int))=some (hg l i):=nP hi
 have e2:L8 l (toN (j:Int))=some (hg l j):=nP hj
 have hj2:j<(U5 l (toN (i:Int)) (hg l j)).length:=by show j<(l.set i (hg l j)).length;simp[hj]
 have e3:L8 (U5 l (toN (i:Int)) (hg l j)) (toN (j:Int))=some (hg (U5 l (toN (i:Int)) (hg l j)) j):=nP hj2
 rw[a1C hj,o7,e2,o7,a1C hi,o7,e1,o7,o7,o7,a1C hj2,o7,e3,o7];rfl
theorem Oa {l m:List Int} (h:l.Perm m):l.length=m.length:=h.length_eq
theorem c3p {l:List Int} {j:Nat} (hl:l.length≤100000) (hj:j<l.length) (h:GY l j):∃l',lI l (j:Int)=some l' ∧zY l' l'.length∧l'.Perm l:=by
 unfold lI
 have key:=aC (f:=fun(x:List Int×Int)=>l7 (ieq (aN .i64 (G8 .i64 x.2 1) 2) x.2) (some (.inr x.1)) (o6 (V9 x.1 x.2 (aN .i64 (G8 .i64 x.2 1) 2)) fun(x_1:Bool)=>l7 (E5 x_1) (some (.inr x.1))
   (o6 (X7 x.1 (aN .i64 (G8 .i64 x.2 1) 2) x.2) fun(x_2:List Int)=>some (.inl (x_2,aN .i64 (G8 .i64 x.2 1) 2)))))
  (s:=(l,(j:Int))) (fun x=>∃(m:List Int) (k:Nat),x=(m,(k:Int))∧k<m.length∧GY m k∧m.Perm l) (fun m=>zY m m.length∧m.Perm l) (fun x=>x.2.toNat) ⟨l,j,rfl,hj,h,List.Perm.refl _⟩ (by simp;omega) (by
  rintro x ⟨m,k,rfl,hk,hu,hp⟩
  have hm:=Oa hp
  by_cases h0:k=0
  ·subst h0
   exact .inr ⟨m,rfl,MR hu (.inl rfl),hp⟩
  have hpar:aN .i64 (G8 .i64 (k:Int) 1) 2=(((k -1) / 2:Nat):Int):=by
   rw[H8 (by unfold I64;omega),qN (by rw[bu (by omega)];unfold I64;omega),bu (by omega)];omega
  simp only[hpar]
  rw[D8 (by omega),l9,UY hk (by omega),o7]
  cases hc:ilt (hg m k) (hg m ((k -1) / 2))
  ·exact .inr ⟨m,rfl,MR hu (.inr (by rw[aT]at hc;exact hc)),hp⟩
  ·rw[o9,l9,UZ (by omega) hk]
   exact .inl ⟨(swp m ((k -1) / 2) k,(((k -1) / 2:Nat):Int)),rfl,⟨_,_,rfl,by rw[zq];omega,UX hu (by omega) hk (bW.1 hc),(BK (by omega) hk).trans hp⟩,by simp;omega⟩)
 obtain⟨m,k1,k2,k3⟩:=key
 exact⟨m,(jf k1 _).trans rfl,k2,k3⟩
theorem Qv {l:List Int} (hl:l.length≤1000) (h:zY l l.length) (x:Int):∃l',ah l x=some l' ∧zY l' l'.length∧l'.Perm (l++[x]):=by
 unfold ah qG di
 rw[lh _ (by omega),o7,o7,o7]
 have hlen:(l++[x]).length=l.length+1:=by simp
 have hu:GY (l++[x]) l.length:=by
  refine⟨fun k k0 k1 k2=>?_,fun h0 k k0 k1 k2=>by omega⟩
  have hk:k<l.length:=by omega
  have hga:∀i,i<l.length→hg (l++[x]) i=hg l i:=fun i hi=>by unfold hg;rw[jZ,jZ,List.getElem?_append_left hi]
  rw[hga k hk,hga _ (by omega)]
  exact h k k0 hk
 obtain⟨m,k1,k2,k3⟩:=c3p (l:=l++[x]) (j:=l.length) (by omega) (by omega) hu
 refine⟨m,?_,k2,k3⟩
 rw[show G8 .i64 (o8 (l++[x])) 1=((l.length:Nat):Int) by rw[H8 (by unfold I64 o8;omega)];simp[o8],k1];rfl
theorem a7U {l:List Int} {n i:Nat} (hl:l.length≤100000) (hn:n≤l.length) (hi:i<l.length) (h:xF l n i):∃b l',jI l (i:Int) (n:Int)=some (b,l')∧zY l' n∧l'.Perm l∧l'.drop n=l.drop n:=by
 unfold jI
 have key:=aC (f:=fun(x:List Int×Int)=>l7 (ile (n:Int) (A7 .i64 (W9 .i64 2 x.2) 1)) (some (.inr x)) (l7 (ilt (A7 .i64 (W9 .i64 2 x.2) 1) 0) (some (.inr x)) (l7 (ilt (A7 .i64 (A7 .i64 (W9 .i64 2 x.2) 1) 1) (n:Int))
   (o6 (V9 x.1 (A7 .i64 (A7 .i64 (W9 .i64 2 x.2) 1) 1) (A7 .i64 (W9 .i64 2 x.2) 1)) fun(x_1:Bool)=>l7 x_1 (o6 (V9 x.1 (A7 .i64 (A7 .i64 (W9 .i64 2 x.2) 1) 1) x.2) fun(x_2:Bool)=>l7 (E5 x_2) (some (.inr x))
     (o6 (X7 x.1 x.2 (A7 .i64 (A7 .i64 (W9 .i64 2 x.2) 1) 1)) fun(x_3:List Int)=>some (.inl (x_3,A7 .i64 (A7 .i64 (W9 .i64 2 x.2) 1) 1)))) (o6 (V9 x.1 (A7 .i64 (W9 .i64 2 x.2) 1) x.2) fun(x_2:Bool)=>l7 (E5 x_2) (some (.inr x))
     (o6 (X7 x.1 x.2 (A7 .i64 (W9 .i64 2 x.2) 1)) fun(x_3:List Int)=>some (.inl (x_3,A7 .i64 (W9 .i64 2 x.2) 1)))))
   (o6 (V9 x.1 (A7 .i64 (W9 .i64 2 x.2) 1) x.2) fun(x_1:Bool)=>l7 (E5 x_1) (some (.inr x)) (o6 (X7 x.1 x.2 (A7 .i64 (W9 .i64 2 x.2) 1)) fun(x_2:List Int)=>some (.inl (x_2,A7 .i64 (W9 .i64 2 x.2) 1)))))))
  (s:=(l,(i:Int))) (fun x=>∃(m:List Int) (k:Nat),x=(m,(k:Int))∧k<m.length∧xF m n k∧m.Perm l∧m.drop n=l.drop n) (fun y=>zY y.1 n∧y.1.Perm l∧y.1.drop n=l.drop n) (fun x=>l.length -x.2.toNat) ⟨l,i,rfl,hi,h,List.Perm.refl _,rfl⟩ (by simp;omega) (by
  rintro x ⟨m,k,rfl,hk,hd,hp,hdr⟩
  have hm:=Oa hp
  have hc1:A7 .i64 (W9 .i64 2 (k:Int)) 1=((2*k+1:Nat):Int):=by rw[dI (by unfold I64;omega),J5 (by unfold I64;omega)];omega
  have hc2:A7 .i64 (((2*k+1:Nat):Int)) 1=((2*k+2:Nat):Int):=by rw[J5 (by unfold I64;omega)];omega
  have dswp:∀a b,a<n→b<n→(swp m a b).drop n=l.drop n:=fun a b ha hb=>by
   unfold swp
   rw[List.drop_set_of_lt hb,List.drop_set_of_lt ha,hdr]
  simp only[hc1,hc2]
  by_cases h1:n≤2*k+1
  ·rw[F7 (by omega),o5]
   exact .inr ⟨_,rfl,uy hd (fun j j0 j1 j2=>by omega),hp,hdr⟩
  rw[F9 (by omega),l9,D9 (by omega),l9]
  by_cases h2:2*k+2<n
  ·rw[E8 (by omega),o5,UY (by omega) (by omega),o7]
   cases hc:ilt (hg m (2*k+2)) (hg m (2*k+1))
   ·rw[aT]at hc
    rw[l9,UY (by omega) hk,o7]
    cases hq:ilt (hg m (2*k+1)) (hg m k)
    ·rw[aT]at hq
     exact .inr ⟨_,rfl,uy hd (fun j j0 j1 j2=>by
      have:j=2*k+1∨j=2*k+2:=by omega
      rcases this with rfl | rfl <;> (dsimp only;omega)),hp,hdr⟩
    ·rw[o9,l9,UZ hk (by omega)]
     exact .inl ⟨(swp m k (2*k+1),((2*k+1:Nat):Int)),rfl,⟨_,_,rfl,by rw[zq];omega,xB hd (by omega) (by omega) (by omega) (by omega) (fun j j0 j1 j2=>by
      have:j=2*k+1∨j=2*k+2:=by omega
      rcases this with rfl | rfl
      ·exact Int.le_refl _
      ·exact hc) (bW.1 hq),(BK hk (by omega)).trans hp,dswp _ _ (by omega) (by omega)⟩,by simp;omega⟩
   ·rw[bW]at hc
    rw[o5,UY (by omega) hk,o7]
    cases hq:ilt (hg m (2*k+2)) (hg m k)
    ·rw[aT]at hq
     exact .inr ⟨_,rfl,uy hd (fun j j0 j1 j2=>by
      have:j=2*k+1∨j=2*k+2:=by omega
      rcases this with rfl | rfl <;> (dsimp only;omega)),hp,hdr⟩
    ·rw[o9,l9,UZ hk (by omega)]
     exact .inl ⟨(swp m k (2*k+2),((2*k+2:Nat):Int)),rfl,⟨_,_,rfl,by rw[zq];omega,xB hd (by omega) (by omega) (by omega) (by omega) (fun j j0 j1 j2=>by
      have:j=2*k+1∨j=2*k+2:=by omega
      rcases this with rfl | rfl
      ·omega
      ·exact Int.le_refl _) (bW.1 hq),(BK hk (by omega)).trans hp,dswp _ _ (by omega) (by omega)⟩,by simp;omega⟩
  ·rw[D9 (by omega),l9,UY (by omega) hk,o7]
   cases hq:ilt (hg m (2*k+1)) (hg m k)
   ·rw[aT]at hq
    exact .inr ⟨_,rfl,uy hd (fun j j0 j1 j2=>by
     have:j=2*k+1:=by omega
     subst this;omega),hp,hdr⟩
   ·rw[o9,l9,UZ hk (by omega)]
    exact .inl ⟨(swp m k (2*k+1),((2*k+1:Nat):Int)),rfl,⟨_,_,rfl,by rw[zq];omega,xB hd (by omega) (by omega) (by omega) (by omega) (fun j j0 j1 j2=>by
     have:j=2*k+1:=by omega
     subst this;exact Int.le_refl _) (bW.1 hq),(BK hk (by omega)).trans hp,dswp _ _ (by omega) (by omega)⟩,by simp;omega⟩)
 obtain⟨y,k1,k2,k3,k4⟩:=key
 exact⟨ilt (i:Int) y.2,y.1,(jf k1 _).trans rfl,k2,k3,k4⟩
theorem a3J {l:List Int} (hl:l.length≤1000) (h:zY l l.length) (h0:0<l.length):∃l',ig l=some (hg l 0,l')∧zY l' l'.length∧(l' ++[hg l 0]).Perm l:=by
 obtain⟨n,hn⟩:∃n,l.length=n+1:=⟨l.length -1,by omega⟩
 have hsub:G8 .i64 ((l.length:Nat):Int) 1=((n:Nat):Int):=by rw[H8 (by unfold I64;omega)];omega
 unfold ig di
 rw[o7,show o8 l=((l.length:Nat):Int)from rfl,hsub,show(0:Int)=((0:Nat):Int)from rfl,UZ (by omega) (by omega),o7]
 have hlen:(swp l 0 n).length=n+1:=by rw[zq,hn]
 obtain⟨b,m,k1,k2,k3,k4⟩:=a7U (l:=swp l 0 n) (n:=n) (i:=0) (by omega) (by omega) (by omega) (XE h (by omega))
 rw[k1,o7]
 have hml:=Oa k3
 have hmn:m.length=n+1:=by omega
 have hlast:hg m n=hg l 0:=by
  have e1:(m.drop n)[0]? =((swp l 0 n).drop n)[0]?:=by rw[k4]
  rw[List.getElem?_drop,List.getElem?_drop,Nat.add_zero,nP (by omega),nP (by omega)]at e1
  rw[Option.some.inj e1,Si (by omega) (by omega),if_pos rfl]
 unfold rO
 dsimp only
 have hs2:G8 .i64 (o8 m) 1=((n:Nat):Int):=by rw[show o8 m=((m.length:Nat):Int)from rfl,hmn,H8 (by unfold I64;omega)];omega
 rw[hs2,a1C (by omega),o7,show L8 m (toN (n:Int))=some (hg m n)from nP (i:=n) (by omega),o7,show jG 0 (n:Int) (o8 m)=true by simp[jG,o8];omega,o5,show gQ m (toN 0) (toN (n:Int))=m.take n by simp[gQ,toN],hlast]
 refine⟨m.take n,rfl,?_,?_⟩
 ·have:(m.take n).length=n:=by simp;omega
  rw[this]
  intro k k0 k1'
  have hga:∀i,i<n→hg (m.take n) i=hg m i:=fun i hi=>by unfold hg;rw[jZ,jZ,List.getElem?_take_of_lt hi]
  rw[hga k k1',hga _ (by omega)]
  exact k2 k k0 k1'
 ·have hcat:m.take n++[hg l 0]=m:=by
   rw[←hlast]
   have e:m.drop n=[hg m n]:=by
    apply List.ext_getElem?
    intro i
    rw[List.getElem?_drop]
    cases i with
    | zero=>rw[Nat.add_zero,nP (by omega)];rfl
    | succ i=>rw[List.getElem?_eq_none (by omega)];rfl
   rw[←e,List.take_append_drop]
  rw[hcat]
  exact k3.trans (BK (by omega) (by omega))
def lF (O:List Int) (x:Int):Bool:=O.any fun y=>ieq y x
theorem kZ {O:List Int} {x:Int} :lF O x=true↔x∈O:=by
 unfold lF
 rw[List.any_eq_true]
 constructor
 ·rintro⟨y,hy,h⟩;rw[I9]at h;exact h▸hy
 ·exact fun h=>⟨x,h,E9 rfl⟩
def a5l (s:x9) (d:Int) (O:List Int):Bool:=(G9 s d).all fun x=>lF O x
def okN (s:x9) (O:List Int) (d:Nat):Bool:=l7 (lF O (d:Int)) false (a5l s (d:Int) O)
def Jt (s:x9) (O:List Int) (d:Nat):Option Nat:=l7 (okN s O d) (some d) none
def DI (s:x9) (O:List Int):Option Nat:=P7 s.2.2.2.1.length (Jt s O)
theorem a4m {s:x9} {O:List Int} {d r:Nat} (h:Jt s O d=some r):r=d∧okN s O d=true:=by
 unfold Jt at h
 cases hq:okN s O d <;> rw[hq]at h
 ·cases h
 ·cases h;exact⟨rfl,rfl⟩
theorem NP {s:x9} {O:List Int} {d:Nat} (h:DI s O=some d):d<s.2.2.2.1.length∧okN s O d=true:=by
 obtain⟨i,hi,hp⟩:=bV h
 obtain⟨rfl,ho⟩:=a4m hp
 exact⟨hi,ho⟩
theorem VF {s:x9} {O:List Int} {d:Nat} (hd:d<s.2.2.2.1.length) (ho:okN s O d=true) (hn:∀j,j<d→okN s O j=false):DI s O=some d:=by
 unfold DI
 exact UU (p:=Jt s O) (List.findSome?_eq_none_iff.2 fun j hj=>by unfold Jt;rw[hn j (List.mem_range.1 hj)];rfl) (by unfold Jt;rw[ho];rfl) hd
theorem XO {s:x9} {O:List Int} (hn:∀j,j<s.2.2.2.1.length→okN s O j=false):DI s O=none:=by
 unfold DI P7
 exact List.findSome?_eq_none_iff.2 fun j hj=>by unfold Jt;rw[hn j (List.mem_range.1 hj)];rfl
def NV (s:x9):Nat→List Int→List Int⊕(List Int×Int)
 | 0,O=> .inl O
 | k+1,O=>if O.length<s.2.2.2.1.length then(match DI s O with | none=> .inr ([],9) | some d=>NV s k (O++[(d:Int)]))else .inl O
def gp (s:x9):List Int×Int:=match NV s 100 []with | .inl O=>(O,0) | .inr x=>x
def fF (s:x9) (e:Int) (i:Nat):List Nat:=onL (fun d=>decide (e∈G9 s (d:Int))) i
def Fz (s:x9) (O:List Int) (d:Int):List Int:=(G9 s d).filter fun x=> !lF O x
def hw (W:List Int) (d:Int):Int:=W.getD d.toNat 0
theorem a3K {W:List Int} {d:Int} (h0:0≤d) (h:d<o8 W):lat W d=some (hw W d)∧L8 W (toN d)=some (hw W d):=by
 have:=KI h0 h
 refine⟨this,?_⟩
 unfold lat at this;rw[if_pos h0]at this;exact this
theorem a3L {W:List Int} {d:Int} (h0:0≤d) (h:d<o8 W) (v x:Int) (hx:0≤x):hw (U5 W (toN d) v) x=if x=d then v else hw W x:=by
 unfold hw
 have hl:d.toNat<W.length:=by simp only[o8]at h;omega
 show(W.set d.toNat v).getD x.toNat 0=_
 rw[jZ,jZ,List.getElem?_set]
 by_cases hq:x=d
 ·subst hq;rw[if_pos rfl,if_pos hl,if_pos rfl];rfl
 ·rw[if_neg (by omega),if_neg hq]
theorem Nq (W:List Int) (i:Nat) (v:Int):(U5 W i v).length=W.length:=by show(W.set i v).length=_;simp
theorem Iu {l:List Int} {n:Nat} (hd:l.Nodup) (hr:∀x∈l,0≤x∧x<(n:Int)):l.length≤n:=by
 have hp:=vk l
 have hs:=uA l
 have hnd:(xQ l).Nodup:=hp.nodup_iff.2 hd
 have hsi:SI (xQ l):=by
  have:=List.Pairwise.and hs hnd
  exact this.imp fun {a b} ⟨h1,h2⟩=>by omega
 have:=OL n hsi fun x hx=>hr x (hp.mem_iff.1 hx)
 rw[hp.length_eq]at this;exact this
theorem UN {l:List Int} (h:SI l) {O:List Int} {m:Int} (hm:m∉O):((l.filter fun x=> !lF (O++[m]) x).length:Int)=((l.filter fun x=> !lF O x).length:Int) -(if m∈l then 1 else 0):=by
 have hh:∀x,lF (O++[m]) x=(lF O x || ieq m x):=fun x=>by unfold lF;rw[List.any_append];simp
 induction l with
 | nil=>simp
 | cons a l ih=>
  have h' :=List.pairwise_cons.1 h
  have ih' :=ih h'.2
  rw[List.filter_cons,List.filter_cons,hh]
  by_cases hma:m=a
  ·subst hma
   have hno:m∉l:=fun hx=>by have:=h'.1 m hx;omega
   rw[if_neg hno]at ih'
   have h1:lF O m=false:=by
    cases hq:lF O m
    ·rfl
    ·exact absurd (kZ.1 hq) hm
   have hA:(!(lF O m || ieq m m))=false:=by rw[E9 rfl];simp
   have hB:(!lF O m)=true:=by rw[h1];rfl
   rw[hA,hB,if_pos (show m∈m::l by simp)]
   simp only[Bool.false_eq_true,if_false,if_true,List.length_cons];omega
  ·rw[D8 hma,Bool.or_false]
   have:(if m∈a::l then(1:Int)else 0)=if m∈l then 1 else 0:=by simp[hma]
   rw[this]
   cases lF O a
   ·simp only[Bool.not_false,if_true,List.length_cons];omega
   ·simp only[Bool.not_true,Bool.false_eq_true,if_false];exact ih'
structure KInv (s:x9) (O W H:List Int):Prop where
 nd:O.Nodup
 rng:∀x∈O,0≤x∧x<nD s
 cl:∀u∈O,∀x∈G9 s u,x∈O
 wl:W.length=s.2.2.2.1.length
 w:∀d,0≤d→d<nD s→hw W d=((Fz s O d).length:Int)
 hp:zY H H.length
 hnd:H.Nodup
 hm:∀d,d∈H↔0≤d∧d<nD s∧d∉O∧hw W d=0
theorem XU {s:x9} {O:List Int} {d:Nat} :okN s O d=true↔(d:Int)∉O∧Fz s O (d:Int)=[]:=by
 unfold okN a5l Fz
 cases hq:lF O (d:Int)
 ·have h1:(d:Int)∉O:=fun h=>by rw[kZ.2 h]at hq;cases hq
  simp only[l9,List.all_eq_true,List.filter_eq_nil_iff,Bool.not_eq_true,Bool.not_eq_false']
  exact⟨fun h=>⟨h1,fun a ha=>by rw[h a ha]⟩,fun h a ha=>h.2 a ha⟩
 ·have h1:=kZ.1 hq
  simp only[o5]
  exact⟨fun h=>(by cases h),fun h=>absurd h1 h.1⟩
theorem KInv.ready {s:x9} {O W H:List Int} (h:KInv s O W H) {d:Nat} (hd:d<s.2.2.2.1.length):okN s O d=true↔(d:Int)∈H:=by
 have hn:nD s=((s.2.2.2.1.length:Nat):Int):=rfl
 rw[XU,h.hm]
 have:=h.w (d:Int) (by omega) (by omega)
 constructor
 ·rintro⟨h1,h2⟩;exact⟨by omega,by omega,h1,by rw[this,h2];rfl⟩
 ·rintro⟨_,_,h1,h2⟩
  refine⟨h1,List.length_eq_zero_iff.1 ?_⟩
  rw[this]at h2;omega
theorem KInv.next_none {s:x9} {O W:List Int} (h:KInv s O W []):DI s O=none:=
 XO fun j hj=>by
  cases hq:okN s O j
  ·rfl
  ·have:=(h.ready hj).1 hq;cases this
theorem KInv.next_some {s:x9} {O W H:List Int} (h:KInv s O W H) (h0:0<H.length):∃m:Nat,hg H 0=(m:Int)∧DI s O=some m∧m<s.2.2.2.1.length∧O.length<s.2.2.2.1.length:=by
 have hn:nD s=((s.2.2.2.1.length:Nat):Int):=rfl
 have hmem:hg H 0∈H:=by have:=nP h0;exact dG this
 have hmm:=(h.hm _).1 hmem
 obtain⟨m,hm⟩:∃m:Nat,hg H 0=(m:Int):=⟨(hg H 0).toNat,by omega⟩
 rw[hm]at hmem hmm
 have hlt:m<s.2.2.2.1.length:=by omega
 refine⟨m,hm,VF hlt ((h.ready hlt).2 hmem) fun j hj=>?_,hlt,?_⟩
 ·cases hq:okN s O j
  ·rfl
  ·have hjH:=(h.ready (by omega)).1 hq
   obtain⟨i,hi,he⟩:=List.getElem_of_mem hjH
   have:=a3I h.hp i hi
   have e:=nP hi
   rw[Y6 hi,he]at e
   have:=Option.some.inj e
   omega
 ·have hnd:(O++[(m:Int)]).Nodup:=List.nodup_append.2 ⟨h.nd,by simp,fun a ha b hb=>by simp at hb;subst hb;intro hq;subst hq;exact hmm.2.2.1 ha⟩
  have:=Iu (n:=s.2.2.2.1.length) hnd fun x hx=>by
   rcases List.mem_append.1 hx with hx | hx
   ·exact h.rng x hx
   ·simp at hx;subst hx;omega
  simp at this;omega
structure UInv (s:x9) (W H0:List Int) (us:List Int) (W' H' :List Int):Prop where
 wl:W'.length=s.2.2.2.1.length
 w:∀d,0≤d→d<nD s→hw W' d=hw W d -(if d∈us then 1 else 0)
 hp:zY H' H'.length
 pm:∃P:List Int,H'.Perm (H0++P)∧P.Sublist us∧∀d,d∈P↔d∈us∧hw W d=1
theorem YV {s:x9} (hs:SmS s) {W H0 us:List Int} (hW:W.length=s.2.2.2.1.length) (hW2:∀d,0≤d→d<nD s→-1000≤hw W d∧hw W d≤1000) (hH:zY H0 H0.length) (hHl:H0.length≤100) (hus:SI us) (hur:∀u∈us,0≤u∧u<nD s)
  {f:List Int×List Int×Int→Option ((List Int×List Int×Int)⊕(List Int×List Int))}
  (hin:∀(i:Nat) (u:Int) (A B:List Int),us[i]? =some u→f (A,B,(i:Int))=o6 (lat A u) fun(x_8:Int)=>o6 (L8 A (toN u)) fun(x_9:Int)=>o6 (lat A u) fun(x_10:Int)=>o6 (L8 A (toN u)) fun(x_11:Int)=>
   o6 (lat (U5 A (toN u) (G8 .i64 x_9 1)) u) fun(x_12:Int)=>o6 (L8 (U5 A (toN u) (G8 .i64 x_9 1)) (toN u)) fun(x_13:Int)=>l7 (ieq x_13 0) (o6 (ah B u) fun(x_14:List Int)=>some (.inl (U5 A (toN u) (G8 .i64 x_9 1),x_14,A7 .i64 (i:Int) 1)))
    (some (.inl (U5 A (toN u) (G8 .i64 x_9 1),B,A7 .i64 (i:Int) 1))))
  (hend:∀(A B:List Int),f (A,B,(us.length:Int))=some (.inr (A,B))):∃W' H',X5 f (W,H0,0)=some (W',H')∧UInv s W H0 us W' H' :=by
 have hn:nD s=((s.2.2.2.1.length:Nat):Int):=rfl
 have hul:us.length≤14:=Ei hs hus hur
 obtain⟨e,h1,h2⟩:=aC (f:=f) (s:=(W,H0,0)) (fun x=>∃(i:Nat) (A B:List Int),x=(A,B,(i:Int))∧i≤us.length∧UInv s W H0 (us.take i) A B∧B.length≤H0.length+i) (fun e=>UInv s W H0 us e.1 e.2) (fun x=>us.length -x.2.2.toNat)
  ⟨0,W,H0,rfl,by omega,⟨hW,fun d _ _=>by simp,hH,[],by simp,by simp,fun d=>by simp⟩,by omega⟩ (by simp;omega) (by
  rintro x ⟨i,A,B,rfl,hi,hU,hBl⟩
  by_cases hlt:i<us.length
  ·left
   have e:=Y6 hlt
   generalize us[i]=u at e
   have hu:=hur u (dG e)
   have hst:us.take (i+1)=us.take i++[u]:=by rw[List.take_succ_eq_append_getElem hlt,(J7.1 e).2]
   have hnot:u∉us.take i:=fun hx=>by
    obtain⟨j,hj,hq⟩:=List.getElem_of_mem hx
    simp only[List.length_take]at hj
    have h3:=List.pairwise_iff_getElem.1 hus j i (by omega) hlt (by omega)
    rw[List.getElem_take]at hq
    have h4:=(J7.1 e).2
    omega
   have hAl:=hU.wl
   have hAu:=hU.w u hu.1 hu.2
   rw[if_neg hnot]at hAu
   have hbd:=hW2 u hu.1 hu.2
   obtain⟨q1,q2⟩:=a3K (W:=A) hu.1 (by simp only[o8];omega)
   have hsub:G8 .i64 (hw A u) 1=hw A u -1:=H8 (by unfold I64;omega)
   have hA2:∀d,0≤d→d<nD s→hw (U5 A (toN u) (hw A u -1)) d=hw W d -(if d∈us.take (i+1)then 1 else 0):=fun d d0 d1=>by
    rw[a3L hu.1 (by simp only[o8];omega) _ _ d0,hst]
    have:=hU.w d d0 d1
    by_cases hq:d=u
    ·subst hq;rw[if_pos rfl,if_pos (by simp)];omega
    ·rw[if_neg hq,this];simp[hq]
   obtain⟨q3,q4⟩:=a3K (W:=U5 A (toN u) (hw A u -1)) (d:=u) hu.1 (by simp only[o8,Nq];omega)
   have hv:hw (U5 A (toN u) (hw A u -1)) u=hw A u -1:=by rw[a3L hu.1 (by simp only[o8];omega) _ _ hu.1,if_pos rfl]
   rw[hv]at q3 q4
   obtain⟨P,p1,p2,p3⟩:=hU.pm
   rw[hin i u A B e,q1,o7,q2,o7,o7,o7,hsub,q3,o7,q4,o7,X3 (by omega)]
   by_cases hz:hw A u -1=0
   ·obtain⟨B',b1,b2,b3⟩:=Qv (l:=B) (by omega) hU.hp u
    rw[E9 hz,o5,b1,o7]
    have hB'l:B'.length=B.length+1:=by rw[b3.length_eq];simp
    refine⟨_,rfl,⟨i+1,_,_,rfl,hlt,⟨by rw[Nq];exact hAl,hA2,b2,P++[u],?_,?_,fun d=>?_⟩,by omega⟩,by simp;omega⟩
    ·rw[←List.append_assoc]
     exact b3.trans (p1.append_right [u])
    ·rw[hst];exact p2.append (List.Sublist.refl _)
    ·rw[List.mem_append,p3,hst,List.mem_append]
     constructor
     ·rintro(⟨h,h'⟩ | h)
      ·exact⟨.inl h,h'⟩
      ·simp at h;subst h;exact⟨.inr (by simp),by omega⟩
     ·rintro⟨h | h,h'⟩
      ·exact .inl ⟨h,h'⟩
      ·exact .inr h
   ·rw[D8 hz,l9]
    refine⟨_,rfl,⟨i+1,_,_,rfl,hlt,⟨by rw[Nq];exact hAl,hA2,hU.hp,P,p1,?_,fun d=>?_⟩,by omega⟩,by simp;omega⟩
    ·rw[hst];exact p2.trans (List.sublist_append_left _ _)
    ·rw[p3,hst,List.mem_append]
     constructor
     ·rintro⟨h,h'⟩;exact⟨.inl h,h'⟩
     ·rintro⟨h | h,h'⟩
      ·exact⟨h,h'⟩
      ·simp at h;subst h;omega
  ·right
   have:i=us.length:=by omega
   subst this
   rw[List.take_length]at hU
   exact⟨_,hend _ _,hU⟩)
 exact⟨e.1,e.2,h1,h2⟩
theorem zx {s:x9} {m:Int} {d:Int} :d∈castL (fF s m s.2.2.2.1.length)↔0≤d∧d<nD s∧m∈G9 s d:=by
 have hn:nD s=((s.2.2.2.1.length:Nat):Int):=rfl
 unfold castL
 rw[List.mem_map]
 constructor
 ·rintro⟨k,hk,rfl⟩
  obtain⟨h1,h2⟩:=XV _ hk
  exact⟨by omega,by omega,by simpa using h2⟩
 ·rintro⟨h1,h2,h3⟩
  refine⟨d.toNat,?_,by omega⟩
  unfold fF onL
  rw[List.mem_filter,List.mem_range]
  exact⟨by omega,by rw[Int.toNat_of_nonneg h1];simpa using h3⟩
theorem Ls {l:List Nat} (h:l.Pairwise (·< ·)):SI (castL l):=List.Pairwise.map _ (fun a b h=>by omega) h
theorem KInv.step {s:x9} {O W H:List Int} (h:KInv s O W H) (h0:0<H.length) {m:Nat} (hm:hg H 0=(m:Int)) {R:List Int} (hR:zY R R.length) (hRp:(R++[(m:Int)]).Perm H) {W' H' :List Int} (hU:UInv s W R (castL (fF s (m:Int) s.2.2.2.1.length)) W' H'):KInv s (O++[(m:Int)]) W' H' :=by
 have hn:nD s=((s.2.2.2.1.length:Nat):Int):=rfl
 have hmem:(m:Int)∈H:=by rw[←hm];have:=nP h0;exact dG this
 have hmm:=(h.hm _).1 hmem
 have hleft:Fz s O (m:Int)=[]:=by
  have:=h.w (m:Int) hmm.1 hmm.2.1
  rw[hmm.2.2.2]at this
  exact List.length_eq_zero_iff.1 (by omega)
 have hdeps:∀x∈G9 s (m:Int),x∈O:=fun x hx=>by
  have hnil:=List.filter_eq_nil_iff.1 hleft x hx
  simp only[Bool.not_eq_true,Bool.not_eq_false']at hnil
  exact kZ.1 hnil
 have hndR:(R++[(m:Int)]).Nodup:=hRp.nodup_iff.2 h.hnd
 have hmR:(m:Int)∉R:=fun hx=>by
  have:=(List.nodup_append.1 hndR).2.2 _ hx _ (List.mem_singleton.2 rfl)
  exact this rfl
 have hRm:∀d,d∈R↔d∈H∧d≠(m:Int):=fun d=>by
  rw[←hRp.mem_iff,List.mem_append,List.mem_singleton]
  constructor
  ·intro hx;exact⟨.inl hx,fun hq=>hmR (hq▸hx)⟩
  ·rintro⟨hx | hx,hq⟩
   ·exact hx
   ·exact absurd hx hq
 obtain⟨P,p1,p2,p3⟩:=hU.pm
 have huO:∀u,(m:Int)∈G9 s u→u∉O:=fun u hu hx=>hmm.2.2.1 (h.cl u hx _ hu)
 refine⟨?_,?_,?_,hU.wl,fun d d0 d1=>?_,hU.hp,?_,fun d=>?_⟩
 ·exact List.nodup_append.2 ⟨h.nd,by simp,fun a ha b hb=>by simp at hb;subst hb;intro hq;subst hq;exact hmm.2.2.1 ha⟩
 ·intro x hx
  rcases List.mem_append.1 hx with hx | hx
  ·exact h.rng x hx
  ·simp at hx;subst hx;exact⟨hmm.1,hmm.2.1⟩
 ·intro u hu x hx
  rcases List.mem_append.1 hu with hu | hu
  ·exact List.mem_append_left _ (h.cl u hu x hx)
  ·simp at hu;subst hu;exact List.mem_append_left _ (hdeps x hx)
 ·rw[hU.w d d0 d1,h.w d d0 d1]
  unfold Fz
  rw[UN (rQ s d) hmm.2.2.1]
  congr 1
  have:(d∈castL (fF s (m:Int) s.2.2.2.1.length))↔((m:Int)∈G9 s d):=by rw[zx];exact⟨fun h=>h.2.2,fun h=>⟨d0,d1,h⟩⟩
  by_cases hq:(m:Int)∈G9 s d
  ·rw[if_pos (this.2 hq),if_pos hq]
  ·rw[if_neg (fun hx=>hq (this.1 hx)),if_neg hq]
 ·rw[p1.nodup_iff]
  refine List.nodup_append.2 ⟨(List.nodup_append.1 hndR).1,?_,fun a ha b hb hq=>?_⟩
  ·have:(castL (fF s (m:Int) s.2.2.2.1.length)).Nodup:=(Ls (SN _ _)).imp fun {a b} h=>by omega
   exact p2.nodup this
  ·subst hq
   have h1:=(h.hm a).1 ((hRm a).1 ha).1
   have h2:=(p3 a).1 hb
   omega
 ·rw[p1.mem_iff,List.mem_append,hRm,p3,zx,h.hm]
  have hw' :=fun d0 d1=>hU.w d d0 d1
  have hmemU:d∈castL (fF s (m:Int) s.2.2.2.1.length)↔0≤d∧d<nD s∧(m:Int)∈G9 s d:=zx
  constructor
  ·rintro(⟨⟨d0,d1,dO,dw⟩,dm⟩ | ⟨⟨d0,d1,dd⟩,dw⟩)
   ·refine⟨d0,d1,fun hx=>?_,?_⟩
    ·rcases List.mem_append.1 hx with hx | hx
     ·exact dO hx
     ·simp at hx;exact dm hx
    ·have hnot:(m:Int)∉G9 s d:=fun hx=>by
      have h1:=h.w d d0 d1
      rw[dw]at h1
      have h2:Fz s O d=[]:=List.length_eq_zero_iff.1 (by omega)
      have h3:=List.filter_eq_nil_iff.1 h2 _ hx
      simp only[Bool.not_eq_true,Bool.not_eq_false']at h3
      exact hmm.2.2.1 (kZ.1 h3)
     rw[hw' d0 d1,dw,if_neg (fun hx=>hnot (hmemU.1 hx).2.2)];rfl
   ·refine⟨d0,d1,fun hx=>?_,?_⟩
    ·rcases List.mem_append.1 hx with hx | hx
     ·exact huO d dd hx
     ·simp at hx
      rw[hx]at dd
      exact hmm.2.2.1 (hdeps _ dd)
    ·rw[hw' d0 d1,if_pos (hmemU.2 ⟨d0,d1,dd⟩)];omega
  ·rintro⟨d0,d1,dO,dw⟩
   rw[hw' d0 d1]at dw
   have dO1:d∉O:=fun hx=>dO (List.mem_append_left _ hx)
   have dm:d≠(m:Int):=fun hx=>dO (by rw[hx];simp)
   by_cases hq:(m:Int)∈G9 s d
   ·rw[if_pos (hmemU.2 ⟨d0,d1,hq⟩)]at dw
    exact .inr ⟨⟨d0,d1,hq⟩,by omega⟩
   ·rw[if_neg (fun hx=>hq (hmemU.1 hx).2.2)]at dw
    exact .inl ⟨⟨d0,d1,dO1,by omega⟩,dm⟩
def sQ (s:x9) (i:Nat):List (List Int):=(List.range s.2.2.2.1.length).map fun(e:Nat)=>castL (fF s (e:Int) i)
theorem xI (l:List Nat):(castL l).length=l.length:=by unfold castL;rw[List.length_map]
theorem YW (s:x9) (e:Int) (i:Nat):castL (fF s e (i+1))=castL (fF s e i)++(if e∈G9 s (i:Int)then[(i:Int)]else[]):=by
 unfold fF
 rw[Be]
 by_cases h:e∈G9 s (i:Int) <;> simp[castL,h]
theorem YU {s:x9} (hs:SmS s) (i:Nat) (hi:i<s.2.2.2.1.length) {f:List (List Int)×Int→Option ((List (List Int)×Int)⊕List (List Int))}
  (hin:∀(k:Nat) (e:Int) (A:List (List Int)),(G9 s (i:Int))[k]? =some e→f (A,(k:Int))=l7 (inb e (o8 A)) (o6 (L8 A (toN e)) fun(x_7:List Int)=>o6 (dE x_7 [(i:Int)]) fun(x_8:List Int)=>l7 (inb e (o8 A)) (l7 (Et (toN e) (toN e)) (o6 (L8 A (toN e)) fun(x_9:List Int)=>some (.inl (U5 A (toN e) x_8,A7 .i64 (k:Int) 1))) none) none) none)
  (hend:∀A,f (A,((G9 s (i:Int)).length:Int))=some (.inr A)):X5 f (sQ s i,0)=some (sQ s (i+1)):=by
 have hn:nD s=((s.2.2.2.1.length:Nat):Int):=rfl
 have hdl:=LZ hs (i:Int)
 have hnd:=hs.nd
 have hsi:=rQ s (i:Int)
 refine(jB (G9 s (i:Int)) (fun(A:List (List Int)) e=>A.set e.toNat (A.getD e.toNat []++[(i:Int)])) (fun b k=>(b,k)) (fun b=>b) (fun k A=>A=(List.range s.2.2.2.1.length).map fun(e:Nat)=>castL (fF s (e:Int) i)++(if(e:Int)∈(G9 s (i:Int)).take k then[(i:Int)]else[])) (b:=sQ s i) (by omega) (by simp[sQ]) (fun k e A he hk hA=>?_) (fun A hA=>hend A)).1.trans ?_
 ·have hlt:=(J7.1 he).1
  have her:=qh (dG he)
  have hst:(G9 s (i:Int)).take (k+1)=(G9 s (i:Int)).take k++[e]:=by rw[List.take_succ_eq_append_getElem hlt,(J7.1 he).2]
  have hnot:e∉(G9 s (i:Int)).take k:=fun hx=>by
   obtain⟨j,hj,hq⟩:=List.getElem_of_mem hx
   simp only[List.length_take]at hj
   have h3:=List.pairwise_iff_getElem.1 hsi j k (by omega) hlt (by omega)
   rw[List.getElem_take]at hq
   have h4:=(J7.1 he).2
   omega
  have hlA:A.length=s.2.2.2.1.length:=by rw[hA];simp
  have hg:A[e.toNat]? =some (castL (fF s e i)):=by
   rw[hA,uB _ _ (show e.toNat<s.2.2.2.1.length by omega),Int.toNat_of_nonneg her.1,if_neg hnot,List.append_nil]
  have hul:(castL (fF s e i)).length≤i:=by rw[xI];exact yU _ _
  rw[hin k e A he,show inb e (o8 A)=true from decide_eq_true ⟨her.1,by simp only[o8];omega⟩,o5,show L8 A (toN e)=some (castL (fF s e i))from hg,o7,lh _ (by omega),o7,o5,show Et (toN e) (toN e)=true by simp[Et],o5,o7,X3 (by omega)]
  rw[show A.getD e.toNat []=castL (fF s e i) by rw[jZ,hg];rfl]
  refine⟨rfl,?_⟩
  rw[hA,KE]
  apply List.map_congr_left
  intro d hd
  rw[hst]
  by_cases hq:d=e.toNat
  ·subst hq
   rw[if_pos rfl,Int.toNat_of_nonneg her.1,if_pos (by simp)]
  ·rw[if_neg hq]
   have:(if(d:Int)∈(G9 s (i:Int)).take k++[e]then[(i:Int)]else[])=if(d:Int)∈(G9 s (i:Int)).take k then[(i:Int)]else[]:=by
    have:(d:Int)≠e:=by omega
    simp[this]
   rw[this]
 ·have h2:=(jB (G9 s (i:Int)) (fun(A:List (List Int)) e=>A.set e.toNat (A.getD e.toNat []++[(i:Int)])) (fun b k=>(b,k)) (fun b=>b) (fun k A=>A=(List.range s.2.2.2.1.length).map fun(e:Nat)=>castL (fF s (e:Int) i)++(if(e:Int)∈(G9 s (i:Int)).take k then[(i:Int)]else[])) (f:=f) (b:=sQ s i) (by omega) (by simp[sQ]) (fun k e A he hk hA=>by
   have hlt:=(J7.1 he).1
   have her:=qh (dG he)
   have hst:(G9 s (i:Int)).take (k+1)=(G9 s (i:Int)).take k++[e]:=by rw[List.take_succ_eq_append_getElem hlt,(J7.1 he).2]
   have hnot:e∉(G9 s (i:Int)).take k:=fun hx=>by
    obtain⟨j,hj,hq⟩:=List.getElem_of_mem hx
    simp only[List.length_take]at hj
    have h3:=List.pairwise_iff_getElem.1 hsi j k (by omega) hlt (by omega)
    rw[List.getElem_take]at hq
    have h4:=(J7.1 he).2
    omega
   have hlA:A.length=s.2.2.2.1.length:=by rw[hA];simp
   have hg:A[e.toNat]? =some (castL (fF s e i)):=by
    rw[hA,uB _ _ (show e.toNat<s.2.2.2.1.length by omega),Int.toNat_of_nonneg her.1,if_neg hnot,List.append_nil]
   have hul:(castL (fF s e i)).length≤i:=by rw[xI];exact yU _ _
   rw[hin k e A he,show inb e (o8 A)=true from decide_eq_true ⟨her.1,by simp only[o8];omega⟩,o5,show L8 A (toN e)=some (castL (fF s e i))from hg,o7,lh _ (by omega),o7,o5,show Et (toN e) (toN e)=true by simp[Et],o5,o7,X3 (by omega)]
   rw[show A.getD e.toNat []=castL (fF s e i) by rw[jZ,hg];rfl]
   refine⟨rfl,?_⟩
   rw[hA,KE]
   apply List.map_congr_left
   intro d hd
   rw[hst]
   by_cases hq:d=e.toNat
   ·subst hq
    rw[if_pos rfl,Int.toNat_of_nonneg her.1,if_pos (by simp)]
   ·rw[if_neg hq]
    have:(if(d:Int)∈(G9 s (i:Int)).take k++[e]then[(i:Int)]else[])=if(d:Int)∈(G9 s (i:Int)).take k then[(i:Int)]else[]:=by
     have:(d:Int)≠e:=by omega
     simp[this]
    rw[this]) (fun A hA=>hend A)).2
  rw[h2]
  unfold sQ
  apply congrArg some
  apply List.map_congr_left
  intro d hd
  rw[YW,List.take_length]
theorem a3E {α β σ:Type} {o:Option α} {x:α} {K:α→Option (σ⊕β)} {Q:σ→Prop} (h:o=some x) (hk:∃s',K x=some (.inl s')∧Q s'):∃s',o6 o K=some (.inl s')∧Q s' :=by
 rw[h];exact hk
structure IInv (s:x9) (i:Nat) (U:List (List Int)) (W H:List Int):Prop where
 u:U=sQ s i
 w:W=pd ((List.range i).map fun(d:Nat)=>((G9 s (d:Int)).length:Int)) (s.2.2.2.1.length -i)
 hp:zY H H.length
 hnd:H.Nodup
 hm:∀d,d∈H↔0≤d∧d<(i:Int)∧G9 s d=[]
 hl:H.length≤i
theorem a4G {s:x9} (hs:SmS s):iY s=some (gp s):=by
 have hn:nD s=((s.2.2.2.1.length:Nat):Int):=rfl
 have hnd:=hs.nd
 unfold iY
 rw[yl hs,o7]
 have hAl:o8 ((List.range s.2.2.2.1.length).map fun(d:Nat)=>G9 s (d:Int))=((s.2.2.2.1.length:Nat):Int):=by simp[o8]
 have hAg:∀i,i<s.2.2.2.1.length→((List.range s.2.2.2.1.length).map fun(d:Nat)=>G9 s (d:Int))[i]? =some (G9 s (i:Int)):=fun i hi=>uB _ _ hi
 generalize (List.range s.2.2.2.1.length).map (fun(d:Nat)=>G9 s (d:Int))=A at*
 rw[hAl,show jH ((s.2.2.2.1.length:Nat):Int) ([]:List Int)=some (sQ s 0) by
  unfold jH sQ fF onL castL;rw[if_pos (by omega)];simp[List.map_const'],o7,show jH ((s.2.2.2.1.length:Nat):Int) (0:Int)=some (pd ((List.range 0).map fun(d:Nat)=>((G9 s (d:Int)).length:Int)) (s.2.2.2.1.length -0)) by
  unfold jH pd;rw[if_pos (by omega)];simp,o7]
 obtain⟨e,k1,k2⟩:=aC (f:=fun(x_3:List (List Int)×List Int×List Int×Int)=>l7 (ilt x_3.2.2.2 ((s.2.2.2.1.length:Nat):Int)) (o6 (lat A x_3.2.2.2) fun(x:List Int)=>o6 (lat x_3.2.1 x_3.2.2.2) fun(x_4:Int)=>o6 (L8 x_3.2.1 (toN x_3.2.2.2)) fun(x_5:Int)=>
   o6 (X5 (fun(x_6:List (List Int)×Int)=>l7 (ilt x_6.2 (o8 x)) (o6 (lat x x_6.2) fun(x:Int)=>l7 (inb x (o8 x_6.1)) (o6 (L8 x_6.1 (toN x)) fun(x_7:List Int)=>o6 (dE x_7 [x_3.2.2.2]) fun(x_8:List Int)=>l7 (inb x (o8 x_6.1)) (l7 (Et (toN x) (toN x)) (o6 (L8 x_6.1 (toN x)) fun(x_9:List Int)=>some (.inl (U5 x_6.1 (toN x) x_8,A7 .i64 x_6.2 1))) none) none) none) (some (.inr x_6.1))) (x_3.1,0)) fun(y:List (List Int))=>
   l7 (ieq (o8 x) 0) (o6 (ah x_3.2.2.1 x_3.2.2.2) fun(x_6:List Int)=>some (.inl (y,U5 x_3.2.1 (toN x_3.2.2.2) (o8 x),x_6,A7 .i64 x_3.2.2.2 1))) (some (.inl (y,U5 x_3.2.1 (toN x_3.2.2.2) (o8 x),x_3.2.2.1,A7 .i64 x_3.2.2.2 1)))) (some (.inr (x_3.1,x_3.2.1,x_3.2.2.1))))
  (s:=(sQ s 0,pd ((List.range 0).map fun(d:Nat)=>((G9 s (d:Int)).length:Int)) (s.2.2.2.1.length -0),[],0)) (fun x=>∃(i:Nat) (U:List (List Int)) (W H:List Int),x=(U,W,H,(i:Int))∧i≤s.2.2.2.1.length∧IInv s i U W H) (fun y=>IInv s s.2.2.2.1.length y.1 y.2.1 y.2.2) (fun x=>s.2.2.2.1.length -x.2.2.2.toNat)
  ⟨0,_,_,_,rfl,by omega,rfl,rfl,fun k k0 k1=>by simp at k1,by simp,fun d=>by simp;omega,by simp⟩ (by simp;omega) (by
  rintro x ⟨i,U,W,H,rfl,hi,hI⟩
  by_cases hlt:i<s.2.2.2.1.length
  ·left
   obtain⟨m,hm⟩:∃m,s.2.2.2.1.length -i=m+1:=⟨s.2.2.2.1.length -i -1,by omega⟩
   have hlen:((List.range i).map fun(d:Nat)=>((G9 s (d:Int)).length:Int)).length=i:=by simp
   have q1:=Td ((List.range i).map fun(d:Nat)=>((G9 s (d:Int)).length:Int)) m
   have q2:=Tf ((List.range i).map fun(d:Nat)=>((G9 s (d:Int)).length:Int)) m
   have q3:=Yc ((List.range i).map fun(d:Nat)=>((G9 s (d:Int)).length:Int)) m (o8 (G9 s (i:Int)))
   rw[hlen]at q1 q2 q3
   have hW:=hI.w
   rw[hm]at hW
   have hl14:=hI.hl
   have hus:=YU hs i hlt (f:=fun(x_6:List (List Int)×Int)=>l7 (ilt x_6.2 (o8 (G9 s (i:Int)))) (o6 (lat (G9 s (i:Int)) x_6.2) fun(x:Int)=>l7 (inb x (o8 x_6.1)) (o6 (L8 x_6.1 (toN x)) fun(x_7:List Int)=>o6 (dE x_7 [(i:Int)]) fun(x_8:List Int)=>l7 (inb x (o8 x_6.1)) (l7 (Et (toN x) (toN x)) (o6 (L8 x_6.1 (toN x)) fun(x_9:List Int)=>some (.inl (U5 x_6.1 (toN x) x_8,A7 .i64 x_6.2 1))) none) none) none) (some (.inr x_6.1)))
    (fun k e A he=>by simp only[H9 he,o5,F6,he,o7]) (fun A=>by simp only[I4];rfl)
   simp only
   rw[E8 (by omega),o5,F6,hAg i hlt,o7,hW,q1,o7,q2,o7,hI.u]
   refine a3E hus ?_
   rw[q3,X3 (by omega)]
   have hwn:pd ((List.range i).map (fun(d:Nat)=>((G9 s (d:Int)).length:Int))++[o8 (G9 s (i:Int))]) m=pd ((List.range (i+1)).map fun(d:Nat)=>((G9 s (d:Int)).length:Int)) (s.2.2.2.1.length -(i+1)):=by
    rw[List.range_succ,List.map_append,show s.2.2.2.1.length -(i+1)=m by omega];rfl
   rw[hwn]
   by_cases hz:(G9 s (i:Int)).length=0
   ·obtain⟨H',b1,b2,b3⟩:=Qv (l:=H) (by omega) hI.hp (i:Int)
    have hnil:=List.length_eq_zero_iff.1 hz
    rw[E9 (by simp[o8,hz]),o5,b1,o7]
    have hni:(i:Int)∉H:=fun hx=>by have:=(hI.hm _).1 hx;omega
    refine⟨_,rfl,⟨i+1,_,_,_,rfl,hlt,rfl,rfl,b2,?_,fun d=>?_,by rw[b3.length_eq];simp;omega⟩,by simp;omega⟩
    ·rw[b3.nodup_iff]
     exact List.nodup_append.2 ⟨hI.hnd,by simp,fun a ha b hb=>by simp at hb;subst hb;intro hq;subst hq;exact hni ha⟩
    ·rw[b3.mem_iff,List.mem_append,hI.hm,List.mem_singleton]
     constructor
     ·rintro(⟨h1,h2,h3⟩ | h)
      ·exact⟨h1,by omega,h3⟩
      ·subst h;exact⟨by omega,by omega,hnil⟩
     ·rintro⟨h1,h2,h3⟩
      by_cases hq:d=(i:Int)
      ·exact .inr hq
      ·exact .inl ⟨h1,by omega,h3⟩
   ·rw[D8 (by simp only[o8];omega),l9]
    refine⟨_,rfl,⟨i+1,_,_,_,rfl,hlt,rfl,rfl,hI.hp,hI.hnd,fun d=>?_,by omega⟩,by simp;omega⟩
    rw[hI.hm]
    constructor
    ·rintro⟨h1,h2,h3⟩;exact⟨h1,by omega,h3⟩
    ·rintro⟨h1,h2,h3⟩
     refine⟨h1,?_,h3⟩
     by_cases hq:d=(i:Int)
     ·subst hq;rw[h3]at hz;exact absurd rfl hz
     ·omega
  ·right
   have:i=s.2.2.2.1.length:=by omega
   subst this
   exact⟨(U,W,H),by simp only[D9 (show((s.2.2.2.1.length:Nat):Int)≤((s.2.2.2.1.length:Nat):Int) by omega)];rfl,hI⟩)
 refine(jf k1 _).trans ?_
 obtain⟨U,W,H⟩:=e
 simp only at k2 ⊢
 have hwd:∀d,0≤d→d<nD s→hw W d=((G9 s d).length:Int):=fun d d0 d1=>by
  have hd:d.toNat<s.2.2.2.1.length:=by omega
  rw[k2.w,Nat.sub_self]
  unfold hw pd
  rw[jZ,List.replicate_zero,List.append_nil,uB _ _ hd,Int.toNat_of_nonneg d0];rfl
 have hK:KInv s [] W H:=by
  refine⟨by simp,by simp,by simp,by rw[k2.w];simp[pd],fun d d0 d1=>?_,k2.hp,k2.hnd,fun d=>?_⟩
  ·rw[hwd d d0 d1]
   have:Fz s [] d=G9 s d:=List.filter_eq_self.2 fun a _=>rfl
   rw[this]
  ·rw[k2.hm]
   constructor
   ·rintro⟨h1,h2,h3⟩;exact⟨h1,by omega,by simp,by rw[hwd d h1 (by omega),h3];rfl⟩
   ·rintro⟨h1,h2,_,h4⟩
    rw[hwd d h1 h2]at h4
    exact⟨h1,by omega,List.length_eq_zero_iff.1 (by omega)⟩
 have hU:=k2.u
 subst hU
 have hlatU:∀m:Nat,m<s.2.2.2.1.length→lat (sQ s s.2.2.2.1.length) (m:Int)=some (castL (fF s (m:Int) s.2.2.2.1.length)):=fun m hm=>by
  rw[F6];exact uB _ _ hm
 have key:∀(k j:Nat) (O W H:List Int),KInv s O W H→s.2.2.2.1.length -O.length<k→k≤j→∃y,iC (fun(x:List (List Int)×dH)=>o6 (di x.2.2.1) fun(x_3:Int)=>l7 (ilt 0 x_3) (o6 (ig x.2.2.1) fun(x_4:Int×List Int)=>o6 (dE x.2.2.2 [x_4.1]) fun(x_5:List Int)=>o6 (lat x.1 x_4.1) fun(x_6:List Int)=>
   o6 (X5 (fun(x:List Int×List Int×Int)=>l7 (ilt x.2.2 (o8 x_6)) (o6 (lat x_6 x.2.2) fun(x_7:Int)=>o6 (lat x.1 x_7) fun(x_8:Int)=>o6 (L8 x.1 (toN x_7)) fun(x_9:Int)=>o6 (lat x.1 x_7) fun(x_10:Int)=>o6 (L8 x.1 (toN x_7)) fun(x_11:Int)=>o6 (lat (U5 x.1 (toN x_7) (G8 .i64 x_9 1)) x_7) fun(x_12:Int)=>o6 (L8 (U5 x.1 (toN x_7) (G8 .i64 x_9 1)) (toN x_7)) fun(x_13:Int)=>
     l7 (ieq x_13 0) (o6 (ah x.2.1 x_7) fun(x_14:List Int)=>some (.inl (U5 x.1 (toN x_7) (G8 .i64 x_9 1),x_14,A7 .i64 x.2.2 1))) (some (.inl (U5 x.1 (toN x_7) (G8 .i64 x_9 1),x.2.1,A7 .i64 x.2.2 1)))) (some (.inr (x.1,x.2.1)))) (x.2.1,x_4.2,0)) fun(y:List Int×List Int)=>some (.inl (x.1,y.1,y.2,x_5))) (some (.inr x.2.2.2))) j (sQ s s.2.2.2.1.length,W,H,O)=some y∧NV s k O=(if y.length<s.2.2.2.1.length then .inr ([],9)else .inl y):=by
  intro k
  induction k with
  | zero=>intro j O W H hK hk;omega
  | succ k ih=>
   intro j O W H hK hk hj
   obtain⟨j,rfl⟩:∃j',j=j' +1:=⟨j -1,by omega⟩
   rw[iC]
   simp only[di,o7]
   cases H with
   | nil=>
    refine⟨O,rfl,?_⟩
    unfold NV
    rw[hK.next_none]
   | cons h0 H=>
    generalize hHH:h0::H=HH at*
    have hpos:0<HH.length:=by rw[←hHH];simp
    obtain⟨m,hm1,hm2,hm3,hm4⟩:=hK.next_some hpos
    have hHl:HH.length≤14:=Nat.le_trans (Iu (n:=s.2.2.2.1.length) hK.hnd fun x hx=>by have:=(hK.hm x).1 hx;omega) hnd
    obtain⟨R,r1,r2,r3⟩:=a3J (l:=HH) (by omega) hK.hp hpos
    rw[hm1]at r1 r3
    have hRl:R.length≤14:=by have:=r3.length_eq;simp at this;omega
    have hOl:O.length≤14:=by omega
    obtain⟨W',H',u1,u2⟩:=YV hs (W:=W) (H0:=R) (us:=castL (fF s (m:Int) s.2.2.2.1.length)) hK.wl (fun d d0 d1=>by
      have h1:=hK.w d d0 d1
      have h2:=List.length_filter_le (fun x=> !lF O x) (G9 s d)
      have h3:=LZ hs d
      unfold Fz at h1
      omega) r2 (by omega) (Ls (SN _ _)) (fun u hu=>by have:=zx.1 hu;omega)
     (f:=fun(x:List Int×List Int×Int)=>l7 (ilt x.2.2 (o8 (castL (fF s (m:Int) s.2.2.2.1.length)))) (o6 (lat (castL (fF s (m:Int) s.2.2.2.1.length)) x.2.2) fun(x_7:Int)=>o6 (lat x.1 x_7) fun(x_8:Int)=>o6 (L8 x.1 (toN x_7)) fun(x_9:Int)=>o6 (lat x.1 x_7) fun(x_10:Int)=>o6 (L8 x.1 (toN x_7)) fun(x_11:Int)=>o6 (lat (U5 x.1 (toN x_7) (G8 .i64 x_9 1)) x_7) fun(x_12:Int)=>o6 (L8 (U5 x.1 (toN x_7) (G8 .i64 x_9 1)) (toN x_7)) fun(x_13:Int)=>
     l7 (ieq x_13 0) (o6 (ah x.2.1 x_7) fun(x_14:List Int)=>some (.inl (U5 x.1 (toN x_7) (G8 .i64 x_9 1),x_14,A7 .i64 x.2.2 1))) (some (.inl (U5 x.1 (toN x_7) (G8 .i64 x_9 1),x.2.1,A7 .i64 x.2.2 1)))) (some (.inr (x.1,x.2.1))))
     (fun i u A B hu=>by simp only[H9 hu,o5,F6 (castL (fF s (m:Int) s.2.2.2.1.length)),hu,o7]) (fun A B=>by simp only[I4];rfl)
    have hK2:=hK.step hpos hm1 r2 r3 u2
    obtain⟨y,y1,y2⟩:=ih j (O++[(m:Int)]) W' H' hK2 (by simp;omega) (by omega)
    refine⟨y,?_,?_⟩
    ·rw[E8 (show(0:Int)<o8 HH by simp only[o8];omega),o5,r1,o7,lh _ (by omega),o7,hlatU m hm3,o7,u1,o7]
     exact y1
    ·unfold NV
     rw[if_pos hm4,hm2]
     exact y2
 obtain⟨y,y1,y2⟩:=key 100 dN [] W H hK (by simp;omega) (by unfold dN;omega)
 refine(jf y1 _).trans ?_
 unfold gp
 rw[y2]
 by_cases hl:y.length<s.2.2.2.1.length
 ·rw[if_pos hl,E8 (by simp only[o8];omega)];rfl
 ·rw[if_neg hl,D9 (by simp only[o8];omega)];rfl
end Go.GP
namespace Gt
open Go Go.GP
def il (y:Int):Bool:=if y % 4=0 then(if y % 100≠0 then true else decide (y % 400=0))else false
def ys (y:Int):Int:=(y -1900)*365+((y -1) / 4 -(y -1) / 100+(y -1) / 400) -460
def diy (y:Int):Int:=if il y then 366 else 365
theorem xq (y:Int):ys (y+1)=ys y+diy y:=by
 unfold ys diy il
 by_cases h4:y % 4=0 <;> by_cases h100:y % 100=0 <;> by_cases h400:y % 400=0 <;> simp[h4,h100,h400] <;> omega
theorem Dn (a b:Int):a<b∨b≤a:=by omega
theorem Hw (y:Int):365≤diy y∧diy y≤366:=by unfold diy;split <;> omega
theorem jo {y y' :Int} (h:y≤y'):ys y≤ys y' :=by
 obtain⟨n,rfl⟩:∃n:Nat,y' =y+n:=⟨(y' -y).toNat,by omega⟩
 clear h
 induction n with
 | zero=>simp
 | succ n ih=>
  have:=xq (y+n)
  have:=Hw (y+n)
  have e:y+((n+1:Nat):Int)=y+n+1:=by omega
  rw[e];omega
theorem Dl {y:Int} (h:1900≤y):0≤ys y:=by
 have:=jo h
 have e:ys 1900=0:=by decide+kernel
 omega
theorem a2G {y y' d:Int} (h1:ys y≤d) (h2:d<ys (y+1)) (h3:ys y' ≤d) (h4:d<ys (y' +1)):y=y' :=by
 rcases Int.lt_trichotomy y y' with h | h | h
 ·have:=jo (y:=y+1) (y' :=y') (by omega);omega
 ·exact h
 ·have:=jo (y:=y' +1) (y' :=y) (by omega);omega
def dim (y m:Int):Int:=
 if m=2 then(if il y then 29 else 28)else if m=4∨m=6∨m=9∨m=11 then 30 else 31
theorem rP (y m:Int):28≤dim y m∧dim y m≤31:=by
 unfold dim;repeat' split
 all_goals omega
theorem Ak {y:Int} (h:0≤y):wH y=some (il y):=by
 unfold wH il
 simp only[oJ h]
 by_cases h4:y % 4=0
 ·rw[ut (E9 h4),if_pos h4]
  by_cases h100:y % 100=0
  ·simp[ieq,h100]
  ·simp[ieq,h100]
 ·rw[yw (D8 h4),if_neg h4]
theorem zN {y:Int} (h:0≤y):c7N y=some (il y):=Ak h
theorem uo {y:Int} (h:0≤y):c6U y=some (diy y):=by
 unfold c6U diy
 rw[zN h,o7]
 cases il y <;> rfl
theorem m12 {m:Int} (h:1≤m∧m≤12):m=1∨m=2∨m=3∨m=4∨m=5∨m=6∨m=7∨m=8∨m=9∨m=10∨m=11∨m=12:=by omega
theorem jJ {y m:Int} (h:0≤y) (hm:1≤m∧m≤12):aZ y m=some (dim y m):=by
 unfold aZ
 rcases m12 hm with rfl | rfl | rfl | rfl | rfl | rfl | rfl | rfl | rfl | rfl | rfl | rfl
 all_goals first | rfl | (rw[Ak h];unfold dim;cases il y <;> rfl)
theorem jh {y m:Int} (h:0≤y) (hm:1≤m∧m≤12):c6L y m=some (dim y m):=by
 unfold c6L
 rcases m12 hm with rfl | rfl | rfl | rfl | rfl | rfl | rfl | rfl | rfl | rfl | rfl | rfl
 all_goals first | rfl | (rw[zN h];unfold dim;cases il y <;> rfl)
theorem wI {y:Int} (h:0≤y) (h2:y≤1000000):mg y=some (y / 4 -y / 100+y / 400):=by
 unfold mg
 simp only[aN,bu h]
 rw[dM (by unfold I64;omega),dM (by unfold I64;omega),dM (by unfold I64;omega),H8 (by unfold I64;omega),J5 (by unfold I64;omega)]
theorem qF {y:Int} (h:1≤y) (h2:y≤1000000):ik y=some (ys y):=by
 unfold ik
 have e1:G8 .i64 y 1900=y -1900:=H8 (by unfold I64;omega)
 have e2:W9 .i64 (y -1900) 365=(y -1900)*365:=dI (by unfold I64;omega)
 rw[H8 (a:=y) (b:=1) (by unfold I64;omega),wI (by omega) (by omega),o7,wI (by omega) (by omega),o7,e1,e2,J5 (by unfold I64;omega),H8 (by unfold I64;omega)]
 unfold ys
 congr 1
def mo (y:Int):Nat→Int→Int×Int
 | 0,d=>(d,13)
 | n+1,d=>if d<dim y (12 -n)then(d,12 -n)else mo y n (d -dim y (12 -n))
theorem ZX (y:Int) (n:Nat) (d:Int):mo y (n+1) d=if d<dim y (12 -(n:Int))then(d,12 -(n:Int))else mo y n (d -dim y (12 -(n:Int))):=rfl
def rem (y:Int):Nat→Int
 | 0=>0
 | n+1=>dim y (12 -n)+rem y n
theorem a5q (y:Int):rem y 12=diy y:=by
 unfold diy
 cases h:il y <;> simp[rem,dim,h]
theorem a4i (y:Int):∀(n:Nat) (d:Int),n≤12→0≤d→d<rem y n→1≤(mo y n d).2∧(mo y n d).2≤12∧0≤(mo y n d).1∧(mo y n d).1<dim y (mo y n d).2
 | 0,d,_,h0,h=>by simp[rem]at h;omega
 | n+1,d,hn,h0,h=>by
  unfold mo
  by_cases hd:d<dim y (12 -n)
  ·rw[if_pos hd];refine⟨?_,?_,h0,hd⟩ <;> simp <;> omega
  ·rw[if_neg hd]
   refine a4i y n _ (by omega) (by omega) ?_
   simp only[rem]at h;omega
def yOf (d:Int):Int:=((((List.range 300).find? (fun(k:Nat)=>decide (d<ys (1900+(k:Int)+1)))).getD 0:Nat):Int)+1900
theorem GU {d:Int} (h0:0≤d) (h:d≤109572):1900≤yOf d∧yOf d≤2199∧ys (yOf d)≤d∧d<ys (yOf d+1):=by
 unfold yOf
 cases hf:(List.range 300).find? (fun(k:Nat)=>decide (d<ys (1900+(k:Int)+1)))with
 | none=>
  have:=List.find?_eq_none.1 hf 299 (by simp)
  simp only[decide_eq_true_eq]at this
  have e:ys (1900+(299:Nat)+1)=109573:=by decide+kernel
  omega
 | some k=>
  have h1:=List.find?_some hf
  simp only[decide_eq_true_eq]at h1
  have h2:=List.mem_of_find?_eq_some hf
  simp only[List.mem_range]at h2
  simp only[Option.getD_some]
  refine⟨by omega,by omega,?_,?_⟩
  ·cases k with
   | zero=>
    have e:ys 1900=0:=by decide+kernel
    simp[e,h0]
   | succ j=>
    have h3:=List.find?_range_eq_some.1 hf
    have h4:=h3.2.2 j (by omega)
    simp only[Bool.not_eq_true',decide_eq_false_iff_not,Int.not_lt]at h4
    have e:(((j+1:Nat):Int)+1900)=1900+(j:Int)+1:=by omega
    rw[e];exact h4
  ·have e:(k:Int)+1900+1=1900+k+1:=by omega
   rw[e];exact h1
def ymd (d:Int):Int×Int×Int:=let y:=yOf d;let r:=mo y 12 (d -ys y);(y,r.2,r.1+1)
theorem sS {d:Int} (h0:0≤d) (h:d≤109572):mf d=some (ymd d):=by
 obtain⟨y1,y2,y3,y4⟩:=GU h0 h
 have y0:=Dl y1
 unfold mf mi
 rw[ut (F7 h0),o7,F7 h,o9,l9]
 have e0:A7 .i64 1900 (aN .i64 d 366)=1900+d / 366:=by
  have e:aN .i64 d 366=d / 366:=by rw[qN (by rw[bu h0];unfold I64;omega),bu h0]
  rw[e,J5 (by unfold I64;omega)]
 rw[e0]
 obtain⟨y,hy,hq⟩:=aC (f:=fun(x:Int)=>o6 (ik (A7 IntKind.i64 x 1)) fun(x_1:Int)=>l7 (ile x_1 d) (some (Sum.inl (A7 IntKind.i64 x 1))) (some (Sum.inr x))) (s:=1900+d / 366)
  (fun y=>1900≤y∧y≤yOf d) (fun y=>y=yOf d) (fun y=>(2200 -y).toNat) (by
   refine⟨by omega,?_⟩
   have e:∀n:Nat,ys (1900+n)≤366*n:=by
    intro n
    induction n with
    | zero=>decide+kernel
    | succ n ih=>
     have:=xq (1900+n)
     have:=Hw (1900+n)
     have e:(1900:Int)+((n+1:Nat):Int)=1900+n+1:=by omega
     rw[e];omega
   have e1:=e (d / 366).toNat
   have e2:((d / 366).toNat:Int)=d / 366:=by omega
   rw[e2]at e1
   rcases Dn (yOf d) (1900+d / 366)with hlt | hge
   ·have:=jo (y:=yOf d+1) (y' :=1900+d / 366) (by omega)
    omega
   ·exact hge) (by omega) (by
   intro y ⟨hy1,hy2⟩
   try simp only
   rw[J5 (by unfold I64;omega),qF (by omega) (by omega),o7]
   by_cases hle:ys (y+1)≤d
   ·refine .inl ⟨y+1,by rw[ut (F7 hle)],⟨by omega,?_⟩,by omega⟩
    rcases Dn (yOf d) (y+1)with hlt | hge
    ·have:=jo (y:=yOf d+1) (y' :=y+1) (by omega)
     omega
    ·exact hge
   ·refine .inr ⟨y,by rw[yw (F9 (by omega))],?_⟩
    rcases Dn y (yOf d)with hlt | hge
    ·have:=jo (y:=y+1) (y' :=yOf d) (by omega)
     omega
    ·omega)
 rw[hy,o7,hq,qF (by omega) (by omega),o7,H8 (by unfold I64;omega)]
 have hs:=xq (yOf d)
 have hr:=a5q (yOf d)
 rcases vC (f:=fun(x:Int×Int)=>l7 (ilt x.2 12) (o6 (aZ (yOf d) (A7 IntKind.i64 x.2 1)) fun(x_1:Int)=>l7 (ilt x.1 x_1) (some (Out.rt (yOf d,A7 IntKind.i64 x.2 1,A7 IntKind.i64 x.1 1))) (some (Out.nx (G8 IntKind.i64 x.1 x_1,A7 IntKind.i64 x.2 1)))) (some (Out.ex PUnit.unit))) (s:=(d -ys (yOf d),0))
  (fun s=>∃n:Nat,n≤12∧s.2=12 -n∧mo (yOf d) n s.1=mo (yOf d) 12 (d -ys (yOf d))∧0≤s.1∧s.1<rem (yOf d) n∧s.1≤400) (fun _=>False) (fun r=>r=ymd d) (fun s=>(12 -s.2).toNat)
  ⟨12,by omega,by simp,rfl,by omega,by rw[hr];show d -ys (yOf d)<_;omega,by have:=Hw (yOf d);show d -ys (yOf d)≤400;omega⟩ (by simp) (by
   rintro⟨r,i⟩ ⟨n,hn,hi,hm,hr0,hrn,hr4⟩
   simp only at hi hm hr0 hrn hr4 ⊢
   cases n with
   | zero=>simp[rem]at hrn;omega
   | succ n=>
    have ei:i+1=12 -n:=by omega
    rw[ut (E8 (by omega)),J5 (by unfold I64;omega),ei,jJ (by omega) (by omega),o7]
    have hb:=rP (yOf d) (12 -n)
    rw[ZX (yOf d) n r]at hm
    by_cases hlt:r<dim (yOf d) (12 -n)
    ·rw[if_pos hlt]at hm
     refine .inr (.inr ⟨_,by rw[ut (E8 hlt)],?_⟩)
     rw[J5 (by unfold I64;omega)]
     unfold ymd
     try simp only
     rw[←hm]
    ·rw[if_neg hlt]at hm
     refine .inl ⟨_,by rw[yw (D9 (by omega)),H8 (by unfold I64;omega)],⟨n,by omega,by simp,hm,?_,?_,?_⟩,?_⟩
     ·simp;omega
     ·simp only[rem]at hrn ⊢;omega
     ·simp;omega
     ·simp;omega)with⟨_,_,hf⟩ | ⟨r,he,hr⟩
 ·exact hf.elim
 ·rw[he,o7,G5,hr]
theorem Bi {d:Int} (h0:0≤d) (h:d≤109572):c7A d=some (ymd d):=by
 obtain⟨y1,y2,y3,y4⟩:=GU h0 h
 have y0:=Dl y1
 unfold c7A c7j
 rw[ut (F7 h0),o7,F7 h,o9,l9]
 obtain⟨⟨r,y⟩,hy,hq⟩:=aC (f:=fun(x:Int×Int)=>o6 (c6U x.2) fun(x_1:Int)=>l7 (ile x_1 x.1) (o6 (c6U x.2) fun(x_2:Int)=>some (Sum.inl (G8 IntKind.i64 x.1 x_2,A7 IntKind.i64 x.2 1))) (some (Sum.inr x))) (s:=(d,1900))
  (fun s=>1900≤s.2∧s.2≤yOf d∧s.1=d -ys s.2) (fun s=>s=(d -ys (yOf d),yOf d)) (fun s=>(2200 -s.2).toNat)
  ⟨by simp,by simpa using y1,by(have e:ys 1900=0:=by decide+kernel);simp[e]⟩ (by simp) (by
   rintro⟨r,y⟩ ⟨h1,h2,h3⟩
   simp only at h1 h2 h3 ⊢
   have hb:=Hw y
   have hs:=xq y
   have hm:=jo h2
   have hpos:0≤ys y:=by
     have:=jo (y:=1900) (y' :=y) h1;have e:ys 1900=0:=by decide+kernel
     omega
   rw[uo (by omega),o7]
   by_cases hle:diy y≤r
   ·refine .inl ⟨(r -diy y,y+1),?_,⟨by simp;omega,?_,?_⟩,?_⟩
    ·rw[ut (F7 hle),o7,H8 (by unfold I64;omega),J5 (by unfold I64;omega)]
    ·simp only
     rcases Dn (yOf d) (y+1)with hlt | hge
     ·have:=jo (y:=yOf d+1) (y' :=y+1) (by omega)
      omega
     ·exact hge
    ·simp only;omega
    ·simp;omega
   ·refine .inr ⟨_,by rw[yw (F9 (by omega))],?_⟩
    have e:y=yOf d:=a2G (d:=d) (by omega) (by omega) y3 y4
    subst e
    rw[h3])
 rw[hy,o7,hq]
 try simp only
 have hs:=xq (yOf d)
 have hr:=a5q (yOf d)
 obtain⟨⟨r,m⟩,he,hq2⟩:=aC (f:=fun(x:Int×Int)=>o6 (c6L (yOf d) x.2) fun(x_1:Int)=>l7 (ile x_1 x.1) (o6 (c6L (yOf d) x.2) fun(x_2:Int)=>some (Sum.inl (G8 IntKind.i64 x.1 x_2,A7 IntKind.i64 x.2 1))) (some (Sum.inr x))) (s:=(d -ys (yOf d),1))
  (fun s=>∃n:Nat,n≤12∧s.2=13 -n∧mo (yOf d) n s.1=mo (yOf d) 12 (d -ys (yOf d))∧0≤s.1∧s.1<rem (yOf d) n∧s.1≤400) (fun s=>s=mo (yOf d) 12 (d -ys (yOf d))) (fun s=>(13 -s.2).toNat)
  ⟨12,by omega,by simp,rfl,by omega,by rw[hr];show d -ys (yOf d)<_;omega,by have:=Hw (yOf d);show d -ys (yOf d)≤400;omega⟩ (by simp) (by
   rintro⟨r,i⟩ ⟨n,hn,hi,hm,hr0,hrn,hr4⟩
   simp only at hi hm hr0 hrn hr4 ⊢
   cases n with
   | zero=>simp[rem]at hrn;omega
   | succ n=>
    have ei:i=12 -n:=by omega
    subst ei
    rw[jh (by omega) (by omega),o7]
    have hb:=rP (yOf d) (12 -n)
    rw[ZX (yOf d) n r]at hm
    by_cases hlt:r<dim (yOf d) (12 -n)
    ·rw[if_pos hlt]at hm
     exact .inr ⟨_,by rw[yw (F9 (by omega))],hm⟩
    ·rw[if_neg hlt]at hm
     refine .inl ⟨(r -dim (yOf d) (12 -n),12 -n+1),by rw[ut (F7 (by omega)),o7,H8 (by unfold I64;omega),J5 (by unfold I64;omega)],⟨n,by omega,by simp;omega,hm,?_,?_,?_⟩,?_⟩
     ·simp;omega
     ·simp only[rem]at hrn ⊢;omega
     ·simp;omega
     ·simp;omega)
 rw[he,o7,hq2]
 have hb:=a4i (yOf d) 12 (d -ys (yOf d)) (by omega) (by omega) (by rw[hr];omega)
 have hb2:=rP (yOf d) (mo (yOf d) 12 (d -ys (yOf d))).2
 rw[J5 (by unfold I64;omega)]
 rfl
theorem BQ {d:Int} (h0:0≤d) (h:d≤109572):1900≤(ymd d).1∧(ymd d).1≤2199∧1≤(ymd d).2.1∧(ymd d).2.1≤12∧1≤(ymd d).2.2∧(ymd d).2.2≤31:=by
 obtain⟨y1,y2,y3,y4⟩:=GU h0 h
 have y0:=Dl y1
 have hs:=xq (yOf d)
 have hb:=a4i (yOf d) 12 (d -ys (yOf d)) (by omega) (by omega) (by rw[a5q];omega)
 have hb2:=rP (yOf d) (mo (yOf d) 12 (d -ys (yOf d))).2
 unfold ymd
 try simp only
 omega
end Gt
namespace Go.GP
open Gt
set_option maxRecDepth 100000
def kR (y:Int):Nat→Int
 | 0=>0
 | k+1=>kR y k+dim y ((k:Int)+1)
def UF (y m d:Int):Int:=ys y+kR y (m -1).toNat+d -1
theorem FH (y:Int):∀k:Nat,k≤12→28*k≤kR y k∧kR y k≤31*k
 | 0,_=>by simp[kR]
 | k+1,h=>by
  have:=FH y k (by omega)
  have:=rP y ((k:Int)+1)
  unfold kR;omega
theorem a1Q (y:Int):kR y 12=diy y:=by
 unfold kR kR kR kR kR kR kR kR kR kR kR kR kR dim diy
 simp
 cases il y <;> simp
theorem ZY (y:Int):∀j k:Nat,j≤k→kR y j≤kR y k
 | j,0,h=>by
   have:j=0:=by omega
   subst this;omega
 | j,k+1,h=>by
  by_cases hq:j=k+1
  ·subst hq;omega
  ·have:=ZY y j k (by omega)
   have:=rP y ((k:Int)+1)
   show kR y j≤kR y k+dim y ((k:Int)+1)
   omega
theorem a7T {y m d:Int} (hm:1≤m∧m≤12) (h1:1≤d) (h2:d≤dim y m):ys y≤UF y m d∧UF y m d<ys (y+1):=by
 have h3:=ZY y ((m -1).toNat+1) 12 (by omega)
 rw[a1Q]at h3
 have h4:kR y ((m -1).toNat+1)=kR y (m -1).toNat+dim y m:=by
  show kR y (m -1).toNat+dim y (((m -1).toNat:Int)+1)=_
  rw[Int.toNat_of_nonneg (by omega)]
  congr 2;omega
 have h5:=FH y (m -1).toNat (by omega)
 have h6:=xq y
 unfold UF
 omega
theorem a7p {y:Int} (h:1900≤y) (h2:y≤2200):0≤ys y∧ys y≤109573:=by
 have h1:=Dl h
 have h3:=jo h2
 have:ys 2200=109573:=by decide
 omega
theorem Xy {y m d:Int} (hy:1900≤y∧y≤2199) (hm:1≤m∧m≤12) (h1:1≤d) (h2:d≤dim y m):uu y m d=some (UF y m d,0):=by
 have hyb:=a7p hy.1 (by omega)
 have hdb:=rP y m
 unfold uu
 rw[D9 hy.1,l9,D9 hy.2,l9,D9 hm.1,l9,D9 hm.2,l9,D9 h1,l9,jJ (by omega) hm,o7,D9 h2,l9,o7,D7,qF (by omega) (by omega),o7]
 have hs:G8 .i64 m 1=m -1:=H8 (by unfold I64;omega)
 obtain⟨e,k1,k2⟩:=aC (f:=fun(x:Int×Int)=>l7 (ilt x.2 (G8 .i64 m 1)) (o6 (aZ y (A7 .i64 x.2 1)) fun(x_1:Int)=>some (.inl (A7 .i64 x.1 x_1,A7 .i64 x.2 1))) (some (.inr x.1)))
  (s:=(ys y,0)) (fun x=>∃i:Nat,x=(ys y+kR y i,(i:Int))∧(i:Int)≤m -1) (fun e=>e=ys y+kR y (m -1).toNat) (fun x=>(m -1 -x.2).toNat) ⟨0,by simp[kR],by omega⟩ (by simp;omega) (by
  rintro x ⟨i,rfl,hi⟩
  simp only[hs]
  by_cases hlt:(i:Int)<m -1
  ·have hb:=FH y i (by omega)
   have hd:=rP y ((i:Int)+1)
   left
   refine⟨(ys y+kR y (i+1),((i+1:Nat):Int)),?_,⟨i+1,rfl,by omega⟩,by simp;omega⟩
   rw[E8 hlt,o5,X3 (by omega),show(((i+1:Nat):Int))=(i:Int)+1 by omega,jJ (by omega) (by omega),o7,J5 (by unfold I64;omega)]
   simp only[kR]
   rw[Int.add_assoc]
  ·right
   have:i=(m -1).toNat:=by omega
   subst this
   exact⟨_,by rw[D9 (by omega)];rfl,rfl⟩)
 refine(jf k1 _).trans ?_
 have hb:=FH y (m -1).toNat (by omega)
 rw[k2,J5 (by unfold I64;omega),H8 (by unfold I64;omega)];rfl
theorem VQ {y m d:Int} (hy:1900≤y∧y≤2199) (hm:1≤m∧m≤12) (h1:1≤d) (h2:d≤dim y m):c7n y m d=some (UF y m d,0):=by
 have hyb:=a7p hy.1 (by omega)
 have hdb:=rP y m
 unfold c7n
 rw[D9 hy.1,l9,D9 hy.2,l9,D9 h1,l9,jh (by omega) hm,o7,D9 h2,l9,o7,D7,H8 (by unfold I64;omega)]
 obtain⟨e,k1,k2⟩:=aC (f:=fun(x:Int×Int)=>l7 (ilt x.2 y) (o6 (c6U x.2) fun(x_1:Int)=>some (.inl (A7 .i64 x.1 x_1,A7 .i64 x.2 1))) (some (.inr x.1)))
  (s:=(d -1,1900)) (fun x=>∃i:Int,x=(d -1+ys i,i)∧1900≤i∧i≤y) (fun e=>e=d -1+ys y) (fun x=>(y -x.2).toNat) ⟨1900,by simp[show ys 1900=0 by decide],by omega,by omega⟩ (by simp;omega) (by
  rintro x ⟨i,rfl,hi,hi2⟩
  by_cases hlt:i<y
  ·left
   have hb:=a7p hi (by omega)
   have hd:=Hw i
   refine⟨(d -1+ys (i+1),i+1),?_,⟨i+1,rfl,by omega,by omega⟩,by simp;omega⟩
   simp only
   rw[E8 hlt,o5,uo (by omega),o7,J5 (by unfold I64;omega),J5 (by unfold I64;omega),xq,Int.add_assoc]
  ·right
   have:i=y:=by omega
   subst this
   exact⟨_,by simp only[D9 (show i≤i by omega)];rfl,rfl⟩)
 refine(jf k1 _).trans ?_
 subst k2
 obtain⟨e,k1,k2⟩:=aC (f:=fun(x:Int×Int)=>l7 (ilt x.2 m) (o6 (c6L y x.2) fun(x_1:Int)=>some (.inl (A7 .i64 x.1 x_1,A7 .i64 x.2 1))) (some (.inr x.1)))
  (s:=(d -1+ys y,1)) (fun x=>∃i:Nat,x=(d -1+ys y+kR y i,(i:Int)+1)∧(i:Int)≤m -1) (fun e=>e=d -1+ys y+kR y (m -1).toNat) (fun x=>(m -x.2).toNat) ⟨0,by simp[kR],by omega⟩ (by simp;omega) (by
  rintro x ⟨i,rfl,hi⟩
  by_cases hlt:(i:Int)+1<m
  ·have hb:=FH y i (by omega)
   have hd:=rP y ((i:Int)+1)
   left
   refine⟨(d -1+ys y+kR y (i+1),((i+1:Nat):Int)+1),?_,⟨i+1,rfl,by omega⟩,by simp;omega⟩
   simp only
   rw[E8 hlt,o5,jh (by omega) (by omega),o7,J5 (by unfold I64;omega),J5 (by unfold I64;omega)]
   simp only[kR]
   rw[Int.add_assoc (d -1+ys y)];simp
  ·right
   have:i=(m -1).toNat:=by omega
   subst this
   exact⟨_,by simp only[D9 (show m≤((m -1).toNat:Int)+1 by omega)];rfl,rfl⟩)
 refine(jf k1 _).trans ?_
 rw[k2];unfold UF
 rw[show d -1+ys y+kR y (m -1).toNat=ys y+kR y (m -1).toNat+d -1 by omega]
def a1h (d n:Int):Int×Int:=
 if ¬(0≤d∧d≤109572)∨n< -3600∨3600<n then(0,3)else
  if((ymd d).1 -1900)*12+(ymd d).2.1 -1+n<0∨3599<((ymd d).1 -1900)*12+(ymd d).2.1 -1+n then(0,3)else
   (UF (1900+(((ymd d).1 -1900)*12+(ymd d).2.1 -1+n) / 12) ((((ymd d).1 -1900)*12+(ymd d).2.1 -1+n) % 12+1) (kG (ymd d).2.2 (dim (1900+(((ymd d).1 -1900)*12+(ymd d).2.1 -1+n) / 12) ((((ymd d).1 -1900)*12+(ymd d).2.1 -1+n) % 12+1))),0)
theorem CO (a b:Int):kG a b=if b<a then b else a:=rfl
theorem EL (d n:Int):jS d n=some (a1h d n):=by
 unfold jS mi a1h
 by_cases h0:0≤d∧d≤109572
 case neg=>
  rw[if_pos (.inl h0)]
  by_cases h1:0≤d
  ·rw[F7 h1,F9 (by omega)];rfl
  ·rw[F9 (by omega)];rfl
 rw[F7 h0.1,F7 h0.2,o5,o7,o9,l9]
 by_cases h1:n< -3600
 ·rw[E8 h1,if_pos (.inr (.inl h1))];rfl
 by_cases h2:3600<n
 ·rw[D9 (by omega),E8 h2,if_pos (.inr (.inr h2))];rfl
 rw[D9 (by omega),D9 (by omega),if_neg (by omega),l9,l9,o7,D7,sS h0.1 h0.2,o7]
 obtain⟨b1,b2,b3,b4,b5,b6⟩:=BQ h0.1 h0.2
 generalize ymd d=q at*
 obtain⟨y,m,dd⟩:=q
 simp only at b1 b2 b3 b4 b5 b6 ⊢
 have e1:G8 .i64 y 1900=y -1900:=H8 (by unfold I64;omega)
 have e2:W9 .i64 (y -1900) 12=(y -1900)*12:=dI (by unfold I64;omega)
 have e3:A7 .i64 ((y -1900)*12) m=(y -1900)*12+m:=J5 (by unfold I64;omega)
 have e4:G8 .i64 ((y -1900)*12+m) 1=(y -1900)*12+m -1:=H8 (by unfold I64;omega)
 have e5:A7 .i64 ((y -1900)*12+m -1) n=(y -1900)*12+m -1+n:=J5 (by unfold I64;omega)
 rw[e1,e2,e3,e4,e5]
 generalize ht:(y -1900)*12+m -1+n=t
 by_cases t0:t<0
 ·rw[E8 t0,if_pos (.inl t0)];rfl
 by_cases t1:3599<t
 ·rw[D9 (by omega),E8 t1,if_pos (.inr t1)];rfl
 rw[D9 (by omega),D9 (by omega),if_neg (by omega),l9,l9]
 have e6:aN .i64 t 12=t / 12:=by rw[qN (by rw[bu (by omega)];unfold I64;omega),bu (by omega)]
 have e7:dV t 12=t % 12:=oJ (by omega)
 have e8:A7 .i64 1900 (t / 12)=1900+t / 12:=J5 (by unfold I64;omega)
 have e9:A7 .i64 (t % 12) 1=t % 12+1:=J5 (by unfold I64;omega)
 rw[e6,e7,e8,e9,jJ (by omega) (by omega),o7]
 have hd:=rP (1900+t / 12) (t % 12+1)
 rw[Xy (by omega) (by omega) (by rw[CO];split <;> omega) (by rw[CO];split <;> omega)];rfl
theorem DL (d n:Int):c6Y d n=some (a1h d n):=by
 unfold c6Y c7j a1h
 by_cases h0:0≤d∧d≤109572
 case neg=>
  rw[if_pos (.inl h0)]
  by_cases h1:0≤d
  ·rw[F7 h1,F9 (by omega)];rfl
  ·rw[F9 (by omega)];rfl
 rw[F7 h0.1,F7 h0.2,o5,o7,o9,l9]
 by_cases h1:n< -3600
 ·rw[E8 h1,if_pos (.inr (.inl h1))];rfl
 by_cases h2:3600<n
 ·rw[D9 (by omega),E8 h2,if_pos (.inr (.inr h2))];rfl
 rw[D9 (by omega),D9 (by omega),if_neg (by omega),l9,l9,o7,D7,Bi h0.1 h0.2,o7]
 obtain⟨b1,b2,b3,b4,b5,b6⟩:=BQ h0.1 h0.2
 generalize ymd d=q at*
 obtain⟨y,m,dd⟩:=q
 simp only at b1 b2 b3 b4 b5 b6 ⊢
 have e2:W9 .i64 12 y=12*y:=dI (by unfold I64;omega)
 have e3:A7 .i64 (12*y) m=12*y+m:=J5 (by unfold I64;omega)
 have e4:G8 .i64 (12*y+m) 1=12*y+m -1:=H8 (by unfold I64;omega)
 have e5:A7 .i64 (12*y+m -1) n=12*y+m -1+n:=J5 (by unfold I64;omega)
 rw[e2,e3,e4,e5]
 generalize ht:(y -1900)*12+m -1+n=t
 have hk:12*y+m -1+n=t+22800:=by omega
 rw[hk]
 have e6:aN .i64 (t+22800) 12=1900+t / 12:=by rw[qN (by rw[bu (by omega)];unfold I64;omega),bu (by omega)];omega
 have e7:dV (t+22800) 12=t % 12:=by rw[oJ (by omega)];omega
 have e9:A7 .i64 (t % 12) 1=t % 12+1:=J5 (by unfold I64;omega)
 rw[e6,e7,e9,jh (by omega) (by omega),o7]
 have hd:=rP (1900+t / 12) (t % 12+1)
 by_cases t0:t<0
 ·rw[if_pos (.inl t0)]
  unfold c7n
  rw[E8 (show 1900+t / 12<1900 by omega)];rfl
 by_cases t1:3599<t
 ·rw[if_pos (.inr t1)]
  unfold c7n
  rw[D9 (show 1900≤1900+t / 12 by omega),E8 (show 2199<1900+t / 12 by omega)];rfl
 rw[if_neg (by omega),VQ (by omega) (by omega) (by rw[CO];split <;> omega) (by rw[CO];split <;> omega)];rfl
def yrl (a k:Int):Int:=UF ((ymd a).1+k) (ymd a).2.1 (kG (ymd a).2.2 (dim ((ymd a).1+k) (ymd a).2.1))
theorem PT {a:Int} (h0:0≤a∧a≤109572) {k:Int} (hk:0≤k) (hk2:k≤300):a1h a (12*k)=if(ymd a).1+k≤2199 then(yrl a k,0)else(0,3):=by
 obtain⟨b1,b2,b3,b4,b5,b6⟩:=BQ h0.1 h0.2
 unfold a1h yrl
 rw[if_neg (by omega)]
 generalize ymd a=q at*
 obtain⟨y,m,dd⟩:=q
 simp only at b1 b2 b3 b4 b5 b6 ⊢
 have e1:1900+((y -1900)*12+m -1+12*k) / 12=y+k:=by omega
 have e2:((y -1900)*12+m -1+12*k) % 12+1=m:=by omega
 by_cases h:y+k≤2199
 ·rw[if_neg (by omega),if_pos h,e1,e2]
 ·rw[if_pos (by omega),if_neg h]
theorem a7o {a:Int} (h0:0≤a∧a≤109572) (k:Int):ys ((ymd a).1+k)≤yrl a k∧yrl a k<ys ((ymd a).1+k+1):=by
 obtain⟨b1,b2,b3,b4,b5,b6⟩:=BQ h0.1 h0.2
 have hd:=rP ((ymd a).1+k) (ymd a).2.1
 unfold yrl
 exact a7T ⟨b3,b4⟩ (by rw[CO];split <;> omega) (by rw[CO];split <;> omega)
theorem GV {a:Int} (h0:0≤a∧a≤109572):ys (ymd a).1≤a∧a<ys ((ymd a).1+1):=by
 have:=GU h0.1 h0.2
 exact⟨this.2.2.1,this.2.2.2⟩
def Ud (a b:Int):Int:=if 0≤a∧a≤109572∧0≤b∧b≤109572∧a≤b then
  (if(ymd b).1 -(ymd a).1≤0 then 0 else if yrl a ((ymd b).1 -(ymd a).1)≤b then(ymd b).1 -(ymd a).1 else(ymd b).1 -(ymd a).1 -1)else 0
theorem Ku (a b:Int):fH a b=some (Ud a b):=by
 unfold fH mi Ud
 by_cases ha0:0≤a
 case neg=>rw[F9 (by omega),if_neg (by omega)];rfl
 by_cases ha1:a≤109572
 case neg=>rw[F7 ha0,F9 (by omega),if_neg (by omega)];rfl
 rw[F7 ha0,F7 ha1,o5,o7,o9,l9]
 by_cases hb0:0≤b
 case neg=>rw[F9 (by omega),if_neg (by omega)];rfl
 by_cases hb1:b≤109572
 case neg=>rw[F7 hb0,F9 (by omega),if_neg (by omega)];rfl
 rw[F7 hb0,F7 hb1,o5,o7,o9,l9]
 by_cases hab:a≤b
 case neg=>rw[E8 (by omega),if_neg (by omega)];rfl
 rw[D9 hab,l9,if_pos ⟨ha0,ha1,hb0,hb1,hab⟩,sS ha0 ha1,o7,sS hb0 hb1,o7]
 obtain⟨p1,p2,_,_,_,_⟩:=BQ ha0 ha1
 obtain⟨q1,q2,_,_,_,_⟩:=BQ hb0 hb1
 have ya:=GV ⟨ha0,ha1⟩
 have yb:=GV ⟨hb0,hb1⟩
 have hK:0≤(ymd b).1 -(ymd a).1:=by
  rcases Dn (ymd b).1 (ymd a).1 with h | h
  ·have:=jo (show(ymd b).1+1≤(ymd a).1 by omega);omega
  ·omega
 rw[H8 (show I64 ((ymd b).1 -(ymd a).1) by unfold I64;omega)]
 have hle:(ymd a).1+((ymd b).1 -(ymd a).1)≤2199:=by omega
 generalize (ymd b).1 -(ymd a).1=K at*
 rw[dI (show I64 (12*K) by unfold I64;omega),EL,o7,PT ⟨ha0,ha1⟩ hK (by omega),if_pos hle]
 simp only[E9 (rfl:(0:Int)=0),o9,l9]
 rw[H8 (show I64 (K -1) by unfold I64;omega)]
 have im:∀x:Int,gV x 0=if x<0 then 0 else x:=fun x=>rfl
 by_cases hz:K≤0
 ·have:K=0:=by omega
  subst this
  rw[if_pos (by omega)]
  cases ilt b (yrl a 0) <;> rfl
 ·rw[if_neg hz]
  by_cases hq:yrl a K≤b
  ·rw[if_pos hq,D9 hq,l9,im,if_neg (by omega)]
  ·rw[if_neg hq,E8 (by omega),o5,im,if_neg (by omega)]
theorem IC (a b:Int):c7f a b=some (Ud a b):=by
 unfold c7f c7j Ud
 by_cases ha0:0≤a
 case neg=>rw[F9 (by omega),if_neg (by omega)];rfl
 by_cases ha1:a≤109572
 case neg=>rw[F7 ha0,F9 (by omega),if_neg (by omega)];rfl
 rw[F7 ha0,F7 ha1,o5,o7,o9,l9]
 by_cases hb0:0≤b
 case neg=>rw[F9 (by omega),if_neg (by omega)];rfl
 by_cases hb1:b≤109572
 case neg=>rw[F7 hb0,F9 (by omega),if_neg (by omega)];rfl
 rw[F7 hb0,F7 hb1,o5,o7,o9,l9]
 obtain⟨p1,p2,_,_,_,_⟩:=BQ ha0 ha1
 obtain⟨q1,q2,_,_,_,_⟩:=BQ hb0 hb1
 have ya:=GV ⟨ha0,ha1⟩
 have yb:=GV ⟨hb0,hb1⟩
 have key:=vC (f:=fun(x:Int)=>o6 (c6Y a (W9 .i64 12 (A7 .i64 x 1))) fun(x_1:Int×Int)=>l7 (E5 (ieq x_1.2 0)) (some (.rt x)) (l7 (ilt b x_1.1) (some (.rt x)) (some (.nx (A7 .i64 x 1)))))
  (s:=0) (fun x=>0≤x∧(x=0∨(x≤(ymd b).1 -(ymd a).1∧yrl a x≤b))) (fun(_:PUnit)=>False) (fun r=>r=(if a≤b then(if(ymd b).1 -(ymd a).1≤0 then 0 else if yrl a ((ymd b).1 -(ymd a).1)≤b then(ymd b).1 -(ymd a).1 else(ymd b).1 -(ymd a).1 -1)else 0)) (fun x=>(300 -x).toNat) ⟨by omega,.inl rfl⟩ (by simp) (by
  rintro x ⟨hx0,hx⟩
  have hx300:x≤299:=by omega
  rw[J5 (show I64 (x+1) by unfold I64;omega),dI (show I64 (12*(x+1)) by unfold I64;omega),DL,o7,PT ⟨ha0,ha1⟩ (by omega) (by omega)]
  have hyb:=a7o ⟨ha0,ha1⟩ (x+1)
  have hyx:=a7o ⟨ha0,ha1⟩ x
  have hmono:ys ((ymd a).1+x+1)≤ys ((ymd a).1+(x+1)):=jo (by omega)
  have hax:a<yrl a (x+1):=by
   have:=jo (show(ymd a).1+1≤(ymd a).1+(x+1) by omega)
   omega
  by_cases hq:(ymd a).1+(x+1)≤2199∧yrl a (x+1)≤b
  ·left
   obtain⟨hq1,hq2⟩:=hq
   have hK:x+1≤(ymd b).1 -(ymd a).1:=by
    rcases Dn (ymd b).1 ((ymd a).1+(x+1))with h | h
    ·have:=jo (show(ymd b).1+1≤(ymd a).1+(x+1) by omega);omega
    ·omega
   refine⟨x+1,?_,⟨by omega,.inr ⟨hK,hq2⟩⟩,by omega⟩
   rw[if_pos hq1]
   simp only[E9 (rfl:(0:Int)=0),o9,l9,D9 hq2]
  ·right;right
   refine⟨x,?_,?_⟩
   ·by_cases hq1:(ymd a).1+(x+1)≤2199
    ·rw[if_pos hq1]
     simp only[E9 (rfl:(0:Int)=0),o9,l9,E8 (show b<yrl a (x+1) by omega),o5]
    ·rw[if_neg hq1];rfl
   ·by_cases hab:a≤b
    case neg=>
     rw[if_neg hab]
     by_cases hx1:x=0
     ·exact hx1
     ·exfalso
      have:=jo (show(ymd a).1+1≤(ymd a).1+x by omega)
      omega
    rw[if_pos hab]
    have hK:0≤(ymd b).1 -(ymd a).1:=by
     rcases Dn (ymd b).1 (ymd a).1 with h | h
     ·have:=jo (show(ymd b).1+1≤(ymd a).1 by omega);omega
     ·omega
    have hxK:x≤(ymd b).1 -(ymd a).1:=by omega
    by_cases hxe:x=(ymd b).1 -(ymd a).1
    ·by_cases hz:(ymd b).1 -(ymd a).1≤0
     ·rw[if_pos hz];omega
     ·rw[if_neg hz]
      rcases hx with hx | hx
      ·omega
      ·rw[←hxe,if_pos hx.2]
    ·have hlt:x+1≤(ymd b).1 -(ymd a).1:=by omega
     rw[if_neg (by omega)]
     have hyr:(ymd a).1+(x+1)≤2199:=by omega
     have hgt:b<yrl a (x+1):=by
      have:=fun h=>hq ⟨hyr,h⟩
      omega
     have heq:x+1=(ymd b).1 -(ymd a).1:=by
      rcases Dn (x+1) ((ymd b).1 -(ymd a).1)with h | h
      ·have:=jo (show(ymd a).1+(x+1)+1≤(ymd b).1 by omega);omega
      ·omega
     rw[←heq,if_neg (by omega)];omega)
 rcases key with⟨e,_,h⟩ | ⟨r,k1,k2⟩
 ·exact h.elim
 ·refine(jf k1 _).trans ?_
  rw[k2]
  by_cases hab:a≤b
  ·rw[if_pos hab,if_pos (show 0≤a∧a≤109572∧0≤b∧b≤109572∧a≤b from⟨ha0,ha1,hb0,hb1,hab⟩)];rfl
  ·rw[if_neg hab,if_neg (by omega)];rfl
def ZN:List UInt8:=(List.range 256).map fun n=>UInt8.ofNat (if n=0 then 0 else Nat.log2 n+1)
theorem a3Y:∀n:Fin 256,∃k:Fin 9,ZN[n.val]? =some (UInt8.ofNat k.val)∧n.val<2^k.val∧(0<n.val→0<k.val∧2^(k.val -1)≤n.val):=by decide+kernel
def a1e (n:Int) (k:Nat):Prop:=n<2^k∧(0<n→0<k∧2^(k -1)≤n)
theorem a9i {n:Int} (h0:0≤n) (h:n<256):wrap .u8 n=n:=by
 unfold wrap IntKind.wrap
 simp[IntKind.signed,IntKind.bits]
 omega
theorem a8c {n:Int} (h0:0≤n) (h:n<256):∃k:Nat,k≤8∧sat ZN (wrap .u8 n)=some (k:Int)∧a1e n k:=by
 rw[a9i h0 h]
 obtain⟨k,k1,k2,k3⟩:=a3Y ⟨n.toNat,by omega⟩
 refine⟨k.val,by omega,?_,?_,fun hp=>?_⟩
 ·unfold sat
  rw[if_pos h0]
  simp only at k1
  rw[k1]
  simp
  have:=k.isLt
  omega
 ·simp only at k2
  have:((n.toNat:Nat):Int)<((2^k.val:Nat):Int):=by omega
  rw[Int.toNat_of_nonneg h0,Int.natCast_pow]at this
  exact this
 ·simp only at k3
  obtain⟨a,b⟩:=k3 (by omega)
  refine⟨a,?_⟩
  have:((2^(k.val -1):Nat):Int)≤((n.toNat:Nat):Int):=by omega
  rw[Int.toNat_of_nonneg h0,Int.natCast_pow]at this
  exact this
theorem Fp {n:Int} {k:Nat} (hk:k≤64):jA .u64 n (k:Int)=n / 2^k:=by
 unfold jA
 rw[Int.toNat_natCast,show IntKind.bits .u64=64 from rfl,show min k 64=k by omega]
 exact Int.fdiv_eq_ediv_of_nonneg _ (Int.pow_nonneg (by omega))
theorem a1e.shift {n:Int} {j k:Nat} (h:a1e (n / 2^j) k) (hn:2^j≤n):a1e n (j+k):=by
 have hp:(0:Int)<2^j:=Int.pow_pos (by omega)
 have h1:0<n / 2^j:=by have:=Int.le_ediv_of_mul_le hp (show 1*2^j≤n by omega);omega
 obtain⟨a,b⟩:=h
 obtain⟨b1,b2⟩:=b h1
 have hdm:=Int.mul_ediv_add_emod n (2^j)
 have hm:=Int.emod_lt_of_pos n hp
 have hm0:=Int.emod_nonneg n (show(2:Int)^j≠0 by omega)
 refine⟨?_,fun _=>⟨by omega,?_⟩⟩
 ·have:(2:Int)^j*(n / 2^j+1)≤2^j*2^k:=Int.mul_le_mul_of_nonneg_left (by omega) (by omega)
  rw[Int.mul_add,Int.mul_one]at this
  rw[Int.pow_add];omega
 ·have:(2:Int)^j*2^(k -1)≤2^j*(n / 2^j):=Int.mul_le_mul_of_nonneg_left b2 (by omega)
  rw[show j+k -1=j+(k -1) by omega,Int.pow_add];omega
theorem a3X:([0,1,2,2,3,3,3,3,4,4,4,4,4,4,4,4,5,5,5,5,5,5,5,5,5,5,5,5,5,5,5,5,6,6,6,6,6,6,6,6,6,6,6,6,6,6,6,6,6,6,
  6,6,6,6,6,6,6,6,6,6,6,6,6,6,7,7,7,7,7,7,7,7,7,7,7,7,7,7,7,7,7,7,7,7,7,7,7,7,7,7,7,7,7,7,7,7,7,7,7,7,
  7,7,7,7,7,7,7,7,7,7,7,7,7,7,7,7,7,7,7,7,7,7,7,7,7,7,7,7,8,8,8,8,8,8,8,8,8,8,8,8,8,8,8,8,8,8,8,8,8,8,
  8,8,8,8,8,8,8,8,8,8,8,8,8,8,8,8,8,8,8,8,8,8,8,8,8,8,8,8,8,8,8,8,8,8,8,8,8,8,8,8,8,8,8,8,8,8,8,8,8,8,
  8,8,8,8,8,8,8,8,8,8,8,8,8,8,8,8,8,8,8,8,8,8,8,8,8,8,8,8,8,8,8,8,8,8,8,8,8,8,8,8,8,8,8,8,8,8,8,8,8,8,
  8,8,8,8,8,8]:List UInt8)=ZN:=by decide+kernel
theorem eQ {n:Int} (h0:0≤n) (h:n≤1000):wrap .i64 n=n:=dM (by unfold I64;omega)
theorem zH {a b:Int} (h0:0≤a) (h1:a≤1000) (h2:0≤b) (h3:b≤1000):A7 .i64 a b=a+b:=J5 (by unfold I64;omega)
theorem a3W {n:Int} (h0:0≤n) (h:n<18446744073709551616):∃k:Nat,k≤64∧pM n=some (k:Int)∧a1e n k:=by
 have s32:∀m:Int,jA .u64 m 32=m / 2^32:=fun m=>Fp (k:=32) (by omega)
 have s16:∀m:Int,jA .u64 m 16=m / 2^16:=fun m=>Fp (k:=16) (by omega)
 have s8:∀m:Int,jA .u64 m 8=m / 2^8:=fun m=>Fp (k:=8) (by omega)
 unfold pM
 rw[a3X,s32,s16,s16,s8,s8,s8,s8]
 have ow:∀(m:Int) (a:Int) (K:Nat),0≤m→m<256→a=(K:Int)→K≤56→∀(g:Int→Int),(∀x,0≤x→x≤8→g x=a+x)→∃k:Nat,k≤8∧(o6 (sat ZN (wrap .u8 m)) fun(x:Int)=>some (g x))=some (((K+k:Nat):Int))∧a1e m k:=by
  intro m a K m0 m1 ha hK g hg
  obtain⟨k,k1,k2,k3⟩:=a8c m0 m1
  refine⟨k,k1,?_,k3⟩
  rw[k2,o7,hg _ (by omega) (by omega),ha];simp
 by_cases c32:4294967296≤n
 ·rw[F7 c32,o5]
  by_cases c16:65536≤n / 2^32
  ·rw[F7 c16,o5]
   by_cases c8:256≤n / 2^32 / 2^16
   ·rw[F7 c8,o5]
    obtain⟨k,k1,k2,k3⟩:=ow (n / 2^32 / 2^16 / 2^8) 56 56 (by omega) (by omega) rfl (by omega) (fun x=>A7 .i64 (A7 .i64 (A7 .i64 32 16) 8) (wrap .i64 x)) (fun x x0 x1=>by
     rw[eQ x0 (by omega),show A7 .i64 (A7 .i64 32 16) 8=56 by decide,zH (by omega) (by omega) (by omega) (by omega)])
    exact⟨56+k,by omega,k2,by have:=((k3.shift (j:=8) (by omega)).shift (j:=16) (by omega)).shift (j:=32) (by omega);rw[show 32+(16+(8+k))=56+k by omega]at this;exact this⟩
   ·rw[F9 (by omega),l9]
    obtain⟨k,k1,k2,k3⟩:=ow (n / 2^32 / 2^16) 48 48 (by omega) (by omega) rfl (by omega) (fun x=>A7 .i64 (A7 .i64 32 16) (wrap .i64 x)) (fun x x0 x1=>by
     rw[eQ x0 (by omega),zH (a:=32) (by omega) (by omega) (by omega) (by omega),zH (by omega) (by omega) (by omega) (by omega)];rfl)
    exact⟨48+k,by omega,k2,by have:=(k3.shift (j:=16) (by omega)).shift (j:=32) (by omega);rw[show 32+(16+k)=48+k by omega]at this;exact this⟩
  ·rw[F9 (by omega),l9]
   by_cases c8:256≤n / 2^32
   ·rw[F7 c8,o5]
    obtain⟨k,k1,k2,k3⟩:=ow (n / 2^32 / 2^8) 40 40 (by omega) (by omega) rfl (by omega) (fun x=>A7 .i64 (A7 .i64 32 8) (wrap .i64 x)) (fun x x0 x1=>by
     rw[eQ x0 (by omega),zH (a:=32) (by omega) (by omega) (by omega) (by omega),zH (by omega) (by omega) (by omega) (by omega)];rfl)
    exact⟨40+k,by omega,k2,by have:=(k3.shift (j:=8) (by omega)).shift (j:=32) (by omega);rw[show 32+(8+k)=40+k by omega]at this;exact this⟩
   ·rw[F9 (by omega),l9]
    obtain⟨k,k1,k2,k3⟩:=ow (n / 2^32) 32 32 (by omega) (by omega) rfl (by omega) (fun x=>A7 .i64 32 (wrap .i64 x)) (fun x x0 x1=>by
     rw[eQ x0 (by omega),zH (by omega) (by omega) (by omega) (by omega)])
    exact⟨32+k,by omega,k2,k3.shift (j:=32) (by omega)⟩
 ·rw[F9 (by omega),l9]
  by_cases c16:65536≤n
  ·rw[F7 c16,o5]
   by_cases c8:256≤n / 2^16
   ·rw[F7 c8,o5]
    obtain⟨k,k1,k2,k3⟩:=ow (n / 2^16 / 2^8) 24 24 (by omega) (by omega) rfl (by omega) (fun x=>A7 .i64 (A7 .i64 (A7 .i64 0 16) 8) (wrap .i64 x)) (fun x x0 x1=>by
     rw[eQ x0 (by omega),show A7 .i64 (A7 .i64 0 16) 8=24 by decide,zH (by omega) (by omega) (by omega) (by omega)])
    exact⟨24+k,by omega,k2,by have:=(k3.shift (j:=8) (by omega)).shift (j:=16) (by omega);rw[show 16+(8+k)=24+k by omega]at this;exact this⟩
   ·rw[F9 (by omega),l9]
    obtain⟨k,k1,k2,k3⟩:=ow (n / 2^16) 16 16 (by omega) (by omega) rfl (by omega) (fun x=>A7 .i64 (A7 .i64 0 16) (wrap .i64 x)) (fun x x0 x1=>by
     rw[eQ x0 (by omega),zH (a:=0) (by omega) (by omega) (by omega) (by omega),zH (by omega) (by omega) (by omega) (by omega)];rfl)
    exact⟨16+k,by omega,k2,k3.shift (j:=16) (by omega)⟩
  ·rw[F9 (by omega),l9]
   by_cases c8:256≤n
   ·rw[F7 c8,o5]
    obtain⟨k,k1,k2,k3⟩:=ow (n / 2^8) 8 8 (by omega) (by omega) rfl (by omega) (fun x=>A7 .i64 (A7 .i64 0 8) (wrap .i64 x)) (fun x x0 x1=>by
     rw[eQ x0 (by omega),zH (a:=0) (by omega) (by omega) (by omega) (by omega),zH (by omega) (by omega) (by omega) (by omega)];rfl)
    exact⟨8+k,by omega,k2,k3.shift (j:=8) (by omega)⟩
   ·rw[F9 (by omega),l9]
    obtain⟨k,k1,k2,k3⟩:=ow n 0 0 (by omega) (by omega) rfl (by omega) (fun x=>A7 .i64 0 (wrap .i64 x)) (fun x x0 x1=>by
     rw[eQ x0 (by omega),zH (by omega) (by omega) (by omega) (by omega)])
    exact⟨0+k,by omega,k2,by rw[Nat.zero_add];exact k3⟩
theorem um {n:Int} (h0:0≤n) (h:n<18446744073709551616):IntKind.wrap .u64 n=n:=a7n (by unfold U64;omega)
theorem oV (n:Int):IntKind.wrap .u64 n=n % 18446744073709551616:=by
 unfold IntKind.wrap
 simp[IntKind.signed,IntKind.bits]
def XW {σ ε:Type} (f:σ→Option (σ⊕ε)) (m:Nat) (o:Option (σ⊕ε)):Option ε:=match o with
 | some (.inl s')=>iC f m s'
 | some (.inr e)=>some e
 | none=>none
theorem a1L {σ ε:Type} (f:σ→Option (σ⊕ε)) (m:Nat) (s:σ):iC f (m+1) s=XW f m (f s):=by
 rw[iC];unfold XW
 cases f s with
 | none=>rfl
 | some o=>cases o <;> rfl
theorem LW {σ:Type} (mkp:Int→Int→σ) {f:σ→Option (σ⊕Int)} {y1 y0 U d:Int} (hy1:2147483648≤y1) (hy1' :y1<4294967296) (hy0:0≤y0) (hy0' :y0<4294967296) (hU:0≤U) (hUY:U<y1*4294967296+y0) (hd:0≤d) (hd' :d<4294967296)
  (hf:∀q r,0≤q→q≤4294967297→0≤r→r<4294967296→f (mkp q r)=l7 (ile 4294967296 q) (l7 (ile 4294967296 (A7 .u64 r y1)) (some (.inr (G8 .u64 q 1))) (some (.inl (mkp (G8 .u64 q 1) (A7 .u64 r y1)))))
   (l7 (ilt (A7 .u64 (W9 .u64 4294967296 r) d) (W9 .u64 q y0)) (l7 (ile 4294967296 (A7 .u64 r y1)) (some (.inr (G8 .u64 q 1))) (some (.inl (mkp (G8 .u64 q 1) (A7 .u64 r y1))))) (some (.inr q)))):
  ∃Q,X5 f (mkp (U / y1) (U -U / y1*y1))=some Q∧0≤Q∧Q<4294967296∧Q*(y1*4294967296+y0)≤U*4294967296+d∧U*4294967296+d<(Q+1)*(y1*4294967296+y0):=by
 obtain⟨Y,hY⟩:∃Y,Y=y1*4294967296+y0:=⟨_,rfl⟩
 have hYe:∀q:Int,q*Y=q*y1*4294967296+q*y0:=fun q=>by rw[hY,Int.mul_add,←Int.mul_assoc]
 have hq0:0≤U / y1:=Int.ediv_nonneg hU (by omega)
 have hdm:=Int.ediv_mul_add_emod U y1
 have hm0:=Int.emod_nonneg U (show y1≠0 by omega)
 have hm1:=Int.emod_lt_of_pos U (show 0<y1 by omega)
 have hqB:U / y1≤4294967297:=by
  rcases Dn 4294967297 (U / y1)with h | h
  ·have:=Int.mul_le_mul_of_nonneg_right (show 4294967298≤U / y1 by omega) (show 0≤y1 by omega)
   omega
  ·exact h
 obtain⟨n,hn⟩:∃n,n=(U / y1).toNat+1:=⟨_,rfl⟩
 have key:∀(n:Nat) (q r:Int),0≤q→q≤4294967297→0≤r→r<4294967296→U=q*y1+r→U*4294967296+d<(q+1)*Y→q.toNat<n→∀m,n≤m→∃Q,iC f m (mkp q r)=some Q∧0≤Q∧Q<4294967296∧Q*Y≤U*4294967296+d∧U*4294967296+d<(Q+1)*Y:=by
  intro n
  induction n with
  | zero=>intro q r _ _ _ _ _ _ h;omega
  | succ n ih=>
   intro q r q0 qB r0 rB hUq hlt hqn m hm
   obtain⟨m,rfl⟩:∃m',m=m' +1:=⟨m -1,by omega⟩
   rw[a1L,hf q r q0 qB r0 rB]
   have e1:=hYe q
   have e2:(q+1)*Y=q*Y+Y:=by rw[Int.add_mul,Int.one_mul]
   have hry:A7 .u64 r y1=r+y1:=um (by omega) (by omega)
   have g0:0≤q*y0:=Int.mul_nonneg q0 hy0
   have less:U*4294967296+d<q*Y→1≤q∧G8 .u64 q 1=q -1∧U=(q -1)*y1+(r+y1)∧(q -1+1)*Y=q*Y∧(q -1)*Y=q*Y -Y∧(q -1)*y0=q*y0 -y0:=by
    intro hgt
    have hq1:1≤q:=by
     rcases Dn q 1 with h | h
     ·have:q=0:=by omega
      subst this;simp at hgt;omega
     ·exact h
    refine⟨hq1,um (by omega) (by omega),?_,?_,?_,?_⟩
    ·rw[Int.sub_mul,Int.one_mul];omega
    ·rw[show q -1+1=q by omega]
    ·rw[Int.sub_mul,Int.one_mul]
    ·rw[Int.sub_mul,Int.one_mul]
   have dec:U*4294967296+d<q*Y→∃Q,XW f m (l7 (ile 4294967296 (r+y1)) (some (Sum.inr (G8 .u64 q 1))) (some (Sum.inl (mkp (G8 .u64 q 1) (r+y1)))))=some Q∧0≤Q∧Q<4294967296∧Q*Y≤U*4294967296+d∧U*4294967296+d<(Q+1)*Y:=by
    intro hgt
    obtain⟨l1,l2,l3,l4,l5,l6⟩:=less hgt
    rw[l2]
    by_cases hr:4294967296≤r+y1
    ·rw[F7 hr]
     have h6:(q -1)*y0≤4294967296*y0:=Int.mul_le_mul_of_nonneg_right (by omega) hy0
     have h7:=hYe (q -1)
     have hle:(q -1)*Y≤U*4294967296+d:=by rw[h7,l3];omega
     refine⟨q -1,rfl,by omega,?_,hle,by rw[l4];exact hgt⟩
     rcases Dn (q -1) 4294967296 with h | h
     ·exact h
     ·have:=Int.mul_le_mul_of_nonneg_right h (show 0≤Y by omega)
      omega
    ·rw[F9 (by omega)]
     exact ih (q -1) (r+y1) (by omega) (by omega) (by omega) (by omega) l3 (by rw[l4];exact hgt) (by omega) m (by omega)
   by_cases hqb:4294967296≤q
   ·rw[F7 hqb,o5,hry]
    have:=Int.mul_le_mul_of_nonneg_right hqb (show 0≤Y by omega)
    exact dec (by omega)
   ·rw[F9 (by omega),l9,hry]
    have g1:q*y0≤4294967295*y0:=Int.mul_le_mul_of_nonneg_right (by omega) hy0
    have m1:W9 .u64 4294967296 r=4294967296*r:=um (by omega) (by omega)
    have m2:A7 .u64 (4294967296*r) d=4294967296*r+d:=um (by omega) (by omega)
    have m3:W9 .u64 q y0=q*y0:=um g0 (by omega)
    rw[m1,m2,m3]
    by_cases hc:4294967296*r+d<q*y0
    ·rw[E8 hc,o5]
     exact dec (by rw[e1];omega)
    ·rw[D9 (by omega),l9]
     exact⟨q,rfl,q0,by omega,by rw[e1];omega,hlt⟩
 rw[←hY]
 refine key n (U / y1) (U -U / y1*y1) hq0 hqB (by omega) (by omega) (by omega) ?_ (by omega) dN (by unfold dN;omega)
 have e1:=hYe (U / y1)
 rw[Int.add_mul,Int.one_mul,e1]
 have:=Int.mul_nonneg hq0 hy0
 omega
theorem ER {n:Int} (h0:0≤n) (h:n<18446744073709551616):(BitVec.ofInt 64 n).toNat=n.toNat:=by
 rw[BitVec.toNat_ofInt]
 have e:((2^64:Nat):Int)=18446744073709551616:=rfl
 rw[e,Int.emod_eq_of_lt h0 h]
theorem Qx {n:Int} (h0:0≤n) (h:n<18446744073709551616):Va .u64 n 4294967295=n % 4294967296:=by
 unfold Va
 rw[show IntKind.bits .u64=64 from rfl,BitVec.toNat_and,ER h0 h,ER (by decide) (by decide)]
 rw[show(4294967295:Int).toNat=2^32 -1 from rfl,Nat.and_two_pow_sub_one_eq_mod]
 rw[um (by omega) (by omega)];omega
theorem a7Z {a c:Int} {s:Nat} (ha0:0≤a) (hc0:0≤c) (hc:c<2^s) (h:a*2^s+c<18446744073709551616):ior .u64 (a*2^s) c=a*2^s+c:=by
 have hp:(0:Int)<2^s:=Int.pow_pos (by omega)
 have hap:0≤a*2^s:=Int.mul_nonneg ha0 (by omega)
 unfold ior
 rw[show IntKind.bits .u64=64 from rfl,BitVec.toNat_or,ER hap (by omega),ER hc0 (by omega)]
 obtain⟨m,rfl⟩:∃m:Nat,a=(m:Int):=⟨a.toNat,by omega⟩
 obtain⟨k,rfl⟩:∃k:Nat,c=(k:Int):=⟨c.toNat,by omega⟩
 have hk:k<2^s:=by exact_mod_cast hc
 have e1:((m:Int)*2^s).toNat=m<<<s:=by
  rw[Nat.shiftLeft_eq]
  have:((m:Int)*2^s)=((m*2^s:Nat):Int):=by rw[Int.natCast_mul,Int.natCast_pow];rfl
  rw[this];rfl
 rw[e1,Int.toNat_natCast,←Nat.shiftLeft_add_eq_or_of_lt hk,Nat.shiftLeft_eq]
 have e2:((m*2^s+k:Nat):Int)=(m:Int)*2^s+(k:Int):=by rw[Int.natCast_add,Int.natCast_mul,Int.natCast_pow];rfl
 rw[e2]
 exact um (by omega) h
theorem UE (a b c d:Int):G8 .u64 (A7 .u64 (W9 .u64 a 4294967296) b) (W9 .u64 c d)=(a*4294967296+b -c*d) % 18446744073709551616:=by
 unfold G8 A7 W9
 rw[oV,oV,oV,oV]
 generalize c*d=z
 omega
theorem b7N {y:Int} (h0:0<y) (h:y<18446744073709551616):∃s:Nat,s≤63∧eF y=some (s:Int)∧9223372036854775808≤y*2^s∧y*2^s<18446744073709551616:=by
 obtain⟨k,k1,k2,k3,k4⟩:=a3W (n:=y) (by omega) h
 obtain⟨k5,k6⟩:=k4 h0
 refine⟨64 -k,by omega,?_,?_,?_⟩
 ·unfold eF
  rw[k2,o7,H8 (by unfold I64;omega)]
  congr 1;omega
 ·have:=Int.mul_le_mul_of_nonneg_right k6 (show(0:Int)≤2^(64 -k)from Int.pow_nonneg (by omega))
  rw[←Int.pow_add,show k -1+(64 -k)=63 by omega]at this
  exact this
 ·have:=Int.mul_lt_mul_of_pos_right k3 (show(0:Int)<2^(64 -k)from Int.pow_pos (by omega))
  rw[←Int.pow_add,show k+(64 -k)=64 by omega]at this
  exact this
theorem CP {a b:Int} (ha:0≤a) (ha' :a<18446744073709551616) (hb:0<b):uZ .u64 a b=some (a / b):=by
 unfold uZ
 rw[if_neg (by omega),bu ha]
 have h1:=Int.ediv_nonneg ha (show 0≤b by omega)
 have h2:=Int.ediv_le_self b ha
 rw[um h1 (by omega)]
theorem qm {a b:Int} (ha:0≤a) (hb:0<b):AO a b=some (a % b):=by
 unfold AO
 rw[if_neg (by omega)]
 congr 1
 exact oJ ha
theorem Mc {hi lo y:Int} (h0:0≤hi) (h1:hi<y) (hy:y<18446744073709551616) (l0:0≤lo) (l1:lo<18446744073709551616):
  dR hi lo y=some ((hi*18446744073709551616+lo) / y,(hi*18446744073709551616+lo) % y):=by
 unfold dR
 rw[D8 (show y≠0 by omega),l9,o7,F9 h1,l9,o7]
 by_cases hz:hi=0
 ·subst hz
  rw[E9 rfl,o5,CP l0 l1 (by omega),o7,qm l0 (by omega),o7];simp
 rw[D8 hz,l9]
 obtain⟨s,s1,s2,s3,s4⟩:=b7N (y:=y) (by omega) hy
 rw[s2,o7,show wrap .u64 ((s:Nat):Int)=(s:Int)from um (by omega) (by omega),show G8 .u64 64 (s:Int)=((64 -s:Nat):Int) by unfold G8;rw[um (by omega) (by omega)];omega]
 have hshl:∀v:Int,Na .u64 v (s:Int)=some ((v*2^s) % 18446744073709551616):=fun v=>by
  unfold Na a3M
  rw[if_neg (by omega),Int.toNat_natCast,show IntKind.bits .u64=64 from rfl,show min s 64=s by omega,oV]
 have hshr:∀(v:Int) (k:Nat),k≤64→Nb .u64 v (k:Int)=some (v / 2^k):=fun v k hk=>by
  unfold Nb
  rw[if_neg (by omega),Fp hk]
 rw[hshl,o7,hshl,o7,hshr _ _ (by omega),o7,hshl,o7]
 have hpp:(2:Int)^s*2^(64 -s)=18446744073709551616:=by rw[←Int.pow_add,show s+(64 -s)=64 by omega];rfl
 have hp:(0:Int)<2^s:=Int.pow_pos (by omega)
 have hp' :(0:Int)<2^(64 -s):=Int.pow_pos (by omega)
 have hcb:lo / 2^(64 -s)<2^s:=Int.ediv_lt_of_lt_mul hp' (by rw[hpp];exact l1)
 have hc0:0≤lo / 2^(64 -s):=Int.ediv_nonneg l0 (by omega)
 have hcd:=Int.ediv_mul_add_emod lo (2^(64 -s))
 have he0:=Int.emod_nonneg lo (show(2:Int)^(64 -s)≠0 by omega)
 have he1:=Int.emod_lt_of_pos lo hp'
 have hioP:∀a c:Int,0≤a→0≤c→c<2^s→a*2^s+c<18446744073709551616→ior .u64 (a*2^s) c=a*2^s+c:=fun a c a0 c0 c1 h=>a7Z a0 c0 c1 h
 have hshrs:∀v:Int,Nb .u64 v (s:Int)=some (v / 2^s):=fun v=>hshr v s (by omega)
 generalize (2:Int)^s=p at*
 generalize (2:Int)^(64 -s)=p' at*
 generalize lo / p' =c at*
 generalize lo % p' =e at*
 have hlop:lo*p=c*18446744073709551616+e*p:=by
  rw[←hcd,Int.add_mul,Int.mul_assoc,Int.mul_comm p' p,hpp]
 have hep0:0≤e*p:=Int.mul_nonneg he0 (by omega)
 have hep1:e*p<18446744073709551616:=by
  have:=Int.mul_lt_mul_of_pos_right he1 hp
  rw[Int.mul_comm p' p,hpp]at this;exact this
 rw[show(lo*p) % 18446744073709551616=e*p by omega]
 have hhp0:0≤hi*p:=Int.mul_nonneg h0 (by omega)
 have hhp1:hi*p≤y*p -p:=by
  have:=Int.mul_le_mul_of_nonneg_right (show hi≤y -1 by omega) (show 0≤p by omega)
  rw[Int.sub_mul,Int.one_mul]at this;exact this
 rw[show(y*p) % 18446744073709551616=y*p by omega,show(hi*p) % 18446744073709551616=hi*p by omega,hioP hi c h0 hc0 hcb (by omega)]
 have hN:(hi*18446744073709551616+lo)*p=(hi*p+c)*18446744073709551616+e*p:=by
  rw[Int.add_mul,hlop,Int.mul_right_comm];omega
 have hsh32:∀v:Int,jA .u64 v 32=v / 4294967296:=fun v=>Fp (k:=32) (by omega)
 rw[hsh32,hsh32,Qx (by omega) s4,Qx hep0 hep1]
 obtain⟨Y,hY⟩:∃Y,Y=y*p:=⟨_,rfl⟩
 obtain⟨N,hNN⟩:∃N,N=hi*18446744073709551616+lo:=⟨_,rfl⟩
 rw[←hNN]at hN ⊢
 rw[←hY]at s3 s4 hhp1 ⊢
 generalize hU:hi*p+c=U at*
 generalize e*p=E at*
 have hUY:U<Y:=by omega
 have hU0:0≤U:=by omega
 obtain⟨Q1,q1,q2,q3,q4,q5⟩:=LW (σ:=Int×Int) (fun q r=>(q,r)) (y1:=Y / 4294967296) (y0:=Y % 4294967296) (U:=U) (d:=E / 4294967296) (by omega) (by omega) (by omega) (by omega) hU0 (by omega) (by omega) (by omega)
  (f:=fun(x:Int×Int)=>l7 (ile 4294967296 x.1) (l7 (ile 4294967296 (A7 .u64 x.2 (Y / 4294967296))) (some (.inr (G8 .u64 x.1 1))) (some (.inl (G8 .u64 x.1 1,A7 .u64 x.2 (Y / 4294967296))))) (l7 (ilt (A7 .u64 (W9 .u64 4294967296 x.2) (E / 4294967296)) (W9 .u64 x.1 (Y % 4294967296))) (l7 (ile 4294967296 (A7 .u64 x.2 (Y / 4294967296))) (some (.inr (G8 .u64 x.1 1))) (some (.inl (G8 .u64 x.1 1,A7 .u64 x.2 (Y / 4294967296))))) (some (.inr x.1))))
  (fun q r _ _ _ _=>rfl)
 have hYe:Y / 4294967296*4294967296+Y % 4294967296=Y:=by omega
 rw[hYe]at q4 q5
 have hst:∀V:Int,0≤V→V<Y→G8 .u64 V (W9 .u64 (V / (Y / 4294967296)) (Y / 4294967296))=V -V / (Y / 4294967296)*(Y / 4294967296):=fun V v0 v1=>by
  have a1:=Int.ediv_mul_add_emod V (Y / 4294967296)
  have a2:=Int.emod_nonneg V (show Y / 4294967296≠0 by omega)
  have a3:=Int.emod_lt_of_pos V (show 0<Y / 4294967296 by omega)
  have a4:=Int.mul_nonneg (Int.ediv_nonneg v0 (show 0≤Y / 4294967296 by omega)) (show 0≤Y / 4294967296 by omega)
  rw[show W9 .u64 (V / (Y / 4294967296)) (Y / 4294967296)=V / (Y / 4294967296)*(Y / 4294967296)from um a4 (by omega)]
  exact um (by omega) (by omega)
 rw[CP hU0 (by omega) (by omega),o7,hst U hU0 hUY]
 refine(jf q1 _).trans ?_
 rw[UE]
 have hA1:(Q1+1)*Y=Q1*Y+Y:=by rw[Int.add_mul,Int.one_mul]
 rw[hA1]at q5
 obtain⟨A1,hAA⟩:∃A1,A1=Q1*Y:=⟨_,rfl⟩
 rw[←hAA]at q4 q5 ⊢
 rw[show(U*4294967296+E / 4294967296 -A1) % 18446744073709551616=U*4294967296+E / 4294967296 -A1 by omega]
 generalize hV:U*4294967296+E / 4294967296 -A1=V at*
 have hV0:0≤V:=by omega
 have hVY:V<Y:=by omega
 obtain⟨Q0,r1,r2,r3,r4,r5⟩:=LW (σ:=Int×Int) (fun q r=>(r,q)) (y1:=Y / 4294967296) (y0:=Y % 4294967296) (U:=V) (d:=E % 4294967296) (by omega) (by omega) (by omega) (by omega) hV0 (by omega) (by omega) (by omega)
  (f:=fun(x:Int×Int)=>l7 (ile 4294967296 x.2) (l7 (ile 4294967296 (A7 .u64 x.1 (Y / 4294967296))) (some (.inr (G8 .u64 x.2 1))) (some (.inl (A7 .u64 x.1 (Y / 4294967296),G8 .u64 x.2 1)))) (l7 (ilt (A7 .u64 (W9 .u64 4294967296 x.1) (E % 4294967296)) (W9 .u64 x.2 (Y % 4294967296))) (l7 (ile 4294967296 (A7 .u64 x.1 (Y / 4294967296))) (some (.inr (G8 .u64 x.2 1))) (some (.inl (A7 .u64 x.1 (Y / 4294967296),G8 .u64 x.2 1)))) (some (.inr x.2))))
  (fun q r _ _ _ _=>rfl)
 rw[hYe]at r4 r5
 rw[CP hV0 (by omega) (by omega),o7,hst V hV0 hVY]
 refine(jf r1 _).trans ?_
 rw[UE]
 have hA0:(Q0+1)*Y=Q0*Y+Y:=by rw[Int.add_mul,Int.one_mul]
 rw[hA0]at r5
 have hQY:(Q1*4294967296+Q0)*Y=A1*4294967296+Q0*Y:=by rw[Int.add_mul,Int.mul_right_comm,←hAA]
 generalize Q0*Y=A0 at*
 rw[show(V*4294967296+E % 4294967296 -A0) % 18446744073709551616=V*4294967296+E % 4294967296 -A0 by omega,hshrs,o7]
 rw[show W9 .u64 Q1 4294967296=Q1*4294967296 from um (by omega) (by omega),show A7 .u64 (Q1*4294967296) Q0=Q1*4294967296+Q0 from um (by omega) (by omega)]
 generalize hQ:Q1*4294967296+Q0=Q at*
 have hR:V*4294967296+E % 4294967296 -A0=(N -Q*y)*p:=by
  rw[Int.sub_mul,Int.mul_assoc,←hY,hQY,hN];omega
 rw[hR]
 have hge:0≤N -Q*y:=by
  rcases Dn (N -Q*y) 0 with h | h
  ·have:=Int.mul_le_mul_of_nonneg_right (show N -Q*y≤-1 by omega) (show 0≤p by omega)
   omega
  ·exact h
 have hlt:N -Q*y<y:=by
  rcases Dn (N -Q*y) y with h | h
  ·exact h
  ·have:=Int.mul_le_mul_of_nonneg_right h (show 0≤p by omega)
   omega
 have hq:N / y=Q:=by
  have e1:N=(N -Q*y)+Q*y:=by omega
  rw[e1,Int.add_mul_ediv_right _ _ (by omega),Int.ediv_eq_zero_of_lt hge hlt];omega
 have hr:N % y=N -Q*y:=by
  have:=Int.ediv_mul_add_emod N y
  rw[hq]at this;omega
 rw[hq,hr,Int.mul_ediv_cancel _ (by omega)]
def J8 (n:Int):Int:=if n<0 then -n else n
def upS (q r d:Int) (neg:Bool) (mode:Int):Bool:=l7 (ieq r 0) false (l7 (ieq mode 0) neg (l7 (ieq mode 1) (E5 neg) (l7 (ieq mode 3) true (l7 (ieq mode 4) (ile (d -r) r) (l7 (ieq mode 5) (l7 (ilt (d -r) r) true (l7 (ieq r (d -r)) (ieq (dV q 2) 1) false)) false)))))
def q1 (q:Int) (u:Bool):Int:=l7 u (q+1) q
def sg (q:Int) (neg:Bool):Int:=l7 neg (-q) q
def eY (m:Int):Bool:=l7 (ile 0 m) (ile m 5) false
theorem rF (m:Int):iU m=some (eY m):=by unfold iU eY;cases ile 0 m <;> rfl
theorem FZ (m:Int):c7F m=some (eY m):=rF m
theorem JC (m:Int):qX m=some (eY m):=rF m
def bQ (n m:Int):Bool:=l7 (ilt m n) true (ilt n (-m))
theorem lm (n:Int) {m:Int} (h0:0≤m) (h:m≤9000000000000000000):eG n m=some (bQ n m):=by
 unfold eG bQ
 rw[H8 (by unfold I64;omega),show(0:Int) -m=-m by omega]
 cases ilt m n <;> rfl
theorem jC (n:Int) {m:Int} (h0:0≤m) (h:m≤9000000000000000000):c6R n m=some (bQ n m):=lm n h0 h
theorem oM (n:Int) {m:Int} (h0:0≤m) (h:m≤9000000000000000000):mQ n m=some (bQ n m):=lm n h0 h
theorem mO (n:Int) {m:Int} (h0:0≤m) (h:m≤9000000000000000000):c6T n m=some (bQ n m):=lm n h0 h
theorem gz {n m:Int} (h:bQ n m=false):-m≤n∧n≤m:=by
 unfold bQ at h
 cases h1:ilt m n <;> rw[h1]at h
 ·rw[aT]at h1;simp only[l9]at h;rw[aT]at h;omega
 ·cases h
theorem Xb {n m:Int} (h:bQ n m=true):n< -m∨m<n:=by
 unfold bQ at h
 cases h1:ilt m n <;> rw[h1]at h
 ·simp only[l9]at h;rw[bW]at h;omega
 ·rw[bW]at h1;omega
theorem EQ {n m:Int} :bQ n m=true↔n< -m∨m<n:=by
 constructor
 ·exact Xb
 ·intro h
  cases hq:bQ n m
  ·have:=gz hq;omega
  ·rfl
theorem Cc {n m:Int} (h:-m≤n∧n≤m):bQ n m=false:=by
 cases hq:bQ n m
 ·rfl
 ·have:=Xb hq;omega
theorem qV {n:Int} (h:-9000000000000000000≤n) (h2:n≤9000000000000000000):dU n=some (J8 n):=by
 unfold dU J8
 by_cases h0:n<0
 ·rw[E8 h0,if_pos h0,o5]
  congr 1
  show IntKind.wrap .u64 (0 -IntKind.wrap .u64 n)=_
  rw[oV,oV];omega
 ·rw[D9 (by omega),if_neg h0,l9,show wrap .u64 n=n from um (by omega) (by omega)]
theorem Df {n:Int} (h:-9000000000000000000≤n) (h2:n≤9000000000000000000):c7r n=some (J8 n):=by
 unfold c7r J8
 by_cases h0:n<0
 ·rw[E8 h0,if_pos h0,H8 (by unfold I64;omega)];simp
 ·rw[D9 (by omega),if_neg h0];rfl
theorem Rj {q:Int} (neg:Bool) (h0:0≤q) (h:q≤9000000000000000000):qW q neg=some (sg q neg):=by
 unfold qW sg
 rw[show wrap .i64 q=q from dM (by unfold I64;omega),H8 (by unfold I64;omega),show(0:Int) -q=-q by omega]
 cases neg <;> rfl
theorem JJ {q r d:Int} (neg:Bool) (mode:Int) (hq:0≤q) (hq2:q≤9000000000000000000) (hr:0≤r) (hrd:r<d) (hd:d≤9000000000000000000):fC q r d neg mode=some (q1 q (upS q r d neg mode)):=by
 unfold fC upS q1
 rw[show A7 .u64 q 1=q+1 from um (by omega) (by omega),show G8 .u64 d r=d -r from um (by omega) (by omega)]
 cases ieq r 0
 case true=>rfl
 cases ieq mode 0
 case true=>cases neg <;> rfl
 cases ieq mode 1
 case true=>cases neg <;> rfl
 cases ieq mode 3
 case true=>rfl
 cases ieq mode 4
 case true=>cases ile (d -r) r <;> rfl
 cases ieq mode 5
 ·rfl
 cases ilt (d -r) r
 case true=>rfl
 cases ieq r (d -r)
 ·rfl
 cases ieq (dV q 2) 1 <;> rfl
theorem Wn {q r d:Int} (neg:Bool) (mode:Int) (hr:0≤r) (hrd:r<d) (hd:d≤9000000000000000000):sZ q r d neg mode=some (upS q r d neg mode):=by
 unfold sZ upS
 rw[show G8 .u64 d r=d -r from um (by omega) (by omega)]
 cases ieq r 0
 case true=>rfl
 cases ieq mode 0
 case true=>rfl
 cases ieq mode 1
 case true=>rfl
 cases ieq mode 3
 case true=>rfl
 cases ieq mode 4
 case true=>rfl
 cases ieq mode 5
 ·rfl
 cases ilt (d -r) r
 case true=>rfl
 cases ieq r (d -r) <;> rfl
theorem tV {q r d:Int} (neg:Bool) (mode:Int) (hq:0≤q) (hq2:q≤9000000000000000000) (hr:0≤r) (hrd:r<d) (hd:d≤9000000000000000000):c6X q r d neg mode=some (sg (q1 q (upS q r d neg mode)) neg):=by
 unfold c6X upS q1 sg
 rw[J5 (show I64 (q+1) by unfold I64;omega),H8 (show I64 (d -r) by unfold I64;omega),H8 (show I64 (0 -(q+1)) by unfold I64;omega),H8 (show I64 (0 -q) by unfold I64;omega),show(0:Int) -(q+1)=-(q+1) by omega,show(0:Int) -q=-q by omega]
 by_cases hz:r=0
 ·rw[E9 hz,D9 (show r≤0 by omega),F9 (show r<d -r by omega),D9 (show r≤d -r by omega),D8 (show r≠d -r by omega)]
  cases ieq mode 0 <;> cases ieq mode 1 <;> cases ieq mode 3 <;> cases ieq mode 4 <;> cases ieq mode 5 <;> cases neg <;> rfl
 ·rw[D8 hz,E8 (show 0<r by omega)]
  cases ieq mode 0
  case true=>cases neg <;> rfl
  cases ieq mode 1
  case true=>cases neg <;> rfl
  cases ieq mode 3
  case true=>cases neg <;> rfl
  cases ieq mode 4
  case true=>cases ile (d -r) r <;> cases neg <;> rfl
  cases ieq mode 5
  ·cases neg <;> rfl
  cases ilt (d -r) r
  case true=>cases neg <;> rfl
  cases ieq r (d -r)
  ·cases neg <;> rfl
  cases ieq (dV q 2) 1 <;> cases neg <;> rfl
theorem dB (n:Int):0≤J8 n:=by unfold J8;split <;> omega
theorem nR {n m:Int} (h:-m≤n∧n≤m):J8 n≤m:=by unfold J8;split <;> omega
theorem AL {n:Int} (h:n≠0):0<J8 n:=by unfold J8;split <;> omega
def rnd (n d mode:Int):Int:=sg (q1 (J8 n / J8 d) (upS (J8 n / J8 d) (J8 n % J8 d) (J8 d) (E5 (bZ (ilt n 0) (ilt d 0))) mode)) (E5 (bZ (ilt n 0) (ilt d 0)))
def Xl (n d mode:Int):Int×Int:=l7 (eY mode) (l7 (ieq d 0) (0,12) (l7 (bQ n 4611686018427387904) (0,3) (l7 (bQ d 4611686018427387904) (0,3) (rnd n d mode,0)))) (0,1)
theorem Oc (q:Int) (u:Bool):q≤q1 q u∧q1 q u≤q+1:=by unfold q1;cases u <;> simp only[o5,l9] <;> omega
theorem wK (n d mode:Int):aW n d mode=some (Xl n d mode):=by
 unfold aW Xl
 rw[rF,o7]
 cases eY mode
 ·rfl
 simp only[o9,l9,o5]
 cases hd:ieq d 0
 case true=>rfl
 rw[lG]at hd
 simp only[l9]
 rw[lm n (by omega) (by omega),o7]
 cases h1:bQ n 4611686018427387904
 case true=>rfl
 simp only[l9]
 rw[lm d (by omega) (by omega),o7]
 cases h2:bQ d 4611686018427387904
 case true=>rfl
 have b1:=gz h1
 have b2:=gz h2
 have a1:=dB n;have a2:=nR b1;have a3:=AL hd;have a4:=nR b2
 have e0:=Int.ediv_nonneg a1 (show 0≤J8 d by omega)
 have e1:=Int.ediv_le_self (J8 d) a1
 have e2:=Int.emod_nonneg (J8 n) (show J8 d≠0 by omega)
 have e3:=Int.emod_lt_of_pos (J8 n) a3
 have q:=Oc (J8 n / J8 d) (upS (J8 n / J8 d) (J8 n % J8 d) (J8 d) (E5 (bZ (ilt n 0) (ilt d 0))) mode)
 simp only[l9]
 rw[qV (by omega) (by omega),o7,qV (by omega) (by omega),o7,CP a1 (by omega) a3,o7,qm a1 a3,o7,JJ _ _ e0 (by omega) e2 e3 (by omega),o7,Rj _ (by omega) (by omega)];rfl
theorem lu {a b:Int} (ha:0≤a) (ha' :a≤9000000000000000000) (hb:0<b):uZ .i64 a b=some (a / b):=by
 unfold uZ
 rw[if_neg (by omega),bu ha]
 have h1:=Int.ediv_nonneg ha (show 0≤b by omega)
 have h2:=Int.ediv_le_self b ha
 rw[dM (by unfold I64;omega)]
theorem Tn (n d mode:Int):c7u n d mode=some (Xl n d mode):=by
 unfold c7u Xl
 rw[FZ,o7]
 cases eY mode
 ·rfl
 simp only[o9,l9,o5]
 cases hd:ieq d 0
 case true=>rfl
 rw[lG]at hd
 simp only[l9]
 rw[jC n (by omega) (by omega),o7]
 cases h1:bQ n 4611686018427387904
 case true=>rfl
 simp only[l9]
 rw[jC d (by omega) (by omega),o7]
 cases h2:bQ d 4611686018427387904
 case true=>rfl
 have b1:=gz h1
 have b2:=gz h2
 have a1:=dB n;have a2:=nR b1;have a3:=AL hd;have a4:=nR b2
 have e0:=Int.ediv_nonneg a1 (show 0≤J8 d by omega)
 have e1:=Int.ediv_le_self (J8 d) a1
 have e2:=Int.emod_nonneg (J8 n) (show J8 d≠0 by omega)
 have e3:=Int.emod_lt_of_pos (J8 n) a3
 simp only[l9]
 rw[Df (by omega) (by omega),o7,Df (by omega) (by omega),o7,lu a1 (by omega) a3,o7,qm a1 a3,o7,tV _ _ e0 (by omega) e2 e3 (by omega)];rfl
def toS (c u mode:Int):Int×Int:=l7 (eY mode) (l7 (ilt u 1) (0,12) (l7 (bQ c 1000000000000000) (0,3) (l7 (ilt 1000000000000000 u) (0,3) (l7 (bQ (W9 .i64 (rnd c u mode) u) 1000000000000000) (0,3) (W9 .i64 (rnd c u mode) u,0))))) (0,1)
theorem Yn (c u mode:Int):oL c u mode=some (toS c u mode):=by
 unfold oL toS
 rw[rF,o7]
 cases hm:eY mode
 ·rfl
 simp only[o9,l9,o5]
 cases hu:ilt u 1
 case true=>rfl
 rw[aT]at hu
 simp only[l9]
 rw[lm c (by omega) (by omega),o7]
 cases h1:bQ c 1000000000000000
 case true=>rfl
 have b1:=gz h1
 simp only[l9]
 cases h2:ilt 1000000000000000 u
 case true=>rfl
 rw[aT]at h2
 simp only[l9]
 have n1:bQ c 4611686018427387904=false:=Cc (by omega)
 have n2:bQ u 4611686018427387904=false:=Cc (by omega)
 rw[wK,o7]
 unfold Xl
 rw[hm,D8 (show u≠0 by omega),n1,n2]
 simp only[o5,l9,E9 (rfl:(0:Int)=0),o9]
 rw[lm _ (by omega) (by omega),o7]
 cases bQ (W9 .i64 (rnd c u mode) u) 1000000000000000 <;> rfl
theorem VU (c u mode:Int):c7z c u mode=some (toS c u mode):=by
 unfold c7z toS
 rw[FZ,o7]
 cases hm:eY mode
 ·rfl
 simp only[o9,l9,o5]
 cases hu:ilt u 1
 case true=>rfl
 rw[aT]at hu
 simp only[l9]
 rw[jC c (by omega) (by omega),o7]
 cases h1:bQ c 1000000000000000
 case true=>rfl
 have b1:=gz h1
 simp only[l9]
 cases h2:ilt 1000000000000000 u
 case true=>rfl
 rw[aT]at h2
 simp only[l9]
 have a1:=dB c;have a2:=nR b1
 have hu' :J8 u=u:=by unfold J8;rw[if_neg (by omega)]
 have e0:=Int.ediv_nonneg a1 (show 0≤u by omega)
 have e1:=Int.ediv_le_self u a1
 have e2:=Int.emod_nonneg (J8 c) (show u≠0 by omega)
 have e3:=Int.emod_lt_of_pos (J8 c) (show 0<u by omega)
 rw[Df (by omega) (by omega),o7,lu a1 (by omega) (by omega),o7,qm a1 (by omega),o7,tV _ _ e0 (by omega) e2 e3 (by omega),o7]
 have hr:sg (q1 (J8 c / u) (upS (J8 c / u) (J8 c % u) u (ilt c 0) mode)) (ilt c 0)=rnd c u mode:=by
  unfold rnd
  rw[hu',show E5 (bZ (ilt c 0) (ilt u 0))=ilt c 0 by rw[D9 (show(0:Int)≤u by omega)];cases ilt c 0 <;> rfl]
 rw[hr,jC _ (by omega) (by omega),o7]
 cases bQ (W9 .i64 (rnd c u mode) u) 1000000000000000 <;> rfl
def mdS (c num den mode:Int):Int×Int:=l7 (eY mode) (l7 (ieq den 0) (0,12) (l7 (bQ c 1000000000000000) (0,3) (l7 (bQ num 1000000000) (0,3) (l7 (bQ den 1000000000) (0,3)
 (l7 (ilt 1000000000000000 (q1 (J8 c*J8 num / J8 den) (upS (J8 c*J8 num / J8 den) (J8 c*J8 num % J8 den) (J8 den) (E5 (bZ (E5 (bZ (ilt c 0) (ilt num 0))) (ilt den 0))) mode))) (0,3)
  (sg (q1 (J8 c*J8 num / J8 den) (upS (J8 c*J8 num / J8 den) (J8 c*J8 num % J8 den) (J8 den) (E5 (bZ (E5 (bZ (ilt c 0) (ilt num 0))) (ilt den 0))) mode)) (E5 (bZ (E5 (bZ (ilt c 0) (ilt num 0))) (ilt den 0))),0)))))) (0,1)
theorem FI {a b:Int} (a0:0≤a) (a1:a<18446744073709551616) (b0:0≤b) (b1:b<18446744073709551616):jQ a b=some (a*b / 18446744073709551616,a*b % 18446744073709551616):=by
 unfold jQ
 rw[if_pos ⟨a0,a1,b0,b1⟩]
theorem a1R (c num den mode:Int):uC c num den mode=some (mdS c num den mode):=by
 unfold uC mdS
 rw[rF,o7]
 cases eY mode
 ·rfl
 simp only[o9,l9,o5]
 cases hd:ieq den 0
 case true=>rfl
 rw[lG]at hd
 simp only[l9]
 rw[lm c (by omega) (by omega),o7]
 cases h1:bQ c 1000000000000000
 case true=>rfl
 rw[lm num (by omega) (by omega)]
 cases h2:bQ num 1000000000
 case true=>rfl
 rw[lm den (by omega) (by omega)]
 cases h3:bQ den 1000000000
 case true=>rfl
 have b1:=gz h1;have b2:=gz h2;have b3:=gz h3
 have a1:=dB c;have a2:=nR b1;have x1:=dB num;have x2:=nR b2;have d1:=AL hd;have d2:=nR b3
 simp only[l9,o7,D7]
 rw[qV (by omega) (by omega),o7,qV (by omega) (by omega),o7,FI a1 (by omega) x1 (by omega),o7,qV (by omega) (by omega),o7]
 have hA:0≤J8 c*J8 num:=Int.mul_nonneg a1 x1
 generalize J8 c*J8 num=A at*
 generalize J8 den=b at*
 have hre:A / 18446744073709551616*18446744073709551616+A % 18446744073709551616=A:=by omega
 have q:=Oc (A / b) (upS (A / b) (A % b) b (E5 (bZ (E5 (bZ (ilt c 0) (ilt num 0))) (ilt den 0))) mode)
 have hdm:=Int.ediv_mul_add_emod A b
 have e2:=Int.emod_nonneg A (show b≠0 by omega)
 have e3:=Int.emod_lt_of_pos A d1
 have e0:=Int.ediv_nonneg hA (show 0≤b by omega)
 by_cases hh:b≤A / 18446744073709551616
 ·have hge:18446744073709551616≤A / b:=Int.le_ediv_of_mul_le d1 (by omega)
  rw[F7 hh,E8 (show(1000000000000000:Int)<q1 (A / b) (upS (A / b) (A % b) b (E5 (bZ (E5 (bZ (ilt c 0) (ilt num 0))) (ilt den 0))) mode) by omega)];rfl
 ·rw[F9 (by omega),l9,Mc (by omega) (by omega) (by omega) (by omega) (by omega),o7,hre]
  simp only
  by_cases hM:1000000000000000<A / b
  ·rw[E8 hM,E8 (show(1000000000000000:Int)<q1 (A / b) (upS (A / b) (A % b) b (E5 (bZ (E5 (bZ (ilt c 0) (ilt num 0))) (ilt den 0))) mode) by omega)];rfl
  ·rw[D9 (by omega),l9,JJ _ _ e0 (by omega) e2 e3 (by omega),o7]
   cases hq:ilt 1000000000000000 (q1 (A / b) (upS (A / b) (A % b) b (E5 (bZ (E5 (bZ (ilt c 0) (ilt num 0))) (ilt den 0))) mode))
   ·rw[aT]at hq
    rw[l9,Rj _ (by omega) (by omega)];rfl
   ·rfl
theorem a3c {q:Int} (h:0≤q) (neg:Bool) {m:Int} (hm:0≤m):bQ (sg q neg) m=ilt m q:=by
 rw[Bool.eq_iff_iff,EQ,bW]
 unfold sg
 cases neg <;> simp only[o5,l9] <;> omega
theorem Yj (c num den mode:Int):c7M c num den mode=some (mdS c num den mode):=by
 unfold c7M mdS
 rw[FZ,o7]
 cases eY mode
 ·rfl
 simp only[o9,l9,o5]
 cases hd:ieq den 0
 case true=>rfl
 rw[lG]at hd
 simp only[l9]
 rw[jC c (by omega) (by omega),o7]
 cases h1:bQ c 1000000000000000
 case true=>rfl
 rw[jC num (by omega) (by omega)]
 cases h2:bQ num 1000000000
 case true=>rfl
 rw[jC den (by omega) (by omega)]
 cases h3:bQ den 1000000000
 case true=>rfl
 have b1:=gz h1;have b2:=gz h2;have b3:=gz h3
 have a1:=dB c;have a2:=nR b1;have x1:=dB num;have x2:=nR b2;have d1:=AL hd;have d2:=nR b3
 simp only[l9,o7,D7]
 rw[Df (by omega) (by omega),o7,Df (by omega) (by omega),o7,Df (by omega) (by omega),o7]
 generalize E5 (bZ (E5 (bZ (ilt c 0) (ilt num 0))) (ilt den 0))=neg
 generalize J8 c=a at*
 generalize J8 num=x at*
 generalize J8 den=b at*
 have hdm:=Int.ediv_mul_add_emod a b
 have f0:=Int.ediv_nonneg a1 (show 0≤b by omega)
 have f1:=Int.emod_nonneg a (show b≠0 by omega)
 have f2:=Int.emod_lt_of_pos a d1
 have m1:0≤a % b*x:=Int.mul_nonneg f1 x1
 have m2:a % b*x≤1000000000*1000000000:=Int.mul_le_mul (by omega) x2 x1 (by omega)
 have m3:0≤a / b*x:=Int.mul_nonneg f0 x1
 have hA:a*x=a / b*x*b+a % b*x:=by
  calc a*x=(a / b*b+a % b)*x:=by rw[hdm]
   _=_:=by rw[Int.add_mul,Int.mul_right_comm]
 have hQ:a*x / b=a / b*x+a % b*x / b:=by
  rw[hA,Int.add_comm,Int.add_mul_ediv_right _ _ (by omega),Int.add_comm]
 have hR:a*x % b=a % b*x % b:=by
  rw[hA,Int.add_comm,Int.add_mul_emod_self_right]
 have g0:=Int.ediv_nonneg m1 (show 0≤b by omega)
 have g1:=Int.ediv_le_self b m1
 have g2:=Int.emod_nonneg (a % b*x) (show b≠0 by omega)
 have g3:=Int.emod_lt_of_pos (a % b*x) d1
 have tail:a / b*x≤1000000000000000→(o6 (AO a b) fun(x_5:Int)=>o6 (some (a / b)) fun(x_8:Int)=>o6 (uZ .i64 (W9 .i64 x_5 x) b) fun(x_6:Int)=>o6 (AO (W9 .i64 x_5 x) b) fun(x_7:Int)=>
   o6 (c6X (A7 .i64 (W9 .i64 x_8 x) x_6) x_7 b neg mode) fun(x_9:Int)=>o6 (c6R x_9 1000000000000000) fun(x_8:Bool)=>l7 x_8 (some ((0:Int),(3:Int))) (some (x_9,0)))=
   some (l7 (ilt 1000000000000000 (q1 (a*x / b) (upS (a*x / b) (a*x % b) b neg mode))) (0,3) (sg (q1 (a*x / b) (upS (a*x / b) (a*x % b) b neg mode)) neg,0)):=by
  intro hle
  have q:=Oc (a / b*x+a % b*x / b) (upS (a / b*x+a % b*x / b) (a % b*x % b) b neg mode)
  rw[qm a1 d1,o7,o7,dI (show I64 (a % b*x) by unfold I64;omega),lu m1 (by omega) d1,o7,qm m1 d1,o7,dI (show I64 (a / b*x) by unfold I64;omega),J5 (show I64 (a / b*x+a % b*x / b) by unfold I64;omega),
   tV _ _ (by omega) (by omega) g2 g3 (by omega),o7,jC _ (by omega) (by omega),o7,a3c (by omega) _ (by omega),hQ,hR]
  cases ilt 1000000000000000 (q1 (a / b*x+a % b*x / b) (upS (a / b*x+a % b*x / b) (a % b*x % b) b neg mode)) <;> rfl
 by_cases hx:0<x
 ·rw[E8 hx,o5,lu a1 (by omega) d1,o7,lu (by omega) (by omega) hx,o7]
  have hMx:=Int.ediv_mul_add_emod 1000000000000000 x
  have hMr:=Int.emod_lt_of_pos 1000000000000000 hx
  have hMr0:=Int.emod_nonneg 1000000000000000 (show x≠0 by omega)
  by_cases hc:1000000000000000 / x<a / b
  ·have:=Int.mul_le_mul_of_nonneg_right (show 1000000000000000 / x+1≤a / b by omega) x1
   rw[Int.add_mul,Int.one_mul]at this
   have q:=Oc (a*x / b) (upS (a*x / b) (a*x % b) b neg mode)
   rw[E8 hc,E8 (show(1000000000000000:Int)<q1 (a*x / b) (upS (a*x / b) (a*x % b) b neg mode) by omega)];rfl
  ·have:=Int.mul_le_mul_of_nonneg_right (show a / b≤1000000000000000 / x by omega) x1
   rw[D9 (by omega),l9]
   exact tail (by omega)
 ·have:x=0:=by omega
  rw[D9 (by omega),l9,lu a1 (by omega) d1]
  exact tail (by subst this;simp)
theorem a2V (c r mode:Int):vO c r mode=some (mdS c r 1000000 mode):=by
 unfold vO;rw[a1R];rfl
theorem a2o (c r mode:Int):c7J c r mode=some (mdS c r 1000000 mode):=by
 unfold c7J;rw[Yj];rfl
theorem UQ {n d:Int} (h1:-9000000000000000000≤n) (h2:n≤9000000000000000000) (hd:0<d) (hd2:d≤9000000000000000000):c7s n d=some (n / d,n % d):=by
 unfold c7s uZ AO
 rw[if_neg (by omega),if_neg (by omega),o7,o7]
 by_cases h0:0≤n
 ·have e0:=Int.ediv_nonneg h0 (show 0≤d by omega)
  have e1:=Int.ediv_le_self d h0
  have e2:=Int.emod_nonneg n (show d≠0 by omega)
  rw[bu h0,Int.tmod_eq_emod_of_nonneg h0,dM (by unfold I64;omega),D9 e2];rfl
 ·obtain⟨m,hm⟩:∃m,m=-n:=⟨_,rfl⟩
  have hn:n=-m:=by omega
  subst hn
  have e0:=Int.ediv_nonneg (show 0≤m by omega) (show 0≤d by omega)
  have e1:=Int.ediv_le_self d (show 0≤m by omega)
  have e2:=Int.emod_nonneg m (show d≠0 by omega)
  have e3:=Int.emod_lt_of_pos m hd
  have hdm:=Int.ediv_mul_add_emod m d
  rw[Int.neg_tdiv,Int.neg_tmod,bu (by omega),Int.tmod_eq_emod_of_nonneg (by omega),dM (by unfold I64;omega)]
  by_cases hz:m % d=0
  ·rw[hz,show -(0:Int)=0 from rfl,D9 (by omega),l9]
   have hme:-m=0+(-(m / d))*d:=by rw[Int.neg_mul];omega
   have q1:-m / d=-(m / d):=by rw[hme,Int.add_mul_ediv_right _ _ (by omega)];simp
   have q2:-m % d=0:=by rw[hme,Int.add_mul_emod_self_right];simp
   rw[q1,q2]
  ·rw[E8 (by omega),o5,H8 (by unfold I64;omega),J5 (by unfold I64;omega)]
   have hme:-m=(d -m % d)+(-(m / d) -1)*d:=by rw[Int.sub_mul,Int.neg_mul,Int.one_mul];omega
   have q1:-m / d=-(m / d) -1:=by
    rw[hme,Int.add_mul_ediv_right _ _ (by omega),Int.ediv_eq_zero_of_lt (by omega) (by omega)];omega
   have q2:-m % d=d -m % d:=by
    rw[hme,Int.add_mul_emod_self_right,Int.emod_eq_of_lt (by omega) (by omega)]
   rw[q1,q2,show -(m % d)+d=d -m % d by omega]
end Go.GP
