import Derived.Test.YtamfjfpncfkggaaGreatDoorT1
import Derived.Test.YtamfjfpncfkggaaGreatDoorT2
set_option linter.all false
namespace Go.GP
section
variable {α β σ ε ρ:Type}
@[simp] theorem o7 (x:α) (f:α→Option β):o5 (some x) f=f x:=rfl
@[simp] theorem b1N (f:α→Option β):o5 none f=none:=rfl
theorem iL {o:Option α} {x:α} (h:o=some x) (f:α→Option β):o5 o f=f x:=by rw[h];rfl
theorem Y9 {o o' :Option α} (h:o=o') {K:α→Option β} {r:Option β} (h2:o5 o' K=r):o5 o K=r:=by rw[h];exact h2
theorem bb (a b:Bool):l7 a (some b) (some false)=some (a&&b):=by cases a <;> rfl
theorem bH (o:Option α):o5 o (fun x=>some x)=o:=by cases o <;> rfl
@[simp] theorem o6 (x y:α):l7 true x y=x:=rfl
@[simp] theorem l9 (x y:α):l7 false x y=y:=rfl
theorem sV {b:Bool} (h:b=true) (x y:α):l7 b x y=x:=by rw[h];rfl
theorem xf {b:Bool} (h:b=false) (x y:α):l7 b x y=y:=by rw[h];rfl
@[simp] theorem D7 (s:σ) (f:σ→α) (g:ε→α):U7 (.inl s) f g=f s:=rfl
@[simp] theorem G5 (s:ε) (f:σ→α) (g:ε→α):U7 (.inr s) f g=g s:=rfl
@[simp] theorem o9:E5 true=false:=rfl
@[simp] theorem D6:E5 false=true:=rfl
theorem E9 {a b:Int} (h:a<b):ilt a b=true:=by simp[ilt,h]
theorem D9 {a b:Int} (h:b≤a):ilt a b=false:=by simp[ilt];omega
theorem F7 {a b:Int} (h:a≤b):ile a b=true:=by simp[ile,h]
theorem F8 {a b:Int} (h:b<a):ile a b=false:=by simp[ile];omega
theorem F5 {a b:Int} (h:a=b):ieq a b=true:=by simp[ieq,h]
theorem D8 {a b:Int} (h:a≠b):ieq a b=false:=by simp[ieq,h]
theorem cu {a b:Int} :ilt a b=true↔a<b:=by simp[ilt]
theorem iG {a b:Int} :ile a b=true↔a≤b:=by simp[ile]
theorem N7 {a b:Int} :ieq a b=true↔a=b:=by simp[ieq]
theorem bF {a b:Int} :ilt a b=false↔b≤a:=by simp[ilt]
theorem xH {a b:Int} :ile a b=false↔b<a:=by simp[ile]
theorem pW {a b:Int} :ieq a b=false↔a≠b:=by simp[ieq]
theorem dJ {a b:List UInt8} :seq a b=true↔a=b:=by simp[seq]
theorem LU {a b:List UInt8} :seq a b=false↔a≠b:=by simp[seq]
theorem aU {a b:Int} (h:0≤a):a.tdiv b=a / b:=Int.tdiv_eq_ediv_of_nonneg h
theorem ny {a b:Int} (h:0≤a):dH a b=a % b:=Int.tmod_eq_emod_of_nonneg h
def I64 (n:Int):Prop:=-9223372036854775808≤n∧n≤9223372036854775807
def U64 (n:Int):Prop:=0≤n∧n≤18446744073709551615
theorem dB {n:Int} (h:I64 n):IntKind.wrap .i64 n=n:=by
 unfold I64 at h
 unfold IntKind.wrap
 simp[IntKind.signed,IntKind.bits]
 omega
theorem a4U {n:Int} (h:U64 n):IntKind.wrap .u64 n=n:=by
 unfold U64 at h
 unfold IntKind.wrap
 simp[IntKind.signed,IntKind.bits]
 omega
theorem I9 {a b:Int} (h:I64 (a+b)):x9 .i64 a b=a+b:=dB h
theorem H5 {a b:Int} (h:I64 (a -b)):G8 .i64 a b=a -b:=dB h
theorem di {a b:Int} (h:I64 (a*b)):U6 .i64 a b=a*b:=dB h
theorem pX {a b:Int} (h:I64 (a.tdiv b)):az .i64 a b=a.tdiv b:=dB h
theorem MK {n:Int} (h:(Lit.int .i64 n).wf=true):I64 n:=by
 simp[Lit.wf,IntKind.min,IntKind.max,IntKind.signed,IntKind.bits]at h
 unfold I64;omega
theorem SH (l:List α):0≤o8 l:=by simp[o8]
theorem F9 (l:List α) (i:Nat):lat l (i:Int)=l[i]?:=by simp[lat]
theorem jC {l:List α} {i:Int} {x:α} (h:lat l i=some x):0≤i∧i<o8 l∧x∈l∧l[i.toNat]? =some x:=by
 unfold lat at h
 split at h
 ·rename_i h0
  obtain⟨h1,h2⟩:=O7.1 h
  refine⟨h0,by simp[o8];omega,?_,h⟩
  rw[←h2];exact List.getElem_mem h1
 ·cases h
theorem fU {l:List α} {i:Int} (h0:0≤i) (h:i<o8 l):∃x,lat l i=some x∧x∈l:=by
 unfold o8 at h
 refine⟨l[i.toNat]'(by omega),?_,List.getElem_mem _⟩
 unfold lat
 rw[if_pos h0,aQ]
theorem YG (l:List UInt8) (i:Nat):sat l (i:Int)=(l[i]?).map fun c=>(c.toNat:Int):=by simp[sat]
theorem Ed {a b:List α} (h:a.length+b.length≤1073741824):cO a b=some (a++b):=by simp[cO,h]
theorem a5K {l:List α} {lo hi:Int} (h0:0≤lo) (h1:lo≤hi) (h2:hi≤l.length):zC l lo hi=some ((l.take hi.toNat).drop lo.toNat):=by simp[zC,h0,h1,h2]
theorem a5L {l:List α} {hi:Int} (h1:0≤hi) (h2:hi≤l.length):zC l 0 hi=some (l.take hi.toNat):=by rw[a5K (by omega) h1 h2];simp
end
section
variable {σ ε ρ:Type}
theorem Hm {f:σ→Option (σ⊕ε)} (Inv:σ→Prop) (Q:ε→Prop) (meas:σ→Nat)
  (h:∀s,Inv s→(∃s',f s=some (.inl s')∧Inv s' ∧meas s' <meas s)∨(∃e,f s=some (.inr e)∧Q e)):
  ∀n s,Inv s→meas s<n→∃e,jb f n s=some e∧Q e
 | 0,_,_,h=>by omega
 | n+1,s,hi,hm=>by
  unfold jb
  rcases h s hi with⟨s',e,hi',hm'⟩ | ⟨x,e,hx⟩
  ·rw[e];exact Hm Inv Q meas h n s' hi' (by omega)
  ·rw[e];exact⟨x,rfl,hx⟩
theorem Z9 {f:σ→Option (σ⊕ε)} {s:σ} (Inv:σ→Prop) (Q:ε→Prop) (meas:σ→Nat) (hi:Inv s) (hm:meas s<18446744073709551616)
  (h:∀s,Inv s→(∃s',f s=some (.inl s')∧Inv s' ∧meas s' <meas s)∨(∃e,f s=some (.inr e)∧Q e)):∃e,U9 f s=some e∧Q e:=
 Hm Inv Q meas h _ s hi hm
theorem KE {f:σ→Option (Out σ ε ρ)} (Inv:σ→Prop) (Q:ε→Prop) (Qr:ρ→Prop) (meas:σ→Nat)
  (h:∀s,Inv s→(∃s',f s=some (.nx s')∧Inv s' ∧meas s' <meas s)∨(∃e,f s=some (.ex e)∧Q e)∨(∃r,f s=some (.rt r)∧Qr r)):
  ∀n s,Inv s→meas s<n→(∃e,gJ f n s=some (.inl e)∧Q e)∨(∃r,gJ f n s=some (.inr r)∧Qr r)
 | 0,_,_,h=>by omega
 | n+1,s,hi,hm=>by
  unfold gJ
  rcases h s hi with⟨s',e,hi',hm'⟩ | ⟨x,e,hx⟩ | ⟨x,e,hx⟩
  ·rw[e];exact KE Inv Q Qr meas h n s' hi' (by omega)
  ·rw[e];exact .inl ⟨x,rfl,hx⟩
  ·rw[e];exact .inr ⟨x,rfl,hx⟩
theorem uD {f:σ→Option (Out σ ε ρ)} {s:σ} (Inv:σ→Prop) (Q:ε→Prop) (Qr:ρ→Prop) (meas:σ→Nat) (hi:Inv s) (hm:meas s<18446744073709551616)
  (h:∀s,Inv s→(∃s',f s=some (.nx s')∧Inv s' ∧meas s' <meas s)∨(∃e,f s=some (.ex e)∧Q e)∨(∃r,f s=some (.rt r)∧Qr r)):
  (∃e,P5 f s=some (.inl e)∧Q e)∨(∃r,P5 f s=some (.inr r)∧Qr r):=
 KE Inv Q Qr meas h _ s hi hm
end
section
variable {α β ε ρ:Type}
open Classical in
theorem Ou (l:List α) (p:Nat→α→Bool) (r:ρ) (e:ε) (f:Int→Option (Out Int ε ρ)) (hl:l.length<18446744073709551616)
  (hin:∀(i:Nat) (a:α),l[i]? =some a→f (i:Int)=if p i a=true then some (.nx ((i+1:Nat):Int))else some (.rt r))
  (hend:f (l.length:Int)=some (.ex e)):
  P5 f 0=if(∀i a,l[i]? =some a→p i a=true)then some (.inl e)else some (.inr r):=by
 have key:∀(n i:Nat),i≤l.length→l.length -i<n→(∀j a,j<i→l[j]? =some a→p j a=true)→gJ f n (i:Int)=if(∀i a,l[i]? =some a→p i a=true)then some (.inl e)else some (.inr r):=by
  intro n
  induction n with
  | zero=>intro i _ h;omega
  | succ n ih=>
   intro i hi hn hp
   unfold gJ
   by_cases h:i<l.length
   ·have e' :=aQ h
    rw[hin i _ e']
    by_cases hpi:p i l[i]=true
    ·rw[if_pos hpi]
     exact ih (i+1) (by omega) (by omega) fun j a hj ha=>by
      by_cases hji:j=i
      ·subst hji;rw[e']at ha;cases ha;exact hpi
      ·exact hp j a (by omega) ha
    ·rw[if_neg hpi,if_neg]
     intro hall
     exact hpi (hall i _ e')
   ·have:i=l.length:=by omega
    subst this
    rw[hend,if_pos]
    intro j a ha
    exact hp j a (O7.1 ha).1 ha
 exact key _ 0 (Nat.zero_le _) hl fun j a hj=>by omega
end
end Go.GP
namespace Go.GP
section
variable {α β α' β' σ τ ε ε' ρ ρ' :Type}
def Ag (R:α→β→Prop) (o:Option α) (p:Option β):Prop:=∃a b,o=some a∧p=some b∧R a b
theorem Ag.mk {R:α→β→Prop} {a:α} {b:β} (h:R a b):Ag R (some a) (some b):=⟨a,b,rfl,rfl,h⟩
theorem Ag.mono {R S:α→β→Prop} {o:Option α} {p:Option β} (h:Ag R o p) (hs:∀a b,o=some a→p=some b→R a b→S a b):Ag S o p:=by
 obtain⟨a,b,h1,h2,h3⟩:=h
 exact⟨a,b,h1,h2,hs a b h1 h2 h3⟩
theorem Ag.bind {R:α→β→Prop} {S:α' →β' →Prop} {o:Option α} {p:Option β} {f:α→Option α'} {g:β→Option β'} (h:Ag R o p)
  (hk:∀a b,o=some a→p=some b→R a b→Ag S (f a) (g b)):Ag S (o5 o f) (o5 p g):=by
 obtain⟨a,b,h1,h2,h3⟩:=h
 have:=hk a b h1 h2 h3
 rw[h1,h2];exact this
theorem Ag.left {S:α' →β→Prop} {o:Option α} {a:α} {f:α→Option α'} {p:Option β} (h:o=some a) (hk:Ag S (f a) p):Ag S (o5 o f) p:=by rw[h];exact hk
theorem Ag.right {S:α→β' →Prop} {p:Option β} {b:β} {g:β→Option β'} {o:Option α} (h:p=some b) (hk:Ag S o (g b)):Ag S o (o5 p g):=by rw[h];exact hk
theorem Ag.cond {S:α→β→Prop} {b c:Bool} {x y:Option α} {u v:Option β} (h:b=c) (h1:b=true→Ag S x u) (h2:b=false→Ag S y v):Ag S (l7 b x y) (l7 c u v):=by
 subst h
 cases b
 ·exact h2 rfl
 ·exact h1 rfl
theorem Ag.eq {o p:Option α} (h:Ag Eq o p):∃a,o=some a∧p=some a:=by
 obtain⟨a,b,h1,h2,rfl⟩:=h
 exact⟨a,h1,h2⟩
def c0P (E:ε→ε' →Prop) (Q:ρ→ρ' →Prop):ε⊕ρ→ε' ⊕ρ' →Prop
 | .inl a,.inl b=>E a b
 | .inr a,.inr b=>Q a b
 | _,_=>False
theorem Ag.sum {E:ε→ε' →Prop} {Q:ρ→ρ' →Prop} {S:α→β→Prop} {o:ε⊕ρ} {p:ε' ⊕ρ'} {f:ε→Option α} {g:ρ→Option α} {f' :ε' →Option β} {g' :ρ' →Option β} (h:c0P E Q o p)
  (h1:∀a b,E a b→Ag S (f a) (f' b)) (h2:∀a b,Q a b→Ag S (g a) (g' b)):Ag S (U7 o f g) (U7 p f' g'):=by
 cases o <;> cases p <;> first | exact h1 _ _ h | exact h2 _ _ h | exact h.elim
theorem zy {p:Nat→Option ρ} (n:Nat) (hn:n<18446744073709551616) (e:ε) {f:Int→Option (Out Int ε ρ)}
  (h1:∀i,i<n→f (i:Int)=some (match p i with | some r=> .rt r | none=> .nx ((i+1:Nat):Int))) (h2:f (n:Int)=some (.ex e)):
  P5 f 0=some (match(List.range n).findSome? p with | some r=> .inr r | none=> .inl e):=by
 have key:∀m i,i+m=n→∀k,m<k→gJ f k (i:Int)=some (match(List.range' i m).findSome? p with | some r=> .inr r | none=> .inl e):=by
  intro m
  induction m with
  | zero=>
   intro i hi k hk
   obtain⟨k,rfl⟩:∃k',k=k' +1:=⟨k -1,by omega⟩
   have:i=n:=by omega
   subst this
   unfold gJ
   rw[h2]
   rfl
  | succ m ih=>
   intro i hi k hk
   obtain⟨k,rfl⟩:∃k',k=k' +1:=⟨k -1,by omega⟩
   unfold gJ
   rw[h1 i (by omega),List.range'_succ,List.findSome?_cons]
   cases hp:p i with
   | some r=>rfl
   | none=>exact ih (i+1) (by omega) k (by omega)
 have:=key n 0 (by omega) dK hn
 rw[List.range_eq_range']
 exact this
end
end Go.GP
namespace Go.GP
open Gt
set_option maxRecDepth 100000
theorem V6 {i:Nat} (h:i≤9000000000000000000):x9 .i64 (i:Int) 1=((i+1:Nat):Int):=by
 rw[I9 (by unfold I64;omega)];omega
def PZ (c:UInt8):Bool:=decide (97≤c.toNat)&&decide (c.toNat≤122)
def yI (c:UInt8):Bool:=PZ c || (decide (48≤c.toNat)&&decide (c.toNat≤57)) || decide (c.toNat=95)
def Nq:List (List UInt8):=c5n.getD []
def wK (s:List UInt8):Bool:=match s with | []=>false | c::r=>decide (s.length≤16)&&PZ c&&s.all yI&&!(Nq.any fun w=>seq s w)
theorem Zw (c:UInt8) (r:List UInt8):wK (c::r)=(decide ((c::r).length≤16)&&PZ c&&(c::r).all yI&&!(Nq.any fun w=>seq (c::r) w)):=rfl
theorem SQ (c:UInt8):kJ (c.toNat:Int)=some (PZ c):=by
 unfold kJ PZ
 cases h:decide (97≤c.toNat) <;> simp only[decide_eq_true_eq,decide_eq_false_iff_not]at h
 ·rw[F8 (by omega)];rfl
 ·rw[F7 (by omega)]
  simp only[o6,Bool.true_and,ile]
  congr 1
  by_cases h2:c.toNat≤122 <;> simp[h2] <;> omega
def a1g (c:UInt8):Bool:=decide (48≤c.toNat)&&decide (c.toNat≤57)
theorem a1h (c:UInt8):nz (c.toNat:Int)=some (a1g c):=by
 unfold nz a1g
 cases h:decide (48≤c.toNat) <;> simp only[decide_eq_true_eq,decide_eq_false_iff_not]at h
 ·rw[F8 (by omega)];rfl
 ·rw[F7 (by omega)]
  simp only[o6,Bool.true_and,ile]
  congr 1
  by_cases h2:c.toNat≤57 <;> simp[h2] <;> omega
theorem b5w (c:UInt8):ieq (c.toNat:Int) 95=decide (c.toNat=95):=by
 unfold ieq
 by_cases h:c.toNat=95 <;> simp[h] <;> omega
theorem Na {s:List UInt8} (h:s.length≤1000000):∃k,mJ s=some k∧(k=o8 s↔s.all yI=true):=by
 unfold mJ
 have:=Z9 (f:=fun(x:Int)=>l7 (ilt x (o8 s)) (o5 (sat s x) fun x_1=>o5 (kJ x_1) fun x_2=>l7 x_2 (some (Sum.inl (x9 IntKind.i64 x 1)))
   (o5 (sat s x) fun x_3=>o5 (nz x_3) fun x_4=>l7 x_4 (some (Sum.inl (x9 IntKind.i64 x 1))) (o5 (sat s x) fun x_5=>l7 (ieq x_5 95) (some (Sum.inl (x9 IntKind.i64 x 1))) (some (Sum.inr x))))) (some (Sum.inr x)))
  (s:=0) (fun x=>∃i:Nat,x=i∧i≤s.length∧(s.take i).all yI=true) (fun k=>k=o8 s↔s.all yI=true) (fun x=>s.length -x.toNat) ⟨0,rfl,by omega,rfl⟩ (by simp;omega) ?_
 ·obtain⟨k,h1,h2⟩:=this
  refine⟨k,?_,h2⟩
  rw[bH];exact h1
 ·rintro x ⟨i,rfl,hi,hall⟩
  by_cases hl:i<s.length
  ·have e:=aQ hl
   simp only[E9 (show(i:Int)<o8 s by simp[o8];omega),o6,YG,e,Option.map_some,o7,SQ,a1h,b5w]
   have hst:(s.take (i+1)).all yI=((s.take i).all yI&&yI s[i]):=by rw[List.take_succ_eq_append_getElem hl,List.all_append];simp
   have hw:yI s[i]=(PZ s[i] || a1g s[i] || decide (s[i].toNat=95)):=rfl
   cases hwb:yI s[i]with
   | true=>
    left
    refine⟨((i+1:Nat):Int),?_,⟨i+1,rfl,hl,by rw[hst,hall,hwb];rfl⟩,by simp;omega⟩
    rw[V6 (by omega)]
    rw[hw]at hwb
    cases h1:PZ s[i] <;> cases h2:a1g s[i] <;> cases h3:decide (s[i].toNat=95) <;> rw[h1,h2,h3]at hwb <;> first | rfl | cases hwb
   | false=>
    right
    refine⟨(i:Int),?_,?_⟩
    ·rw[hw]at hwb
     cases h1:PZ s[i] <;> cases h2:a1g s[i] <;> cases h3:decide (s[i].toNat=95) <;> rw[h1,h2,h3]at hwb <;> first | rfl | cases hwb
    ·constructor
     ·intro h;simp[o8]at h;omega
     ·intro h
      have:=List.all_eq_true.1 h s[i] (List.getElem_mem hl)
      rw[hwb]at this;cases this
  ·right
   have:i=s.length:=by omega
   subst this
   rw[List.take_length]at hall
   exact⟨_,by rw[D9 (by simp[o8])];rfl,by simp[o8,hall]⟩
theorem a0l {a:List UInt8} {w:List UInt8} {r:Option Bool} {x:Bool} (h:r=some x):l7 (seq a w) (some (seq a w)) r=some (seq a w || x):=by
 rw[h];cases seq a w <;> rfl
theorem TS (s:List UInt8):qg s=some (Nq.any fun w=>seq s w):=by
 unfold qg
 refine Y9 (o' :=some (Nq.any fun w=>seq s w)) ?_ (by cases Nq.any fun w=>seq s w <;> rfl)
 have hr:Nq=(c5n).getD []:=rfl
 rw[show(Nq.any fun w=>seq s w)=List.foldr (fun w b=>seq s w || b) false Nq from by induction Nq with | nil=>rfl | cons w l ih=>simp[List.any_cons,ih]]
 unfold Nq c5n
 simp only[Option.getD_some,List.foldr]
 repeat (refine a0l ?_)
 simp
theorem gZ {s:List UInt8} (h:s.length≤1000000):Z8 s=some (wK s):=by
 unfold Z8
 cases s with
 | nil=>rfl
 | cons c r=>
  have h1:seq (c::r) []=false:=by simp[seq]
  obtain⟨k,h2,h3⟩:=Na h
  rw[h1]
  simp only[D6,o6]
  rw[show sat (c::r) 0=some (c.toNat:Int)from rfl,o7,SQ,o7,h2,o7,TS,o7]
  have h4:ieq k (o8 (c::r))=(c::r).all yI:=by
   rw[Bool.eq_iff_iff,N7];exact h3
  have h5:ile (o8 (c::r)) 16=decide ((c::r).length≤16):=by simp only[ile,o8];congr 1;simp;omega
  rw[h4,h5,Zw]
  cases PZ c <;> cases (c::r).all yI <;> cases decide ((c::r).length≤16) <;> rfl
theorem EU (t:Int×Int) (en:List bC):ah t en=c4s t en:=by
 unfold ah c4s
 by_cases h1:t.1=1
 ·simp[ieq,h1,ile]
 by_cases h2:t.1=2
 ·simp[ieq,h2,ile]
 by_cases h3:t.1=3
 ·simp[ieq,h3,ile]
 by_cases h4:t.1=4
 ·simp[ieq,h4,ile]
 by_cases h5:t.1=5
 ·simp[ieq,h5,ile]
 by_cases h6:t.1=6
 ·simp[ieq,h6,ile]
 ·simp only[ieq,h1,h2,h3,h4,h5,h6,decide_false,l9,o7]
  by_cases h7:1≤t.1
  ·rw[sV (F7 h7),xf (F8 (by omega))]
  ·rw[xf (F8 (by omega))]
theorem Zb (t:Int×Int) (en:List bC):iR t en=c4E t en:=by
 unfold iR c4E
 rw[EU]
def vty (t:Int×Int) (en:List bC):Bool:=l7 (ieq t.1 6) (l7 (ile 0 t.2) (ilt t.2 (o8 en)) false) (l7 (ile 1 t.1) (l7 (ile t.1 5) (ieq t.2 0) false) false)
theorem gq (t:Int×Int) (en:List bC):c4s t en=some (vty t en):=by
 unfold c4s vty
 cases ieq t.1 6 <;> cases ile 0 t.2 <;> cases ile 1 t.1 <;> cases ile t.1 5 <;> rfl
theorem mP (t:Int×Int) (en:List bC):ah t en=some (vty t en):=(EU t en).trans (gq t en)
theorem Qq (t:Int×Int) (en:List bC):∃b:Int×Int,c4E t en=some b:=by
 unfold c4E
 rw[gq,o7]
 cases hv:vty t en
 ·exact⟨_,rfl⟩
 simp only[o9,l9]
 cases h1:ieq t.1 1 <;> simp only[o6,l9]
 ·cases h2:ieq t.1 2 <;> simp only[o6,l9]
  ·cases h3:ieq t.1 3 <;> simp only[o6,l9]
   ·cases h4:ieq t.1 4 <;> simp only[o6,l9]
    ·cases h5:ieq t.1 5 <;> simp only[o6,l9]
     ·have h6:ieq t.1 6=true∧ile 0 t.2=true∧ilt t.2 (o8 en)=true:=by
       unfold vty at hv
       rw[pW]at h1 h2 h3 h4 h5
       cases h6:ieq t.1 6 <;> rw[h6]at hv
       ·rw[pW]at h6
        cases h7:ile 1 t.1 <;> rw[h7]at hv
        ·cases hv
        cases h8:ile t.1 5 <;> rw[h8]at hv
        ·cases hv
        rw[iG]at h7 h8
        omega
       ·cases h7:ile 0 t.2 <;> rw[h7]at hv
        ·cases hv
        ·exact⟨rfl,rfl,hv⟩
      obtain⟨x,hx,_⟩:=fU (iG.1 h6.2.1) (cu.1 h6.2.2)
      rw[hx];exact⟨_,rfl⟩
     ·exact⟨_,rfl⟩
    ·exact⟨_,rfl⟩
   ·exact⟨_,rfl⟩
  ·exact⟨_,rfl⟩
 ·exact⟨_,rfl⟩
def bnd (t:Int×Int) (en:List bC):Int×Int:=(c4E t en).getD (0,0)
theorem Lm (t:Int×Int) (en:List bC):c4E t en=some (bnd t en):=by
 obtain⟨b,h⟩:=Qq t en
 unfold bnd;rw[h];rfl
theorem Fp (t:Int×Int) (en:List bC):iR t en=some (bnd t en):=(Zb t en).trans (Lm t en)
def inB (n:Int) (b:Int×Int):Bool:=l7 (ile b.1 n) (ile n b.2) false
def zh (r:Int×Int):Bool:=l7 (ile 0 r.1) (l7 (ile r.1 r.2) (ile r.2 109573) false) false
theorem Be (r:Int×Int):ig r=some (zh r):=by
 unfold ig zh
 cases ile 0 r.1 <;> cases ile r.1 r.2 <;> rfl
def Xn (a b:Int×Int):(Int×Int)×Bool:=l7 (zh a) (l7 (zh b) (l7 (ile (jM a.2 b.2) (gu a.1 b.1)) ((0,0),false) ((gu a.1 b.1,jM a.2 b.2),true)) ((0,0),false)) ((0,0),false)
theorem a6z (a b:Int×Int):jk a b=some (Xn a b):=by
 unfold jk kQ Xn
 rw[Be,o7,Be,o7]
 cases zh a
 ·rfl
 simp only[o6]
 cases h1:ilt a.1 a.2
 ·rw[bF]at h1
  rw[F7 (show jM a.2 b.2≤gu a.1 b.1 by unfold jM gu;omega)]
  cases zh b <;> rfl
 simp only[o7,o9,l9]
 cases zh b
 ·rfl
 simp only[o6]
 cases h2:ilt b.1 b.2
 ·rw[bF]at h2
  rw[F7 (show jM a.2 b.2≤gu a.1 b.1 by unfold jM gu;omega)]
  rfl
 ·cases ile (jM a.2 b.2) (gu a.1 b.1) <;> rfl
def uY (a b:rW):Bool:=l7 (Xn a.1 b.1).2 (ilt (gu a.2.1 b.2.1) (jM a.2.2.1 b.2.2.1)) false
theorem Rw (a b:rW):qA a b=some (uY a b):=by
 unfold qA uY
 rw[a6z,o7]
 cases (Xn a.1 b.1).2 <;> rfl
theorem a1s {l:List rW} (r:rW) (h:l.length≤1000000):∃k:Int,jq l r=some (k,l.any fun y=>uY y r):=by
 unfold jq
 have key:=uD (f:=fun(x:Int)=>l7 (ilt x (o8 l)) (o5 (lat l x) fun x_1=>o5 (jK x_1 r) fun x_2=>l7 x_2 (some (Out.rt (x,true))) (some (Out.nx (x9 IntKind.i64 x 1)))) (some (Out.ex PUnit.unit)))
   (s:=0) (fun x=>∃i:Nat,x=i∧i≤l.length∧(l.take i).any (fun y=>uY y r)=false) (fun _=>(l.any fun y=>uY y r)=false) (fun k=>k.2=true∧(l.any fun y=>uY y r)=true) (fun x=>l.length -x.toNat) ⟨0,rfl,by omega,rfl⟩ (by simp;omega) ?_
 ·rcases key with⟨e,h1,h2⟩ | ⟨k,h1,h2,h3⟩
  ·exact⟨0,by rw[h1,h2];rfl⟩
  ·refine⟨k.1,?_⟩
   rw[h1,h3,←h2];rfl
 ·rintro x ⟨i,rfl,hi,hall⟩
  by_cases hl:i<l.length
  ·have e:=aQ hl
   have hst:(l.take (i+1)).any (fun y=>uY y r)=((l.take i).any (fun y=>uY y r) || uY l[i] r):=by rw[List.take_succ_eq_append_getElem hl,List.any_append];simp
   have hv:jK l[i] r=some (uY l[i] r):=by unfold jK;rw[Rw];rfl
   simp only[E9 (show(i:Int)<o8 l by simp[o8];omega),o6,F9,e,o7,hv]
   cases hc:uY l[i] r with
   | true=>exact .inr (.inr ⟨_,rfl,rfl,List.any_eq_true.2 ⟨l[i],List.getElem_mem hl,hc⟩⟩)
   | false=>exact .inl ⟨((i+1:Nat):Int),by rw[V6 (by omega)];rfl,⟨i+1,rfl,hl,by rw[hst,hall,hc];rfl⟩,by simp;omega⟩
  ·have:i=l.length:=by omega
   subst this
   rw[List.take_length]at hall
   exact .inr (.inl ⟨_,by rw[D9 (by simp[o8])];rfl,hall⟩)
def WR (x:rW) (bl br:Int×Int):Bool:=
 l7 (zh x.1) (l7 (ieq x.1.1 x.1.2) true (l7 (ile x.2.2.1 x.2.1) true (l7 (inB x.2.1 bl) (l7 (inB (G8 .i64 x.2.2.1 1) bl) (E5 (inB x.2.2.2 br)) true) true))) true
def VV (t:Y4) (en:List bC) (i:Nat):Option (Int×Int):=match t.2.2.2[i]? with
 | some x=>l7 (WR x (bnd t.2.1 en) (bnd t.2.2.1 en)) (some ((i:Int),3)) (l7 ((t.2.2.2.take i).any fun y=>uY y x) (some ((i:Int),11)) none)
 | none=>none
def IM (t:Y4) (en:List bC):Int×Int:=
 l7 (ilt 64 (o8 t.2.2.2)) (64,4) (l7 (vty t.2.1 en) (l7 (vty t.2.2.1 en) (match(List.range t.2.2.2.length).findSome? (VV t en)with | some r=>r | none=>(0,0)) (-1,8)) (-1,8))
theorem iH (a b:Int):ilt a b= !ile b a:=by
 simp only[ilt,ile];rw[←decide_not];congr 1;simp
theorem oV {α:Type} {l:List α} {i:Nat} (h:i≤l.length):zC l 0 (i:Int)=some (l.take i):=by rw[a5L (by omega) (by omega)];simp
theorem a4K (t:Y4) (en:List bC):qy t en=some (IM t en):=by
 unfold qy IM
 rw[mP,o7,mP,o7]
 cases h64:ilt 64 (o8 t.2.2.2)
 case true=>rfl
 simp only[l9]
 cases vty t.2.1 en
 ·rfl
 cases vty t.2.2.1 en
 ·rfl
 simp only[o9,l9,o7,D7,o6,Fp]
 have hlen:t.2.2.2.length≤64:=by rw[bF]at h64;simp only[o8]at h64;omega
 refine Y9 (zy (p:=VV t en) t.2.2.2.length (by omega) PUnit.unit (fun i hi=>?_) ?_) ?_
 rotate_left 2
 ·cases (List.range t.2.2.2.length).findSome? (VV t en) <;> rfl
 ·have e:=aQ hi
  simp only[E9 (show(i:Int)<o8 t.2.2.2 by simp only[o8];omega),o6,F9,e,o7,VV,Be,oV (show i≤t.2.2.2.length by omega)]
  obtain⟨k,hk⟩:=a1s (l:=t.2.2.2.take i) t.2.2.2[i] (by simp;omega)
  rw[hk,V6 (by omega)]
  unfold WR inB
  simp only[iH]
  generalize bnd t.2.1 en=bl
  generalize bnd t.2.2.1 en=br
  cases zh t.2.2.2[i].1
  ·rfl
  cases ieq t.2.2.2[i].1.1 t.2.2.2[i].1.2
  case true=>rfl
  cases ile t.2.2.2[i].2.2.1 t.2.2.2[i].2.1
  case true=>rfl
  cases ile bl.1 t.2.2.2[i].2.1
  ·rfl
  cases ile t.2.2.2[i].2.1 bl.2
  ·rfl
  cases ile bl.1 (G8 IntKind.i64 t.2.2.2[i].2.2.1 1)
  ·rfl
  cases ile (G8 IntKind.i64 t.2.2.2[i].2.2.1 1) bl.2
  ·rfl
  cases ile br.1 t.2.2.2[i].2.2.2
  ·rfl
  cases ile t.2.2.2[i].2.2.2 br.2
  ·rfl
  cases (t.2.2.2.take i).any fun y=>uY y t.2.2.2[i] <;> rfl
 ·rw[D9 (by simp[o8])];rfl
section
variable {α ε ρ:Type}
theorem AX (l:List α) (p:α→Bool) (r:ρ) (e:ε) {f:Int→Option (Out Int ε ρ)} (hl:l.length≤1000000)
  (hin:∀(i:Nat) (a:α),l[i]? =some a→f (i:Int)=some (bif p a then .rt r else .nx (x9 .i64 (i:Int) 1))) (hend:f (l.length:Int)=some (.ex e)):
  P5 f 0=some (bif l.any p then .inr r else .inl e):=by
 rw[Ou l (fun i a=> !p a) r e f (by omega) (fun i a ha=>?_) hend]
 ·have hb:(∀(j:Nat) (a:α),l[j]? =some a→(!p a)=true)↔l.any p=false:=by
   rw[List.any_eq_false]
   constructor
   ·intro h x hx
    obtain⟨j,hj,rfl⟩:=List.getElem_of_mem hx
    have:=h j _ (aQ hj)
    simpa using this
   ·intro h j a hj
    have:=h a (fO hj)
    simpa using this
  by_cases hv:l.any p=false
  ·rw[if_pos (hb.2 hv),hv];rfl
  ·rw[if_neg (fun h=>hv (hb.1 h))]
   simp only[Bool.not_eq_false]at hv
   rw[hv];rfl
 ·have hi:=(O7.1 ha).1
  rw[hin i a ha,V6 (by omega)]
  cases p a <;> rfl
theorem qQ (l:List α) (p:α→Bool) {f:Int→Option (Out Int PUnit Int)} (hl:l.length≤1000000)
  (hin:∀(i:Nat) (a:α),l[i]? =some a→f (i:Int)=some (bif p a then .rt (i:Int)else .nx (x9 .i64 (i:Int) 1))) (hend:f (l.length:Int)=some (.ex PUnit.unit)):
  o5 (o5 (P5 f 0) fun o=>U7 o (fun _=>some (-1)) fun r=>some r) (fun x=>some (ile 0 x))=some (l.any p):=by
 have key:=uD (f:=f) (s:=0) (fun x=>∃i:Nat,x=i∧i≤l.length∧(l.take i).any p=false) (fun _=>l.any p=false) (fun k=>0≤k∧l.any p=true) (fun x=>l.length -x.toNat) ⟨0,rfl,by omega,rfl⟩ (by simp;omega) ?_
 ·rcases key with⟨e,h1,h2⟩ | ⟨k,h1,h2,h3⟩
  ·rw[h1,h2];rfl
  ·rw[h1,h3,o7,G5,o7,F7 h2]
 ·rintro x ⟨i,rfl,hi,hall⟩
  by_cases h:i<l.length
  ·have e:=aQ h
   have hst:(l.take (i+1)).any p=((l.take i).any p || p l[i]):=by rw[List.take_succ_eq_append_getElem h,List.any_append];simp
   rw[hin i _ e]
   cases hc:p l[i]with
   | true=>exact .inr (.inr ⟨_,rfl,by omega,List.any_eq_true.2 ⟨l[i],List.getElem_mem h,hc⟩⟩)
   | false=>exact .inl ⟨((i+1:Nat):Int),by rw[V6 (by omega)];rfl,⟨i+1,rfl,h,by rw[hst,hall,hc];rfl⟩,by simp;omega⟩
  ·have:i=l.length:=by omega
   subst this
   rw[List.take_length]at hall
   exact .inr (.inl ⟨_,hend,hall⟩)
theorem H9 {i:Nat} {l:List α} {a:α} (h:l[i]? =some a):ilt (i:Int) (o8 l)=true:=E9 (by have:=(O7.1 h).1;simp only[o8];omega)
theorem H8 (l:List α):ilt (l.length:Int) (o8 l)=false:=D9 (by simp[o8])
end
theorem CV {l:List bC} (n:List UInt8) (h:l.length≤1000000):oU l n=some (l.any fun x=>seq x.1 n):=by
 unfold oU aS bP
 rw[bH]
 refine qQ l (fun x=>seq x.1 n) h (fun i a ha=>?_) (by rw[H8];rfl)
 rw[H9 ha,o6,F9,ha,o7]
 unfold wu
 rw[o7]
 cases seq a.1 n <;> rfl
theorem Ha {l:List Y4} (n:List UInt8) (h:l.length≤1000000):qf l n=some (l.any fun x=>seq x.1 n):=by
 unfold qf aA aZ
 rw[bH]
 refine qQ l (fun x=>seq x.1 n) h (fun i a ha=>?_) (by rw[H8];rfl)
 rw[H9 ha,o6,F9,ha,o7]
 unfold uC
 rw[o7]
 cases seq a.1 n <;> rfl
theorem Si {l:List A8} (s:A8) (h:l.length≤1000000):X4 l s=some (l.any fun x=>seq x.1 s.1):=by
 unfold X4 aY
 refine qQ l (fun x=>seq x.1 s.1) h (fun i a ha=>?_) (by rw[H8];rfl)
 rw[H9 ha,o6,F9,ha,o7]
 unfold qV
 rw[o7]
 cases seq a.1 s.1 <;> rfl
theorem Vk {l:List N9} (s:N9) (h:l.length≤1000000):X8 l s=some (l.any fun x=>seq x.1 s.1):=by
 unfold X8 bQ
 refine qQ l (fun x=>seq x.1 s.1) h (fun i a ha=>?_) (by rw[H8];rfl)
 rw[H9 ha,o6,F9,ha,o7]
 unfold sO
 rw[o7]
 cases seq a.1 s.1 <;> rfl
theorem GZ {l:List aF} (s:aF) (h:l.length≤1000000):P9 l s=some (l.any fun x=>seq x.1 s.1):=by
 unfold P9 aX
 refine qQ l (fun x=>seq x.1 s.1) h (fun i a ha=>?_) (by rw[H8];rfl)
 rw[H9 ha,o6,F9,ha,o7]
 unfold qU
 rw[o7]
 cases seq a.1 s.1 <;> rfl
theorem Zq {l:List (List UInt8)} (s:List UInt8) (h:l.length≤1000000):bi l s=some (l.any fun x=>seq s x):=by
 unfold bi gU
 refine qQ l (fun x=>seq s x) h (fun i a ha=>?_) (by rw[H8];rfl)
 rw[H9 ha,o6,F9,ha,o7]
 cases seq s a <;> rfl
theorem Zp {l:List Int} (s:Int) (h:l.length≤1000000):fC l s=some (l.any fun x=>ieq s x):=by
 unfold fC lU
 refine qQ l (fun x=>ieq s x) h (fun i a ha=>?_) (by rw[H8];rfl)
 rw[H9 ha,o6,F9,ha,o7]
 cases ieq s a <;> rfl
section
variable {α ε ρ:Type}
end
theorem Xw (i k:Nat):ilt (i:Int) (k:Int)=decide (i<k):=by
 unfold ilt;by_cases h:i<k <;> simp[h] <;> omega
def Cj (l:J3) (kind:Nat) (k:Nat) (n:List UInt8):Bool:=
 match kind with
 | 1=>(l.1.take k).any fun x=>seq x.1 n
 | 2=>(l.1.any fun x=>seq x.1 n) || ((l.2.1.take k).any fun x=>seq x.1 n)
 | _=>(l.1.any fun x=>seq x.1 n) || (l.2.1.any fun x=>seq x.1 n) || ((l.2.2.take k).any fun x=>seq x.1 n)
def Few (l:J3):Prop:=l.1.length≤1000∧l.2.1.length≤1000∧l.2.2.length≤1000
def a5P (ms:List (List UInt8)) (i:Nat):Option (Int×Int):=match ms[i]? with
 | some m=>l7 (wK m) (l7 ((ms.take i).any fun x=>seq m x) (some (7,((100+i:Nat):Int))) none) (some (2,((100+i:Nat):Int)))
 | none=>none
def Rz (l:J3) (i:Nat) (e:bC):Int×Int:=
 l7 (wK e.1) (l7 (Cj l 1 i e.1) (7,0) (l7 (ieq (o8 e.2) 0) (5,0) (l7 (ilt 16 (o8 e.2)) (4,116) (match(List.range e.2.length).findSome? (a5P e.2)with | some r=>r | none=>(0,0))))) (2,0)
theorem a5G {i:Nat} (h:i≤1000000):x9 .i64 100 (i:Int)=((100+i:Nat):Int):=by
 rw[I9 (by unfold I64;omega)];omega
theorem PI {l:J3} (h:Few l) {i:Nat} (hi:i≤l.1.length) (e:bC) (h1:e.1.length≤1000000) (h2:∀m∈e.2,m.length≤1000000):
  rJ l (i:Int) e=some (Rz l i e):=by
 unfold rJ Rz Cj
 rw[gZ h1,o7,oV hi,o7,CV _ (by have:=h.1;simp;omega),o7]
 cases wK e.1
 ·rfl
 simp only[o9,l9,o6]
 cases (l.1.take i).any fun x=>seq x.1 e.1
 case true=>rfl
 cases ieq (o8 e.2) 0
 case true=>rfl
 cases h16:ilt 16 (o8 e.2)
 case true=>rfl
 simp only[l9]
 have hlen:e.2.length≤16:=by rw[bF]at h16;simp only[o8]at h16;omega
 refine Y9 (zy (p:=a5P e.2) e.2.length (by omega) PUnit.unit (fun j hj=>?_) ?_) ?_
 rotate_left 2
 ·cases (List.range e.2.length).findSome? (a5P e.2) <;> rfl
 ·have e' :=aQ hj
  rw[H9 e',o6,F9,e',o7,gZ (h2 _ (List.getElem_mem hj)),o7,oV (by omega),o7,Zq _ (by simp;omega),o7,a5G (by omega),V6 (by omega)]
  simp only[a5P,e']
  cases wK e.2[j]
  ·rfl
  cases (e.2.take j).any fun x=>seq e.2[j] x <;> rfl
 ·rw[H8];rfl
theorem RY {β:Type} {p:Nat→Option β} {n j:Nat} {c:β} (h0:(List.range j).findSome? p=none) (h1:p j=some c) (hj:j<n):(List.range n).findSome? p=some c:=by
 induction n with
 | zero=>omega
 | succ n ih=>
  rw[List.range_succ,List.findSome?_append]
  by_cases h:j<n
  ·rw[ih h];rfl
  ·have:j=n:=by omega
   subst this;rw[h0];simp[h1]
theorem a5F {β:Type} {p:Nat→Option β} {j:Nat} (h0:(List.range j).findSome? p=none) (h1:p j=none):(List.range (j+1)).findSome? p=none:=by
 rw[List.range_succ,List.findSome?_append,h0];simp[h1]
def U1 {ρ:Type} (n:Nat) (p:Nat→Option ρ):Option ρ:=(List.range n).findSome? p
theorem zn {σ ε ρ:Type} {p:Nat→Option ρ} (n:Nat) (hn:n≤1000000) (a:σ) (e:ε) {f:σ×Int→Option (Out (σ×Int) ε ρ)}
  (h1:∀i,i<n→f (a,(i:Int))=some (match p i with | some r=> .rt r | none=> .nx (a,x9 .i64 (i:Int) 1))) (h2:f (a,(n:Int))=some (.ex e)):
  P5 f (a,0)=some (match U1 n p with | some r=> .inr r | none=> .inl e):=by
 have key:=uD (f:=f) (s:=(a,0)) (fun x=>∃i:Nat,x=(a,(i:Int))∧i≤n∧U1 i p=none) (fun x=>x=e∧U1 n p=none) (fun r=>U1 n p=some r) (fun x=>n -x.2.toNat) ⟨0,rfl,by omega,rfl⟩ (by simp;omega) ?_
 ·rcases key with⟨x,k1,rfl,k2⟩ | ⟨r,k1,k2⟩
  ·rw[k1,k2]
  ·rw[k1,k2]
 ·rintro x ⟨i,rfl,hi,hnone⟩
  by_cases h:i<n
  ·rw[h1 i h]
   cases hp:p i with
   | some r=>exact .inr (.inr ⟨_,rfl,RY hnone hp h⟩)
   | none=>exact .inl ⟨(a,((i+1:Nat):Int)),by rw[V6 (by omega)],⟨i+1,rfl,h,a5F hnone hp⟩,by simp;omega⟩
  ·have:i=n:=by omega
   subst this
   exact .inr (.inl ⟨_,h2,rfl,hnone⟩)
def IE (kind i:Int) (r:Int×Int):Option (Int×Int×Int×Int):=l7 (ieq r.1 0) none (some (r.1,kind,i,r.2))
def JL (l:J3) (i:Nat):Option (Int×Int×Int×Int):=match l.1[i]? with | some e=>IE 1 i (Rz l i e) | none=>none
def xx (l:J3):Int×Int×Int×Int:=l7 (ilt 8 (o8 l.1)) (4,1,8,0) (match U1 l.1.length (JL l)with | some r=>r | none=>(0,0,0,0))
def WW (l:J3):Prop:=∀e∈l.1,e.1.length≤1000000∧∀m∈e.2,m.length≤1000000
theorem MP {l:J3} (h:Few l) (hE:WW l):pY l=some (xx l):=by
 unfold pY xx
 cases ilt 8 (o8 l.1)
 case true=>rfl
 simp only[l9]
 refine Y9 (zn (p:=JL l) l.1.length (by have:=h.1;omega) _ (0,0,0,0) (fun i hi=>?_) ?_) ?_
 rotate_left 2
 ·cases U1 l.1.length (JL l) <;> rfl
 ·have e:=aQ hi
  have hm:=hE _ (List.getElem_mem hi)
  simp only[H9 e,o6,F9,e,o7,PI h (show i≤l.1.length by omega) _ hm.1 hm.2,JL,IE]
  cases ieq (Rz l i l.1[i]).1 0 <;> rfl
 ·rw[H8];rfl
theorem dU {ρ:Type} {n:Nat} {p:Nat→Option ρ} {r:ρ} (h:U1 n p=some r):∃i,i<n∧p i=some r:=by
 unfold U1 at h
 obtain⟨i,hi,hp⟩:=List.exists_of_findSome?_eq_some h
 exact⟨i,List.mem_range.1 hi,hp⟩
theorem a4I (t:Y4) (en:List bC):(IM t en).1=-1∨0≤(IM t en).1:=by
 unfold IM
 cases ilt 64 (o8 t.2.2.2)
 case true=>right;simp only[o6];decide
 cases vty t.2.1 en
 ·left;rfl
 cases vty t.2.2.1 en
 ·left;rfl
 right
 simp only[o6,l9]
 cases hf:(List.range t.2.2.2.length).findSome? (VV t en)with
 | none=>exact Int.le_refl _
 | some r=>
  obtain⟨i,hi,hp⟩:=dU (p:=VV t en) hf
  unfold VV at hp
  split at hp
  ·rename_i x hx
   cases hw:WR x (bnd t.2.1 en) (bnd t.2.2.1 en) <;> rw[hw]at hp
   ·cases ha:(t.2.2.2.take i).any fun y=>uY y x <;> rw[ha]at hp
    ·cases hp
    ·cases hp;show(0:Int)≤(i:Int);omega
   ·cases hp;show(0:Int)≤(i:Int);omega
  ·cases hp
def a4J (l:J3) (i:Nat) (t:Y4):Int×Int:=
 l7 (wK t.1) (l7 (Cj l 2 i t.1) (7,0) (l7 (ieq (IM t l.1).2 0) (0,0) ((IM t l.1).2,l7 (ile 0 (IM t l.1).1) (x9 .i64 100 (IM t l.1).1) 0))) (2,0)
def QN (l:J3) (i:Nat):Option (Int×Int×Int×Int):=match l.2.1[i]? with | some t=>IE 2 i (a4J l i t) | none=>none
def yj (l:J3):Int×Int×Int×Int:=l7 (ilt 8 (o8 l.2.1)) (4,2,8,0) (match U1 l.2.1.length (QN l)with | some r=>r | none=>(0,0,0,0))
def QV (l:J3):Prop:=∀t∈l.2.1,t.1.length≤1000000
theorem JA {l:J3} (h:Few l) (hT:QV l):oh l=some (yj l):=by
 unfold oh yj
 cases ilt 8 (o8 l.2.1)
 case true=>rfl
 simp only[l9]
 refine Y9 (zn (p:=QN l) l.2.1.length (by have:=h.2.1;omega) _ (0,0,0,0) (fun i hi=>?_) ?_) ?_
 rotate_left 2
 ·cases U1 l.2.1.length (QN l) <;> rfl
 ·have e:=aQ hi
  have hm:=hT _ (List.getElem_mem hi)
  simp only[H9 e,o6,F9,e,o7,a4K,gZ hm,CV _ (show l.1.length≤1000000 by have:=h.1;omega),oV (show i≤l.2.1.length by omega),
   Ha _ (show(l.2.1.take i).length≤1000000 by have:=h.2.1;simp;omega),QN,a4J,Cj]
  cases wK l.2.1[i].1
  ·rfl
  cases l.1.any fun x=>seq x.1 l.2.1[i].1
  case true=>rfl
  cases (l.2.1.take i).any fun x=>seq x.1 l.2.1[i].1
  case true=>rfl
  simp only[o9,l9,o6,o7,Bool.or_false]
  cases hz:ieq (IM l.2.1[i] l.1).2 0
  case true=>rfl
  simp only[D6,o6,l9,IE,hz]
  rcases a4I l.2.1[i] l.1 with hr | hr
  ·rw[F5 hr,F8 (show(IM l.2.1[i] l.1).1<0 by omega)]
   simp only[o9,l9,o7,hz,D6,o6]
  ·rw[D8 (show(IM l.2.1[i] l.1).1≠-1 by omega),F7 hr]
   simp only[D6,o6,o7,hz]
 ·rw[H8];rfl
theorem a1v {α β ε:Type} (l:List α) (g:α→β) (hl:l.length≤1000000) {f:List β×Int→Option ((List β×Int)⊕ε)} {F:List β→ε}
  (hin:∀(i:Nat) (a:α) (acc:List β),l[i]? =some a→acc.length=i→f (acc,(i:Int))=some (.inl (acc++[g a],x9 .i64 (i:Int) 1))) (hend:∀acc,f (acc,(l.length:Int))=some (.inr (F acc))):
  U9 f ([],0)=some (F (l.map g)):=by
 obtain⟨e,h1,h2⟩:=Z9 (f:=f) (s:=([],0)) (fun x=>∃i:Nat,x=((l.take i).map g,(i:Int))∧i≤l.length) (fun e=>e=F (l.map g)) (fun x=>l.length -x.2.toNat) ⟨0,rfl,by omega⟩ (by simp;omega) (by
  rintro x ⟨i,rfl,hi⟩
  by_cases h:i<l.length
  ·have e:=aQ h
   refine .inl ⟨((l.take (i+1)).map g,((i+1:Nat):Int)),?_,⟨i+1,rfl,h⟩,by simp;omega⟩
   rw[hin i _ _ e (by simp;omega),V6 (by omega),List.take_succ_eq_append_getElem h,List.map_append]
   rfl
  ·have:i=l.length:=by omega
   subst this
   refine .inr ⟨_,hend _,?_⟩
   rw[List.take_length])
 rw[h1,h2]
theorem vZ {l:List aF} (h:l.length≤1000000):jD l=some (l.map (·.2)):=by
 unfold jD
 rw[bH]
 refine a1v (F:=id) l (fun x=>x.2) h (fun i a acc ha hacc=>?_) (fun acc=>?_)
 ·have hi:=(O7.1 ha).1
  simp only[H9 ha,o6,F9,ha,o7]
  rw[Ed (by simp[hacc];omega)];rfl
 ·simp only[H8];rfl
def QU (l:J3):Prop:=∀s∈l.2.2,s.1.length≤1000000∧s.2.2.1.length≤1000∧s.2.2.2.1.length≤1000∧s.2.2.2.2.length≤1000
def Dv (l:J3) (s:A8):List bC×List Y4×List (Int×Int)×List (Int×Int)×List (Int×Int)×Bool:=
 match(if 0≤s.2.1 then l.2.2[s.2.1.toNat]? else none)with
 | some k=>(l.1,l.2.1,s.2.2.1.map (·.2),s.2.2.2.1.map (·.2),k.2.2.2.1.map (·.2),true)
 | none=>(l.1,l.2.1,s.2.2.1.map (·.2),s.2.2.2.1.map (·.2),[],false)
theorem Du {l:J3} (h:QU l) {i:Nat} {s:A8} (hs:l.2.2[i]? =some s):jo l (i:Int)=some (Dv l s):=by
 have hm:=h s (fO hs)
 unfold jo Dv
 rw[F9,hs,o7,vZ (by omega),o7,vZ (by omega),o7]
 by_cases h0:0≤s.2.1
 ·rw[F7 h0,if_pos h0,o6]
  by_cases h1:s.2.1<o8 l.2.2
  ·obtain⟨k,hk,hkm⟩:=fU h0 h1
   have hk' :l.2.2[s.2.1.toNat]? =some k:=(jC hk).2.2.2
   rw[E9 h1,o6,hk,o7,vZ (by have:=h k hkm;omega),o7,hk']
  ·have h1' :o8 l.2.2≤s.2.1:=Int.not_lt.1 h1
   rw[D9 h1',l9,List.getElem?_eq_none (by simp only[o8]at h1';exact Int.le_toNat h0 |>.2 h1')]
 ·have h0' :s.2.1<(0:Int):=Int.not_le.1 h0
  rw[F8 h0',if_neg h0];rfl
abbrev SI (l:List Int):Prop:=l.Pairwise (·< ·)
theorem Wl:∀{a b:List Int},SI a→SI b→(∀x,x∈a↔x∈b)→a=b
 | [],[],_,_,_=>rfl
 | [],y::b,_,_,h=>absurd ((h y).2 (by simp)) (by simp)
 | x::a,[],_,_,h=>absurd ((h x).1 (by simp)) (by simp)
 | x::a,y::b,ha,hb,h=>by
  have ha' :=List.pairwise_cons.1 ha
  have hb' :=List.pairwise_cons.1 hb
  have hxy:x=y:=by
   rcases List.mem_cons.1 ((h x).1 (by simp))with h1 | h1
   ·exact h1
   ·rcases List.mem_cons.1 ((h y).2 (by simp))with h2 | h2
    ·exact h2.symm
    ·have:=hb'.1 _ h1;have:=ha'.1 _ h2;omega
  subst hxy
  congr 1
  refine Wl ha'.2 hb'.2 fun z=>⟨fun hz=>?_,fun hz=>?_⟩
  ·rcases List.mem_cons.1 ((h z).1 (by simp[hz]))with h1 | h1
   ·have:=ha'.1 _ hz;omega
   ·exact h1
  ·rcases List.mem_cons.1 ((h z).2 (by simp[hz]))with h1 | h1
   ·have:=hb'.1 _ hz;omega
   ·exact h1
def ins (n:Int):List Int→List Int
 | []=>[n]
 | a::l=>if n≤a then(if n<a then n::a::l else a::l)else a::ins n l
theorem Eh (n x:Int):∀l,x∈ins n l↔x=n∨x∈l
 | []=>by simp[ins]
 | a::l=>by
  unfold ins
  by_cases h:n≤a
  ·rw[if_pos h]
   by_cases h2:n<a
   ·rw[if_pos h2];simp
   ·rw[if_neg h2]
    have:n=a:=by omega
    subst this;simp
  ·rw[if_neg h,List.mem_cons,Eh n x l,List.mem_cons]
   constructor
   ·rintro(h | h | h) <;> simp[h]
   ·rintro(h | h | h) <;> simp[h]
theorem a3R (n:Int):∀{l},SI l→SI (ins n l)
 | [],_=>List.pairwise_singleton _ _
 | a::l,h=>by
  have h' :=List.pairwise_cons.1 h
  unfold ins
  by_cases h1:n≤a
  ·rw[if_pos h1]
   by_cases h2:n<a
   ·rw[if_pos h2]
    refine List.pairwise_cons.2 ⟨fun x hx=>?_,h⟩
    rcases List.mem_cons.1 hx with rfl | hx
    ·exact h2
    ·have:=h'.1 x hx;omega
   ·rw[if_neg h2];exact h
  ·rw[if_neg h1]
   refine List.pairwise_cons.2 ⟨fun x hx=>?_,a3R n h'.2⟩
   rcases(Eh n x l).1 hx with rfl | hx
   ·omega
   ·exact h'.1 x hx
def Ku (ns:List Int) (l:List Int):List Int:=ns.foldl (fun acc n=>ins n acc) l
theorem KL (x:Int):∀ns l,x∈Ku ns l↔x∈ns∨x∈l
 | [],l=>by simp[Ku]
 | n::ns,l=>by
  show x∈Ku ns (ins n l)↔_
  rw[KL x ns,Eh,List.mem_cons]
  constructor
  ·rintro(h | h | h) <;> simp[h]
  ·rintro((h | h) | h) <;> simp[h]
theorem QF:∀ns {l},SI l→SI (Ku ns l)
 | [],_,h=>h
 | n::ns,_,h=>QF ns (a3R n h)
def yM (l:List Int):List Int:=Ku l []
theorem zH (x:Int) (l:List Int):x∈yM l↔x∈l:=by unfold yM;rw[KL];simp
theorem YI (l:List Int):SI (yM l):=QF l List.Pairwise.nil
theorem KA (n:Int):∀l,(ins n l).length≤l.length+1
 | []=>by simp[ins]
 | a::l=>by
  unfold ins
  by_cases h1:n≤a
  ·rw[if_pos h1];by_cases h2:n<a
   ·rw[if_pos h2];simp
   ·rw[if_neg h2];simp
  ·rw[if_neg h1];have:=KA n l;simp only[List.length_cons];omega
theorem Hg:∀ns l,(Ku ns l).length≤l.length+ns.length
 | [],l=>by simp[Ku]
 | n::ns,l=>by
  have h1:=Hg ns (ins n l)
  have h2:=KA n l
  show(Ku ns (ins n l)).length≤_
  simp only[List.length_cons];omega
theorem zx (l:List Int):(yM l).length≤l.length:=by have:=Hg l [];unfold yM;simpa using this
theorem LX {l:List Int} (n:Nat) (h:SI l) (h2:∀x∈l,0≤x∧x<n):l.length≤n:=by
 have key:∀(l:List Int) (lo:Int),SI l→(∀x∈l,lo≤x∧x<n)→lo≤n→(l.length:Int)≤n -lo:=by
  intro l
  induction l with
  | nil=>intro lo _ _ hlo;simp;omega
  | cons a l ih=>
   intro lo hs hb hlo
   have h' :=List.pairwise_cons.1 hs
   have ha:=hb a (by simp)
   have:=ih (a+1) h'.2 (fun x hx=>⟨by have:=h'.1 x hx;omega,(hb x (by simp[hx])).2⟩) (by omega)
   simp only[List.length_cons];omega
 have:=key l 0 h (fun x hx=>h2 x hx) (by omega)
 omega
theorem JE (x:Int):∀(l:List Int) (p:Int),(p::l).Pairwise (·≤·)→SI (p::ddp p l)∧(x∈p::ddp p l↔x∈p::l)
 | [],p,_=>⟨List.pairwise_singleton _ _,Iff.rfl⟩
 | a::l,p,h=>by
  have h1:=List.pairwise_cons.1 h
  obtain⟨i1,i2⟩:=JE x l a h1.2
  have h2:=List.pairwise_cons.1 h1.2
  have hpa:=h1.1 a (by simp)
  unfold ddp
  cases hq:ieq a p
  ·rw[pW]at hq
   simp only[cond_false]
   refine⟨List.pairwise_cons.2 ⟨fun y hy=>?_,i1⟩,?_⟩
   ·rcases List.mem_cons.1 hy with rfl | hy
    ·omega
    ·have:=(List.pairwise_cons.1 i1).1 y hy;omega
   ·rw[List.mem_cons,i2,List.mem_cons (a:=x) (b:=p)]
  ·rw[N7]at hq
   subst hq
   simp only[cond_true]
   refine⟨i1,?_⟩
   rw[i2];simp
theorem a1d (l:List Int):dd (wM l)=yM l:=by
 have hs:=tH l
 have hp:=uB l
 refine Wl ?_ (YI l) fun x=>?_
 ·cases he:wM l with
  | nil=>exact List.Pairwise.nil
  | cons a r=>rw[he]at hs;exact(JE a r a hs).1
 ·rw[zH,←hp.mem_iff]
  cases he:wM l with
  | nil=>exact Iff.rfl
  | cons a r=>rw[he]at hs;exact(JE x r a hs).2
theorem Zx (l:List Int):(wM l).length=l.length:=(uB l).length_eq
theorem a6O {l:List Int} (h:l.length≤1000000):o5 (um l) (fun x=>iC x)=some (yM l):=by
 unfold um iC
 rw[show Nat.blt l.length 4611686018427387904=true from by simp[Nat.blt];omega]
 simp only[cond_true,o7]
 rw[show Nat.blt (wM l).length 4611686018427387904=true from by rw[Zx];simp[Nat.blt];omega]
 rw[cond_true,a1d]
def hg (l:List Int) (i:Nat):Int:=l.getD i 0
def swp (l:List Int) (i j:Nat):List Int:=(l.set i (hg l j)).set j (hg l i)
theorem mf {l:List Int} {i:Nat} (h:i<l.length):l[i]? =some (hg l i):=by
 unfold hg;rw[oM,aQ h];rfl
theorem yh (l:List Int) (i j:Nat):(swp l i j).length=l.length:=by simp[swp]
theorem PT {l:List Int} {i j:Nat} (hi:i<l.length) (hj:j<l.length) (k:Nat):hg (swp l i j) k=if k=j then hg l i else if k=i then hg l j else hg l k:=by
 unfold hg swp
 simp only[oM,List.getElem?_set,List.length_set]
 by_cases h1:k=j
 ·subst h1;simp[hj,hg,oM]
 ·rw[if_neg (fun h=>h1 h.symm),if_neg h1]
  by_cases h2:k=i
  ·subst h2;simp[hi,hg,oM]
  ·rw[if_neg (fun h=>h2 h.symm),if_neg h2]
theorem Au {l:List Int} {i j:Nat} (hi:i<l.length) (hj:j<l.length):(swp l i j).Perm l:=by
 have e1:hg l i=l[i]:=by have:=mf hi;rw[aQ hi]at this;exact(Option.some.inj this).symm
 have e2:hg l j=l[j]:=by have:=mf hj;rw[aQ hj]at this;exact(Option.some.inj this).symm
 unfold swp
 rw[e1,e2]
 exact List.set_set_perm hi hj
def yO (l:List Int) (n:Nat):Prop:=∀k,0<k→k<n→hg l ((k -1) / 2)≤hg l k
def Fb (l:List Int) (j:Nat):Prop:=(∀k,0<k→k<l.length→k≠j→hg l ((k -1) / 2)≤hg l k)∧(0<j→∀k,0<k→k<l.length→(k -1) / 2=j→hg l ((j -1) / 2)≤hg l k)
def wz (l:List Int) (n i:Nat):Prop:=(∀k,0<k→k<n→(k -1) / 2≠i→hg l ((k -1) / 2)≤hg l k)∧(0<i→∀k,0<k→k<n→(k -1) / 2=i→hg l ((i -1) / 2)≤hg l k)
theorem Sj {l:List Int} {j:Nat} (h:Fb l j) (h0:0<j) (hj:j<l.length) (hlt:hg l j<hg l ((j -1) / 2)):Fb (swp l ((j -1) / 2) j) ((j -1) / 2):=by
 have hi:(j -1) / 2<l.length:=by omega
 have hij:(j -1) / 2<j:=by omega
 generalize hp:(j -1) / 2=i at*
 have G:=PT hi hj
 refine⟨fun k k0 k1 k2=>?_,fun i0 k k0 k1 k2=>?_⟩
 ·rw[yh]at k1
  rw[G k,G]
  by_cases a:k=j
  ·subst a
   rw[if_pos rfl,hp,if_neg (by omega),if_pos rfl];omega
  rw[if_neg a,if_neg k2]
  by_cases b:(k -1) / 2=j
  ·rw[if_pos b]
   have:=h.2 h0 k k0 k1 b
   rw[hp]at this;exact this
  rw[if_neg b]
  by_cases c:(k -1) / 2=i
  ·rw[if_pos c]
   have:=h.1 k k0 k1 a
   rw[c]at this;omega
  rw[if_neg c]
  exact h.1 k k0 k1 a
 ·rw[yh]at k1
  rw[G,G,if_neg (by omega),if_neg (by omega)]
  have e1:=h.1 i i0 hi (by omega)
  by_cases a:k=j
  ·rw[if_pos a];exact e1
  ·rw[if_neg a,if_neg (by omega)]
   have:=h.1 k k0 k1 a
   rw[k2]at this;omega
theorem Ko {l:List Int} {j:Nat} (h:Fb l j) (he:j=0∨hg l ((j -1) / 2)≤hg l j):yO l l.length:=fun k k0 k1=>by
 by_cases a:k=j
 ·subst a
  rcases he with he | he
  ·omega
  ·exact he
 ·exact h.1 k k0 k1 a
theorem wo {l:List Int} {n i j:Nat} (h:wz l n i) (hn:n≤l.length) (hj:(j -1) / 2=i) (hj0:0<j) (hjn:j<n) (hmin:∀k,0<k→k<n→(k -1) / 2=i→hg l j≤hg l k) (hlt:hg l j<hg l i):wz (swp l i j) n j:=by
 have G:=PT (l:=l) (i:=i) (j:=j) (by omega) (by omega)
 refine⟨fun k k0 k1 k2=>?_,fun j0 k k0 k1 k2=>?_⟩
 ·rw[G k,G,if_neg k2]
  by_cases a:k=j
  ·rw[if_pos a,if_pos (by omega)];omega
  rw[if_neg a]
  by_cases b:k=i
  ·rw[if_pos b,if_neg (by omega)]
   rw[b]
   exact h.2 (by omega) j hj0 hjn hj
  rw[if_neg b]
  by_cases c:(k -1) / 2=i
  ·rw[if_pos c];exact hmin k k0 k1 c
  ·rw[if_neg c];exact h.1 k k0 k1 c
 ·rw[G,G,if_neg (by omega),if_pos hj,if_neg (by omega),if_neg (by omega)]
  have:=h.1 k k0 k1 (by omega)
  rw[k2]at this;exact this
theorem tC {l:List Int} {n i:Nat} (h:wz l n i) (he:∀k,0<k→k<n→(k -1) / 2=i→hg l i≤hg l k):yO l n:=fun k k0 k1=>by
 by_cases a:(k -1) / 2=i
 ·rw[a];exact he k k0 k1 a
 ·exact h.1 k k0 k1 a
theorem a1x {l:List Int} {n:Nat} (h:yO l n):∀k,k<n→hg l 0≤hg l k:=by
 intro k
 induction k using Nat.strongRecOn with
 | ind k ih=>
  intro hk
  by_cases h0:k=0
  ·subst h0;exact Int.le_refl _
  ·have h1:=h k (by omega) hk
   have h2:=ih ((k -1) / 2) (by omega) (by omega)
   omega
theorem Vm {l:List Int} {n:Nat} (h:yO l l.length) (hn:n+1=l.length):wz (swp l 0 n) n 0:=by
 have G:=PT (l:=l) (i:=0) (j:=n) (by omega) (by omega)
 refine⟨fun k k0 k1 k2=>?_,fun h0=>by omega⟩
 rw[G k,G,if_neg (by omega),if_neg k2,if_neg (by omega),if_neg (by omega)]
 exact h k k0 (by omega)
theorem Uy {α:Type} {l:List α} {n i:Nat} {a:α} (h:(l.take n)[i]? =some a):i<n∧l[i]? =some a:=by
 rw[List.getElem?_take]at h
 split at h
 ·exact⟨by assumption,h⟩
 ·cases h
def FO (en:List bC) (f:aF) (a b:List aF):Int:=
 l7 (wK f.1) (l7 (a.any fun x=>seq x.1 f.1) 7 (l7 (b.any fun x=>seq x.1 f.1) 7 (l7 (vty f.2 en) 0 8))) 2
theorem BN {l:J3} {f:aF} {a b:List aF} (h:f.1.length≤1000000) (ha:a.length≤1000000) (hb:b.length≤1000000):lI l f a b=some (FO l.1 f a b):=by
 unfold lI FO
 rw[gZ h,o7,GZ _ ha,o7,GZ _ hb,o7,mP,o7]
 cases wK f.1
 ·rfl
 cases a.any fun x=>seq x.1 f.1
 case true=>rfl
 cases b.any fun x=>seq x.1 f.1
 case true=>rfl
 cases vty f.2 l.1 <;> rfl
def PO (c e:Int):Option (Int×Int):=l7 (ieq c 0) none (some (c,e))
def inP (l:J3) (s:A8) (i:Nat):Option (Int×Int):=match s.2.2.1[i]? with | some f=>PO (FO l.1 f (s.2.2.1.take i) []) (100+i:Nat) | none=>none
def a1e (l:J3) (s:A8) (i:Nat):Option (Int×Int):=match s.2.2.2.1[i]? with | some f=>PO (FO l.1 f s.2.2.1 (s.2.2.2.1.take i)) (200+i:Nat) | none=>none
def a0C (s:A8):Prop:=(∀f∈s.2.2.1,f.1.length≤1000000)∧(∀f∈s.2.2.2.1,f.1.length≤1000000)
theorem Xr {c i:Nat} (hc:c≤1000) (h:i≤1000000):x9 .i64 (c:Int) (i:Int)=((c+i:Nat):Int):=by
 rw[I9 (by unfold I64;omega)];omega
def DV (l:J3) (s:A8):Option (Int×Int):=match U1 s.2.2.1.length (inP l s)with | some r=>some r | none=>U1 s.2.2.2.1.length (a1e l s)
def arF (op:Int):Int:=(c4z op).getD 0
theorem b1T {op:Int} (h:1≤op∧op≤39):∃k:Fin 40,op=(k.val:Int):=⟨⟨op.toNat,by omega⟩,by simp;omega⟩
theorem b5e:∀k:Fin 40,1≤k.val→(fE (k.val:Int)=c4z (k.val:Int))∧(c4z (k.val:Int)=some 0∨c4z (k.val:Int)=some 1∨c4z (k.val:Int)=some 2∨c4z (k.val:Int)=some 3):=by decide+kernel
theorem PW {op:Int} (h:¬(1≤op∧op≤39)) (k:Int) (h1:1≤k) (h2:k≤39):ieq op k=false:=D8 (by omega)
theorem Yk {op:Int} (h:¬(1≤op∧op≤39)):c4z op=some (-1):=by
 unfold c4z
 by_cases h1:1≤op
 ·rw[F7 h1,o6,F8 (show(9:Int)<op by omega),l9,F8 (show(39:Int)<op by omega),F8 (show(30:Int)<op by omega)]
  simp[PW h]
  cases ile 35 op <;> cases ile 11 op <;> rfl
 ·rw[F8 (show op<1 by omega),l9,F8 (show op<35 by omega),F8 (show op<11 by omega)]
  simp[PW h]
theorem b1m {op:Int} (h:¬(1≤op∧op≤39)):fE op=some (-1):=by
 unfold fE
 simp[PW h]
theorem yR (op:Int):fE op=some (arF op)∧c4z op=some (arF op)∧(arF op=-1∨arF op=0∨arF op=1∨arF op=2∨arF op=3):=by
 unfold arF
 by_cases h:1≤op∧op≤39
 ·obtain⟨k,rfl⟩:=b1T h
  obtain⟨h1,h2⟩:=b5e k (by omega)
  rcases h2 with h2 | h2 | h2 | h2 <;> rw[h1,h2] <;> simp
 ·rw[b1m h,Yk h];simp
theorem Jm (op:Int):fE op=some (arF op):=(yR op).1
theorem a2W (op:Int):c4z op=some (arF op):=(yR op).2.1
inductive XT where
 | l0 (n:Int×Int) | l1 (n:Int×Int) (a:XT) | l2 (n:Int×Int) (a b:XT) | l3 (n:Int×Int) (a b c:XT)
def XT.size:XT→Nat
 | .l0 _=>1 | .l1 _ a=>a.size+1 | .l2 _ a b=>a.size+b.size+1 | .l3 _ a b c=>a.size+b.size+c.size+1
def XT.post:XT→List (Int×Int)
 | .l0 n=>[n] | .l1 n a=>a.post++[n] | .l2 n a b=>a.post++b.post++[n] | .l3 n a b c=>a.post++b.post++c.post++[n]
def XT.sts (o:Nat):XT→List Int
 | .l0 _=>[(o:Int)]
 | .l1 _ a=>a.sts o++[(o:Int)]
 | .l2 _ a b=>a.sts o++b.sts (o+a.size)++[(o:Int)]
 | .l3 _ a b c=>a.sts o++b.sts (o+a.size)++c.sts (o+a.size+b.size)++[(o:Int)]
theorem XT.size_pos (t:XT):0<t.size:=by cases t <;> simp[XT.size]
theorem XT.post_len (t:XT):t.post.length=t.size:=by
 induction t with
 | l0 n=>rfl
 | l1 n a ha=>simp[XT.post,XT.size,ha]
 | l2 n a b ha hb=>simp[XT.post,XT.size,ha,hb];try omega
 | l3 n a b c ha hb hc=>simp[XT.post,XT.size,ha,hb,hc];try omega
theorem XT.sts_len (t:XT):∀o,(t.sts o).length=t.size:=by
 induction t with
 | l0 n=>intro o;rfl
 | l1 n a ha=>intro o;simp[XT.sts,XT.size,ha]
 | l2 n a b ha hb=>intro o;simp[XT.sts,XT.size,ha,hb];try omega
 | l3 n a b c ha hb hc=>intro o;simp[XT.sts,XT.size,ha,hb,hc];try omega
def cZ:List XT→Nat
 | []=>0
 | t::r=>cZ r+t.size
def yD:List XT→List (Int×Int)
 | []=>[]
 | t::r=>yD r++t.post
def stR:List XT→List Int
 | []=>[]
 | t::r=>stR r++t.sts (cZ r)
def jO:List XT→List Int
 | []=>[]
 | t::r=>jO r++[(cZ r:Int)]
theorem jG:∀ts,(jO ts).length=ts.length
 | []=>rfl
 | t::r=>by simp[jO,jG r]
theorem ES:∀ts,(stR ts).length=cZ ts
 | []=>rfl
 | t::r=>by simp[stR,cZ,ES r,XT.sts_len]
theorem Bv:∀ts,(yD ts).length=cZ ts
 | []=>rfl
 | t::r=>by simp[yD,cZ,Bv r,XT.post_len]
def push (n:Int×Int) (ts:List XT):Int⊕List XT:=
 if arF n.1=0 then .inr (.l0 n::ts)
 else if arF n.1=1 then(match ts with | a::r=> .inr (.l1 n a::r) | _=> .inl 5)
 else if arF n.1=2 then(match ts with | b::a::r=> .inr (.l2 n a b::r) | _=> .inl 5)
 else if arF n.1=3 then(match ts with | c::b::a::r=> .inr (.l3 n a b c::r) | _=> .inl 5)
 else .inl 2
def mW:Nat→List (Int×Int)→List XT→(Int×Int)⊕List XT
 | _,[],ts=> .inr ts
 | i,n::es,ts=>match push n ts with
  | .inl c=> .inl ((i:Int),c)
  | .inr ts' =>if 12<ts'.length then .inl ((i:Int),16)else mW (i+1) es ts'
def iP (e:List (Int×Int)):(Int×Int)⊕XT:=
 if 48<e.length then .inl (0,4)else if e.length=0 then .inl (0,5)else
  match mW 0 e []with
  | .inl x=> .inl x
  | .inr [t]=> .inr t
  | .inr _=> .inl ((e.length:Int),4)
theorem OV {n:Int×Int} {ts ts' :List XT} (h:push n ts= .inr ts'):yD ts' =yD ts++[n]∧ts' ≠[]:=by
 unfold push at h
 split at h
 ·cases h;exact⟨rfl,by simp⟩
 split at h
 ·split at h
  ·cases h;exact⟨by simp[yD,XT.post],by simp⟩
  ·cases h
 split at h
 ·split at h
  ·cases h;exact⟨by simp[yD,XT.post],by simp⟩
  ·cases h
 split at h
 ·split at h
  ·cases h;exact⟨by simp[yD,XT.post],by simp⟩
  ·cases h
 ·cases h
theorem Bz {n:Int×Int} {ts ts' :List XT} (h:push n ts= .inr ts'):cZ ts' =cZ ts+1:=by
 rw[←Bv,←Bv,(OV h).1];simp
theorem xQ:∀(es:List (Int×Int)) (i:Nat) (ts ts' :List XT),mW i es ts= .inr ts' →yD ts' =yD ts++es∧(ts≠[]∨es≠[]→ts' ≠[])
 | [],i,ts,ts',h=>by cases h;exact⟨by simp,by simp⟩
 | n::es,i,ts,ts',h=>by
  unfold mW at h
  cases hp:push n ts with
  | inl c=>rw[hp]at h;cases h
  | inr t2=>
   rw[hp]at h
   simp only at h
   split at h
   ·cases h
   ·obtain⟨h1,h2⟩:=xQ es (i+1) t2 ts' h
    obtain⟨h3,h4⟩:=OV hp
    exact⟨by rw[h1,h3];simp,fun _=>h2 (.inl h4)⟩
theorem Ar {e:List (Int×Int)} {t:XT} (h:iP e= .inr t):e=t.post∧e.length≤48:=by
 unfold iP at h
 split at h
 ·cases h
 split at h
 ·cases h
 split at h
 ·cases h
 ·rename_i t' hp
  cases h
  have:=(xQ e 0 [] [t] hp).1
  exact⟨by simpa[yD]using this.symm,by omega⟩
 ·cases h
theorem Uu {σ ε ρ:Type} (e:List (Int×Int)) (he:e.length≤48) (g:List XT→σ) (fin:List XT→ε) (rt:Int×Int→ρ) {f:σ→Option (Out σ ε ρ)}
  (hs:∀(i:Nat) (n:Int×Int) (ts:List XT),e[i]? =some n→i=cZ ts→ts.length≤12→f (g ts)=some (match push n ts with
   | .inl c=> .rt (rt ((i:Int),c))
   | .inr ts' =>if 12<ts'.length then .rt (rt ((i:Int),16))else .nx (g ts')))
  (hend:∀ts,cZ ts=e.length→f (g ts)=some (.ex (fin ts))):
  P5 f (g [])=some (match mW 0 e []with | .inl x=> .inr (rt x) | .inr ts=> .inl (fin ts)):=by
 have key:∀(es:List (Int×Int)) (i:Nat) (ts:List XT) (k:Nat),e.drop i=es→i=cZ ts→ts.length≤12→i≤e.length→es.length<k→
   gJ f k (g ts)=some (match mW i es ts with | .inl x=> .inr (rt x) | .inr ts=> .inl (fin ts)):=by
  intro es
  induction es with
  | nil=>
   intro i ts k hd hi hl hle hk
   obtain⟨k,rfl⟩:∃k',k=k' +1:=⟨k -1,by omega⟩
   have:i=e.length:=by have:=congrArg List.length hd;simp at this;omega
   unfold gJ
   rw[hend ts (by omega)];rfl
  | cons n es ih=>
   intro i ts k hd hi hl hle hk
   obtain⟨k,rfl⟩:∃k',k=k' +1:=⟨k -1,by omega⟩
   have hn:e[i]? =some n:=by
    have:(e.drop i)[0]? =some n:=by rw[hd];rfl
    simpa using this
   have hlt:=(O7.1 hn).1
   unfold gJ
   rw[hs i n ts hn hi hl]
   unfold mW
   cases hp:push n ts with
   | inl c=>rfl
   | inr ts' =>
    simp only
    by_cases h12:12<ts'.length
    ·rw[if_pos h12,if_pos h12]
    ·rw[if_neg h12,if_neg h12]
     exact ih (i+1) ts' k (by rw[←List.drop_drop,hd];rfl) (by rw[Bz hp,hi]) (by omega) (by omega) (by simp at hk;omega)
 exact key e 0 [] dK rfl rfl (by simp) (by omega) (by unfold dK;omega)
theorem Tn:∀(p r:List XT),∃X,jO (p++r)=jO r++X∧X.length=p.length∧(p≠[]→X.head?=some (cZ r:Int))
 | [],r=>⟨[],by simp,rfl,fun h=>absurd rfl h⟩
 | a::p,r=>by
  obtain⟨X,h1,h2,h3⟩:=Tn p r
  refine⟨X++[(cZ (p++r):Int)],?_,by simp[h2],fun _=>?_⟩
  ·show jO (p++r)++[(cZ (p++r):Int)]=_
   rw[h1,List.append_assoc]
  ·cases p with
   | nil=>simp at h2;subst h2;rfl
   | cons b p=>rw[List.head?_append,h3 (by simp)];rfl
theorem VM (p r:List XT) (k:Int) (hk:k=(p.length:Int)) (h:p.length+r.length≤100) (hp:p≠[]):
  G8 .i64 (o8 (jO (p++r))) k=(r.length:Int)∧lat (jO (p++r)) (r.length:Int)=some (cZ r:Int)∧J9 (jO (p++r)) (toN (r.length:Int))=some (cZ r:Int)
  ∧jf 0 (r.length:Int) (o8 (jO (p++r)))=true∧gp (jO (p++r)) (toN 0) (toN (r.length:Int))=jO r:=by
 obtain⟨X,h1,h2,h3⟩:=Tn p r
 have hl:(jO (p++r)).length=r.length+p.length:=by rw[jG];simp;omega
 have hg:(jO (p++r))[r.length]? =some (cZ r:Int):=by
  rw[h1,List.getElem?_append_right (by rw[jG];omega),jG,Nat.sub_self,←List.head?_eq_getElem?]
  exact h3 hp
 refine⟨?_,?_,?_,?_,?_⟩
 ·simp only[o8,hl]
  rw[H5 (by unfold I64;omega)];omega
 ·rw[F9];exact hg
 ·exact hg
 ·simp only[jf,o8,hl,decide_eq_true_eq];omega
 ·show((jO (p++r)).take r.length).drop 0=_
  rw[h1,List.drop_zero,List.take_append_of_le_length (by rw[jG];omega),List.take_of_length_le (by rw[jG];omega)]
theorem Xv (ts:List XT):ilt 12 (o8 (jO ts))=decide (12<ts.length):=by
 rw[show o8 (jO ts)=((ts.length:Nat):Int) by simp[o8,jG]]
 exact Xw 12 ts.length
theorem kC {α:Type} {l:List α} (x:α) (h:l.length≤1000000):cO l [x]=some (l++[x]):=Ed (by simp;omega)
theorem Kr (ts:List XT) (k:Nat):ilt (o8 (jO ts)) (k:Int)=decide (ts.length<k):=by
 rw[show o8 (jO ts)=((ts.length:Nat):Int) by simp[o8,jG]]
 exact Xw _ _
def tX (e:List (Int×Int)):List Int×Int×Int:=match iP e with | .inl x=>([],x) | .inr t=>(t.sts 0,0,0)
theorem a0b {e:List (Int×Int)} (h0:e.length≠0) {K:List Int×Int×Int→List Int×Int×Int} (h48:¬48<e.length)
  {r:List Int×Int×Int} (h:∀ts,mW 0 e []= .inr ts→r=l7 (ilt 1 (o8 (jO ts))) ([],o8 e,4) (stR ts,0,0)) (hi:∀x,mW 0 e []= .inl x→r=([],x)):r=tX e:=by
 unfold tX iP
 rw[if_neg h48,if_neg h0]
 cases hp:mW 0 e []with
 | inl x=>exact hi x hp
 | inr ts=>
  rw[h ts hp]
  have:=(xQ e 0 [] ts hp).2 (.inr (by intro he;subst he;exact h0 rfl))
  match ts,this with
  | [t],_=>simp[jO,o8,ilt,stR,cZ]
  | a::b::ts,_=>
   rw[E9 (by simp[o8,jG];omega)];rfl
def pd (l:List Int) (k:Nat):List Int:=l++List.replicate k 0
theorem Ql (l:List Int) (m:Nat):lat (pd l (m+1)) (l.length:Int)=some 0:=by
 rw[F9];unfold pd
 rw[List.getElem?_append_right (by omega),Nat.sub_self];rfl
theorem Qm (l:List Int) (m:Nat):J9 (pd l (m+1)) (toN (l.length:Int))=some 0:=by
 have:=Ql l m;rw[F9]at this;exact this
theorem VJ (l:List Int) (m:Nat) (v:Int):P8 (pd l (m+1)) (toN (l.length:Int)) v=pd (l++[v]) m:=by
 show(l++List.replicate (m+1) 0).set l.length v=_
 rw[List.set_append_right _ _ (by omega),Nat.sub_self,List.replicate_succ]
 simp[pd]
theorem Ez (l:List Int) (m:Nat) (v w:Int):P8 (pd (l++[v]) m) (toN (l.length:Int)) w=pd (l++[w]) m:=by
 show(l++[v]++List.replicate m 0).set l.length w=_
 rw[List.append_assoc,List.set_append_right _ _ (by omega),Nat.sub_self]
 simp[pd]
theorem Bo (l:List Int) (m:Nat) (v:Int):lat (pd (l++[v]) m) (l.length:Int)=some v:=by
 rw[F9];unfold pd
 rw[List.append_assoc,List.getElem?_append_right (by omega),Nat.sub_self];rfl
theorem zQ (l:List Int) (m:Nat) (v:Int):J9 (pd (l++[v]) m) (toN (l.length:Int))=some v:=by
 have:=Bo l m v;rw[F9]at this;exact this
theorem ET (e:List (Int×Int)):lD e=some (tX e):=by
 unfold lD
 by_cases h48:48<e.length
 ·rw[E9 (by simp[o8];omega),o6]
  unfold tX iP
  rw[if_pos h48]
 by_cases h0:e.length=0
 ·rw[D9 (by simp[o8];omega),l9,F5 (by simp[o8,h0]),o6]
  unfold tX iP
  rw[if_neg h48,if_pos h0]
 rw[D9 (by simp[o8];omega),l9,D8 (by simp[o8];intro h;exact h0 (by simp[h])),l9]
 rw[show jg (o8 e) (0:Int)=some (pd (stR []) (e.length -cZ [])) by simp[jg,o8,pd,stR,cZ];omega,o7]
 refine Y9 (Uu e (by omega) (fun ts=>(pd (stR ts) (e.length -cZ ts),jO ts,(cZ ts:Int))) (fun ts=>(pd (stR ts) (e.length -cZ ts),jO ts)) (fun x=>(([]:List Int),x)) (fun i n ts hn hi hl=>?_) (fun ts hsz=>?_)) ?_
 rotate_left 2
 ·rw[←a0b h0 h48 (K:=id) (r:=match mW 0 e []with | .inl x=>([],x) | .inr ts=>l7 (ilt 1 (o8 (jO ts))) ([],o8 e,4) (stR ts,0,0)) (fun ts h=>by rw[h]) (fun x h=>by rw[h])]
  cases hp:mW 0 e []with
  | inl x=>rfl
  | inr ts=>
   have:=(xQ e 0 [] ts hp).1
   have hz:e.length -cZ ts=0:=by
    have:=congrArg List.length this
    rw[Bv]at this
    simp[yD]at this;omega
   simp only[o7,D7,hz,pd,List.replicate_zero,List.append_nil];cases ilt 1 (o8 (jO ts)) <;> rfl
 ·subst hi
  have hlt:=(O7.1 hn).1
  have hst:=ES ts
  have hof:=jG ts
  obtain⟨m,hm⟩:∃m,e.length -cZ ts=m+1:=⟨e.length -cZ ts -1,by omega⟩
  simp only[H9 hn,o6,F9 e,hn,o7,Jm,hm]
  rw[←hst]
  simp only[Ql,Qm,o7,VJ,Bo,zQ,Ez]
  rw[hst]
  rcases(yR n.1).2.2 with h | h | h | h | h
  ·rw[show push n ts= .inl 2 by simp[push,h],h];rfl
  ·have e0:G8 .i64 (o8 (jO ts)) 0=((jO ts).length:Int):=by rw[H5 (by unfold I64 o8;omega)];simp[o8]
   rw[show push n ts= .inr (.l0 n::ts) by simp[push,h],h,D9 (by omega),l9,D9 (SH _),l9,l9,e0,show jf 0 ((jO ts).length:Int) (o8 (jO ts))=true by simp[jf,o8],o6,
    show gp (jO ts) (toN 0) (toN ((jO ts).length:Int))=jO ts by simp[gp,toN],kC _ (by omega),o7,V6 (by omega)]
   rw[show jO ts++[(cZ ts:Int)]=jO (.l0 n::ts)from rfl,Xv]
   by_cases hc:12<(XT.l0 n::ts).length
   ·simp only[hc,decide_true,if_true,o6]
   ·simp only[hc,decide_false,if_false,l9,cZ,XT.size,stR,XT.sts,show e.length -(cZ ts+1)=m by omega]
  ·match ts with
   | []=>rw[show push n []= .inl 5 by simp[push,h],h];rfl
   | a::r=>
    obtain⟨p1,p2,p3,p4,p5⟩:=VM [a] r 1 rfl (by simp at hl ⊢;omega) (by simp)
    simp only[List.cons_append,List.nil_append]at p1 p2 p3 p4 p5
    have:=ES (a::r);have:=jG r
    simp only[List.length_cons]at hl
    rw[show push n (a::r)= .inr (.l1 n a::r) by simp[push,h],h,D9 (by omega),l9,show(1:Int)=((1:Nat):Int)from rfl,Kr,show decide ((a::r).length<1)=false by simp]
    simp only[Int.natCast_one]at p1 ⊢
    rw[l9,E9 (by omega),o6,p1,p2,o7,p3,o7,p4,o6,p5]
    rw[←hst]
    try simp only[Ez,Bo,zQ,o7]
    rw[hst,kC _ (by omega),o7,V6 (by omega)]
    rw[show jO r++[(cZ r:Int)]=jO (.l1 n a::r)from rfl,Xv]
    have hz:=Bz (show push n (a::r)= .inr (.l1 n a::r) by simp[push,h])
    by_cases hc:12<(XT.l1 n a::r).length
    ·simp only[hc,decide_true,if_true,o6]
    ·simp only[hc,decide_false,if_false,l9,hz,show e.length -(cZ (a::r)+1)=m by omega,stR,XT.sts,List.append_assoc]
  ·match ts with
   | []=>rw[show push n []= .inl 5 by simp[push,h],h];rfl
   | [a]=>rw[show push n [a]= .inl 5 by simp[push,h],h];rfl
   | b::a::r=>
    obtain⟨p1,p2,p3,p4,p5⟩:=VM [b,a] r 2 rfl (by simp at hl ⊢;omega) (by simp)
    simp only[List.cons_append,List.nil_append]at p1 p2 p3 p4 p5
    have:=ES (b::a::r);have:=jG r
    simp only[List.length_cons]at hl
    rw[show push n (b::a::r)= .inr (.l2 n a b::r) by simp[push,h],h,D9 (by omega),l9,show(2:Int)=((2:Nat):Int)from rfl,Kr,show decide ((b::a::r).length<2)=false by simp]
    rw[l9,E9 (by omega),o6,show((2:Nat):Int)=2 from rfl,p1,p2,o7,p3,o7,p4,o6,p5]
    rw[←hst]
    try simp only[Ez,Bo,zQ,o7]
    rw[hst,kC _ (by omega),o7,V6 (by omega)]
    rw[show jO r++[(cZ r:Int)]=jO (.l2 n a b::r)from rfl,Xv]
    have hz:=Bz (show push n (b::a::r)= .inr (.l2 n a b::r) by simp[push,h])
    by_cases hc:12<(XT.l2 n a b::r).length
    ·simp only[hc,decide_true,if_true,o6]
    ·rw[hz,show e.length -(cZ (b::a::r)+1)=m by omega,show stR (.l2 n a b::r)=stR (b::a::r)++[(cZ r:Int)] by simp only[stR,XT.sts,List.append_assoc,cZ]];simp only[hc,decide_false,if_false,l9]
  ·match ts with
   | []=>rw[show push n []= .inl 5 by simp[push,h],h];rfl
   | [a]=>rw[show push n [a]= .inl 5 by simp[push,h],h];rfl
   | [b,a]=>rw[show push n [b,a]= .inl 5 by simp[push,h],h];rfl
   | c::b::a::r=>
    obtain⟨p1,p2,p3,p4,p5⟩:=VM [c,b,a] r 3 rfl (by simp at hl ⊢;omega) (by simp)
    simp only[List.cons_append,List.nil_append]at p1 p2 p3 p4 p5
    have:=ES (c::b::a::r);have:=jG r
    simp only[List.length_cons]at hl
    rw[show push n (c::b::a::r)= .inr (.l3 n a b c::r) by simp[push,h],h,D9 (by omega),l9,show(3:Int)=((3:Nat):Int)from rfl,Kr,show decide ((c::b::a::r).length<3)=false by simp]
    rw[l9,E9 (by omega),o6,show((3:Nat):Int)=3 from rfl,p1,p2,o7,p3,o7,p4,o6,p5]
    rw[←hst]
    try simp only[Ez,Bo,zQ,o7]
    rw[hst,kC _ (by omega),o7,V6 (by omega)]
    rw[show jO r++[(cZ r:Int)]=jO (.l3 n a b c::r)from rfl,Xv]
    have hz:=Bz (show push n (c::b::a::r)= .inr (.l3 n a b c::r) by simp[push,h])
    by_cases hc:12<(XT.l3 n a b c::r).length
    ·simp only[hc,decide_true,if_true,o6]
    ·rw[hz,show e.length -(cZ (c::b::a::r)+1)=m by omega,show stR (.l3 n a b c::r)=stR (c::b::a::r)++[(cZ r:Int)] by simp only[stR,XT.sts,List.append_assoc,cZ]];simp only[hc,decide_false,if_false,l9]
 ·simp only[hsz,H8];rfl
end Go.GP
namespace Go.GP
open Gt
set_option maxRecDepth 100000
def VT (t:Int×Int):Prop:=t=(1,0)∨t=(2,0)∨t=(3,0)∨t=(4,0)∨t=(5,0)∨∃e,t=(6,e)
theorem AL {t:Int×Int} {en:List bC} (h:vty t en=true):VT t:=by
 obtain⟨k,e⟩:=t
 unfold vty at h
 simp only at h
 cases h6:ieq k 6
 ·rw[h6,l9]at h
  cases h1:ile 1 k <;> rw[h1]at h
  ·cases h
  cases h5:ile k 5 <;> rw[h5]at h
  ·cases h
  simp only[o6,N7]at h
  rw[iG]at h1 h5
  subst h
  have:k=1∨k=2∨k=3∨k=4∨k=5:=by omega
  rcases this with rfl | rfl | rfl | rfl | rfl <;> simp[VT]
 ·rw[N7]at h6;subst h6
  exact .inr (.inr (.inr (.inr (.inr ⟨e,rfl⟩))))
def EN (n:Int×Int) (ops:List (Int×Int)) (sg:H6):Option ((Int×Int)×Int):=
 l7 (E5 (ieq n.2 0)) (o5 (bM n.1) fun u=>l7 (E5 u) (some ((0,0),2)) (O9 n ops sg)) (O9 n ops sg)
def jP (n:Int×Int) (ops:List (Int×Int)) (sg:H6):Prop:=∃r:(Int×Int)×Int,c5i n ops sg=some r∧EN n ops sg=some r∧(r.2=0→VT r.1)
theorem VT.lit {k:Int} (h:1≤k∧k≤5):VT (k,0):=by
 have:k=1∨k=2∨k=3∨k=4∨k=5:=by omega
 rcases this with rfl | rfl | rfl | rfl | rfl <;> simp[VT]
theorem vH (a b:Int):ile a b= !ilt b a:=by
 simp only[ilt,ile];rw[←decide_not];congr 1;simp
theorem vP {α β:Type} (o:Option β) (f:α→Option β):o5 (o5 o fun x=>some (Sum.inr x)) (fun q=>U7 q f fun r=>some r)=o:=by cases o <;> rfl
theorem VT.enum (e:Int):VT (6,e):=.inr (.inr (.inr (.inr (.inr ⟨e,rfl⟩))))
theorem iK {R E:Option ((Int×Int)×Int)} {c:Int} (hc:c≠0) (h1:R=some ((0,0),c)) (h2:E=some ((0,0),c)):∃r:(Int×Int)×Int,R=some r∧E=some r∧(r.2=0→VT r.1):=⟨_,h1,h2,fun h=>absurd h hc⟩
theorem nok {R E:Option ((Int×Int)×Int)} {t:Int×Int} (hv:VT t) (h1:R=some (t,0)) (h2:E=some (t,0)):∃r:(Int×Int)×Int,R=some r∧E=some r∧(r.2=0→VT r.1):=⟨_,h1,h2,fun _=>hv⟩
def RR (a0:Int×Int) (a1:List (Int×Int)) (a2:H6):Option ((Int×Int)×Int):=
 o5 (c4J a0 a2) fun(x:Bool)=>l7 (E5 x) (some ((0,0),3)) (o5 (c4P a0 a2) fun(x:Bool)=>l7 (E5 x) (some ((0,0),6))
  (l7 (ieq (o8 a1) 0) (o5 (c4A a0 a2) fun(x:pI×Bool)=>l7 (E5 x.2) (some ((0,0),8)) (some (x.1,0)))
  (l7 (ieq (o8 a1) 1) (o5 (lat a1 0) fun(x:pI)=>o5 (c4Q a0 x a2) fun(x:pI×Bool)=>l7 (E5 x.2) (some ((0,0),8)) (some (x.1,0)))
  (l7 (ieq (o8 a1) 2) (o5 (lat a1 0) fun(x:pI)=>o5 (lat a1 1) fun(x_1:pI)=>o5 (c5b a0.1 x x_1) fun(x:pI×Bool)=>l7 (E5 x.2) (some ((0,0),8)) (some (x.1,0)))
  (o5 (lat a1 1) fun(x:pI)=>o5 (lat a1 0) fun(x_1:pI)=>l7 (ieq x_1.1 1) (o5 (lat a1 1) fun(x_2:pI)=>o5 (lat a1 2) fun(x_3:pI)=>
   l7 (E5 (U2 (ieq x_2.1 x_3.1) (ieq x_2.2 x_3.2))) (some ((0,0),8)) (some (x,0))) (l7 (E5 false) (some ((0,0),8)) (some (x,0))))))))
theorem b0D (n:Int×Int) (ops:List (Int×Int)) (sg:H6):c5i n ops sg=l7 (E5 (ieq n.2 0)) (o5 (c4q n.1) fun x=>l7 x (RR n ops sg) (some ((0,0),2))) (RR n ops sg):=by
 unfold c5i
 cases ieq n.2 0
 ·simp only[D6,o6]
  cases c4q n.1 with
  | none=>rfl
  | some b=>cases b <;> rfl
 ·rfl
theorem zN {op N:Int} {ops:List (Int×Int)} {sg:H6} (h1:bM op=some true) (h2:c4q op=some true)
  (h:∃r:(Int×Int)×Int,RR (op,N) ops sg=some r∧O9 (op,N) ops sg=some r∧(r.2=0→VT r.1)):jP (op,N) ops sg:=by
 unfold jP
 rw[b0D];unfold EN
 dsimp only
 rw[h1,h2]
 cases ieq N 0 <;> exact h
theorem Gg {op N:Int} {ops:List (Int×Int)} {sg:H6} (h1:bM op=some false) (h2:c4q op=some false)
  (h:∃r:(Int×Int)×Int,RR (op,0) ops sg=some r∧O9 (op,0) ops sg=some r∧(r.2=0→VT r.1)):jP (op,N) ops sg:=by
 unfold jP
 rw[b0D];unfold EN
 dsimp only
 rw[h1,h2]
 cases hz:ieq N 0
 ·exact iK (c:=2) (by decide) rfl rfl
 ·rw[N7]at hz;subst hz;exact h
section
variable (N:Int) (sg:H6)
theorem a2c {k:Int} (hk:k=1∨k=2∨k=3∨k=4∨k=5):jP (k,N) [] sg:=by
 have hv:vty (k,0) sg.1=true:=by rcases hk with rfl | rfl | rfl | rfl | rfl <;> rfl
 have hm:bM k=some true∧c4q k=some true:=by rcases hk with rfl | rfl | rfl | rfl | rfl <;> exact⟨rfl,rfl⟩
 refine zN hm.1 hm.2 ?_
 have key:O9 (k,N) [] sg=bW N k sg:=by rcases hk with rfl | rfl | rfl | rfl | rfl <;> exact vP _ _
 have key2:RR (k,N) [] sg=o5 (o5 (c4E (k,0) sg.1) fun(x:pI)=>l7 (ile x.1 N) (some (ile N x.2)) (some false)) fun(x:Bool)=>l7 (E5 x) (some ((0,0),3)) (some ((k,0),0)):=by
  rcases hk with rfl | rfl | rfl | rfl | rfl <;> rfl
 rw[key,key2]
 unfold bW
 rw[Fp,Lm,o7,o7,iH,iH]
 cases ile (bnd (k,0) sg.1).1 N
 ·exact iK (c:=3) (by decide) rfl rfl
 cases ile N (bnd (k,0) sg.1).2
 ·exact iK (c:=3) (by decide) rfl rfl
 ·exact nok (AL hv) rfl rfl
theorem ZL (hN:I64 N):jP (6,N) [] sg:=by
 have hq:0≤N→az .i64 N 16=N / 16:=fun h=>by rw[pX (by rw[aU h];unfold I64 at*;omega),aU h]
 refine zN rfl rfl ?_
 have hf:c4P (6,N) sg=l7 (ilt (az .i64 N 16) (o8 sg.1)) (o5 (lat sg.1 (az .i64 N 16)) fun(x:bC)=>some (ilt (dH N 16) (o8 x.2))) (some false):=rfl
 have hl:c4A (6,N) sg=some ((6,az .i64 N 16),vty (6,az .i64 N 16) sg.1):=by
  unfold c4A;simp only[gq];rfl
 rw[show O9 (6,N) [] sg=rH N sg from vP _ _]
 unfold RR rH
 rw[hf,show c4J (6,N) sg=some (ile 0 N)from rfl,hl]
 by_cases h0:0≤N
 ·rw[D9 h0,F7 h0,hq h0]
  by_cases h1:N / 16<o8 sg.1
  ·obtain⟨x,hx,_⟩:=fU (show 0≤N / 16 by omega) h1
   rw[E9 h1,F8 h1,hx,show vty (6,N / 16) sg.1=true by unfold vty;simp only[F7 (show 0≤N / 16 by omega),E9 h1];rfl]
   simp only[o7,iH]
   cases ile (o8 x.2) (dH N 16)
   ·exact nok (VT.enum (N / 16)) rfl rfl
   ·exact iK (c:=6) (by decide) rfl rfl
  ·have h1' :o8 sg.1≤N / 16:=by omega
   rw[D9 h1',F7 h1']
   exact iK (c:=6) (by decide) rfl rfl
 ·rw[E9 (show N<0 by omega),F8 (show N<0 by omega)]
  exact iK (c:=3) (by decide) rfl rfl
theorem qh (ts:List (Int×Int)) (en:H6):(∃x,lat ts N=some x∧ile 0 N=true∧ilt N (o8 ts)=true∧bJ N ts en=some (l7 (vty x en.1) (x,0) ((0,0),8)))∨((ile 0 N=false∨ile 0 N=true∧ilt N (o8 ts)=false)∧bJ N ts en=some ((0,0),6)):=by
 unfold bJ
 rw[iH N 0,vH (o8 ts) N]
 cases h0:ile 0 N
 ·exact .inr ⟨.inl (by simp),rfl⟩
 cases h1:ilt N (o8 ts)
 ·exact .inr ⟨.inr (by simp),rfl⟩
 rw[iG]at h0;rw[cu]at h1
 obtain⟨x,hx,_⟩:=fU h0 h1
 rw[hx]
 simp only[Bool.not_true,Bool.not_false,l9,o6,o7,mP]
 exact .inl ⟨x,rfl,by simp,by simp,by cases vty x en.1 <;> rfl⟩
theorem a5V:jP (7,N) [] sg:=by
 refine zN rfl rfl ?_
 rw[show O9 (7,N) [] sg=bJ N sg.2.2.1 sg from vP _ _]
 have hf:c4P (7,N) sg=l7 (ile 0 N) (some (ilt N (o8 sg.2.2.1))) (some false):=rfl
 unfold RR
 rw[hf,show c4J (7,N) sg=some true from rfl]
 rcases qh N sg.2.2.1 sg with⟨x,h1,h2,h3,h4⟩ | ⟨h1 | ⟨h1,h2⟩,h4⟩
 ·have hl:c4A (7,N) sg=some (x,vty x sg.1):=by
   unfold c4A;dsimp only;rw[h1];simp only[gq];rfl
  rw[h2,h3,h4,hl]
  cases hv:vty x sg.1
  ·exact iK (c:=8) (by decide) rfl rfl
  ·exact nok (AL hv) rfl rfl
 ·rw[h1,h4];exact iK (c:=6) (by decide) rfl rfl
 ·rw[h1,h2,h4];exact iK (c:=6) (by decide) rfl rfl
theorem a2a:jP (8,N) [] sg:=by
 refine zN rfl rfl ?_
 rw[show O9 (8,N) [] sg=bJ N sg.2.2.2.1 sg from vP _ _]
 have hf:c4P (8,N) sg=l7 (ile 0 N) (some (ilt N (o8 sg.2.2.2.1))) (some false):=rfl
 unfold RR
 rw[hf,show c4J (8,N) sg=some true from rfl]
 rcases qh N sg.2.2.2.1 sg with⟨x,h1,h2,h3,h4⟩ | ⟨h1 | ⟨h1,h2⟩,h4⟩
 ·have hl:c4A (8,N) sg=some (x,vty x sg.1):=by
   unfold c4A;dsimp only;rw[h1];simp only[gq];rfl
  rw[h2,h3,h4,hl]
  cases hv:vty x sg.1
  ·exact iK (c:=8) (by decide) rfl rfl
  ·exact nok (AL hv) rfl rfl
 ·rw[h1,h4];exact iK (c:=6) (by decide) rfl rfl
 ·rw[h1,h2,h4];exact iK (c:=6) (by decide) rfl rfl
theorem ZK:jP (9,N) [] sg:=Gg rfl rfl (nok (VT.lit (k:=5) (by omega)) rfl rfl)
theorem VB:jP (35,N) [] sg:=by
 refine Gg rfl rfl ?_
 rw[show O9 (35,0) [] sg=iq (35,0) sg from vP _ _]
 unfold RR iq
 simp only[c4J,c4P,c4A,gq,o7]
 cases sg.2.2.2.2.2
 ·exact iK (c:=6) (by decide) rfl rfl
 ·exact nok (VT.lit (k:=2) (by omega)) rfl rfl
theorem a2d {k:Int} (hk:k=36∨k=37∨k=38∨k=39):jP (k,N) [] sg:=by
 have hm:bM k=some true∧c4q k=some true∧ieq k 35=false:=by rcases hk with rfl | rfl | rfl | rfl <;> exact⟨rfl,rfl,rfl⟩
 refine zN hm.1 hm.2.1 ?_
 rw[show O9 (k,N) [] sg=iq (k,N) sg by rcases hk with rfl | rfl | rfl | rfl <;> exact vP _ _]
 have hr:RR (k,N) [] sg=o5 (l7 sg.2.2.2.2.2 (l7 (ile 0 N) (some (ilt N (o8 sg.2.2.2.2.1))) (some false)) (some false)) fun(x:Bool)=>l7 (E5 x) (some ((0,0),6))
   (o5 (c4A (k,N) sg) fun(x:pI×Bool)=>l7 (E5 x.2) (some ((0,0),8)) (some (x.1,0))):=by rcases hk with rfl | rfl | rfl | rfl <;> rfl
 rw[hr]
 unfold iq
 rw[hm.2.2,l9]
 cases sg.2.2.2.2.2
 ·exact iK (c:=6) (by decide) rfl rfl
 simp only[o6,o9,l9]
 rcases qh N sg.2.2.2.2.1 sg with⟨x,h1,h2,h3,h4⟩ | ⟨h1 | ⟨h1,h2⟩,h4⟩
 ·rw[h2,h3,h4]
  have hl:c4A (k,N) sg=o5 (some (l7 (ieq k 36) (l7 (vty x sg.1) (l7 (ieq x.1 2) true (ieq x.1 3)) false) (l7 (ieq k 39) (l7 (vty x sg.1) (l7 (ieq x.1 2) true (l7 (ieq x.1 3) true (l7 (ieq x.1 4) true (ieq x.1 5)))) false) (l7 (vty x sg.1) (ieq x.1 1) false)))) fun b=>some (x,b):=by
   unfold c4A
   simp only[gq,c4M,c5c]
   rcases hk with rfl | rfl | rfl | rfl <;> (rw[h1];simp only[ieq,Int.reduceEq,decide_true,decide_false,o6,l9,o7];cases vty x sg.1 <;> cases decide (x.1=2) <;> cases decide (x.1=3) <;> cases decide (x.1=4) <;> rfl)
  rw[hl]
  simp only[o7,dR]
  cases hv:vty x sg.1
  ·rcases hk with rfl | rfl | rfl | rfl <;> exact iK (c:=8) (by decide) rfl rfl
  ·have hx:=AL hv
   rcases hk with rfl | rfl | rfl | rfl <;> rcases hx with rfl | rfl | rfl | rfl | rfl | ⟨e,rfl⟩ <;>
    first
    | exact nok (AL hv) rfl rfl
    | exact iK (c:=8) (by decide) rfl rfl
 ·rw[h1,h4];exact iK (c:=6) (by decide) rfl rfl
 ·rw[h1,h2,h4];exact iK (c:=6) (by decide) rfl rfl
end
end Go.GP
namespace Go.GP
open Gt
set_option maxRecDepth 100000
section
variable (N:Int) (sg:H6)
theorem a5W {k:Int} (hk:k=10∨k=25∨k=31∨k=32) {a:Int×Int} (ha:VT a):jP (k,N) [a] sg:=by
 have hm:bM k=some false∧c4q k=some false:=by rcases hk with rfl | rfl | rfl | rfl <;> exact⟨rfl,rfl⟩
 refine Gg hm.1 hm.2 ?_
 rcases hk with rfl | rfl | rfl | rfl <;> rcases ha with rfl | rfl | rfl | rfl | rfl | ⟨e,rfl⟩ <;>
  first
  | exact nok (VT.lit (k:=1) (by omega)) rfl rfl
  | exact nok (VT.lit (k:=2) (by omega)) rfl rfl
  | exact nok (VT.lit (k:=3) (by omega)) rfl rfl
  | exact nok (VT.lit (k:=4) (by omega)) rfl rfl
  | exact iK (c:=8) (by decide) rfl rfl
theorem a1Z {k:Int} (hk:k=13∨k=23∨k=24∨k=27∨k=28∨k=29∨k=30) {a b:Int×Int} (ha:VT a) (hb:VT b):jP (k,N) [a,b] sg:=by
 have hm:bM k=some false∧c4q k=some false:=by rcases hk with rfl | rfl | rfl | rfl | rfl | rfl | rfl <;> exact⟨rfl,rfl⟩
 refine Gg hm.1 hm.2 ?_
 rcases hk with rfl | rfl | rfl | rfl | rfl | rfl | rfl <;> rcases ha with rfl | rfl | rfl | rfl | rfl | ⟨e,rfl⟩ <;> rcases hb with rfl | rfl | rfl | rfl | rfl | ⟨f,rfl⟩ <;>
  first
  | exact iK (c:=8) (by decide) rfl rfl
  | exact nok (VT.lit (k:=1) (by omega)) rfl rfl
  | exact nok (VT.lit (k:=2) (by omega)) rfl rfl
  | exact nok (VT.lit (k:=3) (by omega)) rfl rfl
  | exact nok (VT.lit (k:=4) (by omega)) rfl rfl
  | exact nok (VT.lit (k:=5) (by omega)) rfl rfl
theorem ZM {k:Int} (hk:k=14∨k=15∨k=16) {a b:Int×Int} (ha:VT a) (hb:VT b):jP (k,N) [a,b] sg:=by
 have hm:bM k=some true∧c4q k=some true:=by rcases hk with rfl | rfl | rfl <;> exact⟨rfl,rfl⟩
 refine zN hm.1 hm.2 ?_
 have hr:RR (k,N) [a,b] sg=o5 (l7 (ile 0 N) (some (ile N 5)) (some false)) fun x=>l7 (E5 x) (some ((0,0),3)) (o5 (c5b k a b) fun x=>l7 (E5 x.2) (some ((0,0),8)) (some (x.1,0))):=by
  rcases hk with rfl | rfl | rfl <;> rfl
 have he:O9 (k,N) [a,b] sg=o5 (l7 (ile 0 N) (some (ile N 5)) (some false)) fun x=>l7 (E5 x) (some ((0,0),3)) (o5 (fG k [a,b]) fun x=>l7 (E5 x.2) (some ((0,0),8)) (some (x.1,0))):=by
  rcases hk with rfl | rfl | rfl <;>
   (show o5 (o5 (dZ N) fun x=>l7 (E5 x) (some (Sum.inr (((0:Int),(0:Int)),(3:Int)))) (some (.inl ((0:Int),(0:Int))))) _=_
    unfold dZ
    cases ile 0 N <;> cases ile N 5 <;> rfl)
 rw[hr,he]
 cases ile 0 N
 ·exact iK (c:=3) (by decide) rfl rfl
 cases ile N 5
 ·exact iK (c:=3) (by decide) rfl rfl
 rcases hk with rfl | rfl | rfl <;> rcases ha with rfl | rfl | rfl | rfl | rfl | ⟨e,rfl⟩ <;> rcases hb with rfl | rfl | rfl | rfl | rfl | ⟨f,rfl⟩ <;>
  first
  | exact iK (c:=8) (by decide) rfl rfl
  | exact nok (VT.lit (k:=2) (by omega)) rfl rfl
  | exact nok (VT.lit (k:=3) (by omega)) rfl rfl
  | exact nok (VT.lit (k:=4) (by omega)) rfl rfl
theorem ZN {k:Int} (hk:k=11∨k=12∨k=17∨k=18∨k=19∨k=20∨k=21∨k=22) {a b:Int×Int} (ha:VT a):jP (k,N) [a,b] sg:=by
 have hm:bM k=some false∧c4q k=some false:=by rcases hk with rfl | rfl | rfl | rfl | rfl | rfl | rfl | rfl <;> exact⟨rfl,rfl⟩
 refine Gg hm.1 hm.2 ?_
 have hr:RR (k,0) [a,b] sg=o5 (c5b k a b) fun x=>l7 (E5 x.2) (some ((0,0),8)) (some (x.1,0)):=by
  rcases hk with rfl | rfl | rfl | rfl | rfl | rfl | rfl | rfl <;> rfl
 have he:O9 (k,0) [a,b] sg=o5 (fG k [a,b]) fun x=>l7 (E5 x.2) (some ((0,0),8)) (some (x.1,0)):=by
  rcases hk with rfl | rfl | rfl | rfl | rfl | rfl | rfl | rfl <;> rfl
 rw[hr,he]
 unfold c5b fG
 simp only[show lat [a,b] 0=some a from rfl,show lat [a,b] 1=some b from rfl,o7,c5c,c4M,c4v,dR]
 cases h1:ieq a.1 b.1
 ·rcases hk with rfl | rfl | rfl | rfl | rfl | rfl | rfl | rfl <;> exact iK (c:=8) (by decide) rfl rfl
 cases h2:ieq a.2 b.2
 ·rcases hk with rfl | rfl | rfl | rfl | rfl | rfl | rfl | rfl <;> exact iK (c:=8) (by decide) rfl rfl
 have ha' :=ha
 rcases hk with rfl | rfl | rfl | rfl | rfl | rfl | rfl | rfl <;> rcases ha with rfl | rfl | rfl | rfl | rfl | ⟨e,rfl⟩ <;>
  first
  | exact nok ha' rfl rfl
  | exact nok (VT.lit (k:=1) (by omega)) rfl rfl
  | exact iK (c:=8) (by decide) rfl rfl
theorem a5U {a b c:Int×Int} (ha:VT a) (hb:VT b):jP (26,N) [a,b,c] sg:=by
 refine Gg rfl rfl ?_
 have hr:RR (26,0) [a,b,c] sg=l7 (ieq a.1 1) (l7 (E5 (U2 (ieq b.1 c.1) (ieq b.2 c.2))) (some ((0,0),8)) (some (b,0))) (some ((0,0),8)):=rfl
 have he:O9 (26,0) [a,b,c] sg=o5 (fG 26 [a,b,c]) fun x=>l7 (E5 x.2) (some ((0,0),8)) (some (x.1,0)):=rfl
 have he2:fG 26 [a,b,c]=o5 (l7 (ieq a.1 1) (some (Sum.inr (b,U2 (ieq b.1 c.1) (ieq b.2 c.2)))) (some (Sum.inr (b,false)))) fun(o:pI⊕pI×Bool)=>U7 o (fun(x:pI)=>some ((0,0),false)) fun(r:pI×Bool)=>some r:=rfl
 rw[hr,he,he2]
 cases ieq a.1 1
 ·exact iK (c:=8) (by decide) rfl rfl
 cases ieq b.1 c.1
 ·exact iK (c:=8) (by decide) rfl rfl
 cases ieq b.2 c.2
 ·exact iK (c:=8) (by decide) rfl rfl
 ·exact nok hb rfl rfl
theorem Tj {a:Int×Int} (ha:VT a):jP (33,N) [a] sg:=by
 refine zN rfl rfl ?_
 have he:O9 (33,N) [a] sg=jA (33,N) a sg:=vP _ _
 have hr:RR (33,N) [a] sg=o5 (l7 (ile 0 N) (some (ilt N (o8 sg.2.1))) (some false)) fun x=>l7 (E5 x) (some ((0,0),6)) (o5 (c4Q (33,N) a sg) fun x=>l7 (E5 x.2) (some ((0,0),8)) (some (x.1,0))):=rfl
 have hs:c4Q (33,N) a sg=o5 (lat sg.2.1 N) fun(x:Y4)=>o5 (c4s x.2.1 sg.1) fun(x_1:Bool)=>l7 x_1 (o5 (c4s x.2.2.1 sg.1) fun(x_2:Bool)=>l7 x_2 (some (x.2.2.1,U2 (ieq a.1 x.2.1.1) (ieq a.2 x.2.1.2))) (some (x.2.2.1,false))) (some (x.2.2.1,false)):=rfl
 rw[he,hr,hs]
 unfold jA
 simp only[ieq,Int.reduceEq,decide_false,l9,o7,D7,iH N 0,vH (o8 sg.2.1) N]
 cases h0:ile 0 N
 ·exact iK (c:=6) (by decide) rfl rfl
 cases h1:ilt N (o8 sg.2.1)
 ·exact iK (c:=6) (by decide) rfl rfl
 rw[iG]at h0;rw[cu]at h1
 obtain⟨x,hx,_⟩:=fU h0 h1
 simp only[o7,D7,Bool.not_true,l9,hx,mP,gq,D6,o6]
 cases vty x.2.1 sg.1
 ·exact iK (c:=8) (by decide) rfl rfl
 cases hv:vty x.2.2.1 sg.1
 ·exact iK (c:=8) (by decide) rfl rfl
 simp only[o9,l9,o6,o7]
 cases U2 (decide (a.1=x.2.1.1)) (decide (a.2=x.2.1.2))
 ·exact iK (c:=8) (by decide) rfl rfl
 ·exact nok (AL hv) rfl rfl
theorem Nb (hN:I64 N) {a:Int×Int} (ha:VT a):jP (34,N) [a] sg:=by
 refine zN rfl rfl ?_
 have he:O9 (34,N) [a] sg=jA (34,N) a sg:=vP _ _
 have hr:RR (34,N) [a] sg=o5 (l7 (ile 0 N) (some (ile (dH N 8) 5)) (some false)) fun x=>l7 (E5 x) (some ((0,0),3)) (l7 (E5 (ilt (az .i64 N 8) (o8 sg.2.1))) (some ((0,0),6)) (o5 (c4Q (34,N) a sg) fun x=>l7 (E5 x.2) (some ((0,0),8)) (some (x.1,0)))):=rfl
 have hs:c4Q (34,N) a sg=o5 (lat sg.2.1 (az .i64 N 8)) fun(x:Y4)=>l7 (ieq a.1 3) (l7 (U2 (ieq x.2.1.1 3) (ieq x.2.1.2 0)) (some (a,U2 (ieq x.2.2.1.1 4) (ieq x.2.2.1.2 0))) (some (a,false))) (some (a,false)):=rfl
 rw[he,hr,hs]
 unfold jA dZ
 by_cases h0:0≤N
 case neg=>
  rw[F8 (show N<0 by omega),E9 (show N<0 by omega)]
  exact iK (c:=3) (by decide) rfl rfl
 have hq:az .i64 N 8=N / 8:=by rw[pX (by rw[aU h0];unfold I64 at*;omega),aU h0]
 rw[F7 h0,D9 h0,hq,ny h0]
 simp only[ieq,Int.reduceEq,decide_true,o6,l9,F7 (show 0≤N % 8 by omega),o7]
 cases ile (N % 8) 5
 ·exact iK (c:=3) (by decide) rfl rfl
 simp only[o9,l9,o7,D7,D9 (show 0≤N / 8 by omega),vH]
 cases h1:ilt (N / 8) (o8 sg.2.1)
 ·exact iK (c:=6) (by decide) rfl rfl
 rw[cu]at h1
 obtain⟨x,hx,_⟩:=fU (show 0≤N / 8 by omega) h1
 simp only[hx,Bool.not_true,l9,o7,D7,mP,o9]
 obtain⟨nm,⟨k1,k2⟩,⟨v1,v2⟩,rows⟩:=x
 dsimp only
 by_cases hK:k1=3∧k2=0
 ·obtain⟨rfl,rfl⟩:=hK
  by_cases hV:v1=4∧v2=0
  ·obtain⟨rfl,rfl⟩:=hV
   rcases ha with rfl | rfl | rfl | rfl | rfl | ⟨e,rfl⟩ <;>
    first
    | exact nok (VT.lit (k:=3) (by omega)) rfl rfl
    | exact iK (c:=8) (by decide) rfl rfl
  ·have hE:vty (v1,v2) sg.1=true→v1≠4:=fun hv h=>by
    subst h
    rcases AL hv with h | h | h | h | h | ⟨e,h⟩ <;> cases h
    exact hV ⟨rfl,rfl⟩
   have hR:U2 (decide (v1=4)) (decide (v2=0))=false:=by
    by_cases h1:v1=4
    ·have:v2≠0:=fun h2=>hV ⟨h1,h2⟩
     simp[U2,h1,this]
    ·simp[U2,h1]
   rw[hR]
   cases hv:vty (v1,v2) sg.1
   ·rcases ha with rfl | rfl | rfl | rfl | rfl | ⟨e,rfl⟩ <;> exact iK (c:=8) (by decide) rfl rfl
   ·have h4:=hE hv
    rw[show decide (v1=4)=false by simp[h4]]
    rcases ha with rfl | rfl | rfl | rfl | rfl | ⟨e,rfl⟩ <;> exact iK (c:=8) (by decide) rfl rfl
 ·have hR:U2 (decide (k1=3)) (decide (k2=0))=false:=by
   by_cases h1:k1=3
   ·have:k2≠0:=fun h2=>hK ⟨h1,h2⟩
    simp[U2,h1,this]
   ·simp[U2,h1]
  rw[hR]
  cases hv:vty (k1,k2) sg.1
  ·rcases ha with rfl | rfl | rfl | rfl | rfl | ⟨e,rfl⟩ <;> exact iK (c:=8) (by decide) rfl rfl
  cases hw:vty (v1,v2) sg.1
  ·rcases ha with rfl | rfl | rfl | rfl | rfl | ⟨e,rfl⟩ <;> exact iK (c:=8) (by decide) rfl rfl
  have h3:k1≠3:=fun h=>by
   subst h
   rcases AL hv with h | h | h | h | h | ⟨e,h⟩ <;> cases h
   exact hK ⟨rfl,rfl⟩
  simp only[show decide (k1=3)=false by simp[h3],o9,l9,o6,o7]
  cases U2 (decide (a.1=k1)) (decide (a.2=k2))
  ·cases decide (a.1=3) <;> exact iK (c:=8) (by decide) rfl rfl
  ·cases decide (a.1=3) <;> exact iK (c:=8) (by decide) rfl rfl
theorem XO (n:Int×Int) (hN:I64 n.2) (ops:List (Int×Int)) (hv:∀t∈ops,VT t) (hl:o8 ops=arF n.1):jP n ops sg:=by
 obtain⟨op,N⟩:=n
 dsimp only at hN hl
 have hr:1≤op∧op≤39:=by
  by_cases h:1≤op∧op≤39
  ·exact h
  ·have:arF op=-1:=by unfold arF;rw[Yk h];rfl
   rw[this]at hl;simp[o8]at hl
 have hc:op=1∨op=2∨op=3∨op=4∨op=5∨op=6∨op=7∨op=8∨op=9∨op=10∨op=11∨op=12∨op=13∨op=14∨op=15∨op=16∨op=17∨op=18∨op=19∨op=20∨op=21∨op=22∨op=23∨op=24∨op=25∨op=26∨op=27∨op=28∨op=29∨op=30∨op=31∨op=32∨op=33∨op=34∨op=35∨op=36∨op=37∨op=38∨op=39:=by omega
 have L0:arF op=0→ops=[]:=fun h=>by rw[h]at hl;simp only[o8]at hl;exact List.length_eq_zero_iff.1 (by omega)
 have L1:arF op=1→∃a,ops=[a]∧VT a:=fun h=>by
  rw[h]at hl;simp only[o8]at hl
  match ops,hl,hv with
  | [a],_,hv=>exact⟨a,rfl,hv a (by simp)⟩
  | [],hl,_=>simp at hl
  | a::b::r,hl,_=>simp at hl;omega
 have L2:arF op=2→∃a b,ops=[a,b]∧VT a∧VT b:=fun h=>by
  rw[h]at hl;simp only[o8]at hl
  match ops,hl,hv with
  | [a,b],_,hv=>exact⟨a,b,rfl,hv a (by simp),hv b (by simp)⟩
  | [],hl,_=>simp at hl
  | [a],hl,_=>simp at hl
  | a::b::c::r,hl,_=>simp at hl;omega
 have L3:arF op=3→∃a b c,ops=[a,b,c]∧VT a∧VT b:=fun h=>by
  rw[h]at hl;simp only[o8]at hl
  match ops,hl,hv with
  | [a,b,c],_,hv=>exact⟨a,b,c,rfl,hv a (by simp),hv b (by simp)⟩
  | [],hl,_=>simp at hl
  | [a],hl,_=>simp at hl
  | [a,b],hl,_=>simp at hl
  | a::b::c::d::r,hl,_=>simp at hl;omega
 rcases hc with rfl | rfl | rfl | rfl | rfl | rfl | rfl | rfl | rfl | rfl | rfl | rfl | rfl | rfl | rfl | rfl | rfl | rfl | rfl | rfl | rfl | rfl | rfl | rfl | rfl | rfl | rfl | rfl | rfl | rfl | rfl | rfl | rfl | rfl | rfl | rfl | rfl | rfl | rfl <;>
  first
  | (rw[L0 rfl];first | exact a2c N sg (by omega) | exact ZL N sg hN | exact a5V N sg | exact a2a N sg | exact ZK N sg | exact VB N sg | exact a2d N sg (by omega))
  | (obtain⟨a,rfl,ha⟩:=L1 rfl;first | exact a5W N sg (by omega) ha | exact Tj N sg ha | exact Nb N sg hN ha)
  | (obtain⟨a,b,rfl,ha,hb⟩:=L2 rfl;first | exact a1Z N sg (by omega) ha hb | exact ZM N sg (by omega) ha hb | exact ZN N sg (by omega) ha)
  | (obtain⟨a,b,c,rfl,ha,hb⟩:=L3 rfl;exact a5U N sg ha hb)
end
end Go.GP
namespace Go.GP
open Gt
set_option maxRecDepth 100000
def XT.wf:XT→Prop
 | .l0 n=>arF n.1=0
 | .l1 n a=>arF n.1=1∧a.wf
 | .l2 n a b=>arF n.1=2∧a.wf∧b.wf
 | .l3 n a b c=>arF n.1=3∧a.wf∧b.wf∧c.wf
theorem a6b {n:Int×Int} {ts ts' :List XT} (h:push n ts= .inr ts') (hw:∀t∈ts,t.wf):∀t∈ts',t.wf:=by
 unfold push at h
 split at h
 ·cases h;intro t ht
  rcases List.mem_cons.1 ht with rfl | ht
  ·assumption
  ·exact hw t ht
 split at h
 ·split at h
  ·cases h;intro t ht
   rcases List.mem_cons.1 ht with rfl | ht
   ·exact⟨by assumption,hw _ (by simp)⟩
   ·exact hw t (by simp[ht])
  ·cases h
 split at h
 ·split at h
  ·cases h;intro t ht
   rcases List.mem_cons.1 ht with rfl | ht
   ·exact⟨by assumption,hw _ (by simp),hw _ (by simp)⟩
   ·exact hw t (by simp[ht])
  ·cases h
 split at h
 ·split at h
  ·cases h;intro t ht
   rcases List.mem_cons.1 ht with rfl | ht
   ·exact⟨by assumption,hw _ (by simp),hw _ (by simp),hw _ (by simp)⟩
   ·exact hw t (by simp[ht])
  ·cases h
 ·cases h
theorem TC:∀(es:List (Int×Int)) (i:Nat) (ts ts' :List XT),mW i es ts= .inr ts' →(∀t∈ts,t.wf)→∀t∈ts',t.wf
 | [],i,ts,ts',h,hw=>by cases h;exact hw
 | n::es,i,ts,ts',h,hw=>by
  unfold mW at h
  cases hp:push n ts with
  | inl c=>rw[hp]at h;cases h
  | inr t2=>
   rw[hp]at h
   simp only at h
   split at h
   ·cases h
   ·exact TC es (i+1) t2 ts' h (a6b hp hw)
theorem GM {e:List (Int×Int)} {t:XT} (h:iP e= .inr t):t.wf:=by
 unfold iP at h
 split at h
 ·cases h
 split at h
 ·cases h
 split at h
 ·cases h
 ·rename_i t' hp
  cases h
  exact TC e 0 [] [t] hp (by simp) t (by simp)
 ·cases h
def LH (n:Int×Int) (ops:List (Int×Int)) (sg:H6):(Int×Int)×Int:=(c5i n ops sg).getD ((0,0),0)
def vJ (sg:H6) (n:Int×Int) (ops:List (Int×Int)) (i:Nat):(Int×Int)⊕(Int×Int):=if(LH n ops sg).2=0 then .inr (LH n ops sg).1 else .inl ((i:Int),(LH n ops sg).2)
def bZ (sg:H6):XT→Nat→(Int×Int)⊕(Int×Int)
 | .l0 n,o=>vJ sg n [] o
 | .l1 n a,o=>match bZ sg a o with
  | .inl x=> .inl x
  | .inr ta=>vJ sg n [ta] (o+a.size)
 | .l2 n a b,o=>match bZ sg a o with
  | .inl x=> .inl x
  | .inr ta=>match bZ sg b (o+a.size)with
   | .inl x=> .inl x
   | .inr tb=>vJ sg n [ta,tb] (o+a.size+b.size)
 | .l3 n a b c,o=>match bZ sg a o with
  | .inl x=> .inl x
  | .inr ta=>match bZ sg b (o+a.size)with
   | .inl x=> .inl x
   | .inr tb=>match bZ sg c (o+a.size+b.size)with
    | .inl x=> .inl x
    | .inr tc=>vJ sg n [ta,tb,tc] (o+a.size+b.size+c.size)
theorem Eo {sg:H6} {n:Int×Int} {ops:List (Int×Int)} {i:Nat} {t:Int×Int} (hN:I64 n.2) (hv:∀t∈ops,VT t) (hl:o8 ops=arF n.1) (h:vJ sg n ops i= .inr t):VT t:=by
 obtain⟨r,h1,h2,h3⟩:=XO sg n hN ops hv hl
 unfold vJ at h
 split at h
 ·rename_i h0
  cases h
  have e:LH n ops sg=r:=by unfold LH;rw[h1];rfl
  rw[e]at h0 ⊢
  exact h3 h0
 ·cases h
section
variable (e:List (Int×Int)) (sg:H6) (z:Int×Int)
def a6Y (f:(Int×Int)×List (Int×Int)×Int→Option (Out ((Int×Int)×List (Int×Int)×Int) ((Int×Int)×List (Int×Int)) ((Int×Int)×Int×Int))):Prop:=
 ∀(i:Nat) (n:Int×Int) (s ops:List (Int×Int)),e[i]? =some n→i≤100→o8 ops=arF n.1→(∀t∈ops,VT t)→s.length+ops.length≤100→
  f (z,s++ops,(i:Int))=some (match vJ sg n ops i with | .inl x=> .rt ((0,0),x) | .inr t=> .nx (z,s++[t],((i+1:Nat):Int)))
theorem a0v {f:(Int×Int)×List (Int×Int)×Int→Option (Out ((Int×Int)×List (Int×Int)×Int) ((Int×Int)×List (Int×Int)) ((Int×Int)×Int×Int))}
  (he:e.length≤48) (hI:∀n∈e,I64 n.2) (hs:a6Y e sg z f):∀(t:XT),t.wf→∀(pre suf s:List (Int×Int)) (k:Nat),e=pre++t.post++suf→s.length≤pre.length→
  gJ f (k+t.size) (z,s,(pre.length:Int))=(match bZ sg t pre.length with | .inl x=>some (.inr ((0,0),x)) | .inr r=>gJ f k (z,s++[r],((pre.length+t.size:Nat):Int)))∧∀r,bZ sg t pre.length= .inr r→VT r:=by
 intro t
 have step:∀(i k:Nat) (n:Int×Int) (s ops:List (Int×Int)),e[i]? =some n→o8 ops=arF n.1→(∀t∈ops,VT t)→s.length+ops.length≤100→
   gJ f (k+1) (z,s++ops,(i:Int))=(match vJ sg n ops i with | .inl x=>some (.inr ((0,0),x)) | .inr r=>gJ f k (z,s++[r],((i+1:Nat):Int))):=by
  intro i k n s ops h1 h2 h3 h4
  rw[gJ,hs i n s ops h1 (by have:=(O7.1 h1).1;omega) h2 h3 h4]
  cases vJ sg n ops i <;> rfl
 have getn:∀(pre suf:List (Int×Int)) (n:Int×Int),e=pre++[n]++suf→e[pre.length]? =some n:=by
  intro pre suf n h
  rw[h,List.append_assoc,List.getElem?_append_right (by omega),Nat.sub_self];rfl
 have mem:∀(i:Nat) (n:Int×Int),e[i]? =some n→I64 n.2:=fun i n h=>hI n (fO h)
 induction t with
 | l0 n=>
  intro hw pre suf s k hd hl
  have hn:=getn pre suf n hd
  have hlen:pre.length<e.length:=(O7.1 hn).1
  have hz:o8 ([]:List (Int×Int))=arF n.1:=by rw[show arF n.1=0 from hw];rfl
  have h:=step pre.length k n s [] hn hz (by simp) (by simp;omega)
  rw[List.append_nil]at h
  exact⟨h,fun r hr=>Eo (mem _ n hn) (by simp) hz hr⟩
 | l1 n a iha=>
  intro hw pre suf s k hd hl
  simp only[XT.post,List.append_assoc]at hd
  have hpa:(pre++a.post).length=pre.length+a.size:=by simp[XT.post_len]
  have hn:=getn (pre++a.post) suf n (by simpa using hd)
  rw[hpa]at hn
  have hlen:=(O7.1 hn).1
  obtain⟨i1,i2⟩:=iha hw.2 pre ([n]++suf) s (k+1) (by simpa using hd) hl
  simp only[XT.size,bZ]
  rw[show k+(a.size+1)=(k+1)+a.size by omega,i1]
  cases ht:bZ sg a pre.length with
  | inl x=>exact⟨rfl,fun r hr=>by cases hr⟩
  | inr ta=>
   have hz:o8 [ta]=arF n.1:=by rw[show arF n.1=1 from hw.1];rfl
   have hv:∀t∈[ta],VT t:=by simpa using i2 ta ht
   exact⟨step _ k n s [ta] hn hz hv (by simp;omega),fun r hr=>Eo (mem _ n hn) hv hz hr⟩
 | l2 n a b iha ihb=>
  intro hw pre suf s k hd hl
  simp only[XT.post,List.append_assoc]at hd
  have hpa:(pre++a.post).length=pre.length+a.size:=by simp[XT.post_len]
  have hpb:(pre++a.post++b.post).length=pre.length+a.size+b.size:=by simp[XT.post_len];omega
  have hn:=getn (pre++a.post++b.post) suf n (by simpa using hd)
  rw[hpb]at hn
  have hlen:=(O7.1 hn).1
  obtain⟨i1,i2⟩:=iha hw.2.1 pre (b.post++[n]++suf) s (k+1+b.size) (by simpa using hd) hl
  simp only[XT.size,bZ]
  rw[show k+(a.size+b.size+1)=(k+1+b.size)+a.size by omega,i1]
  cases ht:bZ sg a pre.length with
  | inl x=>exact⟨rfl,fun r hr=>by cases hr⟩
  | inr ta=>
   have hsa:=a.size_pos
   obtain⟨j1,j2⟩:=ihb hw.2.2 (pre++a.post) ([n]++suf) (s++[ta]) (k+1) (by simpa using hd) (by simp[XT.post_len];omega)
   rw[hpa]at j1 j2
   simp only
   rw[j1]
   cases hu:bZ sg b (pre.length+a.size)with
   | inl x=>exact⟨rfl,fun r hr=>by cases hr⟩
   | inr tb=>
    have hz:o8 [ta,tb]=arF n.1:=by rw[show arF n.1=2 from hw.1];rfl
    have hv:∀t∈[ta,tb],VT t:=by simpa using ⟨i2 ta ht,j2 tb hu⟩
    have:=step _ k n s [ta,tb] hn hz hv (by simp;omega)
    simp only[List.append_assoc,List.cons_append,List.nil_append]
    rw[show pre.length+(a.size+b.size+1)=pre.length+a.size+b.size+1 by omega]
    exact⟨this,fun r hr=>Eo (mem _ n hn) hv hz hr⟩
 | l3 n a b c iha ihb ihc=>
  intro hw pre suf s k hd hl
  simp only[XT.post,List.append_assoc]at hd
  have hpa:(pre++a.post).length=pre.length+a.size:=by simp[XT.post_len]
  have hpb:(pre++a.post++b.post).length=pre.length+a.size+b.size:=by simp[XT.post_len];omega
  have hpc:(pre++a.post++b.post++c.post).length=pre.length+a.size+b.size+c.size:=by simp[XT.post_len];omega
  have hn:=getn (pre++a.post++b.post++c.post) suf n (by simpa using hd)
  rw[hpc]at hn
  have hlen:=(O7.1 hn).1
  obtain⟨i1,i2⟩:=iha hw.2.1 pre (b.post++(c.post++([n]++suf))) s (k+1+c.size+b.size) (by simpa using hd) hl
  simp only[XT.size,bZ]
  rw[show k+(a.size+b.size+c.size+1)=(k+1+c.size+b.size)+a.size by omega,i1]
  have hsa:=a.size_pos
  have hsb:=b.size_pos
  cases ht:bZ sg a pre.length with
  | inl x=>exact⟨rfl,fun r hr=>by cases hr⟩
  | inr ta=>
   obtain⟨j1,j2⟩:=ihb hw.2.2.1 (pre++a.post) (c.post++([n]++suf)) (s++[ta]) (k+1+c.size) (by simpa using hd) (by simp[XT.post_len];omega)
   rw[hpa]at j1 j2
   simp only
   rw[j1]
   cases hu:bZ sg b (pre.length+a.size)with
   | inl x=>exact⟨rfl,fun r hr=>by cases hr⟩
   | inr tb=>
    obtain⟨q1,q2⟩:=ihc hw.2.2.2 (pre++a.post++b.post) ([n]++suf) (s++[ta]++[tb]) (k+1) (by simpa using hd) (by simp[XT.post_len];omega)
    rw[hpb]at q1 q2
    simp only
    rw[q1]
    cases hc:bZ sg c (pre.length+a.size+b.size)with
    | inl x=>exact⟨rfl,fun r hr=>by cases hr⟩
    | inr tc=>
     have hz:o8 [ta,tb,tc]=arF n.1:=by rw[show arF n.1=3 from hw.1];rfl
     have hv:∀t∈[ta,tb,tc],VT t:=by simpa using ⟨i2 ta ht,j2 tb hu,q2 tc hc⟩
     have:=step _ k n s [ta,tb,tc] hn hz hv (by simp;omega)
     simp only[List.append_assoc,List.cons_append,List.nil_append]
     rw[show pre.length+(a.size+b.size+c.size+1)=pre.length+a.size+b.size+c.size+1 by omega]
     exact⟨this,fun r hr=>Eo (mem _ n hn) hv hz hr⟩
end
def iQ (e:List (Int×Int)) (sg:H6):(Int×Int)×Int×Int:=match iP e with
 | .inl x=>((0,0),x)
 | .inr t=>match bZ sg t 0 with
  | .inl x=>((0,0),x)
  | .inr r=>(r,0,0)
theorem WL {α:Type} (s ops:List α) (k:Int) (hk:o8 ops=k) (h:s.length+ops.length≤100):
  G8 .i64 (o8 (s++ops)) k=(s.length:Int)∧jf (s.length:Int) (o8 (s++ops)) (o8 (s++ops))=true∧gp (s++ops) (toN (s.length:Int)) (toN (o8 (s++ops)))=ops
  ∧jf 0 (s.length:Int) (o8 (s++ops))=true∧gp (s++ops) (toN 0) (toN (s.length:Int))=s:=by
 subst hk
 refine⟨?_,?_,?_,?_,?_⟩
 ·rw[H5 (by unfold I64;simp[o8];omega)];simp[o8]
 ·simp[jf,o8];omega
 ·show((s++ops).take (((s++ops).length:Nat):Int).toNat).drop s.length=ops
  rw[Int.toNat_natCast,List.take_length,List.drop_left]
 ·simp[jf,o8];omega
 ·simp[gp,toN]
theorem WJ {e:List (Int×Int)} {sg:H6} {f:(Int×Int)×List (Int×Int)×Int→Option (Out ((Int×Int)×List (Int×Int)×Int) ((Int×Int)×List (Int×Int)) ((Int×Int)×Int×Int))}
  (hI:∀n∈e,I64 n.2) (hs:a6Y e sg (0,0) f) (hend:∀s,f ((0,0),s,(e.length:Int))=some (.ex ((0,0),s))) (hcode:∀x,iP e= .inl x→x.2≠0):
  l7 (E5 (ieq (tX e).2.2 0)) (some ((((0:Int),(0:Int)),(tX e).2):(Int×Int)×Int×Int)) (o5 (P5 f (((0:Int),(0:Int)),([]:List (Int×Int)),(0:Int))) fun(o:(Int×Int)×List (Int×Int)⊕(Int×Int)×Int×Int)=>
   U7 o (fun(y:(Int×Int)×List (Int×Int))=>o5 (lat y.2 0) fun(x:Int×Int)=>o5 (J9 y.2 (toN 0)) fun(x:Int×Int)=>some (x,0,0)) fun(r:(Int×Int)×Int×Int)=>some r)=some (iQ e sg):=by
 unfold tX iQ
 cases h:iP e with
 | inl x=>simp only[D8 (hcode x h),D6,o6]
 | inr t=>
  obtain⟨hp,h48⟩:=Ar h
  have hw:=GM h
  obtain⟨l1,_⟩:=a0v e sg (0,0) h48 hI hs t hw [] [] [] (dK -t.size) (by simpa using hp) (by simp)
  have hsz:e.length=t.size:=by rw[hp,XT.post_len]
  have hlo:P5 f (((0:Int),(0:Int)),([]:List (Int×Int)),(0:Int))=gJ f (dK -t.size+t.size) ((0,0),[],(([]:List (Int×Int)).length:Int)):=by
   unfold P5
   rw[Nat.sub_add_cancel (by unfold dK;omega)];rfl
  simp only[F5 (rfl:(0:Int)=0),o9,l9]
  rw[hlo,l1]
  simp only[List.length_nil,Nat.zero_add]
  cases bZ sg t 0 with
  | inl x=>rfl
  | inr r=>
   obtain⟨k,hk⟩:∃k,dK -t.size=k+1:=⟨dK -t.size -1,by unfold dK;omega⟩
   simp only[List.nil_append]
   rw[hk,gJ,←hsz,hend]
   rfl
theorem Aq {e:List (Int×Int)} {x:Int×Int} (h:iP e= .inl x):x.2≠0:=by
 have key:∀(es:List (Int×Int)) (i:Nat) (ts:List XT) (x:Int×Int),mW i es ts= .inl x→x.2≠0:=by
  intro es
  induction es with
  | nil=>intro i ts x h;cases h
  | cons n es ih=>
   intro i ts x h
   unfold mW at h
   cases hp:push n ts with
   | inl c=>
    rw[hp]at h;cases h
    show c≠0
    unfold push at hp
    (repeat' split at hp) <;> first | (cases hp;done) | (cases hp;decide)
   | inr t2=>
    rw[hp]at h
    simp only at h
    split at h
    ·cases h;show(16:Int)≠0;decide
    ·exact ih _ _ _ h
 unfold iP at h
 split at h
 ·cases h;show(4:Int)≠0;decide
 split at h
 ·cases h;show(5:Int)≠0;decide
 split at h
 ·rename_i y hp;cases h;exact key _ _ _ _ hp
 ·cases h
 ·cases h;show(4:Int)≠0;decide
theorem a0u {e:List (Int×Int)} (sg:H6) (hI:∀n∈e,I64 n.2):vG e sg=some (iQ e sg):=by
 unfold vG
 rw[ET,o7]
 refine WJ hI (fun i n s ops hn hi2 hl hv hlen=>?_) (fun s=>?_) (fun x h=>Aq h)
 ·obtain⟨r,h1,h2,h3⟩:=XO sg n (hI n (fO hn)) ops hv hl
  obtain⟨v1,v2,v3,v4,v5⟩:=WL s ops _ hl hlen
  have e' :LH n ops sg=r:=by unfold LH;rw[h1];rfl
  have hi:=(O7.1 hn).1
  simp only[H9 hn,o6,F9,hn,o7,Jm,v1,v2,v3,v4,v5]
  unfold vJ
  rw[e']
  unfold EN at h2
  have fin:O9 n ops sg=some r→(o5 (O9 n ops sg) fun(x_3:pI×Int)=>l7 (E5 (ieq x_3.2 0)) (some (Out.rt ((((0:Int),(0:Int)),((i:Int),x_3.2)):(Int×Int)×Int×Int)))
    (o5 (cO s [x_3.1]) fun(x_4:List pI)=>some (Out.nx (((0:Int),(0:Int)),x_4,x9 .i64 (i:Int) 1))))=
    some (match if r.2=0 then(.inr r.1:(Int×Int)⊕(Int×Int))else .inl ((i:Int),r.2)with | .inl x=>Out.rt ((0,0),x) | .inr t=>(Out.nx ((0,0),s++[t],((i+1:Nat):Int)):Out ((Int×Int)×List (Int×Int)×Int) ((Int×Int)×List (Int×Int)) ((Int×Int)×Int×Int))):=by
   intro hr
   rw[hr,o7]
   by_cases h0:r.2=0
   ·rw[if_pos h0,F5 h0]
    simp only[o9,l9]
    rw[kC _ (by omega),o7,V6 (by omega)]
   ·rw[if_neg h0,D8 h0];rfl
  cases hz:ieq n.2 0
  ·rw[hz]at h2
   simp only[D6,o6]at h2 ⊢
   cases hu:bM n.1 with
   | none=>rw[hu]at h2;cases h2
   | some u=>
    rw[hu]at h2
    simp only[o7]at h2 ⊢
    cases u
    ·simp only[D6,o6]at h2 ⊢
     cases h2
     rfl
    ·exact fin h2
  ·rw[hz]at h2
   exact fin h2
 ·rw[H8];rfl
section
variable {α β σ ε ρ:Type}
theorem jc (l:List α) (G:β→α→β) (mk:β→Int→σ) (fin:β→ε) (Inv:Nat→β→Prop) {f:σ→Option (σ⊕ε)} {b:β} (hl:l.length≤1000000) (h0:Inv 0 b)
  (hin:∀(i:Nat) (a:α) (b:β),l[i]? =some a→i≤1000000→Inv i b→f (mk b (i:Int))=some (.inl (mk (G b a) ((i+1:Nat):Int)))∧Inv (i+1) (G b a))
  (hend:∀b,Inv l.length b→f (mk b (l.length:Int))=some (.inr (fin b))):
  U9 f (mk b 0)=some (fin (l.foldl G b))∧Inv l.length (l.foldl G b):=by
 have key:∀(n i:Nat) (b:β),i≤l.length→l.length -i<n→Inv i b→jb f n (mk b (i:Int))=some (fin ((l.drop i).foldl G b))∧Inv l.length ((l.drop i).foldl G b):=by
  intro n
  induction n with
  | zero=>intro i b _ h _;omega
  | succ n ih=>
   intro i b hi hn hI
   unfold jb
   by_cases h:i<l.length
   ·have e:=aQ h
    obtain⟨h1,h2⟩:=hin i _ b e (by omega) hI
    rw[h1,List.drop_eq_getElem_cons h]
    exact ih (i+1) _ (by omega) (by omega) h2
   ·have:i=l.length:=by omega
    subst this
    rw[hend b hI,List.drop_length]
    exact⟨rfl,hI⟩
 have:=key dK 0 b (by omega) (by unfold dK;omega) h0
 exact this
theorem aW {γ:Type} (l:List α) (G:β→α→β) (mk:β→Int→σ) (fin:β→ε) (Inv:Nat→β→Prop) (b:β) {f:σ→Option (σ⊕ε)} {K:ε→Option γ} {r:Option γ} (hl:l.length≤1000000) (h0:Inv 0 b)
  (hin:∀(i:Nat) (a:α) (b:β),l[i]? =some a→i≤1000000→Inv i b→f (mk b (i:Int))=some (.inl (mk (G b a) ((i+1:Nat):Int)))∧Inv (i+1) (G b a))
  (hend:∀b,Inv l.length b→f (mk b (l.length:Int))=some (.inr (fin b))) (hk:Inv l.length (l.foldl G b)→K (fin (l.foldl G b))=r):o5 (U9 f (mk b 0)) K=r:=by
 obtain⟨h1,h2⟩:=jc l G mk fin Inv hl h0 hin hend
 rw[h1];exact hk h2
def ay (G:β→α→β⊕ρ):List α→β→β⊕ρ
 | [],b=> .inl b
 | a::l,b=>match G b a with | .inl b' =>ay G l b' | .inr r=> .inr r
theorem Vr (l:List α) (G:β→α→β⊕ρ) (mk:β→Int→σ) (fin:β→ε) (Inv:Nat→β→Prop) {f:σ→Option (Out σ ε ρ)} {b:β} (hl:l.length≤1000000) (h0:Inv 0 b)
  (hin:∀(i:Nat) (a:α) (b:β),l[i]? =some a→i≤1000000→Inv i b→f (mk b (i:Int))=some (match G b a with | .inl b' => .nx (mk b' ((i+1:Nat):Int)) | .inr r=> .rt r)∧∀b',G b a= .inl b' →Inv (i+1) b')
  (hend:∀b,Inv l.length b→f (mk b (l.length:Int))=some (.ex (fin b))):
  P5 f (mk b 0)=some (match ay G l b with | .inl b' => .inl (fin b') | .inr r=> .inr r)∧∀b',ay G l b= .inl b' →Inv l.length b' :=by
 have key:∀(n i:Nat) (b:β),i≤l.length→l.length -i<n→Inv i b→gJ f n (mk b (i:Int))=some (match ay G (l.drop i) b with | .inl b' => .inl (fin b') | .inr r=> .inr r)∧∀b',ay G (l.drop i) b= .inl b' →Inv l.length b' :=by
  intro n
  induction n with
  | zero=>intro i b _ h _;omega
  | succ n ih=>
   intro i b hi hn hI
   unfold gJ
   by_cases h:i<l.length
   ·have e:=aQ h
    obtain⟨h1,h2⟩:=hin i _ b e (by omega) hI
    rw[h1,List.drop_eq_getElem_cons h]
    unfold ay
    cases hg:G b l[i]with
    | inr r=>exact⟨rfl,fun b' hb=>by cases hb⟩
    | inl b' =>exact ih (i+1) _ (by omega) (by omega) (h2 b' hg)
   ·have:i=l.length:=by omega
    subst this
    rw[hend b hI,List.drop_length]
    exact⟨rfl,fun b' hb=>by cases hb;exact hI⟩
 have:=key dK 0 b (by omega) (by unfold dK;omega) h0
 exact this
theorem fJ {γ:Type} (l:List α) (G:β→α→β⊕ρ) (mk:β→Int→σ) (fin:β→ε) (Inv:Nat→β→Prop) (b:β) {f:σ→Option (Out σ ε ρ)} {K:ε⊕ρ→Option γ} {r:Option γ} (hl:l.length≤1000000) (h0:Inv 0 b)
  (hin:∀(i:Nat) (a:α) (b:β),l[i]? =some a→i≤1000000→Inv i b→f (mk b (i:Int))=some (match G b a with | .inl b' => .nx (mk b' ((i+1:Nat):Int)) | .inr r=> .rt r)∧∀b',G b a= .inl b' →Inv (i+1) b')
  (hend:∀b,Inv l.length b→f (mk b (l.length:Int))=some (.ex (fin b)))
  (hk:(∀b',ay G l b= .inl b' →Inv l.length b')→K (match ay G l b with | .inl b' => .inl (fin b') | .inr r=> .inr r)=r):o5 (P5 f (mk b 0)) K=r:=by
 obtain⟨h1,h2⟩:=Vr l G mk fin Inv hl h0 hin hend
 rw[h1];exact hk h2
end
def QK (c:UInt8):Bool:=decide (32≤c.toNat)&&decide (c.toNat≤126)&&decide (c.toNat≠34)
def a0q (s:List UInt8):Bool:=decide (s.length≤64)&&s.all QK
theorem Xu (c:UInt8):∀s:List UInt8,decide (0≤Lib.indexByte s c)=s.any fun x=>decide (x.toNat=c.toNat)
 | []=>by simp[Lib.indexByte]
 | b::l=>by
  have ih:=Xu c l
  have hge:=Lib.indexByte_ge l c
  rw[List.any_cons,←ih]
  have e:Lib.indexByte (b::l) c=if b=c then 0 else if Lib.indexByte l c=-1 then -1 else Lib.indexByte l c+1:=by
   rw[Lib.indexByte];simp
  rw[e]
  by_cases h:b=c
  ·subst h;simp
  ·have h2:b.toNat≠c.toNat:=fun hh=>h (UInt8.toNat_inj.1 hh)
   rw[if_neg h,show decide (b.toNat=c.toNat)=false by simp[h2],Bool.false_or]
   by_cases h3:Lib.indexByte l c=-1
   ·rw[h3];rfl
   ·rw[if_neg h3];simp;omega
theorem a4D (c:UInt8):QK c=(!ilt (c.toNat:Int) 32&&!ilt 126 (c.toNat:Int)&&!ieq (c.toNat:Int) 34):=by
 unfold QK ilt ieq
 rw[Bool.eq_iff_iff];simp;omega
theorem Xc (s:List UInt8) (p:UInt8→Bool):(∀(i:Nat) (a:UInt8),s[i]? =some a→p a=true)↔s.all p=true:=by
 rw[List.all_eq_true]
 exact⟨fun h x hx=>by obtain⟨i,hi,rfl⟩:=List.getElem_of_mem hx;exact h i _ (aQ hi),fun h i a hi=>h a (fO hi)⟩
theorem MH {s:List UInt8} (h:s.length≤1000000):oq s=some (a0q s):=by
 unfold oq
 have h5:ilt 64 (o8 s)= !decide (s.length≤64):=by simp only[ilt,o8];rw[←decide_not];congr 1;simp;omega
 rw[h5,show mY s [34]=some (s.any fun x=>decide (x.toNat=(34:UInt8).toNat))from congrArg some (Xu 34 s)]
 unfold a0q
 cases decide (s.length≤64)
 ·rfl
 simp only[Bool.not_true,l9,o7,Bool.true_and]
 cases h34:s.any fun x=>decide (x.toNat=(34:UInt8).toNat)
 case true=>
  obtain⟨x,hx,hx2⟩:=List.any_eq_true.1 h34
  simp only[decide_eq_true_eq]at hx2
  have:s.all QK=false:=by
   rw[List.all_eq_false]
   refine⟨x,hx,?_⟩
   unfold QK;rw[hx2];decide
  rw[this];rfl
 simp only[l9]
 refine Y9 (Ou s (fun i a=>QK a) false PUnit.unit _ (by omega) (fun i x hx=>?_) ?_) ?_
 rotate_left 2
 ·by_cases hw:s.all QK=true
  ·rw[if_pos ((Xc s QK).2 hw),hw];rfl
  ·rw[if_neg (fun h=>hw ((Xc s QK).1 h))]
   simp only[Bool.not_eq_true]at hw
   rw[hw];rfl
 ·have hi:=(O7.1 hx).1
  have hne:ieq (x.toNat:Int) 34=false:=by
   have:=(List.any_eq_false.1 h34) x (fO hx)
   simp only[decide_eq_true_eq]at this
   exact D8 (by
     have h:(34:UInt8).toNat=34:=rfl
     omega)
  simp only[H9 hx,o6,YG,hx,Option.map_some,o7]
  rw[V6 (by omega),a4D,hne]
  cases ilt (x.toNat:Int) 32 <;> cases ilt 126 (x.toNat:Int) <;> rfl
 ·rw[H8];rfl
def yH (e:List (Int×Int)) (sg:H6) (t:Int×Int):Int:=l7 (ieq (iQ e sg).2.2 0) (l7 (U2 (ieq (iQ e sg).1.1 t.1) (ieq (iQ e sg).1.2 t.2)) 0 8) (iQ e sg).2.2
theorem DL {e:List (Int×Int)} (sg:H6) (t:Int×Int) (hI:∀n∈e,I64 n.2):kH e sg t=some (yH e sg t):=by
 unfold kH yH
 rw[a0u sg hI,o7]
 cases ieq (iQ e sg).2.2 0
 ·rfl
 simp only[o9,l9,o6]
 cases U2 (ieq (iQ e sg).1.1 t.1) (ieq (iQ e sg).1.2 t.2) <;> rfl
def a0G (r:N9):Prop:=r.1.length≤1000000∧r.2.2.2.2.2.2.2.length≤1000000∧(∀n∈r.2.2.2.2.2.1,I64 n.2)∧(∀n∈r.2.2.2.2.2.2.1,I64 n.2)
def Ru (rs:List N9) (d:Int):Nat:=rs.countP fun o=>ieq o.2.1 d
def JQ (r:N9) (sg:H6) (t:Int×Int):Int:=
 l7 (ilt 0 (o8 r.2.2.2.2.2.1)) (l7 (ieq (yH r.2.2.2.2.2.1 sg (1,0)) 0) (yH r.2.2.2.2.2.2.1 sg t) (yH r.2.2.2.2.2.1 sg (1,0))) (yH r.2.2.2.2.2.2.1 sg t)
def Ah (s:A8) (sg:H6) (k:Nat) (r:N9):Int:=
 l7 (wK r.1) (l7 ((s.2.2.2.2.take k).any fun x=>seq x.1 r.1) 7 (match lat s.2.2.2.1 r.2.1 with
  | none=>6
  | some d=>l7 (l7 (ieq r.2.2.1 (-1)) false (l7 (ilt r.2.2.1 0) true (l7 (ile k r.2.2.1) true (match lat s.2.2.2.2 r.2.2.1 with | some q=>E5 (ieq q.2.1 r.2.1) | none=>true)))) 9
   (l7 (ilt r.2.2.2.1 0) 3 (l7 (ilt 9 r.2.2.2.1) 3 (l7 (zh r.2.2.2.2.1) (l7 (ieq r.2.2.2.2.1.1 r.2.2.2.2.1.2) 3
    (l7 (ile 8 (Ru (s.2.2.2.2.take k) r.2.1)) 4 (l7 (a0q r.2.2.2.2.2.2.2) (JQ r sg d.2) 2))) 3))))) 2
theorem iI {α:Type} {l:List α} {i:Int} (h:ile 0 i=false∨ilt i (o8 l)=false):lat l i=none:=by
 unfold lat
 split
 ·rename_i h0
  rcases h with h | h
  ·rw[xH]at h;omega
  ·rw[bF]at h;simp only[o8]at h
   exact List.getElem?_eq_none (by omega)
 ·rfl
theorem PK {s:A8} (sg:H6) {k:Nat} {r:N9} (hr:s.2.2.2.2[k]? =some r) (hl:s.2.2.2.2.length≤1000) (h:a0G r):rM s (k:Int) sg=some (Ah s sg k r):=by
 have hk:=(O7.1 hr).1
 have hcnt:Ru (s.2.2.2.2.take k) r.2.1≤1000:=by
  have:=List.countP_le_length (l:=s.2.2.2.2.take k) (p:=fun(o:N9)=>ieq o.2.1 r.2.1)
  unfold Ru;simp at this;omega
 unfold rM
 rw[F9,hr,o7,oV (by omega),o7]
 refine Y9 (jc (s.2.2.2.2.take k) (fun(c:Nat) (o:N9)=>l7 (ieq o.2.1 r.2.1) (c+1) c) (fun c i=>((c:Int),i)) (fun c=>(c:Int)) (fun i c=>c≤i) (b:=0) (by simp;omega) (by omega) (fun i a c ha hi hc=>?_) (fun c hc=>?_)).1 ?_
 rotate_left 2
 ·have hf:∀(l:List N9) (c:Nat),l.foldl (fun(c:Nat) (o:N9)=>l7 (ieq o.2.1 r.2.1) (c+1) c) c=c+Ru l r.2.1:=by
   intro l
   induction l with
   | nil=>intro c;rfl
   | cons a l ih=>
    intro c
    rw[List.foldl_cons,ih]
    unfold Ru
    rw[List.countP_cons]
    cases ieq a.2.1 r.2.1 <;> simp <;> omega
  rw[hf,Nat.zero_add,o7,gZ h.1,o7,o7,Vk _ (by simp;omega),o7]
  unfold Ah
  cases wK r.1
  ·rfl
  simp only[o9,l9,o6,o7]
  cases (s.2.2.2.2.take k).any fun x=>seq x.1 r.1
  case true=>rfl
  simp only[l9]
  rw[iH r.2.1 0,vH (o8 s.2.2.2.1) r.2.1]
  cases h0:ile 0 r.2.1
  ·rw[iI (.inl h0)];rfl
  cases h1:ilt r.2.1 (o8 s.2.2.2.1)
  ·rw[iI (.inr h1)];rfl
  obtain⟨d,hd,_⟩:=fU (iG.1 h0) (cu.1 h1)
  rw[hd]
  simp only[Bool.not_true,l9,o7,MH h.2.1]
  have hpar:(l7 (E5 (ieq r.2.2.1 (-1))) (l7 (ilt r.2.2.1 0) (some true) (l7 (ile (k:Int) r.2.2.1) (some true) (o5 (lat s.2.2.2.2 r.2.2.1) fun(x_6:N9)=>some (E5 (ieq x_6.2.1 r.2.1))))) (some false))=
    some (l7 (ieq r.2.2.1 (-1)) false (l7 (ilt r.2.2.1 0) true (l7 (ile k r.2.2.1) true (match lat s.2.2.2.2 r.2.2.1 with | some q=>E5 (ieq q.2.1 r.2.1) | none=>true)))):=by
   cases ieq r.2.2.1 (-1)
   case true=>rfl
   simp only[D6,o6,l9]
   cases hp0:ilt r.2.2.1 0
   case true=>rfl
   cases hp1:ile (k:Int) r.2.2.1
   case true=>rfl
   rw[bF]at hp0;rw[xH]at hp1
   obtain⟨q,hq,_⟩:=fU (l:=s.2.2.2.2) hp0 (by simp only[o8];omega)
   rw[hq];rfl
  rw[hpar,o7]
  cases (l7 (ieq r.2.2.1 (-1)) false (l7 (ilt r.2.2.1 0) true (l7 (ile k r.2.2.1) true (match lat s.2.2.2.2 r.2.2.1 with | some q=>E5 (ieq q.2.1 r.2.1) | none=>true))))
  case true=>rfl
  simp only[l9]
  cases ilt r.2.2.2.1 0
  case true=>rfl
  simp only[l9,o7]
  cases ilt 9 r.2.2.2.1
  case true=>rfl
  simp only[l9]
  have hval:∀(A B:Option (N9⊕Int)),l7 (ilt r.2.2.2.2.1.1 0) A (l7 (ile r.2.2.2.2.1.2 r.2.2.2.2.1.1) A (l7 (ilt 109573 r.2.2.2.2.1.2) A B))=l7 (zh r.2.2.2.2.1) (l7 (ieq r.2.2.2.2.1.1 r.2.2.2.2.1.2) A B) A:=by
   intro A B
   unfold zh
   by_cases v0:r.2.2.2.2.1.1<(0:Int)
   ·rw[E9 v0,F8 (show r.2.2.2.2.1.1<(0:Int)from v0)];rfl
   rw[D9 (Int.not_lt.1 v0),F7 (Int.not_lt.1 v0)]
   by_cases v1:(r.2.2.2.2.1.2:Int)≤r.2.2.2.2.1.1
   ·rw[F7 v1]
    by_cases v2:(r.2.2.2.2.1.1:Int)≤r.2.2.2.2.1.2
    ·rw[F7 v2,F5 (Int.le_antisymm v2 v1)]
     cases ile r.2.2.2.2.1.2 109573 <;> rfl
    ·rw[F8 (Int.not_le.1 v2)];rfl
   ·have v1' :=Int.not_le.1 v1
    rw[F8 v1',F7 (Int.le_of_lt v1'),D8 (fun hh=>by rw[hh]at v1';exact Int.lt_irrefl _ v1'),iH]
    cases ile r.2.2.2.2.1.2 109573 <;> rfl
  rw[hval]
  cases zh r.2.2.2.2.1
  ·rfl
  cases ieq r.2.2.2.2.1.1 r.2.2.2.2.1.2
  case true=>rfl
  simp only[o6,l9]
  cases ile 8 ((Ru (s.2.2.2.2.take k) r.2.1:Nat):Int)
  case true=>rfl
  cases a0q r.2.2.2.2.2.2.2
  ·rfl
  simp only[o9,l9,o6,o7,D7,JQ,hd,DL sg _ h.2.2.1,DL sg _ h.2.2.2]
  cases ilt 0 (o8 r.2.2.2.2.2.1)
  ·rfl
  simp only[o6]
  cases ieq (yH r.2.2.2.2.2.1 sg (1,0)) 0 <;> rfl
 ·have hc' :c≤1000000:=by omega
  obtain⟨ha1,ha2⟩:=Uy ha
  simp only[H9 ha,o6,F9,ha,o7]
  rw[V6 (show i≤9000000000000000000 by omega),V6 (show c≤9000000000000000000 by omega)]
  cases ieq a.2.1 r.2.1
  ·exact⟨rfl,by show c≤i+1;omega⟩
  ·exact⟨rfl,by show c+1≤i+1;omega⟩
 ·simp only[H8];rfl
structure SmS (s:A8):Prop where
 nm:s.1.length≤1000000
 ni:s.2.2.1.length≤14
 nd:s.2.2.2.1.length≤14
 nr:s.2.2.2.2.length≤60
 fo:a0C s
 ro:∀r∈s.2.2.2.2,a0G r∧r.2.2.2.2.2.1.length≤50∧r.2.2.2.2.2.2.1.length≤50
def isM (op:Int):Bool:=l7 (ile 36 op) (ile op 39) false
theorem b1G (op:Int):isM op=l7 (ieq op 36) true (l7 (ieq op 37) true (l7 (ieq op 38) true (ieq op 39))):=by
 unfold isM
 by_cases h1:36≤op
 ·rw[F7 h1,o6]
  by_cases h2:op≤39
  ·rw[F7 h2]
   have:op=36∨op=37∨op=38∨op=39:=by omega
   rcases this with rfl | rfl | rfl | rfl <;> rfl
  ·rw[F8 (by omega),D8 (by omega),D8 (by omega),D8 (by omega),D8 (by omega)];rfl
 ·rw[F8 (by omega),D8 (by omega),D8 (by omega),D8 (by omega),D8 (by omega)];rfl
def Ep (p:Int→Bool) (e:List (Int×Int)):List Int:=(e.filter fun n=>p n.1).map (·.2)
def qH (e:List (Int×Int)):List Int×List Int×List Int:=(yM (Ep (fun o=>ieq o 7) e),yM (Ep (fun o=>ieq o 8) e),yM (Ep isM e))
def a6d (g:List Int→Int→List Int) (b:List Int×List Int×List Int) (n:Int×Int):List Int×List Int×List Int:=
 (l7 (ieq n.1 7) (g b.1 n.2) b.1,l7 (ieq n.1 8) (g b.2.1 n.2) b.2.1,l7 (isM n.1) (g b.2.2 n.2) b.2.2)
theorem OX (g:List Int→Int→List Int):∀(e:List (Int×Int)) (b:List Int×List Int×List Int),e.foldl (a6d g) b=((Ep (fun o=>ieq o 7) e).foldl g b.1,(Ep (fun o=>ieq o 8) e).foldl g b.2.1,(Ep isM e).foldl g b.2.2)
 | [],b=>rfl
 | n::e,b=>by
  have hn:∀p:Int→Bool,Ep p (n::e)=l7 (p n.1) (n.2::Ep p e) (Ep p e):=fun p=>by
   unfold Ep;rw[List.filter_cons];cases p n.1 <;> rfl
  rw[List.foldl_cons,OX g e,hn,hn,hn]
  unfold a6d
  simp only
  cases ieq n.1 7 <;> cases ieq n.1 8 <;> cases isM n.1 <;> rfl
theorem Oc:∀(l b:List Int),l.foldl (fun acc n=>acc++[n]) b=b++l
 | [],b=>by simp
 | a::l,b=>by rw[List.foldl_cons,Oc l];simp
theorem xG {a k:Int} (h:a=k) (m:Int) (hm:k≠m):ieq a m=false:=D8 (by omega)
theorem vz {l:List Int} (hl:l.length≤1000000):kF l=some (yM l):=by
 unfold kF
 have:=a6O (l:=l) hl
 rw[show(fun x=>o5 (iC x) fun(x:List Int)=>some x)=fun x=>iC x from funext fun x=>bH _]
 exact this
theorem rQ {e:List (Int×Int)} (h:e.length≤1000000):fF e=some (qH e):=by
 unfold fF
 refine aW e (a6d (fun acc n=>acc++[n])) (fun b i=>(b.1,b.2.1,b.2.2,i)) (fun b=>b) (fun i b=>b.1.length≤i∧b.2.1.length≤i∧b.2.2.length≤i) (([],[],[]):List Int×List Int×List Int) h (by simp) (fun i a b ha hi hI=>?_) (fun b hI=>?_) (fun h2=>?_)
 ·obtain⟨b1,b2,b3⟩:=b
  simp only at hI
  simp only[H9 ha,o6,F9,ha,o7,kC a.2 (show b1.length≤1000000 by omega),kC a.2 (show b2.length≤1000000 by omega),kC a.2 (show b3.length≤1000000 by omega),a6d,b1G]
  rw[V6 (by omega)]
  by_cases h7:a.1=7
  ·rw[F5 h7,xG h7 8 (by decide),xG h7 36 (by decide),xG h7 37 (by decide),xG h7 38 (by decide),xG h7 39 (by decide)]
   exact⟨rfl,by simp <;> omega,by simp <;> omega,by simp <;> omega⟩
  rw[D8 h7]
  by_cases h8:a.1=8
  ·rw[F5 h8,xG h8 36 (by decide),xG h8 37 (by decide),xG h8 38 (by decide),xG h8 39 (by decide)]
   exact⟨rfl,by simp <;> omega,by simp <;> omega,by simp <;> omega⟩
  rw[D8 h8]
  cases ieq a.1 36 <;> cases ieq a.1 37 <;> cases ieq a.1 38 <;> cases ieq a.1 39 <;> exact⟨rfl,by simp <;> omega,by simp <;> omega,by simp <;> omega⟩
 ·simp only[H8];rfl
 ·rw[OX]at h2 ⊢
  simp only[Oc,List.nil_append]at h2 ⊢
  rw[vz (by omega),o7,vz (by omega),o7,vz (by omega)]
  rfl
theorem Tm (p:Int→Bool) (e:List (Int×Int)):(Ep p e).length≤e.length:=by
 unfold Ep;rw[List.length_map];exact List.length_filter_le _ _
theorem BC (e:List (Int×Int)):(qH e).2.1.length≤e.length:=Nat.le_trans (zx _) (Tm _ e)
theorem BD (e:List (Int×Int)):(qH e).2.2.length≤e.length:=Nat.le_trans (zx _) (Tm _ e)
def inD (n d:Int):Bool:=l7 (ile 0 d) (ilt d n) false
def zX (n:Int) (r:N9):List Int:=(qH r.2.2.2.2.2.1).2.1.filter (inD n)++(qH r.2.2.2.2.2.2.1).2.1.filter (inD n)
theorem JW (p:Int→Bool):∀(l b:List Int),l.foldl (fun acc x=>l7 (p x) (acc++[x]) acc) b=b++l.filter p
 | [],b=>by simp
 | a::l,b=>by
  rw[List.foldl_cons,JW p l,List.filter_cons]
  cases p a <;> simp
theorem Oa {f:List Int×Int→Option ((List Int×Int)⊕List Int)} (l b:List Int) (n:Int) (hl:l.length≤1000) (hb:b.length≤1000)
  (hin:∀(i:Nat) (a:Int) (acc:List Int),l[i]? =some a→i≤1000000→f (acc,(i:Int))=l7 (ile 0 a) (l7 (ilt a n) (o5 (cO acc [a]) fun x=>some (.inl (x,x9 .i64 (i:Int) 1))) (some (.inl (acc,x9 .i64 (i:Int) 1)))) (some (.inl (acc,x9 .i64 (i:Int) 1))))
  (hend:∀acc,f (acc,(l.length:Int))=some (.inr acc)):U9 f (b,0)=some (b++l.filter (inD n)):=by
 have key:=jc l (fun(acc:List Int) x=>l7 (inD n x) (acc++[x]) acc) (fun b i=>(b,i)) (fun b=>b) (fun i acc=>acc.length≤1000+i) (f:=f) (b:=b) (by omega) (by omega) ?_ ?_
 ·rw[key.1,JW]
 ·intro i a acc ha hi hI
  have:=(O7.1 ha).1
  rw[hin i a acc ha hi,V6 (by omega),kC _ (by omega)]
  unfold inD
  cases ile 0 a
  ·exact⟨rfl,by show acc.length≤_;omega⟩
  cases ilt a n
  ·exact⟨rfl,by show acc.length≤_;omega⟩
  ·exact⟨rfl,by simp;omega⟩
 ·intro acc hI
  rw[hend]
theorem FH {r:N9} (n:Int) (h1:r.2.2.2.2.2.1.length≤50) (h2:r.2.2.2.2.2.2.1.length≤50):jQ r n=some (zX n r):=by
 have g1:=BC r.2.2.2.2.2.1
 have g2:=BC r.2.2.2.2.2.2.1
 unfold jQ zX
 rw[rQ (by omega),o7,rQ (by omega),o7]
 refine Y9 (Oa (qH r.2.2.2.2.2.1).2.1 [] n (by omega) (by simp) (fun i a acc ha hi=>?_) (fun acc=>?_)) ?_
 rotate_left 2
 ·rw[o7,bH,List.nil_append]
  have:=List.length_filter_le (inD n) (qH r.2.2.2.2.2.1).2.1
  refine Oa (qH r.2.2.2.2.2.2.1).2.1 _ n (by omega) (by omega) (fun i a acc ha hi=>?_) (fun acc=>?_)
  ·simp only[H9 ha,o6,F9,ha,o7]
   rw[show J9 (qH r.2.2.2.2.2.2.1).2.1 (toN (i:Int))=some a from ha,o7]
  ·simp only[H8];rfl
 ·simp only[H9 ha,o6,F9,ha,o7]
  rw[show J9 (qH r.2.2.2.2.2.1).2.1 (toN (i:Int))=some a from ha,o7]
 ·simp only[H8];rfl
def nD (s:A8):Int:=o8 s.2.2.2.1
def dl (n:Int) (rs:List N9) (d:Int):List Int:=rs.flatMap fun r=>l7 (ieq r.2.1 d) (zX n r) []
def I5 (s:A8) (d:Int):List Int:=l7 (inD (nD s) d) (yM (dl (nD s) s.2.2.2.2 d)) []
theorem OW {s:A8} (h:SmS s) {r:N9} (hr:r∈s.2.2.2.2) (n:Int):(zX n r).length≤100:=by
 obtain⟨_,h1,h2⟩:=h.ro r hr
 have a1:=BC r.2.2.2.2.2.1
 have a2:=BC r.2.2.2.2.2.2.1
 have b1:=List.length_filter_le (inD n) (qH r.2.2.2.2.2.1).2.1
 have b2:=List.length_filter_le (inD n) (qH r.2.2.2.2.2.2.1).2.1
 unfold zX;rw[List.length_append];omega
theorem Xm (n:Int) (rs:List N9) (r:N9) (d:Int):dl n (rs++[r]) d=dl n rs d++l7 (ieq r.2.1 d) (zX n r) []:=by
 unfold dl;rw[List.flatMap_append];simp
theorem a5A (n:Int) (rs:List N9) (r:N9) (d:Int):dl n (r::rs) d=l7 (ieq r.2.1 d) (zX n r) []++dl n rs d:=rfl
theorem UV {s:A8} (h:SmS s) (n d:Int):∀(rs:List N9),(∀r∈rs,r∈s.2.2.2.2)→(dl n rs d).length≤100*rs.length
 | [],_=>by simp[dl]
 | r::rs,hm=>by
  have ih:=UV h n d rs fun r hr=>hm r (by simp[hr])
  have h1:=OW h (hm r (by simp)) n
  rw[a5A,List.length_append,List.length_cons]
  cases ieq r.2.1 d
  ·simp only[l9,List.length_nil];omega
  ·simp only[o6];omega
theorem b1L {n:Int} {rs:List N9} {d x:Int} :x∈dl n rs d↔∃r∈rs,r.2.1=d∧x∈zX n r:=by
 unfold dl
 rw[List.mem_flatMap]
 constructor
 ·rintro⟨r,hr,hx⟩
  cases hq:ieq r.2.1 d <;> rw[hq]at hx
  ·simp at hx
  ·exact⟨r,hr,N7.1 hq,hx⟩
 ·rintro⟨r,hr,hq,hx⟩
  exact⟨r,hr,by rw[F5 hq];exact hx⟩
theorem a2X {n:Int} {r:N9} {x:Int} (h:x∈zX n r):0≤x∧x<n:=by
 have key:inD n x=true:=by
  unfold zX at h
  rcases List.mem_append.1 h with h | h <;> exact(List.mem_filter.1 h).2
 unfold inD at key
 cases h0:ile 0 x <;> rw[h0]at key
 ·cases key
 ·exact⟨iG.1 h0,cu.1 key⟩
theorem qN (s:A8) (d:Int):SI (I5 s d):=by
 unfold I5;cases inD (nD s) d
 ·exact List.Pairwise.nil
 ·exact YI _
theorem qM {s:A8} {d x:Int} (h:x∈I5 s d):0≤x∧x<nD s:=by
 unfold I5 at h
 cases hq:inD (nD s) d <;> rw[hq]at h
 ·simp at h
 ·obtain⟨r,_,_,hx⟩:=b1L.1 ((zH _ _).1 h)
  exact a2X hx
theorem IV {α:Type} (m k:Nat) (f:Nat→α) (v:α):((List.range m).map f).set k v=(List.range m).map fun d=>if d=k then v else f d:=by
 apply List.ext_getElem?
 intro i
 rw[List.getElem?_set,List.getElem?_map,List.getElem?_map,List.length_map,List.length_range]
 by_cases hi:i<m
 ·rw[List.getElem?_range hi]
  by_cases h:k=i
  ·subst h;simp[hi]
  ·simp[h,Ne.symm h]
 ·have:(List.range m)[i]? =none:=by simp;omega
  rw[this]
  by_cases h:k=i
  ·subst h;simp[hi]
  ·simp[h]
def Jo (m:Nat) (rs:List N9):List (List Int):=(List.range m).map fun(d:Nat)=>dl (m:Int) rs (d:Int)
theorem ER {l:List Int} (hl:l.length≤1000000):pM l=some (yM l):=vz hl
theorem tJ {α:Type} (m:Nat) (f:Nat→α) {k:Nat} (h:k<m):((List.range m).map f)[k]? =some (f k):=by
 rw[List.getElem?_map,List.getElem?_range h];rfl
theorem wY {s:A8} (h:SmS s):jw s=some ((List.range s.2.2.2.1.length).map fun(d:Nat)=>I5 s (d:Int)):=by
 have hnr:=h.nr
 have hnd:=h.nd
 unfold jw
 generalize hm:s.2.2.2.1.length=m at*
 have hn:nD s=(m:Int):=by unfold nD o8;rw[hm]
 rw[show o8 s.2.2.2.1=(m:Int)from hn,show jg (m:Int) ([]:List Int)=some (Jo m []) by unfold jg Jo dl;rw[if_pos (by omega)];simp[List.map_const'],o7]
 refine aW s.2.2.2.2 (fun(b:List (List Int)) r=>l7 (inD m r.2.1) (b.set r.2.1.toNat ((b.getD r.2.1.toNat [])++zX m r)) b) (fun b i=>(b,i)) (fun b=>b) (fun i b=>b=Jo m (s.2.2.2.2.take i)) (Jo m []) (by omega) (by simp) (fun i r b ha hi hI=>?_) (fun b hI=>?_) (fun h2=>?_)
 ·have hlt:=(O7.1 ha).1
  obtain⟨_,h1,h2⟩:=h.ro r (fO ha)
  have hst:s.2.2.2.2.take (i+1)=s.2.2.2.2.take i++[r]:=by
   rw[List.take_succ_eq_append_getElem hlt,(O7.1 ha).2]
  have hlb:o8 b=(m:Int):=by rw[hI];simp[o8,Jo]
  obtain⟨rd,hrd⟩:∃rd:Int,r.2.1=rd:=⟨r.2.1,rfl⟩
  simp only[H9 ha,o6,F9,ha,o7,hlb,hrd]
  rw[V6 (by omega),hst]
  by_cases hd:0≤rd∧rd<(m:Int)
  ·obtain⟨d0,d1⟩:=hd
   have hk:rd.toNat<m:=by omega
   have hkk:((rd.toNat:Nat):Int)=rd:=by omega
   have hg:b[rd.toNat]? =some (dl m (s.2.2.2.2.take i) rd):=by rw[hI];unfold Jo;rw[tJ m _ hk,hkk]
   have hll:=UV h m rd (s.2.2.2.2.take i) fun r hr=>List.mem_of_mem_take hr
   have hrl:=OW h (fO ha) m
   have htl:(s.2.2.2.2.take i).length≤60:=by simp;omega
   rw[F7 d0,E9 d1,show inb rd (m:Int)=true by unfold inb;simp;omega,show J9 b (toN rd)=some (dl m (s.2.2.2.2.take i) rd)from hg,FH _ h1 h2]
   simp only[o6,o7]
   rw[Ed (by omega),show Dh (toN rd) (toN rd)=true by simp[Dh]]
   simp only[o6,o7]
   have hin:inD m rd=true:=by unfold inD;rw[F7 d0,E9 d1];rfl
   rw[hin,show b.getD rd.toNat []=dl m (s.2.2.2.2.take i) rd by rw[oM,hg];rfl]
   refine⟨rfl,?_⟩
   show b.set rd.toNat _=_
   rw[hI];unfold Jo
   rw[IV]
   apply List.map_congr_left
   intro d hdm
   rw[Xm,hrd]
   by_cases hq:d=rd.toNat
   ·subst hq;rw[if_pos rfl,hkk,F5 rfl];rfl
   ·rw[if_neg hq,D8 (by omega)];simp
  ·have hin:inD m rd=false:=by
    unfold inD
    by_cases d0:0≤rd
    ·rw[F7 d0,D9 (by omega)];rfl
    ·rw[F8 (by omega)];rfl
   rw[hin]
   refine⟨?_,?_⟩
   ·unfold inD at hin
    cases q0:ile 0 rd
    ·rfl
    ·rw[q0]at hin;simp only[o6]at hin ⊢;rw[hin];rfl
   ·show b=_
    rw[hI];unfold Jo
    apply List.map_congr_left
    intro d hdm
    have:=List.mem_range.1 hdm
    rw[Xm,hrd,D8 (by omega)];simp
 ·simp only[H8];rfl
 ·rw[List.take_length]at h2
  rw[h2]
  generalize hA:Jo m s.2.2.2.2=A
  have hAl:o8 A=(m:Int):=by rw[←hA];simp[o8,Jo]
  refine aW (List.range m) (fun(b:List (List Int)) d=>b.set d (yM (b.getD d []))) (fun b i=>(b,i)) (fun b=>b) (fun i b=>b=(List.range m).map fun(d:Nat)=>if d<i then yM (dl m s.2.2.2.2 (d:Int))else dl m s.2.2.2.2 (d:Int)) A (by simp;omega) (by rw[←hA];unfold Jo;simp) (fun i d b ha hi hI=>?_) (fun b hI=>?_) (fun h3=>?_)
  ·have hlt:=(O7.1 ha).1
   simp only[List.length_range]at hlt
   have hdi:d=i:=by rw[List.getElem?_range hlt]at ha;exact(Option.some.inj ha).symm
   subst hdi
   have hlb:o8 b=(m:Int):=by rw[hI];simp[o8]
   have hg:b[d]? =some (dl m s.2.2.2.2 (d:Int)):=by rw[hI,tJ m _ hlt,if_neg (by omega)]
   have hll:=UV h m d s.2.2.2.2 fun r hr=>hr
   simp only[hAl,hlb]
   rw[E9 (show(d:Int)<(m:Int) by omega),show inb (d:Int) (m:Int)=true by unfold inb;simp;omega,show J9 b (toN (d:Int))=some (dl m s.2.2.2.2 (d:Int))from hg]
   simp only[o6,o7]
   rw[ER (by omega),show Dh (toN (d:Int)) (toN (d:Int))=true by simp[Dh],V6 (by omega)]
   simp only[o6,o7]
   rw[show b.getD d []=dl m s.2.2.2.2 (d:Int) by rw[oM,hg];rfl]
   refine⟨rfl,?_⟩
   rw[hI,IV]
   apply List.map_congr_left
   intro e he
   by_cases hq:e=d
   ·subst hq;rw[if_pos rfl,if_pos (by omega)]
   ·rw[if_neg hq]
    by_cases hq2:e<d
    ·rw[if_pos hq2,if_pos (by omega)]
    ·rw[if_neg hq2,if_neg (by omega)]
  ·simp only[List.length_range,hAl,D9 (show(m:Int)≤(m:Int) by omega)];rfl
  ·rw[h3]
   apply congrArg some
   apply List.map_congr_left
   intro d hd
   have:=List.mem_range.1 hd
   simp only[List.length_range]
   rw[if_pos this]
   unfold I5
   rw[hn,show inD (m:Int) (d:Int)=true by unfold inD;rw[F7 (by omega),E9 (by omega)];rfl];rfl
def Rch (D:Int→List Int) (d:Int) (L:List Int):Prop:=SI L∧(∀x∈D d,x∈L)∧(∀x∈L,∀y∈D x,y∈L)∧∀C:Int→Prop,(∀x∈D d,C x)→(∀x,C x→∀y∈D x,C y)→∀x∈L,C x
theorem Rch.unique {D:Int→List Int} {d:Int} {L M:List Int} (h:Rch D d L) (k:Rch D d M):L=M:=
 Wl h.1 k.1 fun x=>⟨fun hx=>h.2.2.2 (fun y=>y∈M) k.2.1 k.2.2.1 x hx,fun hx=>k.2.2.2 (fun y=>y∈L) h.2.1 h.2.2.1 x hx⟩
theorem QM:∀{B A:List Int},SI A→SI B→(∀x∈A,x∈B)→A=B∨A.length<B.length
 | [],A,_,_,h=>by
  cases A with
  | nil=>exact .inl rfl
  | cons a A=>exact absurd (h a (by simp)) (by simp)
 | b::B,[],_,_,_=> .inr (by simp)
 | b::B,a::A,hA,hB,h=>by
  have hA' :=List.pairwise_cons.1 hA
  have hB' :=List.pairwise_cons.1 hB
  rcases List.mem_cons.1 (h a (by simp))with hab | hab
  ·subst hab
   rcases QM (B:=B) (A:=A) hA'.2 hB'.2 (fun x hx=>by
    rcases List.mem_cons.1 (h x (by simp[hx]))with h1 | h1
    ·have:=hA'.1 x hx;omega
    ·exact h1)with h1 | h1
   ·exact .inl (by rw[h1])
   ·exact .inr (by simp only[List.length_cons];omega)
  ·have hab2:=hB'.1 a hab
   rcases QM (B:=B) (A:=a::A) hA hB'.2 (fun x hx=>by
    rcases List.mem_cons.1 (h x hx)with h1 | h1
    ·rcases List.mem_cons.1 hx with h2 | h2
     ·omega
     ·have:=hA'.1 x h2;omega
    ·exact h1)with h1 | h1
   ·exact .inr (by rw[h1];simp)
   ·exact .inr (by simp only[List.length_cons]at*;omega)
def zM (D:Int→List Int) (L:List Int):List Int:=L.foldl (fun acc x=>Ku (D x) acc) L
theorem wQ (D:Int→List Int) (x:Int):∀(l acc:List Int),x∈l.foldl (fun acc x=>Ku (D x) acc) acc↔x∈acc∨∃y∈l,x∈D y
 | [],acc=>by simp
 | a::l,acc=>by
  rw[List.foldl_cons,wQ D x l,KL]
  constructor
  ·rintro((h | h) | ⟨y,hy,h⟩)
   ·exact .inr ⟨a,by simp,h⟩
   ·exact .inl h
   ·exact .inr ⟨y,by simp[hy],h⟩
  ·rintro(h | ⟨y,hy,h⟩)
   ·exact .inl (.inr h)
   ·rcases List.mem_cons.1 hy with rfl | hy
    ·exact .inl (.inl h)
    ·exact .inr ⟨y,hy,h⟩
theorem XM (D:Int→List Int):∀(l:List Int) {acc:List Int},SI acc→SI (l.foldl (fun acc x=>Ku (D x) acc) acc)
 | [],_,h=>h
 | a::l,_,h=>by rw[List.foldl_cons];exact XM D l (QF _ h)
theorem KU (D:Int→List Int) {L:List Int} (h:SI L):SI (zM D L):=XM D L h
def itS (D:Int→List Int) (d:Int):Nat→List Int
 | 0=>D d
 | k+1=>zM D (itS D d k)
section
variable {D:Int→List Int} {n:Nat} (hsi:∀x,SI (D x)) (hin:∀x,∀y∈D x,0≤y∧y<(n:Int))
include hsi hin
theorem Sv (d:Int):∀k,SI (itS D d k)
 | 0=>hsi d
 | k+1=>KU D (Sv d k)
theorem a1D (d:Int):∀k,∀x∈itS D d k,0≤x∧x<(n:Int)
 | 0,x,hx=>hin d x hx
 | k+1,x,hx=>by
  rcases(wQ D x _ _).1 hx with h | ⟨y,_,h⟩
  ·exact a1D d k x h
  ·exact hin y x h
theorem Xx (d:Int) (k:Nat):zM D (itS D d k)=itS D d k∨(itS D d k).length<(zM D (itS D d k)).length:=by
 rcases QM (Sv hsi hin d k) (KU D (Sv hsi hin d k)) (fun x hx=>(wQ D x _ _).2 (.inl hx))with h | h
 ·exact .inl h.symm
 ·exact .inr h
theorem Ot (d:Int):∀k,zM D (itS D d k)=itS D d k∨k<(zM D (itS D d k)).length
 | 0=>by
  rcases Xx hsi hin d 0 with h | h
  ·exact .inl h
  ·exact .inr (by omega)
 | k+1=>by
  rcases Ot d k with h | h
  ·exact .inl (by show zM D (zM D (itS D d k))=zM D (itS D d k);rw[h,h])
  ·rcases Xx hsi hin d (k+1)with h2 | h2
   ·exact .inl h2
   ·exact .inr (by
     have:(itS D d (k+1)).length=(zM D (itS D d k)).length:=rfl
     omega)
theorem b1H (d:Int):Rch D d (itS D d n):=by
 have hst:zM D (itS D d n)=itS D d n:=by
  rcases Ot hsi hin d n with h | h
  ·exact h
  ·have:=LX n (KU D (Sv hsi hin d n)) (a1D hsi hin d (n+1))
   omega
 refine⟨Sv hsi hin d n,?_,?_,?_⟩
 ·intro x hx
  have:∀k,x∈itS D d k:=by
   intro k
   induction k with
   | zero=>exact hx
   | succ k ih=>exact(wQ D x _ _).2 (.inl ih)
  exact this n
 ·intro x hx y hy
  rw[←hst]
  exact(wQ D y _ _).2 (.inr ⟨x,hx,hy⟩)
 ·intro C h1 h2
  have:∀k,∀x∈itS D d k,C x:=by
   intro k
   induction k with
   | zero=>exact h1
   | succ k ih=>
    intro x hx
    rcases(wQ D x _ _).1 hx with h | ⟨y,hy,h⟩
    ·exact ih x h
    ·exact h2 y (ih y hy) x h
  exact this n
end
def au (s:A8) (d:Int):List Int:=itS (I5 s) d s.2.2.2.1.length
theorem BG (s:A8) (d:Int):Rch (I5 s) d (au s d):=
 b1H (n:=s.2.2.2.1.length) (qN s) (fun x y hy=>qM hy) d
theorem uO {s:A8} {d x:Int} (h:x∈au s d):0≤x∧x<nD s:=a1D (n:=s.2.2.2.1.length) (qN s) (fun x y hy=>qM hy) d _ x h
theorem JG {s:A8} (h:SmS s) (d:Int):(I5 s d).length≤14:=
 Nat.le_trans (LX s.2.2.2.1.length (qN s d) (fun x hx=>qM hx)) h.nd
theorem CW {s:A8} (h:SmS s) {l:List Int} (hs:SI l) (hi:∀x∈l,0≤x∧x<nD s):l.length≤14:=Nat.le_trans (LX s.2.2.2.1.length hs hi) h.nd
def mk (S:List Bool) (x:Int):Bool:=if 0≤x then S.getD x.toNat false else false
def unm (S:List Bool):Nat:=S.count false
def rG (b:List Bool×List Int) (e:Int):List Bool×List Int:=l7 (mk b.1 e) b (b.1.set e.toNat true,b.2++[e])
theorem Vw {S:List Bool} {x:Int} (h0:0≤x) (h1:x<o8 S):S[x.toNat]? =some (mk S x):=by
 unfold mk;rw[if_pos h0,oM]
 have:x.toNat<S.length:=by simp only[o8]at h1;omega
 rw[aQ this];rfl
theorem Qc {S:List Bool} {e:Int} (h0:0≤e) (h1:e<o8 S) (x:Int):mk (S.set e.toNat true) x=l7 (ieq x e) true (mk S x):=by
 unfold mk
 have hl:e.toNat<S.length:=by simp only[o8]at h1;omega
 by_cases hx:0≤x
 ·rw[if_pos hx,if_pos hx,oM,oM,List.getElem?_set]
  by_cases hq:x=e
  ·subst hq;rw[if_pos rfl,if_pos hl,F5 rfl];rfl
  ·rw[if_neg (by omega),D8 hq];rfl
 ·rw[if_neg hx,if_neg hx,D8 (by omega)];rfl
theorem a6Q {S:List Bool} {e:Int} (h0:0≤e) (h1:e<o8 S) (hm:mk S e=false):unm (S.set e.toNat true)+1=unm S:=by
 have hl:e.toNat<S.length:=by simp only[o8]at h1;omega
 have hg:=Vw h0 h1
 rw[hm,aQ hl]at hg
 have hg' :S[e.toNat]=false:=Option.some.inj hg
 unfold unm
 rw[List.count_set hl,hg']
 have:0<S.count false:=List.count_pos_iff.2 (by rw[←hg'];exact List.getElem_mem hl)
 simp;omega
structure RInv (n:Nat) (S:List Bool) (Q:List Int) (l:List Int) (S' :List Bool) (Q' :List Int):Prop where
 len:S'.length=n
 seen:∀x:Int,0≤x→x<(n:Int)→(mk S' x=true↔mk S x=true∨x∈l)
 sum:Q'.length+unm S' =Q.length+unm S
 le:unm S' ≤unm S
 old:∀x∈Q,x∈Q'
 new:∀x∈Q',x∈Q∨x∈l
 got:∀x,mk S' x=true→mk S x=true∨x∈Q'
theorem a3e {n:Nat} :∀(l:List Int) (S:List Bool) (Q:List Int),S.length=n→(∀x∈l,0≤x∧x<(n:Int))→RInv n S Q l (l.foldl rG (S,Q)).1 (l.foldl rG (S,Q)).2
 | [],S,Q,hl,_=>⟨hl,fun x _ _=>by simp,rfl,Nat.le_refl _,fun x hx=>hx,fun x hx=> .inl hx,fun x hx=> .inl hx⟩
 | e::l,S,Q,hl,hi=>by
  have he:=hi e (by simp)
  have hel:e<o8 S:=by simp only[o8];omega
  rw[List.foldl_cons]
  cases hm:mk S e with
  | true=>
   rw[show rG (S,Q) e=(S,Q) by unfold rG;rw[hm];rfl]
   have ih:=a3e l S Q hl fun x hx=>hi x (by simp[hx])
   refine⟨ih.len,fun x h0 h1=>?_,ih.sum,ih.le,ih.old,fun x hx=>?_,ih.got⟩
   ·rw[ih.seen x h0 h1,List.mem_cons]
    constructor
    ·rintro(h | h)
     ·exact .inl h
     ·exact .inr (.inr h)
    ·rintro(h | h | h)
     ·exact .inl h
     ·subst h;exact .inl hm
     ·exact .inr h
   ·rcases ih.new x hx with h | h
    ·exact .inl h
    ·exact .inr (by simp[h])
  | false=>
   rw[show rG (S,Q) e=(S.set e.toNat true,Q++[e]) by unfold rG;rw[hm];rfl]
   have ih:=a3e l (S.set e.toNat true) (Q++[e]) (by simp[hl]) fun x hx=>hi x (by simp[hx])
   have hu:=a6Q he.1 hel hm
   refine⟨ih.len,fun x h0 h1=>?_,?_,?_,fun x hx=>ih.old x (by simp[hx]),fun x hx=>?_,fun x hx=>?_⟩
   ·rw[ih.seen x h0 h1,Qc he.1 hel,List.mem_cons]
    cases hq:ieq x e
    ·rw[pW]at hq;simp[hq]
    ·rw[N7]at hq;simp[hq]
   ·have:=ih.sum;simp only[List.length_append,List.length_cons,List.length_nil]at this;omega
   ·have:=ih.le;omega
   ·rcases ih.new x hx with h | h
    ·rcases List.mem_append.1 h with h | h
     ·exact .inl h
     ·exact .inr (by simp at h;simp[h])
    ·exact .inr (by simp[h])
   ·rcases ih.got x hx with h | h
    ·rw[Qc he.1 hel]at h
     cases hq:ieq x e
     ·rw[hq]at h;exact .inl h
     ·rw[N7]at hq;subst hq
      exact .inr (ih.old _ (by simp))
    ·exact .inr h
def Ho (S:List Bool):List Int:=((List.range S.length).filter fun i=>S.getD i false).map fun(i:Nat)=>(i:Int)
theorem Bl {S:List Bool} (x:Int):x∈Ho S↔mk S x=true:=by
 unfold Ho mk
 rw[List.mem_map]
 constructor
 ·rintro⟨i,hi,rfl⟩
  rw[if_pos (by omega)]
  exact(List.mem_filter.1 hi).2
 ·intro h
  split at h
  ·refine⟨x.toNat,List.mem_filter.2 ⟨List.mem_range.2 ?_,h⟩,by omega⟩
   rw[oM]at h
   cases hg:S[x.toNat]? with
   | none=>rw[hg]at h;cases h
   | some b=>exact(O7.1 hg).1
  ·cases h
theorem a1Q (S:List Bool):SI (Ho S):=by
 unfold Ho
 refine List.Pairwise.map _ (R:=(·< ·)) (fun a b h=>by omega) (List.Pairwise.filter _ List.pairwise_lt_range)
theorem Vt {f:List Int×Int→Option ((List Int×Int)⊕List Int)} (S:List Bool) (hS:S.length≤100)
  (hin:∀(i:Nat) (a:Bool) (acc:List Int),S[i]? =some a→i≤1000000→acc.length≤i→f (acc,(i:Int))=l7 a (o5 (cO acc [(i:Int)]) fun x=>some (.inl (x,x9 .i64 (i:Int) 1))) (some (.inl (acc,x9 .i64 (i:Int) 1))))
  (hend:∀acc,f (acc,(S.length:Int))=some (.inr acc)):U9 f ([],0)=some (Ho S):=by
 have mk2:∀i,i≤S.length→((List.range i).filter fun i=>S.getD i false).length≤i:=fun i _=>by
  have:=List.length_filter_le (fun i=>S.getD i false) (List.range i);simpa using this
 obtain⟨e,h1,h2⟩:=Z9 (f:=f) (s:=([],0)) (fun x=>∃i:Nat,x=(((List.range i).filter fun i=>S.getD i false).map fun(i:Nat)=>(i:Int),(i:Int))∧i≤S.length) (fun e=>e=Ho S) (fun x=>S.length -x.2.toNat) ⟨0,rfl,by omega⟩ (by simp;omega) (by
  rintro x ⟨i,rfl,hi⟩
  by_cases h:i<S.length
  ·have e:=aQ h
   have hst:(List.range (i+1)).filter (fun i=>S.getD i false)=(List.range i).filter (fun i=>S.getD i false)++l7 S[i] [i] []:=by
    rw[List.range_succ,List.filter_append]
    congr 1
    rw[List.filter_cons,oM,e]
    cases S[i] <;> rfl
   have hl:=mk2 i hi
   refine .inl ⟨(((List.range (i+1)).filter fun i=>S.getD i false).map fun(i:Nat)=>(i:Int),((i+1:Nat):Int)),?_,⟨i+1,rfl,h⟩,by simp;omega⟩
   rw[hin i _ _ e (by omega) (by simpa using hl),V6 (by omega),hst,List.map_append,kC _ (by rw[List.length_map];omega)]
   cases S[i]
   ·simp
   ·rfl
  ·have:i=S.length:=by omega
   subst this
   exact .inr ⟨_,hend _,rfl⟩)
 rw[h1,h2]
theorem Lp {D:Int→List Int} {n:Nat} (hn:n≤14) (hsi:∀x,SI (D x)) (hin:∀x,∀y∈D x,0≤y∧y<(n:Int)) {d:Int} (h0:0≤d) (h1:d<(n:Int)):
  ∃L,lW ((List.range n).map fun(x:Nat)=>D (x:Int)) d=some L∧Rch D d L:=by
 have hA:o8 ((List.range n).map fun(x:Nat)=>D (x:Int))=(n:Int):=by simp[o8]
 have hget:∀x:Int,0≤x→x<n→lat ((List.range n).map fun(x:Nat)=>D (x:Int)) x=some (D x):=fun x a b=>by
  have:x.toNat<n:=by omega
  unfold lat
  rw[if_pos a,tJ n _ this,Int.toNat_of_nonneg a]
 unfold lW
 generalize (List.range n).map (fun(x:Nat)=>D (x:Int))=A at*
 rw[hA,show jg (n:Int) false=some (List.replicate n false) by unfold jg;rw[if_pos (by omega)];simp,o7]
 have hD14:∀x,(D x).length≤14:=fun x=>Nat.le_trans (LX n (hsi x) (hin x)) hn
 have key:=Z9 (f:=fun(x:List Bool×List Int)=>l7 (ilt 0 (o8 x.2)) (o5 (lat x.2 0) fun(x_1:Int)=>o5 (J9 x.2 (toN 0)) fun(x_2:Int)=>l7 (jf 1 (o8 x.2) (o8 x.2)) (o5 (lat A x_2) fun(x_3:List Int)=>
   o5 (U9 (fun(x:List Bool×List Int×Int)=>l7 (ilt x.2.2 (o8 x_3)) (o5 (lat x_3 x.2.2) fun(x_4:Int)=>o5 (lat x.1 x_4) fun(x_5:Bool)=>o5 (J9 x.1 (toN x_4)) fun(x_6:Bool)=>
     l7 (E5 x_6) (o5 (lat x.1 x_4) fun(x_7:Bool)=>o5 (J9 x.1 (toN x_4)) fun(x_8:Bool)=>o5 (cO x.2.1 [x_4]) fun(x_9:List Int)=>some (.inl (P8 x.1 (toN x_4) true,x_9,x9 .i64 x.2.2 1)))
      (some (.inl (x.1,x.2.1,x9 .i64 x.2.2 1)))) (some (.inr (x.1,x.2.1)))) (x.1,gp x.2 (toN 1) (toN (o8 x.2)),0)) fun(y:List Bool×List Int)=>some (.inl y)) none) (some (.inr x.1)))
  (s:=(List.replicate n false,[d]))
  (fun x=>x.1.length=n∧(∀q∈x.2,0≤q∧q<(n:Int))∧x.2.length+unm x.1≤n+1∧(∀q∈x.2,q=d∨mk x.1 q=true)∧(∀v,v=d∨mk x.1 v=true→v∈x.2∨∀y∈D v,mk x.1 y=true)∧
   (∀C:Int→Prop,(∀x∈D d,C x)→(∀x,C x→∀y∈D x,C y)→∀v,mk x.1 v=true→C v)∧(∀v,mk x.1 v=true→0≤v∧v<(n:Int)))
  (fun S=>S.length=n∧Rch D d (Ho S)) (fun x=>2*unm x.1+x.2.length) ?_ ?_ ?_
 ·obtain⟨S,k1,k2,k3⟩:=key
  refine⟨Ho S,?_,k3⟩
  refine(iL k1 _).trans ?_
  rw[bH]
  refine Vt S (by omega) (fun i a acc ha hi hacc=>?_) (fun acc=>?_)
  ·simp only[H9 ha,o6,F9,ha,o7]
   rw[show J9 S (toN (i:Int))=some a from ha,o7]
  ·simp only[H8];rfl
 ·have hnone:∀v,mk (List.replicate n false) v=false:=fun v=>by
   unfold mk
   split
   ·rw[oM,List.getElem?_replicate];split <;> rfl
   ·rfl
  refine⟨by simp,fun q hq=>by simp at hq;omega,?_,fun q hq=> .inl (by simpa using hq),fun v hv=>?_,fun C _ _ v hv=>(by rw[hnone]at hv;cases hv),fun v hv=>(by rw[hnone]at hv;cases hv)⟩
  ·simp[unm,List.count_replicate];omega
  ·rcases hv with rfl | hv
   ·exact .inl (by simp)
   ·rw[hnone]at hv;cases hv
 ·simp[unm,List.count_replicate];omega
 ·rintro⟨S,Q⟩ ⟨i1,i2,i3,i4,i5,i6,i7⟩
  simp only at i1 i2 i3 i4 i5 i6 i7
  cases Q with
  | nil=>
   right
   refine⟨S,rfl,i1,a1Q S,fun x hx=>?_,fun x hx y hy=>?_,fun C c1 c2 x hx=>i6 C c1 c2 x ((Bl x).1 hx)⟩
   ·rcases i5 d (.inl rfl)with h | h
    ·cases h
    ·exact(Bl x).2 (h x hx)
   ·rcases i5 x (.inr ((Bl x).1 hx))with h | h
    ·cases h
    ·exact(Bl y).2 (h y hy)
  | cons q Q=>
   left
   have hq:=i2 q (by simp)
   have hfold:=a3e (n:=n) (D q) S Q i1 (fun x hx=>hin q x hx)
   refine⟨(D q).foldl rG (S,Q),?_,?_,?_⟩
   ·simp only[E9 (show(0:Int)<o8 (q::Q) by simp[o8] <;> omega),o6,show lat (q::Q) 0=some q from rfl,show J9 (q::Q) (toN 0)=some q from rfl,o7,hget q hq.1 hq.2,
     show jf 1 (o8 (q::Q)) (o8 (q::Q))=true by simp[jf,o8] <;> omega,show gp (q::Q) (toN 1) (toN (o8 (q::Q)))=Q by simp[gp,toN,o8]]
    refine aW (D q) rG (fun b i=>(b.1,b.2,i)) (fun b=>b) (fun i b=>b.1.length=n∧b.2.length≤100+i) (S,Q) (by have:=hD14 q;omega) ⟨i1,by simp at i3;show Q.length≤100+0;omega⟩ (fun i e b he hi hI=>?_) (fun b hI=>?_) (fun h2=>rfl)
    ·obtain⟨S1,Q1⟩:=b
     simp only at hI
     have hee:=hin q e (fO he)
     have hlt:=(O7.1 he).1
     have hdl:=hD14 q
     have hg:=Vw (S:=S1) hee.1 (by simp only[o8];omega)
     have hla:lat S1 e=some (mk S1 e):=by unfold lat;rw[if_pos hee.1];exact hg
     have hlg:J9 S1 (toN e)=some (mk S1 e):=hg
     simp only[H9 he,o6,F9 (D q),he,o7,hla,hlg]
     rw[V6 (by omega),kC _ (by omega)]
     unfold rG
     simp only
     cases mk S1 e
     ·exact⟨rfl,by simp[hI.1],by simp <;> omega⟩
     ·exact⟨rfl,hI.1,by show Q1.length≤_;omega⟩
    ·simp only[H8];rfl
   ·obtain⟨j1,j2,j3,j4,j5,j6,j7⟩:=hfold
    generalize (D q).foldl rG (S,Q)=b at*
    obtain⟨S',Q'⟩:=b
    simp only at j1 j2 j3 j4 j5 j6 j7 ⊢
    have hrange:∀v,mk S' v=true→0≤v∧v<(n:Int):=fun v hv=>by
     rcases j7 v hv with h | h
     ·exact i7 v h
     ·rcases j6 v h with h | h
      ·exact i2 v (by simp[h])
      ·exact hin q v h
    refine⟨j1,fun x hx=>?_,?_,fun x hx=>?_,fun v hv=>?_,fun C c1 c2 v hv=>?_,hrange⟩
    ·rcases j6 x hx with h | h
     ·exact i2 x (by simp[h])
     ·exact hin q x h
    ·simp only[List.length_cons]at i3;omega
    ·rcases j6 x hx with h | h
     ·rcases i4 x (by simp[h])with h2 | h2
      ·exact .inl h2
      ·have hr:=i7 x h2
       exact .inr ((j2 x hr.1 hr.2).2 (.inl h2))
     ·have hr:=hin q x h
      exact .inr ((j2 x hr.1 hr.2).2 (.inr h))
    ·have up:∀y,mk S y=true→mk S' y=true:=fun y hy=>by
      have hr:=i7 y hy
      exact(j2 y hr.1 hr.2).2 (.inl hy)
     by_cases hvq:v=q
     ·subst hvq
      right
      intro y hy
      have hr:=hin v y hy
      exact(j2 y hr.1 hr.2).2 (.inr hy)
     ·by_cases hold:v=d∨mk S v=true
      ·rcases i5 v hold with h | h
       ·rcases List.mem_cons.1 h with h | h
        ·exact absurd h hvq
        ·exact .inl (j5 v h)
       ·exact .inr fun y hy=>up y (h y hy)
      ·rcases hv with h | h
       ·exact absurd (.inl h) hold
       ·rcases j7 v h with h2 | h2
        ·exact absurd (.inr h2) hold
        ·exact .inl h2
    ·by_cases hS:mk S v=true
     ·exact i6 C c1 c2 v hS
     ·have hr:=hrange v hv
      rcases(j2 v hr.1 hr.2).1 hv with h | h
      ·exact absurd h hS
      ·rcases i4 q (by simp)with h2 | h2
       ·subst h2;exact c1 v h
       ·exact c2 q (i6 C c1 c2 q h2) v h
   ·have:=hfold.sum;have:=hfold.le
    simp only[List.length_cons];omega
theorem nN {s:A8} (h:SmS s) {d:Int} (h0:0≤d) (h1:d<nD s):dD s d=some (au s d):=by
 have hn:nD s=((s.2.2.2.1.length:Nat):Int):=rfl
 unfold dD
 change l7 (ilt d 0) _ (l7 (ile (nD s) d) _ _)=_
 rw[D9 h0,l9,F8 h1,l9,wY h,o7,bH]
 obtain⟨L,k1,k2⟩:=Lp (D:=I5 s) h.nd (qN s) (fun x y hy=>qM hy) h0 (show d<((s.2.2.2.1.length:Nat):Int) by omega)
 rw[k1,Rch.unique k2 (BG s d)]
structure SmL (l:J3):Prop where
 few:Few l
 en:WW l
 tb:QV l
 sc:∀s∈l.2.2,SmS s
theorem SmL.scopes {l:J3} (h:SmL l):QU l:=fun s hs=>by
 have hm:=h.sc s hs
 exact⟨hm.nm,by have:=hm.ni;omega,by have:=hm.nd;omega,by have:=hm.nr;omega⟩
theorem lZ {ε ρ:Type} {p:Nat→Option ρ} (n:Nat) (hn:n≤1000000) (e:ε) {f:Int→Option (Out Int ε ρ)}
  (h1:∀i,i<n→f (i:Int)=some (match p i with | some r=> .rt r | none=> .nx (x9 .i64 (i:Int) 1))) (h2:f (n:Int)=some (.ex e)):
  P5 f 0=some (match U1 n p with | some r=> .inr r | none=> .inl e):=
 zy n (by omega) e (fun i hi=>by rw[h1 i hi,V6 (by omega)] <;> cases p i <;> rfl) h2
def LM (l:J3) (s:A8) (k:Nat):Option (Int×Int):=match s.2.2.2.2[k]? with | some r=>PO (Ah s (Dv l s) k r) (300+k:Nat) | none=>none
def a5z (s:A8) (d:Nat):Option (Int×Int):=l7 ((au s d).any fun x=>ieq (d:Int) x) (some (9,((200+d:Nat):Int))) none
def zG (l:J3) (i:Nat) (m:Int):Bool:=l7 (ieq m (-1)) false (l7 (ilt m 0) true (l7 (ile (i:Int) m) true (match lat l.2.2 m with | some q=>E5 (ieq q.2.1 (-1)) | none=>true)))
def Qk (l:J3) (s:A8):Int×Int:=match DV l s with
 | some r=>r
 | none=>match U1 s.2.2.2.2.length (LM l s)with
  | some r=>r
  | none=>match U1 s.2.2.2.1.length (a5z s)with
   | some r=>r
   | none=>(0,0)
def xZ (l:J3) (i:Nat) (s:A8):Int×Int:=
 l7 (wK s.1) (l7 (Cj l 3 i s.1) (7,0) (l7 (zG l i s.2.1) (6,0) (l7 (ilt 12 (o8 s.2.2.1)) (4,112) (l7 (ilt 12 (o8 s.2.2.2.1)) (4,212) (Qk l s))))) (2,0)
theorem MQ {l:J3} (hL:SmL l) {i:Nat} {s:A8} (hs:l.2.2[i]? =some s):qc l (i:Int)=some (xZ l i s):=by
 have hi:=(O7.1 hs).1
 have hS:=hL.sc s (fO hs)
 have hf:=hL.few
 have hf1:=hf.1;have hf2:=hf.2.1;have hf3:=hf.2.2
 have n1:=hS.ni;have n2:=hS.nd;have n3:=hS.nr
 unfold qc xZ Cj
 rw[F9,hs,o7,oV (by omega),o7,CV _ (by omega),o7,Ha _ (by omega),o7,Si _ (by simp;omega),o7]
 have hb:(l7 (l.1.any fun x=>seq x.1 s.1) (some (s,true)) (l7 (l.2.1.any fun x=>seq x.1 s.1) (some (s,true)) (some (s,(l.2.2.take i).any fun x=>seq x.1 s.1))))=
   some (s,(l.1.any fun x=>seq x.1 s.1) || (l.2.1.any fun x=>seq x.1 s.1) || (l.2.2.take i).any fun x=>seq x.1 s.1):=by
  cases l.1.any fun x=>seq x.1 s.1
  ·cases l.2.1.any fun x=>seq x.1 s.1 <;> rfl
  ·rfl
 rw[hb,o7]
 simp only
 rw[gZ hS.nm,o7]
 cases wK s.1
 ·rfl
 simp only[o9,l9,o6]
 cases (l.1.any fun x=>seq x.1 s.1) || (l.2.1.any fun x=>seq x.1 s.1) || (l.2.2.take i).any fun x=>seq x.1 s.1
 case true=>rfl
 simp only[l9]
 have hm:(l7 (E5 (ieq s.2.1 (-1))) (l7 (ilt s.2.1 0) (some true) (l7 (ile (i:Int) s.2.1) (some true) (o5 (lat (l.2.2.take i) s.2.1) fun(x:A8)=>some (E5 (ieq x.2.1 (-1)))))) (some false))=some (zG l i s.2.1):=by
  unfold zG
  cases ieq s.2.1 (-1)
  case true=>rfl
  simp only[D6,o6,l9]
  cases h0:ilt s.2.1 0
  case true=>rfl
  cases h1:ile (i:Int) s.2.1
  case true=>rfl
  rw[bF]at h0;rw[xH]at h1
  obtain⟨q,hq,_⟩:=fU (l:=l.2.2.take i) h0 (by simp only[o8,List.length_take];omega)
  have hq2:lat l.2.2 s.2.1=some q:=by
   have:=(jC hq).2.2.2
   unfold lat;rw[if_pos h0];exact(Uy this).2
  rw[hq,hq2];rfl
 rw[hm,o7]
 cases zG l i s.2.1
 case true=>rfl
 simp only[l9]
 cases ilt 12 (o8 s.2.2.1)
 case true=>rfl
 cases ilt 12 (o8 s.2.2.2.1)
 case true=>rfl
 simp only[l9,o7,D7]
 unfold Qk DV
 refine Y9 (lZ (p:=inP l s) s.2.2.1.length (by omega) PUnit.unit (fun k hk=>?_) ?_) ?_
 rotate_left 2
 ·cases U1 s.2.2.1.length (inP l s)
  case some r=>rfl
  simp only[o7,D7]
  refine Y9 (lZ (p:=a1e l s) s.2.2.2.1.length (by omega) PUnit.unit (fun k hk=>?_) ?_) ?_
  rotate_left 2
  ·cases U1 s.2.2.2.1.length (a1e l s)
   case some r=>rfl
   simp only[o7,D7]
   rw[Du hL.scopes hs,o7]
   refine Y9 (lZ (p:=LM l s) s.2.2.2.2.length (by omega) PUnit.unit (fun k hk=>?_) ?_) ?_
   rotate_left 2
   ·cases U1 s.2.2.2.2.length (LM l s)
    case some r=>rfl
    simp only[o7,D7]
    refine Y9 (lZ (p:=a5z s) s.2.2.2.1.length (by omega) PUnit.unit (fun k hk=>?_) ?_) ?_
    rotate_left 2
    ·cases U1 s.2.2.2.1.length (a5z s) <;> rfl
    ·have e:=aQ hk
     simp only[H9 e,o6]
     rw[nN hS (by omega) (by show(k:Int)<o8 s.2.2.2.1;simp only[o8];omega),o7,Zp _ (by
      have:=CW hS (BG s (k:Int)).1 (fun x hx=>uO hx)
      omega),o7,show(200:Int)=((200:Nat):Int)from rfl,Xr (by omega) (by omega)]
     unfold a5z
     cases (au s (k:Int)).any fun x=>ieq (k:Int) x <;> rfl
    ·rw[H8];rfl
   ·have e:=aQ hk
    have hr:=(hS.ro _ (List.getElem_mem hk)).1
    simp only[H9 e,o6]
    rw[PK _ e (by omega) hr,o7,show(300:Int)=((300:Nat):Int)from rfl,Xr (by omega) (by omega)]
    simp only[LM,e,PO]
    cases ieq (Ah s (Dv l s) k s.2.2.2.2[k]) 0 <;> rfl
   ·rw[H8];rfl
  ·have e:=aQ hk
   have hm:=hS.fo.2 _ (List.getElem_mem hk)
   simp only[H9 e,o6,F9,e,o7]
   rw[oV (by omega),o7,BN hm (by omega) (by simp;omega),o7,show(200:Int)=((200:Nat):Int)from rfl,Xr (by omega) (by omega)]
   simp only[a1e,e,PO]
   cases ieq (FO l.1 s.2.2.2.1[k] s.2.2.1 (s.2.2.2.1.take k)) 0 <;> rfl
  ·rw[H8];rfl
 ·have e:=aQ hk
  have hm:=hS.fo.1 _ (List.getElem_mem hk)
  simp only[H9 e,o6,F9,e,o7]
  rw[oV (by omega),o7,BN hm (by simp;omega) (by simp),o7,show(100:Int)=((100:Nat):Int)from rfl,Xr (by omega) (by omega)]
  simp only[inP,e,PO]
  cases ieq (FO l.1 s.2.2.1[k] (s.2.2.1.take k) []) 0 <;> rfl
 ·rw[H8];rfl
theorem FN {c e:Int} {r:Int×Int} (h:PO c e=some r):r.1≠0:=by
 unfold PO at h
 cases hc:ieq c 0 <;> rw[hc]at h
 ·cases h;exact pW.1 hc
 ·cases h
theorem RN {l:J3} {s:A8} {r:Int×Int} (h:DV l s=some r):r.1≠0:=by
 unfold DV at h
 split at h
 ·rename_i q hq
  cases h
  obtain⟨k,_,hk⟩:=dU hq
  unfold inP at hk
  split at hk
  ·exact FN hk
  ·cases hk
 ·obtain⟨k,_,hk⟩:=dU h
  unfold a1e at hk
  split at hk
  ·exact FN hk
  ·cases hk
def Am (l:J3) (i:Nat):Option (Int×Int×Int×Int):=match l.2.2[i]? with | some s=>IE 3 i (xZ l i s) | none=>none
def EO (l:J3):Int×Int×Int×Int:=l7 (ilt 4 (o8 l.2.2)) (4,3,4,0) (match U1 l.2.2.length (Am l)with | some r=>r | none=>(0,0,0,0))
def P6 (l:J3):Int×Int×Int×Int:=l7 (ieq (xx l).1 0) (l7 (ieq (yj l).1 0) (EO l) (yj l)) (xx l)
theorem Jz {l:J3} (hL:SmL l):og l=some (EO l):=by
 have hf:=hL.few.2.2
 unfold og EO
 cases ilt 4 (o8 l.2.2)
 case true=>rfl
 simp only[l9]
 refine Y9 (zn (p:=Am l) l.2.2.length (by omega) _ (0,0,0,0) (fun i hi=>?_) ?_) ?_
 rotate_left 2
 ·cases U1 l.2.2.length (Am l) <;> rfl
 ·have e:=aQ hi
  simp only[H9 e,o6,MQ hL e,o7,Am,e,IE]
  cases ieq (xZ l i l.2.2[i]).1 0 <;> rfl
 ·rw[H8];rfl
theorem AC {l:J3} (hL:SmL l):mi l=some (P6 l):=by
 unfold mi P6
 rw[MP hL.few hL.en,o7]
 cases ieq (xx l).1 0
 ·rfl
 simp only[o9,l9,o6]
 rw[JA hL.few hL.tb,o7]
 cases ieq (yj l).1 0
 ·rfl
 simp only[o9,l9,o6]
 rw[Jz hL];rfl
theorem NW {k i:Int} {c:Int×Int} {r:Int×Int×Int×Int} (h:IE k i c=some r):r.1≠0:=by
 unfold IE at h
 cases hc:ieq c.1 0 <;> rw[hc]at h
 ·cases h;exact pW.1 hc
 ·cases h
structure SmC (c:bz):Prop where
 ni:c.2.1.length≤1000
 nm:c.2.2.length≤1000
 nv:∀v∈c.2.2,v.length≤1000
def a6R (en:List bC) (fs:List aF) (vs:List J6) (i:Nat):Option (Int×Int):=match vs[i]?,fs[i]? with
 | some v,some f=>l7 (ieq v.1 f.2.1) (l7 (ieq v.2.1 f.2.2) (l7 (inB v.2.2 (bnd f.2 en)) none (some ((i:Int),3))) (some ((i:Int),8))) (some ((i:Int),8))
 | _,_=>none
def Iy (en:List bC) (fs:List aF) (vs:List J6):Int×Int:=
 l7 (ilt (o8 vs) (o8 fs)) (o8 vs,5) (l7 (ilt (o8 fs) (o8 vs)) (o8 fs,4) (match U1 vs.length (a6R en fs vs)with | some r=>r | none=>(0,0)))
theorem yZ (l:J3) {vs:List J6} {fs:List aF} (hv:vs.length≤1000000):dY l vs fs=some (Iy l.1 fs vs):=by
 unfold dY Iy
 cases h1:ilt (o8 vs) (o8 fs)
 case true=>rfl
 cases h2:ilt (o8 fs) (o8 vs)
 case true=>rfl
 simp only[l9]
 have hl:vs.length=fs.length:=by rw[bF]at h1 h2;simp only[o8]at h1 h2;omega
 refine Y9 (lZ (p:=a6R l.1 fs vs) vs.length hv PUnit.unit (fun k hk=>?_) ?_) ?_
 rotate_left 2
 ·cases U1 vs.length (a6R l.1 fs vs) <;> rfl
 ·have e:=aQ hk
  have e2:=aQ (show k<fs.length by omega)
  simp only[H9 e,o6,F9,e,e2,o7,Fp,a6R,inB,iH]
  cases ieq vs[k].1 fs[k].2.1
  ·rfl
  cases ieq vs[k].2.1 fs[k].2.2
  ·rfl
  cases ile (bnd fs[k].2 l.1).1 vs[k].2.2
  ·rfl
  cases ile vs[k].2.2 (bnd fs[k].2 l.1).2 <;> rfl
 ·rw[H8];rfl
def xK (l:J3) (s:A8):List aF×Int:=match lat l.2.2 s.2.1 with | some q=>(q.2.2.1,8) | none=>([],0)
def a5O (en:List bC) (fs:List aF) (ms:List (List J6)) (i:Nat):Option (Int×Int×Int):=match ms[i]? with
 | some vs=>l7 (ieq (Iy en fs vs).2 0) none (some ((i:Int),Iy en fs vs))
 | none=>none
def Jt (l:J3) (k:Int) (c:bz):Int×Int×Int:=match lat l.2.2 k with
 | none=>(-1,-1,6)
 | some s=>l7 (ilt c.1 0) (-1,-1,3) (l7 (ilt 109572 c.1) (-1,-1,3) (l7 (ieq (Iy l.1 s.2.2.1 c.2.1).2 0)
   (l7 (ilt (xK l s).2 (o8 c.2.2)) ((xK l s).2,-1,4) (match U1 c.2.2.length (a5O l.1 (xK l s).1 c.2.2)with | some r=>r | none=>(0,0,0))) (-1,Iy l.1 s.2.2.1 c.2.1)))
theorem a3O {l:J3} {k:Int} {A B:Option (PUnit⊕(Int×Int×Int))} :(∃s,lat l.2.2 k=some s∧l7 (ilt k 0) A (l7 (ile (o8 l.2.2) k) A B)=B∧s∈l.2.2)∨(lat l.2.2 k=none∧l7 (ilt k 0) A (l7 (ile (o8 l.2.2) k) A B)=A):=by
 rw[iH k 0,vH (o8 l.2.2) k]
 cases h0:ile 0 k
 ·exact .inr ⟨iI (.inl h0),rfl⟩
 cases h1:ilt k (o8 l.2.2)
 ·exact .inr ⟨iI (.inr h1),rfl⟩
 obtain⟨s,hs,hm⟩:=fU (iG.1 h0) (cu.1 h1)
 exact .inl ⟨s,hs,rfl,hm⟩
theorem a5v (l:J3) (k:Int) {c:bz} (hc:SmC c):kN l k c=some (Jt l k c):=by
 unfold kN Jt
 rcases a3O (l:=l) (k:=k) (A:=some (.inr ((-1:Int),(-1:Int),(6:Int)))) (B:=some (.inl PUnit.unit))with⟨s,hs,hb,_⟩ | ⟨hs,hb⟩
 ·rw[hb,hs]
  simp only[o7,D7]
  cases ilt c.1 0
  case true=>rfl
  cases ilt 109572 c.1
  case true=>rfl
  simp only[l9,o7,D7]
  rw[yZ l (by have:=hc.ni;omega),o7]
  cases ieq (Iy l.1 s.2.2.1 c.2.1).2 0
  ·rfl
  simp only[o9,l9,o6]
  have hm:gV l k=some (xK l s):=by
   unfold gV xK
   rw[hs,o7,iH s.2.1 0,vH (o8 l.2.2) s.2.1]
   cases h0:ile 0 s.2.1
   ·rw[iI (.inl h0)];rfl
   cases h1:ilt s.2.1 (o8 l.2.2)
   ·rw[iI (.inr h1)];rfl
   obtain⟨q,hq,_⟩:=fU (iG.1 h0) (cu.1 h1)
   rw[hq];rfl
  rw[hm,o7]
  cases ilt (xK l s).2 (o8 c.2.2)
  case true=>rfl
  simp only[l9]
  refine Y9 (lZ (p:=a5O l.1 (xK l s).1 c.2.2) c.2.2.length (by have:=hc.nm;omega) PUnit.unit (fun j hj=>?_) ?_) ?_
  rotate_left 2
  ·cases U1 c.2.2.length (a5O l.1 (xK l s).1 c.2.2) <;> rfl
  ·have e:=aQ hj
   simp only[H9 e,o6,F9,e,o7]
   rw[yZ l (by have:=hc.nv _ (List.getElem_mem hj);omega),o7]
   simp only[a5O,e]
   cases ieq (Iy l.1 (xK l s).1 c.2.2[j]).2 0 <;> rfl
  ·rw[H8];rfl
 ·rw[hb,hs];rfl
def Fz (r:Int×Int) (t:Int):Bool:=l7 (zh r) (l7 (ile r.1 t) (ilt t r.2) false) false
theorem uZ (r:Int×Int) (t:Int):dM r t=some (Fz r t):=by
 unfold dM Fz
 rw[Be,o7]
 cases zh r
 ·rfl
 cases ile r.1 t <;> rfl
theorem ED (r:Int×Int) (t:Int):c5m r t=some (Fz r t):=uZ r t
section
variable (on:Nat→Bool) (par:Nat→Int)
def NT (i:Nat):Nat:=((List.range i).filter on).length
def uG (i:Nat):Int:=if on i=true then(NT on i:Int)else if h:0≤par i∧par i<(i:Int)then uG (par i).toNat else -1
termination_by i
decreasing_by omega
def anc (i:Nat):Int:=if 0≤par i∧par i<(i:Int)then uG on par (par i).toNat else -1
theorem a5T (i:Nat):uG on par i=if on i=true then(NT on i:Int)else anc on par i:=by
 rw[uG];unfold anc
 by_cases h:on i=true
 ·rw[if_pos h,if_pos h]
 ·rw[if_neg h,if_neg h]
  by_cases h2:0≤par i∧par i<(i:Int)
  ·rw[dif_pos h2,if_pos h2]
  ·rw[dif_neg h2,if_neg h2]
def onL (n:Nat):List Nat:=(List.range n).filter on
theorem KZ (i:Nat):onL on (i+1)=onL on i++(bif on i then[i]else[]):=by
 unfold onL;rw[List.range_succ,List.filter_append]
 rw[show List.filter on [i]=bif on i then[i]else[] by rw[List.filter_cons];cases on i <;> rfl]
theorem xO (i:Nat):(onL on i).length≤i:=by
 have:=List.length_filter_le on (List.range i);unfold onL;simpa using this
theorem VD {n i:Nat} (h:i∈onL on n):i<n∧on i=true:=by
 unfold onL at h
 obtain⟨h1,h2⟩:=List.mem_filter.1 h
 exact⟨List.mem_range.1 h1,h2⟩
end
def castL (l:List Nat):List Int:=l.map fun(i:Nat)=>(i:Int)
theorem a0k {rs:List N9} {on:Nat→Bool} {f:List Int×List Int×List Int×Int→Option ((List Int×List Int×List Int×Int)⊕(List Int×List Int))} (hl:rs.length≤1000)
  (hin:∀(i:Nat) (r:N9) (A B C:List Int),rs[i]? =some r→f (A,B,C,(i:Int))=o5 (l7 (ile 0 r.2.2.1) (l7 (ilt r.2.2.1 (i:Int)) (o5 (lat C r.2.2.1) fun(x_2:Int)=>o5 (J9 C (toN r.2.2.1)) fun(x:Int)=>some x) (some (-1))) (some (-1))) fun(x_2:Int)=>
   o5 (lat C (i:Int)) fun(x_3:Int)=>o5 (J9 C (toN (i:Int))) fun(x_4:Int)=>l7 (on i) (o5 (lat (P8 C (toN (i:Int)) x_2) (i:Int)) fun(x_6:Int)=>o5 (J9 (P8 C (toN (i:Int)) x_2) (toN (i:Int))) fun(x_7:Int)=>o5 (cO A [(i:Int)]) fun(x_8:List Int)=>o5 (cO B [x_2]) fun(x_9:List Int)=>
     some (.inl (x_8,x_9,P8 (P8 C (toN (i:Int)) x_2) (toN (i:Int)) (o8 A),x9 .i64 (i:Int) 1))) (some (.inl (A,B,P8 C (toN (i:Int)) x_2,x9 .i64 (i:Int) 1))))
  (hend:∀(A B C:List Int),f (A,B,C,(rs.length:Int))=some (.inr (A,B))):
  U9 f ([],[],List.replicate rs.length 0,0)=some (castL (onL on rs.length),(onL on rs.length).map (anc on fun i=>match rs[i]? with | some r=>r.2.2.1 | none=>-1)):=by
 obtain⟨par,hpar⟩:∃par:Nat→Int,par=fun i=>match rs[i]? with | some r=>r.2.2.1 | none=>-1:=⟨_,rfl⟩
 rw[←hpar]
 obtain⟨e,h1,h2⟩:=Z9 (f:=f) (s:=([],[],List.replicate rs.length 0,0)) (fun x=>∃i:Nat,x=(castL (onL on i),(onL on i).map (anc on par),pd ((List.range i).map (uG on par)) (rs.length -i),(i:Int))∧i≤rs.length)
  (fun e=>e=(castL (onL on rs.length),(onL on rs.length).map (anc on par))) (fun x=>rs.length -x.2.2.2.toNat) ⟨0,by simp[onL,castL,pd],by omega⟩ (by simp;omega) (by
  rintro x ⟨i,rfl,hi⟩
  by_cases h:i<rs.length
  ·left
   have e:=aQ h
   have hp:par i=rs[i].2.2.1:=by rw[hpar];simp only[e]
   obtain⟨p,hpp⟩:∃p:Int,p=par i:=⟨_,rfl⟩
   have hp' :rs[i].2.2.1=p:=by rw[hpp,hp]
   have hlen:((List.range i).map (uG on par)).length=i:=by simp
   have hol:=xO on i
   obtain⟨m,hm⟩:∃m,rs.length -i=m+1:=⟨rs.length -i -1,by omega⟩
   have hanc:o5 (l7 (ile 0 p) (l7 (ilt p (i:Int)) (o5 (lat (pd ((List.range i).map (uG on par)) (m+1)) p) fun(x_2:Int)=>o5 (J9 (pd ((List.range i).map (uG on par)) (m+1)) (toN p)) fun(x:Int)=>some x) (some (-1))) (some (-1))) (fun x=>some x)=some (anc on par i):=by
    unfold anc
    rw[←hpp]
    by_cases h0:0≤p
    ·rw[F7 h0]
     by_cases h1:p<(i:Int)
     ·have hk:p.toNat<i:=by omega
      have hg:(pd ((List.range i).map (uG on par)) (m+1))[p.toNat]? =some (uG on par p.toNat):=by
       unfold pd
       rw[List.getElem?_append_left (by simp;omega),tJ _ _ hk]
      rw[E9 h1,if_pos ⟨h0,h1⟩]
      simp only[o6]
      rw[show lat (pd ((List.range i).map (uG on par)) (m+1)) p=some (uG on par p.toNat) by unfold lat;rw[if_pos h0];exact hg,o7,show J9 (pd ((List.range i).map (uG on par)) (m+1)) (toN p)=some (uG on par p.toNat)from hg];rfl
     ·rw[D9 (by omega),if_neg (by omega)];rfl
    ·rw[F8 (by omega),if_neg (by omega)];rfl
   rw[bH]at hanc
   refine⟨(castL (onL on (i+1)),(onL on (i+1)).map (anc on par),pd ((List.range (i+1)).map (uG on par)) (rs.length -(i+1)),((i+1:Nat):Int)),?_,⟨i+1,rfl,h⟩,by simp;omega⟩
   rw[hin i _ _ _ _ e,hm,hp',hanc,o7,V6 (by omega),show rs.length -(i+1)=m by omega,KZ,List.range_succ,List.map_append]
   have q1:=Ql ((List.range i).map (uG on par)) m
   have q2:=Qm ((List.range i).map (uG on par)) m
   have q3:=VJ ((List.range i).map (uG on par)) m (anc on par i)
   have q4:=Bo ((List.range i).map (uG on par)) m (anc on par i)
   have q5:=zQ ((List.range i).map (uG on par)) m (anc on par i)
   have q6:=Ez ((List.range i).map (uG on par)) m (anc on par i) (o8 (castL (onL on i)))
   rw[hlen]at q1 q2 q3 q4 q5 q6
   rw[q1,o7,q2,o7,q3]
   have hna:(List.map (uG on par) (List.range i++[i]))=(List.range i).map (uG on par)++[if on i=true then(NT on i:Int)else anc on par i]:=by rw[List.map_append,List.map_singleton,a5T]
   rw[hna]
   cases hon:on i
   ·simp[castL]
   ·simp only[o6,cond_true]
    rw[q4,o7,q5,o7,kC _ (by simp[castL];omega),o7,kC _ (by simp;omega),o7,q6]
    simp[castL,o8,NT,onL]
  ·right
   have:i=rs.length:=by omega
   subst this
   exact⟨_,hend _ _ _,rfl⟩)
 rw[h1,h2]
def onR (s:A8) (d t:Int) (i:Nat):Bool:=match s.2.2.2.2[i]? with | some r=>l7 (ieq r.2.1 d) (Fz r.2.2.2.2.1 t) false | none=>false
def b1V (s:A8) (i:Nat):Int:=match s.2.2.2.2[i]? with | some r=>r.2.2.1 | none=>-1
def mX (s:A8) (d t:Int):List Nat:=onL (onR s d t) s.2.2.2.2.length
def a2z (s:A8) (i:Nat):Int:=match s.2.2.2.2[i]? with | some r=>r.2.2.2.1 | none=>0
def af (s:A8) (d t:Int):List Int×List Int×List Int:=(castL (mX s d t),(mX s d t).map (anc (onR s d t) (b1V s)),(mX s d t).map (a2z s))
theorem b1Q {s:A8} {i:Nat} {r:N9} (h:s.2.2.2.2[i]? =some r) (d t:Int):jR r d t=some (onR s d t i):=by
 unfold jR onR
 rw[h,uZ]
 simp only
 cases ieq r.2.1 d <;> rfl
theorem Qz {s:A8} (h:s.2.2.2.2.length≤1000) (d t:Int):jl s.2.2.2.2 (d,t)=some (castL (mX s d t),(mX s d t).map (anc (onR s d t) (b1V s))):=by
 unfold jl
 rw[show jg (o8 s.2.2.2.2) (0:Int)=some (List.replicate s.2.2.2.2.length 0) by unfold jg;rw[if_pos (by simp[o8];omega)];simp[o8],o7,bH]
 refine a0k h (fun i r A B C hr=>?_) (fun A B C=>?_)
 ·simp only[H9 hr,o6,F9,hr,o7]
  rw[b1Q hr];rfl
 ·simp only[H8];rfl
theorem Ph {s:A8} {d t:Int} {i:Nat} (h:i∈mX s d t):i<s.2.2.2.2.length∧onR s d t i=true:=VD _ h
theorem a0t {s:A8} (h:s.2.2.2.2.length≤1000) (d t:Int):lX s d t=some (af s d t):=by
 have hl:=xO (onR s d t) s.2.2.2.2.length
 unfold lX
 rw[Qz h,o7]
 refine Y9 (a1v (castL (mX s d t)) (fun(k:Int)=>a2z s k.toNat) (F:=id) (by unfold castL mX;simp;omega) (fun i a acc ha hacc=>?_) (fun acc=>?_)) ?_
 rotate_left 2
 ·rw[o7];unfold af castL;rw[List.map_map];rfl
 ·simp only[H9 ha,o6,F9 (castL (mX s d t)),ha,o7]
  rw[show J9 (castL (mX s d t)) (toN (i:Int))=some a from ha,o7]
  obtain⟨k,hk,rfl⟩:∃k,k∈mX s d t∧(k:Int)=a:=by
   have:=fO ha
   unfold castL at this
   exact List.mem_map.1 this
  have hlt:=Ph hk
  have e:=aQ hlt.1
  have hil:=(O7.1 ha).1
  simp only[castL,List.length_map]at hil
  rw[F9,e,o7,kC _ (by unfold mX at hil;omega),o7]
  simp only[a2z,Int.toNat_natCast,e]
 ·simp only[H8];rfl
theorem a2h (on:Nat→Bool) (n:Nat):(onL on n).Pairwise (·< ·):=List.Pairwise.filter _ List.pairwise_lt_range
end Go.GP
namespace Go.GP
open Gt
set_option maxRecDepth 100000
def MB (par prio:List Int) (i:Nat):Option Int:=match par[i]?,prio[i]? with
 | some p,some q=>l7 (ilt p (-1)) (some 9) (l7 (ile (i:Int) p) (some 9) (l7 (ilt q 0) (some 3) (l7 (ilt 9 q) (some 3) none)))
 | _,_=>none
def AA (par prio:List Int):Int:=l7 (E5 (ieq (o8 par) (o8 prio))) 2 (l7 (ilt 8 (o8 par)) 4 (match U1 par.length (MB par prio)with | some r=>r | none=>0))
theorem a4R (par prio:List Int):kV par prio=some (AA par prio):=by
 unfold kV AA
 cases h1:ieq (o8 par) (o8 prio)
 ·rfl
 simp only[o9,l9]
 cases h2:ilt 8 (o8 par)
 case true=>rfl
 simp only[l9]
 have hl:par.length=prio.length:=by rw[N7]at h1;simp only[o8]at h1;omega
 refine Y9 (lZ (p:=MB par prio) par.length (by rw[bF]at h2;simp only[o8]at h2;omega) PUnit.unit (fun k hk=>?_) ?_) ?_
 rotate_left 2
 ·cases U1 par.length (MB par prio) <;> rfl
 ·have e:=aQ hk
  have e2:=aQ (show k<prio.length by omega)
  simp only[H9 e,o6,F9,e,e2,o7,MB]
  cases ilt par[k] (-1)
  case true=>rfl
  cases ile (k:Int) par[k]
  case true=>rfl
  cases ilt prio[k] 0
  case true=>rfl
  cases ilt 9 prio[k] <;> rfl
 ·rw[H8];rfl
theorem tq {ρ:Type} {n:Nat} {p:Nat→Option ρ} (h:U1 n p=none):∀i,i<n→p i=none:=by
 unfold U1 at h
 intro i hi
 exact List.findSome?_eq_none_iff.1 h i (List.mem_range.2 hi)
theorem wV {par prio:List Int} (h:AA par prio=0):par.length=prio.length∧par.length≤8∧∀(i:Nat) (p:Int),par[i]? =some p→-1≤p∧p<(i:Int):=by
 unfold AA at h
 cases h1:ieq (o8 par) (o8 prio) <;> rw[h1]at h
 ·cases h
 simp only[o9,l9]at h
 cases h2:ilt 8 (o8 par) <;> rw[h2]at h
 case true=>cases h
 simp only[l9]at h
 have hl:par.length=prio.length:=by rw[N7]at h1;simp only[o8]at h1;omega
 refine⟨hl,by rw[bF]at h2;simp only[o8]at h2;omega,fun i p hp=>?_⟩
 have hi:=(O7.1 hp).1
 cases hf:U1 par.length (MB par prio)with
 | some r=>
  rw[hf]at h
  simp only at h
  obtain⟨k,hk,hr⟩:=dU hf
  unfold MB at hr
  split at hr
  ·subst h
   rename_i a b _ _
   cases c1:ilt a (-1) <;> rw[c1]at hr <;> try (cases hr;done)
   cases c2:ile (k:Int) a <;> rw[c2]at hr <;> try (cases hr;done)
   cases c3:ilt b 0 <;> rw[c3]at hr <;> try (cases hr;done)
   cases c4:ilt 9 b <;> rw[c4]at hr <;> cases hr
  ·cases hr
 | none=>
  have:=tq hf i hi
  unfold MB at this
  rw[hp,aQ (show i<prio.length by omega)]at this
  simp only at this
  cases c1:ilt p (-1) <;> rw[c1]at this
  case true=>cases this
  cases c2:ile (i:Int) p <;> rw[c2]at this
  case true=>cases this
  rw[bF]at c1;rw[xH]at c2
  exact⟨c1,c2⟩
def SC (par:List Int) (at' :Int) (i:Nat):Bool:=match par[i]? with | some p=>ieq p at' | none=>false
def sN (par:List Int) (at' :Int):List Nat:=onL (SC par at') par.length
theorem Ro {par:List Int} (h:par.length≤1000) (at' :Int):kU par at' =some (castL (sN par at')):=by
 unfold kU
 rw[bH]
 obtain⟨e,h1,h2⟩:=Z9 (f:=fun(x:List Int×Int)=>l7 (ilt x.2 (o8 par)) (o5 (lat par x.2) fun(x_1:Int)=>l7 (ieq x_1 at') (o5 (cO x.1 [x.2]) fun(x_2:List Int)=>some (.inl (x_2,x9 .i64 x.2 1))) (some (.inl (x.1,x9 .i64 x.2 1)))) (some (.inr x.1)))
  (s:=([],0)) (fun x=>∃i:Nat,x=(castL (onL (SC par at') i),(i:Int))∧i≤par.length) (fun e=>e=castL (sN par at')) (fun x=>par.length -x.2.toNat) ⟨0,rfl,by omega⟩ (by simp;omega) (by
  rintro x ⟨i,rfl,hi⟩
  by_cases hlt:i<par.length
  ·left
   have e:=aQ hlt
   have hol:=xO (SC par at') i
   refine⟨(castL (onL (SC par at') (i+1)),((i+1:Nat):Int)),?_,⟨i+1,rfl,hlt⟩,by simp;omega⟩
   simp only[H9 e,o6,F9,e,o7]
   rw[V6 (by omega),kC _ (by simp[castL];omega),KZ]
   have hon:SC par at' i=ieq par[i] at' :=by unfold SC;rw[e]
   rw[hon]
   cases ieq par[i] at' <;> simp[castL]
  ·right
   have:i=par.length:=by omega
   subst this
   exact⟨_,by rw[H8];rfl,rfl⟩)
 rw[h1,h2]
theorem PX {par:List Int} {at' :Int} {i:Nat} (h:i∈sN par at'):i<par.length∧par[i]? =some at' :=by
 obtain⟨h1,h2⟩:=VD _ h
 refine⟨h1,?_⟩
 unfold SC at h2
 rw[aQ h1]at h2 ⊢
 simp only[N7]at h2
 rw[h2]
def bG (oc pr:Int→Int) (acc:List Int) (a:Int):List Int:=l7 (ieq (oc a) (-1)) acc (match acc with
 | []=>[a]
 | b::r=>l7 (ilt (pr b) (pr a)) [a] (l7 (ieq (pr a) (pr b)) (b::r++[a]) (b::r)))
theorem a0Q (oc pr:Int→Int) {acc:List Int} {a x:Int} (h:x∈bG oc pr acc a):x∈acc∨x=a:=by
 unfold bG at h
 cases h1:ieq (oc a) (-1) <;> rw[h1]at h
 case true=>exact .inl h
 simp only[l9]at h
 cases acc with
 | nil=>exact .inr (by simpa using h)
 | cons b r=>
  simp only at h
  cases h2:ilt (pr b) (pr a) <;> rw[h2]at h
  ·simp only[l9]at h
   cases h3:ieq (pr a) (pr b) <;> rw[h3]at h
   ·exact .inl h
   ·simp only[o6]at h
    rcases List.mem_append.1 h with h | h
    ·exact .inl h
    ·exact .inr (by simpa using h)
  ·exact .inr (by simpa using h)
theorem b1n (oc pr:Int→Int) (acc:List Int) (a:Int):(bG oc pr acc a).length≤acc.length+1:=by
 unfold bG
 cases ieq (oc a) (-1)
 case true=>simp
 simp only[l9]
 cases acc with
 | nil=>simp
 | cons b r=>
  simp only
  cases ilt (pr b) (pr a)
  ·cases ieq (pr a) (pr b) <;> simp
  ·simp
def yU (oc pr:Int→Int) (l:List Int):List Int:=l.foldl (bG oc pr) []
theorem Ri (oc pr:Int→Int):∀(l acc:List Int) (x:Int),x∈l.foldl (bG oc pr) acc→x∈acc∨x∈l
 | [],acc,x,h=> .inl h
 | a::l,acc,x,h=>by
  rcases Ri oc pr l _ x h with h | h
  ·rcases a0Q oc pr h with h | h
   ·exact .inl h
   ·exact .inr (by simp[h])
  ·exact .inr (by simp[h])
theorem AY {oc pr:Int→Int} {l:List Int} {x:Int} (h:x∈yU oc pr l):x∈l:=by
 rcases Ri oc pr l [] x h with h | h
 ·cases h
 ·exact h
theorem Jp {oc oc' pr:Int→Int} :∀(l acc:List Int),(∀x∈l,oc x=oc' x)→l.foldl (bG oc pr) acc=l.foldl (bG oc' pr) acc
 | [],acc,_=>rfl
 | a::l,acc,h=>by
  rw[List.foldl_cons,List.foldl_cons,Jp l _ fun x hx=>h x (by simp[hx])]
  congr 1
  unfold bG;rw[h a (by simp)]
def chF (oc pr:Int→Int) (l:List Int):Int:=match yU oc pr l with | []=>-1 | [b]=>oc b | _=>-2
theorem NR {oc oc' pr:Int→Int} {l:List Int} (h:∀x∈l,oc x=oc' x):chF oc pr l=chF oc' pr l:=by
 have e:yU oc pr l=yU oc' pr l:=Jp l [] h
 unfold chF
 rw[e]
 cases hb:yU oc' pr l with
 | nil=>rfl
 | cons b r=>
  cases r with
  | nil=>exact h b (AY (oc:=oc') (pr:=pr) (by rw[hb];simp))
  | cons c r=>rfl
section
variable (par prio:List Int) (ap:List Bool)
def prF (i:Int):Int:=prio.getD i.toNat 0
def apF (i:Int):Bool:=ap.getD i.toNat false
def ocF:Nat→Int→Int
 | 0,_=>-1
 | k+1,i=>l7 (ieq (chF (ocF k) (prF prio) (castL (sN par i))) (-1)) (l7 (apF ap i) i (-1)) (chF (ocF k) (prF prio) (castL (sN par i)))
variable (hv:AA par prio=0)
include hv
theorem Ky {i x:Int} (h:x∈castL (sN par i)):i<x∧x<(par.length:Int)∧0≤x:=by
 unfold castL at h
 obtain⟨k,hk,rfl⟩:=List.mem_map.1 h
 obtain⟨h1,h2⟩:=PX hk
 have:=(wV hv).2.2 k i h2
 omega
theorem OJ:∀(k k' :Nat) (i:Int),(par.length:Int) -i≤k→(par.length:Int) -i≤k' →i<par.length→ocF par prio ap k i=ocF par prio ap k' i
 | 0,_,i,h,_,h2=>by omega
 | _+1,0,i,_,h,h2=>by omega
 | k+1,k' +1,i,h,h',h2=>by
  unfold ocF
  have:chF (ocF par prio ap k) (prF prio) (castL (sN par i))=chF (ocF par prio ap k') (prF prio) (castL (sN par i)):=
   NR fun x hx=>by
    have:=Ky par prio hv hx
    exact OJ k k' x (by omega) (by omega) (by omega)
  rw[this]
end
end Go.GP
namespace Go.GP
open Gt
set_option maxRecDepth 100000
theorem IY {prio:List Int} {i:Int} (h0:0≤i) (h:i<o8 prio):lat prio i=some (prF prio i):=by
 obtain⟨x,hx,_⟩:=fU h0 h
 rw[hx]
 have:=(jC hx).2.2.2
 unfold prF;rw[oM,this];rfl
theorem YZ {f:List Int×Int→Option ((List Int×Int)⊕List Int)} (oc:Int→Int) (prio:List Int) (l:List Int) (hl:l.length≤1000) (hr:∀x∈l,0≤x∧x<o8 prio)
  (hin:∀(i:Nat) (a:Int) (acc:List Int),l[i]? =some a→acc.length≤1000→(∀x∈acc,0≤x∧x<o8 prio)→0≤a→a<o8 prio→f (acc,(i:Int))=some (.inl (bG oc (prF prio) acc a,x9 .i64 (i:Int) 1)))
  (hend:∀acc,f (acc,(l.length:Int))=some (.inr acc)):U9 f ([],0)=some (yU oc (prF prio) l):=by
 refine(jc l (bG oc (prF prio)) (fun b i=>(b,i)) (fun b=>b) (fun i acc=>acc.length≤i∧∀x∈acc,0≤x∧x<o8 prio) (b:=[]) (by omega) ⟨by simp,by simp⟩ (fun i a acc ha hi hI=>?_) (fun acc hI=>hend acc)).1
 have hlt:=(O7.1 ha).1
 have ham:=hr a (fO ha)
 rw[hin i a acc ha (by omega) hI.2 ham.1 ham.2,V6 (by omega)]
 refine⟨rfl,by have:=b1n oc (prF prio) acc a;omega,fun x hx=>?_⟩
 rcases a0Q _ _ hx with h | h
 ·exact hI.2 x h
 ·rw[h];exact ham
section
variable (par prio:List Int) (ap:List Bool) (hv:AA par prio=0) (hap:ap.length=par.length)
def OC (i:Int):Int:=ocF par prio ap (par.length+1) i
def chS (at' :Int):Int:=chF (OC par prio ap) (prF prio) (castL (sN par at'))
include hv in
theorem b3u {i:Int} (h0:-1≤i) (h:i<par.length):OC par prio ap i=l7 (ieq (chS par prio ap i) (-1)) (l7 (apF ap i) i (-1)) (chS par prio ap i):=by
 unfold OC chS
 rw[ocF]
 have:chF (ocF par prio ap par.length) (prF prio) (castL (sN par i))=chF (OC par prio ap) (prF prio) (castL (sN par i)):=
  NR fun x hx=>by
   have:=Ky par prio hv hx
   exact OJ par prio ap hv _ _ x (by omega) (by omega) (by omega)
 rw[this]
include hv in
theorem a1F (i:Int):(castL (sN par i)).length≤8:=by
 have h1:=xO (SC par i) par.length
 have h2:=(wV hv).2.1
 unfold castL sN;rw[List.length_map];omega
include hv in
theorem Zy {i x:Int} (h:x∈castL (sN par i)):0≤x∧x<o8 prio:=by
 have:=Ky par prio hv h
 have h2:=(wV hv).1
 simp only[o8];omega
include hv in
theorem a4M (arr:List Int) (i:Int) (hA:∀x∈castL (sN par i),lat arr x=some (OC par prio ap x)):jV (par,prio,arr) i=some (yU (OC par prio ap) (prF prio) (castL (sN par i))):=by
 unfold jV
 rw[Ro (by have:=(wV hv).2.1;simp only;omega),o7,bH]
 refine YZ (OC par prio ap) prio _ (by have:=a1F par prio hv i;omega) (fun x hx=>Zy par prio hv hx) (fun k a acc ha hl hacc h0 h1=>?_) (fun acc=>?_)
 ·simp only[H9 ha,o6,F9 (castL (sN par i)),ha,o7]
  rw[show J9 (castL (sN par i)) (toN (k:Int))=some a from ha,o7,hA a (fO ha),o7]
  unfold bG
  cases ieq (OC par prio ap a) (-1)
  case true=>rfl
  simp only[l9,IY h0 h1,o7]
  cases acc with
  | nil=>simp only[D9 (show o8 ([]:List Int)≤0 by simp[o8]),l9,o7,F5 (show o8 ([]:List Int)=0 from rfl),o6,kC a (show([]:List Int).length≤1000000 by simp)];rfl
  | cons b r=>
   have hb:=hacc b (by simp)
   simp only[E9 (show(0:Int)<o8 (b::r) by simp[o8] <;> omega),o6,show lat (b::r) 0=some b from rfl,show J9 (b::r) (toN 0)=some b from rfl,o7,IY hb.1 hb.2]
   cases ilt (prF prio b) (prF prio a)
   ·simp only[l9,o7,D8 (show o8 (b::r)≠0 by simp[o8] <;> omega),show lat (b::r) 0=some b from rfl,show J9 (b::r) (toN 0)=some b from rfl,IY hb.1 hb.2]
    cases ieq (prF prio a) (prF prio b)
    ·rfl
    ·rw[o6,o6,kC _ (by omega)];rfl
   ·simp only[o6,show jf 0 0 (o8 (b::r))=true by simp[jf,o8] <;> omega,show gp (b::r) (toN 0) (toN 0)=[]from rfl,o7,F5 (show o8 ([]:List Int)=0 from rfl),kC a (show([]:List Int).length≤1000000 by simp)];rfl
 ·simp only[H8];rfl
include hv in
theorem XP (arr:List Int) (i:Int) (hA:∀x∈castL (sN par i),lat arr x=some (OC par prio ap x)):aj (par,prio,arr) i=some (chS par prio ap i):=by
 unfold aj chS chF
 rw[a4M par prio ap hv arr i hA,o7]
 have hsub:∀x∈yU (OC par prio ap) (prF prio) (castL (sN par i)),lat arr x=some (OC par prio ap x):=fun x hx=>hA x (AY hx)
 generalize yU (OC par prio ap) (prF prio) (castL (sN par i))=b at*
 match b,hsub with
 | [],_=>rfl
 | [x],hsub=>
  simp only[D8 (show o8 [x]≠0 by simp[o8]),F5 (show o8 [x]=1 from rfl),l9,o6,show lat [x] 0=some x from rfl,show J9 [x] (toN 0)=some x from rfl,o7,hsub x (by simp)]
 | x::y::r,_=>
  rw[D8 (by simp[o8];omega),D8 (by simp[o8];omega)];rfl
include hv hap in
theorem TB:∃arr,kW par prio ap=some arr∧∀x,0≤x→x<(par.length:Int)→lat arr x=some (OC par prio ap x):=by
 have h8:=(wV hv).2.1
 unfold kW
 rw[show jg (o8 par) (0:Int)=some (List.replicate par.length 0) by unfold jg;rw[if_pos (by simp[o8];omega)];simp[o8],o7]
 have key:=Z9 (f:=fun(x:dh×Int)=>l7 (ile 0 x.2) (o5 (aj x.1 x.2) fun(x_1:Int)=>o5 (lat x.1.2.2 x.2) fun(x_2:Int)=>o5 (J9 x.1.2.2 (toN x.2)) fun(x_3:Int)=>
   o5 (lat (P8 x.1.2.2 (toN x.2) x_1) x.2) fun(x_4:Int)=>o5 (J9 (P8 x.1.2.2 (toN x.2) x_1) (toN x.2)) fun(x_5:Int)=>l7 (ieq x_5 (-1)) (o5 (lat ap x.2) fun(x_6:Bool)=>l7 x_6 (o5 (lat (P8 x.1.2.2 (toN x.2) x_1) x.2) fun(x_7:Int)=>
    o5 (J9 (P8 x.1.2.2 (toN x.2) x_1) (toN x.2)) fun(x_8:Int)=>some (.inl ((x.1.1,x.1.2.1,P8 (P8 x.1.2.2 (toN x.2) x_1) (toN x.2) x.2),G8 .i64 x.2 1))) (some (.inl ((x.1.1,x.1.2.1,P8 x.1.2.2 (toN x.2) x_1),G8 .i64 x.2 1))))
     (some (.inl ((x.1.1,x.1.2.1,P8 x.1.2.2 (toN x.2) x_1),G8 .i64 x.2 1)))) (some (.inr x.1)))
  (s:=((par,prio,List.replicate par.length 0),G8 .i64 (o8 par) 1)) (fun x=>∃(arr:List Int) (i:Int),x=((par,prio,arr),i)∧-1≤i∧i<par.length∧arr.length=par.length∧∀x,i<x→x<(par.length:Int)→lat arr x=some (OC par prio ap x))
  (fun y=>∃arr:List Int,y=(par,prio,arr)∧∀x,0≤x→x<(par.length:Int)→lat arr x=some (OC par prio ap x)) (fun x=>(x.2+1).toNat) ?_ ?_ ?_
 ·obtain⟨y,k1,arr,rfl,k3⟩:=key
  refine⟨arr,(iL k1 _).trans rfl,k3⟩
 ·exact⟨_,_,rfl,by rw[H5 (by unfold I64 o8;omega)];simp[o8];omega,by rw[H5 (by unfold I64 o8;omega)];simp only[o8];omega,by simp,fun x h1 h2=>by
   rw[H5 (by unfold I64 o8;omega)]at h1;simp only[o8]at h1;omega⟩
 ·rw[H5 (by unfold I64 o8;omega)];simp[o8];omega
 ·rintro x ⟨arr,i,rfl,h1,h2,hlen,hA⟩
  by_cases h0:0≤i
  ·left
   obtain⟨k,rfl⟩:∃k:Nat,i=(k:Int):=⟨i.toNat,by omega⟩
   have hk:k<arr.length:=by omega
   have hka:k<ap.length:=by omega
   have e:=aQ hk
   have ea:=aQ hka
   have hch:=XP par prio ap hv arr (k:Int) (fun x hx=>by
    have:=Ky par prio hv hx
    exact hA x this.1 this.2.1)
   have hs:∀v:Int,lat (P8 arr (toN (k:Int)) v) (k:Int)=some v:=fun v=>by
    rw[F9];show(arr.set k v)[k]? =some v
    rw[List.getElem?_set_self hk]
   have hs2:∀v:Int,J9 (P8 arr (toN (k:Int)) v) (toN (k:Int))=some v:=fun v=>by
    have:=hs v;rw[F9]at this;exact this
   have hsub:G8 .i64 (k:Int) 1=(k:Int) -1:=H5 (by unfold I64;omega)
   have hoc:=b3u par prio ap hv (i:=(k:Int)) (by omega) (by omega)
   have hapk:apF ap (k:Int)=ap[k]:=by unfold apF;rw[Int.toNat_natCast,oM,ea];rfl
   rw[hapk]at hoc
   refine⟨((par,prio,arr.set k (OC par prio ap (k:Int))),(k:Int) -1),?_,⟨_,_,rfl,by omega,by omega,by simp[hlen],fun x hx1 hx2=>?_⟩,by simp <;> omega⟩
   ·simp only[F7 h0,o6,hch,o7,F9 arr,e,show J9 arr (toN (k:Int))=some arr[k]from e,hs,hs2,F9 ap,ea,hsub]
    rw[hoc]
    cases hq:ieq (chS par prio ap (k:Int)) (-1)
    ·simp only[l9];rfl
    ·simp only[o6]
     cases ap[k]
     ·rw[N7.1 hq];rfl
     ·simp only[o6]
      show some (Sum.inl ((par,prio,(arr.set k _).set k _),_))=_
      rw[List.set_set]
   ·unfold lat
    rw[if_pos (by omega)]
    by_cases hxk:x=(k:Int)
    ·rw[hxk,Int.toNat_natCast,List.getElem?_set_self hk]
    ·have:=hA x (by omega) hx2
     unfold lat at this
     rw[if_pos (by omega)]at this
     rw[List.getElem?_set,if_neg (by omega)]
     exact this
  ·right
   exact⟨(par,prio,arr),by rw[F8 (by omega)];rfl,arr,rfl,fun x hx1 hx2=>hA x (by omega) hx2⟩
end
def yL (par prio:List Int) (ap:List Bool):Int:=l7 (ieq (AA par prio) 0) (l7 (ieq (o8 ap) (o8 par)) (chS par prio ap (-1)) (-1)) (-1)
theorem a0o (par prio:List Int) (ap:List Bool):oD par prio ap=some (yL par prio ap):=by
 unfold oD yL
 rw[a4R,o7]
 cases hv:ieq (AA par prio) 0
 ·rfl
 simp only[o9,l9,o6]
 cases hl:ieq (o8 ap) (o8 par)
 ·rfl
 simp only[o9,l9,o6]
 have hv' :=N7.1 hv
 have hl' :ap.length=par.length:=by rw[N7]at hl;simp only[o8]at hl;omega
 obtain⟨arr,h1,h2⟩:=TB par prio ap hv' hl'
 rw[h1,o7,bH]
 exact XP par prio ap hv' arr (-1) fun x hx=>by
  have:=Ky par prio hv' hx
  exact h2 x this.2.2 this.2.1
section
variable (par prio:List Int) (ap:List Bool) (hv:AA par prio=0) (hap:ap.length=par.length)
include hv hap in
end
end Go.GP
namespace Go.GP
open Gt
set_option maxRecDepth 100000
theorem Zr {l:List Int} {i:Nat} (h:i<l.length):lat l (i:Int)=some (hg l i):=by rw[F9];exact mf h
theorem Sl {l:List Int} {i j:Nat} (hi:i<l.length) (hj:j<l.length):U5 l (i:Int) (j:Int)=some (ilt (hg l i) (hg l j)):=by
 unfold U5
 rw[Zr hi,o7,Zr hj,o7]
theorem Sr {l:List Int} {i j:Nat} (hi:i<l.length) (hj:j<l.length):V5 l (i:Int) (j:Int)=some (swp l i j):=by
 unfold V5
 have e1:J9 l (toN (i:Int))=some (hg l i):=mf hi
 have e2:J9 l (toN (j:Int))=some (hg l j):=mf hj
 have hj2:j<(P8 l (toN (i:Int)) (hg l j)).length:=by show j<(l.set i (hg l j)).length;simp[hj]
 have e3:J9 (P8 l (toN (i:Int)) (hg l j)) (toN (j:Int))=some (hg (P8 l (toN (i:Int)) (hg l j)) j):=mf hj2
 rw[Zr hj,o7,e2,o7,Zr hi,o7,e1,o7,o7,o7,Zr hj2,o7,e3,o7];rfl
theorem Le {l m:List Int} (h:l.Perm m):l.length=m.length:=h.length_eq
theorem c0M {l:List Int} {j:Nat} (hl:l.length≤100000) (hj:j<l.length) (h:Fb l j):∃l',kP l (j:Int)=some l' ∧yO l' l'.length∧l'.Perm l:=by
 unfold kP
 have key:=Z9 (f:=fun(x:List Int×Int)=>l7 (ieq (az .i64 (G8 .i64 x.2 1) 2) x.2) (some (.inr x.1)) (o5 (U5 x.1 x.2 (az .i64 (G8 .i64 x.2 1) 2)) fun(x_1:Bool)=>l7 (E5 x_1) (some (.inr x.1))
   (o5 (V5 x.1 (az .i64 (G8 .i64 x.2 1) 2) x.2) fun(x_2:List Int)=>some (.inl (x_2,az .i64 (G8 .i64 x.2 1) 2)))))
  (s:=(l,(j:Int))) (fun x=>∃(m:List Int) (k:Nat),x=(m,(k:Int))∧k<m.length∧Fb m k∧m.Perm l) (fun m=>yO m m.length∧m.Perm l) (fun x=>x.2.toNat) ⟨l,j,rfl,hj,h,List.Perm.refl _⟩ (by simp;omega) (by
  rintro x ⟨m,k,rfl,hk,hu,hp⟩
  have hm:=Le hp
  by_cases h0:k=0
  ·subst h0
   exact .inr ⟨m,rfl,Ko hu (.inl rfl),hp⟩
  have hpar:az .i64 (G8 .i64 (k:Int) 1) 2=(((k -1) / 2:Nat):Int):=by
   rw[H5 (by unfold I64;omega),pX (by rw[aU (by omega)];unfold I64;omega),aU (by omega)];omega
  simp only[hpar]
  rw[D8 (by omega),l9,Sl hk (by omega),o7]
  cases hc:ilt (hg m k) (hg m ((k -1) / 2))
  ·exact .inr ⟨m,rfl,Ko hu (.inr (by rw[bF]at hc;exact hc)),hp⟩
  ·rw[o9,l9,Sr (by omega) hk]
   exact .inl ⟨(swp m ((k -1) / 2) k,(((k -1) / 2:Nat):Int)),rfl,⟨_,_,rfl,by rw[yh];omega,Sj hu (by omega) hk (cu.1 hc),(Au (by omega) hk).trans hp⟩,by simp;omega⟩)
 obtain⟨m,k1,k2,k3⟩:=key
 exact⟨m,(iL k1 _).trans rfl,k2,k3⟩
theorem Og {l:List Int} (hl:l.length≤1000) (h:yO l l.length) (x:Int):∃l',Y3 l x=some l' ∧yO l' l'.length∧l'.Perm (l++[x]):=by
 unfold Y3 pK bU
 rw[kC _ (by omega),o7,o7,o7]
 have hlen:(l++[x]).length=l.length+1:=by simp
 have hu:Fb (l++[x]) l.length:=by
  refine⟨fun k k0 k1 k2=>?_,fun h0 k k0 k1 k2=>by omega⟩
  have hk:k<l.length:=by omega
  have hga:∀i,i<l.length→hg (l++[x]) i=hg l i:=fun i hi=>by unfold hg;rw[oM,oM,List.getElem?_append_left hi]
  rw[hga k hk,hga _ (by omega)]
  exact h k k0 hk
 obtain⟨m,k1,k2,k3⟩:=c0M (l:=l++[x]) (j:=l.length) (by omega) (by omega) hu
 refine⟨m,?_,k2,k3⟩
 rw[show G8 .i64 (o8 (l++[x])) 1=((l.length:Nat):Int) by rw[H5 (by unfold I64 o8;omega)];simp[o8],k1];rfl
theorem a5C {l:List Int} {n i:Nat} (hl:l.length≤100000) (hn:n≤l.length) (hi:i<l.length) (h:wz l n i):∃b l',jh l (i:Int) (n:Int)=some (b,l')∧yO l' n∧l'.Perm l∧l'.drop n=l.drop n:=by
 unfold jh
 have key:=Z9 (f:=fun(x:List Int×Int)=>l7 (ile (n:Int) (x9 .i64 (U6 .i64 2 x.2) 1)) (some (.inr x)) (l7 (ilt (x9 .i64 (U6 .i64 2 x.2) 1) 0) (some (.inr x)) (l7 (ilt (x9 .i64 (x9 .i64 (U6 .i64 2 x.2) 1) 1) (n:Int))
   (o5 (U5 x.1 (x9 .i64 (x9 .i64 (U6 .i64 2 x.2) 1) 1) (x9 .i64 (U6 .i64 2 x.2) 1)) fun(x_1:Bool)=>l7 x_1 (o5 (U5 x.1 (x9 .i64 (x9 .i64 (U6 .i64 2 x.2) 1) 1) x.2) fun(x_2:Bool)=>l7 (E5 x_2) (some (.inr x))
     (o5 (V5 x.1 x.2 (x9 .i64 (x9 .i64 (U6 .i64 2 x.2) 1) 1)) fun(x_3:List Int)=>some (.inl (x_3,x9 .i64 (x9 .i64 (U6 .i64 2 x.2) 1) 1)))) (o5 (U5 x.1 (x9 .i64 (U6 .i64 2 x.2) 1) x.2) fun(x_2:Bool)=>l7 (E5 x_2) (some (.inr x))
     (o5 (V5 x.1 x.2 (x9 .i64 (U6 .i64 2 x.2) 1)) fun(x_3:List Int)=>some (.inl (x_3,x9 .i64 (U6 .i64 2 x.2) 1)))))
   (o5 (U5 x.1 (x9 .i64 (U6 .i64 2 x.2) 1) x.2) fun(x_1:Bool)=>l7 (E5 x_1) (some (.inr x)) (o5 (V5 x.1 x.2 (x9 .i64 (U6 .i64 2 x.2) 1)) fun(x_2:List Int)=>some (.inl (x_2,x9 .i64 (U6 .i64 2 x.2) 1)))))))
  (s:=(l,(i:Int))) (fun x=>∃(m:List Int) (k:Nat),x=(m,(k:Int))∧k<m.length∧wz m n k∧m.Perm l∧m.drop n=l.drop n) (fun y=>yO y.1 n∧y.1.Perm l∧y.1.drop n=l.drop n) (fun x=>l.length -x.2.toNat) ⟨l,i,rfl,hi,h,List.Perm.refl _,rfl⟩ (by simp;omega) (by
  rintro x ⟨m,k,rfl,hk,hd,hp,hdr⟩
  have hm:=Le hp
  have hc1:x9 .i64 (U6 .i64 2 (k:Int)) 1=((2*k+1:Nat):Int):=by rw[di (by unfold I64;omega),I9 (by unfold I64;omega)];omega
  have hc2:x9 .i64 (((2*k+1:Nat):Int)) 1=((2*k+2:Nat):Int):=by rw[I9 (by unfold I64;omega)];omega
  have dswp:∀a b,a<n→b<n→(swp m a b).drop n=l.drop n:=fun a b ha hb=>by
   unfold swp
   rw[List.drop_set_of_lt hb,List.drop_set_of_lt ha,hdr]
  simp only[hc1,hc2]
  by_cases h1:n≤2*k+1
  ·rw[F7 (by omega),o6]
   exact .inr ⟨_,rfl,tC hd (fun j j0 j1 j2=>by omega),hp,hdr⟩
  rw[F8 (by omega),l9,D9 (by omega),l9]
  by_cases h2:2*k+2<n
  ·rw[E9 (by omega),o6,Sl (by omega) (by omega),o7]
   cases hc:ilt (hg m (2*k+2)) (hg m (2*k+1))
   ·rw[bF]at hc
    rw[l9,Sl (by omega) hk,o7]
    cases hq:ilt (hg m (2*k+1)) (hg m k)
    ·rw[bF]at hq
     exact .inr ⟨_,rfl,tC hd (fun j j0 j1 j2=>by
      have:j=2*k+1∨j=2*k+2:=by omega
      rcases this with rfl | rfl <;> (dsimp only;omega)),hp,hdr⟩
    ·rw[o9,l9,Sr hk (by omega)]
     exact .inl ⟨(swp m k (2*k+1),((2*k+1:Nat):Int)),rfl,⟨_,_,rfl,by rw[yh];omega,wo hd (by omega) (by omega) (by omega) (by omega) (fun j j0 j1 j2=>by
      have:j=2*k+1∨j=2*k+2:=by omega
      rcases this with rfl | rfl
      ·exact Int.le_refl _
      ·exact hc) (cu.1 hq),(Au hk (by omega)).trans hp,dswp _ _ (by omega) (by omega)⟩,by simp;omega⟩
   ·rw[cu]at hc
    rw[o6,Sl (by omega) hk,o7]
    cases hq:ilt (hg m (2*k+2)) (hg m k)
    ·rw[bF]at hq
     exact .inr ⟨_,rfl,tC hd (fun j j0 j1 j2=>by
      have:j=2*k+1∨j=2*k+2:=by omega
      rcases this with rfl | rfl <;> (dsimp only;omega)),hp,hdr⟩
    ·rw[o9,l9,Sr hk (by omega)]
     exact .inl ⟨(swp m k (2*k+2),((2*k+2:Nat):Int)),rfl,⟨_,_,rfl,by rw[yh];omega,wo hd (by omega) (by omega) (by omega) (by omega) (fun j j0 j1 j2=>by
      have:j=2*k+1∨j=2*k+2:=by omega
      rcases this with rfl | rfl
      ·omega
      ·exact Int.le_refl _) (cu.1 hq),(Au hk (by omega)).trans hp,dswp _ _ (by omega) (by omega)⟩,by simp;omega⟩
  ·rw[D9 (by omega),l9,Sl (by omega) hk,o7]
   cases hq:ilt (hg m (2*k+1)) (hg m k)
   ·rw[bF]at hq
    exact .inr ⟨_,rfl,tC hd (fun j j0 j1 j2=>by
     have:j=2*k+1:=by omega
     subst this;omega),hp,hdr⟩
   ·rw[o9,l9,Sr hk (by omega)]
    exact .inl ⟨(swp m k (2*k+1),((2*k+1:Nat):Int)),rfl,⟨_,_,rfl,by rw[yh];omega,wo hd (by omega) (by omega) (by omega) (by omega) (fun j j0 j1 j2=>by
     have:j=2*k+1:=by omega
     subst this;exact Int.le_refl _) (cu.1 hq),(Au hk (by omega)).trans hp,dswp _ _ (by omega) (by omega)⟩,by simp;omega⟩)
 obtain⟨y,k1,k2,k3,k4⟩:=key
 exact⟨ilt (i:Int) y.2,y.1,(iL k1 _).trans rfl,k2,k3,k4⟩
theorem a1y {l:List Int} (hl:l.length≤1000) (h:yO l l.length) (h0:0<l.length):∃l',gB l=some (hg l 0,l')∧yO l' l'.length∧(l' ++[hg l 0]).Perm l:=by
 obtain⟨n,hn⟩:∃n,l.length=n+1:=⟨l.length -1,by omega⟩
 have hsub:G8 .i64 ((l.length:Nat):Int) 1=((n:Nat):Int):=by rw[H5 (by unfold I64;omega)];omega
 unfold gB bU
 rw[o7,show o8 l=((l.length:Nat):Int)from rfl,hsub,show(0:Int)=((0:Nat):Int)from rfl,Sr (by omega) (by omega),o7]
 have hlen:(swp l 0 n).length=n+1:=by rw[yh,hn]
 obtain⟨b,m,k1,k2,k3,k4⟩:=a5C (l:=swp l 0 n) (n:=n) (i:=0) (by omega) (by omega) (by omega) (Vm h (by omega))
 rw[k1,o7]
 have hml:=Le k3
 have hmn:m.length=n+1:=by omega
 have hlast:hg m n=hg l 0:=by
  have e1:(m.drop n)[0]? =((swp l 0 n).drop n)[0]?:=by rw[k4]
  rw[List.getElem?_drop,List.getElem?_drop,Nat.add_zero,mf (by omega),mf (by omega)]at e1
  rw[Option.some.inj e1,PT (by omega) (by omega),if_pos rfl]
 unfold qK
 dsimp only
 have hs2:G8 .i64 (o8 m) 1=((n:Nat):Int):=by rw[show o8 m=((m.length:Nat):Int)from rfl,hmn,H5 (by unfold I64;omega)];omega
 rw[hs2,Zr (by omega),o7,show J9 m (toN (n:Int))=some (hg m n)from mf (i:=n) (by omega),o7,show jf 0 (n:Int) (o8 m)=true by simp[jf,o8];omega,o6,show gp m (toN 0) (toN (n:Int))=m.take n by simp[gp,toN],hlast]
 refine⟨m.take n,rfl,?_,?_⟩
 ·have:(m.take n).length=n:=by simp;omega
  rw[this]
  intro k k0 k1'
  have hga:∀i,i<n→hg (m.take n) i=hg m i:=fun i hi=>by unfold hg;rw[oM,oM,List.getElem?_take_of_lt hi]
  rw[hga k k1',hga _ (by omega)]
  exact k2 k k0 k1'
 ·have hcat:m.take n++[hg l 0]=m:=by
   rw[←hlast]
   have e:m.drop n=[hg m n]:=by
    apply List.ext_getElem?
    intro i
    rw[List.getElem?_drop]
    cases i with
    | zero=>rw[Nat.add_zero,mf (by omega)];rfl
    | succ i=>rw[List.getElem?_eq_none (by omega)];rfl
   rw[←e,List.take_append_drop]
  rw[hcat]
  exact k3.trans (Au (by omega) (by omega))
def kY (O:List Int) (x:Int):Bool:=O.any fun y=>ieq y x
theorem su {O:List Int} {x:Int} :kY O x=true↔x∈O:=by
 unfold kY
 rw[List.any_eq_true]
 constructor
 ·rintro⟨y,hy,h⟩;rw[N7]at h;exact h▸hy
 ·exact fun h=>⟨x,h,F5 rfl⟩
def a2Y (s:A8) (d:Int) (O:List Int):Bool:=(I5 s d).all fun x=>kY O x
def okN (s:A8) (O:List Int) (d:Nat):Bool:=l7 (kY O (d:Int)) false (a2Y s (d:Int) O)
def KT (s:A8) (O:List Int) (d:Nat):Option Nat:=l7 (okN s O d) (some d) none
def En (s:A8) (O:List Int):Option Nat:=U1 s.2.2.2.1.length (KT s O)
theorem a1X {s:A8} {O:List Int} {d r:Nat} (h:KT s O d=some r):r=d∧okN s O d=true:=by
 unfold KT at h
 cases hq:okN s O d <;> rw[hq]at h
 ·cases h
 ·cases h;exact⟨rfl,rfl⟩
theorem Vz {s:A8} {O:List Int} {d:Nat} (h:En s O=some d):d<s.2.2.2.1.length∧okN s O d=true:=by
 obtain⟨i,hi,hp⟩:=dU h
 obtain⟨rfl,ho⟩:=a1X hp
 exact⟨hi,ho⟩
theorem Ti {s:A8} {O:List Int} {d:Nat} (hd:d<s.2.2.2.1.length) (ho:okN s O d=true) (hn:∀j,j<d→okN s O j=false):En s O=some d:=by
 unfold En
 exact RY (p:=KT s O) (List.findSome?_eq_none_iff.2 fun j hj=>by unfold KT;rw[hn j (List.mem_range.1 hj)];rfl) (by unfold KT;rw[ho];rfl) hd
theorem Vy {s:A8} {O:List Int} (hn:∀j,j<s.2.2.2.1.length→okN s O j=false):En s O=none:=by
 unfold En U1
 exact List.findSome?_eq_none_iff.2 fun j hj=>by unfold KT;rw[hn j (List.mem_range.1 hj)];rfl
def Qi (s:A8):Nat→List Int→List Int⊕(List Int×Int)
 | 0,O=> .inl O
 | k+1,O=>if O.length<s.2.2.2.1.length then(match En s O with | none=> .inr ([],9) | some d=>Qi s k (O++[(d:Int)]))else .inl O
def rf (s:A8):List Int×Int:=match Qi s 100 []with | .inl O=>(O,0) | .inr x=>x
def eX (s:A8) (e:Int) (i:Nat):List Nat:=onL (fun d=>decide (e∈I5 s (d:Int))) i
def Hf (s:A8) (O:List Int) (d:Int):List Int:=(I5 s d).filter fun x=> !kY O x
def hw (W:List Int) (d:Int):Int:=W.getD d.toNat 0
theorem a1z {W:List Int} {d:Int} (h0:0≤d) (h:d<o8 W):lat W d=some (hw W d)∧J9 W (toN d)=some (hw W d):=by
 have:=IY h0 h
 refine⟨this,?_⟩
 unfold lat at this;rw[if_pos h0]at this;exact this
theorem a1A {W:List Int} {d:Int} (h0:0≤d) (h:d<o8 W) (v x:Int) (hx:0≤x):hw (P8 W (toN d) v) x=if x=d then v else hw W x:=by
 unfold hw
 have hl:d.toNat<W.length:=by simp only[o8]at h;omega
 show(W.set d.toNat v).getD x.toNat 0=_
 rw[oM,oM,List.getElem?_set]
 by_cases hq:x=d
 ·subst hq;rw[if_pos rfl,if_pos hl,if_pos rfl];rfl
 ·rw[if_neg (by omega),if_neg hq]
theorem KF (W:List Int) (i:Nat) (v:Int):(P8 W i v).length=W.length:=by show(W.set i v).length=_;simp
theorem OI {l:List Int} {n:Nat} (hd:l.Nodup) (hr:∀x∈l,0≤x∧x<(n:Int)):l.length≤n:=by
 have hp:=uB l
 have hs:=tH l
 have hnd:(wM l).Nodup:=hp.nodup_iff.2 hd
 have hsi:SI (wM l):=by
  have:=List.Pairwise.and hs hnd
  exact this.imp fun {a b} ⟨h1,h2⟩=>by omega
 have:=LX n hsi fun x hx=>hr x (hp.mem_iff.1 hx)
 rw[hp.length_eq]at this;exact this
theorem RQ {l:List Int} (h:SI l) {O:List Int} {m:Int} (hm:m∉O):((l.filter fun x=> !kY (O++[m]) x).length:Int)=((l.filter fun x=> !kY O x).length:Int) -(if m∈l then 1 else 0):=by
 have hh:∀x,kY (O++[m]) x=(kY O x || ieq m x):=fun x=>by unfold kY;rw[List.any_append];simp
 induction l with
 | nil=>simp
 | cons a l ih=>
  have h' :=List.pairwise_cons.1 h
  have ih' :=ih h'.2
  rw[List.filter_cons,List.filter_cons,hh]
  by_cases hma:m=a
  ·subst hma
   have hno:m∉l:=fun hx=>by have:=h'.1 m hx;omega
   rw[if_neg hno]at ih'
   have h1:kY O m=false:=by
    cases hq:kY O m
    ·rfl
    ·exact absurd (su.1 hq) hm
   have hA:(!(kY O m || ieq m m))=false:=by rw[F5 rfl];simp
   have hB:(!kY O m)=true:=by rw[h1];rfl
   rw[hA,hB,if_pos (show m∈m::l by simp)]
   simp only[Bool.false_eq_true,if_false,if_true,List.length_cons];omega
  ·rw[D8 hma,Bool.or_false]
   have:(if m∈a::l then(1:Int)else 0)=if m∈l then 1 else 0:=by simp[hma]
   rw[this]
   cases kY O a
   ·simp only[Bool.not_false,if_true,List.length_cons];omega
   ·simp only[Bool.not_true,Bool.false_eq_true,if_false];exact ih'
structure KInv (s:A8) (O W H:List Int):Prop where
 nd:O.Nodup
 rng:∀x∈O,0≤x∧x<nD s
 cl:∀u∈O,∀x∈I5 s u,x∈O
 wl:W.length=s.2.2.2.1.length
 w:∀d,0≤d→d<nD s→hw W d=((Hf s O d).length:Int)
 hp:yO H H.length
 hnd:H.Nodup
 hm:∀d,d∈H↔0≤d∧d<nD s∧d∉O∧hw W d=0
theorem b1P {s:A8} {O:List Int} {d:Nat} :okN s O d=true↔(d:Int)∉O∧Hf s O (d:Int)=[]:=by
 unfold okN a2Y Hf
 cases hq:kY O (d:Int)
 ·have h1:(d:Int)∉O:=fun h=>by rw[su.2 h]at hq;cases hq
  simp only[l9,List.all_eq_true,List.filter_eq_nil_iff,Bool.not_eq_true,Bool.not_eq_false']
  exact⟨fun h=>⟨h1,fun a ha=>by rw[h a ha]⟩,fun h a ha=>h.2 a ha⟩
 ·have h1:=su.1 hq
  simp only[o6]
  exact⟨fun h=>(by cases h),fun h=>absurd h1 h.1⟩
theorem KInv.ready {s:A8} {O W H:List Int} (h:KInv s O W H) {d:Nat} (hd:d<s.2.2.2.1.length):okN s O d=true↔(d:Int)∈H:=by
 have hn:nD s=((s.2.2.2.1.length:Nat):Int):=rfl
 rw[b1P,h.hm]
 have:=h.w (d:Int) (by omega) (by omega)
 constructor
 ·rintro⟨h1,h2⟩;exact⟨by omega,by omega,h1,by rw[this,h2];rfl⟩
 ·rintro⟨_,_,h1,h2⟩
  refine⟨h1,List.length_eq_zero_iff.1 ?_⟩
  rw[this]at h2;omega
theorem KInv.next_none {s:A8} {O W:List Int} (h:KInv s O W []):En s O=none:=
 Vy fun j hj=>by
  cases hq:okN s O j
  ·rfl
  ·have:=(h.ready hj).1 hq;cases this
theorem KInv.next_some {s:A8} {O W H:List Int} (h:KInv s O W H) (h0:0<H.length):∃m:Nat,hg H 0=(m:Int)∧En s O=some m∧m<s.2.2.2.1.length∧O.length<s.2.2.2.1.length:=by
 have hn:nD s=((s.2.2.2.1.length:Nat):Int):=rfl
 have hmem:hg H 0∈H:=by have:=mf h0;exact fO this
 have hmm:=(h.hm _).1 hmem
 obtain⟨m,hm⟩:∃m:Nat,hg H 0=(m:Int):=⟨(hg H 0).toNat,by omega⟩
 rw[hm]at hmem hmm
 have hlt:m<s.2.2.2.1.length:=by omega
 refine⟨m,hm,Ti hlt ((h.ready hlt).2 hmem) fun j hj=>?_,hlt,?_⟩
 ·cases hq:okN s O j
  ·rfl
  ·have hjH:=(h.ready (by omega)).1 hq
   obtain⟨i,hi,he⟩:=List.getElem_of_mem hjH
   have:=a1x h.hp i hi
   have e:=mf hi
   rw[aQ hi,he]at e
   have:=Option.some.inj e
   omega
 ·have hnd:(O++[(m:Int)]).Nodup:=List.nodup_append.2 ⟨h.nd,by simp,fun a ha b hb=>by simp at hb;subst hb;intro hq;subst hq;exact hmm.2.2.1 ha⟩
  have:=OI (n:=s.2.2.2.1.length) hnd fun x hx=>by
   rcases List.mem_append.1 hx with hx | hx
   ·exact h.rng x hx
   ·simp at hx;subst hx;omega
  simp at this;omega
structure UInv (s:A8) (W H0:List Int) (us:List Int) (W' H' :List Int):Prop where
 wl:W'.length=s.2.2.2.1.length
 w:∀d,0≤d→d<nD s→hw W' d=hw W d -(if d∈us then 1 else 0)
 hp:yO H' H'.length
 pm:∃P:List Int,H'.Perm (H0++P)∧P.Sublist us∧∀d,d∈P↔d∈us∧hw W d=1
theorem WN {s:A8} (hs:SmS s) {W H0 us:List Int} (hW:W.length=s.2.2.2.1.length) (hW2:∀d,0≤d→d<nD s→-1000≤hw W d∧hw W d≤1000) (hH:yO H0 H0.length) (hHl:H0.length≤100) (hus:SI us) (hur:∀u∈us,0≤u∧u<nD s)
  {f:List Int×List Int×Int→Option ((List Int×List Int×Int)⊕(List Int×List Int))}
  (hin:∀(i:Nat) (u:Int) (A B:List Int),us[i]? =some u→f (A,B,(i:Int))=o5 (lat A u) fun(x_8:Int)=>o5 (J9 A (toN u)) fun(x_9:Int)=>o5 (lat A u) fun(x_10:Int)=>o5 (J9 A (toN u)) fun(x_11:Int)=>
   o5 (lat (P8 A (toN u) (G8 .i64 x_9 1)) u) fun(x_12:Int)=>o5 (J9 (P8 A (toN u) (G8 .i64 x_9 1)) (toN u)) fun(x_13:Int)=>l7 (ieq x_13 0) (o5 (Y3 B u) fun(x_14:List Int)=>some (.inl (P8 A (toN u) (G8 .i64 x_9 1),x_14,x9 .i64 (i:Int) 1)))
    (some (.inl (P8 A (toN u) (G8 .i64 x_9 1),B,x9 .i64 (i:Int) 1))))
  (hend:∀(A B:List Int),f (A,B,(us.length:Int))=some (.inr (A,B))):∃W' H',U9 f (W,H0,0)=some (W',H')∧UInv s W H0 us W' H' :=by
 have hn:nD s=((s.2.2.2.1.length:Nat):Int):=rfl
 have hul:us.length≤14:=CW hs hus hur
 obtain⟨e,h1,h2⟩:=Z9 (f:=f) (s:=(W,H0,0)) (fun x=>∃(i:Nat) (A B:List Int),x=(A,B,(i:Int))∧i≤us.length∧UInv s W H0 (us.take i) A B∧B.length≤H0.length+i) (fun e=>UInv s W H0 us e.1 e.2) (fun x=>us.length -x.2.2.toNat)
  ⟨0,W,H0,rfl,by omega,⟨hW,fun d _ _=>by simp,hH,[],by simp,by simp,fun d=>by simp⟩,by omega⟩ (by simp;omega) (by
  rintro x ⟨i,A,B,rfl,hi,hU,hBl⟩
  by_cases hlt:i<us.length
  ·left
   have e:=aQ hlt
   generalize us[i]=u at e
   have hu:=hur u (fO e)
   have hst:us.take (i+1)=us.take i++[u]:=by rw[List.take_succ_eq_append_getElem hlt,(O7.1 e).2]
   have hnot:u∉us.take i:=fun hx=>by
    obtain⟨j,hj,hq⟩:=List.getElem_of_mem hx
    simp only[List.length_take]at hj
    have h3:=List.pairwise_iff_getElem.1 hus j i (by omega) hlt (by omega)
    rw[List.getElem_take]at hq
    have h4:=(O7.1 e).2
    omega
   have hAl:=hU.wl
   have hAu:=hU.w u hu.1 hu.2
   rw[if_neg hnot]at hAu
   have hbd:=hW2 u hu.1 hu.2
   obtain⟨q1,q2⟩:=a1z (W:=A) hu.1 (by simp only[o8];omega)
   have hsub:G8 .i64 (hw A u) 1=hw A u -1:=H5 (by unfold I64;omega)
   have hA2:∀d,0≤d→d<nD s→hw (P8 A (toN u) (hw A u -1)) d=hw W d -(if d∈us.take (i+1)then 1 else 0):=fun d d0 d1=>by
    rw[a1A hu.1 (by simp only[o8];omega) _ _ d0,hst]
    have:=hU.w d d0 d1
    by_cases hq:d=u
    ·subst hq;rw[if_pos rfl,if_pos (by simp)];omega
    ·rw[if_neg hq,this];simp[hq]
   obtain⟨q3,q4⟩:=a1z (W:=P8 A (toN u) (hw A u -1)) (d:=u) hu.1 (by simp only[o8,KF];omega)
   have hv:hw (P8 A (toN u) (hw A u -1)) u=hw A u -1:=by rw[a1A hu.1 (by simp only[o8];omega) _ _ hu.1,if_pos rfl]
   rw[hv]at q3 q4
   obtain⟨P,p1,p2,p3⟩:=hU.pm
   rw[hin i u A B e,q1,o7,q2,o7,o7,o7,hsub,q3,o7,q4,o7,V6 (by omega)]
   by_cases hz:hw A u -1=0
   ·obtain⟨B',b1,b2,b3⟩:=Og (l:=B) (by omega) hU.hp u
    rw[F5 hz,o6,b1,o7]
    have hB'l:B'.length=B.length+1:=by rw[b3.length_eq];simp
    refine⟨_,rfl,⟨i+1,_,_,rfl,hlt,⟨by rw[KF];exact hAl,hA2,b2,P++[u],?_,?_,fun d=>?_⟩,by omega⟩,by simp;omega⟩
    ·rw[←List.append_assoc]
     exact b3.trans (p1.append_right [u])
    ·rw[hst];exact p2.append (List.Sublist.refl _)
    ·rw[List.mem_append,p3,hst,List.mem_append]
     constructor
     ·rintro(⟨h,h'⟩ | h)
      ·exact⟨.inl h,h'⟩
      ·simp at h;subst h;exact⟨.inr (by simp),by omega⟩
     ·rintro⟨h | h,h'⟩
      ·exact .inl ⟨h,h'⟩
      ·exact .inr h
   ·rw[D8 hz,l9]
    refine⟨_,rfl,⟨i+1,_,_,rfl,hlt,⟨by rw[KF];exact hAl,hA2,hU.hp,P,p1,?_,fun d=>?_⟩,by omega⟩,by simp;omega⟩
    ·rw[hst];exact p2.trans (List.sublist_append_left _ _)
    ·rw[p3,hst,List.mem_append]
     constructor
     ·rintro⟨h,h'⟩;exact⟨.inl h,h'⟩
     ·rintro⟨h | h,h'⟩
      ·exact⟨h,h'⟩
      ·simp at h;subst h;omega
  ·right
   have:i=us.length:=by omega
   subst this
   rw[List.take_length]at hU
   exact⟨_,hend _ _,hU⟩)
 exact⟨e.1,e.2,h1,h2⟩
theorem yu {s:A8} {m:Int} {d:Int} :d∈castL (eX s m s.2.2.2.1.length)↔0≤d∧d<nD s∧m∈I5 s d:=by
 have hn:nD s=((s.2.2.2.1.length:Nat):Int):=rfl
 unfold castL
 rw[List.mem_map]
 constructor
 ·rintro⟨k,hk,rfl⟩
  obtain⟨h1,h2⟩:=VD _ hk
  exact⟨by omega,by omega,by simpa using h2⟩
 ·rintro⟨h1,h2,h3⟩
  refine⟨d.toNat,?_,by omega⟩
  unfold eX onL
  rw[List.mem_filter,List.mem_range]
  exact⟨by omega,by rw[Int.toNat_of_nonneg h1];simpa using h3⟩
theorem Rk {l:List Nat} (h:l.Pairwise (·< ·)):SI (castL l):=List.Pairwise.map _ (fun a b h=>by omega) h
theorem KInv.step {s:A8} {O W H:List Int} (h:KInv s O W H) (h0:0<H.length) {m:Nat} (hm:hg H 0=(m:Int)) {R:List Int} (hR:yO R R.length) (hRp:(R++[(m:Int)]).Perm H) {W' H' :List Int} (hU:UInv s W R (castL (eX s (m:Int) s.2.2.2.1.length)) W' H'):KInv s (O++[(m:Int)]) W' H' :=by
 have hn:nD s=((s.2.2.2.1.length:Nat):Int):=rfl
 have hmem:(m:Int)∈H:=by rw[←hm];have:=mf h0;exact fO this
 have hmm:=(h.hm _).1 hmem
 have hleft:Hf s O (m:Int)=[]:=by
  have:=h.w (m:Int) hmm.1 hmm.2.1
  rw[hmm.2.2.2]at this
  exact List.length_eq_zero_iff.1 (by omega)
 have hdeps:∀x∈I5 s (m:Int),x∈O:=fun x hx=>by
  have hnil:=List.filter_eq_nil_iff.1 hleft x hx
  simp only[Bool.not_eq_true,Bool.not_eq_false']at hnil
  exact su.1 hnil
 have hndR:(R++[(m:Int)]).Nodup:=hRp.nodup_iff.2 h.hnd
 have hmR:(m:Int)∉R:=fun hx=>by
  have:=(List.nodup_append.1 hndR).2.2 _ hx _ (List.mem_singleton.2 rfl)
  exact this rfl
 have hRm:∀d,d∈R↔d∈H∧d≠(m:Int):=fun d=>by
  rw[←hRp.mem_iff,List.mem_append,List.mem_singleton]
  constructor
  ·intro hx;exact⟨.inl hx,fun hq=>hmR (hq▸hx)⟩
  ·rintro⟨hx | hx,hq⟩
   ·exact hx
   ·exact absurd hx hq
 obtain⟨P,p1,p2,p3⟩:=hU.pm
 have huO:∀u,(m:Int)∈I5 s u→u∉O:=fun u hu hx=>hmm.2.2.1 (h.cl u hx _ hu)
 refine⟨?_,?_,?_,hU.wl,fun d d0 d1=>?_,hU.hp,?_,fun d=>?_⟩
 ·exact List.nodup_append.2 ⟨h.nd,by simp,fun a ha b hb=>by simp at hb;subst hb;intro hq;subst hq;exact hmm.2.2.1 ha⟩
 ·intro x hx
  rcases List.mem_append.1 hx with hx | hx
  ·exact h.rng x hx
  ·simp at hx;subst hx;exact⟨hmm.1,hmm.2.1⟩
 ·intro u hu x hx
  rcases List.mem_append.1 hu with hu | hu
  ·exact List.mem_append_left _ (h.cl u hu x hx)
  ·simp at hu;subst hu;exact List.mem_append_left _ (hdeps x hx)
 ·rw[hU.w d d0 d1,h.w d d0 d1]
  unfold Hf
  rw[RQ (qN s d) hmm.2.2.1]
  congr 1
  have:(d∈castL (eX s (m:Int) s.2.2.2.1.length))↔((m:Int)∈I5 s d):=by rw[yu];exact⟨fun h=>h.2.2,fun h=>⟨d0,d1,h⟩⟩
  by_cases hq:(m:Int)∈I5 s d
  ·rw[if_pos (this.2 hq),if_pos hq]
  ·rw[if_neg (fun hx=>hq (this.1 hx)),if_neg hq]
 ·rw[p1.nodup_iff]
  refine List.nodup_append.2 ⟨(List.nodup_append.1 hndR).1,?_,fun a ha b hb hq=>?_⟩
  ·have:(castL (eX s (m:Int) s.2.2.2.1.length)).Nodup:=(Rk (a2h _ _)).imp fun {a b} h=>by omega
   exact p2.nodup this
  ·subst hq
   have h1:=(h.hm a).1 ((hRm a).1 ha).1
   have h2:=(p3 a).1 hb
   omega
 ·rw[p1.mem_iff,List.mem_append,hRm,p3,yu,h.hm]
  have hw' :=fun d0 d1=>hU.w d d0 d1
  have hmemU:d∈castL (eX s (m:Int) s.2.2.2.1.length)↔0≤d∧d<nD s∧(m:Int)∈I5 s d:=yu
  constructor
  ·rintro(⟨⟨d0,d1,dO,dw⟩,dm⟩ | ⟨⟨d0,d1,dd⟩,dw⟩)
   ·refine⟨d0,d1,fun hx=>?_,?_⟩
    ·rcases List.mem_append.1 hx with hx | hx
     ·exact dO hx
     ·simp at hx;exact dm hx
    ·have hnot:(m:Int)∉I5 s d:=fun hx=>by
      have h1:=h.w d d0 d1
      rw[dw]at h1
      have h2:Hf s O d=[]:=List.length_eq_zero_iff.1 (by omega)
      have h3:=List.filter_eq_nil_iff.1 h2 _ hx
      simp only[Bool.not_eq_true,Bool.not_eq_false']at h3
      exact hmm.2.2.1 (su.1 h3)
     rw[hw' d0 d1,dw,if_neg (fun hx=>hnot (hmemU.1 hx).2.2)];rfl
   ·refine⟨d0,d1,fun hx=>?_,?_⟩
    ·rcases List.mem_append.1 hx with hx | hx
     ·exact huO d dd hx
     ·simp at hx
      rw[hx]at dd
      exact hmm.2.2.1 (hdeps _ dd)
    ·rw[hw' d0 d1,if_pos (hmemU.2 ⟨d0,d1,dd⟩)];omega
  ·rintro⟨d0,d1,dO,dw⟩
   rw[hw' d0 d1]at dw
   have dO1:d∉O:=fun hx=>dO (List.mem_append_left _ hx)
   have dm:d≠(m:Int):=fun hx=>dO (by rw[hx];simp)
   by_cases hq:(m:Int)∈I5 s d
   ·rw[if_pos (hmemU.2 ⟨d0,d1,hq⟩)]at dw
    exact .inr ⟨⟨d0,d1,hq⟩,by omega⟩
   ·rw[if_neg (fun hx=>hq (hmemU.1 hx).2.2)]at dw
    exact .inl ⟨⟨d0,d1,dO1,by omega⟩,dm⟩
def rE (s:A8) (i:Nat):List (List Int):=(List.range s.2.2.2.1.length).map fun(e:Nat)=>castL (eX s (e:Int) i)
theorem Bc (l:List Nat):(castL l).length=l.length:=by unfold castL;rw[List.length_map]
theorem WO (s:A8) (e:Int) (i:Nat):castL (eX s e (i+1))=castL (eX s e i)++(if e∈I5 s (i:Int)then[(i:Int)]else[]):=by
 unfold eX
 rw[KZ]
 by_cases h:e∈I5 s (i:Int) <;> simp[castL,h]
theorem WM {s:A8} (hs:SmS s) (i:Nat) (hi:i<s.2.2.2.1.length) {f:List (List Int)×Int→Option ((List (List Int)×Int)⊕List (List Int))}
  (hin:∀(k:Nat) (e:Int) (A:List (List Int)),(I5 s (i:Int))[k]? =some e→f (A,(k:Int))=l7 (inb e (o8 A)) (o5 (J9 A (toN e)) fun(x_7:List Int)=>o5 (cO x_7 [(i:Int)]) fun(x_8:List Int)=>l7 (inb e (o8 A)) (l7 (Dh (toN e) (toN e)) (o5 (J9 A (toN e)) fun(x_9:List Int)=>some (.inl (P8 A (toN e) x_8,x9 .i64 (k:Int) 1))) none) none) none)
  (hend:∀A,f (A,((I5 s (i:Int)).length:Int))=some (.inr A)):U9 f (rE s i,0)=some (rE s (i+1)):=by
 have hn:nD s=((s.2.2.2.1.length:Nat):Int):=rfl
 have hdl:=JG hs (i:Int)
 have hnd:=hs.nd
 have hsi:=qN s (i:Int)
 refine(jc (I5 s (i:Int)) (fun(A:List (List Int)) e=>A.set e.toNat (A.getD e.toNat []++[(i:Int)])) (fun b k=>(b,k)) (fun b=>b) (fun k A=>A=(List.range s.2.2.2.1.length).map fun(e:Nat)=>castL (eX s (e:Int) i)++(if(e:Int)∈(I5 s (i:Int)).take k then[(i:Int)]else[])) (b:=rE s i) (by omega) (by simp[rE]) (fun k e A he hk hA=>?_) (fun A hA=>hend A)).1.trans ?_
 ·have hlt:=(O7.1 he).1
  have her:=qM (fO he)
  have hst:(I5 s (i:Int)).take (k+1)=(I5 s (i:Int)).take k++[e]:=by rw[List.take_succ_eq_append_getElem hlt,(O7.1 he).2]
  have hnot:e∉(I5 s (i:Int)).take k:=fun hx=>by
   obtain⟨j,hj,hq⟩:=List.getElem_of_mem hx
   simp only[List.length_take]at hj
   have h3:=List.pairwise_iff_getElem.1 hsi j k (by omega) hlt (by omega)
   rw[List.getElem_take]at hq
   have h4:=(O7.1 he).2
   omega
  have hlA:A.length=s.2.2.2.1.length:=by rw[hA];simp
  have hg:A[e.toNat]? =some (castL (eX s e i)):=by
   rw[hA,tJ _ _ (show e.toNat<s.2.2.2.1.length by omega),Int.toNat_of_nonneg her.1,if_neg hnot,List.append_nil]
  have hul:(castL (eX s e i)).length≤i:=by rw[Bc];exact xO _ _
  rw[hin k e A he,show inb e (o8 A)=true from decide_eq_true ⟨her.1,by simp only[o8];omega⟩,o6,show J9 A (toN e)=some (castL (eX s e i))from hg,o7,kC _ (by omega),o7,o6,show Dh (toN e) (toN e)=true by simp[Dh],o6,o7,V6 (by omega)]
  rw[show A.getD e.toNat []=castL (eX s e i) by rw[oM,hg];rfl]
  refine⟨rfl,?_⟩
  rw[hA,IV]
  apply List.map_congr_left
  intro d hd
  rw[hst]
  by_cases hq:d=e.toNat
  ·subst hq
   rw[if_pos rfl,Int.toNat_of_nonneg her.1,if_pos (by simp)]
  ·rw[if_neg hq]
   have:(if(d:Int)∈(I5 s (i:Int)).take k++[e]then[(i:Int)]else[])=if(d:Int)∈(I5 s (i:Int)).take k then[(i:Int)]else[]:=by
    have:(d:Int)≠e:=by omega
    simp[this]
   rw[this]
 ·have h2:=(jc (I5 s (i:Int)) (fun(A:List (List Int)) e=>A.set e.toNat (A.getD e.toNat []++[(i:Int)])) (fun b k=>(b,k)) (fun b=>b) (fun k A=>A=(List.range s.2.2.2.1.length).map fun(e:Nat)=>castL (eX s (e:Int) i)++(if(e:Int)∈(I5 s (i:Int)).take k then[(i:Int)]else[])) (f:=f) (b:=rE s i) (by omega) (by simp[rE]) (fun k e A he hk hA=>by
   have hlt:=(O7.1 he).1
   have her:=qM (fO he)
   have hst:(I5 s (i:Int)).take (k+1)=(I5 s (i:Int)).take k++[e]:=by rw[List.take_succ_eq_append_getElem hlt,(O7.1 he).2]
   have hnot:e∉(I5 s (i:Int)).take k:=fun hx=>by
    obtain⟨j,hj,hq⟩:=List.getElem_of_mem hx
    simp only[List.length_take]at hj
    have h3:=List.pairwise_iff_getElem.1 hsi j k (by omega) hlt (by omega)
    rw[List.getElem_take]at hq
    have h4:=(O7.1 he).2
    omega
   have hlA:A.length=s.2.2.2.1.length:=by rw[hA];simp
   have hg:A[e.toNat]? =some (castL (eX s e i)):=by
    rw[hA,tJ _ _ (show e.toNat<s.2.2.2.1.length by omega),Int.toNat_of_nonneg her.1,if_neg hnot,List.append_nil]
   have hul:(castL (eX s e i)).length≤i:=by rw[Bc];exact xO _ _
   rw[hin k e A he,show inb e (o8 A)=true from decide_eq_true ⟨her.1,by simp only[o8];omega⟩,o6,show J9 A (toN e)=some (castL (eX s e i))from hg,o7,kC _ (by omega),o7,o6,show Dh (toN e) (toN e)=true by simp[Dh],o6,o7,V6 (by omega)]
   rw[show A.getD e.toNat []=castL (eX s e i) by rw[oM,hg];rfl]
   refine⟨rfl,?_⟩
   rw[hA,IV]
   apply List.map_congr_left
   intro d hd
   rw[hst]
   by_cases hq:d=e.toNat
   ·subst hq
    rw[if_pos rfl,Int.toNat_of_nonneg her.1,if_pos (by simp)]
   ·rw[if_neg hq]
    have:(if(d:Int)∈(I5 s (i:Int)).take k++[e]then[(i:Int)]else[])=if(d:Int)∈(I5 s (i:Int)).take k then[(i:Int)]else[]:=by
     have:(d:Int)≠e:=by omega
     simp[this]
    rw[this]) (fun A hA=>hend A)).2
  rw[h2]
  unfold rE
  apply congrArg some
  apply List.map_congr_left
  intro d hd
  rw[WO,List.take_length]
theorem a1r {α β σ:Type} {o:Option α} {x:α} {K:α→Option (σ⊕β)} {Q:σ→Prop} (h:o=some x) (hk:∃s',K x=some (.inl s')∧Q s'):∃s',o5 o K=some (.inl s')∧Q s' :=by
 rw[h];exact hk
structure IInv (s:A8) (i:Nat) (U:List (List Int)) (W H:List Int):Prop where
 u:U=rE s i
 w:W=pd ((List.range i).map fun(d:Nat)=>((I5 s (d:Int)).length:Int)) (s.2.2.2.1.length -i)
 hp:yO H H.length
 hnd:H.Nodup
 hm:∀d,d∈H↔0≤d∧d<(i:Int)∧I5 s d=[]
 hl:H.length≤i
theorem a2r {s:A8} (hs:SmS s):iD s=some (rf s):=by
 have hn:nD s=((s.2.2.2.1.length:Nat):Int):=rfl
 have hnd:=hs.nd
 unfold iD
 rw[wY hs,o7]
 have hAl:o8 ((List.range s.2.2.2.1.length).map fun(d:Nat)=>I5 s (d:Int))=((s.2.2.2.1.length:Nat):Int):=by simp[o8]
 have hAg:∀i,i<s.2.2.2.1.length→((List.range s.2.2.2.1.length).map fun(d:Nat)=>I5 s (d:Int))[i]? =some (I5 s (i:Int)):=fun i hi=>tJ _ _ hi
 generalize (List.range s.2.2.2.1.length).map (fun(d:Nat)=>I5 s (d:Int))=A at*
 rw[hAl,show jg ((s.2.2.2.1.length:Nat):Int) ([]:List Int)=some (rE s 0) by
  unfold jg rE eX onL castL;rw[if_pos (by omega)];simp[List.map_const'],o7,show jg ((s.2.2.2.1.length:Nat):Int) (0:Int)=some (pd ((List.range 0).map fun(d:Nat)=>((I5 s (d:Int)).length:Int)) (s.2.2.2.1.length -0)) by
  unfold jg pd;rw[if_pos (by omega)];simp,o7]
 obtain⟨e,k1,k2⟩:=Z9 (f:=fun(x_3:List (List Int)×List Int×List Int×Int)=>l7 (ilt x_3.2.2.2 ((s.2.2.2.1.length:Nat):Int)) (o5 (lat A x_3.2.2.2) fun(x:List Int)=>o5 (lat x_3.2.1 x_3.2.2.2) fun(x_4:Int)=>o5 (J9 x_3.2.1 (toN x_3.2.2.2)) fun(x_5:Int)=>
   o5 (U9 (fun(x_6:List (List Int)×Int)=>l7 (ilt x_6.2 (o8 x)) (o5 (lat x x_6.2) fun(x:Int)=>l7 (inb x (o8 x_6.1)) (o5 (J9 x_6.1 (toN x)) fun(x_7:List Int)=>o5 (cO x_7 [x_3.2.2.2]) fun(x_8:List Int)=>l7 (inb x (o8 x_6.1)) (l7 (Dh (toN x) (toN x)) (o5 (J9 x_6.1 (toN x)) fun(x_9:List Int)=>some (.inl (P8 x_6.1 (toN x) x_8,x9 .i64 x_6.2 1))) none) none) none) (some (.inr x_6.1))) (x_3.1,0)) fun(y:List (List Int))=>
   l7 (ieq (o8 x) 0) (o5 (Y3 x_3.2.2.1 x_3.2.2.2) fun(x_6:List Int)=>some (.inl (y,P8 x_3.2.1 (toN x_3.2.2.2) (o8 x),x_6,x9 .i64 x_3.2.2.2 1))) (some (.inl (y,P8 x_3.2.1 (toN x_3.2.2.2) (o8 x),x_3.2.2.1,x9 .i64 x_3.2.2.2 1)))) (some (.inr (x_3.1,x_3.2.1,x_3.2.2.1))))
  (s:=(rE s 0,pd ((List.range 0).map fun(d:Nat)=>((I5 s (d:Int)).length:Int)) (s.2.2.2.1.length -0),[],0)) (fun x=>∃(i:Nat) (U:List (List Int)) (W H:List Int),x=(U,W,H,(i:Int))∧i≤s.2.2.2.1.length∧IInv s i U W H) (fun y=>IInv s s.2.2.2.1.length y.1 y.2.1 y.2.2) (fun x=>s.2.2.2.1.length -x.2.2.2.toNat)
  ⟨0,_,_,_,rfl,by omega,rfl,rfl,fun k k0 k1=>by simp at k1,by simp,fun d=>by simp;omega,by simp⟩ (by simp;omega) (by
  rintro x ⟨i,U,W,H,rfl,hi,hI⟩
  by_cases hlt:i<s.2.2.2.1.length
  ·left
   obtain⟨m,hm⟩:∃m,s.2.2.2.1.length -i=m+1:=⟨s.2.2.2.1.length -i -1,by omega⟩
   have hlen:((List.range i).map fun(d:Nat)=>((I5 s (d:Int)).length:Int)).length=i:=by simp
   have q1:=Ql ((List.range i).map fun(d:Nat)=>((I5 s (d:Int)).length:Int)) m
   have q2:=Qm ((List.range i).map fun(d:Nat)=>((I5 s (d:Int)).length:Int)) m
   have q3:=VJ ((List.range i).map fun(d:Nat)=>((I5 s (d:Int)).length:Int)) m (o8 (I5 s (i:Int)))
   rw[hlen]at q1 q2 q3
   have hW:=hI.w
   rw[hm]at hW
   have hl14:=hI.hl
   have hus:=WM hs i hlt (f:=fun(x_6:List (List Int)×Int)=>l7 (ilt x_6.2 (o8 (I5 s (i:Int)))) (o5 (lat (I5 s (i:Int)) x_6.2) fun(x:Int)=>l7 (inb x (o8 x_6.1)) (o5 (J9 x_6.1 (toN x)) fun(x_7:List Int)=>o5 (cO x_7 [(i:Int)]) fun(x_8:List Int)=>l7 (inb x (o8 x_6.1)) (l7 (Dh (toN x) (toN x)) (o5 (J9 x_6.1 (toN x)) fun(x_9:List Int)=>some (.inl (P8 x_6.1 (toN x) x_8,x9 .i64 x_6.2 1))) none) none) none) (some (.inr x_6.1)))
    (fun k e A he=>by simp only[H9 he,o6,F9,he,o7]) (fun A=>by simp only[H8];rfl)
   simp only
   rw[E9 (by omega),o6,F9,hAg i hlt,o7,hW,q1,o7,q2,o7,hI.u]
   refine a1r hus ?_
   rw[q3,V6 (by omega)]
   have hwn:pd ((List.range i).map (fun(d:Nat)=>((I5 s (d:Int)).length:Int))++[o8 (I5 s (i:Int))]) m=pd ((List.range (i+1)).map fun(d:Nat)=>((I5 s (d:Int)).length:Int)) (s.2.2.2.1.length -(i+1)):=by
    rw[List.range_succ,List.map_append,show s.2.2.2.1.length -(i+1)=m by omega];rfl
   rw[hwn]
   by_cases hz:(I5 s (i:Int)).length=0
   ·obtain⟨H',b1,b2,b3⟩:=Og (l:=H) (by omega) hI.hp (i:Int)
    have hnil:=List.length_eq_zero_iff.1 hz
    rw[F5 (by simp[o8,hz]),o6,b1,o7]
    have hni:(i:Int)∉H:=fun hx=>by have:=(hI.hm _).1 hx;omega
    refine⟨_,rfl,⟨i+1,_,_,_,rfl,hlt,rfl,rfl,b2,?_,fun d=>?_,by rw[b3.length_eq];simp;omega⟩,by simp;omega⟩
    ·rw[b3.nodup_iff]
     exact List.nodup_append.2 ⟨hI.hnd,by simp,fun a ha b hb=>by simp at hb;subst hb;intro hq;subst hq;exact hni ha⟩
    ·rw[b3.mem_iff,List.mem_append,hI.hm,List.mem_singleton]
     constructor
     ·rintro(⟨h1,h2,h3⟩ | h)
      ·exact⟨h1,by omega,h3⟩
      ·subst h;exact⟨by omega,by omega,hnil⟩
     ·rintro⟨h1,h2,h3⟩
      by_cases hq:d=(i:Int)
      ·exact .inr hq
      ·exact .inl ⟨h1,by omega,h3⟩
   ·rw[D8 (by simp only[o8];omega),l9]
    refine⟨_,rfl,⟨i+1,_,_,_,rfl,hlt,rfl,rfl,hI.hp,hI.hnd,fun d=>?_,by omega⟩,by simp;omega⟩
    rw[hI.hm]
    constructor
    ·rintro⟨h1,h2,h3⟩;exact⟨h1,by omega,h3⟩
    ·rintro⟨h1,h2,h3⟩
     refine⟨h1,?_,h3⟩
     by_cases hq:d=(i:Int)
     ·subst hq;rw[h3]at hz;exact absurd rfl hz
     ·omega
  ·right
   have:i=s.2.2.2.1.length:=by omega
   subst this
   exact⟨(U,W,H),by simp only[D9 (show((s.2.2.2.1.length:Nat):Int)≤((s.2.2.2.1.length:Nat):Int) by omega)];rfl,hI⟩)
 refine(iL k1 _).trans ?_
 obtain⟨U,W,H⟩:=e
 simp only at k2 ⊢
 have hwd:∀d,0≤d→d<nD s→hw W d=((I5 s d).length:Int):=fun d d0 d1=>by
  have hd:d.toNat<s.2.2.2.1.length:=by omega
  rw[k2.w,Nat.sub_self]
  unfold hw pd
  rw[oM,List.replicate_zero,List.append_nil,tJ _ _ hd,Int.toNat_of_nonneg d0];rfl
 have hK:KInv s [] W H:=by
  refine⟨by simp,by simp,by simp,by rw[k2.w];simp[pd],fun d d0 d1=>?_,k2.hp,k2.hnd,fun d=>?_⟩
  ·rw[hwd d d0 d1]
   have:Hf s [] d=I5 s d:=List.filter_eq_self.2 fun a _=>rfl
   rw[this]
  ·rw[k2.hm]
   constructor
   ·rintro⟨h1,h2,h3⟩;exact⟨h1,by omega,by simp,by rw[hwd d h1 (by omega),h3];rfl⟩
   ·rintro⟨h1,h2,_,h4⟩
    rw[hwd d h1 h2]at h4
    exact⟨h1,by omega,List.length_eq_zero_iff.1 (by omega)⟩
 have hU:=k2.u
 subst hU
 have hlatU:∀m:Nat,m<s.2.2.2.1.length→lat (rE s s.2.2.2.1.length) (m:Int)=some (castL (eX s (m:Int) s.2.2.2.1.length)):=fun m hm=>by
  rw[F9];exact tJ _ _ hm
 have key:∀(k j:Nat) (O W H:List Int),KInv s O W H→s.2.2.2.1.length -O.length<k→k≤j→∃y,jb (fun(x:List (List Int)×dh)=>o5 (bU x.2.2.1) fun(x_3:Int)=>l7 (ilt 0 x_3) (o5 (gB x.2.2.1) fun(x_4:Int×List Int)=>o5 (cO x.2.2.2 [x_4.1]) fun(x_5:List Int)=>o5 (lat x.1 x_4.1) fun(x_6:List Int)=>
   o5 (U9 (fun(x:List Int×List Int×Int)=>l7 (ilt x.2.2 (o8 x_6)) (o5 (lat x_6 x.2.2) fun(x_7:Int)=>o5 (lat x.1 x_7) fun(x_8:Int)=>o5 (J9 x.1 (toN x_7)) fun(x_9:Int)=>o5 (lat x.1 x_7) fun(x_10:Int)=>o5 (J9 x.1 (toN x_7)) fun(x_11:Int)=>o5 (lat (P8 x.1 (toN x_7) (G8 .i64 x_9 1)) x_7) fun(x_12:Int)=>o5 (J9 (P8 x.1 (toN x_7) (G8 .i64 x_9 1)) (toN x_7)) fun(x_13:Int)=>
     l7 (ieq x_13 0) (o5 (Y3 x.2.1 x_7) fun(x_14:List Int)=>some (.inl (P8 x.1 (toN x_7) (G8 .i64 x_9 1),x_14,x9 .i64 x.2.2 1))) (some (.inl (P8 x.1 (toN x_7) (G8 .i64 x_9 1),x.2.1,x9 .i64 x.2.2 1)))) (some (.inr (x.1,x.2.1)))) (x.2.1,x_4.2,0)) fun(y:List Int×List Int)=>some (.inl (x.1,y.1,y.2,x_5))) (some (.inr x.2.2.2))) j (rE s s.2.2.2.1.length,W,H,O)=some y∧Qi s k O=(if y.length<s.2.2.2.1.length then .inr ([],9)else .inl y):=by
  intro k
  induction k with
  | zero=>intro j O W H hK hk;omega
  | succ k ih=>
   intro j O W H hK hk hj
   obtain⟨j,rfl⟩:∃j',j=j' +1:=⟨j -1,by omega⟩
   rw[jb]
   simp only[bU,o7]
   cases H with
   | nil=>
    refine⟨O,rfl,?_⟩
    unfold Qi
    rw[hK.next_none]
   | cons h0 H=>
    generalize hHH:h0::H=HH at*
    have hpos:0<HH.length:=by rw[←hHH];simp
    obtain⟨m,hm1,hm2,hm3,hm4⟩:=hK.next_some hpos
    have hHl:HH.length≤14:=Nat.le_trans (OI (n:=s.2.2.2.1.length) hK.hnd fun x hx=>by have:=(hK.hm x).1 hx;omega) hnd
    obtain⟨R,r1,r2,r3⟩:=a1y (l:=HH) (by omega) hK.hp hpos
    rw[hm1]at r1 r3
    have hRl:R.length≤14:=by have:=r3.length_eq;simp at this;omega
    have hOl:O.length≤14:=by omega
    obtain⟨W',H',u1,u2⟩:=WN hs (W:=W) (H0:=R) (us:=castL (eX s (m:Int) s.2.2.2.1.length)) hK.wl (fun d d0 d1=>by
      have h1:=hK.w d d0 d1
      have h2:=List.length_filter_le (fun x=> !kY O x) (I5 s d)
      have h3:=JG hs d
      unfold Hf at h1
      omega) r2 (by omega) (Rk (a2h _ _)) (fun u hu=>by have:=yu.1 hu;omega)
     (f:=fun(x:List Int×List Int×Int)=>l7 (ilt x.2.2 (o8 (castL (eX s (m:Int) s.2.2.2.1.length)))) (o5 (lat (castL (eX s (m:Int) s.2.2.2.1.length)) x.2.2) fun(x_7:Int)=>o5 (lat x.1 x_7) fun(x_8:Int)=>o5 (J9 x.1 (toN x_7)) fun(x_9:Int)=>o5 (lat x.1 x_7) fun(x_10:Int)=>o5 (J9 x.1 (toN x_7)) fun(x_11:Int)=>o5 (lat (P8 x.1 (toN x_7) (G8 .i64 x_9 1)) x_7) fun(x_12:Int)=>o5 (J9 (P8 x.1 (toN x_7) (G8 .i64 x_9 1)) (toN x_7)) fun(x_13:Int)=>
     l7 (ieq x_13 0) (o5 (Y3 x.2.1 x_7) fun(x_14:List Int)=>some (.inl (P8 x.1 (toN x_7) (G8 .i64 x_9 1),x_14,x9 .i64 x.2.2 1))) (some (.inl (P8 x.1 (toN x_7) (G8 .i64 x_9 1),x.2.1,x9 .i64 x.2.2 1)))) (some (.inr (x.1,x.2.1))))
     (fun i u A B hu=>by simp only[H9 hu,o6,F9 (castL (eX s (m:Int) s.2.2.2.1.length)),hu,o7]) (fun A B=>by simp only[H8];rfl)
    have hK2:=hK.step hpos hm1 r2 r3 u2
    obtain⟨y,y1,y2⟩:=ih j (O++[(m:Int)]) W' H' hK2 (by simp;omega) (by omega)
    refine⟨y,?_,?_⟩
    ·rw[E9 (show(0:Int)<o8 HH by simp only[o8];omega),o6,r1,o7,kC _ (by omega),o7,hlatU m hm3,o7,u1,o7]
     exact y1
    ·unfold Qi
     rw[if_pos hm4,hm2]
     exact y2
 obtain⟨y,y1,y2⟩:=key 100 dK [] W H hK (by simp;omega) (by unfold dK;omega)
 refine(iL y1 _).trans ?_
 unfold rf
 rw[y2]
 by_cases hl:y.length<s.2.2.2.1.length
 ·rw[if_pos hl,E9 (by simp only[o8];omega)];rfl
 ·rw[if_neg hl,D9 (by simp only[o8];omega)];rfl
end Go.GP
namespace Gt
open Go Go.GP
def il (y:Int):Bool:=if y % 4=0 then(if y % 100≠0 then true else decide (y % 400=0))else false
def ys (y:Int):Int:=(y -1900)*365+((y -1) / 4 -(y -1) / 100+(y -1) / 400) -460
def diy (y:Int):Int:=if il y then 366 else 365
theorem vW (y:Int):ys (y+1)=ys y+diy y:=by
 unfold ys diy il
 by_cases h4:y % 4=0 <;> by_cases h100:y % 100=0 <;> by_cases h400:y % 400=0 <;> simp[h4,h100,h400] <;> omega
theorem BJ (a b:Int):a<b∨b≤a:=by omega
theorem FK (y:Int):365≤diy y∧diy y≤366:=by unfold diy;split <;> omega
theorem iU {y y' :Int} (h:y≤y'):ys y≤ys y' :=by
 obtain⟨n,rfl⟩:∃n:Nat,y' =y+n:=⟨(y' -y).toNat,by omega⟩
 clear h
 induction n with
 | zero=>simp
 | succ n ih=>
  have:=vW (y+n)
  have:=FK (y+n)
  have e:y+((n+1:Nat):Int)=y+n+1:=by omega
  rw[e];omega
theorem BH {y:Int} (h:1900≤y):0≤ys y:=by
 have:=iU h
 have e:ys 1900=0:=by decide+kernel
 omega
theorem a0z {y y' d:Int} (h1:ys y≤d) (h2:d<ys (y+1)) (h3:ys y' ≤d) (h4:d<ys (y' +1)):y=y' :=by
 rcases Int.lt_trichotomy y y' with h | h | h
 ·have:=iU (y:=y+1) (y' :=y') (by omega);omega
 ·exact h
 ·have:=iU (y:=y' +1) (y' :=y) (by omega);omega
def dim (y m:Int):Int:=
 if m=2 then(if il y then 29 else 28)else if m=4∨m=6∨m=9∨m=11 then 30 else 31
theorem qL (y m:Int):28≤dim y m∧dim y m≤31:=by
 unfold dim;repeat' split
 all_goals omega
theorem zg {y:Int} (h:0≤y):vg y=some (il y):=by
 unfold vg il
 simp only[ny h]
 by_cases h4:y % 4=0
 ·rw[sV (F5 h4),if_pos h4]
  by_cases h100:y % 100=0
  ·simp[ieq,h100]
  ·simp[ieq,h100]
 ·rw[xf (D8 h4),if_neg h4]
theorem yF {y:Int} (h:0≤y):c5t y=some (il y):=zg h
theorem sU {y:Int} (h:0≤y):c4x y=some (diy y):=by
 unfold c4x diy
 rw[yF h,o7]
 cases il y <;> rfl
theorem m12 {m:Int} (h:1≤m∧m≤12):m=1∨m=2∨m=3∨m=4∨m=5∨m=6∨m=7∨m=8∨m=9∨m=10∨m=11∨m=12:=by omega
theorem ji {y m:Int} (h:0≤y) (hm:1≤m∧m≤12):aO y m=some (dim y m):=by
 unfold aO
 rcases m12 hm with rfl | rfl | rfl | rfl | rfl | rfl | rfl | rfl | rfl | rfl | rfl | rfl
 all_goals first | rfl | (rw[zg h];unfold dim;cases il y <;> rfl)
theorem iO {y m:Int} (h:0≤y) (hm:1≤m∧m≤12):c4p y m=some (dim y m):=by
 unfold c4p
 rcases m12 hm with rfl | rfl | rfl | rfl | rfl | rfl | rfl | rfl | rfl | rfl | rfl | rfl
 all_goals first | rfl | (rw[yF h];unfold dim;cases il y <;> rfl)
theorem vk {y:Int} (h:0≤y) (h2:y≤1000000):lw y=some (y / 4 -y / 100+y / 400):=by
 unfold lw
 simp only[az,aU h]
 rw[dB (by unfold I64;omega),dB (by unfold I64;omega),dB (by unfold I64;omega),H5 (by unfold I64;omega),I9 (by unfold I64;omega)]
theorem pJ {y:Int} (h:1≤y) (h2:y≤1000000):gG y=some (ys y):=by
 unfold gG
 have e1:G8 .i64 y 1900=y -1900:=H5 (by unfold I64;omega)
 have e2:U6 .i64 (y -1900) 365=(y -1900)*365:=di (by unfold I64;omega)
 rw[H5 (a:=y) (b:=1) (by unfold I64;omega),vk (by omega) (by omega),o7,vk (by omega) (by omega),o7,e1,e2,I9 (by unfold I64;omega),H5 (by unfold I64;omega)]
 unfold ys
 congr 1
def mo (y:Int):Nat→Int→Int×Int
 | 0,d=>(d,13)
 | n+1,d=>if d<dim y (12 -n)then(d,12 -n)else mo y n (d -dim y (12 -n))
theorem XK (y:Int) (n:Nat) (d:Int):mo y (n+1) d=if d<dim y (12 -(n:Int))then(d,12 -(n:Int))else mo y n (d -dim y (12 -(n:Int))):=rfl
def rem (y:Int):Nat→Int
 | 0=>0
 | n+1=>dim y (12 -n)+rem y n
theorem a3c (y:Int):rem y 12=diy y:=by
 unfold diy
 cases h:il y <;> simp[rem,dim,h]
theorem a1U (y:Int):∀(n:Nat) (d:Int),n≤12→0≤d→d<rem y n→1≤(mo y n d).2∧(mo y n d).2≤12∧0≤(mo y n d).1∧(mo y n d).1<dim y (mo y n d).2
 | 0,d,_,h0,h=>by simp[rem]at h;omega
 | n+1,d,hn,h0,h=>by
  unfold mo
  by_cases hd:d<dim y (12 -n)
  ·rw[if_pos hd];refine⟨?_,?_,h0,hd⟩ <;> simp <;> omega
  ·rw[if_neg hd]
   refine a1U y n _ (by omega) (by omega) ?_
   simp only[rem]at h;omega
def yOf (d:Int):Int:=((((List.range 300).find? (fun(k:Nat)=>decide (d<ys (1900+(k:Int)+1)))).getD 0:Nat):Int)+1900
theorem EZ {d:Int} (h0:0≤d) (h:d≤109572):1900≤yOf d∧yOf d≤2199∧ys (yOf d)≤d∧d<ys (yOf d+1):=by
 unfold yOf
 cases hf:(List.range 300).find? (fun(k:Nat)=>decide (d<ys (1900+(k:Int)+1)))with
 | none=>
  have:=List.find?_eq_none.1 hf 299 (by simp)
  simp only[decide_eq_true_eq]at this
  have e:ys (1900+(299:Nat)+1)=109573:=by decide+kernel
  omega
 | some k=>
  have h1:=List.find?_some hf
  simp only[decide_eq_true_eq]at h1
  have h2:=List.mem_of_find?_eq_some hf
  simp only[List.mem_range]at h2
  simp only[Option.getD_some]
  refine⟨by omega,by omega,?_,?_⟩
  ·cases k with
   | zero=>
    have e:ys 1900=0:=by decide+kernel
    simp[e,h0]
   | succ j=>
    have h3:=List.find?_range_eq_some.1 hf
    have h4:=h3.2.2 j (by omega)
    simp only[Bool.not_eq_true',decide_eq_false_iff_not,Int.not_lt]at h4
    have e:(((j+1:Nat):Int)+1900)=1900+(j:Int)+1:=by omega
    rw[e];exact h4
  ·have e:(k:Int)+1900+1=1900+k+1:=by omega
   rw[e];exact h1
def ymd (d:Int):Int×Int×Int:=let y:=yOf d;let r:=mo y 12 (d -ys y);(y,r.2,r.1+1)
theorem rF {d:Int} (h0:0≤d) (h:d≤109572):lu d=some (ymd d):=by
 obtain⟨y1,y2,y3,y4⟩:=EZ h0 h
 have y0:=BH y1
 unfold lu lC
 rw[sV (F7 h0),o7,F7 h,o9,l9]
 have e0:x9 .i64 1900 (az .i64 d 366)=1900+d / 366:=by
  have e:az .i64 d 366=d / 366:=by rw[pX (by rw[aU h0];unfold I64;omega),aU h0]
  rw[e,I9 (by unfold I64;omega)]
 rw[e0]
 obtain⟨y,hy,hq⟩:=Z9 (f:=fun(x:Int)=>o5 (gG (x9 IntKind.i64 x 1)) fun(x_1:Int)=>l7 (ile x_1 d) (some (Sum.inl (x9 IntKind.i64 x 1))) (some (Sum.inr x))) (s:=1900+d / 366)
  (fun y=>1900≤y∧y≤yOf d) (fun y=>y=yOf d) (fun y=>(2200 -y).toNat) (by
   refine⟨by omega,?_⟩
   have e:∀n:Nat,ys (1900+n)≤366*n:=by
    intro n
    induction n with
    | zero=>decide+kernel
    | succ n ih=>
     have:=vW (1900+n)
     have:=FK (1900+n)
     have e:(1900:Int)+((n+1:Nat):Int)=1900+n+1:=by omega
     rw[e];omega
   have e1:=e (d / 366).toNat
   have e2:((d / 366).toNat:Int)=d / 366:=by omega
   rw[e2]at e1
   rcases BJ (yOf d) (1900+d / 366)with hlt | hge
   ·have:=iU (y:=yOf d+1) (y' :=1900+d / 366) (by omega)
    omega
   ·exact hge) (by omega) (by
   intro y ⟨hy1,hy2⟩
   try simp only
   rw[I9 (by unfold I64;omega),pJ (by omega) (by omega),o7]
   by_cases hle:ys (y+1)≤d
   ·refine .inl ⟨y+1,by rw[sV (F7 hle)],⟨by omega,?_⟩,by omega⟩
    rcases BJ (yOf d) (y+1)with hlt | hge
    ·have:=iU (y:=yOf d+1) (y' :=y+1) (by omega)
     omega
    ·exact hge
   ·refine .inr ⟨y,by rw[xf (F8 (by omega))],?_⟩
    rcases BJ y (yOf d)with hlt | hge
    ·have:=iU (y:=y+1) (y' :=yOf d) (by omega)
     omega
    ·omega)
 rw[hy,o7,hq,pJ (by omega) (by omega),o7,H5 (by unfold I64;omega)]
 have hs:=vW (yOf d)
 have hr:=a3c (yOf d)
 rcases uD (f:=fun(x:Int×Int)=>l7 (ilt x.2 12) (o5 (aO (yOf d) (x9 IntKind.i64 x.2 1)) fun(x_1:Int)=>l7 (ilt x.1 x_1) (some (Out.rt (yOf d,x9 IntKind.i64 x.2 1,x9 IntKind.i64 x.1 1))) (some (Out.nx (G8 IntKind.i64 x.1 x_1,x9 IntKind.i64 x.2 1)))) (some (Out.ex PUnit.unit))) (s:=(d -ys (yOf d),0))
  (fun s=>∃n:Nat,n≤12∧s.2=12 -n∧mo (yOf d) n s.1=mo (yOf d) 12 (d -ys (yOf d))∧0≤s.1∧s.1<rem (yOf d) n∧s.1≤400) (fun _=>False) (fun r=>r=ymd d) (fun s=>(12 -s.2).toNat)
  ⟨12,by omega,by simp,rfl,by omega,by rw[hr];show d -ys (yOf d)<_;omega,by have:=FK (yOf d);show d -ys (yOf d)≤400;omega⟩ (by simp) (by
   rintro⟨r,i⟩ ⟨n,hn,hi,hm,hr0,hrn,hr4⟩
   simp only at hi hm hr0 hrn hr4 ⊢
   cases n with
   | zero=>simp[rem]at hrn;omega
   | succ n=>
    have ei:i+1=12 -n:=by omega
    rw[sV (E9 (by omega)),I9 (by unfold I64;omega),ei,ji (by omega) (by omega),o7]
    have hb:=qL (yOf d) (12 -n)
    rw[XK (yOf d) n r]at hm
    by_cases hlt:r<dim (yOf d) (12 -n)
    ·rw[if_pos hlt]at hm
     refine .inr (.inr ⟨_,by rw[sV (E9 hlt)],?_⟩)
     rw[I9 (by unfold I64;omega)]
     unfold ymd
     try simp only
     rw[←hm]
    ·rw[if_neg hlt]at hm
     refine .inl ⟨_,by rw[xf (D9 (by omega)),H5 (by unfold I64;omega)],⟨n,by omega,by simp,hm,?_,?_,?_⟩,?_⟩
     ·simp;omega
     ·simp only[rem]at hrn ⊢;omega
     ·simp;omega
     ·simp;omega)with⟨_,_,hf⟩ | ⟨r,he,hr⟩
 ·exact hf.elim
 ·rw[he,o7,G5,hr]
theorem zY {d:Int} (h0:0≤d) (h:d≤109572):c5h d=some (ymd d):=by
 obtain⟨y1,y2,y3,y4⟩:=EZ h0 h
 have y0:=BH y1
 unfold c5h c4O
 rw[sV (F7 h0),o7,F7 h,o9,l9]
 obtain⟨⟨r,y⟩,hy,hq⟩:=Z9 (f:=fun(x:Int×Int)=>o5 (c4x x.2) fun(x_1:Int)=>l7 (ile x_1 x.1) (o5 (c4x x.2) fun(x_2:Int)=>some (Sum.inl (G8 IntKind.i64 x.1 x_2,x9 IntKind.i64 x.2 1))) (some (Sum.inr x))) (s:=(d,1900))
  (fun s=>1900≤s.2∧s.2≤yOf d∧s.1=d -ys s.2) (fun s=>s=(d -ys (yOf d),yOf d)) (fun s=>(2200 -s.2).toNat)
  ⟨by simp,by simpa using y1,by(have e:ys 1900=0:=by decide+kernel);simp[e]⟩ (by simp) (by
   rintro⟨r,y⟩ ⟨h1,h2,h3⟩
   simp only at h1 h2 h3 ⊢
   have hb:=FK y
   have hs:=vW y
   have hm:=iU h2
   have hpos:0≤ys y:=by
     have:=iU (y:=1900) (y' :=y) h1;have e:ys 1900=0:=by decide+kernel
     omega
   rw[sU (by omega),o7]
   by_cases hle:diy y≤r
   ·refine .inl ⟨(r -diy y,y+1),?_,⟨by simp;omega,?_,?_⟩,?_⟩
    ·rw[sV (F7 hle),o7,H5 (by unfold I64;omega),I9 (by unfold I64;omega)]
    ·simp only
     rcases BJ (yOf d) (y+1)with hlt | hge
     ·have:=iU (y:=yOf d+1) (y' :=y+1) (by omega)
      omega
     ·exact hge
    ·simp only;omega
    ·simp;omega
   ·refine .inr ⟨_,by rw[xf (F8 (by omega))],?_⟩
    have e:y=yOf d:=a0z (d:=d) (by omega) (by omega) y3 y4
    subst e
    rw[h3])
 rw[hy,o7,hq]
 try simp only
 have hs:=vW (yOf d)
 have hr:=a3c (yOf d)
 obtain⟨⟨r,m⟩,he,hq2⟩:=Z9 (f:=fun(x:Int×Int)=>o5 (c4p (yOf d) x.2) fun(x_1:Int)=>l7 (ile x_1 x.1) (o5 (c4p (yOf d) x.2) fun(x_2:Int)=>some (Sum.inl (G8 IntKind.i64 x.1 x_2,x9 IntKind.i64 x.2 1))) (some (Sum.inr x))) (s:=(d -ys (yOf d),1))
  (fun s=>∃n:Nat,n≤12∧s.2=13 -n∧mo (yOf d) n s.1=mo (yOf d) 12 (d -ys (yOf d))∧0≤s.1∧s.1<rem (yOf d) n∧s.1≤400) (fun s=>s=mo (yOf d) 12 (d -ys (yOf d))) (fun s=>(13 -s.2).toNat)
  ⟨12,by omega,by simp,rfl,by omega,by rw[hr];show d -ys (yOf d)<_;omega,by have:=FK (yOf d);show d -ys (yOf d)≤400;omega⟩ (by simp) (by
   rintro⟨r,i⟩ ⟨n,hn,hi,hm,hr0,hrn,hr4⟩
   simp only at hi hm hr0 hrn hr4 ⊢
   cases n with
   | zero=>simp[rem]at hrn;omega
   | succ n=>
    have ei:i=12 -n:=by omega
    subst ei
    rw[iO (by omega) (by omega),o7]
    have hb:=qL (yOf d) (12 -n)
    rw[XK (yOf d) n r]at hm
    by_cases hlt:r<dim (yOf d) (12 -n)
    ·rw[if_pos hlt]at hm
     exact .inr ⟨_,by rw[xf (F8 (by omega))],hm⟩
    ·rw[if_neg hlt]at hm
     refine .inl ⟨(r -dim (yOf d) (12 -n),12 -n+1),by rw[sV (F7 (by omega)),o7,H5 (by unfold I64;omega),I9 (by unfold I64;omega)],⟨n,by omega,by simp;omega,hm,?_,?_,?_⟩,?_⟩
     ·simp;omega
     ·simp only[rem]at hrn ⊢;omega
     ·simp;omega
     ·simp;omega)
 rw[he,o7,hq2]
 have hb:=a1U (yOf d) 12 (d -ys (yOf d)) (by omega) (by omega) (by rw[hr];omega)
 have hb2:=qL (yOf d) (mo (yOf d) 12 (d -ys (yOf d))).2
 rw[I9 (by unfold I64;omega)]
 rfl
theorem AP {d:Int} (h0:0≤d) (h:d≤109572):1900≤(ymd d).1∧(ymd d).1≤2199∧1≤(ymd d).2.1∧(ymd d).2.1≤12∧1≤(ymd d).2.2∧(ymd d).2.2≤31:=by
 obtain⟨y1,y2,y3,y4⟩:=EZ h0 h
 have y0:=BH y1
 have hs:=vW (yOf d)
 have hb:=a1U (yOf d) 12 (d -ys (yOf d)) (by omega) (by omega) (by rw[a3c];omega)
 have hb2:=qL (yOf d) (mo (yOf d) 12 (d -ys (yOf d))).2
 unfold ymd
 try simp only
 omega
end Gt
namespace Go.GP
open Gt
set_option maxRecDepth 100000
def jT (y:Int):Nat→Int
 | 0=>0
 | k+1=>jT y k+dim y ((k:Int)+1)
def Ry (y m d:Int):Int:=ys y+jT y (m -1).toNat+d -1
theorem Ej (y:Int):∀k:Nat,k≤12→28*k≤jT y k∧jT y k≤31*k
 | 0,_=>by simp[jT]
 | k+1,h=>by
  have:=Ej y k (by omega)
  have:=qL y ((k:Int)+1)
  unfold jT;omega
theorem ZH (y:Int):jT y 12=diy y:=by
 unfold jT jT jT jT jT jT jT jT jT jT jT jT jT dim diy
 simp
 cases il y <;> simp
theorem XL (y:Int):∀j k:Nat,j≤k→jT y j≤jT y k
 | j,0,h=>by
   have:j=0:=by omega
   subst this;omega
 | j,k+1,h=>by
  by_cases hq:j=k+1
  ·subst hq;omega
  ·have:=XL y j k (by omega)
   have:=qL y ((k:Int)+1)
   show jT y j≤jT y k+dim y ((k:Int)+1)
   omega
theorem a5B {y m d:Int} (hm:1≤m∧m≤12) (h1:1≤d) (h2:d≤dim y m):ys y≤Ry y m d∧Ry y m d<ys (y+1):=by
 have h3:=XL y ((m -1).toNat+1) 12 (by omega)
 rw[ZH]at h3
 have h4:jT y ((m -1).toNat+1)=jT y (m -1).toNat+dim y m:=by
  show jT y (m -1).toNat+dim y (((m -1).toNat:Int)+1)=_
  rw[Int.toNat_of_nonneg (by omega)]
  congr 2;omega
 have h5:=Ej y (m -1).toNat (by omega)
 have h6:=vW y
 unfold Ry
 omega
theorem a4W {y:Int} (h:1900≤y) (h2:y≤2200):0≤ys y∧ys y≤109573:=by
 have h1:=BH h
 have h3:=iU h2
 have:ys 2200=109573:=by decide
 omega
theorem Vh {y m d:Int} (hy:1900≤y∧y≤2199) (hm:1≤m∧m≤12) (h1:1≤d) (h2:d≤dim y m):sW y m d=some (Ry y m d,0):=by
 have hyb:=a4W hy.1 (by omega)
 have hdb:=qL y m
 unfold sW
 rw[D9 hy.1,l9,D9 hy.2,l9,D9 hm.1,l9,D9 hm.2,l9,D9 h1,l9,ji (by omega) hm,o7,D9 h2,l9,o7,D7,pJ (by omega) (by omega),o7]
 have hs:G8 .i64 m 1=m -1:=H5 (by unfold I64;omega)
 obtain⟨e,k1,k2⟩:=Z9 (f:=fun(x:Int×Int)=>l7 (ilt x.2 (G8 .i64 m 1)) (o5 (aO y (x9 .i64 x.2 1)) fun(x_1:Int)=>some (.inl (x9 .i64 x.1 x_1,x9 .i64 x.2 1))) (some (.inr x.1)))
  (s:=(ys y,0)) (fun x=>∃i:Nat,x=(ys y+jT y i,(i:Int))∧(i:Int)≤m -1) (fun e=>e=ys y+jT y (m -1).toNat) (fun x=>(m -1 -x.2).toNat) ⟨0,by simp[jT],by omega⟩ (by simp;omega) (by
  rintro x ⟨i,rfl,hi⟩
  simp only[hs]
  by_cases hlt:(i:Int)<m -1
  ·have hb:=Ej y i (by omega)
   have hd:=qL y ((i:Int)+1)
   left
   refine⟨(ys y+jT y (i+1),((i+1:Nat):Int)),?_,⟨i+1,rfl,by omega⟩,by simp;omega⟩
   rw[E9 hlt,o6,V6 (by omega),show(((i+1:Nat):Int))=(i:Int)+1 by omega,ji (by omega) (by omega),o7,I9 (by unfold I64;omega)]
   simp only[jT]
   rw[Int.add_assoc]
  ·right
   have:i=(m -1).toNat:=by omega
   subst this
   exact⟨_,by rw[D9 (by omega)];rfl,rfl⟩)
 refine(iL k1 _).trans ?_
 have hb:=Ej y (m -1).toNat (by omega)
 rw[k2,I9 (by unfold I64;omega),H5 (by unfold I64;omega)];rfl
theorem TF {y m d:Int} (hy:1900≤y∧y≤2199) (hm:1≤m∧m≤12) (h1:1≤d) (h2:d≤dim y m):c4R y m d=some (Ry y m d,0):=by
 have hyb:=a4W hy.1 (by omega)
 have hdb:=qL y m
 unfold c4R
 rw[D9 hy.1,l9,D9 hy.2,l9,D9 h1,l9,iO (by omega) hm,o7,D9 h2,l9,o7,D7,H5 (by unfold I64;omega)]
 obtain⟨e,k1,k2⟩:=Z9 (f:=fun(x:Int×Int)=>l7 (ilt x.2 y) (o5 (c4x x.2) fun(x_1:Int)=>some (.inl (x9 .i64 x.1 x_1,x9 .i64 x.2 1))) (some (.inr x.1)))
  (s:=(d -1,1900)) (fun x=>∃i:Int,x=(d -1+ys i,i)∧1900≤i∧i≤y) (fun e=>e=d -1+ys y) (fun x=>(y -x.2).toNat) ⟨1900,by simp[show ys 1900=0 by decide],by omega,by omega⟩ (by simp;omega) (by
  rintro x ⟨i,rfl,hi,hi2⟩
  by_cases hlt:i<y
  ·left
   have hb:=a4W hi (by omega)
   have hd:=FK i
   refine⟨(d -1+ys (i+1),i+1),?_,⟨i+1,rfl,by omega,by omega⟩,by simp;omega⟩
   simp only
   rw[E9 hlt,o6,sU (by omega),o7,I9 (by unfold I64;omega),I9 (by unfold I64;omega),vW,Int.add_assoc]
  ·right
   have:i=y:=by omega
   subst this
   exact⟨_,by simp only[D9 (show i≤i by omega)];rfl,rfl⟩)
 refine(iL k1 _).trans ?_
 subst k2
 obtain⟨e,k1,k2⟩:=Z9 (f:=fun(x:Int×Int)=>l7 (ilt x.2 m) (o5 (c4p y x.2) fun(x_1:Int)=>some (.inl (x9 .i64 x.1 x_1,x9 .i64 x.2 1))) (some (.inr x.1)))
  (s:=(d -1+ys y,1)) (fun x=>∃i:Nat,x=(d -1+ys y+jT y i,(i:Int)+1)∧(i:Int)≤m -1) (fun e=>e=d -1+ys y+jT y (m -1).toNat) (fun x=>(m -x.2).toNat) ⟨0,by simp[jT],by omega⟩ (by simp;omega) (by
  rintro x ⟨i,rfl,hi⟩
  by_cases hlt:(i:Int)+1<m
  ·have hb:=Ej y i (by omega)
   have hd:=qL y ((i:Int)+1)
   left
   refine⟨(d -1+ys y+jT y (i+1),((i+1:Nat):Int)+1),?_,⟨i+1,rfl,by omega⟩,by simp;omega⟩
   simp only
   rw[E9 hlt,o6,iO (by omega) (by omega),o7,I9 (by unfold I64;omega),I9 (by unfold I64;omega)]
   simp only[jT]
   rw[Int.add_assoc (d -1+ys y)];simp
  ·right
   have:i=(m -1).toNat:=by omega
   subst this
   exact⟨_,by simp only[D9 (show m≤((m -1).toNat:Int)+1 by omega)];rfl,rfl⟩)
 refine(iL k1 _).trans ?_
 rw[k2];unfold Ry
 rw[show d -1+ys y+jT y (m -1).toNat=ys y+jT y (m -1).toNat+d -1 by omega]
def YW (d n:Int):Int×Int:=
 if ¬(0≤d∧d≤109572)∨n< -3600∨3600<n then(0,3)else
  if((ymd d).1 -1900)*12+(ymd d).2.1 -1+n<0∨3599<((ymd d).1 -1900)*12+(ymd d).2.1 -1+n then(0,3)else
   (Ry (1900+(((ymd d).1 -1900)*12+(ymd d).2.1 -1+n) / 12) ((((ymd d).1 -1900)*12+(ymd d).2.1 -1+n) % 12+1) (jM (ymd d).2.2 (dim (1900+(((ymd d).1 -1900)*12+(ymd d).2.1 -1+n) / 12) ((((ymd d).1 -1900)*12+(ymd d).2.1 -1+n) % 12+1))),0)
theorem Bh (a b:Int):jM a b=if b<a then b else a:=rfl
theorem Dz (d n:Int):jv d n=some (YW d n):=by
 unfold jv lC YW
 by_cases h0:0≤d∧d≤109572
 case neg=>
  rw[if_pos (.inl h0)]
  by_cases h1:0≤d
  ·rw[F7 h1,F8 (by omega)];rfl
  ·rw[F8 (by omega)];rfl
 rw[F7 h0.1,F7 h0.2,o6,o7,o9,l9]
 by_cases h1:n< -3600
 ·rw[E9 h1,if_pos (.inr (.inl h1))];rfl
 by_cases h2:3600<n
 ·rw[D9 (by omega),E9 h2,if_pos (.inr (.inr h2))];rfl
 rw[D9 (by omega),D9 (by omega),if_neg (by omega),l9,l9,o7,D7,rF h0.1 h0.2,o7]
 obtain⟨b1,b2,b3,b4,b5,b6⟩:=AP h0.1 h0.2
 generalize ymd d=q at*
 obtain⟨y,m,dd⟩:=q
 simp only at b1 b2 b3 b4 b5 b6 ⊢
 have e1:G8 .i64 y 1900=y -1900:=H5 (by unfold I64;omega)
 have e2:U6 .i64 (y -1900) 12=(y -1900)*12:=di (by unfold I64;omega)
 have e3:x9 .i64 ((y -1900)*12) m=(y -1900)*12+m:=I9 (by unfold I64;omega)
 have e4:G8 .i64 ((y -1900)*12+m) 1=(y -1900)*12+m -1:=H5 (by unfold I64;omega)
 have e5:x9 .i64 ((y -1900)*12+m -1) n=(y -1900)*12+m -1+n:=I9 (by unfold I64;omega)
 rw[e1,e2,e3,e4,e5]
 generalize ht:(y -1900)*12+m -1+n=t
 by_cases t0:t<0
 ·rw[E9 t0,if_pos (.inl t0)];rfl
 by_cases t1:3599<t
 ·rw[D9 (by omega),E9 t1,if_pos (.inr t1)];rfl
 rw[D9 (by omega),D9 (by omega),if_neg (by omega),l9,l9]
 have e6:az .i64 t 12=t / 12:=by rw[pX (by rw[aU (by omega)];unfold I64;omega),aU (by omega)]
 have e7:dH t 12=t % 12:=ny (by omega)
 have e8:x9 .i64 1900 (t / 12)=1900+t / 12:=I9 (by unfold I64;omega)
 have e9:x9 .i64 (t % 12) 1=t % 12+1:=I9 (by unfold I64;omega)
 rw[e6,e7,e8,e9,ji (by omega) (by omega),o7]
 have hd:=qL (1900+t / 12) (t % 12+1)
 rw[Vh (by omega) (by omega) (by rw[Bh];split <;> omega) (by rw[Bh];split <;> omega)];rfl
theorem Cc (d n:Int):c4C d n=some (YW d n):=by
 unfold c4C c4O YW
 by_cases h0:0≤d∧d≤109572
 case neg=>
  rw[if_pos (.inl h0)]
  by_cases h1:0≤d
  ·rw[F7 h1,F8 (by omega)];rfl
  ·rw[F8 (by omega)];rfl
 rw[F7 h0.1,F7 h0.2,o6,o7,o9,l9]
 by_cases h1:n< -3600
 ·rw[E9 h1,if_pos (.inr (.inl h1))];rfl
 by_cases h2:3600<n
 ·rw[D9 (by omega),E9 h2,if_pos (.inr (.inr h2))];rfl
 rw[D9 (by omega),D9 (by omega),if_neg (by omega),l9,l9,o7,D7,zY h0.1 h0.2,o7]
 obtain⟨b1,b2,b3,b4,b5,b6⟩:=AP h0.1 h0.2
 generalize ymd d=q at*
 obtain⟨y,m,dd⟩:=q
 simp only at b1 b2 b3 b4 b5 b6 ⊢
 have e2:U6 .i64 12 y=12*y:=di (by unfold I64;omega)
 have e3:x9 .i64 (12*y) m=12*y+m:=I9 (by unfold I64;omega)
 have e4:G8 .i64 (12*y+m) 1=12*y+m -1:=H5 (by unfold I64;omega)
 have e5:x9 .i64 (12*y+m -1) n=12*y+m -1+n:=I9 (by unfold I64;omega)
 rw[e2,e3,e4,e5]
 generalize ht:(y -1900)*12+m -1+n=t
 have hk:12*y+m -1+n=t+22800:=by omega
 rw[hk]
 have e6:az .i64 (t+22800) 12=1900+t / 12:=by rw[pX (by rw[aU (by omega)];unfold I64;omega),aU (by omega)];omega
 have e7:dH (t+22800) 12=t % 12:=by rw[ny (by omega)];omega
 have e9:x9 .i64 (t % 12) 1=t % 12+1:=I9 (by unfold I64;omega)
 rw[e6,e7,e9,iO (by omega) (by omega),o7]
 have hd:=qL (1900+t / 12) (t % 12+1)
 by_cases t0:t<0
 ·rw[if_pos (.inl t0)]
  unfold c4R
  rw[E9 (show 1900+t / 12<1900 by omega)];rfl
 by_cases t1:3599<t
 ·rw[if_pos (.inr t1)]
  unfold c4R
  rw[D9 (show 1900≤1900+t / 12 by omega),E9 (show 2199<1900+t / 12 by omega)];rfl
 rw[if_neg (by omega),TF (by omega) (by omega) (by rw[Bh];split <;> omega) (by rw[Bh];split <;> omega)];rfl
def yrl (a k:Int):Int:=Ry ((ymd a).1+k) (ymd a).2.1 (jM (ymd a).2.2 (dim ((ymd a).1+k) (ymd a).2.1))
theorem NC {a:Int} (h0:0≤a∧a≤109572) {k:Int} (hk:0≤k) (hk2:k≤300):YW a (12*k)=if(ymd a).1+k≤2199 then(yrl a k,0)else(0,3):=by
 obtain⟨b1,b2,b3,b4,b5,b6⟩:=AP h0.1 h0.2
 unfold YW yrl
 rw[if_neg (by omega)]
 generalize ymd a=q at*
 obtain⟨y,m,dd⟩:=q
 simp only at b1 b2 b3 b4 b5 b6 ⊢
 have e1:1900+((y -1900)*12+m -1+12*k) / 12=y+k:=by omega
 have e2:((y -1900)*12+m -1+12*k) % 12+1=m:=by omega
 by_cases h:y+k≤2199
 ·rw[if_neg (by omega),if_pos h,e1,e2]
 ·rw[if_pos (by omega),if_neg h]
theorem a4V {a:Int} (h0:0≤a∧a≤109572) (k:Int):ys ((ymd a).1+k)≤yrl a k∧yrl a k<ys ((ymd a).1+k+1):=by
 obtain⟨b1,b2,b3,b4,b5,b6⟩:=AP h0.1 h0.2
 have hd:=qL ((ymd a).1+k) (ymd a).2.1
 unfold yrl
 exact a5B ⟨b3,b4⟩ (by rw[Bh];split <;> omega) (by rw[Bh];split <;> omega)
theorem Fa {a:Int} (h0:0≤a∧a≤109572):ys (ymd a).1≤a∧a<ys ((ymd a).1+1):=by
 have:=EZ h0.1 h0.2
 exact⟨this.2.2.1,this.2.2.2⟩
def QQ (a b:Int):Int:=if 0≤a∧a≤109572∧0≤b∧b≤109572∧a≤b then
  (if(ymd b).1 -(ymd a).1≤0 then 0 else if yrl a ((ymd b).1 -(ymd a).1)≤b then(ymd b).1 -(ymd a).1 else(ymd b).1 -(ymd a).1 -1)else 0
theorem IP (a b:Int):eY a b=some (QQ a b):=by
 unfold eY lC QQ
 by_cases ha0:0≤a
 case neg=>rw[F8 (by omega),if_neg (by omega)];rfl
 by_cases ha1:a≤109572
 case neg=>rw[F7 ha0,F8 (by omega),if_neg (by omega)];rfl
 rw[F7 ha0,F7 ha1,o6,o7,o9,l9]
 by_cases hb0:0≤b
 case neg=>rw[F8 (by omega),if_neg (by omega)];rfl
 by_cases hb1:b≤109572
 case neg=>rw[F7 hb0,F8 (by omega),if_neg (by omega)];rfl
 rw[F7 hb0,F7 hb1,o6,o7,o9,l9]
 by_cases hab:a≤b
 case neg=>rw[E9 (by omega),if_neg (by omega)];rfl
 rw[D9 hab,l9,if_pos ⟨ha0,ha1,hb0,hb1,hab⟩,rF ha0 ha1,o7,rF hb0 hb1,o7]
 obtain⟨p1,p2,_,_,_,_⟩:=AP ha0 ha1
 obtain⟨q1,q2,_,_,_,_⟩:=AP hb0 hb1
 have ya:=Fa ⟨ha0,ha1⟩
 have yb:=Fa ⟨hb0,hb1⟩
 have hK:0≤(ymd b).1 -(ymd a).1:=by
  rcases BJ (ymd b).1 (ymd a).1 with h | h
  ·have:=iU (show(ymd b).1+1≤(ymd a).1 by omega);omega
  ·omega
 rw[H5 (show I64 ((ymd b).1 -(ymd a).1) by unfold I64;omega)]
 have hle:(ymd a).1+((ymd b).1 -(ymd a).1)≤2199:=by omega
 generalize (ymd b).1 -(ymd a).1=K at*
 rw[di (show I64 (12*K) by unfold I64;omega),Dz,o7,NC ⟨ha0,ha1⟩ hK (by omega),if_pos hle]
 simp only[F5 (rfl:(0:Int)=0),o9,l9]
 rw[H5 (show I64 (K -1) by unfold I64;omega)]
 have im:∀x:Int,gu x 0=if x<0 then 0 else x:=fun x=>rfl
 by_cases hz:K≤0
 ·have:K=0:=by omega
  subst this
  rw[if_pos (by omega)]
  cases ilt b (yrl a 0) <;> rfl
 ·rw[if_neg hz]
  by_cases hq:yrl a K≤b
  ·rw[if_pos hq,D9 hq,l9,im,if_neg (by omega)]
  ·rw[if_neg hq,E9 (by omega),o6,im,if_neg (by omega)]
theorem Gm (a b:Int):c4I a b=some (QQ a b):=by
 unfold c4I c4O QQ
 by_cases ha0:0≤a
 case neg=>rw[F8 (by omega),if_neg (by omega)];rfl
 by_cases ha1:a≤109572
 case neg=>rw[F7 ha0,F8 (by omega),if_neg (by omega)];rfl
 rw[F7 ha0,F7 ha1,o6,o7,o9,l9]
 by_cases hb0:0≤b
 case neg=>rw[F8 (by omega),if_neg (by omega)];rfl
 by_cases hb1:b≤109572
 case neg=>rw[F7 hb0,F8 (by omega),if_neg (by omega)];rfl
 rw[F7 hb0,F7 hb1,o6,o7,o9,l9]
 obtain⟨p1,p2,_,_,_,_⟩:=AP ha0 ha1
 obtain⟨q1,q2,_,_,_,_⟩:=AP hb0 hb1
 have ya:=Fa ⟨ha0,ha1⟩
 have yb:=Fa ⟨hb0,hb1⟩
 have key:=uD (f:=fun(x:Int)=>o5 (c4C a (U6 .i64 12 (x9 .i64 x 1))) fun(x_1:Int×Int)=>l7 (E5 (ieq x_1.2 0)) (some (.rt x)) (l7 (ilt b x_1.1) (some (.rt x)) (some (.nx (x9 .i64 x 1)))))
  (s:=0) (fun x=>0≤x∧(x=0∨(x≤(ymd b).1 -(ymd a).1∧yrl a x≤b))) (fun(_:PUnit)=>False) (fun r=>r=(if a≤b then(if(ymd b).1 -(ymd a).1≤0 then 0 else if yrl a ((ymd b).1 -(ymd a).1)≤b then(ymd b).1 -(ymd a).1 else(ymd b).1 -(ymd a).1 -1)else 0)) (fun x=>(300 -x).toNat) ⟨by omega,.inl rfl⟩ (by simp) (by
  rintro x ⟨hx0,hx⟩
  have hx300:x≤299:=by omega
  rw[I9 (show I64 (x+1) by unfold I64;omega),di (show I64 (12*(x+1)) by unfold I64;omega),Cc,o7,NC ⟨ha0,ha1⟩ (by omega) (by omega)]
  have hyb:=a4V ⟨ha0,ha1⟩ (x+1)
  have hyx:=a4V ⟨ha0,ha1⟩ x
  have hmono:ys ((ymd a).1+x+1)≤ys ((ymd a).1+(x+1)):=iU (by omega)
  have hax:a<yrl a (x+1):=by
   have:=iU (show(ymd a).1+1≤(ymd a).1+(x+1) by omega)
   omega
  by_cases hq:(ymd a).1+(x+1)≤2199∧yrl a (x+1)≤b
  ·left
   obtain⟨hq1,hq2⟩:=hq
   have hK:x+1≤(ymd b).1 -(ymd a).1:=by
    rcases BJ (ymd b).1 ((ymd a).1+(x+1))with h | h
    ·have:=iU (show(ymd b).1+1≤(ymd a).1+(x+1) by omega);omega
    ·omega
   refine⟨x+1,?_,⟨by omega,.inr ⟨hK,hq2⟩⟩,by omega⟩
   rw[if_pos hq1]
   simp only[F5 (rfl:(0:Int)=0),o9,l9,D9 hq2]
  ·right;right
   refine⟨x,?_,?_⟩
   ·by_cases hq1:(ymd a).1+(x+1)≤2199
    ·rw[if_pos hq1]
     simp only[F5 (rfl:(0:Int)=0),o9,l9,E9 (show b<yrl a (x+1) by omega),o6]
    ·rw[if_neg hq1];rfl
   ·by_cases hab:a≤b
    case neg=>
     rw[if_neg hab]
     by_cases hx1:x=0
     ·exact hx1
     ·exfalso
      have:=iU (show(ymd a).1+1≤(ymd a).1+x by omega)
      omega
    rw[if_pos hab]
    have hK:0≤(ymd b).1 -(ymd a).1:=by
     rcases BJ (ymd b).1 (ymd a).1 with h | h
     ·have:=iU (show(ymd b).1+1≤(ymd a).1 by omega);omega
     ·omega
    have hxK:x≤(ymd b).1 -(ymd a).1:=by omega
    by_cases hxe:x=(ymd b).1 -(ymd a).1
    ·by_cases hz:(ymd b).1 -(ymd a).1≤0
     ·rw[if_pos hz];omega
     ·rw[if_neg hz]
      rcases hx with hx | hx
      ·omega
      ·rw[←hxe,if_pos hx.2]
    ·have hlt:x+1≤(ymd b).1 -(ymd a).1:=by omega
     rw[if_neg (by omega)]
     have hyr:(ymd a).1+(x+1)≤2199:=by omega
     have hgt:b<yrl a (x+1):=by
      have:=fun h=>hq ⟨hyr,h⟩
      omega
     have heq:x+1=(ymd b).1 -(ymd a).1:=by
      rcases BJ (x+1) ((ymd b).1 -(ymd a).1)with h | h
      ·have:=iU (show(ymd a).1+(x+1)+1≤(ymd b).1 by omega);omega
      ·omega
     rw[←heq,if_neg (by omega)];omega)
 rcases key with⟨e,_,h⟩ | ⟨r,k1,k2⟩
 ·exact h.elim
 ·refine(iL k1 _).trans ?_
  rw[k2]
  by_cases hab:a≤b
  ·rw[if_pos hab,if_pos (show 0≤a∧a≤109572∧0≤b∧b≤109572∧a≤b from⟨ha0,ha1,hb0,hb1,hab⟩)];rfl
  ·rw[if_neg hab,if_neg (by omega)];rfl
def Xz:List UInt8:=(List.range 256).map fun n=>UInt8.ofNat (if n=0 then 0 else Nat.log2 n+1)
theorem a1N:∀n:Fin 256,∃k:Fin 9,Xz[n.val]? =some (UInt8.ofNat k.val)∧n.val<2^k.val∧(0<n.val→0<k.val∧2^(k.val -1)≤n.val):=by decide+kernel
def YU (n:Int) (k:Nat):Prop:=n<2^k∧(0<n→0<k∧2^(k -1)≤n)
theorem a6T {n:Int} (h0:0≤n) (h:n<256):wrap .u8 n=n:=by
 unfold wrap IntKind.wrap
 simp[IntKind.signed,IntKind.bits]
 omega
theorem a5J {n:Int} (h0:0≤n) (h:n<256):∃k:Nat,k≤8∧sat Xz (wrap .u8 n)=some (k:Int)∧YU n k:=by
 rw[a6T h0 h]
 obtain⟨k,k1,k2,k3⟩:=a1N ⟨n.toNat,by omega⟩
 refine⟨k.val,by omega,?_,?_,fun hp=>?_⟩
 ·unfold sat
  rw[if_pos h0]
  simp only at k1
  rw[k1]
  simp
  have:=k.isLt
  omega
 ·simp only at k2
  have:((n.toNat:Nat):Int)<((2^k.val:Nat):Int):=by omega
  rw[Int.toNat_of_nonneg h0,Int.natCast_pow]at this
  exact this
 ·simp only at k3
  obtain⟨a,b⟩:=k3 (by omega)
  refine⟨a,?_⟩
  have:((2^(k.val -1):Nat):Int)≤((n.toNat:Nat):Int):=by omega
  rw[Int.toNat_of_nonneg h0,Int.natCast_pow]at this
  exact this
theorem Eb {n:Int} {k:Nat} (hk:k≤64):ja .u64 n (k:Int)=n / 2^k:=by
 unfold ja
 rw[Int.toNat_natCast,show IntKind.bits .u64=64 from rfl,show min k 64=k by omega]
 exact Int.fdiv_eq_ediv_of_nonneg _ (Int.pow_nonneg (by omega))
theorem YU.shift {n:Int} {j k:Nat} (h:YU (n / 2^j) k) (hn:2^j≤n):YU n (j+k):=by
 have hp:(0:Int)<2^j:=Int.pow_pos (by omega)
 have h1:0<n / 2^j:=by have:=Int.le_ediv_of_mul_le hp (show 1*2^j≤n by omega);omega
 obtain⟨a,b⟩:=h
 obtain⟨b1,b2⟩:=b h1
 have hdm:=Int.mul_ediv_add_emod n (2^j)
 have hm:=Int.emod_lt_of_pos n hp
 have hm0:=Int.emod_nonneg n (show(2:Int)^j≠0 by omega)
 refine⟨?_,fun _=>⟨by omega,?_⟩⟩
 ·have:(2:Int)^j*(n / 2^j+1)≤2^j*2^k:=Int.mul_le_mul_of_nonneg_left (by omega) (by omega)
  rw[Int.mul_add,Int.mul_one]at this
  rw[Int.pow_add];omega
 ·have:(2:Int)^j*2^(k -1)≤2^j*(n / 2^j):=Int.mul_le_mul_of_nonneg_left b2 (by omega)
  rw[show j+k -1=j+(k -1) by omega,Int.pow_add];omega
theorem a1M:([0,1,2,2,3,3,3,3,4,4,4,4,4,4,4,4,5,5,5,5,5,5,5,5,5,5,5,5,5,5,5,5,6,6,6,6,6,6,6,6,6,6,6,6,6,6,6,6,6,6,
  6,6,6,6,6,6,6,6,6,6,6,6,6,6,7,7,7,7,7,7,7,7,7,7,7,7,7,7,7,7,7,7,7,7,7,7,7,7,7,7,7,7,7,7,7,7,7,7,7,7,
  7,7,7,7,7,7,7,7,7,7,7,7,7,7,7,7,7,7,7,7,7,7,7,7,7,7,7,7,8,8,8,8,8,8,8,8,8,8,8,8,8,8,8,8,8,8,8,8,8,8,
  8,8,8,8,8,8,8,8,8,8,8,8,8,8,8,8,8,8,8,8,8,8,8,8,8,8,8,8,8,8,8,8,8,8,8,8,8,8,8,8,8,8,8,8,8,8,8,8,8,8,
  8,8,8,8,8,8,8,8,8,8,8,8,8,8,8,8,8,8,8,8,8,8,8,8,8,8,8,8,8,8,8,8,8,8,8,8,8,8,8,8,8,8,8,8,8,8,8,8,8,8,
  8,8,8,8,8,8]:List UInt8)=Xz:=by decide+kernel
theorem ed {n:Int} (h0:0≤n) (h:n≤1000):wrap .i64 n=n:=dB (by unfold I64;omega)
theorem yC {a b:Int} (h0:0≤a) (h1:a≤1000) (h2:0≤b) (h3:b≤1000):x9 .i64 a b=a+b:=I9 (by unfold I64;omega)
theorem a1L {n:Int} (h0:0≤n) (h:n<18446744073709551616):∃k:Nat,k≤64∧ou n=some (k:Int)∧YU n k:=by
 have s32:∀m:Int,ja .u64 m 32=m / 2^32:=fun m=>Eb (k:=32) (by omega)
 have s16:∀m:Int,ja .u64 m 16=m / 2^16:=fun m=>Eb (k:=16) (by omega)
 have s8:∀m:Int,ja .u64 m 8=m / 2^8:=fun m=>Eb (k:=8) (by omega)
 unfold ou
 rw[a1M,s32,s16,s16,s8,s8,s8,s8]
 have ow:∀(m:Int) (a:Int) (K:Nat),0≤m→m<256→a=(K:Int)→K≤56→∀(g:Int→Int),(∀x,0≤x→x≤8→g x=a+x)→∃k:Nat,k≤8∧(o5 (sat Xz (wrap .u8 m)) fun(x:Int)=>some (g x))=some (((K+k:Nat):Int))∧YU m k:=by
  intro m a K m0 m1 ha hK g hg
  obtain⟨k,k1,k2,k3⟩:=a5J m0 m1
  refine⟨k,k1,?_,k3⟩
  rw[k2,o7,hg _ (by omega) (by omega),ha];simp
 by_cases c32:4294967296≤n
 ·rw[F7 c32,o6]
  by_cases c16:65536≤n / 2^32
  ·rw[F7 c16,o6]
   by_cases c8:256≤n / 2^32 / 2^16
   ·rw[F7 c8,o6]
    obtain⟨k,k1,k2,k3⟩:=ow (n / 2^32 / 2^16 / 2^8) 56 56 (by omega) (by omega) rfl (by omega) (fun x=>x9 .i64 (x9 .i64 (x9 .i64 32 16) 8) (wrap .i64 x)) (fun x x0 x1=>by
     rw[ed x0 (by omega),show x9 .i64 (x9 .i64 32 16) 8=56 by decide,yC (by omega) (by omega) (by omega) (by omega)])
    exact⟨56+k,by omega,k2,by have:=((k3.shift (j:=8) (by omega)).shift (j:=16) (by omega)).shift (j:=32) (by omega);rw[show 32+(16+(8+k))=56+k by omega]at this;exact this⟩
   ·rw[F8 (by omega),l9]
    obtain⟨k,k1,k2,k3⟩:=ow (n / 2^32 / 2^16) 48 48 (by omega) (by omega) rfl (by omega) (fun x=>x9 .i64 (x9 .i64 32 16) (wrap .i64 x)) (fun x x0 x1=>by
     rw[ed x0 (by omega),yC (a:=32) (by omega) (by omega) (by omega) (by omega),yC (by omega) (by omega) (by omega) (by omega)];rfl)
    exact⟨48+k,by omega,k2,by have:=(k3.shift (j:=16) (by omega)).shift (j:=32) (by omega);rw[show 32+(16+k)=48+k by omega]at this;exact this⟩
  ·rw[F8 (by omega),l9]
   by_cases c8:256≤n / 2^32
   ·rw[F7 c8,o6]
    obtain⟨k,k1,k2,k3⟩:=ow (n / 2^32 / 2^8) 40 40 (by omega) (by omega) rfl (by omega) (fun x=>x9 .i64 (x9 .i64 32 8) (wrap .i64 x)) (fun x x0 x1=>by
     rw[ed x0 (by omega),yC (a:=32) (by omega) (by omega) (by omega) (by omega),yC (by omega) (by omega) (by omega) (by omega)];rfl)
    exact⟨40+k,by omega,k2,by have:=(k3.shift (j:=8) (by omega)).shift (j:=32) (by omega);rw[show 32+(8+k)=40+k by omega]at this;exact this⟩
   ·rw[F8 (by omega),l9]
    obtain⟨k,k1,k2,k3⟩:=ow (n / 2^32) 32 32 (by omega) (by omega) rfl (by omega) (fun x=>x9 .i64 32 (wrap .i64 x)) (fun x x0 x1=>by
     rw[ed x0 (by omega),yC (by omega) (by omega) (by omega) (by omega)])
    exact⟨32+k,by omega,k2,k3.shift (j:=32) (by omega)⟩
 ·rw[F8 (by omega),l9]
  by_cases c16:65536≤n
  ·rw[F7 c16,o6]
   by_cases c8:256≤n / 2^16
   ·rw[F7 c8,o6]
    obtain⟨k,k1,k2,k3⟩:=ow (n / 2^16 / 2^8) 24 24 (by omega) (by omega) rfl (by omega) (fun x=>x9 .i64 (x9 .i64 (x9 .i64 0 16) 8) (wrap .i64 x)) (fun x x0 x1=>by
     rw[ed x0 (by omega),show x9 .i64 (x9 .i64 0 16) 8=24 by decide,yC (by omega) (by omega) (by omega) (by omega)])
    exact⟨24+k,by omega,k2,by have:=(k3.shift (j:=8) (by omega)).shift (j:=16) (by omega);rw[show 16+(8+k)=24+k by omega]at this;exact this⟩
   ·rw[F8 (by omega),l9]
    obtain⟨k,k1,k2,k3⟩:=ow (n / 2^16) 16 16 (by omega) (by omega) rfl (by omega) (fun x=>x9 .i64 (x9 .i64 0 16) (wrap .i64 x)) (fun x x0 x1=>by
     rw[ed x0 (by omega),yC (a:=0) (by omega) (by omega) (by omega) (by omega),yC (by omega) (by omega) (by omega) (by omega)];rfl)
    exact⟨16+k,by omega,k2,k3.shift (j:=16) (by omega)⟩
  ·rw[F8 (by omega),l9]
   by_cases c8:256≤n
   ·rw[F7 c8,o6]
    obtain⟨k,k1,k2,k3⟩:=ow (n / 2^8) 8 8 (by omega) (by omega) rfl (by omega) (fun x=>x9 .i64 (x9 .i64 0 8) (wrap .i64 x)) (fun x x0 x1=>by
     rw[ed x0 (by omega),yC (a:=0) (by omega) (by omega) (by omega) (by omega),yC (by omega) (by omega) (by omega) (by omega)];rfl)
    exact⟨8+k,by omega,k2,k3.shift (j:=8) (by omega)⟩
   ·rw[F8 (by omega),l9]
    obtain⟨k,k1,k2,k3⟩:=ow n 0 0 (by omega) (by omega) rfl (by omega) (fun x=>x9 .i64 0 (wrap .i64 x)) (fun x x0 x1=>by
     rw[ed x0 (by omega),yC (by omega) (by omega) (by omega) (by omega)])
    exact⟨0+k,by omega,k2,by rw[Nat.zero_add];exact k3⟩
theorem sS {n:Int} (h0:0≤n) (h:n<18446744073709551616):IntKind.wrap .u64 n=n:=a4U (by unfold U64;omega)
theorem nO (n:Int):IntKind.wrap .u64 n=n % 18446744073709551616:=by
 unfold IntKind.wrap
 simp[IntKind.signed,IntKind.bits]
def VE {σ ε:Type} (f:σ→Option (σ⊕ε)) (m:Nat) (o:Option (σ⊕ε)):Option ε:=match o with
 | some (.inl s')=>jb f m s'
 | some (.inr e)=>some e
 | none=>none
theorem ZA {σ ε:Type} (f:σ→Option (σ⊕ε)) (m:Nat) (s:σ):jb f (m+1) s=VE f m (f s):=by
 rw[jb];unfold VE
 cases f s with
 | none=>rfl
 | some o=>cases o <;> rfl
theorem JF {σ:Type} (mkp:Int→Int→σ) {f:σ→Option (σ⊕Int)} {y1 y0 U d:Int} (hy1:2147483648≤y1) (hy1' :y1<4294967296) (hy0:0≤y0) (hy0' :y0<4294967296) (hU:0≤U) (hUY:U<y1*4294967296+y0) (hd:0≤d) (hd' :d<4294967296)
  (hf:∀q r,0≤q→q≤4294967297→0≤r→r<4294967296→f (mkp q r)=l7 (ile 4294967296 q) (l7 (ile 4294967296 (x9 .u64 r y1)) (some (.inr (G8 .u64 q 1))) (some (.inl (mkp (G8 .u64 q 1) (x9 .u64 r y1)))))
   (l7 (ilt (x9 .u64 (U6 .u64 4294967296 r) d) (U6 .u64 q y0)) (l7 (ile 4294967296 (x9 .u64 r y1)) (some (.inr (G8 .u64 q 1))) (some (.inl (mkp (G8 .u64 q 1) (x9 .u64 r y1))))) (some (.inr q)))):
  ∃Q,U9 f (mkp (U / y1) (U -U / y1*y1))=some Q∧0≤Q∧Q<4294967296∧Q*(y1*4294967296+y0)≤U*4294967296+d∧U*4294967296+d<(Q+1)*(y1*4294967296+y0):=by
 obtain⟨Y,hY⟩:∃Y,Y=y1*4294967296+y0:=⟨_,rfl⟩
 have hYe:∀q:Int,q*Y=q*y1*4294967296+q*y0:=fun q=>by rw[hY,Int.mul_add,←Int.mul_assoc]
 have hq0:0≤U / y1:=Int.ediv_nonneg hU (by omega)
 have hdm:=Int.ediv_mul_add_emod U y1
 have hm0:=Int.emod_nonneg U (show y1≠0 by omega)
 have hm1:=Int.emod_lt_of_pos U (show 0<y1 by omega)
 have hqB:U / y1≤4294967297:=by
  rcases BJ 4294967297 (U / y1)with h | h
  ·have:=Int.mul_le_mul_of_nonneg_right (show 4294967298≤U / y1 by omega) (show 0≤y1 by omega)
   omega
  ·exact h
 obtain⟨n,hn⟩:∃n,n=(U / y1).toNat+1:=⟨_,rfl⟩
 have key:∀(n:Nat) (q r:Int),0≤q→q≤4294967297→0≤r→r<4294967296→U=q*y1+r→U*4294967296+d<(q+1)*Y→q.toNat<n→∀m,n≤m→∃Q,jb f m (mkp q r)=some Q∧0≤Q∧Q<4294967296∧Q*Y≤U*4294967296+d∧U*4294967296+d<(Q+1)*Y:=by
  intro n
  induction n with
  | zero=>intro q r _ _ _ _ _ _ h;omega
  | succ n ih=>
   intro q r q0 qB r0 rB hUq hlt hqn m hm
   obtain⟨m,rfl⟩:∃m',m=m' +1:=⟨m -1,by omega⟩
   rw[ZA,hf q r q0 qB r0 rB]
   have e1:=hYe q
   have e2:(q+1)*Y=q*Y+Y:=by rw[Int.add_mul,Int.one_mul]
   have hry:x9 .u64 r y1=r+y1:=sS (by omega) (by omega)
   have g0:0≤q*y0:=Int.mul_nonneg q0 hy0
   have less:U*4294967296+d<q*Y→1≤q∧G8 .u64 q 1=q -1∧U=(q -1)*y1+(r+y1)∧(q -1+1)*Y=q*Y∧(q -1)*Y=q*Y -Y∧(q -1)*y0=q*y0 -y0:=by
    intro hgt
    have hq1:1≤q:=by
     rcases BJ q 1 with h | h
     ·have:q=0:=by omega
      subst this;simp at hgt;omega
     ·exact h
    refine⟨hq1,sS (by omega) (by omega),?_,?_,?_,?_⟩
    ·rw[Int.sub_mul,Int.one_mul];omega
    ·rw[show q -1+1=q by omega]
    ·rw[Int.sub_mul,Int.one_mul]
    ·rw[Int.sub_mul,Int.one_mul]
   have dec:U*4294967296+d<q*Y→∃Q,VE f m (l7 (ile 4294967296 (r+y1)) (some (Sum.inr (G8 .u64 q 1))) (some (Sum.inl (mkp (G8 .u64 q 1) (r+y1)))))=some Q∧0≤Q∧Q<4294967296∧Q*Y≤U*4294967296+d∧U*4294967296+d<(Q+1)*Y:=by
    intro hgt
    obtain⟨l1,l2,l3,l4,l5,l6⟩:=less hgt
    rw[l2]
    by_cases hr:4294967296≤r+y1
    ·rw[F7 hr]
     have h6:(q -1)*y0≤4294967296*y0:=Int.mul_le_mul_of_nonneg_right (by omega) hy0
     have h7:=hYe (q -1)
     have hle:(q -1)*Y≤U*4294967296+d:=by rw[h7,l3];omega
     refine⟨q -1,rfl,by omega,?_,hle,by rw[l4];exact hgt⟩
     rcases BJ (q -1) 4294967296 with h | h
     ·exact h
     ·have:=Int.mul_le_mul_of_nonneg_right h (show 0≤Y by omega)
      omega
    ·rw[F8 (by omega)]
     exact ih (q -1) (r+y1) (by omega) (by omega) (by omega) (by omega) l3 (by rw[l4];exact hgt) (by omega) m (by omega)
   by_cases hqb:4294967296≤q
   ·rw[F7 hqb,o6,hry]
    have:=Int.mul_le_mul_of_nonneg_right hqb (show 0≤Y by omega)
    exact dec (by omega)
   ·rw[F8 (by omega),l9,hry]
    have g1:q*y0≤4294967295*y0:=Int.mul_le_mul_of_nonneg_right (by omega) hy0
    have m1:U6 .u64 4294967296 r=4294967296*r:=sS (by omega) (by omega)
    have m2:x9 .u64 (4294967296*r) d=4294967296*r+d:=sS (by omega) (by omega)
    have m3:U6 .u64 q y0=q*y0:=sS g0 (by omega)
    rw[m1,m2,m3]
    by_cases hc:4294967296*r+d<q*y0
    ·rw[E9 hc,o6]
     exact dec (by rw[e1];omega)
    ·rw[D9 (by omega),l9]
     exact⟨q,rfl,q0,by omega,by rw[e1];omega,hlt⟩
 rw[←hY]
 refine key n (U / y1) (U -U / y1*y1) hq0 hqB (by omega) (by omega) (by omega) ?_ (by omega) dK (by unfold dK;omega)
 have e1:=hYe (U / y1)
 rw[Int.add_mul,Int.one_mul,e1]
 have:=Int.mul_nonneg hq0 hy0
 omega
theorem DJ {n:Int} (h0:0≤n) (h:n<18446744073709551616):(BitVec.ofInt 64 n).toNat=n.toNat:=by
 rw[BitVec.toNat_ofInt]
 have e:((2^64:Nat):Int)=18446744073709551616:=rfl
 rw[e,Int.emod_eq_of_lt h0 h]
theorem Oi {n:Int} (h0:0≤n) (h:n<18446744073709551616):Su .u64 n 4294967295=n % 4294967296:=by
 unfold Su
 rw[show IntKind.bits .u64=64 from rfl,BitVec.toNat_and,DJ h0 h,DJ (by decide) (by decide)]
 rw[show(4294967295:Int).toNat=2^32 -1 from rfl,Nat.and_two_pow_sub_one_eq_mod]
 rw[sS (by omega) (by omega)];omega
theorem a5H {a c:Int} {s:Nat} (ha0:0≤a) (hc0:0≤c) (hc:c<2^s) (h:a*2^s+c<18446744073709551616):ior .u64 (a*2^s) c=a*2^s+c:=by
 have hp:(0:Int)<2^s:=Int.pow_pos (by omega)
 have hap:0≤a*2^s:=Int.mul_nonneg ha0 (by omega)
 unfold ior
 rw[show IntKind.bits .u64=64 from rfl,BitVec.toNat_or,DJ hap (by omega),DJ hc0 (by omega)]
 obtain⟨m,rfl⟩:∃m:Nat,a=(m:Int):=⟨a.toNat,by omega⟩
 obtain⟨k,rfl⟩:∃k:Nat,c=(k:Int):=⟨c.toNat,by omega⟩
 have hk:k<2^s:=by exact_mod_cast hc
 have e1:((m:Int)*2^s).toNat=m<<<s:=by
  rw[Nat.shiftLeft_eq]
  have:((m:Int)*2^s)=((m*2^s:Nat):Int):=by rw[Int.natCast_mul,Int.natCast_pow];rfl
  rw[this];rfl
 rw[e1,Int.toNat_natCast,←Nat.shiftLeft_add_eq_or_of_lt hk,Nat.shiftLeft_eq]
 have e2:((m*2^s+k:Nat):Int)=(m:Int)*2^s+(k:Int):=by rw[Int.natCast_add,Int.natCast_mul,Int.natCast_pow];rfl
 rw[e2]
 exact sS (by omega) h
theorem Rx (a b c d:Int):G8 .u64 (x9 .u64 (U6 .u64 a 4294967296) b) (U6 .u64 c d)=(a*4294967296+b -c*d) % 18446744073709551616:=by
 unfold G8 x9 U6
 rw[nO,nO,nO,nO]
 generalize c*d=z
 omega
theorem b5B {y:Int} (h0:0<y) (h:y<18446744073709551616):∃s:Nat,s≤63∧dV y=some (s:Int)∧9223372036854775808≤y*2^s∧y*2^s<18446744073709551616:=by
 obtain⟨k,k1,k2,k3,k4⟩:=a1L (n:=y) (by omega) h
 obtain⟨k5,k6⟩:=k4 h0
 refine⟨64 -k,by omega,?_,?_,?_⟩
 ·unfold dV
  rw[k2,o7,H5 (by unfold I64;omega)]
  congr 1;omega
 ·have:=Int.mul_le_mul_of_nonneg_right k6 (show(0:Int)≤2^(64 -k)from Int.pow_nonneg (by omega))
  rw[←Int.pow_add,show k -1+(64 -k)=63 by omega]at this
  exact this
 ·have:=Int.mul_lt_mul_of_pos_right k3 (show(0:Int)<2^(64 -k)from Int.pow_pos (by omega))
  rw[←Int.pow_add,show k+(64 -k)=64 by omega]at this
  exact this
theorem Bi {a b:Int} (ha:0≤a) (ha' :a<18446744073709551616) (hb:0<b):uA .u64 a b=some (a / b):=by
 unfold uA
 rw[if_neg (by omega),aU ha]
 have h1:=Int.ediv_nonneg ha (show 0≤b by omega)
 have h2:=Int.ediv_le_self b ha
 rw[sS h1 (by omega)]
theorem oQ {a b:Int} (ha:0≤a) (hb:0<b):zt a b=some (a % b):=by
 unfold zt
 rw[if_neg (by omega)]
 congr 1
 exact ny ha
theorem JH {hi lo y:Int} (h0:0≤hi) (h1:hi<y) (hy:y<18446744073709551616) (l0:0≤lo) (l1:lo<18446744073709551616):
  dF hi lo y=some ((hi*18446744073709551616+lo) / y,(hi*18446744073709551616+lo) % y):=by
 unfold dF
 rw[D8 (show y≠0 by omega),l9,o7,F8 h1,l9,o7]
 by_cases hz:hi=0
 ·subst hz
  rw[F5 rfl,o6,Bi l0 l1 (by omega),o7,oQ l0 (by omega),o7];simp
 rw[D8 hz,l9]
 obtain⟨s,s1,s2,s3,s4⟩:=b5B (y:=y) (by omega) hy
 rw[s2,o7,show wrap .u64 ((s:Nat):Int)=(s:Int)from sS (by omega) (by omega),show G8 .u64 64 (s:Int)=((64 -s:Nat):Int) by unfold G8;rw[sS (by omega) (by omega)];omega]
 have hshl:∀v:Int,Kv .u64 v (s:Int)=some ((v*2^s) % 18446744073709551616):=fun v=>by
  unfold Kv a1C
  rw[if_neg (by omega),Int.toNat_natCast,show IntKind.bits .u64=64 from rfl,show min s 64=s by omega,nO]
 have hshr:∀(v:Int) (k:Nat),k≤64→Kw .u64 v (k:Int)=some (v / 2^k):=fun v k hk=>by
  unfold Kw
  rw[if_neg (by omega),Eb hk]
 rw[hshl,o7,hshl,o7,hshr _ _ (by omega),o7,hshl,o7]
 have hpp:(2:Int)^s*2^(64 -s)=18446744073709551616:=by rw[←Int.pow_add,show s+(64 -s)=64 by omega];rfl
 have hp:(0:Int)<2^s:=Int.pow_pos (by omega)
 have hp' :(0:Int)<2^(64 -s):=Int.pow_pos (by omega)
 have hcb:lo / 2^(64 -s)<2^s:=Int.ediv_lt_of_lt_mul hp' (by rw[hpp];exact l1)
 have hc0:0≤lo / 2^(64 -s):=Int.ediv_nonneg l0 (by omega)
 have hcd:=Int.ediv_mul_add_emod lo (2^(64 -s))
 have he0:=Int.emod_nonneg lo (show(2:Int)^(64 -s)≠0 by omega)
 have he1:=Int.emod_lt_of_pos lo hp'
 have hioP:∀a c:Int,0≤a→0≤c→c<2^s→a*2^s+c<18446744073709551616→ior .u64 (a*2^s) c=a*2^s+c:=fun a c a0 c0 c1 h=>a5H a0 c0 c1 h
 have hshrs:∀v:Int,Kw .u64 v (s:Int)=some (v / 2^s):=fun v=>hshr v s (by omega)
 generalize (2:Int)^s=p at*
 generalize (2:Int)^(64 -s)=p' at*
 generalize lo / p' =c at*
 generalize lo % p' =e at*
 have hlop:lo*p=c*18446744073709551616+e*p:=by
  rw[←hcd,Int.add_mul,Int.mul_assoc,Int.mul_comm p' p,hpp]
 have hep0:0≤e*p:=Int.mul_nonneg he0 (by omega)
 have hep1:e*p<18446744073709551616:=by
  have:=Int.mul_lt_mul_of_pos_right he1 hp
  rw[Int.mul_comm p' p,hpp]at this;exact this
 rw[show(lo*p) % 18446744073709551616=e*p by omega]
 have hhp0:0≤hi*p:=Int.mul_nonneg h0 (by omega)
 have hhp1:hi*p≤y*p -p:=by
  have:=Int.mul_le_mul_of_nonneg_right (show hi≤y -1 by omega) (show 0≤p by omega)
  rw[Int.sub_mul,Int.one_mul]at this;exact this
 rw[show(y*p) % 18446744073709551616=y*p by omega,show(hi*p) % 18446744073709551616=hi*p by omega,hioP hi c h0 hc0 hcb (by omega)]
 have hN:(hi*18446744073709551616+lo)*p=(hi*p+c)*18446744073709551616+e*p:=by
  rw[Int.add_mul,hlop,Int.mul_right_comm];omega
 have hsh32:∀v:Int,ja .u64 v 32=v / 4294967296:=fun v=>Eb (k:=32) (by omega)
 rw[hsh32,hsh32,Oi (by omega) s4,Oi hep0 hep1]
 obtain⟨Y,hY⟩:∃Y,Y=y*p:=⟨_,rfl⟩
 obtain⟨N,hNN⟩:∃N,N=hi*18446744073709551616+lo:=⟨_,rfl⟩
 rw[←hNN]at hN ⊢
 rw[←hY]at s3 s4 hhp1 ⊢
 generalize hU:hi*p+c=U at*
 generalize e*p=E at*
 have hUY:U<Y:=by omega
 have hU0:0≤U:=by omega
 obtain⟨Q1,q1,q2,q3,q4,q5⟩:=JF (σ:=Int×Int) (fun q r=>(q,r)) (y1:=Y / 4294967296) (y0:=Y % 4294967296) (U:=U) (d:=E / 4294967296) (by omega) (by omega) (by omega) (by omega) hU0 (by omega) (by omega) (by omega)
  (f:=fun(x:Int×Int)=>l7 (ile 4294967296 x.1) (l7 (ile 4294967296 (x9 .u64 x.2 (Y / 4294967296))) (some (.inr (G8 .u64 x.1 1))) (some (.inl (G8 .u64 x.1 1,x9 .u64 x.2 (Y / 4294967296))))) (l7 (ilt (x9 .u64 (U6 .u64 4294967296 x.2) (E / 4294967296)) (U6 .u64 x.1 (Y % 4294967296))) (l7 (ile 4294967296 (x9 .u64 x.2 (Y / 4294967296))) (some (.inr (G8 .u64 x.1 1))) (some (.inl (G8 .u64 x.1 1,x9 .u64 x.2 (Y / 4294967296))))) (some (.inr x.1))))
  (fun q r _ _ _ _=>rfl)
 have hYe:Y / 4294967296*4294967296+Y % 4294967296=Y:=by omega
 rw[hYe]at q4 q5
 have hst:∀V:Int,0≤V→V<Y→G8 .u64 V (U6 .u64 (V / (Y / 4294967296)) (Y / 4294967296))=V -V / (Y / 4294967296)*(Y / 4294967296):=fun V v0 v1=>by
  have a1:=Int.ediv_mul_add_emod V (Y / 4294967296)
  have a2:=Int.emod_nonneg V (show Y / 4294967296≠0 by omega)
  have a3:=Int.emod_lt_of_pos V (show 0<Y / 4294967296 by omega)
  have a4:=Int.mul_nonneg (Int.ediv_nonneg v0 (show 0≤Y / 4294967296 by omega)) (show 0≤Y / 4294967296 by omega)
  rw[show U6 .u64 (V / (Y / 4294967296)) (Y / 4294967296)=V / (Y / 4294967296)*(Y / 4294967296)from sS a4 (by omega)]
  exact sS (by omega) (by omega)
 rw[Bi hU0 (by omega) (by omega),o7,hst U hU0 hUY]
 refine(iL q1 _).trans ?_
 rw[Rx]
 have hA1:(Q1+1)*Y=Q1*Y+Y:=by rw[Int.add_mul,Int.one_mul]
 rw[hA1]at q5
 obtain⟨A1,hAA⟩:∃A1,A1=Q1*Y:=⟨_,rfl⟩
 rw[←hAA]at q4 q5 ⊢
 rw[show(U*4294967296+E / 4294967296 -A1) % 18446744073709551616=U*4294967296+E / 4294967296 -A1 by omega]
 generalize hV:U*4294967296+E / 4294967296 -A1=V at*
 have hV0:0≤V:=by omega
 have hVY:V<Y:=by omega
 obtain⟨Q0,r1,r2,r3,r4,r5⟩:=JF (σ:=Int×Int) (fun q r=>(r,q)) (y1:=Y / 4294967296) (y0:=Y % 4294967296) (U:=V) (d:=E % 4294967296) (by omega) (by omega) (by omega) (by omega) hV0 (by omega) (by omega) (by omega)
  (f:=fun(x:Int×Int)=>l7 (ile 4294967296 x.2) (l7 (ile 4294967296 (x9 .u64 x.1 (Y / 4294967296))) (some (.inr (G8 .u64 x.2 1))) (some (.inl (x9 .u64 x.1 (Y / 4294967296),G8 .u64 x.2 1)))) (l7 (ilt (x9 .u64 (U6 .u64 4294967296 x.1) (E % 4294967296)) (U6 .u64 x.2 (Y % 4294967296))) (l7 (ile 4294967296 (x9 .u64 x.1 (Y / 4294967296))) (some (.inr (G8 .u64 x.2 1))) (some (.inl (x9 .u64 x.1 (Y / 4294967296),G8 .u64 x.2 1)))) (some (.inr x.2))))
  (fun q r _ _ _ _=>rfl)
 rw[hYe]at r4 r5
 rw[Bi hV0 (by omega) (by omega),o7,hst V hV0 hVY]
 refine(iL r1 _).trans ?_
 rw[Rx]
 have hA0:(Q0+1)*Y=Q0*Y+Y:=by rw[Int.add_mul,Int.one_mul]
 rw[hA0]at r5
 have hQY:(Q1*4294967296+Q0)*Y=A1*4294967296+Q0*Y:=by rw[Int.add_mul,Int.mul_right_comm,←hAA]
 generalize Q0*Y=A0 at*
 rw[show(V*4294967296+E % 4294967296 -A0) % 18446744073709551616=V*4294967296+E % 4294967296 -A0 by omega,hshrs,o7]
 rw[show U6 .u64 Q1 4294967296=Q1*4294967296 from sS (by omega) (by omega),show x9 .u64 (Q1*4294967296) Q0=Q1*4294967296+Q0 from sS (by omega) (by omega)]
 generalize hQ:Q1*4294967296+Q0=Q at*
 have hR:V*4294967296+E % 4294967296 -A0=(N -Q*y)*p:=by
  rw[Int.sub_mul,Int.mul_assoc,←hY,hQY,hN];omega
 rw[hR]
 have hge:0≤N -Q*y:=by
  rcases BJ (N -Q*y) 0 with h | h
  ·have:=Int.mul_le_mul_of_nonneg_right (show N -Q*y≤-1 by omega) (show 0≤p by omega)
   omega
  ·exact h
 have hlt:N -Q*y<y:=by
  rcases BJ (N -Q*y) y with h | h
  ·exact h
  ·have:=Int.mul_le_mul_of_nonneg_right h (show 0≤p by omega)
   omega
 have hq:N / y=Q:=by
  have e1:N=(N -Q*y)+Q*y:=by omega
  rw[e1,Int.add_mul_ediv_right _ _ (by omega),Int.ediv_eq_zero_of_lt hge hlt];omega
 have hr:N % y=N -Q*y:=by
  have:=Int.ediv_mul_add_emod N y
  rw[hq]at this;omega
 rw[hq,hr,Int.mul_ediv_cancel _ (by omega)]
def J4 (n:Int):Int:=if n<0 then -n else n
def upS (q r d:Int) (neg:Bool) (mode:Int):Bool:=l7 (ieq r 0) false (l7 (ieq mode 0) neg (l7 (ieq mode 1) (E5 neg) (l7 (ieq mode 3) true (l7 (ieq mode 4) (ile (d -r) r) (l7 (ieq mode 5) (l7 (ilt (d -r) r) true (l7 (ieq r (d -r)) (ieq (dH q 2) 1) false)) false)))))
def q1 (q:Int) (u:Bool):Int:=l7 u (q+1) q
def sg (q:Int) (neg:Bool):Int:=l7 neg (-q) q
def eH (m:Int):Bool:=l7 (ile 0 m) (ile m 5) false
theorem qE (m:Int):iw m=some (eH m):=by unfold iw eH;cases ile 0 m <;> rfl
theorem EE (m:Int):c5l m=some (eH m):=qE m
theorem Ic (m:Int):qm m=some (eH m):=qE m
def bD (n m:Int):Bool:=l7 (ilt m n) true (ilt n (-m))
theorem kD (n:Int) {m:Int} (h0:0≤m) (h:m≤9000000000000000000):dW n m=some (bD n m):=by
 unfold dW bD
 rw[H5 (by unfold I64;omega),show(0:Int) -m=-m by omega]
 cases ilt m n <;> rfl
theorem jd (n:Int) {m:Int} (h0:0≤m) (h:m≤9000000000000000000):c4u n m=some (bD n m):=kD n h0 h
theorem nG (n:Int) {m:Int} (h0:0≤m) (h:m≤9000000000000000000):lL n m=some (bD n m):=kD n h0 h
theorem lJ (n:Int) {m:Int} (h0:0≤m) (h:m≤9000000000000000000):c4w n m=some (bD n m):=kD n h0 h
theorem fP {n m:Int} (h:bD n m=false):-m≤n∧n≤m:=by
 unfold bD at h
 cases h1:ilt m n <;> rw[h1]at h
 ·rw[bF]at h1;simp only[l9]at h;rw[bF]at h;omega
 ·cases h
theorem UK {n m:Int} (h:bD n m=true):n< -m∨m<n:=by
 unfold bD at h
 cases h1:ilt m n <;> rw[h1]at h
 ·simp only[l9]at h;rw[cu]at h;omega
 ·rw[cu]at h1;omega
theorem DI {n m:Int} :bD n m=true↔n< -m∨m<n:=by
 constructor
 ·exact UK
 ·intro h
  cases hq:bD n m
  ·have:=fP hq;omega
  ·rfl
theorem AZ {n m:Int} (h:-m≤n∧n≤m):bD n m=false:=by
 cases hq:bD n m
 ·rfl
 ·have:=UK hq;omega
theorem qi {n:Int} (h:-9000000000000000000≤n) (h2:n≤9000000000000000000):dG n=some (J4 n):=by
 unfold dG J4
 by_cases h0:n<0
 ·rw[E9 h0,if_pos h0,o6]
  congr 1
  show IntKind.wrap .u64 (0 -IntKind.wrap .u64 n)=_
  rw[nO,nO];omega
 ·rw[D9 (by omega),if_neg h0,l9,show wrap .u64 n=n from sS (by omega) (by omega)]
theorem BA {n:Int} (h:-9000000000000000000≤n) (h2:n≤9000000000000000000):c4W n=some (J4 n):=by
 unfold c4W J4
 by_cases h0:n<0
 ·rw[E9 h0,if_pos h0,H5 (by unfold I64;omega)];simp
 ·rw[D9 (by omega),if_neg h0];rfl
theorem Pm {q:Int} (neg:Bool) (h0:0≤q) (h:q≤9000000000000000000):qj q neg=some (sg q neg):=by
 unfold qj sg
 rw[show wrap .i64 q=q from dB (by unfold I64;omega),H5 (by unfold I64;omega),show(0:Int) -q=-q by omega]
 cases neg <;> rfl
theorem Ij {q r d:Int} (neg:Bool) (mode:Int) (hq:0≤q) (hq2:q≤9000000000000000000) (hr:0≤r) (hrd:r<d) (hd:d≤9000000000000000000):eP q r d neg mode=some (q1 q (upS q r d neg mode)):=by
 unfold eP upS q1
 rw[show x9 .u64 q 1=q+1 from sS (by omega) (by omega),show G8 .u64 d r=d -r from sS (by omega) (by omega)]
 cases ieq r 0
 case true=>rfl
 cases ieq mode 0
 case true=>cases neg <;> rfl
 cases ieq mode 1
 case true=>cases neg <;> rfl
 cases ieq mode 3
 case true=>rfl
 cases ieq mode 4
 case true=>cases ile (d -r) r <;> rfl
 cases ieq mode 5
 ·rfl
 cases ilt (d -r) r
 case true=>rfl
 cases ieq r (d -r)
 ·rfl
 cases ieq (dH q 2) 1 <;> rfl
theorem TW {q r d:Int} (neg:Bool) (mode:Int) (hr:0≤r) (hrd:r<d) (hd:d≤9000000000000000000):rP q r d neg mode=some (upS q r d neg mode):=by
 unfold rP upS
 rw[show G8 .u64 d r=d -r from sS (by omega) (by omega)]
 cases ieq r 0
 case true=>rfl
 cases ieq mode 0
 case true=>rfl
 cases ieq mode 1
 case true=>rfl
 cases ieq mode 3
 case true=>rfl
 cases ieq mode 4
 case true=>rfl
 cases ieq mode 5
 ·rfl
 cases ilt (d -r) r
 case true=>rfl
 cases ieq r (d -r) <;> rfl
theorem sF {q r d:Int} (neg:Bool) (mode:Int) (hq:0≤q) (hq2:q≤9000000000000000000) (hr:0≤r) (hrd:r<d) (hd:d≤9000000000000000000):c4B q r d neg mode=some (sg (q1 q (upS q r d neg mode)) neg):=by
 unfold c4B upS q1 sg
 rw[I9 (show I64 (q+1) by unfold I64;omega),H5 (show I64 (d -r) by unfold I64;omega),H5 (show I64 (0 -(q+1)) by unfold I64;omega),H5 (show I64 (0 -q) by unfold I64;omega),show(0:Int) -(q+1)=-(q+1) by omega,show(0:Int) -q=-q by omega]
 by_cases hz:r=0
 ·rw[F5 hz,D9 (show r≤0 by omega),F8 (show r<d -r by omega),D9 (show r≤d -r by omega),D8 (show r≠d -r by omega)]
  cases ieq mode 0 <;> cases ieq mode 1 <;> cases ieq mode 3 <;> cases ieq mode 4 <;> cases ieq mode 5 <;> cases neg <;> rfl
 ·rw[D8 hz,E9 (show 0<r by omega)]
  cases ieq mode 0
  case true=>cases neg <;> rfl
  cases ieq mode 1
  case true=>cases neg <;> rfl
  cases ieq mode 3
  case true=>cases neg <;> rfl
  cases ieq mode 4
  case true=>cases ile (d -r) r <;> cases neg <;> rfl
  cases ieq mode 5
  ·cases neg <;> rfl
  cases ilt (d -r) r
  case true=>cases neg <;> rfl
  cases ieq r (d -r)
  ·cases neg <;> rfl
  cases ieq (dH q 2) 1 <;> cases neg <;> rfl
theorem bY (n:Int):0≤J4 n:=by unfold J4;split <;> omega
theorem mg {n m:Int} (h:-m≤n∧n≤m):J4 n≤m:=by unfold J4;split <;> omega
theorem zq {n:Int} (h:n≠0):0<J4 n:=by unfold J4;split <;> omega
def rnd (n d mode:Int):Int:=sg (q1 (J4 n / J4 d) (upS (J4 n / J4 d) (J4 n % J4 d) (J4 d) (E5 (bI (ilt n 0) (ilt d 0))) mode)) (E5 (bI (ilt n 0) (ilt d 0)))
def UU (n d mode:Int):Int×Int:=l7 (eH mode) (l7 (ieq d 0) (0,12) (l7 (bD n 4611686018427387904) (0,3) (l7 (bD d 4611686018427387904) (0,3) (rnd n d mode,0)))) (0,1)
theorem Lj (q:Int) (u:Bool):q≤q1 q u∧q1 q u≤q+1:=by unfold q1;cases u <;> simp only[o6,l9] <;> omega
theorem vC (n d mode:Int):aI n d mode=some (UU n d mode):=by
 unfold aI UU
 rw[qE,o7]
 cases eH mode
 ·rfl
 simp only[o9,l9,o6]
 cases hd:ieq d 0
 case true=>rfl
 rw[pW]at hd
 simp only[l9]
 rw[kD n (by omega) (by omega),o7]
 cases h1:bD n 4611686018427387904
 case true=>rfl
 simp only[l9]
 rw[kD d (by omega) (by omega),o7]
 cases h2:bD d 4611686018427387904
 case true=>rfl
 have b1:=fP h1
 have b2:=fP h2
 have a1:=bY n;have a2:=mg b1;have a3:=zq hd;have a4:=mg b2
 have e0:=Int.ediv_nonneg a1 (show 0≤J4 d by omega)
 have e1:=Int.ediv_le_self (J4 d) a1
 have e2:=Int.emod_nonneg (J4 n) (show J4 d≠0 by omega)
 have e3:=Int.emod_lt_of_pos (J4 n) a3
 have q:=Lj (J4 n / J4 d) (upS (J4 n / J4 d) (J4 n % J4 d) (J4 d) (E5 (bI (ilt n 0) (ilt d 0))) mode)
 simp only[l9]
 rw[qi (by omega) (by omega),o7,qi (by omega) (by omega),o7,Bi a1 (by omega) a3,o7,oQ a1 a3,o7,Ij _ _ e0 (by omega) e2 e3 (by omega),o7,Pm _ (by omega) (by omega)];rfl
theorem kG {a b:Int} (ha:0≤a) (ha' :a≤9000000000000000000) (hb:0<b):uA .i64 a b=some (a / b):=by
 unfold uA
 rw[if_neg (by omega),aU ha]
 have h1:=Int.ediv_nonneg ha (show 0≤b by omega)
 have h2:=Int.ediv_le_self b ha
 rw[dB (by unfold I64;omega)]
theorem Qp (n d mode:Int):c5a n d mode=some (UU n d mode):=by
 unfold c5a UU
 rw[EE,o7]
 cases eH mode
 ·rfl
 simp only[o9,l9,o6]
 cases hd:ieq d 0
 case true=>rfl
 rw[pW]at hd
 simp only[l9]
 rw[jd n (by omega) (by omega),o7]
 cases h1:bD n 4611686018427387904
 case true=>rfl
 simp only[l9]
 rw[jd d (by omega) (by omega),o7]
 cases h2:bD d 4611686018427387904
 case true=>rfl
 have b1:=fP h1
 have b2:=fP h2
 have a1:=bY n;have a2:=mg b1;have a3:=zq hd;have a4:=mg b2
 have e0:=Int.ediv_nonneg a1 (show 0≤J4 d by omega)
 have e1:=Int.ediv_le_self (J4 d) a1
 have e2:=Int.emod_nonneg (J4 n) (show J4 d≠0 by omega)
 have e3:=Int.emod_lt_of_pos (J4 n) a3
 simp only[l9]
 rw[BA (by omega) (by omega),o7,BA (by omega) (by omega),o7,kG a1 (by omega) a3,o7,oQ a1 a3,o7,sF _ _ e0 (by omega) e2 e3 (by omega)];rfl
def toS (c u mode:Int):Int×Int:=l7 (eH mode) (l7 (ilt u 1) (0,12) (l7 (bD c 1000000000000000) (0,3) (l7 (ilt 1000000000000000 u) (0,3) (l7 (bD (U6 .i64 (rnd c u mode) u) 1000000000000000) (0,3) (U6 .i64 (rnd c u mode) u,0))))) (0,1)
theorem VU (c u mode:Int):nC c u mode=some (toS c u mode):=by
 unfold nC toS
 rw[qE,o7]
 cases hm:eH mode
 ·rfl
 simp only[o9,l9,o6]
 cases hu:ilt u 1
 case true=>rfl
 rw[bF]at hu
 simp only[l9]
 rw[kD c (by omega) (by omega),o7]
 cases h1:bD c 1000000000000000
 case true=>rfl
 have b1:=fP h1
 simp only[l9]
 cases h2:ilt 1000000000000000 u
 case true=>rfl
 rw[bF]at h2
 simp only[l9]
 have n1:bD c 4611686018427387904=false:=AZ (by omega)
 have n2:bD u 4611686018427387904=false:=AZ (by omega)
 rw[vC,o7]
 unfold UU
 rw[hm,D8 (show u≠0 by omega),n1,n2]
 simp only[o6,l9,F5 (rfl:(0:Int)=0),o9]
 rw[kD _ (by omega) (by omega),o7]
 cases bD (U6 .i64 (rnd c u mode) u) 1000000000000000 <;> rfl
theorem TK (c u mode:Int):c5f c u mode=some (toS c u mode):=by
 unfold c5f toS
 rw[EE,o7]
 cases hm:eH mode
 ·rfl
 simp only[o9,l9,o6]
 cases hu:ilt u 1
 case true=>rfl
 rw[bF]at hu
 simp only[l9]
 rw[jd c (by omega) (by omega),o7]
 cases h1:bD c 1000000000000000
 case true=>rfl
 have b1:=fP h1
 simp only[l9]
 cases h2:ilt 1000000000000000 u
 case true=>rfl
 rw[bF]at h2
 simp only[l9]
 have a1:=bY c;have a2:=mg b1
 have hu' :J4 u=u:=by unfold J4;rw[if_neg (by omega)]
 have e0:=Int.ediv_nonneg a1 (show 0≤u by omega)
 have e1:=Int.ediv_le_self u a1
 have e2:=Int.emod_nonneg (J4 c) (show u≠0 by omega)
 have e3:=Int.emod_lt_of_pos (J4 c) (show 0<u by omega)
 rw[BA (by omega) (by omega),o7,kG a1 (by omega) (by omega),o7,oQ a1 (by omega),o7,sF _ _ e0 (by omega) e2 e3 (by omega),o7]
 have hr:sg (q1 (J4 c / u) (upS (J4 c / u) (J4 c % u) u (ilt c 0) mode)) (ilt c 0)=rnd c u mode:=by
  unfold rnd
  rw[hu',show E5 (bI (ilt c 0) (ilt u 0))=ilt c 0 by rw[D9 (show(0:Int)≤u by omega)];cases ilt c 0 <;> rfl]
 rw[hr,jd _ (by omega) (by omega),o7]
 cases bD (U6 .i64 (rnd c u mode) u) 1000000000000000 <;> rfl
def mdS (c num den mode:Int):Int×Int:=l7 (eH mode) (l7 (ieq den 0) (0,12) (l7 (bD c 1000000000000000) (0,3) (l7 (bD num 1000000000) (0,3) (l7 (bD den 1000000000) (0,3)
 (l7 (ilt 1000000000000000 (q1 (J4 c*J4 num / J4 den) (upS (J4 c*J4 num / J4 den) (J4 c*J4 num % J4 den) (J4 den) (E5 (bI (E5 (bI (ilt c 0) (ilt num 0))) (ilt den 0))) mode))) (0,3)
  (sg (q1 (J4 c*J4 num / J4 den) (upS (J4 c*J4 num / J4 den) (J4 c*J4 num % J4 den) (J4 den) (E5 (bI (E5 (bI (ilt c 0) (ilt num 0))) (ilt den 0))) mode)) (E5 (bI (E5 (bI (ilt c 0) (ilt num 0))) (ilt den 0))),0)))))) (0,1)
theorem Em {a b:Int} (a0:0≤a) (a1:a<18446744073709551616) (b0:0≤b) (b1:b<18446744073709551616):jr a b=some (a*b / 18446744073709551616,a*b % 18446744073709551616):=by
 unfold jr
 rw[if_pos ⟨a0,a1,b0,b1⟩]
theorem ZI (c num den mode:Int):tK c num den mode=some (mdS c num den mode):=by
 unfold tK mdS
 rw[qE,o7]
 cases eH mode
 ·rfl
 simp only[o9,l9,o6]
 cases hd:ieq den 0
 case true=>rfl
 rw[pW]at hd
 simp only[l9]
 rw[kD c (by omega) (by omega),o7]
 cases h1:bD c 1000000000000000
 case true=>rfl
 rw[kD num (by omega) (by omega)]
 cases h2:bD num 1000000000
 case true=>rfl
 rw[kD den (by omega) (by omega)]
 cases h3:bD den 1000000000
 case true=>rfl
 have b1:=fP h1;have b2:=fP h2;have b3:=fP h3
 have a1:=bY c;have a2:=mg b1;have x1:=bY num;have x2:=mg b2;have d1:=zq hd;have d2:=mg b3
 simp only[l9,o7,D7]
 rw[qi (by omega) (by omega),o7,qi (by omega) (by omega),o7,Em a1 (by omega) x1 (by omega),o7,qi (by omega) (by omega),o7]
 have hA:0≤J4 c*J4 num:=Int.mul_nonneg a1 x1
 generalize J4 c*J4 num=A at*
 generalize J4 den=b at*
 have hre:A / 18446744073709551616*18446744073709551616+A % 18446744073709551616=A:=by omega
 have q:=Lj (A / b) (upS (A / b) (A % b) b (E5 (bI (E5 (bI (ilt c 0) (ilt num 0))) (ilt den 0))) mode)
 have hdm:=Int.ediv_mul_add_emod A b
 have e2:=Int.emod_nonneg A (show b≠0 by omega)
 have e3:=Int.emod_lt_of_pos A d1
 have e0:=Int.ediv_nonneg hA (show 0≤b by omega)
 by_cases hh:b≤A / 18446744073709551616
 ·have hge:18446744073709551616≤A / b:=Int.le_ediv_of_mul_le d1 (by omega)
  rw[F7 hh,E9 (show(1000000000000000:Int)<q1 (A / b) (upS (A / b) (A % b) b (E5 (bI (E5 (bI (ilt c 0) (ilt num 0))) (ilt den 0))) mode) by omega)];rfl
 ·rw[F8 (by omega),l9,JH (by omega) (by omega) (by omega) (by omega) (by omega),o7,hre]
  simp only
  by_cases hM:1000000000000000<A / b
  ·rw[E9 hM,E9 (show(1000000000000000:Int)<q1 (A / b) (upS (A / b) (A % b) b (E5 (bI (E5 (bI (ilt c 0) (ilt num 0))) (ilt den 0))) mode) by omega)];rfl
  ·rw[D9 (by omega),l9,Ij _ _ e0 (by omega) e2 e3 (by omega),o7]
   cases hq:ilt 1000000000000000 (q1 (A / b) (upS (A / b) (A % b) b (E5 (bI (E5 (bI (ilt c 0) (ilt num 0))) (ilt den 0))) mode))
   ·rw[bF]at hq
    rw[l9,Pm _ (by omega) (by omega)];rfl
   ·rfl
theorem a0S {q:Int} (h:0≤q) (neg:Bool) {m:Int} (hm:0≤m):bD (sg q neg) m=ilt m q:=by
 rw[Bool.eq_iff_iff,DI,cu]
 unfold sg
 cases neg <;> simp only[o6,l9] <;> omega
theorem VQ (c num den mode:Int):c5s c num den mode=some (mdS c num den mode):=by
 unfold c5s mdS
 rw[EE,o7]
 cases eH mode
 ·rfl
 simp only[o9,l9,o6]
 cases hd:ieq den 0
 case true=>rfl
 rw[pW]at hd
 simp only[l9]
 rw[jd c (by omega) (by omega),o7]
 cases h1:bD c 1000000000000000
 case true=>rfl
 rw[jd num (by omega) (by omega)]
 cases h2:bD num 1000000000
 case true=>rfl
 rw[jd den (by omega) (by omega)]
 cases h3:bD den 1000000000
 case true=>rfl
 have b1:=fP h1;have b2:=fP h2;have b3:=fP h3
 have a1:=bY c;have a2:=mg b1;have x1:=bY num;have x2:=mg b2;have d1:=zq hd;have d2:=mg b3
 simp only[l9,o7,D7]
 rw[BA (by omega) (by omega),o7,BA (by omega) (by omega),o7,BA (by omega) (by omega),o7]
 generalize E5 (bI (E5 (bI (ilt c 0) (ilt num 0))) (ilt den 0))=neg
 generalize J4 c=a at*
 generalize J4 num=x at*
 generalize J4 den=b at*
 have hdm:=Int.ediv_mul_add_emod a b
 have f0:=Int.ediv_nonneg a1 (show 0≤b by omega)
 have f1:=Int.emod_nonneg a (show b≠0 by omega)
 have f2:=Int.emod_lt_of_pos a d1
 have m1:0≤a % b*x:=Int.mul_nonneg f1 x1
 have m2:a % b*x≤1000000000*1000000000:=Int.mul_le_mul (by omega) x2 x1 (by omega)
 have m3:0≤a / b*x:=Int.mul_nonneg f0 x1
 have hA:a*x=a / b*x*b+a % b*x:=by
  calc a*x=(a / b*b+a % b)*x:=by rw[hdm]
   _=_:=by rw[Int.add_mul,Int.mul_right_comm]
 have hQ:a*x / b=a / b*x+a % b*x / b:=by
  rw[hA,Int.add_comm,Int.add_mul_ediv_right _ _ (by omega),Int.add_comm]
 have hR:a*x % b=a % b*x % b:=by
  rw[hA,Int.add_comm,Int.add_mul_emod_self_right]
 have g0:=Int.ediv_nonneg m1 (show 0≤b by omega)
 have g1:=Int.ediv_le_self b m1
 have g2:=Int.emod_nonneg (a % b*x) (show b≠0 by omega)
 have g3:=Int.emod_lt_of_pos (a % b*x) d1
 have tail:a / b*x≤1000000000000000→(o5 (zt a b) fun(x_5:Int)=>o5 (some (a / b)) fun(x_8:Int)=>o5 (uA .i64 (U6 .i64 x_5 x) b) fun(x_6:Int)=>o5 (zt (U6 .i64 x_5 x) b) fun(x_7:Int)=>
   o5 (c4B (x9 .i64 (U6 .i64 x_8 x) x_6) x_7 b neg mode) fun(x_9:Int)=>o5 (c4u x_9 1000000000000000) fun(x_8:Bool)=>l7 x_8 (some ((0:Int),(3:Int))) (some (x_9,0)))=
   some (l7 (ilt 1000000000000000 (q1 (a*x / b) (upS (a*x / b) (a*x % b) b neg mode))) (0,3) (sg (q1 (a*x / b) (upS (a*x / b) (a*x % b) b neg mode)) neg,0)):=by
  intro hle
  have q:=Lj (a / b*x+a % b*x / b) (upS (a / b*x+a % b*x / b) (a % b*x % b) b neg mode)
  rw[oQ a1 d1,o7,o7,di (show I64 (a % b*x) by unfold I64;omega),kG m1 (by omega) d1,o7,oQ m1 d1,o7,di (show I64 (a / b*x) by unfold I64;omega),I9 (show I64 (a / b*x+a % b*x / b) by unfold I64;omega),
   sF _ _ (by omega) (by omega) g2 g3 (by omega),o7,jd _ (by omega) (by omega),o7,a0S (by omega) _ (by omega),hQ,hR]
  cases ilt 1000000000000000 (q1 (a / b*x+a % b*x / b) (upS (a / b*x+a % b*x / b) (a % b*x % b) b neg mode)) <;> rfl
 by_cases hx:0<x
 ·rw[E9 hx,o6,kG a1 (by omega) d1,o7,kG (by omega) (by omega) hx,o7]
  have hMx:=Int.ediv_mul_add_emod 1000000000000000 x
  have hMr:=Int.emod_lt_of_pos 1000000000000000 hx
  have hMr0:=Int.emod_nonneg 1000000000000000 (show x≠0 by omega)
  by_cases hc:1000000000000000 / x<a / b
  ·have:=Int.mul_le_mul_of_nonneg_right (show 1000000000000000 / x+1≤a / b by omega) x1
   rw[Int.add_mul,Int.one_mul]at this
   have q:=Lj (a*x / b) (upS (a*x / b) (a*x % b) b neg mode)
   rw[E9 hc,E9 (show(1000000000000000:Int)<q1 (a*x / b) (upS (a*x / b) (a*x % b) b neg mode) by omega)];rfl
  ·have:=Int.mul_le_mul_of_nonneg_right (show a / b≤1000000000000000 / x by omega) x1
   rw[D9 (by omega),l9]
   exact tail (by omega)
 ·have:x=0:=by omega
  rw[D9 (by omega),l9,kG a1 (by omega) d1]
  exact tail (by subst this;simp)
theorem a0L (c r mode:Int):uJ c r mode=some (mdS c r 1000000 mode):=by
 unfold uJ;rw[ZI];rfl
theorem a0i (c r mode:Int):c5p c r mode=some (mdS c r 1000000 mode):=by
 unfold c5p;rw[VQ];rfl
theorem RU {n d:Int} (h1:-9000000000000000000≤n) (h2:n≤9000000000000000000) (hd:0<d) (hd2:d≤9000000000000000000):c4X n d=some (n / d,n % d):=by
 unfold c4X uA zt
 rw[if_neg (by omega),if_neg (by omega),o7,o7]
 by_cases h0:0≤n
 ·have e0:=Int.ediv_nonneg h0 (show 0≤d by omega)
  have e1:=Int.ediv_le_self d h0
  have e2:=Int.emod_nonneg n (show d≠0 by omega)
  rw[aU h0,Int.tmod_eq_emod_of_nonneg h0,dB (by unfold I64;omega),D9 e2];rfl
 ·obtain⟨m,hm⟩:∃m,m=-n:=⟨_,rfl⟩
  have hn:n=-m:=by omega
  subst hn
  have e0:=Int.ediv_nonneg (show 0≤m by omega) (show 0≤d by omega)
  have e1:=Int.ediv_le_self d (show 0≤m by omega)
  have e2:=Int.emod_nonneg m (show d≠0 by omega)
  have e3:=Int.emod_lt_of_pos m hd
  have hdm:=Int.ediv_mul_add_emod m d
  rw[Int.neg_tdiv,Int.neg_tmod,aU (by omega),Int.tmod_eq_emod_of_nonneg (by omega),dB (by unfold I64;omega)]
  by_cases hz:m % d=0
  ·rw[hz,show -(0:Int)=0 from rfl,D9 (by omega),l9]
   have hme:-m=0+(-(m / d))*d:=by rw[Int.neg_mul];omega
   have q1:-m / d=-(m / d):=by rw[hme,Int.add_mul_ediv_right _ _ (by omega)];simp
   have q2:-m % d=0:=by rw[hme,Int.add_mul_emod_self_right];simp
   rw[q1,q2]
  ·rw[E9 (by omega),o6,H5 (by unfold I64;omega),I9 (by unfold I64;omega)]
   have hme:-m=(d -m % d)+(-(m / d) -1)*d:=by rw[Int.sub_mul,Int.neg_mul,Int.one_mul];omega
   have q1:-m / d=-(m / d) -1:=by
    rw[hme,Int.add_mul_ediv_right _ _ (by omega),Int.ediv_eq_zero_of_lt (by omega) (by omega)];omega
   have q2:-m % d=d -m % d:=by
    rw[hme,Int.add_mul_emod_self_right,Int.emod_eq_of_lt (by omega) (by omega)]
   rw[q1,q2,show -(m % d)+d=d -m % d by omega]
end Go.GP
